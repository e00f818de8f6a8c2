/- Helpers: an abstract machine for Go functions, and walks of functions of the program. -/
import Derived.Test.YtfkfimmphlpllaaGreatDoorFn05

set_option linter.all false
set_option maxHeartbeats 8000000
set_option maxRecDepth 100000
namespace Go.Am
abbrev Yx:=@List.eq_nil_or_concat
abbrev Yy:=@List.concat_eq_append
abbrev XH:=@Int.toNat_natCast
open Go.Am.Ty Go.Proofs N
theorem yI (G:List (List DV))(l:List Nat):aa Tryz.prog G 331 [rS l] (rS (N.cS l)):=by
 refine aF.jq 0 (by simp) (fun V v h=>Kc h) fun hl=>?_;refine aa.nc Tryz.func331 rfl (by rw [Tryz.ntmps331];simp) ?_;rintro⟨_,_,w0,F0,W0,_,lf,β0⟩ rfl rfl rfl;refine aaa fun K hK=>?_;refine aar rfl ?_;simp;apply hK;clear hK K;refine aaa fun K hK=>aaf ?_;refine aao (fun l'=>⟨bf [(0,rS l')],fun _=>.hole⟩) 0 (fun l'=>l'.length≤l.length∧N.cS l'=N.cS l) (fun l'=>l'.length) l (Le.slots _ (by simp [rS,AV.bY]) (by simp)) (by simp) ?_;rintro l' ⟨h0,h1⟩
 have fin:∀ (fr:Nat→AV) (κ:Nat),fr 0=rS (N.cS l)→K ⟨fr,fun _=>.hole⟩ κ:=by
  intro fr κ h;apply hK;clear hK;refine aaa fun K hK=>?_;refine aar rfl ?_;simp;apply hK;clear hK;exact aam (aq.tmp rfl 0 (by simp [h]) rfl rfl rfl)
 refine aaa fun K2 hK2=>aaa fun K3 hK3=>?_;refine aar rfl ?_;rcases Yx l' with rfl|⟨xs,x,rfl⟩
 ·simp [rS,eA,kH,vY];apply hK3;refine aaC (b:=false) (by simp) (aan ?_);simp;apply fin;simp [rS,← h1]
 ·rw [Yy] at *
  have h3:xs.length+1≤9223372036854775807:=by have:=hl.1;simp at h0;omega
  have h4:IntKind.i64.wrap ((xs.length:Int))=xs.length:=cC ⟨by simp only [zH];omega,by simp only [pF];omega⟩;have h2:(0:Int)<(xs.length:Int)+1:=by omega
  by_cases hx:x=0
  ·subst hx;simp [rS,eA,kH,vY,lQ,h2,h4];refine⟨by omega,?_⟩;apply hK3;clear hK3 K3;refine aaC (b:=true) (by simp) (aac ?_);simp;apply hK2;clear hK2 K2;refine aaf ?_;refine aar rfl ?_;simp [rS,eA,kH,vY,h2,h4];refine⟨⟨by omega,fun e he=>?_⟩,?_⟩
   ·rcases he with he|rfl
    ·exact RE _ _ he
    ·rfl
   refine⟨xs,Le.slots [(0,rS xs)] (by simp [rS,AV.bY]) (by simp),⟨by simp at h0;omega,by rw [← h1,hJ]⟩,by omega⟩
  ·have hx':¬ ((x:Int)=0):=by omega
   simp [rS,eA,kH,vY,lQ,h2,h4,hx'];refine⟨by omega,?_⟩;apply hK3;clear hK3 K3;refine aaC (b:=false) (by simp [hx]) (aan ?_);simp;apply fin;simp [rS,← h1,je hx]
end Go.Am
namespace Go.Am
open Go.Am.Ty Go.Proofs
variable {e e':List DV}{lv:Key→LB}{o:Option (List (List DV))}{T:TypeId}{P:Program}
theorem Vm (a b c d:Int):y9 Tryz.prog 20 81 (.agg [.d (.int .i64 a),.d (.int .i64 b)]) (.agg [.d (.int .i64 c),.d (.int .i64 d)])=some ((a == c) && ((b == d) && true)):=by
 kernel_rfl
theorem Us (a b c d:Int):y9 Tryz.prog 20 69 (.agg [.d (.int .i64 a),.d (.int .i64 b)]) (.agg [.d (.int .i64 c),.d (.int .i64 d)])=some ((a == c) && ((b == d) && true)):=by
 kernel_rfl
theorem TN (a c:Int)(s t s' t':List UInt8):y9 Tryz.prog 20 67 (.agg [.d (.int .i64 a),.d (.str s),.d (.str t)]) (.agg [.d (.int .i64 c),.d (.str s'),.d (.str t')])=some ((a == c) && ((s == s') && ((t == t') && true))):=by
 kernel_rfl
theorem UD (a1 a2 a3 a4 a5 a6 b1 b2 b3 b4 b5 b6:Int)(s t:List UInt8):y9 Tryz.prog 20 55 (.agg [.d (.int .i64 a1),.d (.int .i64 a2),.d (.int .i64 a3),.d (.int .i64 a4),.d (.int .i64 a5),.d (.int .i64 a6),.d (.str s)]) (.agg [.d (.int .i64 b1),.d (.int .i64 b2),.d (.int .i64 b3),.d (.int .i64 b4),.d (.int .i64 b5),.d (.int .i64 b6),.d (.str t)])=some ((a1 == b1) && ((a2 == b2) && ((a3 == b3) && ((a4 == b4) && ((a5 == b5) && ((a6 == b6) && ((s == t) && true))))))):=by
 kernel_rfl
def dL:Option (List (List DV))→CV
 | none=>.d .nilsl
 | some es=>.d (.sl es)
abbrev nt (o:Option (List (List DV))):AV:=.c (dL o)
def sO (o:Option (List (List DV))):List (List DV):=o.getD []
@[simp] theorem RQ (o:Option (List (List DV))):(AV.c (dL o)).pure=true:=by cases o <;> rfl
@[simp] theorem QC (o:Option (List (List DV))):(AV.c (dL o)).bY=true:=by cases o <;> rfl
theorem wv {V:Vw}{v:Value}(h:V.av v (nt o)):(sO o).length≤9223372036854775807:=by
 cases o with
 | none=>simp [sO]
 | some es=>
  obtain⟨h,_⟩:=h
  cases h with
  | sl b off cap sz es vs hl hc hb hm ho hr=>exact hb
theorem cE(h:(eP P T).isSome=true):eA P T lv (nt o)=some (.c (.d (.int .i64 (sO o).length)),[],[],True):=by
 obtain⟨⟨e,z⟩,h⟩:=Option.isSome_iff_exists.1 h
 cases o <;> simp [eA,nt,dL,sO,kH,h,keyOf]
theorem jf{k':IntKind}{i sz:Nat}(h:(eP P T).map (·.2)=some sz) (hi:i<(sO o).length) (hs:(sO o)[i].length=sz) :
 ak P T lv (nt o) (.c (.d (.int k' (i:Int))))=some (.c (.d (.ptr (sO o)[i])),[],[],True):=by
 obtain⟨⟨e,z⟩,h0,rfl⟩:=Option.map_eq_some_iff.1 h
 cases o with
 | none=>cases hi
 | some es=>
  have hi':i<es.length:=hi;have hs':(es[i]'hi').length=z:=hs;have e1:es.getD i []=es[i]'hi':=by rw [WO,rP hi'];rfl
  have e2:((0:Int)≤(i:Int)∧(i:Int)<(es.length:Int)∧(es.getD i []).length=z)=True:=by
   rw [e1,eq_iff_iff];exact⟨fun _=>trivial,fun _=>⟨by omega,by omega,hs'⟩⟩
  show ak P T lv (.c (.d (.sl es))) (.c (.d (.int k' (i:Int))))=some (.c (.d (.ptr (es[i]'hi'))),[],[],True);unfold ak;have h2:(Int.toNat (i:Int))=i:=XH i;simp only [h2];rw [h0];show some (AV.c (.d (.ptr (es.getD i []))),[],[],(0:Int)≤(i:Int)∧(i:Int)<(es.length:Int)∧(es.getD i []).length=z)=_;rw [e2,e1]
def S6:DV→DV→Bool
 | .int _ a,.int _ b=>a == b
 | .str s,.str t=>s == t
 | _,_=>false
def tg:List DV→List DV→Bool
 | [],[]=>true
 | a::l,b::m=>S6 a b && tg l m
 | _,_=>false
def Eb:List (List DV)→List (List DV)→Bool
 | [],[]=>true
 | a::l,b::m=>tg a b && Eb l m
 | _,_=>false
def IN (e:List DV):Prop:=∃ a b,e=[.int .i64 a,.int .i64 b]
def MI (e:List DV):Prop:=∃ a s t,e=[.int .i64 a,.str s,.str t]
def MT (e:List DV):Prop:=∃ a1 a2 a3 a4 a5 a6 s,e=[.int .i64 a1,.int .i64 a2,.int .i64 a3,.int .i64 a4,.int .i64 a5,.int .i64 a6,.str s]
theorem QM(h:IN e) (h':IN e'):y9 Tryz.prog 20 81 (.agg (e.map .d)) (.agg (e'.map .d))=some (tg e e'):=by
 obtain⟨a,b,rfl⟩:=h;obtain⟨c,d,rfl⟩:=h';exact Vm a b c d
theorem Rx(h:IN e) (h':IN e'):y9 Tryz.prog 20 69 (.agg (e.map .d)) (.agg (e'.map .d))=some (tg e e'):=by
 obtain⟨a,b,rfl⟩:=h;obtain⟨c,d,rfl⟩:=h';exact Us a b c d
theorem QX(h:MI e) (h':MI e'):y9 Tryz.prog 20 67 (.agg (e.map .d)) (.agg (e'.map .d))=some (tg e e'):=by
 obtain⟨a,s,t,rfl⟩:=h;obtain⟨c,s',t',rfl⟩:=h';exact TN a c s t s' t'
theorem Ru(h:MT e) (h':MT e'):y9 Tryz.prog 20 55 (.agg (e.map .d)) (.agg (e'.map .d))=some (tg e e'):=by
 obtain⟨a1,a2,a3,a4,a5,a6,s,rfl⟩:=h;obtain⟨b1,b2,b3,b4,b5,b6,t,rfl⟩:=h';exact UD a1 a2 a3 a4 a5 a6 b1 b2 b3 b4 b5 b6 s t
theorem Sj(h:IN e):aZ Tryz.prog 81 lv (.c (.d (.ptr e)))=some (.agg (e.map .d),[],[],True):=by
 obtain⟨a,b,rfl⟩:=h;kernel_rfl
theorem Sw(h:IN e):aZ Tryz.prog 69 lv (.c (.d (.ptr e)))=some (.agg (e.map .d),[],[],True):=by
 obtain⟨a,b,rfl⟩:=h;kernel_rfl
theorem RV(h:MI e):aZ Tryz.prog 67 lv (.c (.d (.ptr e)))=some (.agg (e.map .d),[],[],True):=by
 obtain⟨a,s,t,rfl⟩:=h;kernel_rfl
theorem Sb(h:MT e):aZ Tryz.prog 55 lv (.c (.d (.ptr e)))=some (.agg (e.map .d),[],[],True):=by
 obtain⟨a1,a2,a3,a4,a5,a6,s,rfl⟩:=h;kernel_rfl
theorem gQ(h:IN e):e.length=2:=by obtain⟨a,b,rfl⟩:=h;rfl
theorem oY(h:MI e):e.length=3:=by obtain⟨a,b,c,rfl⟩:=h;rfl
theorem o8(h:MT e):e.length=7:=by obtain⟨a1,a2,a3,a4,a5,a6,s,rfl⟩:=h;rfl
theorem nb{x y:AV}{b:Bool}(hg:Tryz.prog.eqGuardType Tryz.prog.depth T=false) (hx:∃ cs,x=.agg cs) (h:y9 Tryz.prog 20 T x y=some b):aH Tryz.prog .neq T x y=some (.c (.d (.bool (!b))),[],[],True):=by
 obtain⟨cs,rfl⟩:=hx;unfold aH;simp [hg,od,h]
end Go.Am
namespace Go.Am
open Go.Am.Ty Go.Proofs N
variable {i:Nat}{l m es:List (List DV)}{n:Int}{s:List UInt8}
theorem mixed:Tryz.prog.follows .mixedOrders=true:=by kernel_rfl
theorem gx {a b:Option (List Nat)}{G:List (List DV)}(ha:can 4294967296 (dO a)) (hb:can 4294967296 (dO b)):aa Tryz.prog G 240 [nK .u32 a,nK .u32 b] (.c (.d (.int .i64 (dG (val 4294967296 (dO a)) (val 4294967296 (dO b)))))):=by
 refine aF.jq 0 (by simp) (fun V v h=>gY h) fun hra=>?_;refine aF.jq 1 (by simp) (fun V v h=>gY h) fun hrb=>?_;refine aa.en Tryz.func240 rfl fun _=>aab ?_;refine aaa fun K hK=>aab ?_
 by_cases hl:(dO a).length=(dO b).length
 ·refine aaj (by simp [hl] <;> omega) (aac (hK _ _ (aaa fun K hK=>aak fun K1 hK1=>?_)));simp;have e1:=bG (n:=((dO a).length:Int) - 1) (by omega) (by omega);simp only [e1];apply hK1;refine aaf ?_;refine aao (fun (k:Nat)=>⟨bf [(0,nK .u32 a),(1,nK .u32 b),(5,.c (.d (.int .i64 ((k:Int) - 1))))],fun _=>.hole⟩) 0 (fun k=>k≤(dO a).length∧(dO a).drop k=(dO b).drop k) (fun k=>k) (dO a).length (Le.mk' _ rfl aX (by simp)) ⟨bg _,by rw [List.drop_length,hl,List.drop_length]⟩ ?_;rintro k ⟨h1,h2⟩;refine aaa fun K3 hK3=>aab ?_
  cases k with
  | zero=>
   refine aag (aan (hK _ _ (aab ?_)));simp only [fQ] at h2;exact aad (aq.rt rfl 0 (by simp [mo (congrArg (val 4294967296) h2)]))
  | succ k=>
   have h3:k<(dO b).length:=by omega
   have h4:k<(dO a).length:=by omega
   have e2:((k+1:Nat):Int) - 1=k:=by omega
   simp only [e2];refine aah (aac (hK3 _ _ (aaa fun K5 hK5=>aaf (aaa fun K6 hK6=>?_))));refine aaw mixed (by kernel_rfl) rfl rfl ?_;simp [h3,h4];apply hK6
   by_cases hd:(dO a)[k]=(dO b)[k]
   ·refine aaj (by simp [hd] <;> omega) (aac (hK5 _ _ (aae ?_)));simp;have e3:=bG (n:=(k:Int) - 1) (by omega) (by omega);simp [e3];refine⟨k,Le.mk' _ (by simp) (by simp) (by simp [e3]),⟨by omega,?_⟩,by omega⟩;rw [XG h4,XG h3,hd,h2]
   ·refine aai (by simp [hd] <;> omega) (aaa fun K6 hK6=>aaa fun K7 hK7=>?_);refine aaw mixed (by kernel_rfl) rfl rfl ?_;simp [h3,h4];apply hK7
    by_cases hlt:(dO a)[k]<(dO b)[k]
    ·refine aai (by simp [hlt] <;> omega) (aab ?_);have:=oQ ha.1 h4 h3 h2 hlt;exact aad (aq.rt rfl 0 (by simp [jh this]))
    ·refine aaj (by simp [hlt] <;> omega) (aac (hK6 _ _ (aab ?_)));have:=oQ hb.1 h3 h4 h2.symm (by omega);exact aad (aq.rt rfl 0 (by simp [jI this]))
 ·refine aai (by simp [hl] <;> omega) (aaa fun K2 hK2=>aab ?_)
  by_cases hlt:(dO a).length<(dO b).length
  ·refine aai (by simp [hlt] <;> omega) (aab ?_);exact aad (aq.rt rfl 0 (by simp [jh (j6 (by omega) ha hb hlt)]))
  ·refine aaj (by simp [hlt] <;> omega) (aac (hK2 _ _ (aab ?_)));exact aad (aq.rt rfl 0 (by simp [jI (j6 (by omega) hb ha (by omega))]))
theorem mK:∀ {l m:List (List DV)},Eb l m=true↔∃ h:l.length=m.length,∀ i (hi:i<l.length),tg l[i] (m[i]'(h ▸ hi))=true
 | [],[]=>by simp [Eb]
 | [],b::m=>by simp [Eb]
 | a::l,[]=>by simp [Eb]
 | a::l,b::m=>by
  simp only [Eb,cn,mK (l:=l) (m:=m)];constructor
  ·rintro⟨h1,h2,h3⟩;refine⟨by simp [h2],fun i hi=>?_⟩
   cases i with
   | zero=>exact h1
   | succ i=>exact h3 i (by simpa using hi)
  ·rintro⟨h1,h2⟩;refine⟨h2 0 (by simp),by simpa using h1,fun i hi=>?_⟩;exact h2 (i+1) (by simpa using hi)
theorem mB(h:l.length≠m.length):Eb l m=false:=by
 cases e:Eb l m with
 | false=>rfl
 | true=>exact absurd (mK.1 e).1 h
theorem pe(hi:i<l.length) (hm:i<m.length) (h:tg l[i] m[i]=false):Eb l m=false:=by
 cases e:Eb l m with
 | false=>rfl
 | true=>have:=(mK.1 e).2 i hi;rw [h] at this;cases this
structure PD where
 f:Option (List (List DV))
 mode:Int
 ins:Option (List (List DV))
 nodes:Option (List (List DV))
 head:Int
 tail:Int
 states:Option (List (List DV))
 res:Int
@[simp] def PD.cs (p:PD):List CV:=[dL p.f,.d (.int .i64 p.mode),dL p.ins,dL p.nodes,.d (.int .i64 p.head),.d (.int .i64 p.tail),dL p.states,.d (.int .i64 p.res)]
abbrev PD.A (p:PD):AV:=.agg p.cs
structure PD.ok (p:PD):Prop where
 f:∀ e∈sO p.f,IN e
 ins:∀ e∈sO p.ins,MI e
 nodes:∀ e∈sO p.nodes,MT e
 states:∀ e∈sO p.states,IN e
def Ho:DV→Int
 | .str s=>s.length
 | _=>0
def Qs (es:List (List DV)):Nat→Int
 | 0=>0
 | i+1=>IntKind.i64.wrap (IntKind.i64.wrap (Qs es i+Ho ((es.getD i []).getD 1 .nilp))+Ho ((es.getD i []).getD 2 .nilp))
def Qg (n:Int)(es:List (List DV)):Nat→Int
 | 0=>n
 | i+1=>IntKind.i64.wrap (Qg n es i+Ho ((es.getD i []).getD 6 .nilp))
theorem LQ{a:Int}{t:List UInt8}(hn:n=Qs es i) (hi:i<es.length) (he:es[i]=[.int .i64 a,.str s,.str t]) :
 IntKind.i64.wrap (IntKind.i64.wrap (n+s.length)+t.length)=Qs es (i+1):=by
 have e6:es.getD i []=[.int .i64 a,.str s,.str t]:=by rw [WO,rP hi,he];rfl
 have e7:Ho (List.getD [DV.int .i64 a,.str s,.str t] 1 .nilp)=s.length:=rfl;have e8:Ho (List.getD [DV.int .i64 a,.str s,.str t] 2 .nilp)=t.length:=rfl;rw [Qs,e6,e7,e8,hn]
theorem I1 {n0:Int}{a1 a2 a3 a4 a5 a6:Int}(hn:n=Qg n0 es i) (hi:i<es.length) (he:es[i]=[.int .i64 a1,.int .i64 a2,.int .i64 a3,.int .i64 a4,.int .i64 a5,.int .i64 a6,.str s]) :
 IntKind.i64.wrap (n+s.length)=Qg n0 es (i+1):=by
 have e6:es.getD i []=[.int .i64 a1,.int .i64 a2,.int .i64 a3,.int .i64 a4,.int .i64 a5,.int .i64 a6,.str s]:=by rw [WO,rP hi,he];rfl
 have e7:Ho (List.getD [DV.int .i64 a1,.int .i64 a2,.int .i64 a3,.int .i64 a4,.int .i64 a5,.int .i64 a6,.str s] 6 .nilp)=s.length:=rfl;rw [Qg,e6,e7,hn]
def nZ (p:PD):Bool:=decide (100<(sO p.f).length) || decide (100<(sO p.ins).length) || decide (100<(sO p.nodes).length) || decide (100<(sO p.states).length) ||
 decide (2000<Qg (Qs (sO p.ins) (sO p.ins).length) (sO p.nodes) (sO p.nodes).length)
theorem PD.RH {V:Vw}{v:Value}{p:PD}(h:V.av v p.A):(sO p.f).length≤9223372036854775807∧(sO p.ins).length≤9223372036854775807∧(sO p.nodes).length≤9223372036854775807∧(sO p.states).length≤9223372036854775807:=by
 obtain⟨arr,rfl,hs,hc⟩:=h;have hs8:arr.size=8:=hs;exact⟨wv (hc 0 (by simp) (by omega)),wv (hc 2 (by simp) (by omega)),wv (hc 3 (by simp) (by omega)),wv (hc 6 (by simp) (by omega))⟩
theorem Kp (G:List (List DV))(p:PD)(hp:p.ok):aa Tryz.prog G 16 [p.A] (.c (.d (.bool (nZ p)))):=by
 refine aF.jq 0 (by simp) (fun V v h=>PD.RH h) fun hr=>?_;obtain⟨hr0,hr2,hr3,hr6⟩:=hr;have lp0:∀ (lv:Key→LB) (o:Option (List (List DV))),eA Tryz.prog 22 lv (nt o)=some (.c (.d (.int .i64 (sO o).length)),[],[],True):=fun lv o=>cE (by simp)
 have lp2:∀ (lv:Key→LB) (o:Option (List (List DV))),eA Tryz.prog 23 lv (nt o)=some (.c (.d (.int .i64 (sO o).length)),[],[],True):=fun lv o=>cE (by simp)
 have lp3:∀ (lv:Key→LB) (o:Option (List (List DV))),eA Tryz.prog 24 lv (nt o)=some (.c (.d (.int .i64 (sO o).length)),[],[],True):=fun lv o=>cE (by simp)
 have lp6:∀ (lv:Key→LB) (o:Option (List (List DV))),eA Tryz.prog 25 lv (nt o)=some (.c (.d (.int .i64 (sO o).length)),[],[],True):=fun lv o=>cE (by simp)
 refine aa.en Tryz.func16 rfl fun _=>aab ?_;refine aaa fun K hK=>aaa fun K1 hK1=>?_
 by_cases h0:100<(sO p.f).length
 ·have i0:(100:Int)<((sO p.f).length:Int):=by omega
  refine aau lp0 i0 (hK1 _ _ ?_);refine aah (aab ?_);exact aad (aq.rt rfl 2 (by simp [nZ,h0]))
 have i0:¬ (100:Int)<((sO p.f).length:Int):=by omega
 by_cases h2:100<(sO p.ins).length
 ·have i2:(100:Int)<((sO p.ins).length:Int):=by omega
  refine aaE lp0 lp2 i0 i2 (hK1 _ _ ?_);refine aah (aab ?_);exact aad (aq.rt rfl 2 (by simp [nZ,h2]))
 have i2:¬ (100:Int)<((sO p.ins).length:Int):=by omega
 by_cases h3:100<(sO p.nodes).length
 ·have i3:(100:Int)<((sO p.nodes).length:Int):=by omega
  refine aae ?_;simp [lp0,lp2,lp3,i0,i2,i3];apply hK1;refine aah (aab ?_);exact aad (aq.rt rfl 2 (by simp [nZ,h3]))
 have i3:¬ (100:Int)<((sO p.nodes).length:Int):=by omega
 by_cases h6:100<(sO p.states).length
 ·have i6:(100:Int)<((sO p.states).length:Int):=by omega
  refine aae ?_;simp [lp0,lp2,lp3,lp6,i0,i2,i3,i6];apply hK1;refine aah (aab ?_);exact aad (aq.rt rfl 2 (by simp [nZ,h6]))
 have i6:¬ (100:Int)<((sO p.states).length:Int):=by omega
 refine aae ?_;simp [lp0,lp2,lp3,lp6,i0,i2,i3,i6];apply hK1;refine aag (aac (hK _ _ (aab ?_)));refine aaa fun K hK=>aab ?_;refine aaf ?_
 refine aao (fun (q:Nat × Int)=>⟨bf [(1,.c (.ptr 0 0)),(3,.c (.d (.int .i64 q.2))),(4,.c (.d (.int .i64 q.1)))],aC (fun _=>.hole) 0 (.cells true false 27 p.cs)⟩) 1
  (fun q=>q.1≤(sO p.ins).length∧q.2=Qs (sO p.ins) q.1) (fun q=>(sO p.ins).length - q.1) (0,0) (Le.mk' _ (by simp) (by simp) (by simp)) ⟨by simp,rfl⟩ ?_
 rintro⟨i,n⟩ ⟨hi,hn⟩;simp only at hi hn;refine aaa fun K3 hK3=>aal lp2 ?_
 by_cases hi2:i<(sO p.ins).length
 ·refine aai (by simp [hi2] <;> omega) (aac (hK3 _ _ ?_));obtain⟨a,s,t,he⟩:=hp.ins _ (aW hi2)
  have hx:∀ lv:Key→LB,ak Tryz.prog 23 lv (nt p.ins) (.c (.d (.int .i64 (i:Int))))=some (.c (.d (.ptr [.int .i64 a,.str s,.str t])),[],[],True):=fun lv=>by
   rw [jf (sz:=3) (by simp) hi2 (by rw [he];rfl),he]
  refine aaa fun K5 hK5=>aaf ?_;refine aaw mixed (by kernel_rfl) rfl rfl ?_;simp [hx];apply hK5;have e3:=bG (n:=(i:Int)+1) (by omega) (by omega);refine aae ?_;simp [e3];refine⟨i+1,IntKind.i64.wrap (IntKind.i64.wrap (n+s.length)+t.length),Le.mk' _ (by simp) (by simp) (by simp),⟨by omega,?_⟩,by omega⟩;exact LQ hn hi2 he
 ·refine aaj (by simp [hi2] <;> omega) (aan (hK _ _ ?_));have hii:i=(sO p.ins).length:=by omega
  subst hii;refine aaa fun K hK=>aab ?_;refine aaf ?_
  refine aao (fun (q:Nat × Int)=>⟨bf [(1,.c (.ptr 0 0)),(3,.c (.d (.int .i64 q.2))),(5,.c (.d (.int .i64 q.1)))],aC (fun _=>.hole) 0 (.cells true false 27 p.cs)⟩) 1
   (fun q=>q.1≤(sO p.nodes).length∧q.2=Qg n (sO p.nodes) q.1) (fun q=>(sO p.nodes).length - q.1) (0,n) (Le.mk' _ (by simp) (by simp) (by simp)) ⟨by simp,rfl⟩ ?_
  rintro⟨i,n'⟩ ⟨hi,hn'⟩;simp only at hi hn';refine aaa fun K3 hK3=>aal lp3 ?_
  by_cases hi3:i<(sO p.nodes).length
  ·refine aai (by simp [hi3] <;> omega) (aac (hK3 _ _ ?_));obtain⟨a1,a2,a3,a4,a5,a6,s,he⟩:=hp.nodes _ (aW hi3)
   have hx:∀ lv:Key→LB,ak Tryz.prog 24 lv (nt p.nodes) (.c (.d (.int .i64 (i:Int))))=some (.c (.d (.ptr [.int .i64 a1,.int .i64 a2,.int .i64 a3,.int .i64 a4,.int .i64 a5,.int .i64 a6,.str s])),[],[],True):=fun lv=>by
    rw [jf (sz:=7) (by simp) hi3 (by rw [he];rfl),he]
   refine aaa fun K5 hK5=>aaf (aat hx (hK5 _ _ ?_))
   have e3:=bG (n:=(i:Int)+1) (by omega) (by omega);refine aae ?_;simp [e3];refine⟨i+1,IntKind.i64.wrap (n'+s.length),Le.mk' _ (by simp) (by simp) (by simp),⟨by omega,?_⟩,by omega⟩;exact I1 hn' hi3 he
  ·refine aaj (by simp [hi3] <;> omega) (aan (hK _ _ ?_));have hii:i=(sO p.nodes).length:=by omega
   subst hii;refine aab ?_
   have hb:nZ p=decide (2000<n'):=by
    simp [nZ,h0,h2,h3,h6,hn',hn]
   exact aad (aq.rt rfl 2 (by simp [hb]))
end Go.Am
