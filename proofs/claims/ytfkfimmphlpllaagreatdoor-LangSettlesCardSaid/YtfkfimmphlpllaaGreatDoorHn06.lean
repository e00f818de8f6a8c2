/- Helpers: an abstract machine for Go functions, and walks of functions of the program. -/
import Derived.Test.YtfkfimmphlpllaaGreatDoorHn05

set_option linter.all false
set_option maxHeartbeats 8000000
set_option maxRecDepth 100000
namespace Go.Am
abbrev Y1:=@Int.toNat_natCast
open Go.Am.Ty Go.Proofs N
theorem zu (G:List (List DV))(l:List Nat):aa Tryz.prog G 331 [rU l] (rU (N.fF l)):=by
 refine aG.iL 0 (by simp) (fun V v h=>KN h) fun hl=>?_;refine aa.ny Tryz.func331 rfl (by rw [Tryz.ntmps331];simp) ?_;rintro⟨_,_,w0,F0,W0,_,js,β0⟩ rfl rfl rfl;refine aaa fun K hK=>?_;refine aao rfl ?_;simp;apply hK;clear hK K;refine aaa fun K hK=>aag ?_;refine aap (fun l'=>⟨bq [(0,rU l')],fun _=>.hole⟩) 0 (fun l'=>l'.length≤l.length∧N.fF l'=N.fF l) (fun l'=>l'.length) l (Le.slots _ (by simp [rU,AV.bu]) (by simp)) (by simp) ?_;rintro l' ⟨h0,h1⟩
 have fin:∀ (fr:Nat→AV) (κ:Nat),fr 0=rU (N.fF l)→K ⟨fr,fun _=>.hole⟩ κ:=by
  intro fr κ h;apply hK;clear hK;refine aaa fun K hK=>?_;refine aao rfl ?_;simp;apply hK;clear hK;exact aam (aH.tmp rfl 0 (by simp [h]) rfl rfl rfl)
 refine aaa fun K2 hK2=>aaa fun K3 hK3=>?_;refine aao rfl ?_;rcases List.eq_nil_or_concat l' with rfl|⟨xs,x,rfl⟩
 ·simp [rU,dW,lF,wW];apply hK3;refine aay (b:=false) (by simp) (aan ?_);simp;apply fin;simp [rU,← h1]
 ·rw [List.concat_eq_append] at *
  have h3:xs.length+1≤9223372036854775807:=by have:=hl.1;simp at h0;omega
  have h4:IntKind.i64.wrap ((xs.length:Int))=xs.length:=c9 ⟨by simp only [CF];omega,by simp only [qd];omega⟩;have h2:(0:Int)<(xs.length:Int)+1:=by omega
  by_cases hx:x=0
  ·subst hx;simp [rU,dW,lF,wW,l6,h2,h4];refine⟨by omega,?_⟩;apply hK3;clear hK3 K3;refine aay (b:=true) (by simp) (aac ?_);simp;apply hK2;clear hK2 K2;refine aag ?_;refine aao rfl ?_;simp [rU,dW,lF,wW,h2,h4];refine⟨⟨by omega,fun e he=>?_⟩,?_⟩
   ·rcases he with he|rfl
    ·exact Tt _ _ he
    ·rfl
   refine⟨xs,Le.slots [(0,rU xs)] (by simp [rU,AV.bu]) (by simp),⟨by simp at h0;omega,by rw [← h1,jt]⟩,by omega⟩
  ·have hx':¬ ((x:Int)=0):=by omega
   simp [rU,dW,lF,wW,l6,h2,h4,hx'];refine⟨by omega,?_⟩;apply hK3;clear hK3 K3;refine aay (b:=false) (by simp [hx]) (aan ?_);simp;apply fin;simp [rU,← h1,kf hx]
end Go.Am
namespace Go.Am
open Go.Am.Ty Go.Proofs
variable {e e':List DV}{lv:Key→LB}{o:Option (List (List DV))}{T:TypeId}{P:Program}
theorem WJ (a b c d:Int):zl Tryz.prog 20 81 (.agg [.d (.int .i64 a),.d (.int .i64 b)]) (.agg [.d (.int .i64 c),.d (.int .i64 d)])=some ((a == c) && ((b == d) && true)):=by
 kernel_rfl
theorem U1 (a b c d:Int):zl Tryz.prog 20 69 (.agg [.d (.int .i64 a),.d (.int .i64 b)]) (.agg [.d (.int .i64 c),.d (.int .i64 d)])=some ((a == c) && ((b == d) && true)):=by
 kernel_rfl
theorem WC (a c:Int)(s t s' t':List UInt8):zl Tryz.prog 20 67 (.agg [.d (.int .i64 a),.d (.str s),.d (.str t)]) (.agg [.d (.int .i64 c),.d (.str s'),.d (.str t')])=some ((a == c) && ((s == s') && ((t == t') && true))):=by
 kernel_rfl
theorem VC (a1 a2 a3 a4 a5 a6 b1 b2 b3 b4 b5 b6:Int)(s t:List UInt8):zl Tryz.prog 20 55 (.agg [.d (.int .i64 a1),.d (.int .i64 a2),.d (.int .i64 a3),.d (.int .i64 a4),.d (.int .i64 a5),.d (.int .i64 a6),.d (.str s)]) (.agg [.d (.int .i64 b1),.d (.int .i64 b2),.d (.int .i64 b3),.d (.int .i64 b4),.d (.int .i64 b5),.d (.int .i64 b6),.d (.str t)])=some ((a1 == b1) && ((a2 == b2) && ((a3 == b3) && ((a4 == b4) && ((a5 == b5) && ((a6 == b6) && ((s == t) && true))))))):=by
 kernel_rfl
def fC:Option (List (List DV))→CV
 | none=>.d .nilsl
 | some es=>.d (.sl es)
abbrev n7 (o:Option (List (List DV))):AV:=.c (fC o)
def sO (o:Option (List (List DV))):List (List DV):=o.getD []
@[simp] theorem Te (o:Option (List (List DV))):(AV.c (fC o)).pure=true:=by cases o <;> rfl
@[simp] theorem RE (o:Option (List (List DV))):(AV.c (fC o)).bu=true:=by cases o <;> rfl
theorem gV {V:Vw}{v:Value}(h:V.av v (n7 o)):(sO o).length≤9223372036854775807:=by
 cases o with
 | none=>simp [sO]
 | some es=>
  obtain⟨h,_⟩:=h
  cases h with
  | sl b off cap sz es vs hl hc hb hm ho hr=>exact hb
theorem cL(h:(ff P T).isSome=true):dW P T lv (n7 o)=some (.c (.d (.int .i64 (sO o).length)),[],[],True):=by
 obtain⟨⟨e,z⟩,h⟩:=Option.isSome_iff_exists.1 h
 cases o <;> simp [dW,n7,fC,sO,lF,h,keyOf]
theorem iY{k':IntKind}{i sz:Nat}(h:(ff P T).map (·.2)=some sz) (hi:i<(sO o).length) (hs:(sO o)[i].length=sz) :
 aq P T lv (n7 o) (.c (.d (.int k' (i:Int))))=some (.c (.d (.ptr (sO o)[i])),[],[],True):=by
 obtain⟨⟨e,z⟩,h0,rfl⟩:=Option.map_eq_some_iff.1 h
 cases o with
 | none=>cases hi
 | some es=>
  have hi':i<es.length:=hi;have hs':(es[i]'hi').length=z:=hs;have e1:es.getD i []=es[i]'hi':=by rw [hJ,cn hi'];rfl
  have e2:((0:Int)≤(i:Int)∧(i:Int)<(es.length:Int)∧(es.getD i []).length=z)=True:=by
   rw [e1,eq_iff_iff];exact⟨fun _=>trivial,fun _=>⟨by omega,by omega,hs'⟩⟩
  show aq P T lv (.c (.d (.sl es))) (.c (.d (.int k' (i:Int))))=some (.c (.d (.ptr (es[i]'hi'))),[],[],True);unfold aq;have h2:(Int.toNat (i:Int))=i:=Y1 i;simp only [h2];rw [h0];show some (AV.c (.d (.ptr (es.getD i []))),[],[],(0:Int)≤(i:Int)∧(i:Int)<(es.length:Int)∧(es.getD i []).length=z)=_;rw [e2,e1]
def RQ:DV→DV→Bool
 | .int _ a,.int _ b=>a == b
 | .str s,.str t=>s == t
 | _,_=>false
def qW:List DV→List DV→Bool
 | [],[]=>true
 | a::l,b::m=>RQ a b && qW l m
 | _,_=>false
def xx:List (List DV)→List (List DV)→Bool
 | [],[]=>true
 | a::l,b::m=>qW a b && xx l m
 | _,_=>false
def D2 (e:List DV):Prop:=∃ a b,e=[.int .i64 a,.int .i64 b]
def MD (e:List DV):Prop:=∃ a s t,e=[.int .i64 a,.str s,.str t]
def I2 (e:List DV):Prop:=∃ a1 a2 a3 a4 a5 a6 s,e=[.int .i64 a1,.int .i64 a2,.int .i64 a3,.int .i64 a4,.int .i64 a5,.int .i64 a6,.str s]
theorem Tz(h:D2 e) (h':D2 e'):zl Tryz.prog 20 81 (.agg (e.map .d)) (.agg (e'.map .d))=some (qW e e'):=by
 obtain⟨a,b,rfl⟩:=h;obtain⟨c,d,rfl⟩:=h';exact WJ a b c d
theorem RX(h:D2 e) (h':D2 e'):zl Tryz.prog 20 69 (.agg (e.map .d)) (.agg (e'.map .d))=some (qW e e'):=by
 obtain⟨a,b,rfl⟩:=h;obtain⟨c,d,rfl⟩:=h';exact U1 a b c d
theorem S1(h:MD e) (h':MD e'):zl Tryz.prog 20 67 (.agg (e.map .d)) (.agg (e'.map .d))=some (qW e e'):=by
 obtain⟨a,s,t,rfl⟩:=h;obtain⟨c,s',t',rfl⟩:=h';exact WC a c s t s' t'
theorem Pg(h:I2 e) (h':I2 e'):zl Tryz.prog 20 55 (.agg (e.map .d)) (.agg (e'.map .d))=some (qW e e'):=by
 obtain⟨a1,a2,a3,a4,a5,a6,s,rfl⟩:=h;obtain⟨b1,b2,b3,b4,b5,b6,t,rfl⟩:=h';exact VC a1 a2 a3 a4 a5 a6 b1 b2 b3 b4 b5 b6 s t
theorem TH(h:D2 e):cx Tryz.prog 81 lv (.c (.d (.ptr e)))=some (.agg (e.map .d),[],[],True):=by
 obtain⟨a,b,rfl⟩:=h;kernel_rfl
theorem RZ(h:D2 e):cx Tryz.prog 69 lv (.c (.d (.ptr e)))=some (.agg (e.map .d),[],[],True):=by
 obtain⟨a,b,rfl⟩:=h;kernel_rfl
theorem S0(h:MD e):cx Tryz.prog 67 lv (.c (.d (.ptr e)))=some (.agg (e.map .d),[],[],True):=by
 obtain⟨a,s,t,rfl⟩:=h;kernel_rfl
theorem R2(h:I2 e):cx Tryz.prog 55 lv (.c (.d (.ptr e)))=some (.agg (e.map .d),[],[],True):=by
 obtain⟨a1,a2,a3,a4,a5,a6,s,rfl⟩:=h;kernel_rfl
theorem m4(h:D2 e):e.length=2:=by obtain⟨a,b,rfl⟩:=h;rfl
theorem wF(h:MD e):e.length=3:=by obtain⟨a,b,c,rfl⟩:=h;rfl
theorem tj(h:I2 e):e.length=7:=by obtain⟨a1,a2,a3,a4,a5,a6,s,rfl⟩:=h;rfl
theorem nb{x y:AV}{b:Bool}(hg:Tryz.prog.eqGuardType Tryz.prog.depth T=false) (hx:∃ cs,x=.agg cs) (h:zl Tryz.prog 20 T x y=some b):aJ Tryz.prog .neq T x y=some (.c (.d (.bool (!b))),[],[],True):=by
 obtain⟨cs,rfl⟩:=hx;unfold aJ;simp [hg,m8,h]
end Go.Am
namespace Go.Am
open Go.Am.Ty Go.Proofs N
variable {i:Nat}{l m es:List (List DV)}{n:Int}{s:List UInt8}
theorem mixed:Tryz.prog.follows .mixedOrders=true:=by kernel_rfl
theorem gu {a b:Option (List Nat)}{G:List (List DV)}(ha:can 4294967296 (dO a)) (hb:can 4294967296 (dO b)):aa Tryz.prog G 240 [nK .u32 a,nK .u32 b] (.c (.d (.int .i64 (kK (val 4294967296 (dO a)) (val 4294967296 (dO b)))))):=by
 refine aG.iL 0 (by simp) (fun V v h=>jb h) fun hra=>?_;refine aG.iL 1 (by simp) (fun V v h=>jb h) fun hrb=>?_;refine aa.en Tryz.func240 rfl fun _=>aab ?_;refine aaa fun K hK=>aab ?_
 by_cases hl:(dO a).length=(dO b).length
 ·refine aah (by simp [hl] <;> omega) (aac (hK _ _ (aaa fun K hK=>aai fun K1 hK1=>?_)));simp;have e1:=dF (n:=((dO a).length:Int) - 1) (by omega) (by omega);simp only [e1]
  repeat refine ah ?_
  apply hK1;refine aag ?_;refine aap (fun (k:Nat)=>⟨bq [(0,nK .u32 a),(1,nK .u32 b),(5,.c (.d (.int .i64 ((k:Int) - 1))))],fun _=>.hole⟩) 0 (fun k=>k≤(dO a).length∧(dO a).drop k=(dO b).drop k) (fun k=>k) (dO a).length (Le.mk' _ rfl qi (by simp)) ⟨aW _,by rw [List.drop_length,hl,List.drop_length]⟩ ?_;rintro k ⟨h1,h2⟩;refine aaa fun K3 hK3=>aab ?_
  cases k with
  | zero=>
   refine aaj (aan (hK _ _ (aab ?_)));simp only [YV] at h2;exact aad (aH.rt rfl 0 (by simp [Ni (congrArg (val 4294967296) h2)]))
  | succ k=>
   have h3:k<(dO b).length:=by omega
   have h4:k<(dO a).length:=by omega
   have e2:((k+1:Nat):Int) - 1=k:=by omega
   simp only [e2];refine aak (aac (hK3 _ _ (aaa fun K5 hK5=>aag (aaa fun K6 hK6=>?_))));refine aau mixed (by kernel_rfl) rfl rfl ?_;simp [h3,h4]
   repeat refine ah ?_
   apply hK6
   by_cases hd:(dO a)[k]=(dO b)[k]
   ·refine aah (by simp [hd] <;> omega) (aac (hK5 _ _ (aae ?_)));simp;have e3:=dF (n:=(k:Int) - 1) (by omega) (by omega);simp [e3];refine⟨k,Le.mk' _ (by simp) (by simp) (by simp [e3]),⟨by omega,?_⟩,by omega⟩;rw [ZR h4,ZR h3,hd,h2]
   ·refine aaf (by simp [hd] <;> omega) (aaa fun K6 hK6=>aaa fun K7 hK7=>?_);refine aau mixed (by kernel_rfl) rfl rfl ?_;simp [h3,h4]
    repeat refine ah ?_
    apply hK7
    by_cases hlt:(dO a)[k]<(dO b)[k]
    ·refine aaf (by simp [hlt] <;> omega) (aab ?_);have:=AG ha.1 h4 h3 h2 hlt;exact aad (aH.rt rfl 0 (by simp [Br this]))
    ·refine aah (by simp [hlt] <;> omega) (aac (hK6 _ _ (aab ?_)));have:=AG hb.1 h3 h4 h2.symm (by omega);exact aad (aH.rt rfl 0 (by simp [Hp this]))
 ·refine aaf (by simp [hl] <;> omega) (aaa fun K2 hK2=>aab ?_)
  by_cases hlt:(dO a).length<(dO b).length
  ·refine aaf (by simp [hlt] <;> omega) (aab ?_);exact aad (aH.rt rfl 0 (by simp [Br (qM (by omega) ha hb hlt)]))
  ·refine aah (by simp [hlt] <;> omega) (aac (hK2 _ _ (aab ?_)));exact aad (aH.rt rfl 0 (by simp [Hp (qM (by omega) hb ha (by omega))]))
theorem m6:∀ {l m:List (List DV)},xx l m=true↔∃ h:l.length=m.length,∀ i (hi:i<l.length),qW l[i] (m[i]'(h ▸ hi))=true
 | [],[]=>by simp [xx]
 | [],b::m=>by simp [xx]
 | a::l,[]=>by simp [xx]
 | a::l,b::m=>by
  simp only [xx,cy,m6 (l:=l) (m:=m)];constructor
  ·rintro⟨h1,h2,h3⟩;refine⟨by simp [h2],fun i hi=>?_⟩
   cases i with
   | zero=>exact h1
   | succ i=>exact h3 i (by simpa using hi)
  ·rintro⟨h1,h2⟩;refine⟨h2 0 (by simp),by simpa using h1,fun i hi=>?_⟩;exact h2 (i+1) (by simpa using hi)
theorem mN(h:l.length≠m.length):xx l m=false:=by
 cases e:xx l m with
 | false=>rfl
 | true=>exact absurd (m6.1 e).1 h
theorem pH(hi:i<l.length) (hm:i<m.length) (h:qW l[i] m[i]=false):xx l m=false:=by
 cases e:xx l m with
 | false=>rfl
 | true=>have:=(m6.1 e).2 i hi;rw [h] at this;cases this
theorem Dy (G:List (List DV))(o o':Option (List (List DV)))(h:∀ e∈sO o,D2 e)(h':∀ e∈sO o',D2 e):aa Tryz.prog G 100 [n7 o,n7 o'] (.c (.d (.bool (xx (sO o) (sO o'))))):=by
 refine aG.iL 0 (by simp) (fun V v h=>gV h) fun hr=>?_;refine aG.iL 1 (by simp) (fun V v h=>gV h) fun hr'=>?_;have lp:∀ (lv:Key→LB) (o:Option (List (List DV))),dW Tryz.prog 22 lv (n7 o)=some (.c (.d (.int .i64 (sO o).length)),[],[],True):=fun lv o=>cL (by simp)
 refine aa.en Tryz.func100 rfl fun _=>aab ?_;refine aaa fun K hK=>aal lp ?_
 by_cases hl:(sO o).length=(sO o').length
 ·refine aah (by simp [hl] <;> omega) (aac (hK _ _ (aaa fun K hK=>aal lp ?_)));refine aag ?_
  refine aap (fun (i:Nat)=>⟨bq [(0,n7 o),(1,n7 o'),(12,.c (.d (.int .i64 (sO o).length))),(13,.c (.d (.int .i64 i)))],fun _=>.hole⟩) 0
   (fun i=>i≤(sO o).length∧∀ j (hj:j<i) (h1:j<(sO o).length) (h2:j<(sO o').length),qW (sO o)[j] (sO o')[j]=true)
   (fun i=>(sO o).length - i) 0 (Le.mk' _ rfl (by intro k own es h;cases h) (by simp)) (by simp) ?_
  rintro i ⟨hi,hall⟩;refine aab ?_
  by_cases hi2:i<(sO o).length
  ·have hi3:i<(sO o').length:=by omega
   have he:=h _ (cq hi2);have he':=h' _ (cq hi3);have hx:=iY (P:=Tryz.prog) (T:=22) (lv:=fun _=>.hole) (k':=.i64) (o:=o) (i:=i) (sz:=2) (by simp) hi2 (m4 he);have hy:=iY (P:=Tryz.prog) (T:=22) (lv:=fun _=>.hole) (k':=.i64) (o:=o') (i:=i) (sz:=2) (by simp) hi3 (m4 he');have l1:=TH (lv:=fun _=>.hole) he;have l2:=TH (lv:=fun _=>.hole) he';have hnb:=nb (T:=81) (by kernel_rfl) ⟨_,rfl⟩ (Tz he he');refine aaa fun K1 hK1=>aaf (by simp [hi2] <;> omega) (aac (hK1 _ _ (aaa fun K1 hK1=>aag (aab ?_))))
   refine aaa fun K2 hK2=>?_;refine aau mixed (by kernel_rfl) rfl rfl ?_;simp [hx,hy,l1,l2,hnb,-cx]
   repeat refine ah ?_
   apply hK2
   by_cases hq:qW (sO o)[i] (sO o')[i]=true
   ·refine aah (by simp [hq] <;> omega) (aac (hK1 _ _ ?_));have e3:=dF (n:=(i:Int)+1) (by omega) (by omega);refine aae ?_;simp [e3];refine⟨i+1,Le.mk' _ (by simp) (by simp) (by simp),⟨by omega,?_⟩,by omega⟩;intro j hj h1 h2
    by_cases hji:j=i
    ·subst hji;exact hq
    ·exact hall j (by omega) h1 h2
   ·have hq':qW (sO o)[i] (sO o')[i]=false:=by simpa using hq
    refine aaf (by simp [hq'] <;> omega) (aab ?_);have:=pH hi2 hi3 hq';exact aad (aH.rt rfl 4 (by simp [this]))
  ·refine aaa fun K1 hK1=>aah (by simp [hi2] <;> omega) (aan (hK _ _ (aab ?_)))
   have:=m6.2 ⟨hl,fun j hj=>hall j (by omega) hj (by omega)⟩;exact aad (aH.rt rfl 4 (by simp [this]))
 ·refine aaf (by simp [hl] <;> omega) (aab ?_);have:=mN hl;exact aad (aH.rt rfl 4 (by simp [this]))
theorem De (G:List (List DV))(o o':Option (List (List DV)))(h:∀ e∈sO o,MD e)(h':∀ e∈sO o',MD e):aa Tryz.prog G 101 [n7 o,n7 o'] (.c (.d (.bool (xx (sO o) (sO o'))))):=by
 refine aG.iL 0 (by simp) (fun V v h=>gV h) fun hr=>?_;refine aG.iL 1 (by simp) (fun V v h=>gV h) fun hr'=>?_;have lp:∀ (lv:Key→LB) (o:Option (List (List DV))),dW Tryz.prog 23 lv (n7 o)=some (.c (.d (.int .i64 (sO o).length)),[],[],True):=fun lv o=>cL (by simp)
 refine aa.en Tryz.func101 rfl fun _=>aab ?_;refine aaa fun K hK=>aal lp ?_
 by_cases hl:(sO o).length=(sO o').length
 ·refine aah (by simp [hl] <;> omega) (aac (hK _ _ (aaa fun K hK=>aal lp ?_)));refine aag ?_
  refine aap (fun (i:Nat)=>⟨bq [(0,n7 o),(1,n7 o'),(12,.c (.d (.int .i64 (sO o).length))),(13,.c (.d (.int .i64 i)))],fun _=>.hole⟩) 0
   (fun i=>i≤(sO o).length∧∀ j (hj:j<i) (h1:j<(sO o).length) (h2:j<(sO o').length),qW (sO o)[j] (sO o')[j]=true)
   (fun i=>(sO o).length - i) 0 (Le.mk' _ rfl (by intro k own es h;cases h) (by simp)) (by simp) ?_
  rintro i ⟨hi,hall⟩;refine aab ?_
  by_cases hi2:i<(sO o).length
  ·have hi3:i<(sO o').length:=by omega
   have he:=h _ (cq hi2);have he':=h' _ (cq hi3);have hx:=iY (P:=Tryz.prog) (T:=23) (lv:=fun _=>.hole) (k':=.i64) (o:=o) (i:=i) (sz:=3) (by simp) hi2 (wF he);have hy:=iY (P:=Tryz.prog) (T:=23) (lv:=fun _=>.hole) (k':=.i64) (o:=o') (i:=i) (sz:=3) (by simp) hi3 (wF he');have l1:=S0 (lv:=fun _=>.hole) he;have l2:=S0 (lv:=fun _=>.hole) he';have hnb:=nb (T:=67) (by kernel_rfl) ⟨_,rfl⟩ (S1 he he');refine aaa fun K1 hK1=>aaf (by simp [hi2] <;> omega) (aac (hK1 _ _ (aaa fun K1 hK1=>aag (aab ?_))))
   refine aaa fun K2 hK2=>?_;refine aau mixed (by kernel_rfl) rfl rfl ?_;simp [hx,hy,l1,l2,hnb,-cx]
   repeat refine ah ?_
   apply hK2
   by_cases hq:qW (sO o)[i] (sO o')[i]=true
   ·refine aah (by simp [hq] <;> omega) (aac (hK1 _ _ ?_));have e3:=dF (n:=(i:Int)+1) (by omega) (by omega);refine aae ?_;simp [e3];refine⟨i+1,Le.mk' _ (by simp) (by simp) (by simp),⟨by omega,?_⟩,by omega⟩;intro j hj h1 h2
    by_cases hji:j=i
    ·subst hji;exact hq
    ·exact hall j (by omega) h1 h2
   ·have hq':qW (sO o)[i] (sO o')[i]=false:=by simpa using hq
    refine aaf (by simp [hq'] <;> omega) (aab ?_);have:=pH hi2 hi3 hq';exact aad (aH.rt rfl 4 (by simp [this]))
  ·refine aaa fun K1 hK1=>aah (by simp [hi2] <;> omega) (aan (hK _ _ (aab ?_)))
   have:=m6.2 ⟨hl,fun j hj=>hall j (by omega) hj (by omega)⟩;exact aad (aH.rt rfl 4 (by simp [this]))
 ·refine aaf (by simp [hl] <;> omega) (aab ?_);have:=mN hl;exact aad (aH.rt rfl 4 (by simp [this]))
theorem DM (G:List (List DV))(o o':Option (List (List DV)))(h:∀ e∈sO o,I2 e)(h':∀ e∈sO o',I2 e):aa Tryz.prog G 102 [n7 o,n7 o'] (.c (.d (.bool (xx (sO o) (sO o'))))):=by
 refine aG.iL 0 (by simp) (fun V v h=>gV h) fun hr=>?_;refine aG.iL 1 (by simp) (fun V v h=>gV h) fun hr'=>?_;have lp:∀ (lv:Key→LB) (o:Option (List (List DV))),dW Tryz.prog 24 lv (n7 o)=some (.c (.d (.int .i64 (sO o).length)),[],[],True):=fun lv o=>cL (by simp)
 refine aa.en Tryz.func102 rfl fun _=>aab ?_;refine aaa fun K hK=>aal lp ?_
 by_cases hl:(sO o).length=(sO o').length
 ·refine aah (by simp [hl] <;> omega) (aac (hK _ _ (aaa fun K hK=>aal lp ?_)));refine aag ?_
  refine aap (fun (i:Nat)=>⟨bq [(0,n7 o),(1,n7 o'),(12,.c (.d (.int .i64 (sO o).length))),(13,.c (.d (.int .i64 i)))],fun _=>.hole⟩) 0
   (fun i=>i≤(sO o).length∧∀ j (hj:j<i) (h1:j<(sO o).length) (h2:j<(sO o').length),qW (sO o)[j] (sO o')[j]=true)
   (fun i=>(sO o).length - i) 0 (Le.mk' _ rfl (by intro k own es h;cases h) (by simp)) (by simp) ?_
  rintro i ⟨hi,hall⟩;refine aab ?_
  by_cases hi2:i<(sO o).length
  ·have hi3:i<(sO o').length:=by omega
   have he:=h _ (cq hi2);have he':=h' _ (cq hi3);have hx:=iY (P:=Tryz.prog) (T:=24) (lv:=fun _=>.hole) (k':=.i64) (o:=o) (i:=i) (sz:=7) (by simp) hi2 (tj he);have hy:=iY (P:=Tryz.prog) (T:=24) (lv:=fun _=>.hole) (k':=.i64) (o:=o') (i:=i) (sz:=7) (by simp) hi3 (tj he');have l1:=R2 (lv:=fun _=>.hole) he;have l2:=R2 (lv:=fun _=>.hole) he';have hnb:=nb (T:=55) (by kernel_rfl) ⟨_,rfl⟩ (Pg he he');refine aaa fun K1 hK1=>aaf (by simp [hi2] <;> omega) (aac (hK1 _ _ (aaa fun K1 hK1=>aag (aab ?_))))
   refine aaa fun K2 hK2=>?_;refine aau mixed (by kernel_rfl) rfl rfl ?_;simp [hx,hy,l1,l2,hnb,-cx]
   repeat refine ah ?_
   apply hK2
   by_cases hq:qW (sO o)[i] (sO o')[i]=true
   ·refine aah (by simp [hq] <;> omega) (aac (hK1 _ _ ?_));have e3:=dF (n:=(i:Int)+1) (by omega) (by omega);refine aae ?_;simp [e3];refine⟨i+1,Le.mk' _ (by simp) (by simp) (by simp),⟨by omega,?_⟩,by omega⟩;intro j hj h1 h2
    by_cases hji:j=i
    ·subst hji;exact hq
    ·exact hall j (by omega) h1 h2
   ·have hq':qW (sO o)[i] (sO o')[i]=false:=by simpa using hq
    refine aaf (by simp [hq'] <;> omega) (aab ?_);have:=pH hi2 hi3 hq';exact aad (aH.rt rfl 4 (by simp [this]))
  ·refine aaa fun K1 hK1=>aah (by simp [hi2] <;> omega) (aan (hK _ _ (aab ?_)))
   have:=m6.2 ⟨hl,fun j hj=>hall j (by omega) hj (by omega)⟩;exact aad (aH.rt rfl 4 (by simp [this]))
 ·refine aaf (by simp [hl] <;> omega) (aab ?_);have:=mN hl;exact aad (aH.rt rfl 4 (by simp [this]))
theorem DA (G:List (List DV))(o o':Option (List (List DV)))(h:∀ e∈sO o,D2 e)(h':∀ e∈sO o',D2 e):aa Tryz.prog G 103 [n7 o,n7 o'] (.c (.d (.bool (xx (sO o) (sO o'))))):=by
 refine aG.iL 0 (by simp) (fun V v h=>gV h) fun hr=>?_;refine aG.iL 1 (by simp) (fun V v h=>gV h) fun hr'=>?_;have lp:∀ (lv:Key→LB) (o:Option (List (List DV))),dW Tryz.prog 25 lv (n7 o)=some (.c (.d (.int .i64 (sO o).length)),[],[],True):=fun lv o=>cL (by simp)
 refine aa.en Tryz.func103 rfl fun _=>aab ?_;refine aaa fun K hK=>aal lp ?_
 by_cases hl:(sO o).length=(sO o').length
 ·refine aah (by simp [hl] <;> omega) (aac (hK _ _ (aaa fun K hK=>aal lp ?_)));refine aag ?_
  refine aap (fun (i:Nat)=>⟨bq [(0,n7 o),(1,n7 o'),(12,.c (.d (.int .i64 (sO o).length))),(13,.c (.d (.int .i64 i)))],fun _=>.hole⟩) 0
   (fun i=>i≤(sO o).length∧∀ j (hj:j<i) (h1:j<(sO o).length) (h2:j<(sO o').length),qW (sO o)[j] (sO o')[j]=true)
   (fun i=>(sO o).length - i) 0 (Le.mk' _ rfl (by intro k own es h;cases h) (by simp)) (by simp) ?_
  rintro i ⟨hi,hall⟩;refine aab ?_
  by_cases hi2:i<(sO o).length
  ·have hi3:i<(sO o').length:=by omega
   have he:=h _ (cq hi2);have he':=h' _ (cq hi3);have hx:=iY (P:=Tryz.prog) (T:=25) (lv:=fun _=>.hole) (k':=.i64) (o:=o) (i:=i) (sz:=2) (by simp) hi2 (m4 he);have hy:=iY (P:=Tryz.prog) (T:=25) (lv:=fun _=>.hole) (k':=.i64) (o:=o') (i:=i) (sz:=2) (by simp) hi3 (m4 he');have l1:=RZ (lv:=fun _=>.hole) he;have l2:=RZ (lv:=fun _=>.hole) he';have hnb:=nb (T:=69) (by kernel_rfl) ⟨_,rfl⟩ (RX he he');refine aaa fun K1 hK1=>aaf (by simp [hi2] <;> omega) (aac (hK1 _ _ (aaa fun K1 hK1=>aag (aab ?_))))
   refine aaa fun K2 hK2=>?_;refine aau mixed (by kernel_rfl) rfl rfl ?_;simp [hx,hy,l1,l2,hnb,-cx]
   repeat refine ah ?_
   apply hK2
   by_cases hq:qW (sO o)[i] (sO o')[i]=true
   ·refine aah (by simp [hq] <;> omega) (aac (hK1 _ _ ?_));have e3:=dF (n:=(i:Int)+1) (by omega) (by omega);refine aae ?_;simp [e3];refine⟨i+1,Le.mk' _ (by simp) (by simp) (by simp),⟨by omega,?_⟩,by omega⟩;intro j hj h1 h2
    by_cases hji:j=i
    ·subst hji;exact hq
    ·exact hall j (by omega) h1 h2
   ·have hq':qW (sO o)[i] (sO o')[i]=false:=by simpa using hq
    refine aaf (by simp [hq'] <;> omega) (aab ?_);have:=pH hi2 hi3 hq';exact aad (aH.rt rfl 4 (by simp [this]))
  ·refine aaa fun K1 hK1=>aah (by simp [hi2] <;> omega) (aan (hK _ _ (aab ?_)))
   have:=m6.2 ⟨hl,fun j hj=>hall j (by omega) hj (by omega)⟩;exact aad (aH.rt rfl 4 (by simp [this]))
 ·refine aaf (by simp [hl] <;> omega) (aab ?_);have:=mN hl;exact aad (aH.rt rfl 4 (by simp [this]))
structure PD where
 f:Option (List (List DV))
 mode:Int
 ins:Option (List (List DV))
 nodes:Option (List (List DV))
 head:Int
 tail:Int
 states:Option (List (List DV))
 res:Int
@[simp] def PD.cs (p:PD):List CV:=[fC p.f,.d (.int .i64 p.mode),fC p.ins,fC p.nodes,.d (.int .i64 p.head),.d (.int .i64 p.tail),fC p.states,.d (.int .i64 p.res)]
abbrev PD.A (p:PD):AV:=.agg p.cs
structure PD.ok (p:PD):Prop where
 f:∀ e∈sO p.f,D2 e
 ins:∀ e∈sO p.ins,MD e
 nodes:∀ e∈sO p.nodes,I2 e
 states:∀ e∈sO p.states,D2 e
def IB:DV→Int
 | .str s=>s.length
 | _=>0
def Q3 (es:List (List DV)):Nat→Int
 | 0=>0
 | i+1=>IntKind.i64.wrap (IntKind.i64.wrap (Q3 es i+IB ((es.getD i []).getD 1 .nilp))+IB ((es.getD i []).getD 2 .nilp))
def Ro (n:Int)(es:List (List DV)):Nat→Int
 | 0=>n
 | i+1=>IntKind.i64.wrap (Ro n es i+IB ((es.getD i []).getD 6 .nilp))
theorem J4{a:Int}{t:List UInt8}(hn:n=Q3 es i) (hi:i<es.length) (he:es[i]=[.int .i64 a,.str s,.str t]) :
 IntKind.i64.wrap (IntKind.i64.wrap (n+s.length)+t.length)=Q3 es (i+1):=by
 have e6:es.getD i []=[.int .i64 a,.str s,.str t]:=by rw [hJ,cn hi,he];rfl
 have e7:IB (List.getD [DV.int .i64 a,.str s,.str t] 1 .nilp)=s.length:=rfl;have e8:IB (List.getD [DV.int .i64 a,.str s,.str t] 2 .nilp)=t.length:=rfl;rw [Q3,e6,e7,e8,hn]
theorem Jy {n0:Int}{a1 a2 a3 a4 a5 a6:Int}(hn:n=Ro n0 es i) (hi:i<es.length) (he:es[i]=[.int .i64 a1,.int .i64 a2,.int .i64 a3,.int .i64 a4,.int .i64 a5,.int .i64 a6,.str s]) :
 IntKind.i64.wrap (n+s.length)=Ro n0 es (i+1):=by
 have e6:es.getD i []=[.int .i64 a1,.int .i64 a2,.int .i64 a3,.int .i64 a4,.int .i64 a5,.int .i64 a6,.str s]:=by rw [hJ,cn hi,he];rfl
 have e7:IB (List.getD [DV.int .i64 a1,.int .i64 a2,.int .i64 a3,.int .i64 a4,.int .i64 a5,.int .i64 a6,.str s] 6 .nilp)=s.length:=rfl;rw [Ro,e6,e7,hn]
def nN (p:PD):Bool:=decide (100<(sO p.f).length) || decide (100<(sO p.ins).length) || decide (100<(sO p.nodes).length) || decide (100<(sO p.states).length) ||
 decide (2000<Ro (Q3 (sO p.ins) (sO p.ins).length) (sO p.nodes) (sO p.nodes).length)
theorem PD.T8 {V:Vw}{v:Value}{p:PD}(h:V.av v p.A):(sO p.f).length≤9223372036854775807∧(sO p.ins).length≤9223372036854775807∧(sO p.nodes).length≤9223372036854775807∧(sO p.states).length≤9223372036854775807:=by
 obtain⟨arr,rfl,hs,hc⟩:=h;have hs8:arr.size=8:=hs;exact⟨gV (hc 0 (by simp) (by omega)),gV (hc 2 (by simp) (by omega)),gV (hc 3 (by simp) (by omega)),gV (hc 6 (by simp) (by omega))⟩
theorem Lq (G:List (List DV))(p:PD)(hp:p.ok):aa Tryz.prog G 16 [p.A] (.c (.d (.bool (nN p)))):=by
 refine aG.iL 0 (by simp) (fun V v h=>PD.T8 h) fun hr=>?_;obtain⟨hr0,hr2,hr3,hr6⟩:=hr;have lp0:∀ (lv:Key→LB) (o:Option (List (List DV))),dW Tryz.prog 22 lv (n7 o)=some (.c (.d (.int .i64 (sO o).length)),[],[],True):=fun lv o=>cL (by simp)
 have lp2:∀ (lv:Key→LB) (o:Option (List (List DV))),dW Tryz.prog 23 lv (n7 o)=some (.c (.d (.int .i64 (sO o).length)),[],[],True):=fun lv o=>cL (by simp)
 have lp3:∀ (lv:Key→LB) (o:Option (List (List DV))),dW Tryz.prog 24 lv (n7 o)=some (.c (.d (.int .i64 (sO o).length)),[],[],True):=fun lv o=>cL (by simp)
 have lp6:∀ (lv:Key→LB) (o:Option (List (List DV))),dW Tryz.prog 25 lv (n7 o)=some (.c (.d (.int .i64 (sO o).length)),[],[],True):=fun lv o=>cL (by simp)
 refine aa.en Tryz.func16 rfl fun _=>aab ?_;refine aaa fun K hK=>aaa fun K1 hK1=>?_
 by_cases h0:100<(sO p.f).length
 ·have i0:(100:Int)<((sO p.f).length:Int):=by omega
  refine aaw lp0 i0 (hK1 _ _ ?_);refine aak (aab ?_);exact aad (aH.rt rfl 2 (by simp [nN,h0]))
 have i0:¬ (100:Int)<((sO p.f).length:Int):=by omega
 by_cases h2:100<(sO p.ins).length
 ·have i2:(100:Int)<((sO p.ins).length:Int):=by omega
  refine aaB lp0 lp2 i0 i2 (hK1 _ _ ?_);refine aak (aab ?_);exact aad (aH.rt rfl 2 (by simp [nN,h2]))
 have i2:¬ (100:Int)<((sO p.ins).length:Int):=by omega
 by_cases h3:100<(sO p.nodes).length
 ·have i3:(100:Int)<((sO p.nodes).length:Int):=by omega
  refine aae ?_;simp [lp0,lp2,lp3,i0,i2,i3]
  repeat refine ah ?_
  apply hK1;refine aak (aab ?_);exact aad (aH.rt rfl 2 (by simp [nN,h3]))
 have i3:¬ (100:Int)<((sO p.nodes).length:Int):=by omega
 by_cases h6:100<(sO p.states).length
 ·have i6:(100:Int)<((sO p.states).length:Int):=by omega
  refine aae ?_;simp [lp0,lp2,lp3,lp6,i0,i2,i3,i6]
  repeat refine ah ?_
  apply hK1;refine aak (aab ?_);exact aad (aH.rt rfl 2 (by simp [nN,h6]))
 have i6:¬ (100:Int)<((sO p.states).length:Int):=by omega
 refine aae ?_;simp [lp0,lp2,lp3,lp6,i0,i2,i3,i6]
 repeat refine ah ?_
 apply hK1;refine aaj (aac (hK _ _ (aab ?_)));refine aaa fun K hK=>aab ?_;refine aag ?_
 refine aap (fun (q:Nat × Int)=>⟨bq [(1,.c (.ptr 0 0)),(3,.c (.d (.int .i64 q.2))),(4,.c (.d (.int .i64 q.1)))],aD (fun _=>.hole) 0 (.cells true false 27 p.cs)⟩) 1
  (fun q=>q.1≤(sO p.ins).length∧q.2=Q3 (sO p.ins) q.1) (fun q=>(sO p.ins).length - q.1) (0,0) (Le.mk' _ (by simp) (by simp) (by simp)) ⟨by simp,rfl⟩ ?_
 rintro⟨i,n⟩ ⟨hi,hn⟩;simp only at hi hn;refine aaa fun K3 hK3=>aal lp2 ?_
 by_cases hi2:i<(sO p.ins).length
 ·refine aaf (by simp [hi2] <;> omega) (aac (hK3 _ _ ?_));obtain⟨a,s,t,he⟩:=hp.ins _ (cq hi2)
  have hx:∀ lv:Key→LB,aq Tryz.prog 23 lv (n7 p.ins) (.c (.d (.int .i64 (i:Int))))=some (.c (.d (.ptr [.int .i64 a,.str s,.str t])),[],[],True):=fun lv=>by
   rw [iY (sz:=3) (by simp) hi2 (by rw [he];rfl),he]
  refine aaa fun K5 hK5=>aag ?_;refine aau mixed (by kernel_rfl) rfl rfl ?_;simp [hx]
  repeat refine ah ?_
  apply hK5;have e3:=dF (n:=(i:Int)+1) (by omega) (by omega);refine aae ?_;simp [e3];refine⟨i+1,IntKind.i64.wrap (IntKind.i64.wrap (n+s.length)+t.length),Le.mk' _ (by simp) (by simp) (by simp),⟨by omega,?_⟩,by omega⟩;exact J4 hn hi2 he
 ·refine aah (by simp [hi2] <;> omega) (aan (hK _ _ ?_));have hii:i=(sO p.ins).length:=by omega
  subst hii;refine aaa fun K hK=>aab ?_;refine aag ?_
  refine aap (fun (q:Nat × Int)=>⟨bq [(1,.c (.ptr 0 0)),(3,.c (.d (.int .i64 q.2))),(5,.c (.d (.int .i64 q.1)))],aD (fun _=>.hole) 0 (.cells true false 27 p.cs)⟩) 1
   (fun q=>q.1≤(sO p.nodes).length∧q.2=Ro n (sO p.nodes) q.1) (fun q=>(sO p.nodes).length - q.1) (0,n) (Le.mk' _ (by simp) (by simp) (by simp)) ⟨by simp,rfl⟩ ?_
  rintro⟨i,n'⟩ ⟨hi,hn'⟩;simp only at hi hn';refine aaa fun K3 hK3=>aal lp3 ?_
  by_cases hi3:i<(sO p.nodes).length
  ·refine aaf (by simp [hi3] <;> omega) (aac (hK3 _ _ ?_));obtain⟨a1,a2,a3,a4,a5,a6,s,he⟩:=hp.nodes _ (cq hi3)
   have hx:∀ lv:Key→LB,aq Tryz.prog 24 lv (n7 p.nodes) (.c (.d (.int .i64 (i:Int))))=some (.c (.d (.ptr [.int .i64 a1,.int .i64 a2,.int .i64 a3,.int .i64 a4,.int .i64 a5,.int .i64 a6,.str s])),[],[],True):=fun lv=>by
    rw [iY (sz:=7) (by simp) hi3 (by rw [he];rfl),he]
   refine aaa fun K5 hK5=>aag (aat hx (hK5 _ _ ?_))
   have e3:=dF (n:=(i:Int)+1) (by omega) (by omega);refine aae ?_;simp [e3];refine⟨i+1,IntKind.i64.wrap (n'+s.length),Le.mk' _ (by simp) (by simp) (by simp),⟨by omega,?_⟩,by omega⟩;exact Jy hn' hi3 he
  ·refine aah (by simp [hi3] <;> omega) (aan (hK _ _ ?_));have hii:i=(sO p.nodes).length:=by omega
   subst hii;refine aab ?_
   have hb:nN p=decide (2000<n'):=by
    simp [nN,h0,h2,h3,h6,hn',hn]
   exact aad (aH.rt rfl 2 (by simp [hb]))
end Go.Am
