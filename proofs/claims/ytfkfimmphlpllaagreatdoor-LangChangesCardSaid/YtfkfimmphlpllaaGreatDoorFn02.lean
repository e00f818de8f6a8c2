/- Helpers: an abstract machine for Go functions, and walks of functions of the program. -/
import Derived.Test.YtfkfimmphlpllaaGreatDoorFn01
import Derived.KernelRfl
import Derived.Scope
import Derived.RangeFuncLeaves
import Derived.RangeFuncRecord

set_option linter.all false
set_option maxHeartbeats 8000000
set_option maxRecDepth 100000
namespace Go.Am
variable {β α:Type}{x:AV}{g:Key→Key}{b:LB}{p:Key→Bool}{lv:Key→LB}{nk:List Key}{kh:Key}
abbrev Yw:=@List.map_id
abbrev WU:=@Nat.pow_succ
abbrev Xd:=@Nat.mul_le_mul_left
abbrev WL:=@Nat.mul_add
abbrev XG:=@List.drop_eq_getElem_cons
abbrev Ye:=@List.drop_eq_nil_of_le
abbrev X6:=@List.take_of_length_le
abbrev XC:=@Nat.mul_pos
abbrev Y1:=@Nat.add_mul_mod_self_left
abbrev Zf:=@List.getLast?_eq_getElem?
abbrev XV:=@Nat.lt_of_le_of_lt
abbrev Zg:=@Nat.pow_lt_pow_iff_right
abbrev WV:=@Nat.mul_assoc
abbrev Xy:=@List.length_singleton
abbrev fQ:=@List.drop_zero
abbrev Zh:=@List.set_append_right
abbrev Zi:=@BitVec.toNat_ofNat
abbrev Zj:=@BitVec.ofInt_natCast
abbrev Zk:=@List.set_append_left
abbrev Y2:=@Nat.add_mul_div_left
abbrev Yn:=@Nat.div_eq_of_lt
abbrev XD:=@List.append_nil
abbrev X7:=@Nat.mul_le_mul
abbrev Zu:=@Nat.lt_of_mul_lt_mul_right
abbrev YM:=@Nat.le_div_iff_mul_le
abbrev Xq:=@Classical.byContradiction
abbrev Yf:=@Nat.div_lt_iff_lt_mul
inductive Tb (α:Type) where
 | leaf
 | node (l:Tb α) (v:α) (r:Tb α)
inductive Pa where
 | e
 | l (p:Pa)
 | r (p:Pa)
noncomputable def Tb.get(d:α) (t:Tb α) (p:Pa):α:=
 Pa.rec (motive:=fun _=>Tb α→α) (fun t=>Tb.rec (motive:=fun _=>α) d (fun _ v _ _ _=>v) t)
  (fun _ ih t=>Tb.rec (motive:=fun _=>α) d (fun l _ _ _ _=>ih l) t)
  (fun _ ih t=>Tb.rec (motive:=fun _=>α) d (fun _ _ r _ _=>ih r) t) p t
noncomputable def Tb.set(d x:α) (p:Pa) (t:Tb α):Tb α:=
 Pa.rec (motive:=fun _=>Tb α→Tb α) (fun t=>Tb.rec (motive:=fun _=>Tb α) (.node .leaf x .leaf) (fun l _ r _ _=>.node l x r) t)
  (fun _ ih t=>Tb.rec (motive:=fun _=>Tb α) (.node (ih .leaf) d .leaf) (fun l v r _ _=>.node (ih l) v r) t)
  (fun _ ih t=>Tb.rec (motive:=fun _=>Tb α) (.node .leaf d (ih .leaf)) (fun l v r _ _=>.node l v (ih r)) t) p t
noncomputable def Tb.BP(d x:α) (p:Pa) (t:Tb α) (k:Tb α→β):β:=
 Pa.rec (motive:=fun _=>Tb α→(Tb α→β)→β) (fun t k=>Tb.rec (motive:=fun _=>β) (k (.node .leaf x .leaf)) (fun l _ r _ _=>k (.node l x r)) t)
  (fun _ ih t k=>Tb.rec (motive:=fun _=>β) (ih .leaf fun s=>k (.node s d .leaf)) (fun l v r _ _=>ih l fun s=>k (.node s v r)) t)
  (fun _ ih t k=>Tb.rec (motive:=fun _=>β) (ih .leaf fun s=>k (.node .leaf d s)) (fun l v r _ _=>ih r fun s=>k (.node l v s)) t) p t k
theorem Tb.kM(d x:α):∀ (p:Pa) (t:Tb α) (k:Tb α→β),Tb.BP d x p t k=k (Tb.set d x p t)
 | .e,.leaf,_=>rfl
 | .e,.node _ _ _,_=>rfl
 | .l p,.leaf,k=>Tb.kM d x p .leaf fun s=>k (.node s d .leaf)
 | .l p,.node l v r,k=>Tb.kM d x p l fun s=>k (.node s v r)
 | .r p,.leaf,k=>Tb.kM d x p .leaf fun s=>k (.node .leaf d s)
 | .r p,.node l v r,k=>Tb.kM d x p r fun s=>k (.node l v s)
theorem Tb.dW(d:α) (p:Pa):Tb.get d .leaf p=d:=by cases p <;> rfl
theorem Tb.kS(d x:α):∀ (p:Pa) (t:Tb α) (q:Pa) [Decidable (q=p)],Tb.get d (Tb.set d x p t) q=if q=p then x else Tb.get d t q:=by
 intro p
 induction p with
 | e=>
  intro t q _
  cases q with
  | e=>cases t <;> simp [Tb.get,Tb.set]
  | l q=>cases t with
   | leaf=>simp only [reduceCtorEq,if_false];rw [Tb.dW];exact Tb.dW d q
   | node l v r=>rw [if_neg (by simp)];rfl
  | r q=>cases t with
   | leaf=>simp only [reduceCtorEq,if_false];rw [Tb.dW];exact Tb.dW d q
   | node l v r=>rw [if_neg (by simp)];rfl
 | l p ih=>
  intro t q _
  cases q with
  | l q=>
   have:Decidable (q=p):=Classical.propDecidable _
   cases t with
   | leaf=>
    have h1:Tb.get d (Tb.set d x (.l p) .leaf) (.l q)=Tb.get d (Tb.set d x p .leaf) q:=rfl;rw [h1,ih .leaf q]
    by_cases h:q=p
    ·subst h;simp
    ·have:¬ (Pa.l q=Pa.l p):=fun e=>h (by injection e)
     rw [if_neg h,if_neg this,Tb.dW,Tb.dW]
   | node l v r=>
    have h1:Tb.get d (Tb.set d x (.l p) (.node l v r)) (.l q)=Tb.get d (Tb.set d x p l) q:=rfl;rw [h1,ih l q]
    by_cases h:q=p
    ·subst h;simp
    ·have:¬ (Pa.l q=Pa.l p):=fun e=>h (by injection e)
     rw [if_neg h,if_neg this];rfl
  | e=>cases t <;> simp [Tb.get,Tb.set]
  | r q=>cases t <;> simp [Tb.get,Tb.set];cases q <;> rfl
 | r p ih=>
  intro t q _
  cases q with
  | r q=>
   have:Decidable (q=p):=Classical.propDecidable _
   cases t with
   | leaf=>
    have h1:Tb.get d (Tb.set d x (.r p) .leaf) (.r q)=Tb.get d (Tb.set d x p .leaf) q:=rfl;rw [h1,ih .leaf q]
    by_cases h:q=p
    ·subst h;simp
    ·have:¬ (Pa.r q=Pa.r p):=fun e=>h (by injection e)
     rw [if_neg h,if_neg this,Tb.dW,Tb.dW]
   | node l v r=>
    have h1:Tb.get d (Tb.set d x (.r p) (.node l v r)) (.r q)=Tb.get d (Tb.set d x p r) q:=rfl;rw [h1,ih r q]
    by_cases h:q=p
    ·subst h;simp
    ·have:¬ (Pa.r q=Pa.r p):=fun e=>h (by injection e)
     rw [if_neg h,if_neg this];rfl
  | e=>cases t <;> simp [Tb.get,Tb.set]
  | l q=>cases t <;> simp [Tb.get,Tb.set];cases q <;> rfl
noncomputable def zc (f:Nat):Nat→Pa:=
 Nat.rec (motive:=fun _=>Nat→Pa) (fun _=>.e) (fun _ ih n=>Nat.rec (motive:=fun _=>Pa) .e
  (fun m _=>Bool.rec (motive:=fun _=>Pa) (.r (ih (Nat.div m 2))) (.l (ih (Nat.div m 2))) (Nat.beq (Nat.mod m 2) 0)) n) f
noncomputable def pathOf (n:Nat):Pa:=zc n n
def Pa.num:Pa→Nat
 | .e=>0
 | .l p=>2*p.num+1
 | .r p=>2*p.num+2
theorem tQ:∀ (f n:Nat),n≤f→(zc f n).num=n
 | 0,n,h=>by have:n=0:=by omega
             subst this;rfl
 | f+1,0,_=>rfl
 | f+1,m+1,h=>by
  have ih:=tQ f (m / 2) (by omega);show (Bool.rec (motive:=fun _=>Pa) (.r (zc f (Nat.div m 2))) (.l (zc f (Nat.div m 2))) (Nat.beq (Nat.mod m 2) 0)).num=m+1;have e:Nat.div m 2=m / 2:=rfl;have e2:Nat.mod m 2=m % 2:=rfl;rw [e,e2]
  cases hb:Nat.beq (m % 2) 0 with
  | true=>
   have:=W1 hb;show 2*(zc f (m / 2)).num+1=m+1;rw [ih];omega
  | false=>
   have:=YL hb;show 2*(zc f (m / 2)).num+2=m+1;rw [ih];omega
theorem qC {n m:Nat}(h:pathOf n=pathOf m):n=m:=by
 have h1:=tQ n n (bg _);have h2:=tQ m m (bg _);unfold pathOf at h;rw [← h1,← h2,h]
noncomputable def jK (t:Tb AV):Nat→AV:=fun i=>t.get .undef (pathOf i)
noncomputable def aY (t:Tb LB):Key→LB:=fun i=>t.get .hole (pathOf i)
theorem DW (t:Tb AV)(k:Nat)(x:AV):jK (t.set .undef x (pathOf k))=aC (jK t) k x:=by
 funext i;have:Decidable (pathOf i=pathOf k):=Classical.propDecidable _;simp only [jK,aC,Tb.kS]
 by_cases e:i=k
 ·subst e;simp
 ·rw [if_neg e,if_neg (fun h=>e (qC h))]
theorem Cx (t:Tb LB)(k:Nat)(x:LB):aY (t.set .hole x (pathOf k))=aC (aY t) k x:=by
 funext i;have:Decidable (pathOf i=pathOf k):=Classical.propDecidable _;simp only [aY,aC,Tb.kS]
 by_cases e:i=k
 ·subst e;simp
 ·rw [if_neg e,if_neg (fun h=>e (qC h))]
noncomputable def c9(n:Nat) (k:Nat→β):β:=Nat.rec (motive:=fun _=>β) (k 0) (fun m _=>k (Nat.succ m)) n
noncomputable def Cu(n:Int) (k:Int→β):β:=Int.rec (motive:=fun _=>β) (fun m=>c9 m fun m=>k (.ofNat m)) (fun m=>c9 m fun m=>k (.negSucc m)) n
theorem hU(n:Nat) (k:Nat→β):c9 n k=k n:=by cases n <;> rfl
theorem Dx(n:Int) (k:Int→β):Cu n k=k n:=by cases n with
 | ofNat m=>exact hU m fun m=>k (.ofNat m)
 | negSucc m=>exact hU m fun m=>k (.negSucc m)
noncomputable def As(b:Bool) (k:Bool→β):β:=Bool.rec (motive:=fun _=>β) (k false) (k true) b
theorem AJ(b:Bool) (k:Bool→β):As b k=k b:=by cases b <;> rfl
noncomputable def p6(f:α→(α→β)→β) (l:List α) (k:List α→β):β:=
 List.rec (motive:=fun _=>(List α→β)→β) (fun k=>k []) (fun x _ ih k=>f x fun x=>ih fun l=>k (x::l)) l k
theorem jL {α β:Type}(f:α→(α→β)→β) (hf:∀ x k,f x k=k x):∀ (l:List α) (k:List α→β),p6 f l k=k l
 | [],_=>rfl
 | x::l,k=>by
  show f x (fun x=>p6 f l fun l=>k (x::l))=_;rw [hf,jL f hf l]
noncomputable def s6(b:UInt8) (k:UInt8→β):β:=c9 b.toNat fun n=>k (UInt8.ofNat n)
theorem A7(b:UInt8) (k:UInt8→β):s6 b k=k b:=by unfold s6;rw [hU];simp
noncomputable def Ew(d:DV) (k:DV→β):β:=
 DV.casesOn (motive_1:=fun _=>β) d (fun b=>As b fun b=>k (.bool b)) (fun q n=>Cu n fun n=>k (.int q n)) (fun s=>p6 s6 s fun s=>k (.str s)) (k .nilp) (fun cs=>k (.ptr cs)) (k .nilsl)
  (fun es=>k (.sl es)) (fun cs=>k (.agg cs)) (k .nilIface) (fun t v=>k (.iface t v)) (k .nilFunc) (fun f a b=>k (.func f a b)) (k .nilmap)
theorem HB(d:DV) (k:DV→β):Ew d k=k d:=by
 cases d <;> simp only [Ew] <;> first|exact AJ _ _|exact Dx _ _|exact jL _ A7 _ _|rfl
noncomputable def p9(x:CV) (k:CV→β):β:=
 CV.casesOn (motive:=fun _=>β) x (fun d=>Ew d fun d=>k (.d d)) (fun a b=>c9 a fun a=>c9 b fun b=>k (.ptr a b))
  (fun a b c d=>c9 a fun a=>c9 b fun b=>c9 c fun c=>c9 d fun d=>k (.aR a b c d)) (fun a=>c9 a fun a=>k (.mapr a)) (fun f a b=>k (.func f a b)) (fun t r=>k (.ifc t r)) (k .junk)
theorem lU(x:CV) (k:CV→β):p9 x k=k x:=by
 cases x <;> simp only [p9,HB,hU]
noncomputable def Bq(x:AV) (k:AV→β):β:=
 AV.casesOn (motive_1:=fun _=>β) x (fun c=>p9 c fun c=>k (.c c)) (fun l=>p6 p9 l fun l=>k (.agg l)) (fun l=>k (.tup l)) (k .undef) (k .junk)
theorem EZ(x:AV) (k:AV→β):Bq x k=k x:=by
 cases x <;> simp only [Bq,lU,jL _ lU]
noncomputable def dN(x:AV) (k:AV→β):β:=
 AV.casesOn (motive_1:=fun _=>β) x (fun c=>p9 c fun c=>k (.c c)) (fun l=>p6 p9 l fun l=>k (.agg l)) (fun l=>p6 Bq l fun l=>k (.tup l)) (k .undef) (k .junk)
theorem iS(x:AV) (k:AV→β):dN x k=k x:=by
 cases x <;> simp only [dN,lU,jL _ lU,jL _ EZ]
noncomputable def tf(b:LB) (k:LB→β):β:=
 LB.casesOn (motive:=fun _=>β) b (k .hole) (k .dead) (k .nils) (fun _ fz T cs=>p6 p9 cs fun cs=>k (.cells false fz T cs)) (fun _ es=>k (.map false es))
def LB.un:LB→LB
 | .cells _ fz T cs=>.cells false fz T cs
 | .map _ es=>.map false es
 | x=>x
def s5 (us:List (Key × LB)):List (Key × LB):=us.map fun p=>(p.1,p.2.un)
theorem zQ(b:LB) (k:LB→β):tf b k=k b.un:=by
 cases b <;> simp only [tf,LB.un,jL _ lU]
structure ES where
 fr:Tr AV
 lv:Tr LB
 nx:Nat
def Wn (t:Tr AV):Nat→AV:=fun i=>match t.get i with|some x=>x|none=>.undef
def Wq (t:Tr LB):Key→LB:=fun k=>match t.get k with|some b=>b|none=>.hole
def ES.st (s:ES):aB:=⟨Wn s.fr,Wq s.lv⟩
def ES.put (s:ES)(dst:Option Nat)(x:AV):Option ES:=
 match dst with
 | none=>some s
 | some d=>match s.fr.set 16 d x with|some fr=>some ⟨fr,s.lv,s.nx⟩|none=>none
def JQ:Tr LB→List (Key × LB)→Option (Tr LB)
 | t,[]=>some t
 | t,p::r=>match t.set 30 p.1 p.2 with|some t=>JQ t r|none=>none
def ES.wr (s:ES)(us:List (Key × LB))(nx:Nat):Option ES:=
 match JQ s.lv us with|some lv=>some ⟨s.fr,lv,nx⟩|none=>none
def ig.qS (p:Key→Bool):ig→Bool
 | .d _=>true
 | .ptr k _=>p k
 | .aR k _ _ _=>p k
def Ref.qS (p:Key→Bool):Ref→Bool
 | .d _=>true
 | .ptr k _=>p k
 | .aR k _ _ _=>p k
 | .agg cs=>cs.all (ig.qS p)
 | .ifc _ x=>x.qS p
def CV.qS (p:Key→Bool):CV→Bool
 | .d _=>true
 | .ptr k _=>p k
 | .aR k _ _ _=>p k
 | .mapr k=>p k
 | .func _ f c=>f.all (Ref.qS p) && c.all (Ref.qS p)
 | .ifc _ x=>x.qS p
 | .junk=>true
def AV.JP (p:Key→Bool):AV→Bool
 | .c x=>x.qS p
 | .agg cs=>cs.all (CV.qS p)
 | _=>true
def AV.qS (p:Key→Bool):AV→Bool
 | .tup l=>l.all (AV.JP p)
 | x=>x.JP p
def LB.qS (p:Key→Bool):LB→Bool
 | .cells _ _ _ cs=>cs.all (CV.qS p)
 | .map _ es=>es.all fun q=>q.2.JP p && q.2.cu
 | _=>true
section
variable {p:Key→Bool}{i g:Key→Key}(hp:∀ k,p k=true→g (i k)=k)
include hp
theorem n9{f:(Key→Key)→α→α}{c:α→Bool}(hf:∀ x,c x=true→f g (f i x)=x) {l:List α}(h:l.all c=true):(l.map (f i)).map (f g)=l:=by
 rw [E5] at h;rw [Xc]
 conv=>rhs;rw [← Yw l]
 exact Xj fun x hx=>hf x (h x hx)
theorem ig.vk {x:ig}(h:x.qS p=true):(x.bU i).bU g=x:=by
 cases x with
 | d x=>rfl
 | ptr k o=>simp only [ig.bU,hp k h]
 | aR k o l z=>simp only [ig.bU,hp k h]
theorem Ref.vk:∀ {x:Ref},x.qS p=true→(x.bU i).bU g=x
 | .d _,_=>rfl
 | .ptr k _,h=>by simp only [Ref.bU,hp k h]
 | .aR k _ _ _,h=>by simp only [Ref.bU,hp k h]
 | .agg cs,h=>by simp only [Ref.bU];rw [n9 hp (fun x hx=>ig.vk hp hx) h]
 | .ifc t x,h=>by simp only [Ref.bU,Ref.vk (x:=x) h]
theorem CV.vk {x:CV}(h:x.qS p=true):(x.bU i).bU g=x:=by
 cases x with
 | d x=>rfl
 | ptr k o=>simp only [CV.bU,hp k h]
 | aR k o l z=>simp only [CV.bU,hp k h]
 | mapr k=>simp only [CV.bU,hp k h]
 | func fn f c=>
  simp only [CV.qS,cn] at h;simp only [CV.bU];rw [n9 hp (fun x hx=>Ref.vk hp hx) h.1,n9 hp (fun x hx=>Ref.vk hp hx) h.2]
 | ifc t x=>simp only [CV.bU,Ref.vk hp (x:=x) h]
 | junk=>rfl
theorem AV.GD(h:x.JP p=true) (ht:x.cu=true):(x.lz i).lz g=x:=by
 cases x with
 | c x=>simp only [AV.lz,CV.vk hp (x:=x) h]
 | agg cs=>simp only [AV.lz];rw [n9 hp (fun x hx=>CV.vk hp hx) h]
 | tup l=>cases ht
 | undef=>rfl
 | junk=>rfl
theorem AV.vk(h:x.qS p=true) (hf:x.bY=true):(x.bU i).bU g=x:=by
 cases x with
 | c x=>exact AV.GD hp (x:=.c x) h rfl
 | agg cs=>exact AV.GD hp (x:=.agg cs) h rfl
 | tup l=>
  simp only [AV.bY,E5] at hf;simp only [AV.qS,E5] at h;simp only [AV.bU,Xc];congr 1
  conv=>rhs;rw [← Yw l]
  refine Xj fun x hx=>AV.GD hp (h x hx) ?_;have:=hf x hx
  cases x <;> first|rfl|cases this
 | undef=>rfl
 | junk=>rfl
end
def LB.m5:LB→LB
 | .cells _ fz T cs=>.cells false fz T cs
 | .map _ es=>.map false es
 | x=>x
theorem LB.PM{i:Key→Key}(hp:∀ k,p k=true→g (i k)=k)(hc:b.qS p=true):b.as (b.bU i) g:=by
 cases b with
 | hole=>rfl
 | dead=>intro h;cases h
 | nils=>rfl
 | cells own fz T cs=>exact⟨own,cs,rfl,(n9 hp (fun x hx=>CV.vk hp hx) hc).symm,fun h=>h⟩
 | map own es=>
  have h2:=hc;simp only [LB.qS,E5,cn] at h2;refine⟨own,es,rfl,?_,fun h=>h,fun q hq l=>?_⟩
  ·simp only [Xc]
   conv=>lhs;rw [← Yw es]
   refine (Xj fun q hq=>?_);obtain⟨h3,h4⟩:=h2 q hq;simp only [Function.comp,id,AV.GD hp h3 h4]
  ·simp only [Xp] at hq;obtain⟨q0,hq0,rfl⟩:=hq;obtain⟨_,h4⟩:=h2 q0 hq0;intro e
   cases e2:q0.2 <;> rw [e2] at h4 e <;> first|(cases h4;done)|(simp only [AV.lz] at e;cases e;done)
theorem LB.Lu {b':LB}(h:b.as b' g):b.as b'.m5 g:=by
 cases b' with
 | cells own fz T cs=>obtain⟨o,c,h1,h2,h3⟩:=h;exact⟨o,c,h1,h2,fun e=>by cases e⟩
 | map own es=>obtain⟨o,c,h1,h2,h3,h4⟩:=h;exact⟨o,c,h1,h2,(fun e=>by cases e),h4⟩
 | hole=>exact h
 | dead=>exact h
 | nils=>exact h
def ig.ks:ig→List Key
 | .d _=>[]
 | .ptr k _=>[k]
 | .aR k _ _ _=>[k]
def Ref.ks:Ref→List Key
 | .d _=>[]
 | .ptr k _=>[k]
 | .aR k _ _ _=>[k]
 | .agg cs=>cs.flatMap ig.ks
 | .ifc _ x=>x.ks
def CV.ks:CV→List Key
 | .d _=>[]
 | .ptr k _=>[k]
 | .aR k _ _ _=>[k]
 | .mapr k=>[k]
 | .func _ f c=>f.flatMap Ref.ks++c.flatMap Ref.ks
 | .ifc _ x=>x.ks
 | .junk=>[]
def AV.Vu:AV→List Key
 | .c x=>x.ks
 | .agg cs=>cs.flatMap CV.ks
 | _=>[]
def AV.ks:AV→List Key
 | .tup l=>l.flatMap AV.Vu
 | x=>x.Vu
def LB.ks:LB→List Key
 | .cells _ _ _ cs=>cs.flatMap CV.ks
 | .map _ es=>es.flatMap fun q=>q.2.Vu
 | _=>[]
def reach (lv:Key→LB):Nat→List Key→Tr Nat→List Key→Nat→Option (Tr Nat × List Key)
 | 0,_,_,_,_=>none
 | _+1,[],t,l,_=>some (t,l.reverse)
 | f+1,k::r,t,l,n=>match t.get k with
  | some _=>reach lv f r t l n
  | none=>match t.set 30 k n with
   | some t'=>reach lv f ((lv k).ks++r) t' (k::l) (n+1)
   | none=>none
def qB (t:Tr Nat):Key→Key:=fun k=>match t.get k with|some j=>j|none=>0
def pT (t:Tr Nat)(g:Key→Key):Key→Bool:=fun k=>match t.get k with|some j=>Nat.beq (g j) k|none=>false
theorem Q5 {t:Tr Nat}{k:Key}(h:pT t g k=true):g (qB t k)=k:=by
 unfold pT at h;unfold qB;split at h
 ·rename_i j hj;exact W1 h
 ·cases h
def Cb (k:Nat):List Nat→Bool
 | []=>false
 | a::r=>Nat.beq a k || Cb k r
theorem nS {k:Nat}:∀ {l:List Nat},Cb k l=true↔k∈l
 | []=>by simp [Cb]
 | a::r=>by
  simp only [Cb,Xl,nS (l:=r),WM];constructor
  ·rintro (h|h)
   ·exact .inl (W1 h).symm
   ·exact .inr h
  ·rintro (h|h)
   ·exact .inl (by subst h;exact Nat.beq_refl k)
   ·exact .inr h
def nodupB:List Nat→Bool
 | []=>true
 | a::r=>!Cb a r && nodupB r
theorem zj:∀ {l:List Nat},nodupB l=true→l.Nodup
 | [],_=>List.nodup_nil
 | a::r,h=>by
  simp only [nodupB,cn,W8] at h;refine List.nodup_cons.2 ⟨fun hm=>?_,zj h.2⟩;rw [nS.2 hm] at h;cases h.1
def LB.isHole:LB→Bool
 | .hole=>true
 | _=>false
theorem LB.l7:b.isHole=true↔b=.hole:=by cases b <;> simp [LB.isHole]
def iX:Nat→Nat→List Nat
 | _,0=>[]
 | a,n+1=>a::iX (a+1) n
theorem kf:∀ (n a:Nat),(iX a n).length=n
 | 0,_=>rfl
 | n+1,a=>by simp [iX,kf n]
theorem qb:∀ (n a i:Nat) (h:i<(iX a n).length),(iX a n)[i]=a+i
 | 0,_,i,h=>absurd h (Xf i)
 | n+1,a,0,h=>rfl
 | n+1,a,i+1,h=>by
  simp only [iX,List.getElem_cons_succ];rw [qb n];omega
structure Pass where
 us:List AV
 σ:List LB
 sel:List Key
 t:Tr Nat
def El (lv:Key→LB)(as:List AV):Option Pass:=
 match reach lv 1000000 (as.flatMap AV.ks) .nil [] 0 with
 | some (t,sel)=>some ⟨as.map (AV.bU (qB t)),sel.map fun k=>((lv k).bU (qB t)).m5,sel,t⟩
 | none=>none
def x8 (lv:Key→LB)(as:List AV)(q:Pass)(nk:List Key)(kh:Key):Bool:=
 let p:=pT q.t (aJ q.sel nk kh)
 as.all (fun a=>a.qS p && a.bY) && q.us.all AV.bY && q.sel.all (fun k=>(lv k).qS p && !(lv k).isHole) && q.σ.all LB.pass &&
  nodupB (q.sel++nk) && !Cb kh (q.sel++nk) && nk.all (fun k=>(lv k).isHole) && (lv kh).isHole && Nat.ble q.σ.length 1000
def FU (q:Pass)(nk:List Key)(σ' ν:List LB):Bool:=
 Nat.beq σ'.length q.σ.length && Nat.beq nk.length ν.length && (σ'++ν).all (fun b=>!b.isHole)
theorem A2 {lv:Key→LB}{p:Key→Bool}{R:List Key}(h1:∀ k,p k=true→k∈R) (h2:∀ k∈R,(lv k).qS p=true):∀ (n:Nat) (x:CV),x.qS p=true→∀ k∈lY lv n x,k∈R
 | n+1,.ptr k _,hx,j,hj=>by
  simp only [lY,WM] at hj;rcases hj with rfl|hj
  ·exact h1 _ hx
  ·have h3:=h2 k (h1 _ hx)
   cases e:lv k with
   | cells own fz T cs=>
    rw [e] at hj h3;simp only [XQ] at hj;obtain⟨y,hy,hj⟩:=hj;simp only [LB.qS,E5] at h3;exact A2 h1 h2 n y (h3 y hy) j hj
   | _=>rw [e] at hj;cases hj
 | n+1,.aR k _ _ _,hx,j,hj=>by
  simp only [lY,WM] at hj;rcases hj with rfl|hj
  ·exact h1 _ hx
  ·have h3:=h2 k (h1 _ hx)
   cases e:lv k with
   | cells own fz T cs=>
    rw [e] at hj h3;simp only [XQ] at hj;obtain⟨y,hy,hj⟩:=hj;simp only [LB.qS,E5] at h3;exact A2 h1 h2 n y (h3 y hy) j hj
   | _=>rw [e] at hj;cases hj
 | 0,.ptr ..,_,_,hj=>by cases hj
 | 0,.aR ..,_,_,hj=>by cases hj
 | n,.d _,_,_,hj=>by cases n <;> cases hj
 | n,.mapr _,_,_,hj=>by cases n <;> cases hj
 | n,.func ..,_,_,hj=>by cases n <;> cases hj
 | n,.ifc ..,_,_,hj=>by cases n <;> cases hj
 | n,.junk,_,_,hj=>by cases n <;> cases hj
theorem O9{R:List Key}(h1:∀ k,p k=true→k∈R) (h2:∀ k∈R,(lv k).qS p=true)(hx:x.qS p=true):∀ k∈pE lv x,k∈R:=by
 cases x with
 | c x=>exact A2 h1 h2 8 x hx
 | agg cs=>
  intro k hk;simp only [pE,XQ] at hk;obtain⟨y,hy,hk⟩:=hk;simp only [AV.qS,AV.JP,E5] at hx;exact A2 h1 h2 8 y (hx y hy) k hk
 | _=>intro k hk;cases hk
theorem En {sel:List Key}{j:Key}:aJ sel nk kh j∈sel∨aJ sel nk kh j∈nk∨aJ sel nk kh j=kh:=by
 unfold aJ;split
 ·rw [WO]
  by_cases h:j<sel.length
  ·left;rw [rP h];exact aW h
  ·right;right;rw [Yc (Yr h)];rfl
 ·rw [WO]
  by_cases h:j - 1000<nk.length
  ·right;left;rw [rP h];exact aW h
  ·right;right;rw [Yc (Yr h)];rfl
theorem bS.pass {c:Ctx}{f:FuncId}{as:List AV}{q:Pass}{σ' ν:List LB}(hq:El lv as=some q) (h1:x8 lv as q nk kh=true) (h2:FU q nk σ' ν=true)
 (hc:aF c.P c.G f q.us q.σ (.ret x σ' ν)):bS c f as lv (x.bU (aJ q.sel nk kh)) (cj (aJ q.sel nk kh) false q.sel σ'++cj (aJ q.sel nk kh) false nk ν) (kh::q.sel++nk):=by
 unfold El at hq;split at hq
 ·rename_i t sel hr
  simp only [ai] at hq;subst hq;simp only [x8,cn,E5,W8] at h1;obtain⟨⟨⟨⟨⟨⟨⟨⟨a1,a2⟩,a3⟩,a4⟩,a5⟩,a6⟩,a7⟩,a8⟩,a9⟩:=h1;simp only [FU,cn,E5,W8] at h2;obtain⟨⟨b1,b2⟩,b3⟩:=h2;have hp:∀ k,pT t (aJ sel nk kh) k=true→aJ sel nk kh (qB t k)=k:=fun k h=>Q5 h
  have e1:=W1 b1;have e2:=W1 b2;have hnh:∀ b:LB,b.isHole=false→b≠.hole:=fun b h e=>by rw [e] at h;cases h
  refine bS.gen (as.map (AV.bU (qB t))) [] sel nk kh (sel.map fun k=>((lv k).bU (qB t)).m5) σ' ν x false (kh::sel++nk) (fun z hz=>by cases hz) (by simp) (zj a5) (fun z hz=>by cases hz)
   (fun hm=>by rw [nS.2 hm] at a6;cases a6) (fun z hz=>by cases hz) (by simp) e1 e2 (W9 a9)
   (fun i p q=>?_) (fun k hk=>LB.l7.1 (a7 k hk)) (LB.l7.1 a8) a4 (fun b hb=>?_) (fun h=>by cases h) (by simp) (fun i p q=>?_) (fun a ha k hk=>.inl ?_) (by simp) hc
  ·have e:(sel.map fun k=>((lv k).bU (qB t)).m5)[i]=((lv sel[i]).bU (qB t)).m5:=WK _;show LB.as _ ((sel.map fun k=>((lv k).bU (qB t)).m5)[i]) _;rw [e];exact LB.Lu (LB.PM hp (a3 _ (aW p)).1)
  ·rw [WY,XF] at hb;rcases hb with hb|hb
   ·obtain⟨k,hk,rfl⟩:=List.mem_map.1 hb;have h3:=hnh _ (a3 k hk).2;intro e
    cases e2:lv k <;> rw [e2] at e h3 <;> simp [LB.bU,LB.m5] at e h3
   ·exact hnh b (b3 b hb)
  ·left;have e:(as.map (AV.bU (qB t)))[i]=(as[i]).bU (qB t):=WK _;show AV.bY ((as.map (AV.bU (qB t)))[i])=true∧_=AV.bU _ ((as.map (AV.bU (qB t)))[i]);rw [e];have ha:=a1 _ (aW p);refine⟨a2 _ ?_,(AV.vk hp ha.1 ha.2).symm⟩;simp only [Xp];exact⟨_,aW p,rfl⟩
  ·have ha:=a1 a ha;refine O9 (p:=pT t (aJ sel nk kh)) (lv:=lv) (fun k h=>?_) (fun k hk'=>?_) ha.1 k (by simpa [dJ,aS] using hk)
   ·have h4:=hp k h;rw [← h4];rcases En (sel:=sel) (nk:=nk) (kh:=kh) (j:=qB t k) with h5|h5|h5
    ·simp [h5]
    ·simp [h5]
    ·rw [h5];simp
   ·simp only [YI,WM,XF] at hk';rcases hk' with rfl|hk'|hk'
    ·rw [LB.l7.1 a8];rfl
    ·exact (a3 k hk').1
    ·rw [LB.l7.1 (a7 k hk')];rfl
 ·cases hq
end Go.Am
namespace Go.Am
variable {x y v z:AV}{κ i j id u:Nat}{T T' S ty:TypeId}{f:FuncId}{s:aB}{a1 a2 a3 a4 vc a5 a6 φ a7:Prop}{c:Ctx}{xs xs' args:List AV}{Q:Ex→aB→Nat→Prop}{lv:Key→LB}{o:Op}{r:Option Nat}{n:Int}{K:AV→List (Key × LB)→List Key→Nat→Prop}{w:Bool}{α:Type}{G:List (List DV)}{fn:Func}{rds:List Key}{os:List Oper}{ts:Array TypeId}{P:Program}{d:Option Tmp}{a b:Unit→Prop}{ops:Array Oper}{gd:List (Option Tmp)}{fr:Nat→AV}{k k':IntKind}{op:BinOp}{l h:Operand}{code:Code}{pos:String}{af:Array Edge}{parts:Array (Nat × Operand)}
inductive cK where
 | bad (n:Nat) (o:List Op)
 | done (x:AV) (lv:Tb LB) (nx:Nat) (lg:List Key)
 | rG (d:DV) (lv:Tb LB) (nx:Nat) (lg:List Key)
abbrev EA:=AV→Tb LB→Nat→List Key→cK
abbrev Mm:=DV→Tb LB→Nat→List Key→cK
abbrev dS:=FuncId→List AV→Tb LB→Nat→List Key→EA→Mm→cK
abbrev Qx:=Ex→Tb AV→Tb LB→Nat→List Key→cK
noncomputable def lK(x:Option α) (b:cK) (k:α→cK):cK:=Option.rec (motive:=fun _=>cK) b (fun a=>k a) x
noncomputable def eE (x:Bool)(f t:cK):cK:=Bool.rec (motive:=fun _=>cK) f t x
theorem dx{x:Option α}{b r:cK}{k:α→cK}(h:lK x b k=r) (hb:b≠r):∃ a,x=some a∧k a=r:=by
 cases x with
 | none=>exact absurd h hb
 | some a=>exact⟨a,rfl,h⟩
theorem cZ {x:Bool}{f t r:cK}(h:eE x f t=r) (hf:f≠r):x=true∧t=r:=by
 cases x with
 | false=>exact absurd h hf
 | true=>exact⟨rfl,h⟩
section
variable (P:Program) (G:List (List DV))
noncomputable def yP (fr:Tb AV)(x:Operand):AV:=
 Operand.rec (motive:=fun _=>AV) (fun t=>fr.get .undef (pathOf t)) (fun v=>sB v) (fun g=>match G[g]? with|some cs=>.c (.d (.ptr cs))|none=>.junk) (fun f=>.c (.d (.func (.func f) [] []))) x
noncomputable def gA (fr:Tb AV)(l:List Operand):List AV:=
 List.rec (motive:=fun _=>List AV) [] (fun x _ ih=>yP G fr x::ih) l
noncomputable def Ah (us:List (Key × LB))(lv:Tb LB)(lg:List Key)(k:Tb LB→List Key→cK):cK:=
 List.rec (motive:=fun _=>Tb LB→List Key→(Tb LB→List Key→cK)→cK) (fun lv lg k=>k lv lg)
  (fun p _ ih lv lg k=>c9 p.1 fun q=>tf p.2 fun b=>eE b.okB (.bad 3 []) (Tb.BP .hole b (pathOf q) lv fun lv=>ih lv (q::lg) k)) us lv lg k
noncomputable def eu (d:Option Nat)(x:AV)(fr:Tb AV)(k:Tb AV→cK):cK:=
 Option.rec (motive:=fun _=>cK) (k fr) (fun d=>dN x fun x=>Tb.BP .undef x (pathOf d) fr k) d
noncomputable def Oe (op:Op)(vals:List AV)(lv:Tb LB)(nx:Nat)(k:AV→List (Key × LB)→List Key→cK):cK:=
 Option.rec (motive:=fun _=>cK) (lK (gL P op vals (aY lv) nx) (.bad 2 [op]) fun r=>k r.1 r.2.1 r.2.2)
  (fun r=>eE r.2.2.2 (lK (gL P op vals (aY lv) nx) (.bad 1 [op]) fun r=>k r.1 r.2.1 r.2.2) (k r.1 r.2.1 r.2.2.1)) (sU P op vals (aY lv) nx)
noncomputable def LX (nx:Nat)(us:List (Key × LB))(k:Nat→cK):cK:=
 List.rec (motive:=fun _=>cK) (k nx) (fun p _ ih=>eE (Nat.beq p.1 nx) ih (c9 nx fun n=>k (Nat.succ n))) us
structure Rec where
 x:AV
 us:List (Key × LB)
 rds:List Key
 all:Bool
 lv:Tb LB
 op:Op
 vals:List AV
 nx:Nat
inductive Qf where
 | rG (x:Operand)
 | call (cl:Call) (fo:Operand)
 | plain
def tU (op:Op):Qf:=
 match op with
 | .panic x=>.rG x
 | .call cl=>match cl.callee with|.value fo=>.call cl fo|_=>.plain
 | _=>.plain
noncomputable def Kx (x:AV)(k:DV→cK)(b:cK):cK:=
 match x with
 | .c (.d (.iface t d))=>k (.iface t d)
 | _=>b
noncomputable def LA (f:FuncId)(t:cK):cK:=eE (aG P f) (.bad 4 []) t
noncomputable def uP (call:dS)(op:Op)(cl:Call)(fo:Operand)(fr:Tb AV)(lv:Tb LB)(nx:Nat)(lg:List Key)(kr:EA)(kp:Mm):cK:=
 lK (b7 (yP G fr fo)) (.bad 5 [op]) fun t=>LA P t.1 (call t.1 (t.2.1++gA G fr cl.args.toList++t.2.2) lv nx lg kr kp)
noncomputable def xM (call:dS)(ops:Array Oper)(os:List Oper)(fr:Tb AV)(lv:Tb LB)(nx:Nat)(lg:List Key)(k:Qx):cK:=
 List.rec (motive:=fun _=>Tb AV→Tb LB→Nat→List Key→Qx→cK) (fun fr lv nx lg k=>k .normal fr lv nx lg)
  (fun o _ ih fr lv nx lg k=>lK (dM ops o.guard (jK fr)) (.bad 6 [o.op]) fun b=>
   eE b (eu o.dst .undef fr fun fr=>ih fr lv nx lg k)
    (Qf.rec (motive:=fun _=>cK)
     (fun x=>Kx (yP G fr x) (fun d=>k (.panic d) fr lv nx lg) (.bad 7 [o.op]))
     (fun cl fo=>uP P G call o.op cl fo fr lv nx lg (fun x lv nx lg=>eu o.dst x fr fun fr=>ih fr lv nx lg k) (fun d lv nx lg=>k (.panic d) fr lv nx lg))
     (Oe P o.op (gA G fr o.op.operands.toList) lv nx fun x us _=>LX nx us fun nx'=>eu o.dst x fr fun fr=>Ah us lv lg fun lv lg=>ih fr lv nx' lg k)
     (tU o.op))) os fr lv nx lg k
noncomputable def IV (σ:List LB)(i:Nat)(lv:Tb LB)(k:Tb LB→cK):cK:=
 List.rec (motive:=fun _=>Nat→Tb LB→(Tb LB→cK)→cK) (fun _ lv k=>k lv) (fun x _ ih i lv k=>tf x fun x=>Tb.BP .hole x (pathOf i) lv fun lv=>ih (Nat.succ i) lv k) σ i lv k
noncomputable def KU (lv:Tb LB)(nx:Nat)(as:List AV)(q:Pass)(x:AV)(lv':Tb LB)(n':Nat)(lg:List Key)(k:AV→List (Key × LB)→List Key→Nat→cK):cK:=
 let σ':=(iX 0 q.σ.length).map (aY lv')
 let ν:=(iX 1000 (n' - 1000)).map (aY lv')
 let nk:=iX nx ν.length
 let kh:=nx+ν.length
 let g:=aJ q.sel nk kh
 eE (lg.all (fun a=>Nat.blt a q.σ.length || (Nat.ble 1000 a && Nat.blt a n')) && x8 (aY lv) as q nk kh && FU q nk σ' ν) (.bad 40 [])
  (k (x.bU g) (cj g false q.sel σ'++cj g false nk ν) (kh::q.sel++nk) (kh+1))
noncomputable def UR (r:cK)(k:AV→Tb LB→Nat→List Key→cK):cK:=
 cK.rec (motive:=fun _=>cK) (fun n o=>.bad n o) (fun x lv nx lg=>k x lv nx lg) (fun _ _ _ _=>.bad 41 []) r
noncomputable def tA (call:dS)(op:Op)(cl:Call)(fo:Operand)(fr:Tb AV)(lv:Tb LB)(nx:Nat)(k:AV→List (Key × LB)→List Key→Nat→cK):cK:=
 lK (b7 (yP G fr fo)) (.bad 42 [op]) fun t=>LA P t.1 (
  lK (El (aY lv) (t.2.1++gA G fr cl.args.toList++t.2.2)) (.bad 43 [op]) fun q=>IV q.σ 0 .leaf fun l0=>
   UR (call t.1 q.us l0 1000 [] .done .rG) fun x lv' n' lg=>KU lv nx (t.2.1++gA G fr cl.args.toList++t.2.2) q x lv' n' lg k)
def Sd (op:Op):Bool:=
 match op with
 | .alloc _|.box _ _|.buildSlice _ _ _|.insert _ _ _ _|.store _ _ _|.makeMap _ _|.makeSlice _ _ _|.mapUpdate _ _ _ _|.mapEntry _ _ _|.entryStore _ _ _ _=>true
 | .call cl=>match cl.callee with|.builtin .append|.builtin .copy|.builtin .unsafeString|.builtin .clear|.builtin .delete=>true|_=>false
 | _=>false
def AE:Qf→Bool
 | .call _ _=>true
 | _=>false
def Mv (ops:Array Oper):Bool:=
 let ms:=gI ops.toList []
 (List.range ops.size).any fun j=>(List.range j).any fun i=>!(ms.getD j 0).testBit i && (match ops[i]?,ops[j]? with
  | some o,some o'=>(AE (tU o.op) && (Sd o'.op || AE (tU o'.op))) || (AE (tU o'.op) && Sd o.op)
  | _,_=>false)
noncomputable def iM (call:dS)(ops:Array Oper)(os:List Oper)(fr:Tb AV)(lv:Tb LB)(nx:Nat)(lg:List Key)(acc:List Rec)(k:List Rec→Tb AV→Tb LB→Nat→List Key→cK):cK:=
 List.rec (motive:=fun _=>Tb AV→Tb LB→Nat→List Key→List Rec→(List Rec→Tb AV→Tb LB→Nat→List Key→cK)→cK) (fun fr lv nx lg acc k=>k acc fr lv nx lg)
  (fun o _ ih fr lv nx lg acc k=>lK (dM ops o.guard (jK fr)) (.bad 8 [o.op]) fun b=>
   eE b (eu o.dst .undef fr fun fr=>ih fr lv nx lg (⟨.undef,[],[],false,lv,o.op,[],nx⟩::acc) k)
    (Qf.rec (motive:=fun _=>cK)
     (fun _=>.bad 9 [o.op])
     (fun cl fo=>eE (Mv ops)
      (uP P G call o.op cl fo fr lv nx [] (fun x lv' nx' lg'=>dN x fun x=>eu o.dst x fr fun fr=>ih fr lv' nx' (lg'++lg) (⟨x,lg'.map fun q=>(q,aY lv' q),[],true,lv,o.op,[],nx⟩::acc) k) (fun _ _ _ _=>.bad 10 [o.op]))
      (tA P G call o.op cl fo fr lv nx fun x us rds nx'=>dN x fun x=>eu o.dst x fr fun fr=>Ah us lv lg fun lv' lg=>ih fr lv' nx' lg (⟨x,us,rds,false,lv,o.op,[],nx⟩::acc) k))
     (Oe P o.op (gA G fr o.op.operands.toList) lv nx fun x us rds=>LX nx us fun nx'=>dN x fun x=>eu o.dst x fr fun fr'=>Ah us lv lg fun lv' lg=>ih fr' lv' nx' lg (⟨x,us,rds,false,lv,o.op,gA G fr o.op.operands.toList,nx⟩::acc) k)
     (tU o.op))) os fr lv nx lg acc k
end
def Jo (a b:DV):Bool:=
 match a,b with
  | .bool x,.bool y=>x == y
  | .int k x,.int k' y=>decide (k=k') && x == y
  | .str x,.str y=>x == y
  | .nilp,.nilp=>true
  | .nilsl,.nilsl=>true
  | .nilIface,.nilIface=>true
  | .nilFunc,.nilFunc=>true
  | .nilmap,.nilmap=>true
  | _,_=>false
theorem KH {a b:DV}(h:Jo a b=true):a=b:=by
 unfold Jo at h;split at h <;> first|rfl|(simp only [beq_iff_eq] at h;rw [h];done)|(simp only [cn,decide_eq_true_eq,beq_iff_eq] at h;rw [h.1,h.2];done)|cases h
def CV.beq:CV→CV→Bool
 | .d a,.d b=>Jo a b
 | .ptr k o,.ptr k' o'=>Nat.beq k k' && Nat.beq o o'
 | .aR k o l z,.aR k' o' l' z'=>Nat.beq k k' && Nat.beq o o' && Nat.beq l l' && Nat.beq z z'
 | .mapr k,.mapr k'=>Nat.beq k k'
 | _,_=>false
theorem CV.beq_eq {x y:CV}(h:CV.beq x y=true):x=y:=by
 unfold CV.beq at h;split at h
 ·rw [KH h]
 ·simp only [cn] at h;rw [W1 h.1,W1 h.2]
 ·simp only [cn] at h;rw [W1 h.1.1.1,W1 h.1.1.2,W1 h.1.2,W1 h.2]
 ·rw [W1 h]
 ·cases h
def G0:List CV→List CV→Bool
 | [],[]=>true
 | a::l,b::m=>CV.beq a b && G0 l m
 | _,_=>false
theorem CM:∀ {l m:List CV},G0 l m=true→l=m
 | [],[],_=>rfl
 | a::l,b::m,h=>by simp only [G0,cn] at h;rw [CV.beq_eq h.1,CM h.2]
 | [],_::_,h=>by cases h
 | _::_,[],h=>by cases h
def AV.beq:AV→AV→Bool
 | .c a,.c b=>CV.beq a b
 | .agg a,.agg b=>G0 a b
 | _,_=>false
theorem AV.beq_eq(h:AV.beq x y=true):x=y:=by
 unfold AV.beq at h;split at h
 ·rw [CV.beq_eq h]
 ·rw [CM h]
 ·cases h
section
variable (P:Program) (G:List (List DV))
noncomputable def DC (f:Rec)(k:Key)(b:LB):Bool:=
 match sU P f.op f.vals (aC (aY f.lv) k b) f.nx with
 | some (x,[],[k'],true)=>AV.beq x f.x && Nat.beq k' k
 | _=>false
def Bc:List α→Bool
 | []=>true
 | _=>false
def M0 (k:Key):List Key→Bool
 | [a]=>Nat.beq a k
 | _=>false
noncomputable def EW (f g:Rec):Bool:=
 (!f.all || Bc g.us) && (!g.all || Bc f.us) && f.us.all (fun p=>!(g.us.any fun q=>Nat.beq q.1 p.1)) &&
 f.us.all (fun p=>!Cb p.1 g.rds || (Bc g.us && M0 p.1 g.rds && DC P g p.1 (aY f.lv p.1))) &&
 g.us.all (fun p=>!Cb p.1 f.rds || (Bc f.us && M0 p.1 f.rds && DC P f p.1 (aS (fun _=>.hole) (s5 g.us) p.1)))
noncomputable def Rec.quiet (f:Rec):Bool:=Bc f.us && !f.all
noncomputable def Rec.idle (f:Rec):Bool:=Bc f.us && Bc f.rds && !f.all
noncomputable def Ny (ms:List Nat)(fs:List Rec):Bool:=
 pairs ms fs 0 []
where
 pairs (ms:List Nat):List Rec→Nat→List (Nat × Rec)→Bool
 | [],_,_=>true
 | g::r,j,before=>
  bif Rec.idle g then pairs ms r (j+1) before else
   before.all (fun p=>(Rec.quiet g && Rec.quiet p.2) || (ms.getD j 0).testBit p.1 || EW P p.2 g) && pairs ms r (j+1) ((j,g)::before)
abbrev RunT:=dS→Nat→Tb AV→Tb LB→Nat→List Key→Qx→cK
noncomputable def WJ (e:Ex)(n:cK)(r:cK)(x:Nat→cK)(p:cK):cK:=
 Ex.rec (motive:=fun _=>cK) n x (fun _=>p) r (fun _=>p) e
noncomputable def JB:RunT:=fun _ _ fr lv nx lg k=>k .normal fr lv nx lg
noncomputable def DJ (_:Nat)(ops:Array Oper)(dr:Bool):RunT:=fun call N fr lv nx lg k=>
 eE (cz N ops.toList) (.bad 11 []) (Bool.rec (motive:=fun _=>cK) (xM P G call ops ops.toList fr lv nx lg k)
  (eE (fW ops) (.bad 12 []) (iM P G call ops ops.toList fr lv nx lg [] fun acc fr lv nx lg=>eE (Ny P (gI ops.toList []) acc.reverse) (.bad 13 (ops.toList.map (·.op))) (k .normal fr lv nx lg))) dr)
noncomputable def Ok (_ _:Code)(a b:RunT):RunT:=fun call N fr lv nx lg k=>
 a call N fr lv nx lg fun e fr lv nx lg=>Ex.rec (motive:=fun _=>cK) (b call N fr lv nx lg k) (fun i=>k (.exit i) fr lv nx lg) (fun i=>k (.goto i) fr lv nx lg) (k .ret fr lv nx lg) (fun d=>k (.panic d) fr lv nx lg) e
noncomputable def Jq (x:AV)(f t:cK):cK:=
 match x with
 | .c (.d (.bool b))=>eE b f t
 | _=>.bad 14 []
noncomputable def Kh (c:Operand)(_ _:Code)(a b:RunT):RunT:=fun call N fr lv nx lg k=>
 Jq (yP G fr c) (b call N fr lv nx lg k) (a call N fr lv nx lg k)
noncomputable def GA (id:Nat)(_:Code)(a:RunT):RunT:=fun call N fr lv nx lg k=>
 a call N fr lv nx lg fun e fr lv nx lg=>Ex.rec (motive:=fun _=>cK) (k .normal fr lv nx lg) (fun i=>Bool.rec (motive:=fun _=>cK) (k (.exit i) fr lv nx lg) (k .normal fr lv nx lg) (Nat.beq i id)) (fun i=>k (.goto i) fr lv nx lg) (k .ret fr lv nx lg) (fun d=>k (.panic d) fr lv nx lg) e
noncomputable def Lb (a:RunT)(call:dS)(N:Nat)(n:Nat):Tb AV→Tb LB→Nat→List Key→Qx→cK:=
 Nat.rec (motive:=fun _=>Tb AV→Tb LB→Nat→List Key→Qx→cK) (fun _ _ _ _ _=>.bad 15 [])
  (fun _ ih fr lv nx lg k=>a call N fr lv nx lg fun e fr lv nx lg=>Ex.rec (motive:=fun _=>cK) (ih fr lv nx lg k) (fun i=>k (.exit i) fr lv nx lg) (fun i=>k (.goto i) fr lv nx lg) (k .ret fr lv nx lg) (fun d=>k (.panic d) fr lv nx lg) e) n
noncomputable def JW (_:Code)(a:RunT):RunT:=fun call N=>Lb a call N 1000000
noncomputable def PT (id:Nat):RunT:=fun _ _ fr lv nx lg k=>k (.exit id) fr lv nx lg
noncomputable def OI (id:Nat):RunT:=fun _ _ fr lv nx lg k=>k (.goto id) fr lv nx lg
noncomputable def Q8:RunT:=fun _ _ fr lv nx lg k=>k .ret fr lv nx lg
noncomputable def GU:RunT:=fun _ _ _ _ _ _ _=>.bad 16 []
noncomputable def runK (c:Code):RunT:=
 Code.rec (motive:=fun _=>RunT) JB (DJ P G) Ok (Kh G) GA JW (fun _ _ _ _ _ _=>GU) PT (fun _ _=>GU) (fun _=>JB) OI Q8 (fun _=>GU) c
noncomputable def JT (us:List AV)(i:Nat)(fr:Tb AV)(k:Tb AV→cK):cK:=
 List.rec (motive:=fun _=>Nat→Tb AV→(Tb AV→cK)→cK) (fun _ fr k=>k fr) (fun x _ ih i fr k=>Tb.BP .undef x (pathOf i) fr fun fr=>ih (Nat.succ i) fr k) us i fr k
inductive Spec where
 | body
 | pure (g:List AV→Option AV)
 | caught
 | self (g:Nat→Nat→Nat→Bool)
noncomputable def NX (call:dS)(f:FuncId)(us:List AV)(lv:Tb LB)(nx:Nat)(lg:List Key)(kr:EA)(kp:Mm):cK:=
 lK P.funcs[f]? (.bad 17 []) fun fn=>lK fn.body (.bad 18 []) fun c=>eE (Nat.ble us.length fn.ntmps) (.bad 19 []) (
  JT us 0 .leaf fun fr=>runK P G c call fn.ntmps fr lv nx lg fun e fr lv nx lg=>
   Ex.rec (motive:=fun _=>cK) (lK (cH P ⟨jK fr,aY lv⟩ fn.results.toList) (.bad 20 []) fun x=>dN x fun x=>kr x lv nx lg) (fun _=>.bad 21 []) (fun _=>.bad 22 []) (lK (cH P ⟨jK fr,aY lv⟩ fn.results.toList) (.bad 23 []) fun x=>dN x fun x=>kr x lv nx lg)
    (fun d=>kp d lv nx lg) e)
noncomputable def vM (ft:TypeId)(call:dS)(us:List AV)(lv:Tb LB)(nx:Nat)(lg:List Key)(kr:EA):cK:=
 match us with
 | [x]=>lK (b7 x) (.bad 24 []) fun t=>LA P t.1 (call t.1 (t.2.1++t.2.2) lv nx lg (fun _ lv nx lg=>kr (.c (.d (.int .i64 0))) lv nx lg)
  (fun d lv nx lg=>match d with
   | .iface t (.agg [.int .i64 n])=>eE (Nat.beq t ft) (.bad 25 []) (kr (.c (.d (.int .i64 n))) lv nx lg)
   | _=>.bad 26 []))
 | _=>.bad 27 []
noncomputable def GL (g:Nat→Nat→Nat→Bool)(us:List AV)(lv:Tb LB)(nx:Nat)(lg:List Key)(kr:EA):cK:=
 match us with
 | [.c (.ptr k off)]=>(match aY lv k with
  | .cells own false T cs=>eE (g T off cs.length) (.bad 34 []) (match cs.drop off with
   | .d .nilp::_=>Ah [(k,.cells own false T (aj cs off [.ptr k off]))] lv lg fun lv lg=>kr (.tup []) lv nx lg
   | .ptr k' off'::_=>eE (Nat.beq k' k && Nat.beq off' off) (.bad 30 []) (kr (.tup []) lv nx lg)
   | _=>.bad 31 [])
  | _=>.bad 32 [])
 | _=>.bad 33 []
noncomputable def P9 (sp:Tb Spec)(ft:TypeId)(n:Nat):dS:=
 Nat.rec (motive:=fun _=>dS) (fun _ _ _ _ _ _ _=>.bad 28 [])
  (fun _ ih f us lv nx lg kr kp=>Spec.rec (motive:=fun _=>cK) (NX P G ih f us lv nx lg kr kp) (fun g=>lK (g us) (.bad 29 []) fun x=>dN x fun x=>kr x lv nx lg) (vM P ft ih us lv nx lg kr) (fun g=>GL g us lv nx lg kr) (sp.get .body (pathOf f))) n
end
def gV (r:Option bZ)(κ:Nat)(K:AV→List (Key × LB)→List Key→Nat→Prop):Prop:=
 match r with
 | some (x,us,rds,vc)=>vc∧K x us rds (match us with|[]=>κ|_=>κ+1)
 | none=>False
@[simp ↓] theorem S1:gV (some (x,[],rds,vc)) κ K=(vc∧K x [] rds κ):=rfl
@[simp ↓] theorem Rb{p:Key × LB}{us:List (Key × LB)}:gV (some (x,p::us,rds,vc)) κ K=(vc∧K x (p::us) rds (κ+1)):=rfl
@[simp ↓] theorem QU:gV none κ K=False:=rfl
@[congr] theorem Qe {r r':Option bZ}(h:∀ _:Unit,r=r'):gV r κ K=gV r' κ K:=by rw [h ()]
def lu (w:Option Bool)(a b:Unit→Prop):Prop:=match w with|some true=>a ()|some false=>b ()|none=>False
@[simp ↓] theorem RD:lu (some true) a b=a ():=rfl
@[simp ↓] theorem Sm:lu (some false) a b=b ():=rfl
@[congr] theorem MG {w w':Option Bool}(h:∀ _:Unit,w=w'):lu w a b=lu w' a b:=by rw [h ()]
def nO (o:Option Tmp)(f:Tmp→Prop):Prop:=match o with|some t=>f t|none=>False
@[simp ↓] theorem St {t:Tmp}{f:Tmp→Prop}:nO (some t) f=f t:=rfl
@[congr] theorem ML {o o':Option Tmp}{f:Tmp→Prop}(h:∀ _:Unit,o=o'):nO o f=nO o' f:=by rw [h ()]
def nG (c:Ctx)(ops:Array Oper)(os:List Oper)(s:aB)(κ:Nat)(K:aB→Nat→Prop):Prop:=fM c ops os s κ [] fun s κ _=>K s κ
theorem lO {c:Ctx}{ops:Array Oper}{K:aB→Nat→Prop}:∀ {os:List Oper}{s:aB}{κ:Nat}{acc acc':List Fx},fM c ops os s κ acc (fun s κ _=>K s κ)=fM c ops os s κ acc' (fun s κ _=>K s κ)
 | [],s,κ,_,_=>rfl
 | o::os,s,κ,acc,acc'=>by
  simp only [fM];split
  ·congr 1;funext x us rds κ';exact lO
  ·exact lO
  ·rfl
section
variable {c:Ctx}{ops:Array Oper}{s:aB}{κ:Nat}{d:Option Tmp}{ty:TypeId}{pos:String}{af:Array Edge}{K:AV→List (Key × LB)→List Key→Nat→Prop}
@[simp ↓] theorem Qv {K:aB→Nat→Prop}:nG c ops [] s κ K=K s κ:=rfl
@[simp ↓] theorem FO{K:aB→Nat→Prop}:nG c ops (⟨d,o,ty,pos,af,none⟩::os) s κ K =
 dw c ⟨d,o,ty,pos,af,none⟩ s κ fun x us _ κ'=>nG c ops os (aB.put ⟨s.fr,aS s.lv us⟩ d x) κ' K:=by
 simp only [nG,fM,dM];congr 1;funext x us rds κ';exact lO
def nM (x:AV)(want:Bool):Option Bool:=
 match x with
 | .c (.d (.bool b))=>some (b == want)
 | .undef=>some false
 | _=>none
@[simp ↓] theorem DA{K:aB→Nat→Prop}:nG c ops (⟨d,o,ty,pos,af,some (j,w)⟩::os) s κ K =
 nO ((ops[j]?).bind (·.dst)) fun t=>lu (nM (s.fr t) w)
  (fun _=>dw c ⟨d,o,ty,pos,af,some (j,w)⟩ s κ fun x us _ κ'=>nG c ops os (aB.put ⟨s.fr,aS s.lv us⟩ d x) κ' K)
  (fun _=>nG c ops os (s.put d .undef) κ K):=by
 simp only [nG,fM,dM,nO,lu]
 cases hj:(ops[j]?).bind (·.dst) with
 | none=>rfl
 | some t=>
  simp only [nM]
  cases e:s.fr t with
  | c x=>
   cases x with
   | d x=>cases x with
    | bool b=>
     simp only
     cases b <;> cases w <;> simp only [BEq.rfl,Bool.beq_eq_decide_eq,decide_false,reduceCtorEq] <;> first|(congr 1;funext x us rds κ';exact lO)|exact lO
    | _=>rfl
   | _=>rfl
  | undef=>simp only;exact lO
  | _=>rfl
@[simp] theorem Qu:aS lv []=lv:=rfl
@[simp] theorem QV{p:Key × LB}:aS lv [p]=aC lv p.1 p.2:=rfl
theorem O4{f:Nat→α}{k t:Nat}{x:α}:aC f k x t=if t=k then x else f t:=rfl
@[simp] theorem QI {s:aB}:s.put none x=s:=rfl
@[simp] theorem Rf{t:Nat}:aB.put ⟨fr,lv⟩ (some t) x=⟨aC fr t x,lv⟩:=rfl
@[simp] theorem Tq{t:Nat}:s.val G (.tmp t)=s.fr t:=rfl
@[simp] theorem P7{v:Value}:s.val G (.const v)=sB v:=rfl
@[simp] theorem RL:s.val G (.func f)=.c (.d (.func (.func f) [] [])):=rfl
@[simp] theorem PJ{g:Nat}:s.val G (.global g)=match G[g]? with|some cs=>.c (.d (.ptr cs))|none=>.junk:=rfl
@[simp] theorem R1 {b:Bool}:sB (.bool b)=.c (.d (.bool b)):=rfl
theorem qV(h:k.wrap n=n):sB (.int k n)=.c (.d (.int k n)):=by simp only [sB,Fp,h,if_true]
@[simp] theorem S9(h1:-9223372036854775808≤n) (h2:n≤9223372036854775807):sB (.int .i64 n)=.c (.d (.int .i64 n)):=qV (cC ⟨h1,h2⟩)
@[simp] theorem Tc(h1:-2147483648≤n) (h2:n≤2147483647):sB (.int .i32 n)=.c (.d (.int .i32 n)):=qV (cC ⟨h1,h2⟩)
@[simp] theorem Ut(h1:0≤n) (h2:n≤255):sB (.int .u8 n)=.c (.d (.int .u8 n)):=qV (cC ⟨h1,h2⟩)
@[simp] theorem SP(h1:0≤n) (h2:n≤4294967295):sB (.int .u32 n)=.c (.d (.int .u32 n)):=qV (cC ⟨h1,h2⟩)
@[simp] theorem Td(h1:0≤n) (h2:n≤18446744073709551615):sB (.int .u64 n)=.c (.d (.int .u64 n)):=qV (cC ⟨h1,h2⟩)
@[simp] theorem SU {b:ByteArray}(h:b.data.toList.length≤9223372036854775807):sB (.string b)=.c (.d (.str b.data.toList)):=by simp only [sB,Fp,h,if_true]
@[simp] theorem Q6:sB (.pointer none)=.c (.d .nilp):=rfl
@[simp] theorem P8:sB (.slice none 0 0)=.c (.d .nilsl):=rfl
@[simp] theorem Rm:sB .nilIface=.c (.d .nilIface):=rfl
@[simp] theorem RO:sB .nilFunc=.c (.d .nilFunc):=rfl
@[simp] theorem Sr:sB (.map none)=.c (.d .nilmap):=rfl
@[simp] theorem SC {a:Array Value}:sB (.agg a)=if a.toList.all (·.oneCell') then .agg (a.toList.map Fp) else .junk:=rfl
variable {g:Option (Nat × Bool)}
@[simp ↓] theorem B3 {x:Operand}:dw c ⟨d,.move x,ty,pos,af,g⟩ s κ K=K (s.val c.G x) [] [] κ:=by simp [dw,bA,Op.operands]
@[simp ↓] theorem wV {x:Operand}:dw c ⟨d,.assign x,ty,pos,af,g⟩ s κ K=K (s.val c.G x) [] [] κ:=by simp [dw,bA,Op.operands]
def zi (t x y:AV):Option bZ:=match t with|.c (.d (.bool true))=>some (x,[],[],True)|.c (.d (.bool false))=>some (y,[],[],True)|_=>none
@[simp] theorem Te:zi (.c (.d (.bool true))) x y=some (x,[],[],True):=rfl
@[simp] theorem S4:zi (.c (.d (.bool false))) x y=some (y,[],[],True):=rfl
@[simp ↓] theorem C6 {t x y:Operand}:dw c ⟨d,.pick t x y,ty,pos,af,g⟩ s κ K=gV (zi (s.val c.G t) (s.val c.G x) (s.val c.G y)) κ K:=by simp [dw,bA,Op.operands,gV,zi];rfl
def w8 (P:Program)(T:TypeId)(lv:Key→LB)(κ:Key):Option bZ:=match br P T,lv κ with|some xs,.hole=>some (.c (.ptr κ 0),[(κ,.cells true false T xs)],[],True)|_,_=>none
@[simp ↓] theorem zY:dw c ⟨d,.alloc T,ty,pos,af,g⟩ s κ K=gV (w8 c.P T s.lv κ) κ K:=by simp [dw,bA,Op.operands,gV,w8];rfl
def Kg (T:TypeId)(x:AV)(lv:Key→LB)(κ:Key):Option bZ:=match x.cells,lv κ with|some xs,.hole=>some (.c (.ptr κ 0),[(κ,.cells true false T xs)],[],True)|_,_=>none
@[simp ↓] theorem FW{x:Operand}:dw c ⟨d,.box T x,ty,pos,af,g⟩ s κ K=gV (Kg T (s.val c.G x) s.lv κ) κ K:=by simp [dw,bA,Op.operands,gV,Kg];rfl
@[simp ↓] theorem Dm{x:Operand}:dw c ⟨d,.load T x,ty,pos,af,g⟩ s κ K=gV (aZ c.P T s.lv (s.val c.G x)) κ K:=by simp [dw,bA,Op.operands,gV];rfl
@[simp ↓] theorem zu{x y:Operand}:dw c ⟨d,.store T x y,ty,pos,af,g⟩ s κ K=gV (cV c.P T s.lv (s.val c.G x) (s.val c.G y)) κ K:=by simp [dw,bA,Op.operands,gV];rfl
@[simp ↓] theorem G1 {x:Operand}:dw c ⟨d,.nilCheck x,ty,pos,af,g⟩ s κ K=gV (ga s.lv (s.val c.G x)) κ K:=by simp [dw,bA,Op.operands,gV];rfl
@[simp ↓] theorem F6{x y:Operand}:dw c ⟨d,.binOp op T x y T',ty,pos,af,g⟩ s κ K=gV (aH c.P op T (s.val c.G x) (s.val c.G y)) κ K:=by simp [dw,bA,Op.operands,gV];rfl
def Ig (op:UnOp)(x:AV):Option bZ:=match x with|.c (.d d)=>(match RI op d with|some d'=>some (.c (.d d'),[],[],True)|none=>none)|_=>none
@[simp ↓] theorem IU {op:UnOp}{x:Operand}:dw c ⟨d,.unOp op T x,ty,pos,af,g⟩ s κ K=gV (Ig op (s.val c.G x)) κ K:=by simp [dw,bA,Op.operands,gV,Ig];rfl
@[simp] theorem Q7 {b:Bool}:Ig .not (.c (.d (.bool b)))=some (.c (.d (.bool !b)),[],[],True):=rfl
@[simp] theorem Rr:Ig .neg (.c (.d (.int k n)))=some (.c (.d (.int k (k.wrap (0 - n)))),[],[],True):=rfl
def CG (P:Program)(S T:TypeId)(x:AV):Option bZ:=match x with
 | .c (.d (.int _ n))=>match pH P S,pH P T with|some _,some k'=>some (.c (.d (.int k' (k'.wrap n))),[],[],True)|_,_=>none
 | .c (.d (.str l))=>if ct P S && ct P T then some (.c (.d (.str l)),[],[],True) else none
 | _=>none
@[simp ↓] theorem C2{x:Operand}:dw c ⟨d,.convert S T x,ty,pos,af,g⟩ s κ K=gV (CG c.P S T (s.val c.G x)) κ K:=by simp [dw,bA,Op.operands,gV,CG];rfl
@[simp ↓] theorem pO{f:Nat}{x:Operand}:dw c ⟨d,.fieldAddr T x f,ty,pos,af,g⟩ s κ K=gV (bM c.P T f s.lv (s.val c.G x)) κ K:=by simp [dw,bA,Op.operands,gV];rfl
def yf (P:Program)(T:TypeId)(f:Nat)(x:AV):Option bZ:=match x with|.agg cs=>(match cP P T f with|some (off,ft)=>(match m6 P ft cs off with|some y=>some (y,[],[],True)|none=>none)|none=>none)|_=>none
@[simp ↓] theorem Ar{f:Nat}{x:Operand}:dw c ⟨d,.field T x f,ty,pos,af,g⟩ s κ K=gV (yf c.P T f (s.val c.G x)) κ K:=by simp [dw,bA,Op.operands,gV,yf];rfl
@[simp ↓] theorem pK{x i:Operand}:dw c ⟨d,.indexAddr T x i,ty,pos,af,g⟩ s κ K=gV (ak c.P T s.lv (s.val c.G x) (s.val c.G i)) κ K:=by simp [dw,bA,Op.operands,gV];rfl
@[simp ↓] theorem An{x i:Operand}:dw c ⟨d,.index T x i,ty,pos,af,g⟩ s κ K=gV (fq c.P T (s.val c.G x) (s.val c.G i)) κ K:=by simp [dw,bA,Op.operands,gV];rfl
def tJ (i:Nat)(x:AV):Option bZ:=match x with|.tup l=>(match l[i]? with|some (.tup _)=>none|some y=>some (y,[],[],True)|none=>none)|_=>none
@[simp ↓] theorem GP{x:Operand}:dw c ⟨d,.extract x i,ty,pos,af,g⟩ s κ K=gV (tJ i (s.val c.G x)) κ K:=by simp [dw,bA,Op.operands,gV,tJ];rfl
def Kl (P:Program)(T:TypeId)(x:AV):Option bZ:=match m8 x with|some d=>if P.concrete T then some (.c (.d (.iface T d)),[],[],True) else none|none=>none
@[simp ↓] theorem G3{x:Operand}:dw c ⟨d,.makeInterface T x,ty,pos,af,g⟩ s κ K=gV (Kl c.P T (s.val c.G x)) κ K:=by simp [dw,bA,Op.operands,gV,Kl];rfl
@[simp ↓] theorem Gs{x y:Operand}:dw c ⟨d,.makeSlice T x y,ty,pos,af,g⟩ s κ K=gV (fT c.P T s.lv κ (s.val c.G x) (s.val c.G y)) κ K:=by simp [dw,bA,Op.operands,gV];rfl
def TR (P:Program)(T:TypeId)(lv:Key→LB)(x:AV)(lo hi:Option AV):Option bZ:=bt P T lv x lo hi
@[simp ↓] theorem uM{x:Operand}:dw c ⟨d,.slice T x none none none,ty,pos,af,g⟩ s κ K=gV (bt c.P T s.lv (s.val c.G x) none none) κ K:=by simp [dw,bA,Op.operands,gV,vj];rfl
@[simp ↓] theorem uH{x:Operand}:dw c ⟨d,.slice T x (some l) none none,ty,pos,af,g⟩ s κ K=gV (bt c.P T s.lv (s.val c.G x) (some (s.val c.G l)) none) κ K:=by simp [dw,bA,Op.operands,gV,vj];rfl
@[simp ↓] theorem uD{x:Operand}:dw c ⟨d,.slice T x none (some h) none,ty,pos,af,g⟩ s κ K=gV (bt c.P T s.lv (s.val c.G x) none (some (s.val c.G h))) κ K:=by simp [dw,bA,Op.operands,gV,vj];rfl
@[simp ↓] theorem uQ{x:Operand}:dw c ⟨d,.slice T x (some l) (some h) none,ty,pos,af,g⟩ s κ K=gV (bt c.P T s.lv (s.val c.G x) (some (s.val c.G l)) (some (s.val c.G h))) κ K:=by simp [dw,bA,Op.operands,gV,vj];rfl
@[simp ↓] theorem Gp {x:Operand}:dw c ⟨d,.call { callee:=.builtin .len,args:=#[x],argTypes:=#[T] },ty,pos,af,g⟩ s κ K=gV (match kH c.P T s.lv (s.val c.G x) with|some n=>some (.c (.d (.int .i64 n)),[],keyOf (s.val c.G x),ng (s.val c.G x) n)|none=>none) κ K:=by
 simp [dw,bA,iG,Op.operands,Call.operands,gV];rfl
@[simp ↓] theorem wA {x y:Operand}:dw c ⟨d,.call { callee:=.builtin .append,args:=#[x,y],argTypes:=#[T,T'] },ty,pos,af,g⟩ s κ K=gV (if T=T' then dF c.P T s.lv κ (s.val c.G x) (s.val c.G y) else none) κ K:=by
 simp [dw,bA,iG,Op.operands,Call.operands,gV];rfl
def D9 (c:Ctx)(tgt:Option (FuncId × List AV × List AV))(xs:List AV)(lv:Key→LB)(K:AV→List (Key × LB)→List Key→Nat→Prop):Prop:=
 match tgt with
 | some (f,fs,cs)=>aG c.P f=true∧∃ x us rds κ',bS c f (fs++xs++cs) lv x us rds∧K x us rds κ'
 | none=>False
@[simp ↓] theorem Ck {fo:Operand}{xs:Array Operand}:dw c ⟨d,.call { callee:=.value fo,args:=xs,argTypes:=ts },ty,pos,af,g⟩ s κ K=D9 c (b7 (s.val c.G fo)) (xs.toList.map (s.val c.G)) s.lv K:=rfl
def ag (c:Ctx)(f:FuncId)(xs:List AV)(lv:Key→LB)(K:AV→List (Key × LB)→List Key→Nat→Prop):Prop:=∃ x us rds κ',bS c f xs lv x us rds∧K x us rds κ'
@[congr] theorem Nv(h:∀ _:Unit,xs=xs'):ag c f xs lv K=ag c f xs' lv K:=by rw [h ()]
@[simp] theorem OB:D9 c (some (f,[],[])) xs lv K=(aG c.P f=true∧ag c f xs lv K):=by simp [D9,ag]
@[simp] theorem MZ:b7 (.c (.d (.func (.func f) [] [])))=some (f,[],[]):=rfl
@[congr] theorem Oj {t t':Option (FuncId × List AV × List AV)}(h:∀ _:Unit,t=t') (h':∀ _:Unit,xs=xs'):D9 c t xs lv K=D9 c t' xs' lv K:=by rw [h (),h' ()]
end
theorem AW.MQ(hd:cz c.n ops.toList=true) (h:nG c ops ops.toList s κ fun s' κ'=>Q .normal s' κ'):AW c r (.region id ops false) s κ Q:=
 AW.region hd h
@[simp ↓] theorem SN {K:aB→Nat→Prop}:pJ K Q .normal s κ=K s κ:=rfl
@[simp ↓] theorem TE {K:aB→Nat→Prop}:pJ K Q (.exit i) s κ=Q (.exit i) s κ:=rfl
@[simp ↓] theorem TC {K:aB→Nat→Prop}:pJ K Q .ret s κ=Q .ret s κ:=rfl
@[simp ↓] theorem Q0:tX i Q .normal s κ=Q .normal s κ:=rfl
@[simp ↓] theorem RX:tX i Q (.exit j) s κ=if j=i then Q .normal s κ else Q (.exit j) s κ:=rfl
@[simp ↓] theorem Ry:tX i Q .ret s κ=Q .ret s κ:=rfl
@[simp] theorem SD {x:DV}:ng (.c (.d x)) n=True:=rfl
@[simp] theorem Tx {b:Bool}:nM (.c (.d (.bool b))) w=some (b == w):=rfl
@[simp] theorem S2:nM .undef w=some false:=rfl
def Le (c:Ctx)(s s2:aB):Prop:=∃ g,ef c s s2 g
theorem Le.slots(l:List (Nat × AV)) (hl:∀ p∈l,p.2.bY=true∧fr p.1=p.2) (hm:∀ k own es,lv k=.map own es→∀ p∈es,∀ l,p.2≠.tup l) :
 Le c ⟨fr,lv⟩ ⟨bf l,lv⟩:=⟨_,ef.slots (s:=⟨fr,lv⟩) hl hm⟩
theorem aaa{x y:Code}(h:∀ K:aB→Nat→Prop,(∀ s κ,AW c r y s κ Q→K s κ)→AW c r x s κ (pJ K Q)):AW c r (.seq x y) s κ Q:=
 AW.seq' (h _ fun _ _ h=>h)
theorem FV[DecidableEq α](m n:α):(m == n)=decide (m=n):=by
 by_cases h:m=n <;> simp [h]
section
variable {P:Program}{T:TypeId}{k:IntKind}{m n:Int}
@[simp] theorem TS:aH P .add T (.c (.d (.int k m))) (.c (.d (.int k n)))=some (.c (.d (.int k (k.wrap (m+n)))),[],[],True):=by simp [aH,kI,eH]
@[simp] theorem UY:aH P .sub T (.c (.d (.int k m))) (.c (.d (.int k n)))=some (.c (.d (.int k (k.wrap (m - n)))),[],[],True):=by simp [aH,kI,eH]
@[simp] theorem Uo:aH P .mul T (.c (.d (.int k m))) (.c (.d (.int k n)))=some (.c (.d (.int k (k.wrap (m*n)))),[],[],True):=by simp [aH,kI,eH]
@[simp] theorem TJ:aH P .quo T (.c (.d (.int k m))) (.c (.d (.int k n)))=some (.c (.d (.int k (k.wrap (m.tdiv n)))),[],[],n≠0):=by simp [aH,kI,eH]
@[simp] theorem U6:aH P .rem T (.c (.d (.int k m))) (.c (.d (.int k n)))=some (.c (.d (.int k (m.tmod n))),[],[],n≠0):=by simp [aH,kI,eH]
theorem OR:aH P .and T (.c (.d (.int k m))) (.c (.d (.int k n)))=some (.c (.d (.int k (k.wrap (BitVec.ofInt k.bits m &&& BitVec.ofInt k.bits n).toNat))),[],[],True):=by simp [aH,kI,eH]
theorem Rs:aH P .or T (.c (.d (.int k m))) (.c (.d (.int k n)))=some (.c (.d (.int k (k.wrap (BitVec.ofInt k.bits m ||| BitVec.ofInt k.bits n).toNat))),[],[],True):=by simp [aH,kI,eH]
@[simp] theorem UG:aH P .eql T (.c (.d (.int k m))) (.c (.d (.int k n)))=some (.c (.d (.bool (decide (m=n)))),[],[],True):=by simp [aH,kI,eH,FV]
@[simp] theorem VA:aH P .neq T (.c (.d (.int k m))) (.c (.d (.int k n)))=some (.c (.d (.bool (!decide (m=n)))),[],[],True):=by simp [aH,kI,eH,bne,FV]
@[simp] theorem Uq:aH P .lss T (.c (.d (.int k m))) (.c (.d (.int k n)))=some (.c (.d (.bool (decide (m<n)))),[],[],True):=by simp [aH,kI,eH]
@[simp] theorem T8:aH P .leq T (.c (.d (.int k m))) (.c (.d (.int k n)))=some (.c (.d (.bool (decide (m≤n)))),[],[],True):=by simp [aH,kI,eH]
@[simp] theorem Vb:aH P .gtr T (.c (.d (.int k m))) (.c (.d (.int k n)))=some (.c (.d (.bool (decide (n<m)))),[],[],True):=by simp [aH,kI,eH]
@[simp] theorem T9:aH P .geq T (.c (.d (.int k m))) (.c (.d (.int k n)))=some (.c (.d (.bool (decide (n≤m)))),[],[],True):=by simp [aH,kI,eH]
@[simp] theorem Kk:aH P .shl T (.c (.d (.int k m))) (.c (.d (.int k' n)))=some (.c (.d (.int k (k.wrap (m*2 ^ (min n.toNat k.bits))))),[],[],0≤n):=by simp [aH,Qm]
@[simp] theorem T4:aH P .shr T (.c (.d (.int k m))) (.c (.d (.int k' n)))=some (.c (.d (.int k (m.fdiv (2 ^ (min n.toNat k.bits))))),[],[],0≤n):=by simp [aH,Qm]
end
theorem aF.jq{σ:List LB}{o:Out}(i:Nat) (hi:i<args.length) (hφ:∀ (V:Vw) v,V.av v args[i]→φ) (k:φ→aF P G f args σ o):aF P G f args σ o:=
 fun F β w vs hS hl hv=>k (hφ _ _ (hv i hi (by omega))) F β w vs hS hl hv
theorem AW.jq(t:Nat) (hφ:∀ (V:Vw) v,V.av v (s.fr t)→φ) (k:φ→AW c r code s κ Q):AW c r code s κ Q:=
 fun F β a w hs=>k (hφ _ _ (hs.fr t)) F β a w hs
def W (l:List Nat):List (List DV):=l.map fun (x:Nat)=>[DV.int .u32 (x:Int)]
def rS (l:List Nat):AV:=.c (.d (.sl (W l)))
@[simp] theorem Rg (l:List Nat):(W l).length=l.length:=by simp [W]
@[simp] theorem VL:W []=[]:=rfl
@[simp] theorem VG (l m:List Nat):W (l++m)=W l++W m:=by simp [W]
@[simp] theorem VC (x:Nat)(l:List Nat):W (x::l)=[DV.int .u32 (x:Int)]::W l:=rfl
theorem RE (l:List Nat):∀ e∈W l,e.length=1:=by
 intro e he;simp only [W,Xp] at he;obtain⟨x,_,rfl⟩:=he;rfl
theorem Kc {V:Vw}{v:Value}{l:List Nat}(h:V.av v (rS l)):l.length≤9223372036854775807∧∀ x∈l,x≤4294967295:=by
 have h1:=Vw.FL h;rw [Rg] at h1;refine⟨h1,fun x hx=>?_⟩;obtain⟨h,_⟩:=h
 cases h with
 | sl b off cap sz _ vs hl hc hb hm ho hr=>
  obtain⟨i,hi,rfl⟩:=List.mem_iff_getElem.1 hx;have h2:=hr i (by simpa using hi) 0 (by simp [W]);simp only [W,WK,Xo] at h2
  have h3:IntKind.u32.wrap (l[i]:Int)=(l[i]:Int):=by
   generalize vs i 0=u at h2
   cases h2;assumption
  rw [nU] at h3;simp only [pF] at h3;omega
structure yC where
 dst:Option Tmp
 op:Op
 g:Option (Option Tmp × Bool)
variable {ps:List yC}
def Cl (gd:List (Option Tmp))(o:Oper):yC:=⟨o.dst,o.op,match o.guard with|none=>none|some (j,w)=>some ((gd[j]?).join,w)⟩
def ke (gd:List (Option Tmp)):List Oper→List yC
 | []=>[]
 | o::os=>Cl gd o::ke gd os
def ey (ops:Array Oper):List yC:=ke (ops.toList.map (·.dst)) ops.toList
def aK (c:Ctx):List yC→aB→Nat→(aB→Nat→Prop)→Prop
 | [],s,κ,K=>K s κ
 | p::ps,s,κ,K=>match p.g with
  | none=>dw c ⟨none,p.op,0, "",#[],none⟩ s κ fun x us _ κ'=>aK c ps (aB.put ⟨s.fr,aS s.lv us⟩ p.dst x) κ' K
  | some (t,w)=>nO t fun t=>lu (nM (s.fr t) w)
   (fun _=>dw c ⟨none,p.op,0, "",#[],none⟩ s κ fun x us _ κ'=>aK c ps (aB.put ⟨s.fr,aS s.lv us⟩ p.dst x) κ' K)
   (fun _=>aK c ps (s.put p.dst .undef) κ K)
theorem Jb:((ops.toList.map (·.dst))[j]?).join=(ops[j]?).bind (·.dst):=by
 rw [Yi,YV]
 cases ops[j]? <;> rfl
theorem lS {c:Ctx}{ops:Array Oper}{K:aB→Nat→Prop}:∀ {os:List Oper}{s:aB}{κ:Nat},aK c (ke (ops.toList.map (·.dst)) os) s κ K=nG c ops os s κ K
 | [],s,κ=>rfl
 | ⟨d,o,ty,pos,af,none⟩::os,s,κ=>by
  rw [FO];simp only [ke,Cl,aK];show dw c ⟨d,o,ty,pos,af,none⟩ s κ _=_;congr 1;funext x us rds κ';exact lS
 | ⟨d,o,ty,pos,af,some (j,w)⟩::os,s,κ=>by
  rw [DA];simp only [ke,Cl,aK,Jb];congr 1;funext t;congr 1
  ·funext _;show dw c ⟨d,o,ty,pos,af,some (j,w)⟩ s κ _=_;congr 1;funext x us rds κ';exact lS
  ·funext _;exact lS
theorem aar(hd:cz c.n ops.toList=true) (h:aK c (ey ops) s κ fun s' κ'=>Q .normal s' κ'):AW c r (.region id ops false) s κ Q:=
 AW.MQ hd (by rw [← lS];exact h)
section
variable {c:Ctx}{s:aB}{κ:Nat}{K:aB→Nat→Prop}
@[simp ↓] theorem Qa:aK c [] s κ K=K s κ:=rfl
theorem aP:aK c (⟨d,o,none⟩::ps) s κ K =
 dw c ⟨none,o,0, "",#[],none⟩ s κ fun x us _ κ'=>aK c ps (aB.put ⟨s.fr,aS s.lv us⟩ d x) κ' K:=rfl
theorem BV{t:Tmp}:aK c (⟨d,o,some (some t,w)⟩::ps) s κ K =
 lu (nM (s.fr t) w) (fun _=>dw c ⟨none,o,0, "",#[],none⟩ s κ fun x us _ κ'=>aK c ps (aB.put ⟨s.fr,aS s.lv us⟩ d x) κ' K) (fun _=>aK c ps (s.put d .undef) κ K):=rfl
theorem Ko {l:List Oper}:ey l.toArray=ke (l.map (·.dst)) l:=rfl
theorem HF:ke gd []=[]:=rfl
theorem EG:ke gd (⟨d,o,ty,pos,af,none⟩::os)=⟨d,o,none⟩::ke gd os:=rfl
theorem FT:ke gd (⟨d,o,ty,pos,af,some (j,w)⟩::os)=⟨d,o,some ((gd[j]?).join,w)⟩::ke gd os:=rfl
end
section
variable {c:Ctx}{s:aB}{κ:Nat}{K:aB→Nat→Prop}{d:Option Tmp}{o:Op}{ps:List yC}
theorem aK.step (h:∀ K':AV→List (Key × LB)→List Key→Nat→Prop,(∀ x us rds κ',aK c ps (aB.put ⟨s.fr,aS s.lv us⟩ d x) κ' K→K' x us rds κ')→dw c ⟨none,o,0, "",#[],none⟩ s κ K') :
 aK c (⟨d,o,none⟩::ps) s κ K:=by
 rw [aP];exact h _ fun _ _ _ _ h=>h
theorem aK.bA {t:Tmp}(hw:nM (s.fr t) w=some false) (h:aK c ps (s.put d .undef) κ K):aK c (⟨d,o,some (some t,w)⟩::ps) s κ K:=by
 rw [BV,hw];exact h
end
theorem lR(h:x.pure=true):pE lv x=[]:=by
 cases x with
 | c x=>cases x <;> simp_all [AV.pure,AV.jZ,CV.pure,pE,lY]
 | agg cs=>
  simp only [AV.pure,AV.jZ,E5] at h;simp only [pE,List.flatMap_eq_nil_iff];intro x hx;have:=h x hx
  cases x <;> simp_all [CV.pure,lY]
 | _=>rfl
theorem bS.pure(hc:aa c.P c.G f xs x) (hx:x.pure=true) (hxs:∀ a∈xs,a.pure=true) (kh:Key) (hh:lv kh=.hole):bS c f xs lv x [] [kh]:=by
 have key:=bS.gen (c:=c) (f:=f) (as:=xs) (lv:=lv) xs [] [] [] kh [] [] [] x false [kh] (fun z hz=>by cases hz) (by simp) (by simp) (fun z hz=>by cases hz) (by simp) (fun z hz=>by cases hz) rfl rfl rfl (by simp)
  (fun i h=>absurd h (Xf i)) (fun k hk=>by cases hk) hh (fun b hb=>by cases hb) (fun b hb=>by cases hb) (fun h=>by cases h) rfl
  (fun i p q=>.inl ⟨AV.gU (hxs _ (aW q)),(AV.bV (hxs _ (aW q)) _).symm⟩) (fun a ha k hk=>by rw [lR (hxs a ha)] at hk;cases hk) (by simp) hc
 rw [AV.bV hx] at key;exact key
theorem ag.pure(κ:Nat) (kh:Key) (hc:aa c.P c.G f xs x) (hx:x.pure=true) (hxs:∀ a∈xs,a.pure=true) (hh:lv kh=.hole)
 (hK:K x [] [kh] κ):ag c f xs lv K:=⟨x,[],[kh],κ,bS.pure hc hx hxs kh hh,hK⟩
theorem ag.U3{us:List AV}(κ:Nat) (kh:Key) (k:Key) (T:TypeId) (cs:List CV) (rds:List Key)
 (hc:aa c.P c.G f us x) (hx:x.pure=true) (hk:lv k=.cells true false T cs) (hh:lv kh=.hole) (hkh:kh≠k) (hlen:us.length=xs.length)
 (hxs:∀ i (h:i<xs.length) (h':i<us.length),(us[i].pure=true∧xs[i]=us[i])∨eC (aC lv k (.cells true true T cs)) xs[i]=some (us[i],[k]))
 (hrd:∀ a∈xs,∀ j∈pE (aC lv k (.cells true true T cs)) a,j∈rds∨j=k) (hrh:kh∈rds)
 (hK:K x [(k,.cells true true T cs)] rds κ):ag c f xs lv K:=by
 have key:=bS.gen (c:=c) (f:=f) (as:=xs) (lv:=lv) us [(k,T,cs)] [] [] kh [] [] [] x false rds (fun z hz=>by simp only [Xx] at hz;subst hz;exact hk) (by simp) (by simp) (fun z hz=>by simp) (by simp) (fun z hz=>by simp only [Xx] at hz;subst hz;exact fun e=>hkh e.symm) rfl rfl rfl (by simp)
  (fun i h=>absurd h (Xf i)) (fun k hk=>by cases hk) hh (fun b hb=>by cases hb) (fun b hb=>by cases hb) (fun h=>by cases h) hlen
  (fun i p q=>?_) (fun a ha j hj=>?_) hrh hc
 ·rw [AV.bV hx] at key;exact⟨x,_,rds,κ,key,hK⟩
 ·rcases hxs i p q with ⟨h1,h2⟩|h1
  ·exact .inl ⟨AV.gU h1,by rw [AV.bV h1];exact h2⟩
  ·refine .inr ⟨[k],h1,fun j hj=>?_⟩;simp only [Xx] at hj;subst hj;exact⟨true,T,cs,by simp [dJ,aS,aA]⟩
 ·rcases hrd a ha j hj with h|h
  ·exact .inl h
  ·exact .inr (by simp [h])
def cJ (c:Ctx)(ps:List yC)(d:Option Tmp)(s:aB)(κ:Nat)(K:aB→Nat→Prop)(r:Option bZ):Prop:=
 gV r κ fun x us _ κ'=>aK c ps (aB.put ⟨s.fr,aS s.lv us⟩ d x) κ' K
def EV (c:Ctx)(o:Op)(ps:List yC)(d:Option Tmp)(s:aB)(κ:Nat)(K:aB→Nat→Prop)(w:Option Bool):Prop:=
 match w with
 | some true=>aK c (⟨d,o,none⟩::ps) s κ K
 | some false=>aK c ps (s.put d .undef) κ K
 | none=>False
def fS (c:Ctx)(f:FuncId)(xs:List AV)(ps:List yC)(d:Option Tmp)(s:aB)(κ:Nat)(K:aB→Nat→Prop):Prop:=
 ag c f xs s.lv fun x us _ κ'=>aK c ps (aB.put ⟨s.fr,aS s.lv us⟩ d x) κ' K
def GS (c:Ctx)(tgt:Option (FuncId × List AV × List AV))(xs:List AV)(ps:List yC)(d:Option Tmp)(s:aB)(κ:Nat)(K:aB→Nat→Prop):Prop:=
 match tgt with
 | some (f,fs,cs)=>aG c.P f=true∧fS c f (fs++xs++cs) ps d s κ K
 | none=>False
attribute [simp] Ko HF EG FT O4
@[simp] theorem Om {t:Nat}:bf [] t=.junk:=rfl
@[simp] theorem Nn {p:Nat × AV}{l:List (Nat × AV)}{t:Nat}:bf (p::l) t=if t=p.1 then p.2 else bf l t:=rfl
section
variable {c:Ctx}{ps:List yC}{d:Option Tmp}{s:aB}{κ:Nat}{K:aB→Nat→Prop}{T:TypeId}{x y z:Operand}
@[simp] theorem Qh:cJ c ps d s κ K (some (v,[],rds,vc))=(vc∧aK c ps (s.put d v) κ K):=propext ⟨id,id⟩
@[simp] theorem Qt{p:Key × LB}:cJ c ps d s κ K (some (v,[p],rds,vc))=(vc∧aK c ps (aB.put ⟨s.fr,aC s.lv p.1 p.2⟩ d v) (κ+1) K):=propext ⟨id,id⟩
@[simp] theorem Qn{p q:Key × LB}:cJ c ps d s κ K (some (v,[p,q],rds,vc))=(vc∧aK c ps (aB.put ⟨s.fr,aC (aC s.lv p.1 p.2) q.1 q.2⟩ d v) (κ+1) K):=propext ⟨id,id⟩
@[simp] theorem Ri:EV c o ps d s κ K (some true)=aK c (⟨d,o,none⟩::ps) s κ K:=propext ⟨id,id⟩
@[simp] theorem RB:EV c o ps d s κ K (some false)=aK c ps (s.put d .undef) κ K:=propext ⟨id,id⟩
@[simp] theorem OC:GS c (some (f,[],[])) xs ps d s κ K=(aG c.P f=true∧fS c f xs ps d s κ K):=by simp [GS]
@[simp] theorem Su{t:Tmp}:aK c (⟨d,o,some (some t,w)⟩::ps) s κ K=EV c o ps d s κ K (nM (s.fr t) w):=propext ⟨id,id⟩
@[simp] theorem SZ:aK c (⟨d,.move x,none⟩::ps) s κ K=aK c ps (s.put d (s.val c.G x)) κ K:=by rw [aP,B3];rfl
@[simp] theorem P5:aK c (⟨d,.assign x,none⟩::ps) s κ K=aK c ps (s.put d (s.val c.G x)) κ K:=by rw [aP,wV];rfl
@[simp] theorem Tt:aK c (⟨d,.pick x y z,none⟩::ps) s κ K=cJ c ps d s κ K (zi (s.val c.G x) (s.val c.G y) (s.val c.G z)):=by rw [aP,C6];rfl
@[simp] theorem QS:aK c (⟨d,.alloc T,none⟩::ps) s κ K=cJ c ps d s κ K (w8 c.P T s.lv κ):=by rw [aP,zY];rfl
@[simp] theorem Rj {f:Nat}:aK c (⟨d,.field T x f,none⟩::ps) s κ K=cJ c ps d s κ K (yf c.P T f (s.val c.G x)):=by rw [aP,Ar];rfl
@[simp] theorem Nq:aK c (⟨d,.indexAddr T x y,none⟩::ps) s κ K=cJ c ps d s κ K (ak c.P T s.lv (s.val c.G x) (s.val c.G y)):=by rw [aP,pK];rfl
@[simp] theorem RC:aK c (⟨d,.index T x y,none⟩::ps) s κ K=cJ c ps d s κ K (fq c.P T (s.val c.G x) (s.val c.G y)):=by rw [aP,An];rfl
@[simp] theorem Um:aK c (⟨d,.extract x i,none⟩::ps) s κ K=cJ c ps d s κ K (tJ i (s.val c.G x)):=by rw [aP,GP];rfl
@[simp] theorem UH:aK c (⟨d,.makeInterface T x,none⟩::ps) s κ K=cJ c ps d s κ K (Kl c.P T (s.val c.G x)):=by rw [aP,G3];rfl
@[simp] theorem Ux:aK c (⟨d,.makeSlice T x y,none⟩::ps) s κ K=cJ c ps d s κ K (fT c.P T s.lv κ (s.val c.G x) (s.val c.G y)):=by rw [aP,Gs];rfl
@[simp] theorem Oy:aK c (⟨d,.slice T x none none none,none⟩::ps) s κ K=cJ c ps d s κ K (bt c.P T s.lv (s.val c.G x) none none):=by rw [aP,uM];rfl
@[simp] theorem PF:aK c (⟨d,.slice T x (some y) none none,none⟩::ps) s κ K=cJ c ps d s κ K (bt c.P T s.lv (s.val c.G x) (some (s.val c.G y)) none):=by rw [aP,uH];rfl
@[simp] theorem O2:aK c (⟨d,.slice T x none (some y) none,none⟩::ps) s κ K=cJ c ps d s κ K (bt c.P T s.lv (s.val c.G x) none (some (s.val c.G y))):=by rw [aP,uD];rfl
@[simp] theorem Pt:aK c (⟨d,.slice T x (some y) (some z) none,none⟩::ps) s κ K=cJ c ps d s κ K (bt c.P T s.lv (s.val c.G x) (some (s.val c.G y)) (some (s.val c.G z))):=by rw [aP,uQ];rfl
def eA (P:Program)(T:TypeId)(lv:Key→LB)(x:AV):Option bZ:=match kH P T lv x with|some n=>some (.c (.d (.int .i64 n)),[],keyOf x,ng x n)|none=>none
@[simp] theorem Uy:aK c (⟨d,.call { callee:=.builtin .len,args:=#[x],argTypes:=#[T] },none⟩::ps) s κ K=cJ c ps d s κ K (eA c.P T s.lv (s.val c.G x)):=by rw [aP,Gp];rfl
@[simp] theorem Qb:aK c (⟨d,.call { callee:=.builtin .append,args:=#[x,y],argTypes:=#[T,T'] },none⟩::ps) s κ K=cJ c ps d s κ K (if T=T' then dF c.P T s.lv κ (s.val c.G x) (s.val c.G y) else none):=by rw [aP,wA];rfl
@[simp] theorem Tp {xs:Array Operand}:aK c (⟨d,.call { callee:=.value x,args:=xs,argTypes:=ts },none⟩::ps) s κ K=GS c (b7 (s.val c.G x)) (xs.toList.map (s.val c.G)) ps d s κ K:=by
 rw [aP,Ck];rfl
@[simp] theorem UW:aK c (⟨d,.binOp op T x y T',none⟩::ps) s κ K=cJ c ps d s κ K (aH c.P op T (s.val c.G x) (s.val c.G y)):=by rw [aP,F6];rfl
@[simp] theorem V5 {op:UnOp}:aK c (⟨d,.unOp op T x,none⟩::ps) s κ K=cJ c ps d s κ K (Ig op (s.val c.G x)):=by rw [aP,IU];rfl
@[simp] theorem S3:aK c (⟨d,.load T x,none⟩::ps) s κ K=cJ c ps d s κ K (aZ c.P T s.lv (s.val c.G x)):=by rw [aP,Dm];rfl
@[simp] theorem RT:aK c (⟨d,.store T x y,none⟩::ps) s κ K=cJ c ps d s κ K (cV c.P T s.lv (s.val c.G x) (s.val c.G y)):=by rw [aP,zu];rfl
@[simp] theorem TQ:aK c (⟨d,.box T x,none⟩::ps) s κ K=cJ c ps d s κ K (Kg T (s.val c.G x) s.lv κ):=by rw [aP,FW];rfl
@[simp] theorem Vp:aK c (⟨d,.nilCheck x,none⟩::ps) s κ K=cJ c ps d s κ K (ga s.lv (s.val c.G x)):=by rw [aP,G1];rfl
@[simp] theorem SK:aK c (⟨d,.convert S T x,none⟩::ps) s κ K=cJ c ps d s κ K (CG c.P S T (s.val c.G x)):=by rw [aP,C2];rfl
@[simp] theorem Nj {f:Nat}:aK c (⟨d,.fieldAddr T x f,none⟩::ps) s κ K=cJ c ps d s κ K (bM c.P T f s.lv (s.val c.G x)):=by rw [aP,pO];rfl
def gC (P:Program)(T:TypeId)(ixs:List Nat)(vals:List AV):Option bZ:=match br P T,qR P T with
 | some zs,some place=>if ixs.length=vals.length then (match eR place zs (ixs.zip vals) with|some cs=>some (.agg cs,[],[],True)|none=>none) else none
 | _,_=>none
@[simp] theorem RF:aK c (⟨d,.build T parts,none⟩::ps) s κ K=cJ c ps d s κ K (gC c.P T (parts.toList.map (·.1)) (parts.toList.map fun p=>s.val c.G p.2)):=by
 rw [aP];simp only [dw,bA,Op.operands,cJ,gV,gC,Xc,W6,Yg];rfl
@[simp] theorem LY {n:Nat}:aK c (⟨d,.buildSlice T n parts,none⟩::ps) s κ K=cJ c ps d s κ K (au c.P T n (parts.toList.map (·.1)) s.lv κ (parts.toList.map fun p=>s.val c.G p.2)):=by
 rw [aP];simp only [dw,bA,Op.operands,cJ,gV,Xc];rfl
@[simp] theorem S0:aK c (⟨d,.call { callee:=.builtin .copy,args:=#[x,y],argTypes:=#[T,T'] },none⟩::ps) s κ K=cJ c ps d s κ K (gK c.P T s.lv (s.val c.G x) (s.val c.G y)):=by
 rw [aP];simp only [dw,bA,iG,Op.operands,Call.operands,cJ,gV];rfl
@[simp] theorem Vx {xs:Array Operand}:aK c (⟨d,.call { callee:=.builtin .max,args:=xs,argTypes:=ts },none⟩::ps) s κ K=cJ c ps d s κ K (match dh (xs.toList.map (s.val c.G)) with
 | some (k,n::l)=>some (.c (.d (.int k (l.foldl (fun a b=>if b > a then b else a) n))),[],[],True)
 | _=>none):=by
 rw [aP];simp only [dw,bA,iG,Op.operands,Call.operands,cJ,gV,YG];rfl
@[simp] theorem UU {xs:Array Operand}:aK c (⟨d,.call { callee:=.builtin .min,args:=xs,argTypes:=ts },none⟩::ps) s κ K=cJ c ps d s κ K (match dh (xs.toList.map (s.val c.G)) with
 | some (k,n::l)=>some (.c (.d (.int k (l.foldl (fun a b=>if b<a then b else a) n))),[],[],True)
 | _=>none):=by
 rw [aP];simp only [dw,bA,iG,Op.operands,Call.operands,cJ,gV,YG];rfl
end
section
variable {P:Program}{T:TypeId}{lv:Key→LB}{es:List (List DV)}{cs:List DV}{k:IntKind}{n:Int}{κ:Key}{off len sz:Nat}{lo hi:Option AV}{bs:List UInt8}
@[simp] theorem V1:ak P T lv (.c (.d (.sl es))) (.c (.d (.int k n)))=(match eP P T with
 | some (_,sz)=>some (.c (.d (.ptr (es.getD n.toNat []))),[],[],0≤n∧n<es.length∧(es.getD n.toNat []).length=sz)
 | none=>none):=rfl
@[simp] theorem Vz:ak P T lv (.c (.aR κ off len sz)) (.c (.d (.int k n)))=(match lv κ,eP P T with
 | .cells ..,some (_,sz')=>if sz=sz' then some (.c (.ptr κ (off+n.toNat*sz)),[],[κ],0≤n∧n<len) else none
 | _,_=>none):=rfl
@[simp] theorem VF:ak P T lv (.c (.d (.ptr cs))) (.c (.d (.int k n)))=(match sZ P T with
 | some (len,_,sz)=>some (.c (.d (.ptr (cs.drop (n.toNat*sz)))),[],[],0≤n∧n<len∧n.toNat*sz≤cs.length)
 | none=>none):=rfl
@[simp] theorem Uh:ak P T lv (.c (.ptr κ off)) (.c (.d (.int k n)))=(match lv κ,sZ P T with
 | .cells ..,some (len,_,sz)=>some (.c (.ptr κ (off+n.toNat*sz)),[],[κ],0≤n∧n<len)
 | _,_=>none):=rfl
@[simp] theorem Vt:bt P T lv (.c (.d (.str bs))) lo hi=if ct P T then (match cQ lo 0,cQ hi bs.length with
 | some l,some h=>some (.c (.d (.str ((bs.take h.toNat).drop l.toNat))),[],[],0≤l∧l≤h∧h≤bs.length)
 | _,_=>none) else none:=rfl
@[simp] theorem VK:bt P T lv (.c (.d (.sl es))) lo hi=(match eP P T with
 | some (_,sz)=>match cQ lo 0,cQ hi es.length with
  | some l,some h=>some (.c (.d (.sl ((es.take h.toNat).drop l.toNat))),[],[],0≤l∧l≤h∧h≤es.length∧∀ e∈es,e.length=sz)
  | _,_=>none
 | none=>none):=rfl
@[simp] theorem Vh:bt P T lv (.c (.d .nilsl)) lo hi=(match eP P T with
 | some _=>match cQ lo 0,cQ hi 0 with
  | some l,some h=>some (.c (.d .nilsl),[],[],l=0∧h=0)
  | _,_=>none
 | none=>none):=rfl
@[simp] theorem U2:bt P T lv (.c (.aR κ off len sz)) lo hi=(match lv κ,eP P T with
 | .cells ..,some (_,sz')=>if sz=sz' then (match cQ lo 0,cQ hi len with
  | some l,some h=>some (.c (.aR κ (off+l.toNat*sz) (h.toNat - l.toNat) sz),[],[κ],0≤l∧l≤h∧h≤len∧(l<h∨l=0))
  | _,_=>none) else none
 | _,_=>none):=rfl
end
attribute [simp] aZ cV ga bM fq cQ fT dF au w8 Kg yf CG Kl m6 AV.cells
@[simp] theorem Qr{x:CV}{r:List CV}(h:cY P T=some false):eN P T (x::r)=some (.c x):=by simp [eN,h]
@[simp] theorem ID{cs:List CV}(h:cY P T=some true):eN P T cs=if gH P T≤cs.length then some (.agg (cs.take (gH P T))) else none:=by simp [eN,h]
theorem aq.tmp{t:Nat}(hr:fn.results=#[.tmp t]) (kh:Key) (hx:s.fr t=x) (hp:x.pure=true) (hh:s.lv kh=.hole) (hn:x.cu=true):aq c fn x .ret s κ:=by
 refine⟨[(t,x)],kh,by simp [hp,hx],hh,?_⟩;rw [hr];simp [cH,iK,ki,bf]
theorem aq.R8{t:Nat}(hr:fn.results=#[.tmp t,.tmp u]) (kh:Key) (hx:s.fr t=x) (hy:s.fr u=y) (hp:x.pure=true) (hq:y.pure=true) (hh:s.lv kh=.hole) (hn:x.cu=true) (hm:y.cu=true) (htu:t≠u):aq c fn (.tup [x,y]) .ret s κ:=by
 refine⟨[(t,x),(u,y)],kh,by simp [hp,hx,hq,hy],hh,?_⟩;rw [hr];have:¬ u=t:=fun h=>htu h.symm
 simp [cH,iK,ki,bf,this,hn,hm]
theorem aao{x:Code}(st:α→aB) (kk:Nat) (I:α→Prop) (μ:α→Nat) (a0:α) (hs:Le c s (st a0)) (h0:I a0)
 (hr:∀ a,I a→AW c r x (st a) kk (pJ (fun s' _=>∃ a',Le c s' (st a')∧I a'∧μ a'<μ a) Q)):AW c r (.loop x) s κ Q:=by
 have key:∀ n a,I a→μ a≤n→∀ F β ac w,aD c F β (st a) ac w→Code.roundsIn (oH r) 0 c.P x (Post c Q) (n+1) ac w:=by
  intro n
  induction n with
  | zero=>
   intro a hI hn F β ac w hs;rw [roundsIn_succ];refine wpIn_mono (hr a hI F β ac w hs) fun e a' w' hp=>?_;obtain⟨e',s',κ',F',β',hq,hs',he⟩:=hp
   cases e' with
   | normal=>obtain⟨a2,h1,h2,h3⟩:=hq;omega
   | exit id=>cases he;exact⟨.exit id,s',κ',F',β',hq,hs',rfl⟩
   | goto l=>cases he;exact⟨.goto l,s',κ',F',β',hq,hs',rfl⟩
   | ret=>cases he;exact⟨.ret,s',κ',F',β',hq,hs',rfl⟩
   | panic d=>obtain⟨v,rfl,hv⟩:=he;exact⟨.panic d,s',κ',F',β',hq,hs',v,rfl,hv⟩
  | succ n ih=>
   intro a hI hn F β ac w hs;rw [roundsIn_succ];refine wpIn_mono (hr a hI F β ac w hs) fun e a' w' hp=>?_;obtain⟨e',s',κ',F',β',hq,hs',he⟩:=hp
   cases e' with
   | normal=>
    cases he
    obtain⟨a2,⟨g,h1⟩,h2,h3⟩:=hq;exact ih a2 h2 (by omega) F' _ a' w' (hs'.coarse h1)
   | exit id=>cases he;exact⟨.exit id,s',κ',F',β',hq,hs',rfl⟩
   | goto l=>cases he;exact⟨.goto l,s',κ',F',β',hq,hs',rfl⟩
   | ret=>cases he;exact⟨.ret,s',κ',F',β',hq,hs',rfl⟩
   | panic d=>obtain⟨v,rfl,hv⟩:=he;exact⟨.panic d,s',κ',F',β',hq,hs',v,rfl,hv⟩
 obtain⟨g,hg⟩:=hs;refine AW.coarse (κ2:=0) hg fun F β ac w hst=>?_;exact wpIn_loop_rounds _ (key (μ a0) a0 h0 (bg _) F β ac w hst)
@[simp] theorem SW(h:x.cu=true):tJ 0 (.tup [x,y])=some (x,[],[],True):=by
 cases x <;> first|rfl|cases h
@[simp] theorem Tn(h:y.cu=true):tJ 1 (.tup [x,y])=some (y,[],[],True):=by
 cases y <;> first|rfl|cases h
@[simp] theorem To(h:x.cu=true):tJ 0 (.tup [x,y,z])=some (x,[],[],True):=by
 cases x <;> first|rfl|cases h
@[simp] theorem Ti(h:y.cu=true):tJ 1 (.tup [x,y,z])=some (y,[],[],True):=by
 cases y <;> first|rfl|cases h
@[simp] theorem Ts(h:z.cu=true):tJ 2 (.tup [x,y,z])=some (z,[],[],True):=by
 cases z <;> first|rfl|cases h
@[simp] theorem Ta {x:CV}:(AV.c x).cu=true:=by cases x <;> rfl
@[simp] theorem QD {x:List CV}:(AV.agg x).cu=true:=by cases x <;> rfl
theorem ag.p(κ:Nat) (kh:Key) (hc:aa c.P c.G f xs x) (hK:K x [] [kh] κ) (hx:x.pure=true:=by first|(simp;done)|rfl) (hxs:∀ a∈xs,a.pure=true:=by simp) (hh:lv kh=.hole:=by first|rfl|simp):ag c f xs lv K:=ag.pure κ kh hc hx hxs hh hK
theorem aq.t{t:Nat}(hr:fn.results=#[.tmp t]) (kh:Key) (hx:s.fr t=x) (hp:x.pure=true:=by first|rfl|simp) (hh:s.lv kh=.hole:=by first|rfl|simp) (hn:x.cu=true:=by first|rfl|simp):aq c fn x .ret s κ:=aq.tmp hr kh hx hp hh hn
theorem aai{o:Operand}{x y:Code}(hb:s.val c.G o=.c (.d (.bool true))) (h:AW c r x s κ Q):AW c r (.cond o x y) s κ Q:=aaC (b:=true) hb h
theorem aaj{o:Operand}{x y:Code}(hb:s.val c.G o=.c (.d (.bool false))) (h:AW c r y s κ Q):AW c r (.cond o x y) s κ Q:=aaC (b:=false) hb h
theorem aah{o:Operand}{x y:Code}(h:AW c r x s κ Q) (hb:s.val c.G o=.c (.d (.bool true)):=by simp <;> omega):AW c r (.cond o x y) s κ Q:=aaC (b:=true) hb h
theorem aag{o:Operand}{x y:Code}(h:AW c r y s κ Q) (hb:s.val c.G o=.c (.d (.bool false)):=by simp <;> omega):AW c r (.cond o x y) s κ Q:=aaC (b:=false) hb h
theorem ah {a b:Prop}(h:b) (g:a:=by omega):a∧b:=⟨g,h⟩
structure Ev where
 w:World
 F:Nat→Prop
 W:Nat→Prop
 q:Key→LB
 b:Key→Nat
theorem aa.en(hf:P.funcs[f]?=some fn) (hb:fn.body=some code)
 (h:∀ z:Ev,AW ⟨P,G,z.w,z.F,z.W,fn.ntmps,z.q,z.b⟩ none code ⟨fun t=>args.getD t .undef,fun _=>.hole⟩ 0 (aq ⟨P,G,z.w,z.F,z.W,fn.ntmps,z.q,z.b⟩ fn x)) (hl:Nat.ble args.length fn.ntmps=true:=by kernel_rfl):aa P G f args x:=
 aa.nc hf hb (W9 hl) fun⟨_,_,w,F,W,_,q,b⟩ h1 h2 h3=>by cases h1;cases h2;cases h3;exact h ⟨w,F,W,q,b⟩
section
variable {c:Ctx}{r:Option Nat}{s s':aB}{κ κ':Nat}{Q:Ex→aB→Nat→Prop}{id:Nat}{ops:Array Oper}{y:Code}
theorem aad (h:Q .ret s 0):AW c r .ret s κ Q:=aam (κ:=0) h
theorem aq.rt{t:Nat}(hr:fn.results=#[.tmp t]) (kh:Key) (hx:s.fr t=x) (hp:x.pure=true:=by first|rfl|simp) (hh:s.lv kh=.hole:=by first|rfl|simp) (hn:x.cu=true:=by first|rfl|simp):aq c fn x .ret s 0:=aq.tmp hr kh hx hp hh hn
theorem aae (h:aK c (ey ops) s κ fun s' κ'=>Q .normal s' κ')(hd:cz c.n ops.toList=true:=by exact rfl):AW c r (.region id ops false) s κ Q:=aar hd h
theorem aak (h:∀ K:aB→Nat→Prop,(∀ s κ,AW c r y s κ Q→K s κ)→aK c (ey ops) s κ K)(hd:cz c.n ops.toList=true:=by exact rfl):AW c r (.seq (.region id ops false) y) s κ Q:=
 aaa fun K hK=>aar hd (h K hK)
theorem aab (h:AW c r y s' κ' Q)(hd:cz c.n ops.toList=true:=by exact rfl)(hr:∀ K:aB→Nat→Prop,K s' κ'→aK c (ey ops) s κ K:=by intro K k;simp;(repeat refine ah ?_);exact k):AW c r (.seq (.region id ops false) y) s κ Q:=
 aaa fun K hK=>aar hd (hr K (hK _ _ h))
theorem aaA (h:Q .normal s' κ')(hd:cz c.n ops.toList=true:=by exact rfl)(hr:∀ K:aB→Nat→Prop,K s' κ'→aK c (ey ops) s κ K:=by intro K k;simp;(repeat refine ah ?_);exact k):AW c r (.region id ops false) s κ Q:=
 aar hd (hr (fun s κ=>Q .normal s κ) h)
theorem aaq (κ1:Nat)(hc:aa c.P c.G f xs x) (h:AW c r y s' κ' Q) (hd:cz c.n ops.toList=true:=by exact rfl) (hr:∀ κ2,κ2=κ1→aa c.P c.G f xs x→∀ K:aB→Nat→Prop,K s' κ'→aK c (ey ops) s κ K:=by intro κ2 e hc K k;simp;refine ag.p κ2 9 hc ?_;subst e;simp;(repeat refine ah ?_);exact k):AW c r (.seq (.region id ops false) y) s κ Q:=
 aaa fun K hK=>aar hd (hr κ1 rfl hc K (hK _ _ h))
theorem AW.m0 (κ1:Nat)(hc:aa c.P c.G f xs x) (h:Q .normal s' κ') (hd:cz c.n ops.toList=true:=by exact rfl) (hr:∀ κ2,κ2=κ1→aa c.P c.G f xs x→∀ K:aB→Nat→Prop,K s' κ'→aK c (ey ops) s κ K:=by intro κ2 e hc K k;simp;refine ag.p κ2 9 hc ?_;subst e;simp;(repeat refine ah ?_);exact k):AW c r (.region id ops false) s κ Q:=
 aar hd (hr κ1 rfl hc (fun s κ=>Q .normal s κ) h)
theorem aal(e1:a1) (h:AW c r y s' κ' Q) (hd:cz c.n ops.toList=true:=by exact rfl) (hr:a1→∀ K:aB→Nat→Prop,K s' κ'→aK c (ey ops) s κ K:=by intro e1 K k;simp [e1];(repeat refine ah ?_);exact k):AW c r (.seq (.region id ops false) y) s κ Q:=
 aaa fun K hK=>aar hd (hr e1 K (hK _ _ h))
theorem aat(e1:a1) (h:Q .normal s' κ') (hd:cz c.n ops.toList=true:=by exact rfl) (hr:a1→∀ K:aB→Nat→Prop,K s' κ'→aK c (ey ops) s κ K:=by intro e1 K k;simp [e1];(repeat refine ah ?_);exact k):AW c r (.region id ops false) s κ Q:=
 aar hd (hr e1 (fun s κ=>Q .normal s κ) h)
theorem aav(κ1:Nat)(hc:aa c.P c.G f xs x) (e1:a1) (h:AW c r y s' κ' Q) (hd:cz c.n ops.toList=true:=by exact rfl) (hr:∀ κ2,κ2=κ1→a1→aa c.P c.G f xs x→∀ K:aB→Nat→Prop,K s' κ'→aK c (ey ops) s κ K:=by intro κ2 e e1 hc K k;simp [e1];refine ag.p κ2 9 hc ?_;subst e;simp [e1];(repeat refine ah ?_);exact k):AW c r (.seq (.region id ops false) y) s κ Q:=
 aaa fun K hK=>aar hd (hr κ1 rfl e1 hc K (hK _ _ h))
theorem aax(κ1:Nat)(hc:aa c.P c.G f xs x) (e1:a1) (h:Q .normal s' κ') (hd:cz c.n ops.toList=true:=by exact rfl) (hr:∀ κ2,κ2=κ1→a1→aa c.P c.G f xs x→∀ K:aB→Nat→Prop,K s' κ'→aK c (ey ops) s κ K:=by intro κ2 e e1 hc K k;simp [e1];refine ag.p κ2 9 hc ?_;subst e;simp [e1];(repeat refine ah ?_);exact k):AW c r (.region id ops false) s κ Q:=
 aar hd (hr κ1 rfl e1 hc (fun s κ=>Q .normal s κ) h)
theorem aas(e1:a1) (e2:a2) (h:AW c r y s' κ' Q) (hd:cz c.n ops.toList=true:=by exact rfl) (hr:a1→a2→∀ K:aB→Nat→Prop,K s' κ'→aK c (ey ops) s κ K:=by intro e1 e2 K k;simp [e1,e2];(repeat refine ah ?_);exact k):AW c r (.seq (.region id ops false) y) s κ Q:=
 aaa fun K hK=>aar hd (hr e1 e2 K (hK _ _ h))
theorem aau(e1:a1) (e2:a2) (h:Q .normal s' κ') (hd:cz c.n ops.toList=true:=by exact rfl) (hr:a1→a2→∀ K:aB→Nat→Prop,K s' κ'→aK c (ey ops) s κ K:=by intro e1 e2 K k;simp [e1,e2];(repeat refine ah ?_);exact k):AW c r (.region id ops false) s κ Q:=
 aar hd (hr e1 e2 (fun s κ=>Q .normal s κ) h)
theorem AW.c2(κ1:Nat)(hc:aa c.P c.G f xs x) (e1:a1) (e2:a2) (h:AW c r y s' κ' Q) (hd:cz c.n ops.toList=true:=by exact rfl) (hr:∀ κ2,κ2=κ1→a1→a2→aa c.P c.G f xs x→∀ K:aB→Nat→Prop,K s' κ'→aK c (ey ops) s κ K:=by intro κ2 e e1 e2 hc K k;simp [e1,e2];refine ag.p κ2 9 hc ?_;subst e;simp [e1,e2];(repeat refine ah ?_);exact k):AW c r (.seq (.region id ops false) y) s κ Q:=
 aaa fun K hK=>aar hd (hr κ1 rfl e1 e2 hc K (hK _ _ h))
theorem AW.m2(κ1:Nat)(hc:aa c.P c.G f xs x) (e1:a1) (e2:a2) (h:Q .normal s' κ') (hd:cz c.n ops.toList=true:=by exact rfl) (hr:∀ κ2,κ2=κ1→a1→a2→aa c.P c.G f xs x→∀ K:aB→Nat→Prop,K s' κ'→aK c (ey ops) s κ K:=by intro κ2 e e1 e2 hc K k;simp [e1,e2];refine ag.p κ2 9 hc ?_;subst e;simp [e1,e2];(repeat refine ah ?_);exact k):AW c r (.region id ops false) s κ Q:=
 aar hd (hr κ1 rfl e1 e2 hc (fun s κ=>Q .normal s κ) h)
theorem aay(e1:a1) (e2:a2) (e3:a3) (h:AW c r y s' κ' Q) (hd:cz c.n ops.toList=true:=by exact rfl) (hr:a1→a2→a3→∀ K:aB→Nat→Prop,K s' κ'→aK c (ey ops) s κ K:=by intro e1 e2 e3 K k;simp [e1,e2,e3];(repeat refine ah ?_);exact k):AW c r (.seq (.region id ops false) y) s κ Q:=
 aaa fun K hK=>aar hd (hr e1 e2 e3 K (hK _ _ h))
theorem aaB(e1:a1) (e2:a2) (e3:a3) (h:Q .normal s' κ') (hd:cz c.n ops.toList=true:=by exact rfl) (hr:a1→a2→a3→∀ K:aB→Nat→Prop,K s' κ'→aK c (ey ops) s κ K:=by intro e1 e2 e3 K k;simp [e1,e2,e3];(repeat refine ah ?_);exact k):AW c r (.region id ops false) s κ Q:=
 aar hd (hr e1 e2 e3 (fun s κ=>Q .normal s κ) h)
theorem AW.c3(κ1:Nat)(hc:aa c.P c.G f xs x) (e1:a1) (e2:a2) (e3:a3) (h:AW c r y s' κ' Q) (hd:cz c.n ops.toList=true:=by exact rfl) (hr:∀ κ2,κ2=κ1→a1→a2→a3→aa c.P c.G f xs x→∀ K:aB→Nat→Prop,K s' κ'→aK c (ey ops) s κ K:=by intro κ2 e e1 e2 e3 hc K k;simp [e1,e2,e3];refine ag.p κ2 9 hc ?_;subst e;simp [e1,e2,e3];(repeat refine ah ?_);exact k):AW c r (.seq (.region id ops false) y) s κ Q:=
 aaa fun K hK=>aar hd (hr κ1 rfl e1 e2 e3 hc K (hK _ _ h))
theorem aaD(e1:a1) (e2:a2) (e3:a3) (e4:a4) (h:AW c r y s' κ' Q) (hd:cz c.n ops.toList=true:=by exact rfl) (hr:a1→a2→a3→a4→∀ K:aB→Nat→Prop,K s' κ'→aK c (ey ops) s κ K:=by intro e1 e2 e3 e4 K k;simp [e1,e2,e3,e4];(repeat refine ah ?_);exact k):AW c r (.seq (.region id ops false) y) s κ Q:=
 aaa fun K hK=>aar hd (hr e1 e2 e3 e4 K (hK _ _ h))
theorem aaE(e1:a1) (e2:a2) (e3:a3) (e4:a4) (h:Q .normal s' κ') (hd:cz c.n ops.toList=true:=by exact rfl) (hr:a1→a2→a3→a4→∀ K:aB→Nat→Prop,K s' κ'→aK c (ey ops) s κ K:=by intro e1 e2 e3 e4 K k;simp [e1,e2,e3,e4];(repeat refine ah ?_);exact k):AW c r (.region id ops false) s κ Q:=
 aar hd (hr e1 e2 e3 e4 (fun s κ=>Q .normal s κ) h)
theorem AW.c4(κ1:Nat)(hc:aa c.P c.G f xs x) (e1:a1) (e2:a2) (e3:a3) (e4:a4) (h:AW c r y s' κ' Q) (hd:cz c.n ops.toList=true:=by exact rfl) (hr:∀ κ2,κ2=κ1→a1→a2→a3→a4→aa c.P c.G f xs x→∀ K:aB→Nat→Prop,K s' κ'→aK c (ey ops) s κ K:=by intro κ2 e e1 e2 e3 e4 hc K k;simp [e1,e2,e3,e4];refine ag.p κ2 9 hc ?_;subst e;simp [e1,e2,e3,e4];(repeat refine ah ?_);exact k):AW c r (.seq (.region id ops false) y) s κ Q:=
 aaa fun K hK=>aar hd (hr κ1 rfl e1 e2 e3 e4 hc K (hK _ _ h))
theorem AW.f5(e1:a1) (e2:a2) (e3:a3) (e4:a4) (e5:a5) (h:AW c r y s' κ' Q) (hd:cz c.n ops.toList=true:=by exact rfl) (hr:a1→a2→a3→a4→a5→∀ K:aB→Nat→Prop,K s' κ'→aK c (ey ops) s κ K:=by intro e1 e2 e3 e4 e5 K k;simp [e1,e2,e3,e4,e5];(repeat refine ah ?_);exact k):AW c r (.seq (.region id ops false) y) s κ Q:=
 aaa fun K hK=>aar hd (hr e1 e2 e3 e4 e5 K (hK _ _ h))
theorem AW.f6(e1:a1) (e2:a2) (e3:a3) (e4:a4) (e5:a5) (e6:a6) (h:AW c r y s' κ' Q) (hd:cz c.n ops.toList=true:=by exact rfl) (hr:a1→a2→a3→a4→a5→a6→∀ K:aB→Nat→Prop,K s' κ'→aK c (ey ops) s κ K:=by intro e1 e2 e3 e4 e5 e6 K k;simp [e1,e2,e3,e4,e5,e6];(repeat refine ah ?_);exact k):AW c r (.seq (.region id ops false) y) s κ Q:=
 aaa fun K hK=>aar hd (hr e1 e2 e3 e4 e5 e6 K (hK _ _ h))
theorem AW.f7(e1:a1) (e2:a2) (e3:a3) (e4:a4) (e5:a5) (e6:a6) (e7:a7) (h:AW c r y s' κ' Q) (hd:cz c.n ops.toList=true:=by exact rfl) (hr:a1→a2→a3→a4→a5→a6→a7→∀ K:aB→Nat→Prop,K s' κ'→aK c (ey ops) s κ K:=by intro e1 e2 e3 e4 e5 e6 e7 K k;simp [e1,e2,e3,e4,e5,e6,e7];(repeat refine ah ?_);exact k):AW c r (.seq (.region id ops false) y) s κ Q:=
 aaa fun K hK=>aar hd (hr e1 e2 e3 e4 e5 e6 e7 K (hK _ _ h))
theorem AW.f8{a8:Prop}(e1:a1) (e2:a2) (e3:a3) (e4:a4) (e5:a5) (e6:a6) (e7:a7) (e8:a8) (h:AW c r y s' κ' Q) (hd:cz c.n ops.toList=true:=by exact rfl) (hr:a1→a2→a3→a4→a5→a6→a7→a8→∀ K:aB→Nat→Prop,K s' κ'→aK c (ey ops) s κ K:=by intro e1 e2 e3 e4 e5 e6 e7 e8 K k;simp [e1,e2,e3,e4,e5,e6,e7,e8];(repeat refine ah ?_);exact k):AW c r (.seq (.region id ops false) y) s κ Q:=
 aaa fun K hK=>aar hd (hr e1 e2 e3 e4 e5 e6 e7 e8 K (hK _ _ h))
theorem aq.t2{y:AV}{t:Nat}(hr:fn.results=#[.tmp t,.tmp u]) (kh:Key) (hx:s.fr t=x:=by simp) (hy:s.fr u=y:=by simp) (hp:x.pure=true:=by first|rfl|simp) (hq:y.pure=true:=by first|rfl|simp) (hh:s.lv kh=.hole:=by first|rfl|simp) (hn:x.cu=true:=by first|rfl|simp) (hm:y.cu=true:=by first|rfl|simp) (htu:t≠u:=by decide):aq c fn (.tup [x,y]) .ret s 0:=
 aq.R8 hr kh hx hy hp hq hh hn hm htu
end
end Go.Am
namespace Go.Am.N
variable {B n i m d x:Nat}{l:List Nat}
def val (B:Nat):List Nat→Nat
 | []=>0
 | d::l=>d+B*val B l
def ok (B:Nat)(l:List Nat):Prop:=∀ d∈l,d<B
@[simp] theorem ri (B:Nat):val B []=0:=rfl
@[simp] theorem bH (B d:Nat)(l:List Nat):val B (d::l)=d+B*val B l:=rfl
theorem iR (B:Nat)(a b:List Nat):val B (a++b)=val B a+B ^ a.length*val B b:=by
 induction a with
 | nil=>simp
 | cons d a ih=>
  simp only [YI,bH,ih,Xi,WU]
  grind
theorem oG (B n:Nat):val B (List.replicate n 0)=0:=by
 induction n with
 | zero=>rfl
 | succ n ih=>simp [YT,ih]
theorem b9 (B:Nat):ok B []:=fun d h=>by cases h
theorem bx:ok B (d::l)↔d<B∧ok B l:=by simp [ok]
theorem b8{a b:List Nat}:ok B (a++b)↔ok B a∧ok B b:=by
 simp only [ok,XF];exact⟨fun h=>⟨fun d hd=>h d (.inl hd),fun d hd=>h d (.inr hd)⟩,fun h d hd=>hd.elim (h.1 d) (h.2 d)⟩
theorem qU(hB:0<B) (n:Nat):ok B (List.replicate n 0):=fun d hd=>by rw [List.eq_of_mem_replicate hd];exact hB
theorem kU(h:ok B l) (n:Nat):ok B (l.take n):=fun d hd=>h d (X9 hd)
theorem AH(h:ok B l) (n:Nat):ok B (l.drop n):=fun d hd=>h d (X3 hd)
theorem Fu(h:ok B l) (n:Nat)(hx:x<B):ok B (l.set n x):=fun d hd=>by
 rcases List.mem_or_eq_of_mem_set hd with h1|h1
 ·exact h d h1
 ·rw [h1];exact hx
theorem eY {B:Nat}:∀ {l:List Nat},ok B l→val B l<B ^ l.length
 | [],_=>by simp
 | d::l,h=>by
  rw [bx] at h;have h1:=eY h.2;simp only [bH,Xi,WU];have h2:B*(val B l+1)≤B*B ^ l.length:=Xd _ h1;rw [WL,WT B (B ^ _)] at h2;omega
theorem bq(h:i<l.length):val B (l.take (i+1))=val B (l.take i)+B ^ i*l[i]:=by
 rw [List.take_succ_eq_append_getElem h,iR,WR,Xu (by omega)];simp
theorem bW(l:List Nat) (i:Nat) (h:i≤l.length):val B l=val B (l.take i)+B ^ i*val B (l.drop i):=by
 conv=>lhs;rw [← Ys i l,iR,WR,Xu h]
theorem cB(h:i<l.length):val B (l.drop i)=l[i]+B*val B (l.drop (i+1)):=by
 rw [XG h,bH]
theorem eS(h:l.length≤i):val B (l.drop i)=0:=by
 rw [Ye h];rfl
theorem aL(h:l.length≤i):val B (l.take i)=val B l:=by
 rw [X6 h]
def can (B:Nat)(l:List Nat):Prop:=ok B l∧∀ x,l.getLast?=some x→x≠0
def cS (l:List Nat):List Nat:=(l.reverse.dropWhile (·=0)).reverse
@[simp] theorem P4:cS []=[]:=rfl
theorem hJ (l:List Nat):cS (l++[0])=cS l:=by simp [cS]
theorem je(h:x≠0):cS (l++[x])=l++[x]:=by simp [cS,h]
theorem sw {p:List Nat→Prop}(h0:p []) (h1:∀ l x,p l→p (l++[x])) (l:List Nat):p l:=by
 have key:∀ l:List Nat,p l.reverse:=by
  intro l
  induction l with
  | nil=>exact h0
  | cons x l ih=>rw [List.reverse_cons];exact h1 _ _ ih
 rw [← List.reverse_reverse l];exact key _
theorem Jg (B:Nat)(l:List Nat):val B (cS l)=val B l:=by
 induction l using sw with
 | h0=>rfl
 | h1 l x ih=>
  by_cases h:x=0
  ·subst h;rw [hJ,ih,iR];simp
  ·rw [je h]
theorem KJ (l:List Nat):(cS l).length≤l.length:=by
 induction l using sw with
 | h0=>exact bg _
 | h1 l x ih=>
  by_cases h:x=0
  ·subst h;rw [hJ];simp;omega
  ·rw [je h];exact bg _
theorem A6(h:ok B l):ok B (cS l):=by
 induction l using sw with
 | h0=>exact h
 | h1 l x ih=>
  by_cases e:x=0
  ·subst e;rw [hJ];exact ih (b8.1 h).1
  ·rw [je e];exact h
theorem LS(h:ok B l):can B (cS l):=by
 refine⟨A6 h,?_⟩;clear h
 induction l using sw with
 | h0=>intro x hx;cases hx
 | h1 l x ih=>
  by_cases e:x=0
  ·subst e;rw [hJ];exact ih
  ·rw [je e];intro y hy;simp at hy;omega
theorem xE(h:can B (d::l)):can B l:=by
 refine⟨(bx.1 h.1).2,fun x hx=>h.2 x ?_⟩
 cases l with
 | nil=>cases hx
 | cons e l=>rw [List.getLast?_cons_cons];exact hx
theorem gN(h:can B l) (h0:l≠[]):0<val B l:=by
 induction l with
 | nil=>exact absurd rfl h0
 | cons d l ih=>
  simp only [bH]
  by_cases hl:l=[]
  ·subst hl;have:=h.2 d rfl;simp;omega
  ·have h1:=ih (xE h) hl
   have h2:0<B:=by
    have:=(bx.1 h.1).1;omega
   have:=XC h2 h1;omega
theorem C8(h:can B l) (h0:val B l=0):l=[]:=by
 by_cases e:l=[]
 ·exact e
 ·have:=gN h e;omega
theorem GJ {B:Nat}:∀ {a b:List Nat},can B a→can B b→val B a=val B b→a=b
 | [],b,_,hb,h=>(C8 hb h.symm).symm
 | a,[],ha,_,h=>C8 ha h
 | d::a,e::b,ha,hb,h=>by
  simp only [bH] at h;have hd:=(bx.1 ha.1).1;have he:=(bx.1 hb.1).1
  have h1:d=e:=by
   have:=congrArg (· % B) h;simp only [Y1,Xk hd,Xk he] at this;exact this
  subst h1;have h2:B*val B a=B*val B b:=by omega
  have h3:=Nat.eq_of_mul_eq_mul_left (by omega:0<B) h2;rw [GJ (xE ha) (xE hb) h3]
def DT (B:Nat):Nat→Nat→List Nat
 | 0,_=>[]
 | f+1,n=>if n=0 then [] else n % B::DT B f (n / B)
def aI (B n:Nat):List Nat:=DT B n n
theorem wY {B:Nat}(hB:2≤B):∀ {f n:Nat},n≤f→val B (DT B f n)=n
 | 0,n,h=>by simp [DT];omega
 | f+1,n,h=>by
  simp only [DT];split
  ·rename_i e;simp [e]
  ·rename_i e
   have h1:n / B<n:=Nat.div_lt_self (by omega) (by omega);rw [bH,wY hB (by omega)];exact Nat.mod_add_div n B
theorem DK {B:Nat}(hB:2≤B):∀ {f n:Nat},n≤f→can B (DT B f n)
 | 0,n,h=>⟨b9 B,fun x hx=>by cases hx⟩
 | f+1,n,h=>by
  simp only [DT];split
  ·exact⟨b9 B,fun x hx=>by cases hx⟩
  ·rename_i e
   have h1:n / B<n:=Nat.div_lt_self (by omega) (by omega);have h2:=DK hB (f:=f) (n:=n / B) (by omega);refine⟨bx.2 ⟨Xa _ (by omega),h2.1⟩,fun x hx=>?_⟩
   cases e2:DT B f (n / B) with
   | nil=>
    rw [e2] at hx;simp at hx;subst hx;have h3:=wY hB (f:=f) (n:=n / B) (by omega);rw [e2] at h3;simp at h3;have h4:=Nat.mod_add_div n B;rw [← h3] at h4;simp at h4;omega
   | cons d l=>
    rw [e2,List.getLast?_cons_cons] at hx;exact h2.2 x (by rw [e2];exact hx)
theorem bk(hB:2≤B) (n:Nat):val B (aI B n)=n:=wY hB (bg _)
theorem bp(hB:2≤B) (n:Nat):can B (aI B n):=DK hB (bg _)
theorem gB(hB:2≤B)(h:can B l) (hv:val B l=n):l=aI B n:=
 GJ h (bp hB n) (by rw [hv,bk hB])
theorem dB(hB:2≤B)(h:ok B l) (hv:val B l=n):cS l=aI B n:=
 gB hB (LS h) (by rw [Jg,hv])
@[simp] theorem RA (B:Nat):aI B 0=[]:=rfl
theorem dI(hB:2≤B):aI B n=[]↔n=0:=
 ⟨fun h=>by rw [← bk hB n,h];rfl,fun h=>by rw [h];rfl⟩
theorem qn(hB:2≤B):n<B ^ (aI B n).length:=by
 have:=eY (bp hB n).1
 rwa [bk hB] at this
theorem Pd(hB:2≤B) (h:n≠0):B ^ ((aI B n).length - 1)≤n:=by
 have hc:=bp hB n;have hv:=bk hB n;have hn:aI B n≠[]:=fun e=>h ((dI hB).1 e)
 have hlen:0<(aI B n).length:=List.length_pos_iff.2 hn;have hlast:(aI B n).length - 1<(aI B n).length:=by omega
 have h1:=bW (B:=B) (aI B n) ((aI B n).length - 1) (by omega);rw [cB hlast,hv] at h1;have h2:(aI B n)[(aI B n).length - 1]≠0:=hc.2 _ (by rw [Zf,rP hlast])
 have h3:B ^ ((aI B n).length - 1)*1≤B ^ ((aI B n).length - 1)*((aI B n)[(aI B n).length - 1]+B*val B ((aI B n).drop ((aI B n).length - 1+1))):=
  Xd _ (by omega)
 omega
theorem cD(hB:2≤B) (h:n<B ^ m):(aI B n).length≤m:=by
 by_cases e:n=0
 ·subst e;simp
 ·have h1:=Pd hB e;have h2:B ^ ((aI B n).length - 1)<B ^ m:=XV h1 h;have:=(Zg (by omega:1<B)).1 h2;omega
theorem IG(hB:2≤B) (h0:n≠0) (h:n<B):aI B n=[n]:=
 (gB hB ⟨bx.2 ⟨h,b9 B⟩,fun x hx=>by simp at hx;omega⟩ (by simp)).symm
theorem cR(hB:2≤B) (h:m≤n):(aI B m).length≤(aI B n).length:=
 cD hB (XV h (qn hB))
theorem Hp(hB:2≤B) (h:(aI B m).length<(aI B n).length):m<n:=by
 by_cases e:m<n
 ·exact e
 ·have:=cR hB (Yr e);omega
end Go.Am.N
namespace Go.Am.N
theorem nW (B i m:Nat):B ^ i*(m % B)+B ^ (i+1)*(m / B)=B ^ i*m:=by
 rw [WU,WV,← WL,Nat.mod_add_div]
theorem eK (B:Nat)(l:List Nat)(x:Nat):val B (l++[x])=val B l+B ^ l.length*x:=by
 rw [iR];simp
theorem mh (B:Nat)(l:List Nat)(m:Nat):val B (l++[m % B])+B ^ (l.length+1)*(m / B)=val B l+B ^ l.length*m:=by
 rw [eK,XK,nW]
theorem wh {B:Nat}:∀ {l:List Nat}{i:Nat}(h:i<l.length) (x:Nat),val B (l.set i x)+B ^ i*l[i]=val B l+B ^ i*x
 | d::l,0,h,x=>by simp;omega
 | d::l,i+1,h,x=>by
  have ih:=wh (B:=B) (l:=l) (i:=i) (by simpa using h) x;simp only [List.set_cons_succ,bH,List.getElem_cons_succ,WU];have e1:B ^ i*B*l[i]'(by simpa using h)=B*(B ^ i*l[i]'(by simpa using h)):=by rw [WT (B ^ i) B,WV]
  have e2:B ^ i*B*x=B*(B ^ i*x):=by rw [WT (B ^ i) B,WV]
  rw [e1,e2,XK,← WL,ih,WL];omega
end Go.Am.N
namespace Go.Am
open N
variable {T e:TypeId}{k k':IntKind}{P:Program}{lv:Key→LB}{o:Option (List Nat)}{i off len sz:Nat}{n:Int}{l:List Nat}
def dK (k:IntKind)(l:List Nat):List (List DV):=l.map fun (x:Nat)=>[DV.int k (x:Int)]
def nK (k:IntKind):Option (List Nat)→AV
 | none=>.c (.d .nilsl)
 | some l=>.c (.d (.sl (dK k l)))
def dO (o:Option (List Nat)):List Nat:=o.getD []
@[simp] theorem aV (l:List Nat):dO (some l)=l:=rfl
@[simp] theorem SG:dO none=[]:=rfl
@[simp] theorem Tl (k:IntKind)(o:Option (List Nat)):(nK k o).pure=true:=by cases o <;> rfl
@[simp] theorem Rv (k:IntKind)(o:Option (List Nat)):(nK k o).cu=true:=by cases o <;> rfl
@[simp] theorem QY (k:IntKind)(o:Option (List Nat)):(nK k o).bY=true:=by cases o <;> rfl
@[simp] theorem UN (k:IntKind)(o:Option (List Nat))(g:Key→Key):(nK k o).bU g=nK k o:=by cases o <;> rfl
theorem gY {V:Vw}{v:Value}(h:V.av v (nK k o)):(dO o).length≤9223372036854775807∧∀ x∈dO o,(x:Int)≤pF k:=by
 cases o with
 | none=>exact⟨by simp,fun x hx=>by cases hx⟩
 | some l=>
  have h1:=Vw.FL h;simp only [dK,W6] at h1;refine⟨h1,fun x hx=>?_⟩;obtain⟨h,_⟩:=h
  cases h with
  | sl b off cap sz _ vs hl hc hb hm ho hr=>
   obtain⟨i,hi,rfl⟩:=List.mem_iff_getElem.1 hx;simp only [aV] at hi;have h2:=hr i (by simpa [dK] using hi) 0 (by simp [dK]);simp only [dK,WK,Xo] at h2
   have h3:k.wrap (l[i]:Int)=(l[i]:Int):=by
    generalize vs i 0=u at h2
    cases h2;assumption
   rw [nU] at h3;simp only [aV];exact h3.2
theorem mR{z:Nat}(h:eP P T=some (e,z)):eA P T lv (nK k o)=some (.c (.d (.int .i64 (dO o).length)),[],[],True):=by
 cases o <;> simp [eA,kH,nK,h,dK,keyOf,ng]
theorem KC(h:eP P T=some (e,1)) (hi:i<(dO o).length) :
 ak P T lv (nK k o) (.c (.d (.int k' (i:Int))))=some (.c (.d (.ptr [DV.int k ((dO o)[i]:Int)])),[],[],True):=by
 cases o with
 | none=>cases hi
 | some l=>
  simp only [aV] at hi;have h1:(dK k l)[i]?.getD []=[DV.int k (l[i]:Int)]:=by simp [dK,hi]
  have h2:(i:Int)<(l.length:Int):=by omega
  simp [nK,ak,h,h1];simp [dK,hi]
@[simp] theorem Cv(h:(eP P T).isSome=true):eA P T lv (nK k o)=some (.c (.d (.int .i64 (dO o).length)),[],[],True):=by
 obtain⟨⟨e,z⟩,h⟩:=Option.isSome_iff_exists.1 h;exact mR h
@[simp] theorem fV(h:(eP P T).map (·.2)=some 1) (hi:i<(dO o).length) :
 ak P T lv (nK k o) (.c (.d (.int k' (i:Int))))=some (.c (.d (.ptr [DV.int k ((dO o)[i]:Int)])),[],[],True):=by
 obtain⟨⟨e,z⟩,h,rfl⟩:=Option.map_eq_some_iff.1 h;exact KC h hi
@[simp] theorem QT{k:Key}(h:(eP P T).isSome=true):eA P T lv (.c (.aR k off len sz))=(match lv k with|.cells ..|.nils=>some (.c (.d (.int .i64 len)),[],[k],ng (.c (.aR k off len sz)) len)|_=>none):=by
 simp only [eA,kH,h,if_true]
 cases lv k <;> rfl
@[simp] theorem Qq {k:Key}:ng (.c (.aR k off len sz)) n=(n≤9223372036854775807):=rfl
@[simp] theorem R6{l:List UInt8}(h:ct P T=true):eA P T lv (.c (.d (.str l)))=some (.c (.d (.int .i64 l.length)),[],[],True):=by
 simp [eA,kH,h,keyOf]
attribute [simp] DU
def wK (k:IntKind)(l:List Nat):List CV:=l.map fun (x:Nat)=>CV.d (.int k (x:Int))
@[simp] theorem I7 (k:IntKind)(l:List Nat):(wK k l).length=l.length:=by simp [wK]
theorem fO (k:IntKind)(n:Nat):List.replicate n (CV.d (.int k 0))=wK k (List.replicate n 0):=by simp [wK]
theorem fB (k:IntKind)(h:i<l.length) (x:Nat):aj (wK k l) i [CV.d (.int k (x:Int))]=wK k (l.set i x):=by
 simp only [aj,wK,Xy];rw [List.set_eq_take_append_cons_drop,if_pos h];simp [List.map_take,List.map_drop]
theorem GZ(ha:cY P T=some false) (k:IntKind)(h:i<l.length):eN P T ((wK k l).drop i)=some (.c (.d (.int k (l[i]:Int)))):=by
 have:(wK k l).drop i=CV.d (.int k (l[i]:Int))::(wK k l).drop (i+1):=by
  rw [XG (by simpa using h)];simp [wK]
 rw [this];simp [ha]
attribute [simp] GZ
theorem xO {lv:Key→LB}{n:Nat}{k:IntKind}:∀ (l:List Nat),fU (cU lv n) (wK k l)=some (l.map fun (x:Nat)=>DV.int k (x:Int),[])
 | []=>rfl
 | x::l=>by
  have ih:=xO (lv:=lv) (n:=n) (k:=k) l;simp only [wK,WX,fU] at ih ⊢;rw [ih]
  cases n <;> rfl
theorem oP {α:Type}:∀ (l:List α),chunk 1 l.length l=l.map fun x=>[x]
 | l=>by
  apply List.ext_getElem
  ·simp [chunk]
  ·intro i h1 h2;simp [chunk] at h1 h2 ⊢;rw [XG (by omega)];rfl
theorem By{κ:Key}{own fz:Bool}(h:lv κ=.cells own fz T (wK k l)) (hl:l.length≤9223372036854775807):eC lv (.c (.aR κ 0 l.length 1))=some (nK k (some l),[κ]):=by
 have h1:(wK k l).take l.length=wK k l:=X6 (by simp);simp only [eC,cU,h,I7,XB,W5,bg,hl,and_self,if_true,fQ,h1,xO,W4];have h2:=oP (l.map fun (x:Nat)=>DV.int k (x:Int));rw [W6] at h2;rw [h2];simp [nK,dK]
theorem bG(h1:-9223372036854775808≤n) (h2:n≤9223372036854775807):IntKind.i64.wrap n=n:=cC ⟨h1,h2⟩
theorem di(h1:0≤n) (h2:n≤18446744073709551615):IntKind.u64.wrap n=n:=cC ⟨h1,h2⟩
theorem tS(h1:0≤n) (h2:n≤4294967295):IntKind.u32.wrap n=n:=cC ⟨h1,h2⟩
theorem pW (n:Int):IntKind.u32.wrap n=n % 4294967296:=by rw [vS];simp [IntKind.signed,IntKind.bits]
theorem Ac (n:Int):IntKind.u64.wrap n=n % 18446744073709551616:=by rw [vS];simp [IntKind.signed,IntKind.bits]
theorem fS.pz {c:Ctx}{f:FuncId}{ps:List yC}{d:Option Tmp}{s:aB}{κ:Nat}{K:aB→Nat→Prop}(κ':Nat) (kh:Key) (κb:Key){x:AV}(hk:s.lv κb=.cells true false T (wK k l)) (hl:l.length≤9223372036854775807)
 (hc:aa c.P c.G f [nK k (some l)] x) (hx:x.pure=true) (hh:s.lv kh=.hole) (hkh:kh≠κb) (hK:aK c ps (aB.put ⟨s.fr,aC s.lv κb (.cells true true T (wK k l))⟩ d x) κ' K):fS c f [.c (.aR κb 0 l.length 1)] ps d s κ K:=by
 refine ag.U3 κ' kh κb T (wK k l) [kh] hc hx hk hh hkh rfl (fun i p q=>?_) (fun a ha j hj=>?_) (by simp) hK
 ·have hi:i=0:=by simp at p;omega
  subst hi;right;exact By (aA _ _ _) hl
 ·simp only [Xx] at ha;subst ha;simp only [pE,lY,WM,aA] at hj;rcases hj with rfl|hj
  ·exact .inr rfl
  ·simp only [XQ] at hj;obtain⟨y,hy,hj⟩:=hj;simp only [wK,Xp] at hy;obtain⟨z,_,rfl⟩:=hy
   cases hj
end Go.Am
namespace Go.Am
open N
variable {lv lv':Key→LB}{c:Ctx}{fr:Nat→AV}
attribute [simp] mJ
@[simp] theorem Sz (x:CV):(AV.c x).bY=true:=rfl
@[simp] theorem Qd (x:List CV):(AV.agg x).bY=true:=rfl
@[simp] theorem Tg (x:DV):(AV.c (.d x)).pure=true:=rfl
theorem aaz{r:Option Nat}{s:aB}{κ:Nat}{Q:Ex→aB→Nat→Prop}{x:Code}(κ':Nat) (h:AW c r x s κ' Q):AW c r x s κ Q:=h
def ic (lv:Key→LB):Prop:=∀ k own es,lv k≠.map own es
@[simp] theorem aX:ic (fun _=>.hole):=fun k own es h=>by cases h
@[simp] theorem tF(h:ic lv) (k:Key) (own fz:Bool) (T:TypeId) (cs:List CV):ic (aC lv k (.cells own fz T cs)):=fun k' o es h'=>by
 unfold aC at h';split at h'
 ·cases h'
 ·exact h _ _ _ h'
@[simp] theorem oz(h:ic lv) (k:Key):ic (aC lv k .dead):=fun k' o es h'=>by
 unfold aC at h';split at h'
 ·cases h'
 ·exact h _ _ _ h'
theorem Le.mk'(l:List (Nat × AV)) (he:lv=lv') (hm:ic lv) (hl:∀ p∈l,p.2.bY=true∧fr p.1=p.2):Le c ⟨fr,lv⟩ ⟨bf l,lv'⟩:=by
 subst he;exact Le.slots l hl (fun k own es h=>absurd h (hm k own es))
theorem Le.mW(l:List (Nat × AV)) (he:lv=lv':=by first|rfl|simp) (hl:∀ p∈l,p.2.bY=true∧fr p.1=p.2:=by simp) (hm:ic lv:=by repeat (first|exact aX|refine tF ?_ _ _ _ _ _|(refine oz ?_ _)|(refine zJ ?_ _ _ _)|(refine nX ?_ _)|simp)):Le c ⟨fr,lv⟩ ⟨bf l,lv'⟩:=Le.mk' l he hm hl
theorem jN (pre:List Nat)(m x:Nat):(pre++List.replicate (m+1) 0).set pre.length x=(pre++[x])++List.replicate m 0:=by
 rw [Zh _ _ (bg _)];simp [YT]
end Go.Am
namespace Go.Am
variable {P:Program}{T:TypeId}{k:IntKind}{m n:Int}
def J2 (k:IntKind)(m n:Int):Int:=k.wrap (BitVec.ofInt k.bits m ||| BitVec.ofInt k.bits n).toNat
def U4 (k:IntKind)(m n:Int):Int:=k.wrap (BitVec.ofInt k.bits m &&& BitVec.ofInt k.bits n).toNat
@[simp] theorem Uu:aH P .or T (.c (.d (.int k m))) (.c (.d (.int k n)))=some (.c (.d (.int k (J2 k m n))),[],[],True):=Rs
@[simp] theorem TA:aH P .and T (.c (.d (.int k m))) (.c (.d (.int k n)))=some (.c (.d (.int k (U4 k m n))),[],[],True):=OR
theorem OG (m n:Nat)(hm:m<18446744073709551616)(hn:n<18446744073709551616):J2 .u64 (m:Int) (n:Int)=((m ||| n:Nat):Int):=by
 have h2:(BitVec.ofNat 64 m ||| BitVec.ofNat 64 n).toNat=m ||| n:=by
  rw [BitVec.toNat_or,Zi,Zi,Xk hm,Xk hn]
 have h3:m ||| n<18446744073709551616:=Nat.or_lt_two_pow (n:=64) hm hn;show IntKind.u64.wrap (((BitVec.ofInt 64 (m:Int) ||| BitVec.ofInt 64 (n:Int)).toNat:Nat):Int)=_;rw [Zj,Zj,h2];generalize m ||| n=q at h3;exact di (by omega) (by omega)
theorem Cg (k:IntKind)(m n:Int):J2 k m n=J2 k n m:=by unfold J2;rw [BitVec.or_comm]
theorem rK {m y:Nat}(hm:m<4294967296) (hy:y<4294967296):J2 .u64 ((m*4294967296:Nat):Int) (y:Int)=((m*4294967296+y:Nat):Int):=by
 rw [OG _ _ (by omega) (by omega)];congr 1;have:=Nat.shiftLeft_add_eq_or_of_lt (i:=32) (b:=y) (by simpa using hy) m;rw [Nat.shiftLeft_eq] at this;exact this.symm
theorem oF (qs:List Nat)(k x:Nat):(List.replicate (k+1) 0++qs).set k x=List.replicate k 0++(x::qs):=by
 rw [Zk _ _ (by simp),List.replicate_succ',Zh _ _ (by simp)];simp
end Go.Am
namespace Go.Am
theorem Pz (m n:Nat)(hm:m<4294967296)(hn:n<4294967296):J2 .u32 (m:Int) (n:Int)=((m ||| n:Nat):Int):=by
 have h2:(BitVec.ofNat 32 m ||| BitVec.ofNat 32 n).toNat=m ||| n:=by
  rw [BitVec.toNat_or,Zi,Zi,Xk hm,Xk hn]
 have h3:m ||| n<4294967296:=Nat.or_lt_two_pow (n:=32) hm hn;show IntKind.u32.wrap (((BitVec.ofInt 32 (m:Int) ||| BitVec.ofInt 32 (n:Int)).toNat:Nat):Int)=_;rw [Zj,Zj,h2];generalize m ||| n=q at h3;exact tS (by omega) (by omega)
theorem Lj {t y s:Nat}(ht:t<2 ^ s) (h:y*2 ^ s+t<4294967296):J2 .u32 (t:Int) ((y*2 ^ s:Nat):Int)=((y*2 ^ s+t:Nat):Int):=by
 rw [Cg,Pz _ _ (by omega) (by omega)];congr 1;have:=Nat.shiftLeft_add_eq_or_of_lt (i:=s) (b:=t) ht y;rw [Nat.shiftLeft_eq] at this;exact this.symm
end Go.Am
namespace Go.Am
variable {x:Nat}{lo pre r:List Nat}
theorem lC {P:Program}{T:TypeId}(ha:cY P T=some false) (k:IntKind) {l:List Nat}{i:Nat}(h:l[i]?=some x):eN P T ((wK k l).drop i)=some (.c (.d (.int k (x:Int)))):=by
 obtain⟨hi,rfl⟩:=List.getElem?_eq_some_iff.1 h;exact GZ ha k hi
theorem F8(hi:List Nat):(lo++(pre++x::r)++hi)[lo.length+pre.length]?=some x:=by
 rw [WY,Yu (by omega),XN,WY,Yu (bg _),Ya];rfl
theorem vN(hi:List Nat) (d:Nat):(lo++(pre++x::r)++hi).set (lo.length+pre.length) d=lo++((pre++[d])++r)++hi:=by
 rw [WY,Zh _ _ (by omega),XN,WY,Zh _ _ (bg _),Ya];simp
end Go.Am
namespace Go.Am
variable {x i:AV}{c:Ctx}{ops:Array Oper}{s:aB}{κ:Nat}{o:Oper}{K:AV→List (Key × LB)→List Key→Nat→Prop}
def gh:Op→Bool
 | .move _|.assign _|.pick ..|.build ..|.load ..|.nilCheck _|.binOp ..|.unOp ..|.convert ..|.makeInterface ..|.slice ..|.fieldAddr ..|.field ..|.indexAddr ..|.index ..|.extract ..=>true
 | .call cl=>match cl.callee with|.builtin .len|.builtin .max|.builtin .min=>true|_=>false
 | _=>false
section
variable {P:Program}{T:TypeId}{lv:Key→LB}{κ:Key}{v:AV}{us:List (Key × LB)}{rds:List Key}{vc:Prop}
theorem R2 {op:BinOp}{y:AV}(h:aH P op T x y=some (v,us,rds,vc)):us=[]:=by
 unfold aH at h;(repeat' split at h) <;> simp_all
theorem O5(h:aZ P T lv x=some (v,us,rds,vc)):us=[]:=by
 unfold aZ at h;(repeat' split at h) <;> simp_all
theorem RR(h:ga lv x=some (v,us,rds,vc)):us=[]:=by
 unfold ga at h;(repeat' split at h) <;> simp_all
theorem U7 {f:Nat}(h:bM P T f lv x=some (v,us,rds,vc)):us=[]:=by
 unfold bM at h;(repeat' split at h) <;> simp_all
theorem U8(h:ak P T lv x i=some (v,us,rds,vc)):us=[]:=by
 unfold ak at h;(repeat' split at h) <;> simp_all
theorem Uj(h:fq P T x i=some (v,us,rds,vc)):us=[]:=by
 unfold fq at h;(repeat' split at h) <;> simp_all
theorem Vo{lo hi:Option AV}(h:bt P T lv x lo hi=some (v,us,rds,vc)):us=[]:=by
 unfold bt at h;(repeat' split at h) <;> simp_all
theorem BY {op:Op}{vals:List AV}(hq:gh op=true) (h:bA P op vals lv κ=some (v,us,rds,vc)):us=[]:=by
 unfold bA at h;split at h
 all_goals first
  | exact R2 h
  | exact O5 h
  | exact RR h
  | exact U7 h
  | exact U8 h
  | exact Uj h
  | (cases hq;done)
  | (split at h;(exact Vo h);(cases h;done))
  | ((repeat' split at h) <;> first|(cases h;done)|(simp only [ai,cy] at h;exact h.2.1.symm))
  | skip
 ·rename_i cl vals'
  unfold iG at h;simp only [gh] at hq;split at h
  ·(repeat' split at h) <;> first|(cases h;done)|(simp only [ai,cy] at h;exact h.2.1.symm)
  ·rename_i e;rw [e] at hq;cases hq
  ·rename_i e;rw [e] at hq;cases hq
  ·(repeat' split at h) <;> first|(cases h;done)|(simp only [ai,cy] at h;exact h.2.1.symm)
  ·(repeat' split at h) <;> first|(cases h;done)|(simp only [ai,cy] at h;exact h.2.1.symm)
  ·cases h
end
theorem dw.quiet(hq:gh o.op=true) (h:dw c o s κ K):dw c o s κ fun x us rds κ'=>us=[]∧K x us rds κ':=by
 have plain:(match bA c.P o.op (o.op.operands.toList.map (s.val c.G)) s.lv κ with
  | some (x,us,rds,vc)=>vc∧K x us rds (match us with|[]=>κ|_=>κ+1)
  | none=>False)→(match bA c.P o.op (o.op.operands.toList.map (s.val c.G)) s.lv κ with
  | some (x,us,rds,vc)=>vc∧(us=[]∧K x us rds (match us with|[]=>κ|_=>κ+1))
  | none=>False):=by
  intro h;split at h
  ·rename_i x us rds vc hs
   exact⟨h.1,BY hq hs,h.2⟩
  ·exact h.elim
 unfold dw at h ⊢;split at h
 ·rename_i cl ho
  split at h
  ·rename_i fo hf
   rw [ho] at hq;simp only [gh,hf] at hq
   cases hq
  ·exact plain h
 ·exact plain h
theorem dw.mono{K':AV→List (Key × LB)→List Key→Nat→Prop}(h:dw c o s κ K) (hK:∀ x us rds κ',K x us rds κ'→K' x us rds κ'):dw c o s κ K':=by
 unfold dw at h ⊢;split at h
 ·split at h
  ·split at h
   ·obtain⟨h1,x,us,rds,κ',h2,h3⟩:=h;exact⟨h1,x,us,rds,κ',h2,hK _ _ _ _ h3⟩
   ·exact h.elim
  ·split at h
   ·exact⟨h.1,hK _ _ _ _ h.2⟩
   ·exact h.elim
 ·split at h
  ·exact⟨h.1,hK _ _ _ _ h.2⟩
  ·exact h.elim
theorem fM.mono{K K':aB→Nat→List Fx→Prop}:∀ {os:List Oper}{s:aB}{κ:Nat}{acc:List Fx},fM c ops os s κ acc K→(∀ s κ acc,K s κ acc→K' s κ acc)→fM c ops os s κ acc K'
 | [],s,κ,acc,h,hK=>hK _ _ _ h
 | o::os,s,κ,acc,h,hK=>by
  simp only [fM] at h ⊢;split at h
  ·exact dw.mono h fun x us rds κ' h3=>fM.mono h3 hK
  ·exact fM.mono h hK
  ·exact h.elim
theorem fM.quiet{K:aB→Nat→Prop}:∀ {os:List Oper}{s:aB}{κ:Nat}{acc:List Fx},os.all (fun o=>gh o.op)=true→(∀ e∈acc,e.us=[])→fM c ops os s κ acc (fun s κ _=>K s κ) →
 fM c ops os s κ acc (fun s κ acc=>(∀ e∈acc,e.us=[])∧K s κ)
 | [],s,κ,acc,_,ha,h=>⟨ha,h⟩
 | o::os,s,κ,acc,hq,ha,h=>by
  simp only [Ym,cn] at hq;simp only [fM] at h ⊢;split at h
  ·rename_i hw
   have h2:=dw.quiet hq.1 h;refine dw.mono h2 fun x us rds κ' h3=>?_;obtain⟨rfl,h4⟩:=h3
   exact fM.quiet hq.2 (fun e he=>by
    rcases List.mem_cons.1 he with rfl|he
    ·rfl
    ·exact ha e he) h4
  ·exact fM.quiet hq.2 (fun e he=>by
    rcases List.mem_cons.1 he with rfl|he
    ·rfl
    ·exact ha e he) h
  ·exact h.elim
theorem EJ{es:List Fx}(h:∀ e∈es,e.us=[]):DS ops es=true:=by
 simp only [DS,E5];intro j _;split
 ·rename_i e' he'
  rw [Xl];right;rw [E5];intro i _;split
  ·rename_i e he
   rw [Xl];right;simp [tn,h e (List.mem_of_getElem? he),h e' (List.mem_of_getElem? he')]
  ·rfl
 ·rfl
theorem aaw{r:Option Nat}{Q:Ex→aB→Nat→Prop}{id:Nat}(hm:c.P.follows .mixedOrders=true) (hst:fW ops=true) (hd:cz c.n ops.toList=true) (hq:ops.toList.all (fun o=>gh o.op)=true)
 (h:aK c (ey ops) s κ fun s' κ'=>Q .normal s' κ'):AW c r (.region id ops true) s κ Q:=by
 refine AW.draw hm hst hd ?_;have h1:nG c ops ops.toList s κ fun s' κ'=>Q .normal s' κ':=by rw [← lS];exact h
 have h2:=fM.quiet hq (fun e he=>by cases he) h1;refine fM.mono h2 fun s' κ' acc h3=>⟨EJ fun e he=>h3.1 e (List.mem_reverse.1 he),h3.2⟩
end Go.Am
namespace Go.Am.N
variable {m n B:Nat}{a b:List Nat}
theorem oQ{j:Nat}(ha:ok B a) (h1:j<a.length) (h2:j<b.length) (hd:a.drop (j+1)=b.drop (j+1)) (h:a[j]<b[j]):val B a<val B b:=by
 have e1:=bW (B:=B) a j (by omega);have e2:=bW (B:=B) b j (by omega);rw [cB h1] at e1;rw [cB h2,← hd] at e2;have h3:=eY (kU ha j);rw [WR,Xu (by omega)] at h3;have h4:B ^ j*(a[j]+B*val B (a.drop (j+1))+1)≤B ^ j*(b[j]+B*val B (a.drop (j+1))):=Xd _ (by omega);rw [WL (B ^ j) _ 1] at h4;omega
theorem j6(hB:2≤B)(ha:can B a) (hb:can B b) (h:a.length<b.length):val B a<val B b:=by
 have e1:=gB hB ha rfl;have e2:=gB hB hb rfl;rw [e1,e2] at h;exact Hp hB h
def dG (m n:Nat):Int:=if m<n then -1 else if n<m then 1 else 0
theorem jh(h:m<n):dG m n = -1:=by simp [dG,h]
theorem jI(h:n<m):dG m n=1:=by simp [dG,h];omega
theorem mo(h:m=n):dG m n=0:=by simp [dG,h]
end Go.Am.N
namespace Go.Am.N
def fY (B:Nat):Nat→Nat→List Nat
 | 0,_=>[]
 | L+1,n=>n % B::fY B L (n / B)
theorem oM {B:Nat}:∀ {l:List Nat}{n:Nat},ok B l→val B l=n→l=fY B l.length n
 | [],n,_,_=>rfl
 | d::l,n,h,hv=>by
  have hd:=(bx.1 h).1;have h1:n % B=d:=by rw [← hv,bH,Y1,Xk hd]
  have h2:n / B=val B l:=by rw [← hv,bH,Y2 _ _ (by omega),Yn hd,W5]
  simp only [Xi,fY,h1,h2];rw [← oM (bx.1 h).2 rfl]
theorem nJ (B:Nat):∀ (L n:Nat),(fY B L n).length=L
 | 0,_=>rfl
 | L+1,n=>by simp [fY,nJ B L]
theorem qN {B:Nat}(hB:0<B):∀ (L n:Nat),ok B (fY B L n)
 | 0,_=>b9 B
 | L+1,n=>bx.2 ⟨Xa _ hB,qN hB L _⟩
theorem lW {B:Nat}:∀ (L n:Nat),val B (fY B L n)=n % B ^ L
 | 0,n=>by simp [fY,Nat.mod_one]
 | L+1,n=>by
  rw [fY,bH,lW L,WU,WT (B ^ L) B,Nat.mod_mul]
end Go.Am.N
namespace Go.Am
variable {s:aB}{κ:Nat}{Q:Ex→aB→Nat→Prop}{c:Ctx}{x:AV}{fn:Func}{b' b:LB}{f:FuncId}{T:TypeId}{own:Bool}{cs:List CV}{P:Program}{G:List (List DV)}{code:Code}{args:List AV}
def wo (Q:Ex→aB→Nat→Prop):Ex→aB→Nat→Prop
 | .goto _,_,_=>False
 | e,s,κ=>Q e s κ
@[simp] theorem Qp:wo Q .normal s κ=Q .normal s κ:=rfl
@[simp] theorem Qw{i:Nat}:wo Q (.exit i) s κ=Q (.exit i) s κ:=rfl
@[simp] theorem QH:wo Q .ret s κ=Q .ret s κ:=rfl
theorem AW.scope{x:Code}(h:AW c none x s κ (wo Q)):AW c none (.scope x) s κ Q:=by
 intro F β a w hs;have h1:=(wpIn_wide (n:=0)).1 (h F β a w hs);refine (wpIn_wide (n:=0)).2 (wp_scope_straight (wp_mono h1 fun e a' w' hp=>?_));obtain⟨x,s',κ',F',β',hq,hs',he⟩:=hp
 cases x with
 | normal=>cases he;exact⟨.normal,s',κ',F',β',hq,hs',rfl⟩
 | exit id=>cases he;exact⟨.exit id,s',κ',F',β',hq,hs',rfl⟩
 | goto l=>exact hq.elim
 | ret=>cases he;exact⟨.ret,s',κ',F',β',hq,hs',rfl⟩
 | panic d=>obtain⟨v,rfl,hv⟩:=he;exact⟨.panic d,s',κ',F',β',hq,hs',v,rfl,hv⟩
theorem Cd (b:LB):bz [b] []=aC (fun _=>.hole) 0 b:=by
 funext k
 by_cases h:k=0
 ·subst h;rfl
 ·rw [aE _ _ h];unfold bz;split
  ·rw [cW (by simp;exact fun e=>h e)]
  ·rfl
theorem LB.bV{fz:Bool}(h:∀ x∈cs,x.pure=true) (g:Key→Key):(LB.cells own fz T cs).bU g=.cells own fz T cs:=by
 simp only [LB.bU]
 have:cs.map (CV.bU g)=cs:=by
  conv=>rhs;rw [← Yw cs]
  exact Xj fun x hx=>CV.bV (h x hx) g
 rw [this]
def P1 (κb:Key)(x u:AV):Prop:=
 (u.pure=true∧x=u)∨(∃ off len sz,u=.c (.aR 0 off len sz)∧x=.c (.aR κb off len sz))∨(∃ off,u=.c (.ptr 0 off)∧x=.c (.ptr κb off))
theorem fS.Lo{xs us:List AV}{ps:List yC}{d:Option Tmp}{K:aB→Nat→Prop}(κ':Nat) (kh κb:Key){cs':List CV}
 (hk:s.lv κb=.cells own false T cs) (hcs:∀ x∈cs,x.pure=true) (hcs':∀ x∈cs',x.pure=true)
 (hc:aF c.P c.G f us [.cells false false T cs] (.ret x [.cells false false T cs'] [])) (hx:x.pure=true) (hlen:us.length=xs.length)
 (ha:∀ i (h:i<xs.length) (h':i<us.length),P1 κb xs[i] us[i]) (hh:s.lv kh=.hole) (hkh:kh≠κb)
 (hK:aK c ps (aB.put ⟨s.fr,aC s.lv κb (.cells own false T cs')⟩ d x) κ' K):fS c f xs ps d s κ K:=by
 have g0:aJ [κb] [] kh 0=κb:=rfl
 have key:=bS.gen (c:=c) (f:=f) (as:=xs) (lv:=s.lv) us [] [κb] [] kh [.cells false false T cs] [.cells false false T cs'] [] x own [kh,κb] (fun z hz=>by cases hz) (by simp) (by simp) (fun z hz=>by cases hz) (by simpa using hkh) (fun z hz=>by cases hz) rfl rfl rfl (by simp)
  (fun i h h'=>by
   have hi:i=0:=by simp at h;omega
   subst hi;show (s.lv κb).as (.cells false false T cs) _;rw [hk];refine⟨own,cs,rfl,?_,fun e=>by cases e⟩
   conv=>lhs;rw [← Yw cs]
   exact Xj fun x hx=>(CV.bV (hcs x hx) _).symm) (fun k hk=>by cases hk) hh (fun b hb=>by simp at hb;subst hb;rfl) (fun b hb=>by simp at hb;rcases hb with rfl|rfl <;> (intro e;cases e)) (fun ho k hk'=>by
    simp at hk';subst hk';rw [hk];exact ho) hlen
  (fun i p q=>by
   left;rcases ha i p q with ⟨h1,h2⟩|⟨off,len,sz,h1,h2⟩|⟨off,h1,h2⟩
   ·exact⟨AV.gU h1,by rw [AV.bV h1];exact h2⟩
   ·rw [h1,h2];exact⟨rfl,rfl⟩
   ·rw [h1,h2];exact⟨rfl,rfl⟩) (fun a ha' j hj=>by
   obtain⟨i,hi,rfl⟩:=List.mem_iff_getElem.1 ha';left
   have hrd:∀ n,∀ j∈(match s.lv κb with|.cells _ _ _ cs=>cs.flatMap (lY s.lv n)|_=>[]),j∈([]:List Key):=by
    intro n j hj;rw [hk] at hj;simp only [XQ] at hj;obtain⟨y,hy,hj⟩:=hj;have:=hcs y hy
    cases y <;> simp_all [CV.pure]
    cases n <;> cases hj
   rcases ha i hi (by omega) with ⟨h1,h2⟩|⟨off,len,sz,h1,h2⟩|⟨off,h1,h2⟩
   ·rw [h2,lR h1] at hj;cases hj
   ·rw [h2] at hj;simp only [pE,lY,dJ,XA,aS,List.foldl_nil,WM] at hj;rcases hj with rfl|hj
    ·simp
    ·exact absurd (hrd 7 j hj) (by simp)
   ·rw [h2] at hj;simp only [pE,lY,dJ,XA,aS,List.foldl_nil,WM] at hj;rcases hj with rfl|hj
    ·simp
    ·exact absurd (hrd 7 j hj) (by simp)) (by simp) hc
 rw [AV.bV hx] at key;refine⟨x,_,_,κ',key,?_⟩
 have e:aS s.lv (dJ []++cj (aJ [κb] [] kh) own [κb] [.cells false false T cs']++cj (aJ [κb] [] kh) own [] [])=aC s.lv κb (.cells own false T cs'):=by
  simp only [dJ,cj,XA,X5,List.zipWith_cons_cons,List.zipWith_nil_left,XD,LB.bV hcs',LB.fix,aS,YF,List.foldl_nil,Bool.false_or,List.zipWith_nil_right]
 show aK c ps (aB.put ⟨s.fr,aS s.lv _⟩ d x) κ' K;rw [e];exact hK
def Dp (c:Ctx)(fn:Func)(x:AV)(b':LB):Ex→aB→Nat→Prop
 | .normal,s,_|.ret,s,_=>∃ l,(∀ p∈l,p.2.bY=true∧s.fr p.1=p.2)∧ic s.lv∧s.lv=aC (fun _=>.hole) 0 b'∧cH c.P ⟨bf l,s.lv⟩ fn.results.toList=some x
 | _,_,_=>False
theorem aF.OV(hf:P.funcs[f]?=some fn) (hb:fn.body=some code) (hl:args.length≤fn.ntmps)
 (h:∀ c:Ctx,c.P=P→c.G=G→c.n=fn.ntmps→AW c none code ⟨fun t=>args.getD t .undef,aC (fun _=>.hole) 0 b⟩ 1000 (Dp c fn x b')):aF P G f args [b] (.ret x [b'] []):=by
 refine aF.nc hf hb hl fun c h1 h2 h3 h4=>?_;rw [Cd] at h4 ⊢;refine AW.mono (h c h1 h2 h3) fun e s κ hq=>?_
 have fin:(∃ l,(∀ p∈l,p.2.bY=true∧s.fr p.1=p.2)∧ic s.lv∧s.lv=aC (fun _=>.hole) 0 b'∧cH c.P ⟨bf l,s.lv⟩ fn.results.toList=some x)→∃ s2 g,ef c s s2 g∧s2.lv=bz [b'] []∧cH c.P s2 fn.results.toList=some x:=by
  rintro⟨l,g1,g2,g3,g4⟩;exact⟨⟨bf l,s.lv⟩,fun k=>k,ef.slots g1 (fun k own es h=>absurd h (g2 k own es)),by rw [Cd];exact g3,g4⟩
 cases e with
 | normal=>exact fin hq
 | ret=>exact fin hq
 | exit id=>exact hq.elim
 | goto l=>exact hq.elim
 | panic d=>exact hq.elim
theorem aF.VX(hf:P.funcs[f]?=some fn) (hb:fn.body=some code)
 (h:∀ z:Ev,AW ⟨P,G,z.w,z.F,z.W,fn.ntmps,z.q,z.b⟩ none code ⟨fun t=>args.getD t .undef,aC (fun _=>.hole) 0 b⟩ 1000 (Dp ⟨P,G,z.w,z.F,z.W,fn.ntmps,z.q,z.b⟩ fn x b')) (hl:Nat.ble args.length fn.ntmps=true:=by kernel_rfl):aF P G f args [b] (.ret x [b'] []):=
 aF.OV hf hb (W9 hl) fun⟨_,_,w,F,W,_,q,b⟩ h1 h2 h3=>by cases h1;cases h2;cases h3;exact h ⟨w,F,W,q,b⟩
theorem Dp.tmp{t:Nat}(hr:fn.results=#[.tmp t]) (hx:s.fr t=x) (hf:x.bY=true) (hm:ic s.lv) (hl:s.lv=aC (fun _=>.hole) 0 b'):Dp c fn x b' .ret s κ:=by
 refine⟨[(t,x)],by simp [hf,hx],hm,hl,?_⟩;rw [hr];simp [cH,iK,ki,bf]
theorem Dp.none{e:Ex}(he:e=.normal∨e=.ret) (hr:fn.results=#[]) (hm:ic s.lv) (hl:s.lv=aC (fun _=>.hole) 0 b'):Dp c fn (.tup []) b' e s κ:=by
 have:∃ l:List (Nat × AV),(∀ p∈l,p.2.bY=true∧s.fr p.1=p.2)∧ic s.lv∧s.lv=aC (fun _=>.hole) 0 b'∧cH c.P ⟨bf l,s.lv⟩ fn.results.toList=some (.tup []):=
  ⟨[],by simp,hm,hl,by rw [hr];simp [cH,iK]⟩
 rcases he with rfl|rfl <;> exact this
end Go.Am
namespace Go.Am.N
variable {g o:Nat}
section
variable {B V W v1 v2 Vl u2 Wl top E qt:Nat}
structure Oi (B E V W v1 v2 Vl top u2 Wl:Nat):Prop where
 hV:V=(v1*B+v2)*E+Vl
 hW:W=(top*B+u2)*E+Wl
 QE:Vl<E
 Sn:Wl<E
 Pp:v2<B
 Qk:u2<B
 hlt:W<B*V
 C7:0<v1
 hB:0<B
variable (h:Oi B E V W v1 v2 Vl top u2 Wl)
include h
theorem Oi.E0:0<E:=by have:=h.QE;omega
theorem Oi.V0:0<V:=by
 have h1:1*1≤(v1*B+v2)*E:=X7 (by have:=XC h.C7 h.hB;omega) h.E0;have:=h.hV;omega
theorem Oi.Pf:top<B*(v1+1):=by
 have h1:top*B*E≤W:=by rw [h.hW,WQ];omega
 have h2:V<(v1+1)*B*E:=by
  have e1:(v1+1)*B*E=(v1*B+B)*E:=by rw [WQ,Xv]
  have e2:(v1*B+v2+1)*E≤(v1*B+B)*E:=WZ _ (by have:=h.Pp;omega);rw [WQ _ 1,Xv] at e2;have:=h.hV;have:=h.QE;omega
 have h3:B*V<B*((v1+1)*B*E):=Nat.mul_lt_mul_of_pos_left h2 h.hB
 have h4:top*(B*E)<B*(v1+1)*(B*E):=by
  have e1:B*((v1+1)*B*E)=B*(v1+1)*(B*E):=by simp only [WV]
  rw [← e1,← WV];have:=h.hlt;omega
 exact Zu h4
theorem Oi.first (hq:qt*V≤W):qt≤top / v1:=by
 rw [YM h.C7];have h1:qt*((v1*B)*E)≤qt*V:=Xd _ (by rw [h.hV,WQ (v1*B)];omega)
 have h2:W<(top+1)*(B*E):=by
  have e1:(top*B+u2+1)*E≤(top*B+B)*E:=WZ _ (by have:=h.Qk;omega);rw [WQ _ 1,Xv] at e1;have e2:(top+1)*(B*E)=(top*B+B)*E:=by rw [WQ,WQ,Xv,WV]
  have:=h.hW;have:=h.Sn;omega
 have h3:qt*v1*(B*E)<(top+1)*(B*E):=by
  have e1:qt*((v1*B)*E)=qt*v1*(B*E):=by simp only [WV]
  rw [← e1];omega
 have:=Zu h3;omega
theorem Oi.over(hq:qt*V≤W) (hg:g*v1+o=top) (ht:o*B+u2<g*v2):qt<g:=by
 apply Xq;intro hn;have h1:g*V≤qt*V:=WZ _ (by omega);have h2:g*((v1*B+v2)*E)≤g*V:=Xd _ (by rw [h.hV];omega)
 have h3:(top*B+u2+1)*E≤g*(v1*B+v2)*E:=by
  refine WZ _ ?_;have e1:g*(v1*B+v2)=g*v1*B+g*v2:=by rw [WL,WV]
  have e2:top*B=g*v1*B+o*B:=by rw [← hg,WQ]
  omega
 rw [WV] at h3;rw [WQ _ 1,Xv] at h3;have:=h.hW;have:=h.Sn;omega
theorem Oi.near(hq:W<(qt+1)*V) (hg:g*v1+o=top) (hgB:g<B) (ht:g*v2≤o*B+u2):g≤qt+1:=by
 apply Xq;intro hn;have h1:(qt+1+1)*V≤g*V:=WZ _ (by omega);rw [WQ (qt+1),Xv] at h1;have h2:g*V=g*(v1*B+v2)*E+g*Vl:=by rw [h.hV,WL,WV]
 have h3:g*(v1*B+v2)*E≤(top*B+u2)*E:=by
  refine WZ _ ?_;have e1:g*(v1*B+v2)=g*v1*B+g*v2:=by rw [WL,WV]
  have e2:top*B=g*v1*B+o*B:=by rw [← hg,WQ]
  omega
 have h4:g*Vl≤B*E:=X7 (by omega) (by have:=h.QE;omega)
 have h5:B*E≤V:=by
  have:1*B*E≤(v1*B+v2)*E:=WZ _ (by have:=WZ B h.C7;omega);rw [Xv] at this;have:=h.hV;omega
 have:=h.hW;omega
end
theorem xQ {B:Nat}:∀ {L n:Nat},n<B ^ L→fY B (L+1) n=fY B L n++[0]
 | 0,n,h=>by
  have:n=0:=by simp at h;exact h
  subst this;simp [fY]
 | L+1,n,h=>by
  have h2:n / B<B ^ L:=by
   rcases Yo B with rfl|hB
   ·simp at h
   ·rw [Yf hB];rwa [WU] at h
  rw [fY,xQ h2];rfl
theorem MH {B:Nat}{l:List Nat}(h:ok B l):fY B l.length (val B l)=l:=(oM h rfl).symm
end Go.Am.N
namespace Go.Am
variable {o:Op}{v:AV}{rds:List Key}{vc:Prop}{T':TypeId}{xs:Array Operand}{ts:Array TypeId}{c:Ctx}{s:aB}{κ f:Nat}{p:Key × LB}{parts:Array (Nat × Operand)}
theorem dw.op{o o':Oper}{K:AV→List (Key × LB)→List Key→Nat→Prop}(ho:o'.op=o.op) (h:dw c o s κ K):dw c o' s κ K:=by
 unfold dw at *;rw [ho];exact h
abbrev zw:=List Key × List Key
def aT (c:Ctx):List yC→aB→Nat→List zw→(aB→Nat→List zw→Prop)→Prop
 | [],s,κ,acc,K=>K s κ acc
 | p::ps,s,κ,acc,K=>match p.g with
  | none=>dw c ⟨none,p.op,0, "",#[],none⟩ s κ fun x us rds κ'=>aT c ps (aB.put ⟨s.fr,aS s.lv us⟩ p.dst x) κ' ((us.map (·.1),rds)::acc) K
  | some (t,w)=>nO t fun t=>lu (nM (s.fr t) w)
   (fun _=>dw c ⟨none,p.op,0, "",#[],none⟩ s κ fun x us rds κ'=>aT c ps (aB.put ⟨s.fr,aS s.lv us⟩ p.dst x) κ' ((us.map (·.1),rds)::acc) K)
   (fun _=>aT c ps (s.put p.dst .undef) κ (([],[])::acc) K)
def BG (e:Fx):zw:=(e.us.map (·.1),e.rds)
theorem jY {c:Ctx}{ops:Array Oper}{K:aB→Nat→List zw→Prop}:∀ {os:List Oper}{s:aB}{κ:Nat}{acc:List Fx},aT c (ke (ops.toList.map (·.dst)) os) s κ (acc.map BG) K→fM c ops os s κ acc (fun s κ acc=>K s κ (acc.map BG))
 | [],s,κ,acc,h=>h
 | ⟨d,o,ty,pos,af,none⟩::os,s,κ,acc,h=>by
  simp only [ke,Cl,aT] at h;simp only [fM,dM];refine dw.mono (dw.op (o:=⟨none,o,0, "",#[],none⟩) rfl h) fun x us rds κ' h2=>?_;exact jY (acc:=⟨x,us,rds⟩::acc) h2
 | ⟨d,o,ty,pos,af,some (j,w)⟩::os,s,κ,acc,h=>by
  simp only [ke,Cl,aT,Jb,nO,lu] at h;simp only [fM,dM];split at h
  ·rename_i t ht
   rw [ht];simp only;unfold nM at h;split at h
   ·rename_i hw
    split at hw
    ·rename_i b he
     rw [he];simp only [ai] at hw;simp only [hw];refine dw.mono (dw.op (o:=⟨none,o,0, "",#[],none⟩) rfl h) fun x us rds κ' h2=>?_;exact jY (acc:=⟨x,us,rds⟩::acc) h2
    ·cases hw
    ·cases hw
   ·rename_i hw
    split at hw
    ·rename_i b he
     rw [he];simp only [ai] at hw;simp only [hw];exact jY (acc:=⟨.undef,[],[]⟩::acc) h
    ·rename_i he
     rw [he];exact jY (acc:=⟨.undef,[],[]⟩::acc) h
    ·cases hw
   ·exact h.elim
  ·exact h.elim
def OW (e e':zw):Bool:=e.1.all (fun p=>!(e'.1.any fun q=>q == p) && !e'.2.contains p) && e'.1.all (fun p=>!e.2.contains p)
def y7 (ops:Array Oper)(es:List zw):Bool:=
 let ms:=gI ops.toList []
 (List.range es.length).all fun j=>match es[j]? with
  | some e'=>(e'.1.isEmpty && e'.2.isEmpty) || (List.range j).all fun i=>match es[i]? with
   | some e=>(e.1.isEmpty && e.2.isEmpty) || (ms.getD j 0).testBit i || OW e e'
   | none=>true
  | none=>true
theorem HY (e e':Fx):tn e e'=OW (BG e) (BG e'):=by
 simp only [tn,OW,BG,List.all_map,List.any_map];rfl
theorem M9 (ops:Array Oper)(es:List Fx):DS ops es=y7 ops (es.map BG):=by
 have h1:∀ e:Fx,idle e=((BG e).1.isEmpty && (BG e).2.isEmpty):=fun e=>by simp [idle,BG]
 simp only [DS,y7,W6,Yi];congr 1;funext j
 cases hj:es[j]? with
 | none=>rfl
 | some e'=>
  simp only [W4,h1];congr 2;funext i
  cases hi:es[i]? with
  | none=>rfl
  | some e=>simp only [W4,HY]
theorem aap{r:Option Nat}{Q:Ex→aB→Nat→Prop}{id:Nat}{ops:Array Oper}(hm:c.P.follows .mixedOrders=true) (hst:fW ops=true) (hd:cz c.n ops.toList=true)
 (h:aT c (ey ops) s κ [] fun s' κ' acc=>y7 ops acc.reverse=true∧Q .normal s' κ'):AW c r (.region id ops true) s κ Q:=by
 refine AW.draw hm hst hd ?_;have h1:=jY (acc:=[]) h;refine fM.mono h1 fun s' κ' acc h2=>⟨?_,h2.2⟩
 rw [M9,List.map_reverse];exact h2.1
def bO (c:Ctx)(ps:List yC)(d:Option Tmp)(s:aB)(κ:Nat)(acc:List zw)(K:aB→Nat→List zw→Prop)(r:Option bZ):Prop:=
 gV r κ fun x us rds κ'=>aT c ps (aB.put ⟨s.fr,aS s.lv us⟩ d x) κ' ((us.map (·.1),rds)::acc) K
def Av (c:Ctx)(o:Op)(ps:List yC)(d:Option Tmp)(s:aB)(κ:Nat)(acc:List zw)(K:aB→Nat→List zw→Prop)(w:Option Bool):Prop:=
 match w with
 | some true=>aT c (⟨d,o,none⟩::ps) s κ acc K
 | some false=>aT c ps (s.put d .undef) κ (([],[])::acc) K
 | none=>False
def tE (c:Ctx)(f:FuncId)(xs:List AV)(ps:List yC)(d:Option Tmp)(s:aB)(κ:Nat)(acc:List zw)(K:aB→Nat→List zw→Prop):Prop:=
 ag c f xs s.lv fun x us rds κ'=>aT c ps (aB.put ⟨s.fr,aS s.lv us⟩ d x) κ' ((us.map (·.1),rds)::acc) K
def FI (c:Ctx)(tgt:Option (FuncId × List AV × List AV))(xs:List AV)(ps:List yC)(d:Option Tmp)(s:aB)(κ:Nat)(acc:List zw)(K:aB→Nat→List zw→Prop):Prop:=
 match tgt with
 | some (f,fs,cs)=>aG c.P f=true∧tE c f (fs++xs++cs) ps d s κ acc K
 | none=>False
section
variable {c:Ctx}{ps:List yC}{d:Option Tmp}{s:aB}{κ:Nat}{acc:List zw}{K:aB→Nat→List zw→Prop}{T:TypeId}{x y z:Operand}
theorem aN:aT c (⟨d,o,none⟩::ps) s κ acc K =
 dw c ⟨none,o,0, "",#[],none⟩ s κ fun x us rds κ'=>aT c ps (aB.put ⟨s.fr,aS s.lv us⟩ d x) κ' ((us.map (·.1),rds)::acc) K:=rfl
@[simp] theorem PW:aT c [] s κ acc K=K s κ acc:=propext ⟨id,id⟩
@[simp] theorem Py:bO c ps d s κ acc K (some (v,[],rds,vc))=(vc∧aT c ps (s.put d v) κ (([],rds)::acc) K):=propext ⟨id,id⟩
@[simp] theorem Ov:bO c ps d s κ acc K (some (v,[p],rds,vc))=(vc∧aT c ps (aB.put ⟨s.fr,aC s.lv p.1 p.2⟩ d v) (κ+1) (([p.1],rds)::acc) K):=propext ⟨id,id⟩
@[simp] theorem PB{q:Key × LB}:bO c ps d s κ acc K (some (v,[p,q],rds,vc))=(vc∧aT c ps (aB.put ⟨s.fr,aC (aC s.lv p.1 p.2) q.1 q.2⟩ d v) (κ+1) (([p.1,q.1],rds)::acc) K):=propext ⟨id,id⟩
@[simp] theorem QB:Av c o ps d s κ acc K (some true)=aT c (⟨d,o,none⟩::ps) s κ acc K:=propext ⟨id,id⟩
@[simp] theorem Qy:Av c o ps d s κ acc K (some false)=aT c ps (s.put d .undef) κ (([],[])::acc) K:=propext ⟨id,id⟩
@[simp] theorem N4 {f:FuncId}{xs:List AV}:FI c (some (f,[],[])) xs ps d s κ acc K=(aG c.P f=true∧tE c f xs ps d s κ acc K):=by simp [FI]
@[simp] theorem RP{t:Tmp}{w:Bool}:aT c (⟨d,o,some (some t,w)⟩::ps) s κ acc K=Av c o ps d s κ acc K (nM (s.fr t) w):=propext ⟨id,id⟩
@[simp] theorem TD:aT c (⟨d,.move x,none⟩::ps) s κ acc K=aT c ps (s.put d (s.val c.G x)) κ (([],[])::acc) K:=by rw [aN,B3];rfl
@[simp] theorem Qz:aT c (⟨d,.assign x,none⟩::ps) s κ acc K=aT c ps (s.put d (s.val c.G x)) κ (([],[])::acc) K:=by rw [aN,wV];rfl
@[simp] theorem TG:aT c (⟨d,.pick x y z,none⟩::ps) s κ acc K=bO c ps d s κ acc K (zi (s.val c.G x) (s.val c.G y) (s.val c.G z)):=by rw [aN,C6];rfl
@[simp] theorem Re:aT c (⟨d,.alloc T,none⟩::ps) s κ acc K=bO c ps d s κ acc K (w8 c.P T s.lv κ):=by rw [aN,zY];rfl
@[simp] theorem RU:aT c (⟨d,.field T x f,none⟩::ps) s κ acc K=bO c ps d s κ acc K (yf c.P T f (s.val c.G x)):=by rw [aN,Ar];rfl
@[simp] theorem Mn:aT c (⟨d,.indexAddr T x y,none⟩::ps) s κ acc K=bO c ps d s κ acc K (ak c.P T s.lv (s.val c.G x) (s.val c.G y)):=by rw [aN,pK];rfl
@[simp] theorem QW:aT c (⟨d,.index T x y,none⟩::ps) s κ acc K=bO c ps d s κ acc K (fq c.P T (s.val c.G x) (s.val c.G y)):=by rw [aN,An];rfl
@[simp] theorem UE {i:Nat}:aT c (⟨d,.extract x i,none⟩::ps) s κ acc K=bO c ps d s κ acc K (tJ i (s.val c.G x)):=by rw [aN,GP];rfl
@[simp] theorem TZ:aT c (⟨d,.makeInterface T x,none⟩::ps) s κ acc K=bO c ps d s κ acc K (Kl c.P T (s.val c.G x)):=by rw [aN,G3];rfl
@[simp] theorem Ul:aT c (⟨d,.makeSlice T x y,none⟩::ps) s κ acc K=bO c ps d s κ acc K (fT c.P T s.lv κ (s.val c.G x) (s.val c.G y)):=by rw [aN,Gs];rfl
@[simp] theorem P2:aT c (⟨d,.slice T x none none none,none⟩::ps) s κ acc K=bO c ps d s κ acc K (bt c.P T s.lv (s.val c.G x) none none):=by rw [aN,uM];rfl
@[simp] theorem Ph:aT c (⟨d,.slice T x (some y) none none,none⟩::ps) s κ acc K=bO c ps d s κ acc K (bt c.P T s.lv (s.val c.G x) (some (s.val c.G y)) none):=by rw [aN,uH];rfl
@[simp] theorem Pc:aT c (⟨d,.slice T x none (some y) none,none⟩::ps) s κ acc K=bO c ps d s κ acc K (bt c.P T s.lv (s.val c.G x) none (some (s.val c.G y))):=by rw [aN,uD];rfl
@[simp] theorem O1:aT c (⟨d,.slice T x (some y) (some z) none,none⟩::ps) s κ acc K=bO c ps d s κ acc K (bt c.P T s.lv (s.val c.G x) (some (s.val c.G y)) (some (s.val c.G z))):=by rw [aN,uQ];rfl
@[simp] theorem UM:aT c (⟨d,.call { callee:=.builtin .len,args:=#[x],argTypes:=#[T] },none⟩::ps) s κ acc K=bO c ps d s κ acc K (eA c.P T s.lv (s.val c.G x)):=by rw [aN,Gp];rfl
@[simp] theorem Qj:aT c (⟨d,.call { callee:=.builtin .append,args:=#[x,y],argTypes:=#[T,T'] },none⟩::ps) s κ acc K=bO c ps d s κ acc K (if T=T' then dF c.P T s.lv κ (s.val c.G x) (s.val c.G y) else none):=by rw [aN,wA];rfl
@[simp] theorem TF:aT c (⟨d,.call { callee:=.value x,args:=xs,argTypes:=ts },none⟩::ps) s κ acc K=FI c (b7 (s.val c.G x)) (xs.toList.map (s.val c.G)) ps d s κ acc K:=by
 rw [aN,Ck];rfl
@[simp] theorem TL {op:BinOp}:aT c (⟨d,.binOp op T x y T',none⟩::ps) s κ acc K=bO c ps d s κ acc K (aH c.P op T (s.val c.G x) (s.val c.G y)):=by rw [aN,F6];rfl
@[simp] theorem VT {op:UnOp}:aT c (⟨d,.unOp op T x,none⟩::ps) s κ acc K=bO c ps d s κ acc K (Ig op (s.val c.G x)):=by rw [aN,IU];rfl
@[simp] theorem SR:aT c (⟨d,.load T x,none⟩::ps) s κ acc K=bO c ps d s κ acc K (aZ c.P T s.lv (s.val c.G x)):=by rw [aN,Dm];rfl
@[simp] theorem Rp:aT c (⟨d,.store T x y,none⟩::ps) s κ acc K=bO c ps d s κ acc K (cV c.P T s.lv (s.val c.G x) (s.val c.G y)):=by rw [aN,zu];rfl
@[simp] theorem UC:aT c (⟨d,.box T x,none⟩::ps) s κ acc K=bO c ps d s κ acc K (Kg T (s.val c.G x) s.lv κ):=by rw [aN,FW];rfl
@[simp] theorem Jn:aT c (⟨d,.nilCheck x,none⟩::ps) s κ acc K=bO c ps d s κ acc K (ga s.lv (s.val c.G x)):=by rw [aN,G1];rfl
@[simp] theorem SI {S:TypeId}:aT c (⟨d,.convert S T x,none⟩::ps) s κ acc K=bO c ps d s κ acc K (CG c.P S T (s.val c.G x)):=by rw [aN,C2];rfl
@[simp] theorem Na:aT c (⟨d,.fieldAddr T x f,none⟩::ps) s κ acc K=bO c ps d s κ acc K (bM c.P T f s.lv (s.val c.G x)):=by rw [aN,pO];rfl
@[simp] theorem QL:aT c (⟨d,.build T parts,none⟩::ps) s κ acc K=bO c ps d s κ acc K (gC c.P T (parts.toList.map (·.1)) (parts.toList.map fun p=>s.val c.G p.2)):=by
 rw [aN];simp only [dw,bA,Op.operands,bO,gV,gC,Xc,W6,Yg];rfl
@[simp] theorem LU {n:Nat}:aT c (⟨d,.buildSlice T n parts,none⟩::ps) s κ acc K=bO c ps d s κ acc K (au c.P T n (parts.toList.map (·.1)) s.lv κ (parts.toList.map fun p=>s.val c.G p.2)):=by
 rw [aN];simp only [dw,bA,Op.operands,bO,gV,Xc];rfl
@[simp] theorem Tf:aT c (⟨d,.call { callee:=.builtin .copy,args:=#[x,y],argTypes:=#[T,T'] },none⟩::ps) s κ acc K=bO c ps d s κ acc K (gK c.P T s.lv (s.val c.G x) (s.val c.G y)):=by
 rw [aN];simp only [dw,bA,iG,Op.operands,Call.operands,bO,gV];rfl
@[simp] theorem TX:aT c (⟨d,.call { callee:=.builtin .max,args:=xs,argTypes:=ts },none⟩::ps) s κ acc K=bO c ps d s κ acc K (match dh (xs.toList.map (s.val c.G)) with
 | some (k,n::l)=>some (.c (.d (.int k (l.foldl (fun a b=>if b > a then b else a) n))),[],[],True)
 | _=>none):=by
 rw [aN];simp only [dw,bA,iG,Op.operands,Call.operands,bO,gV,YG];rfl
@[simp] theorem Vg:aT c (⟨d,.call { callee:=.builtin .min,args:=xs,argTypes:=ts },none⟩::ps) s κ acc K=bO c ps d s κ acc K (match dh (xs.toList.map (s.val c.G)) with
 | some (k,n::l)=>some (.c (.d (.int k (l.foldl (fun a b=>if b<a then b else a) n))),[],[],True)
 | _=>none):=by
 rw [aN];simp only [dw,bA,iG,Op.operands,Call.operands,bO,gV,YG];rfl
end
end Go.Am
namespace Go.Am
open N
variable {x y i:AV}{o:Oper}{c:Ctx}{s s' s0:aB}{us:List (Key × LB)}{ops:Array Oper}{a1 a2 a3 a4:Prop}{op:Op}{lv:Tb LB}{κ nx n id N:Nat}{r:cK}{rds l lg:List Key}{vals:List AV}{cl:Call}{fr:Tb AV}{os:List Oper}{fo:Operand}{e:Ex}{a:RunT}{P:Program}{F:Nat→Prop}{β:Key→Nat}{w:World}{lv':Key→LB}{call:dS}{b:LB}{ok:(Key→LB)→Prop}{f g:Rec}{Q:Exit→Act→World→Prop}{d:Option Nat}{k:Key}
theorem tE.pz{f:FuncId}{ps:List yC}{d:Option Tmp}{acc:List zw}{K:aB→Nat→List zw→Prop}(κ':Nat) (kh:Key) (κb:Key) {T:TypeId}{k:IntKind}{l:List Nat}(n:Nat) (hn:n≤l.length) (hk:s.lv κb=.cells true false T (wK k l)) (hl:l.length≤9223372036854775807)
 (hc:aa c.P c.G f [nK k (some (l.take n))] x) (hx:x.pure=true) (hh:s.lv kh=.hole) (hkh:kh≠κb) (hK:aT c ps (aB.put ⟨s.fr,aC s.lv κb (.cells true true T (wK k l))⟩ d x) κ' (([κb],[kh])::acc) K):tE c f [.c (.aR κb 0 n 1)] ps d s κ acc K:=by
 refine ag.U3 κ' kh κb T (wK k l) [kh] hc hx hk hh hkh rfl (fun i p q=>?_) (fun a ha j hj=>?_) (by simp) hK
 ·have hi:i=0:=by simp at p;omega
  subst hi;right;have h1:(wK k l).take n=wK k (l.take n):=by simp [wK,List.map_take]
  have hln:(l.take n).length=n:=by rw [WR];omega
  simp only [Xo,eC,cU,aA,I7,XB,W5,fQ,h1,xO,W4];rw [if_pos ⟨hn,by omega⟩];have h2:=oP ((l.take n).map fun (x:Nat)=>DV.int k (x:Int));rw [W6,hln] at h2;simp only [W4,h2];simp [nK,dK];rfl
 ·simp only [Xx] at ha;subst ha;simp only [pE,lY,WM,aA] at hj;rcases hj with rfl|hj
  ·exact .inr rfl
  ·simp only [XQ] at hj;obtain⟨y,hy,hj⟩:=hj;simp only [wK,Xp] at hy;obtain⟨z,_,rfl⟩:=hy
   cases hj
section
variable {c:Ctx}{r:Option Nat}{s s':aB}{κ κ':Nat}{Q:Ex→aB→Nat→Prop}{id:Nat}{ops:Array Oper}{y:Code}
theorem AW.d0 (hm:c.P.follows .mixedOrders=true)(h:AW c r y s' κ' Q)(hst:fW ops=true:=by kernel_rfl)(hd:cz c.n ops.toList=true:=by exact rfl)(hr:∀ K:aB→Nat→Prop,K s' κ'→aT c (ey ops) s κ [] fun s' κ' acc=>y7 ops acc.reverse=true∧K s' κ':=by intro K k;simp;(repeat refine ah ?_);refine⟨by kernel_rfl,?_⟩;(repeat refine ah ?_);exact k):AW c r (.seq (.region id ops true) y) s κ Q:=
 aaa fun K hK=>aap hm hst hd (hr K (hK _ _ h))
theorem AW.e0 (hm:c.P.follows .mixedOrders=true)(h:AW c r y s' κ' Q)(hst:fW ops=true:=by kernel_rfl)(hd:cz c.n ops.toList=true:=by exact rfl)(hq:ops.toList.all (fun o=>gh o.op)=true:=by exact rfl)(hr:∀ K:aB→Nat→Prop,K s' κ'→aK c (ey ops) s κ K:=by intro K k;simp;(repeat refine ah ?_);exact k):AW c r (.seq (.region id ops true) y) s κ Q:=
 aaa fun K hK=>aaw hm hst hd hq (hr K (hK _ _ h))
theorem AW.d1(hm:c.P.follows .mixedOrders=true) (e1:a1) (h:AW c r y s' κ' Q) (hst:fW ops=true:=by kernel_rfl) (hd:cz c.n ops.toList=true:=by exact rfl) (hr:a1→∀ K:aB→Nat→Prop,K s' κ'→aT c (ey ops) s κ [] fun s' κ' acc=>y7 ops acc.reverse=true∧K s' κ':=by intro e1 K k;simp [e1];(repeat refine ah ?_);refine⟨by kernel_rfl,?_⟩;(repeat refine ah ?_);exact k):AW c r (.seq (.region id ops true) y) s κ Q:=
 aaa fun K hK=>aap hm hst hd (hr e1 K (hK _ _ h))
theorem AW.e1 {a1:Prop}(hm:c.P.follows .mixedOrders=true) (e1:a1) (h:AW c r y s' κ' Q) (hst:fW ops=true:=by kernel_rfl) (hd:cz c.n ops.toList=true:=by exact rfl) (hq:ops.toList.all (fun o=>gh o.op)=true:=by exact rfl) (hr:a1→∀ K:aB→Nat→Prop,K s' κ'→aK c (ey ops) s κ K:=by intro e1 K k;simp [e1];(repeat refine ah ?_);exact k):AW c r (.seq (.region id ops true) y) s κ Q:=
 aaa fun K hK=>aaw hm hst hd hq (hr e1 K (hK _ _ h))
theorem AW.d2(hm:c.P.follows .mixedOrders=true) (e1:a1) (e2:a2) (h:AW c r y s' κ' Q) (hst:fW ops=true:=by kernel_rfl) (hd:cz c.n ops.toList=true:=by exact rfl) (hr:a1→a2→∀ K:aB→Nat→Prop,K s' κ'→aT c (ey ops) s κ [] fun s' κ' acc=>y7 ops acc.reverse=true∧K s' κ':=by intro e1 e2 K k;simp [e1,e2];(repeat refine ah ?_);refine⟨by kernel_rfl,?_⟩;(repeat refine ah ?_);exact k):AW c r (.seq (.region id ops true) y) s κ Q:=
 aaa fun K hK=>aap hm hst hd (hr e1 e2 K (hK _ _ h))
theorem AW.Wk(hm:c.P.follows .mixedOrders=true) (e1:a1) (e2:a2) (h:Q .normal s' κ') (hst:fW ops=true:=by kernel_rfl) (hd:cz c.n ops.toList=true:=by exact rfl) (hr:a1→a2→∀ K:aB→Nat→Prop,K s' κ'→aT c (ey ops) s κ [] fun s' κ' acc=>y7 ops acc.reverse=true∧K s' κ':=by intro e1 e2 K k;simp [e1,e2];(repeat refine ah ?_);refine⟨by kernel_rfl,?_⟩;(repeat refine ah ?_);exact k):AW c r (.region id ops true) s κ Q:=
 aap hm hst hd (hr e1 e2 (fun s κ=>Q .normal s κ) h)
theorem AW.e2 {a1:Prop}{a2:Prop}(hm:c.P.follows .mixedOrders=true) (e1:a1) (e2:a2) (h:AW c r y s' κ' Q) (hst:fW ops=true:=by kernel_rfl) (hd:cz c.n ops.toList=true:=by exact rfl) (hq:ops.toList.all (fun o=>gh o.op)=true:=by exact rfl) (hr:a1→a2→∀ K:aB→Nat→Prop,K s' κ'→aK c (ey ops) s κ K:=by intro e1 e2 K k;simp [e1,e2];(repeat refine ah ?_);exact k):AW c r (.seq (.region id ops true) y) s κ Q:=
 aaa fun K hK=>aaw hm hst hd hq (hr e1 e2 K (hK _ _ h))
theorem AW.d3(hm:c.P.follows .mixedOrders=true) (e1:a1) (e2:a2) (e3:a3) (h:AW c r y s' κ' Q) (hst:fW ops=true:=by kernel_rfl) (hd:cz c.n ops.toList=true:=by exact rfl) (hr:a1→a2→a3→∀ K:aB→Nat→Prop,K s' κ'→aT c (ey ops) s κ [] fun s' κ' acc=>y7 ops acc.reverse=true∧K s' κ':=by intro e1 e2 e3 K k;simp [e1,e2,e3];(repeat refine ah ?_);refine⟨by kernel_rfl,?_⟩;(repeat refine ah ?_);exact k):AW c r (.seq (.region id ops true) y) s κ Q:=
 aaa fun K hK=>aap hm hst hd (hr e1 e2 e3 K (hK _ _ h))
theorem AW.e3 {a1:Prop}{a2:Prop}{a3:Prop}(hm:c.P.follows .mixedOrders=true) (e1:a1) (e2:a2) (e3:a3) (h:AW c r y s' κ' Q) (hst:fW ops=true:=by kernel_rfl) (hd:cz c.n ops.toList=true:=by exact rfl) (hq:ops.toList.all (fun o=>gh o.op)=true:=by exact rfl) (hr:a1→a2→a3→∀ K:aB→Nat→Prop,K s' κ'→aK c (ey ops) s κ K:=by intro e1 e2 e3 K k;simp [e1,e2,e3];(repeat refine ah ?_);exact k):AW c r (.seq (.region id ops true) y) s κ Q:=
 aaa fun K hK=>aaw hm hst hd hq (hr e1 e2 e3 K (hK _ _ h))
theorem AW.d4(hm:c.P.follows .mixedOrders=true) (e1:a1) (e2:a2) (e3:a3) (e4:a4) (h:AW c r y s' κ' Q) (hst:fW ops=true:=by kernel_rfl) (hd:cz c.n ops.toList=true:=by exact rfl) (hr:a1→a2→a3→a4→∀ K:aB→Nat→Prop,K s' κ'→aT c (ey ops) s κ [] fun s' κ' acc=>y7 ops acc.reverse=true∧K s' κ':=by intro e1 e2 e3 e4 K k;simp [e1,e2,e3,e4];(repeat refine ah ?_);refine⟨by kernel_rfl,?_⟩;(repeat refine ah ?_);exact k):AW c r (.seq (.region id ops true) y) s κ Q:=
 aaa fun K hK=>aap hm hst hd (hr e1 e2 e3 e4 K (hK _ _ h))
theorem AW.WI(hm:c.P.follows .mixedOrders=true) (e1:a1) (e2:a2) (e3:a3) (e4:a4) (h:Q .normal s' κ') (hst:fW ops=true:=by kernel_rfl) (hd:cz c.n ops.toList=true:=by exact rfl) (hr:a1→a2→a3→a4→∀ K:aB→Nat→Prop,K s' κ'→aT c (ey ops) s κ [] fun s' κ' acc=>y7 ops acc.reverse=true∧K s' κ':=by intro e1 e2 e3 e4 K k;simp [e1,e2,e3,e4];(repeat refine ah ?_);refine⟨by kernel_rfl,?_⟩;(repeat refine ah ?_);exact k):AW c r (.region id ops true) s κ Q:=
 aap hm hst hd (hr e1 e2 e3 e4 (fun s κ=>Q .normal s κ) h)
theorem AW.e4 {a1:Prop}{a2:Prop}{a3:Prop}{a4:Prop}(hm:c.P.follows .mixedOrders=true) (e1:a1) (e2:a2) (e3:a3) (e4:a4) (h:AW c r y s' κ' Q) (hst:fW ops=true:=by kernel_rfl) (hd:cz c.n ops.toList=true:=by exact rfl) (hq:ops.toList.all (fun o=>gh o.op)=true:=by exact rfl) (hr:a1→a2→a3→a4→∀ K:aB→Nat→Prop,K s' κ'→aK c (ey ops) s κ K:=by intro e1 e2 e3 e4 K k;simp [e1,e2,e3,e4];(repeat refine ah ?_);exact k):AW c r (.seq (.region id ops true) y) s κ Q:=
 aaa fun K hK=>aaw hm hst hd hq (hr e1 e2 e3 e4 K (hK _ _ h))
theorem AW.VR(hm:c.P.follows .mixedOrders=true) (e1:a1) (e2:a2) (h:Q .normal s' κ') (hst:fW ops=true:=by kernel_rfl) (hd:cz c.n ops.toList=true:=by exact rfl) (hq:ops.toList.all (fun o=>gh o.op)=true:=by exact rfl) (hr:a1→a2→∀ K:aB→Nat→Prop,K s' κ'→aK c (ey ops) s κ K:=by intro e1 e2 K k;simp [e1,e2];(repeat refine ah ?_);exact k):AW c r (.region id ops true) s κ Q:=
 aaw hm hst hd hq (hr e1 e2 (fun s κ=>Q .normal s κ) h)
theorem AW.Wb(hm:c.P.follows .mixedOrders=true) (e1:a1) (e2:a2) (e3:a3) (h:Q .normal s' κ') (hst:fW ops=true:=by kernel_rfl) (hd:cz c.n ops.toList=true:=by exact rfl) (hq:ops.toList.all (fun o=>gh o.op)=true:=by exact rfl) (hr:a1→a2→a3→∀ K:aB→Nat→Prop,K s' κ'→aK c (ey ops) s κ K:=by intro e1 e2 e3 K k;simp [e1,e2,e3];(repeat refine ah ?_);exact k):AW c r (.region id ops true) s κ Q:=
 aaw hm hst hd hq (hr e1 e2 e3 (fun s κ=>Q .normal s κ) h)
end
section
variable {c:Ctx}{r:Option Nat}{ops:Array Oper}
def sK (c:Ctx)(r:Option Nat)(ops:Array Oper)(o:Oper)(s s1:aB):Prop:=
 ∀ F β a w K Q,aD c F β s a w→(∀ F' β' a' w',aD c F' β' s1 a' w'→K a' w') →
  if Region.wanted o (yielded ops a.tmps) then o.wpIn (oH r) 0 c.P a w K Q else K (a.put o.dst undef) w
theorem sK.PS{e:Fx}(h:cM c r ops o s e):sK c r ops o s (e.app o.dst s):=
 fun F β a w K Q hs hK=>h s (fun _ _=>rfl) ⟨fun _ _=>rfl,fun _ _=>rfl⟩ F β a w K Q hs hK
def tH (c:Ctx)(r:Option Nat)(ops:Array Oper):List Oper→aB→aB→Prop
 | [],s,s'=>s'=s
 | o::os,s,s'=>∃ s1,sK c r ops o s s1∧tH c r ops os s1 s'
theorem tH.opers:∀ {os:List Oper}{s s':aB}(n:Nat),ops.toList.drop n=os→tH c r ops os s s' →
 (∀ F' β' a' w',aD c F' β' s' a' w'→Q .normal a' w')→∀ F β a w,aD c F β s a w→wpOpsIn (oH r) 0 c.P ops Q (List.range' n os.length) a w
 | [],s,s',n,_,h,hQ=>fun F β a w hs=>by
  have h:s'=s:=h;subst h;exact hQ F β a w hs
 | o::os,s,s',n,h1,h,hQ=>fun F β a w hs=>by
  obtain⟨s1,h2,h3⟩:=h
  have ho:ops[n]?=some o:=by
   have:(ops.toList.drop n)[0]?=some o:=by rw [h1];rfl
   rw [XS] at this;simpa using this
  have ih:=tH.opers (os:=os) (n+1) (by rw [← X4,h1];rfl) h3 hQ;have key:=h2 F β a w (wpOpsIn (oH r) 0 c.P ops Q (List.range' (n+1) os.length)) Q hs (fun F' β' a' w' h'=>ih F' β' a' w' h');simp only [Xi,Y0];rw [wpOpsIn_cons];unfold wpOpIn;rw [ho];simp only;split at key
  ·rename_i hw;rw [if_pos hw];exact key
  ·rename_i hw;rw [if_neg hw];exact⟨fun _ _=>trivial,key⟩
theorem AW.Mj{Q:Ex→aB→Nat→Prop}(h:tH c r ops ops.toList s s') (hQ:Q .normal s' κ):AW c r (.region id ops false) s κ Q:=by
 intro F β a w hs;refine wpIn_region ?_;have:=tH.opers (Q:=Post c Q) 0 rfl h (fun F' β' a' w' h'=>⟨.normal,s',κ,F',β',hQ,h',rfl⟩) F β a w hs;rw [List.range_eq_range'];simpa using this
end
theorem cw.enter{G:List (List DV)}{lv:Key→LB}(hS:cw (cG P G w F β lv) F β lv w){fr:Nat→AV}{a:Act}(h1:a.tmps.size=n) (h2:a.defers=[])
 (h3:∀ t,(Vw.mk F β lv w).av (a.tmps.getD t undef) (fr t)):aD { cG P G w F β lv with n:=n } F β ⟨fr,lv⟩ a w:=
 cw.with (c:={ cG P G w F β lv with n:=n }) hS h1 h2 h3
section
variable {P:Program}{T:TypeId}{lv:Key→LB}{κ:Key}{v:AV}{us:List (Key × LB)}{rds:List Key}
theorem Eh {op:BinOp}(h:uf P op T x y=some (v,us,rds,true)):∃ vc,aH P op T x y=some (v,us,rds,vc)∧vc:=by
 unfold uf at h;unfold aH
 (repeat' split at h) <;> simp_all <;> exact⟨True,trivial⟩
theorem Dl(h:qq P T lv x=some (v,us,rds,true)):∃ vc,aZ P T lv x=some (v,us,rds,vc)∧vc:=by
 unfold qq at h;unfold aZ
 (repeat' split at h) <;> simp_all <;> exact⟨True,trivial⟩
theorem A0(h:n7 P T lv x y=some (v,us,rds,true)):∃ vc,cV P T lv x y=some (v,us,rds,vc)∧vc:=by
 unfold n7 at h;unfold cV
 (repeat' split at h) <;> simp_all <;> exact⟨True,trivial⟩
theorem FD(h:td lv x=some (v,us,rds,true)):∃ vc,ga lv x=some (v,us,rds,vc)∧vc:=by
 unfold td at h;unfold ga
 (repeat' split at h) <;> simp_all <;> exact⟨True,trivial⟩
theorem uk {f:Nat}(h:jx P T f lv x=some (v,us,rds,true)):∃ vc,bM P T f lv x=some (v,us,rds,vc)∧vc:=by
 unfold jx at h;unfold bM
 (repeat' split at h) <;> simp_all <;> exact⟨True,trivial⟩
theorem tZ(h:jA P T lv x i=some (v,us,rds,true)):∃ vc,ak P T lv x i=some (v,us,rds,vc)∧vc:=by
 unfold jA at h;unfold ak
 (repeat' split at h) <;> first|(cases h;done)|(simp only [ai,cy,decide_eq_true_eq] at h;obtain⟨rfl,rfl,rfl,h⟩:=h;refine⟨_,?_,h⟩;simp only [*,if_true])
theorem AD(h:oe P T x i=some (v,us,rds,true)):∃ vc,fq P T x i=some (v,us,rds,vc)∧vc:=by
 unfold oe at h;unfold fq
 (repeat' split at h) <;> first|(cases h;done)|(simp only [ai,cy,decide_eq_true_eq] at h;obtain⟨rfl,rfl,rfl,h⟩:=h;refine⟨_,?_,h⟩;simp only [*,if_true])
theorem sA{lo hi:Option AV}(h:nY P T lv x lo hi=some (v,us,rds,true)):∃ vc,bt P T lv x lo hi=some (v,us,rds,vc)∧vc:=by
 unfold nY at h;unfold bt
 (repeat' split at h) <;> simp_all <;> exact⟨True,trivial⟩
theorem Db(h:qG P T lv κ x y=some (v,us,rds,true)):∃ vc,fT P T lv κ x y=some (v,us,rds,vc)∧vc:=by
 unfold qG at h;unfold fT
 (repeat' split at h) <;> simp_all <;> exact⟨True,trivial⟩
theorem yG(h:mG P T lv κ x y=some (v,us,rds,true)):∃ vc,dF P T lv κ x y=some (v,us,rds,vc)∧vc:=by
 unfold mG at h;unfold dF
 (repeat' split at h) <;> simp_all <;> exact⟨True,trivial⟩
theorem rF{ixs:List Nat}(h:iW P T n ixs lv κ vals=some (v,us,rds,true)):∃ vc,au P T n ixs lv κ vals=some (v,us,rds,vc)∧vc:=by
 unfold iW at h;unfold au
 (repeat' split at h) <;> simp_all <;> exact⟨True,trivial⟩
theorem Dk(h:qj P T lv y x=some (v,us,rds,true)):∃ vc,gK P T lv y x=some (v,us,rds,vc)∧vc:=by
 unfold qj at h;unfold gK
 (repeat' split at h) <;> first|(cases h;done)|(simp only [ai,cy,decide_eq_true_eq] at h;obtain⟨rfl,rfl,rfl,h⟩:=h;refine⟨_,?_,h⟩;simp only [*,and_self,if_true])
theorem I4(h:Bn P cl vals lv κ=some (v,us,rds,true)):∃ vc,iG P cl vals lv κ=some (v,us,rds,vc)∧vc:=by
 unfold Bn at h;unfold iG;split at h
 ·split at h
  ·split at h
   ·simp only [ai,cy] at h;obtain⟨rfl,rfl,rfl,h⟩:=h
    rename_i n hn
    refine⟨_,?_,Ee h⟩;simp only [*]
   ·cases h
  ·cases h
 ·split at h
  ·split at h
   ·rename_i hT;subst hT;obtain⟨vc,h1,h2⟩:=yG h;refine⟨vc,?_,h2⟩;simp only [*,if_true]
   ·cases h
  ·cases h
 ·split at h
  ·obtain⟨vc,h1,h2⟩:=Dk h;refine⟨vc,?_,h2⟩;simp only [*]
  ·cases h
 ·split at h
  ·simp_all;exact⟨True,trivial⟩
  ·cases h
 ·split at h
  ·simp_all;exact⟨True,trivial⟩
  ·cases h
 ·cases h
def TU (P:Program):Prop:=∀ op vals lv κ x us rds,sU P op vals lv κ=some (x,us,rds,true)→∃ vc,bA P op vals lv κ=some (x,us,rds,vc)∧vc
theorem RG (P:Program):TU P:=by
 intro op vals lv κ v us rds h;unfold sU at h;unfold bA;split at h
 all_goals first
  | exact rF h
  | exact Dl h
  | exact A0 h
  | exact FD h
  | exact Eh h
  | exact Db h
  | exact uk h
  | exact tZ h
  | exact AD h
  | exact I4 h
  | (cases h;done)
  | (split at h;(obtain⟨vc,h1,h2⟩:=sA h;refine⟨vc,?_,h2⟩;simp only [*];done);(cases h;done))
  | ((repeat' split at h) <;> first|(cases h;done)|(simp only [ai,cy,and_true] at h;obtain⟨rfl,rfl,rfl⟩:=h;refine⟨True,?_,trivial⟩;simp only [*,if_true];done))
  | skip
 split at h
 ·rename_i l hh hb
  obtain⟨vc,h1,h2⟩:=sA h;refine⟨vc,?_,h2⟩;show (match vj _ _ _ with|some (l,h)=>bt P _ lv _ l h|none=>none)=_;rw [hb];exact h1
 ·cases h
end
def Good (r:cK):Prop:=∀ n o,r≠.bad n o
theorem Good.ne(h:Good r){o:List Op}:cK.bad n o≠r:=fun e=>h n o e.symm
noncomputable def SS (fr:Tb AV)(lv:Tb LB):aB:=⟨jK fr,aY lv⟩
def jJ (lv lv':Tb LB)(l:List Key):Prop:=∀ k,k ∉ l→aY lv' k=aY lv k
theorem jJ.refl (lv:Tb LB):jJ lv lv []:=fun _ _=>rfl
theorem jJ.trans {a b c:Tb LB}{m:List Key}(h1:jJ a b l) (h2:jJ b c m):jJ a c (m++l):=by
 intro k hk;rw [XF] at hk;rw [h2 k (fun h=>hk (.inl h)),h1 k (fun h=>hk (.inr h))]
theorem I0 (us:List (Key × LB)):(s5 us).map (·.1)=us.map (·.1):=by simp [s5]
theorem DH:∀ {lv lv':Key→LB},(∀ k,lv' k=lv k∨lv' k=(lv k).un)→∀ k,aS lv' (s5 us) k=aS lv us k∨aS lv' (s5 us) k=(aS lv us k).un:=by
 induction us with
 | nil=>intro lv lv' h k;exact h k
 | cons p us ih=>
  intro lv lv' h k;show aS (aC lv' p.1 p.2.un) (s5 us) k=aS (aC lv p.1 p.2) us k∨_=(aS (aC lv p.1 p.2) us k).un;refine ih (fun j=>?_) k
  by_cases e:j=p.1
  ·subst e;rw [aA,aA];exact .inr rfl
  ·rw [aE _ _ e,aE _ _ e];exact h j
theorem LB.ON (x:LB):x.sub x.un:=by cases x <;> simp [LB.un,LB.sub]
theorem LB.Nu (x:LB):x.un.live=x.live:=by
 cases x with
 | cells o fz T cs=>cases fz <;> rfl
 | _=>rfl
theorem DF{own:Bool}{b:Nat}(h:eo c own b):eo c false b:=qc h (by simp)
theorem aD.forget{fr:Nat→AV}{lv:Key→LB}{a:Act}(h:aD c F β ⟨fr,lv⟩ a w) (hl:∀ k,lv' k=lv k∨lv' k=(lv k).un):aD c F β ⟨fr,lv'⟩ a w:=by
 have hsub:∀ k,(lv k).sub (lv' k):=by
  intro k;rcases hl k with e|e <;> rw [e]
  ·exact LB.bw _
  ·exact LB.ON _
 have hlive:∀ k,(lv' k).live=(lv k).live:=by
  intro k;rcases hl k with e|e <;> rw [e]
  exact LB.Nu _
 refine h.step (fun _ h=>h) (fun _ _=>rfl) hsub (fun _ _ _=>rfl) (fun _=>bg _) ?_ ?_ (fun b h=>.inl h) (bg _) (fun _ _ _=>rfl)
 ·intro k hK;have hb:=h.bF k;unfold Vw.bF at hb ⊢;rcases hl k with e|e
  ·simp only [e]
   cases ek:lv k with
   | cells own fz T cs=>
    simp only [ek] at hb;obtain⟨arr,b1,b2,b3,b4,b5⟩:=hb;exact⟨arr,b1,b2,fun i p q=>hK.cv (b3 i p q),b4,b5⟩
   | map own es=>
    simp only [ek] at hb;obtain⟨x,y,b1,b2,b3,b4,b5⟩:=hb;exact⟨x,y,b1,b2,fun i p q=>⟨Rd.mono (gq hK.F hK.mem) (b3 i p q).1,hK.m9 (b3 i p q).2⟩,b4,b5⟩
   | _=>trivial
  ·simp only [e]
   cases ek:lv k with
   | cells own fz T cs=>
    simp only [ek] at hb;obtain⟨arr,b1,b2,b3,b4,b5⟩:=hb;exact⟨arr,b1,b2,fun i p q=>hK.cv (b3 i p q),b4,DF b5⟩
   | map own es=>
    simp only [ek] at hb;obtain⟨x,y,b1,b2,b3,b4,b5⟩:=hb;exact⟨x,y,b1,b2,fun i p q=>⟨Rd.mono (gq hK.F hK.mem) (b3 i p q).1,hK.m9 (b3 i p q).2⟩,b4,DF b5⟩
   | _=>trivial
 ·intro k k' h1 h2 he;rw [hlive] at h1 h2;exact h.inj _ _ h1 h2 he
theorem bT.un(h:bT c o s (aB.put ⟨s.fr,aS s.lv us⟩ d x)):bT c o s (aB.put ⟨s.fr,aS s.lv (s5 us)⟩ d x):=by
 intro F β a w K Q hs hK;refine h F β a w K Q hs fun F' β' a' w' h'=>hK F' β' a' w' ?_;have hl:∀ k,aS s.lv (s5 us) k=aS s.lv us k∨aS s.lv (s5 us) k=(aS s.lv us k).un:=DH (fun _=>.inl rfl)
 cases d with
 | none=>exact aD.forget h' hl
 | some d=>exact aD.forget h' hl
theorem xI:∀ {us:List (Key × LB)}{lv:Tb LB}{lg:List Key}{k:Tb LB→List Key→cK}{r:cK},Ah us lv lg k=r→Good r→cF (aY lv) →
 ∃ lv' l,k lv' (l++lg)=r∧aY lv'=aS (aY lv) (s5 us)∧cF (aY lv')∧jJ lv lv' l
 | [],lv,lg,k,r,h,hg,ho=>⟨lv,[],h,rfl,ho,jJ.refl _⟩
 | p::us,lv,lg,k,r,h,hg,ho=>by
  have h1:(c9 p.1 fun q=>tf p.2 fun b=>eE b.okB (.bad 3 []) (Tb.BP .hole b (pathOf q) lv fun lv=>Ah us lv (q::lg) k))=r:=h;rw [hU,zQ] at h1;obtain⟨hb,h1⟩:=cZ h1 hg.ne;rw [Tb.kM] at h1;have hset:=Cx lv p.1 p.2.un
  have ho1:cF (aY (lv.set .hole p.2.un (pathOf p.1))):=by
   intro j;rw [hset]
   by_cases e:j=p.1
   ·subst e;rw [aA];exact hb
   ·rw [aE _ _ e];exact ho j
  obtain⟨lv',l,e1,e2,e3,e4⟩:=xI h1 hg ho1;refine⟨lv',l++[p.1],by simpa using e1,?_,e3,?_⟩
  ·rw [e2,hset];rfl
  ·intro j hj;simp only [XF,Xx,not_or] at hj;rw [e4 j hj.1,hset,aE _ _ hj.2]
def Jt (d:Option Nat)(x:AV)(fr:Nat→AV):Nat→AV:=match d with|some d=>aC fr d x|none=>fr
theorem sQ (d:Option Nat)(x:AV)(fr:Nat→AV)(lv:Key→LB):aB.put ⟨fr,lv⟩ d x=⟨Jt d x fr,lv⟩:=by cases d <;> rfl
theorem jR{k:Tb AV→cK}(h:eu d x fr k=r):∃ fr',k fr'=r∧jK fr'=Jt d x (jK fr):=by
 cases d with
 | none=>exact⟨fr,h,rfl⟩
 | some d=>
  have h1:(dN x fun x=>Tb.BP .undef x (pathOf d) fr k)=r:=h;rw [iS,Tb.kM] at h1;exact⟨_,h1,DW fr d x⟩
theorem Ft:∀ {us:List (Key × LB)}{nx:Nat}{k:Nat→cK}{r:cK},LX nx us k=r→∃ nx',k nx'=r
 | [],nx,k,r,h=>⟨nx,h⟩
 | p::us,nx,k,r,h=>by
  have h1:eE (Nat.beq p.1 nx) (LX nx us k) (c9 nx fun n=>k (Nat.succ n))=r:=h
  cases hb:Nat.beq p.1 nx with
  | false=>rw [hb] at h1;exact Ft (us:=us) h1
  | true=>rw [hb] at h1;have h2:(c9 nx fun n=>k (Nat.succ n))=r:=h1
          rw [hU] at h2;exact⟨_,h2⟩
theorem qP (G:List (List DV))(fr:Tb AV)(lv:Key→LB)(x:Operand):yP G fr x=(aB.mk (jK fr) lv).val G x:=by cases x <;> rfl
theorem oh (G:List (List DV))(fr:Tb AV)(lv:Key→LB):∀ (l:List Operand),gA G fr l=l.map ((aB.mk (jK fr) lv).val G)
 | []=>rfl
 | x::l=>by
  show yP G fr x::gA G fr l=_;rw [qP G fr lv,oh G fr lv l];rfl
def j8 (P:Program)(op:Op)(vals:List AV)(lv:Key→LB)(κ:Nat)(x:AV)(us:List (Key × LB))(rds:List Key):Prop:=
 (∃ vc,bA P op vals lv κ=some (x,us,rds,vc)∧vc)∨gL P op vals lv κ=some (x,us,rds)
theorem Jp{k:AV→List (Key × LB)→List Key→cK}(h:Oe P op vals lv nx k=r) (hg:Good r) :
 ∃ x us rds,k x us rds=r∧j8 P op vals (aY lv) nx x us rds:=by
 unfold Oe at h
 cases e:sU P op vals (aY lv) nx with
 | none=>
  rw [e] at h;obtain⟨q,h1,h2⟩:=dx (x:=gL P op vals (aY lv) nx) h hg.ne;exact⟨_,_,_,h2,.inr h1⟩
 | some q=>
  rw [e] at h;obtain⟨x,us,rds,b⟩:=q;have h':eE b (lK (gL P op vals (aY lv) nx) (.bad 1 [op]) fun r=>k r.1 r.2.1 r.2.2) (k x us rds)=r:=h
  cases b with
  | true=>
   obtain⟨vc,h1,h2⟩:=RG P _ _ _ _ _ _ _ e;exact⟨x,us,rds,h',.inl ⟨vc,h1,h2⟩⟩
  | false=>
   obtain⟨q,h1,h2⟩:=dx (x:=gL P op vals (aY lv) nx) h' hg.ne;exact⟨_,_,_,h2,.inr h1⟩
theorem j8.PA(hd:∀ d,o.dst=some d→d<c.n)
 (h:j8 c.P o.op (o.op.operands.toList.map (s.val c.G)) s.lv κ x us rds):bT c o s (aB.put ⟨s.fr,aS s.lv us⟩ o.dst x):=by
 rcases h with ⟨vc,h1,h2⟩|h1
 ·exact zF hd rfl rfl h1 h2
 ·exact Ag hd rfl rfl h1
theorem j8.local{lv:Key→LB}(h:j8 P op vals lv κ x us rds) (ha:Agree lv lv' us rds):j8 P op vals lv' κ x us rds:=by
 rcases h with ⟨vc,h1,h2⟩|h1
 ·exact .inl ⟨vc,ou h1 ha,h2⟩
 ·exact .inr (uy h1 ha)
def jX (P:Program)(G:List (List DV))(call:dS):Prop:=∀ f us lv nx lg kr kp r,call f us lv nx lg kr kp=r→Good r→cF (aY lv) →
 (∃ x lv' nx' l,kr x lv' nx' (l++lg)=r∧bP P G f us (aY lv) (.ret x (aY lv'))∧cF (aY lv')∧jJ lv lv' l) ∨
 (∃ d lv' nx' l,kp d lv' nx' (l++lg)=r∧bP P G f us (aY lv) (.rG d (aY lv'))∧cF (aY lv')∧jJ lv lv' l)
section
variable {P:Program}{G:List (List DV)}
theorem CP(hc:jX P G call){kr:EA}{kp:Mm}
 (h:uP P G call op cl fo fr lv nx lg kr kp=r) (hg:Good r) (ho:cF (aY lv)) :
 ∃ f fs cs,b7 ((SS fr lv).val G fo)=some (f,fs,cs)∧aG P f=true ∧
  ((∃ x lv' nx' l,kr x lv' nx' (l++lg)=r∧bP P G f (fs++cl.args.toList.map ((SS fr lv).val G)++cs) (aY lv) (.ret x (aY lv'))∧cF (aY lv')∧jJ lv lv' l) ∨
  (∃ d lv' nx' l,kp d lv' nx' (l++lg)=r∧bP P G f (fs++cl.args.toList.map ((SS fr lv).val G)++cs) (aY lv) (.rG d (aY lv'))∧cF (aY lv')∧jJ lv lv' l)):=by
 unfold uP at h;obtain⟨⟨f,fs,cs⟩,h1,h2⟩:=dx h hg.ne;obtain⟨h3,h4⟩:=cZ h2 hg.ne;rw [qP G fr (aY lv)] at h1;rw [oh G fr (aY lv)] at h4;exact⟨f,fs,cs,h1,h3,hc _ _ _ _ _ _ _ _ h4 hg ho⟩
theorem zz(h:tU op=.call cl fo):op=.call cl∧cl.callee=.value fo:=by
 unfold tU at h;split at h
 ·cases h
 ·rename_i cl'
  split at h
  ·rename_i fo' hf;cases h;exact⟨rfl,hf⟩
  ·cases h
 ·cases h
theorem J8{x:Operand}(h:tU op=.rG x):op=.panic x:=by
 unfold tU at h;split at h
 ·cases h;rfl
 ·split at h <;> cases h
 ·cases h
theorem Ml{k:DV→cK}{b:cK}(h:Kx x k b=r) (hb:b≠r):∃ t d,x=.c (.d (.iface t d))∧k (.iface t d)=r:=by
 unfold Kx at h;split at h
 ·exact⟨_,_,rfl,h⟩
 ·exact absurd h hb
theorem EB{x:Operand}{t:TypeId}{d:DV}(ho:o.op=.panic x) (hx:s.val c.G x=.c (.d (.iface t d))):Ow c o s (.iface t d) s:=by
 intro F β a w K Q hs hK;have hv:=hx ▸ hs.val x;obtain⟨hv,_⟩:=hv;obtain⟨u,hu⟩:∃ u,a.eval x=u:=⟨_,rfl⟩
 rw [hu] at hv;have hv':=hv
 cases hv with
 | iface _ u' _ hr=>
  have hrun:(execOp a.eval o).run c.P w=.halt (.panic (.iface t u')) w:=by
   simp [execOp,ho,hu,Instr.panic,goPanic,Sem.run]
  unfold Oper.wp;rw [hrun,Oper.upon_panic];exact hK F β _ a w hs hv'
def fH (P:Program)(G:List (List DV))(ops:Array Oper)(os:List Oper)(s s':aB)(e:Ex):Prop:=
 ∀ (c:Ctx) (n:Nat) (Q:Exit→Act→World→Prop),c.P=P→c.G=G→cz c.n os=true→ops.toList.drop n=os →
  (∀ F' β' a' w' ex,aD c F' β' s' a' w'→Cm e ex F' w'→Q ex a' w')→∀ F β a w,aD c F β s a w→wpOpsIn (oH none) 0 c.P ops Q (List.range' n os.length) a w
theorem wZ(h:ops.toList.drop n=o::os):ops[n]?=some o∧ops.toList.drop (n+1)=os:=by
 constructor
 ·have:(ops.toList.drop n)[0]?=some o:=by rw [h];rfl
  rw [XS] at this;simpa using this
 ·rw [← X4,h];rfl
theorem jO(h:cz n (o::os)=true):(∀ d,o.dst=some d→d<n)∧cz n os=true:=by
 simp only [cz,Ym,cn] at h;refine⟨fun d hd=>?_,h.2⟩;have:=h.1;rw [hd] at this;simpa using this
theorem fH.cons{s1:aB}(hw:dM ops o.guard s.fr=some true) (hdf:∀ cl,o.op≠.defer cl)
 (h:∀ c:Ctx,c.P=P→c.G=G→(∀ d,o.dst=some d→d<c.n)→bT c o s s1) (hk:fH P G ops os s1 s' e):fH P G ops (o::os) s s' e:=by
 intro c n Q hP hG hd hdr hQ F β a w hs;obtain⟨ho,hdr'⟩:=wZ hdr;obtain⟨hd1,hd2⟩:=jO hd;have ih:=hk c (n+1) Q hP hG hd2 hdr' hQ;simp only [Xi,Y0];rw [wpOpsIn_cons];unfold wpOpIn;rw [ho];simp only;rw [fP hs hw];simp only [if_true];exact rN hdf (h c hP hG hd1 F β a w _ Q hs fun F' β' a' w' h'=>ih F' β' a' w' h')
theorem fH.skip(hw:dM ops o.guard s.fr=some false)
 (hk:fH P G ops os (s.put o.dst .undef) s' e):fH P G ops (o::os) s s' e:=by
 intro c n Q hP hG hd hdr hQ F β a w hs;obtain⟨ho,hdr'⟩:=wZ hdr;obtain⟨hd1,hd2⟩:=jO hd;have ih:=hk c (n+1) Q hP hG hd2 hdr' hQ;simp only [Xi,Y0];rw [wpOpsIn_cons];unfold wpOpIn;rw [ho];simp only;rw [fP hs hw];simp only [WS,if_false];exact⟨fun _ _=>trivial,ih F β _ _ (hs.A8 hd1 (mg _))⟩
theorem fH.rG{d:DV}(hw:dM ops o.guard s.fr=some true) (hdf:∀ cl,o.op≠.defer cl)
 (h:∀ c:Ctx,c.P=P→c.G=G→Ow c o s d s'):fH P G ops (o::os) s s' (.panic d):=by
 intro c n Q hP hG hd hdr hQ F β a w hs;obtain⟨ho,hdr'⟩:=wZ hdr;simp only [Xi,Y0];rw [wpOpsIn_cons];unfold wpOpIn;rw [ho];simp only;rw [fP hs hw];simp only [if_true];exact rN hdf (h c hP hG F β a w _ Q hs fun F' β' v a' w' h' hv=>hQ F' β' a' w' _ h' ⟨v,rfl,hv⟩)
theorem wg {call:dS}(hc:jX P G call) {ops:Array Oper}:∀ {os:List Oper}{fr:Tb AV}{lv:Tb LB}{nx:Nat}{lg:List Key}{k:Qx}{r:cK},
 xM P G call ops os fr lv nx lg k=r→Good r→cF (aY lv) →
 ∃ e fr' lv' nx' l,k e fr' lv' nx' (l++lg)=r∧cF (aY lv')∧jJ lv lv' l∧fH P G ops os (SS fr lv) (SS fr' lv') e
 | [],fr,lv,nx,lg,k,r,h,hg,ho=>by
  refine⟨.normal,fr,lv,nx,[],h,ho,jJ.refl _,?_⟩;intro c n Q hP hG hd hdr hQ F β a w hs;exact hQ F β a w .normal hs rfl
 | o::os,fr,lv,nx,lg,k,r,h,hg,ho=>by
  have h0:(lK (dM ops o.guard (jK fr)) (.bad 6 [o.op]) fun b=>
   eE b (eu o.dst .undef fr fun fr=>xM P G call ops os fr lv nx lg k)
    (Qf.rec (motive:=fun _=>cK)
     (fun x=>Kx (yP G fr x) (fun d=>k (.panic d) fr lv nx lg) (.bad 7 [o.op]))
     (fun cl fo=>uP P G call o.op cl fo fr lv nx lg (fun x lv nx lg=>eu o.dst x fr fun fr=>xM P G call ops os fr lv nx lg k) (fun d lv nx lg=>k (.panic d) fr lv nx lg))
     (Oe P o.op (gA G fr o.op.operands.toList) lv nx fun x us _=>LX nx us fun nx'=>eu o.dst x fr fun fr=>Ah us lv lg fun lv lg=>xM P G call ops os fr lv nx' lg k)
     (tU o.op)))=r:=h
  obtain⟨b,hw,h1⟩:=dx h0 hg.ne
  cases b with
  | false=>
   have h1':eu o.dst .undef fr (fun fr=>xM P G call ops os fr lv nx lg k)=r:=h1;obtain⟨fr1,h2,e1⟩:=jR h1';obtain⟨e,fr',lv',nx',l,q1,q2,q3,q4⟩:=wg hc h2 hg ho;refine⟨e,fr',lv',nx',l,q1,q2,q3,fH.skip hw ?_⟩
   have:(SS fr lv).put o.dst .undef=SS fr1 lv:=by
    show aB.put ⟨jK fr,aY lv⟩ o.dst .undef=_;rw [sQ,← e1];rfl
   rw [this];exact q4
  | true=>
   cases ek:tU o.op with
   | rG x=>
    rw [ek] at h1;have h2:Kx (yP G fr x) (fun d=>k (.panic d) fr lv nx lg) (.bad 7 [o.op])=r:=h1;obtain⟨t,d,e1,e2⟩:=Ml h2 hg.ne;have hop:=J8 ek;refine⟨.panic (.iface t d),fr,lv,nx,[],e2,ho,jJ.refl _,fH.rG hw (fun cl h=>by rw [hop] at h;cases h) fun c hP hG=>?_⟩;refine EB hop ?_;rw [hG];rw [qP G fr (aY lv)] at e1;exact e1
   | call cl fo=>
    rw [ek] at h1;obtain⟨hop,hcal⟩:=zz ek;obtain⟨f,fs,cs,c1,c2,c3⟩:=CP hc h1 hg ho;have hdf:∀ cl',o.op≠.defer cl':=fun cl' h=>by rw [hop] at h;cases h
    rcases c3 with ⟨x,lv1,nx1,l1,d1,d2,d3,d4⟩|⟨d,lv1,nx1,l1,d1,d2,d3,d4⟩
    ·obtain⟨fr1,h2,e1⟩:=jR d1;obtain⟨e,fr',lv',nx',l,q1,q2,q3,q4⟩:=wg hc h2 hg d3;refine⟨e,fr',lv',nx',l++l1,by rw [WY];exact q1,q2,d4.trans q3,fH.cons hw hdf (s1:=SS fr1 lv1) (fun c hP hG hd=>?_) q4⟩;have hsim:=bP.PA (c:=c) (s:=SS fr lv) (o:=o) (cl:=cl) (fo:=fo) (fv:=(SS fr lv).val c.G fo) (f:=f) (fs:=fs) (cs:=cs) (x:=x) (lv':=aY lv1) hd hop hcal rfl (by rw [hG];exact c1) (by rw [hP];exact c2) ho (by rw [hP,hG];exact d2);have:aB.put ⟨(SS fr lv).fr,aY lv1⟩ o.dst x=SS fr1 lv1:=by rw [sQ];show aB.mk (Jt o.dst x (jK fr)) (aY lv1)=_;rw [← e1];rfl
     rw [this] at hsim;exact hsim
    ·refine⟨.panic d,fr,lv1,nx1,l1,d1,d3,d4,fH.rG hw hdf fun c hP hG=>?_⟩;exact bP.UB (c:=c) (s:=SS fr lv) (o:=o) (cl:=cl) (fo:=fo) (fv:=(SS fr lv).val c.G fo) (f:=f) (fs:=fs) (cs:=cs) (d:=d) (lv':=aY lv1) hop hcal rfl (by rw [hG];exact c1) (by rw [hP];exact c2) ho (by rw [hP,hG];exact d2)
   | plain=>
    rw [ek] at h1;have h1':Oe P o.op (gA G fr o.op.operands.toList) lv nx (fun x us _=>LX nx us fun nx'=>eu o.dst x fr fun fr=>Ah us lv lg fun lv lg=>xM P G call ops os fr lv nx' lg k)=r:=h1;obtain⟨x,us,rds,h2,hdo⟩:=Jp h1' hg;have h2':LX nx us (fun nx'=>eu o.dst x fr fun fr=>Ah us lv lg fun lv lg=>xM P G call ops os fr lv nx' lg k)=r:=h2;obtain⟨nx1,h3⟩:=Ft h2';have h3':eu o.dst x fr (fun fr=>Ah us lv lg fun lv lg=>xM P G call ops os fr lv nx1 lg k)=r:=h3;obtain⟨fr1,h4,e1⟩:=jR h3';have h4':Ah us lv lg (fun lv lg=>xM P G call ops os fr1 lv nx1 lg k)=r:=h4;obtain⟨lv1,l1,h5,e2,e3,e4⟩:=xI h4' hg ho;obtain⟨e,fr',lv',nx',l,q1,q2,q3,q4⟩:=wg hc h5 hg e3
    have hdf:∀ cl',o.op≠.defer cl':=fun cl' h=>by
     rw [h] at hdo;rcases hdo with ⟨vc,g1,_⟩|g1
     ·simp [bA] at g1
     ·simp [gL] at g1
    refine⟨e,fr',lv',nx',l++l1,by rw [WY];exact q1,q2,e4.trans q3,fH.cons hw hdf (s1:=SS fr1 lv1) (fun c hP hG hd=>?_) q4⟩
    have hsim:=(j8.PA (c:=c) (o:=o) (s:=SS fr lv) (κ:=nx) (x:=x) (us:=us) (rds:=rds) hd (by
     rw [hP,hG];rw [oh G fr (aY lv)] at hdo;exact hdo)).un
    have:aB.put ⟨(SS fr lv).fr,aS (SS fr lv).lv (s5 us)⟩ o.dst x=SS fr1 lv1:=by
     rw [sQ];show aB.mk (Jt o.dst x (jK fr)) (aS (aY lv) (s5 us))=_;rw [← e1,← e2];rfl
    rw [this] at hsim;exact hsim
end
noncomputable def iU (P:Program)(f:Rec):Fw:=⟨⟨f.x,s5 f.us,f.rds⟩,aY f.lv,f.all,DC P f⟩
theorem OM(h:b.okB=true):b.un=b:=by
 cases b with
 | cells own fz T cs=>simp only [LB.okB,cn,W8] at h;simp only [LB.un,h.1]
 | map own es=>simp only [LB.okB,W8] at h;simp only [LB.un,h]
 | _=>rfl
theorem oV:s5 us=[]↔us=[]:=by cases us <;> simp [s5]
theorem Co {lv:Key→LB}(h:Agree lv lv' (s5 us) rds):Agree lv lv' us rds:=
 ⟨h.1,fun p hp=>h.2 (p.1,p.2.un) (Zd (f:=fun p:Key × LB=>(p.1,p.2.un)) hp)⟩
theorem Sh {lv':Tb LB}(h:jJ lv lv' l) (ho:cF (aY lv')):aS (aY lv) (s5 (l.map fun q=>(q,aY lv' q)))=aY lv':=by
 have key:∀ (m:List Key) (f:Key→LB),(∀ k,k ∉ m→f k=aY lv' k)→aS f (s5 (m.map fun q=>(q,aY lv' q)))=aY lv':=by
  intro m
  induction m with
  | nil=>intro f hf;funext k;exact hf k (by simp)
  | cons q m ih=>
   intro f hf;show aS (aC f q (aY lv' q).un) _=_;refine ih _ fun k hk=>?_
   by_cases e:k=q
   ·subst e;rw [aA,OM (ho k)]
   ·rw [aE _ _ e];exact hf k (by simp [e,hk])
 exact key l _ fun k hk=>(h k hk).symm
section
variable {P:Program}{G:List (List DV)}
theorem mb.skip(hd:∀ d,o.dst=some d→d<c.n) (hw:dM ops o.guard s0.fr=some false):mb c none ops o s0 ⟨.undef,[],[]⟩ ok:=by
 intro s h1 _ F β a w K Q h hK;rw [fP h ((mm h1).trans hw)];simp only [WS,if_false];exact hK F β _ _ (h.A8 hd (mg _))
theorem mb.nu{e:Fx}(hw:dM ops o.guard s0.fr=some true) (hdf:∀ cl,o.op≠.defer cl)
 (hs:∀ s:aB,(∀ x∈o.op.operands.toList,s.val c.G x=s0.val c.G x)→ok s.lv→bT c o s (e.app o.dst s)):mb c none ops o s0 e ok:=by
 intro s h1 h2 F β a w K Q h hK;rw [fP h ((mm h1).trans hw)];simp only [if_true];exact rN hdf (hs s (wN h1) h2 F β a w K Q h hK)
theorem C1(h:DC P f k b=true):∃ vc,bA P f.op f.vals (aC (aY f.lv) k b) f.nx=some (f.x,[],[k],vc)∧vc:=by
 unfold DC at h;split at h
 ·rename_i x k' he
  simp only [cn] at h;have e1:=AV.beq_eq h.1;have e2:=W1 h.2;subst e1;subst e2;exact RG P _ _ _ _ _ _ _ he
 ·cases h
theorem LR {P:Program}{lv:Key→LB}(h:j8 P op vals lv κ x us rds):∀ cl,op≠.defer cl:=by
 intro cl e;rw [e] at h;rcases h with ⟨vc,g1,_⟩|g1
 ·simp [bA] at g1
 ·simp [gL] at g1
theorem mb.plain(hP:c.P=P) (hG:c.G=G)(hd:∀ d,o.dst=some d→d<c.n) (hw:dM ops o.guard (jK fr)=some true)
 (h:j8 P o.op (gA G fr o.op.operands.toList) (aY lv) nx x us rds) :
 mb c none ops o (SS fr lv) (iU P ⟨x,us,rds,false,lv,o.op,gA G fr o.op.operands.toList,nx⟩).e (iU P ⟨x,us,rds,false,lv,o.op,gA G fr o.op.operands.toList,nx⟩).ok:=by
 refine mb.nu hw (LR h) fun s hv hok=>?_
 have hvals:gA G fr o.op.operands.toList=o.op.operands.toList.map (s.val c.G):=by
  rw [oh G fr (aY lv),hG];exact Xj fun y hy=>by rw [← hG];exact (hv y hy).symm
 have fin:∀ us',us'=us→j8 P o.op (o.op.operands.toList.map (s.val c.G)) s.lv nx x us' rds→bT c o s (Fx.app ⟨x,s5 us,rds⟩ o.dst s):=by
  intro us' e h';subst e;exact (j8.PA hd (by rw [hP];exact h')).un
 rw [hvals] at h;rcases hok with ⟨h1,_⟩|⟨_,h1|⟨h1,k,h2,h3⟩⟩
 ·cases h1
 ·exact fin us rfl (h.local (Co h1))
 ·have hu:us=[]:=oV.1 h1;obtain⟨vc,g1,g2⟩:=C1 h3;simp only at g1;have h2':rds=[k]:=h2;rw [hvals] at g1;have g3:=ou (lv':=s.lv) g1 ⟨fun j hj=>by rw [List.mem_singleton.1 hj,aA],fun p hp=>by cases hp⟩;exact fin [] hu.symm (.inl ⟨vc,by rw [h2'];exact g3,g2⟩)
theorem mb.MP(hP:c.P=P) (hG:c.G=G){lv':Tb LB}{f:FuncId}{fs cs:List AV}(hd:∀ d,o.dst=some d→d<c.n) (hw:dM ops o.guard (jK fr)=some true)
 (hop:o.op=.call cl) (hcal:cl.callee=.value fo) (ht:b7 ((SS fr lv).val G fo)=some (f,fs,cs)) (hf:aG P f=true) (ho:cF (aY lv)) (ho':cF (aY lv')) (hl:jJ lv lv' l)
 (hc:bP P G f (fs++cl.args.toList.map ((SS fr lv).val G)++cs) (aY lv) (.ret x (aY lv'))) :
 mb c none ops o (SS fr lv) (iU P ⟨x,l.map fun q=>(q,aY lv' q),[],true,lv,o.op,[],nx⟩).e (iU P ⟨x,l.map fun q=>(q,aY lv' q),[],true,lv,o.op,[],nx⟩).ok:=by
 refine mb.nu hw (fun cl' h=>by rw [hop] at h;cases h) fun s hv hok=>?_;rcases hok with ⟨_,h1⟩|⟨h1,_⟩
 ·have h1':s.lv=aY lv:=h1;have hfo:fo∈o.op.operands.toList:=by rw [hop];simp [Op.operands,Call.operands,hcal]
  have hargs:cl.args.toList.map (s.val c.G)=cl.args.toList.map ((SS fr lv).val c.G):=Xj fun y hy=>hv y (by rw [hop];simp only [Op.operands,Call.operands,hcal];simp at hy ⊢;exact .inr hy)
  have hsim:=bP.PA (c:=c) (s:=s) (o:=o) (cl:=cl) (fo:=fo) (fv:=s.val c.G fo) (f:=f) (fs:=fs) (cs:=cs) (x:=x) (lv':=aY lv') hd hop hcal rfl (by rw [hv fo hfo,hG];exact ht) (by rw [hP];exact hf) (by rw [h1'];exact ho) (by rw [hP,hargs,hG,h1'];exact hc)
  have:Fx.app ⟨x,s5 (l.map fun q=>(q,aY lv' q)),[]⟩ o.dst s=aB.put ⟨s.fr,aY lv'⟩ o.dst x:=by
   unfold Fx.app;simp only;rw [h1',Sh hl ho']
  show bT c o s (Fx.app ⟨x,s5 (l.map fun q=>(q,aY lv' q)),[]⟩ o.dst s);rw [this];exact hsim
 ·cases h1
theorem mb.IS(h:cM c none ops o s0 ⟨x,us,rds⟩) (hok:∀ lv,ok lv→Agree s0.lv lv us rds) :
 mb c none ops o s0 ⟨x,s5 us,rds⟩ ok:=by
 intro s h1 h2 F β a w K Q hs hK;refine h s h1 (hok _ h2) F β a w K Q hs fun F' β' a' w' h'=>hK F' β' a' w' ?_;have hl:∀ k,aS s.lv (s5 us) k=aS s.lv us k∨aS s.lv (s5 us) k=(aS s.lv us k).un:=DH (fun _=>.inl rfl);unfold Fx.app at h' ⊢;simp only at h' ⊢
 cases hd:o.dst with
 | none=>rw [hd] at h';exact aD.forget h' hl
 | some d=>rw [hd] at h';exact aD.forget h' hl
theorem DR:∀ {σ:List LB}{i:Nat}{lv:Tb LB}{k:Tb LB→cK}{r:cK},IV σ i lv k=r →
 ∃ lv',k lv'=r∧∀ j:Nat,aY lv' j=if i≤j∧j<i+σ.length then (σ.getD (j - i) .hole).un else aY lv j
 | [],i,lv,k,r,h=>⟨lv,h,fun j=>by rw [if_neg (by simp only [List.length_nil];omega)]⟩
 | b::σ,i,lv,k,r,h=>by
  have h1:(tf b fun x=>Tb.BP .hole x (pathOf i) lv fun lv=>IV σ (Nat.succ i) lv k)=r:=h;rw [zQ,Tb.kM] at h1;obtain⟨lv',e1,e2⟩:=DR h1;refine⟨lv',e1,fun j=>?_⟩;rw [e2 j,Cx]
  by_cases hj:j=i
  ·subst hj;rw [if_neg (by omega),if_pos (by simp),aA];simp
  ·rw [aE _ _ hj]
   by_cases h2:Nat.succ i≤j∧j<Nat.succ i+σ.length
   ·rw [if_pos h2,if_pos (by simp;omega)];congr 1;have:j - i=(j - Nat.succ i)+1:=by omega
    rw [this];rfl
   ·rw [if_neg h2,if_neg (by simp;omega)]
theorem Good.done:Good (.done x lv nx lg):=fun _ _ h=>by cases h
theorem zT(h:b.pass=true):b.un=b∧b.okB=true:=by
 cases b with
 | cells own fz T cs=>
  simp only [LB.pass,cn,W8] at h;simp [LB.un,LB.okB,h.1,h.2]
 | map own es=>simp only [LB.pass,W8] at h;simp [LB.un,LB.okB,h]
 | dead=>cases h
 | _=>simp [LB.un,LB.okB]
theorem HE(hc:jX P G call){k:AV→List (Key × LB)→List Key→Nat→cK}
 (h:tA P G call op cl fo fr lv nx k=r) (hg:Good r) :
 ∃ f fs cs x us rds nx',b7 ((SS fr lv).val G fo)=some (f,fs,cs)∧aG P f=true∧k x us rds nx'=r ∧
  ∀ c:Ctx,c.P=P→c.G=G→bS c f (fs++cl.args.toList.map ((SS fr lv).val G)++cs) (aY lv) x us rds:=by
 unfold tA at h;obtain⟨⟨f,fs,cs⟩,h1,h2⟩:=dx h hg.ne;obtain⟨h3,h4⟩:=cZ h2 hg.ne;obtain⟨q,h5,h6⟩:=dx h4 hg.ne;obtain⟨l0,h7,h8⟩:=DR h6;simp only at h7 h5;rw [qP G fr (aY lv)] at h1;rw [oh G fr (aY lv)] at h5 h7
 cases hin:call f q.us l0 1000 [] .done .rG with
 | bad n o=>rw [hin] at h7;exact absurd h7 hg.ne
 | rG d lv' nx' lg'=>rw [hin] at h7;exact absurd h7 hg.ne
 | done x lv' n' lg=>
  rw [hin] at h7;have h9:KU lv nx (fs++cl.args.toList.map ((SS fr lv).val G)++cs) q x lv' n' lg k=r:=h7;unfold KU at h9;obtain⟨h10,h11⟩:=cZ h9 hg.ne;rw [cn,cn] at h10;obtain⟨⟨g1,g2⟩,g3⟩:=h10
  have hpass:∀ b∈q.σ,b.pass=true:=by
   unfold x8 at g2;simp only [cn,E5] at g2;exact g2.1.1.1.1.1.2
  have hlen:q.σ.length≤1000:=by
   unfold x8 at g2;simp only [cn] at g2;exact W9 g2.2
  have hl0:aY l0=bz q.σ []:=by
   refine funext fun (j:Nat)=>?_;rw [h8 j];unfold bz
   by_cases hj:j<1000
   ·rw [if_pos hj]
    by_cases hj2:j<q.σ.length
    ·rw [if_pos ⟨W2 _,by omega⟩,Nat.sub_zero,cN hj2];exact (zT (hpass _ (aW hj2))).1
    ·rw [if_neg (by omega),cW hj2];show Tb.get LB.hole .leaf _=_;exact Tb.dW _ _
   ·rw [if_neg hj,if_neg (by omega)];show Tb.get LB.hole .leaf _=_;rw [Tb.dW];simp
  have hall0:cF (aY l0):=by
   intro (j:Nat);rw [hl0];unfold bz;split
   ·by_cases hj2:j<q.σ.length
    ·rw [cN hj2];exact (zT (hpass _ (aW hj2))).2
    ·rw [cW hj2];rfl
   ·simp [LB.okB]
  have hcall:=hc f q.us l0 1000 [] .done .rG _ hin Good.done hall0;rcases hcall with ⟨x',lv'',nx'',l,e1,e2,e3,e4⟩|⟨d,lv'',nx'',l,e1,_⟩
  ·simp only [cK.done.injEq,XD] at e1;obtain⟨rfl,rfl,rfl,rfl⟩:=e1
   have hlv':aY lv''=bz ((iX 0 q.σ.length).map (aY lv'')) ((iX 1000 (nx'' - 1000)).map (aY lv'')):=by
    refine funext fun (j:Nat)=>?_;have hcl:j ∉ l→aY lv'' j=bz q.σ [] j:=fun hj=>by rw [e4 j hj,hl0]
    have hlog:j∈l→j<q.σ.length∨(1000≤j∧j<nx''):=by
     intro hj;have:=List.all_eq_true.1 g1 j hj;simp only [Xl,cn,Nat.blt] at this;rcases this with h|⟨h,h'⟩
     ·exact .inl (W9 h)
     ·exact .inr ⟨W9 h,W9 h'⟩
    unfold bz
    by_cases hj:j<1000
    ·rw [if_pos hj]
     by_cases hj2:j<q.σ.length
     ·rw [cN (by simpa [kf] using hj2)];simp [qb]
     ·rw [cW (by simpa [kf] using hj2)];have:j ∉ l:=fun hm=>by rcases hlog hm with h|h <;> omega
      rw [hcl this];unfold bz;rw [if_pos hj,cW hj2]
    ·rw [if_neg hj]
     by_cases hj2:j - 1000<nx'' - 1000
     ·rw [cN (by simpa [kf] using hj2)];simp only [WK,qb];have:1000+(j - 1000)=j:=by omega
      rw [this]
     ·rw [cW (by simpa [kf] using hj2)];have:j ∉ l:=fun hm=>by rcases hlog hm with h|h <;> omega
      rw [hcl this];unfold bz;rw [if_neg hj];simp
   have hS:aF P G f q.us q.σ (.ret x' ((iX 0 q.σ.length).map (aY lv'')) ((iX 1000 (nx'' - 1000)).map (aY lv''))):=by
    intro F β w vs hS hvl hv;rw [hl0] at e2;have:=e2 F β w vs hS hvl hv;rw [hlv'] at this;exact this
   refine⟨f,fs,cs,_,_,_,_,h1,h3,h11,fun c hP hG=>?_⟩;exact bS.pass h5 g2 g3 (by rw [hP,hG];exact hS)
  ·cases e1
end
section
variable {P:Program}{G:List (List DV)}
theorem gM {α:Type}{l:List α}:Bc l=true↔l=[]:=by cases l <;> simp [Bc]
theorem GK(h:M0 k l=true):l=[k]:=by
 unfold M0 at h;split at h
 ·rw [W1 h]
 ·cases h
theorem so (P:Program)(f:Rec)(d:Option Nat)(fr:Nat→AV)(lv:Key→LB):(iU P f).e.app d ⟨fr,lv⟩=⟨Jt d f.x fr,aS lv (s5 f.us)⟩:=by
 show aB.put ⟨fr,aS lv (s5 f.us)⟩ d f.x=_;rw [sQ]
theorem HU(h:EW P f g=true):(iU P f).apart (iU P g):=by
 unfold EW at h;simp only [cn,Xl,W8,E5] at h;obtain⟨⟨⟨⟨h1,h2⟩,h3⟩,h4⟩,h5⟩:=h
 have hmem:∀ {us:List (Key × LB)}{k:Key},k∈(s5 us).map (·.1)→∃ p∈us,p.1=k:=by
  intro us k hk;rw [I0] at hk;simpa using hk
 refine⟨fun ha=>?_,fun ha=>?_,?_,?_,?_⟩
 ·rcases h1 with h1|h1
  ·have:f.all=true:=ha;rw [this] at h1;cases h1
  ·exact oV.2 (gM.1 h1)
 ·rcases h2 with h2|h2
  ·have:g.all=true:=ha;rw [this] at h2;cases h2
  ·exact oV.2 (gM.1 h2)
 ·intro k hk hk';obtain⟨p,hp,rfl⟩:=hmem hk;obtain⟨q,hq,e⟩:=hmem hk';have:=h3 p hp;rw [Ze] at this;exact this q hq (by rw [e];exact Nat.beq_refl _)
 ·intro k hk;obtain⟨p,hp,rfl⟩:=hmem hk;rcases h4 p hp with h|h
  ·left;intro hm;have hm':p.1∈g.rds:=hm;rw [nS.2 hm'] at h;cases h
  ·right;exact⟨oV.2 (gM.1 h.1.1),GK h.1.2,h.2⟩
 ·intro k hk;obtain⟨p,hp,rfl⟩:=hmem hk;rcases h5 p hp with h|h
  ·left;intro hm;have hm':p.1∈f.rds:=hm;rw [nS.2 hm'] at h;cases h
  ·right;exact⟨oV.2 (gM.1 h.1.1),GK h.1.2,h.2⟩
theorem ql(h:Rec.idle f=true∨Rec.idle g=true∨(Rec.quiet f=true∧Rec.quiet g=true)):(iU P f).apart (iU P g):=by
 have key:∀ {us:List (Key × LB)},us=[]→s5 us=[]:=fun h=>oV.2 h
 rcases h with h|h|⟨h,h'⟩
 ·unfold Rec.idle at h;simp only [cn,W8] at h;have h1:=key (gM.1 h.1.1);have h2:=gM.1 h.1.2;refine⟨fun ha=>?_,fun _=>h1,?_,?_,?_⟩
  ·have:f.all=true:=ha;rw [h.2] at this;cases this
  ·intro k hk;have:(iU P f).e.us=[]:=h1;rw [this] at hk;cases hk
  ·intro k hk;have:(iU P f).e.us=[]:=h1;rw [this] at hk;cases hk
  ·intro k _;left;have:(iU P f).e.rds=[]:=h2;rw [this];simp
 ·unfold Rec.idle at h;simp only [cn,W8] at h;have h1:=key (gM.1 h.1.1);have h2:=gM.1 h.1.2;refine⟨fun _=>h1,fun ha=>?_,?_,?_,?_⟩
  ·have:g.all=true:=ha;rw [h.2] at this;cases this
  ·intro k _ hk;have:(iU P g).e.us=[]:=h1;rw [this] at hk;cases hk
  ·intro k _;left;have:(iU P g).e.rds=[]:=h2;rw [this];simp
  ·intro k hk;have:(iU P g).e.us=[]:=h1;rw [this] at hk;cases hk
 ·unfold Rec.quiet at h h';simp only [cn,W8] at h h';have h1:=key (gM.1 h.1);have h2:=key (gM.1 h'.1);refine⟨fun _=>h2,fun _=>h1,?_,?_,?_⟩
  ·intro k hk;have:(iU P f).e.us=[]:=h1;rw [this] at hk;cases hk
  ·intro k hk;have:(iU P f).e.us=[]:=h1;rw [this] at hk;cases hk
  ·intro k hk;have:(iU P g).e.us=[]:=h2;rw [this] at hk;cases hk
theorem xH {ms:List Nat}:∀ {r:List Rec}{j0:Nat}{before:List (Nat × Rec)},Ny.pairs P ms r j0 before=true →
 (∀ (j:Nat) g,r[j]?=some g→∀ p∈before,(ms.getD (j0+j) 0).testBit p.1=true∨(iU P p.2).apart (iU P g)) ∧
 (∀ (i j:Nat) f g,i<j→r[i]?=some f→r[j]?=some g→(ms.getD (j0+j) 0).testBit (j0+i)=true∨(iU P f).apart (iU P g))
 | [],j0,before,h=>⟨fun j g hg=>by simp at hg,fun i j f g _ hf=>by simp at hf⟩
 | a::r,j0,before,h=>by
  unfold Ny.pairs at h
  cases hi:Rec.idle a with
  | true=>
   rw [hi] at h;simp only [cond_true] at h;obtain⟨h1,h2⟩:=xH h;refine⟨fun j g hg p hp=>?_,fun i j f g hij hf hg=>?_⟩
   ·cases j with
    | zero=>simp only [Yl,ai] at hg;subst hg;exact .inr (ql (.inr (.inl hi)))
    | succ j=>
     have:=h1 j g (by simpa using hg) p hp;have e:j0+1+j=j0+(j+1):=by omega
     rwa [e] at this
   ·cases j with
    | zero=>omega
    | succ j=>
     cases i with
     | zero=>simp only [Yl,ai] at hf;subst hf;exact .inr (ql (.inl hi))
     | succ i=>
      have:=h2 i j f g (by omega) (by simpa using hf) (by simpa using hg);have e:j0+1+j=j0+(j+1):=by omega
      have e2:j0+1+i=j0+(i+1):=by omega
      rwa [e,e2] at this
  | false=>
   rw [hi] at h;simp only [cond_false,cn,E5,Xl] at h;obtain⟨h0,h⟩:=h;obtain⟨h1,h2⟩:=xH h;refine⟨fun j g hg p hp=>?_,fun i j f g hij hf hg=>?_⟩
   ·cases j with
    | zero=>
     simp only [Yl,ai] at hg;subst hg;rcases h0 p hp with (h3|h3)|h3
     ·exact .inr (ql (.inr (.inr ⟨h3.2,h3.1⟩)))
     ·exact .inl h3
     ·exact .inr (HU h3)
    | succ j=>
     have:=h1 j g (by simpa using hg) p (XO _ hp);have e:j0+1+j=j0+(j+1):=by omega
     rwa [e] at this
   ·cases j with
    | zero=>omega
    | succ j=>
     have e:j0+1+j=j0+(j+1):=by omega
     cases i with
     | zero=>
      simp only [Yl,ai] at hf;subst hf;have:=h1 j g (by simpa using hg) (j0,a) (XP ..);rw [e] at this;exact this
     | succ i=>
      have:=h2 i j f g (by omega) (by simpa using hf) (by simpa using hg);have e2:j0+1+i=j0+(i+1):=by omega
      rwa [e,e2] at this
theorem nL {call:dS}(hc:jX P G call) {ops:Array Oper}:∀ {os:List Oper}{fr:Tb AV}{lv:Tb LB}{nx:Nat}{lg:List Key}{acc:List Rec}{k:List Rec→Tb AV→Tb LB→Nat→List Key→cK}{r:cK},
 iM P G call ops os fr lv nx lg acc k=r→Good r→cF (aY lv) →
 ∃ (rs:List Rec) (fr':Tb AV) (lv':Tb LB) (nx':Nat) (l:List Key),k (rs.reverse++acc) fr' lv' nx' (l++lg)=r∧cF (aY lv')∧jJ lv lv' l∧∀ c:Ctx,c.P=P→c.G=G→cz c.n os=true→jw c none ops os (rs.map (iU P)) (SS fr lv) (SS fr' lv')
 | [],fr,lv,nx,lg,acc,k,r,h,hg,ho=>⟨[],fr,lv,nx,[],h,ho,jJ.refl _,fun c _ _ _=>rfl⟩
 | o::os,fr,lv,nx,lg,acc,k,r,h,hg,ho=>by
  have h0:(lK (dM ops o.guard (jK fr)) (.bad 8 [o.op]) fun b=>
   eE b (eu o.dst .undef fr fun fr=>iM P G call ops os fr lv nx lg (⟨.undef,[],[],false,lv,o.op,[],nx⟩::acc) k)
    (Qf.rec (motive:=fun _=>cK)
     (fun _=>.bad 9 [o.op])
     (fun cl fo=>eE (Mv ops)
      (uP P G call o.op cl fo fr lv nx [] (fun x lv' nx' lg'=>dN x fun x=>eu o.dst x fr fun fr=>iM P G call ops os fr lv' nx' (lg'++lg) (⟨x,lg'.map fun q=>(q,aY lv' q),[],true,lv,o.op,[],nx⟩::acc) k) (fun _ _ _ _=>.bad 10 [o.op]))
      (tA P G call o.op cl fo fr lv nx fun x us rds nx'=>dN x fun x=>eu o.dst x fr fun fr=>Ah us lv lg fun lv' lg=>iM P G call ops os fr lv' nx' lg (⟨x,us,rds,false,lv,o.op,[],nx⟩::acc) k))
     (Oe P o.op (gA G fr o.op.operands.toList) lv nx fun x us rds=>LX nx us fun nx'=>dN x fun x=>eu o.dst x fr fun fr'=>Ah us lv lg fun lv' lg=>iM P G call ops os fr' lv' nx' lg (⟨x,us,rds,false,lv,o.op,gA G fr o.op.operands.toList,nx⟩::acc) k)
     (tU o.op)))=r:=h
  obtain⟨b,hw,h1⟩:=dx h0 hg.ne
  cases b with
  | false=>
   have h1':eu o.dst .undef fr (fun fr=>iM P G call ops os fr lv nx lg (⟨.undef,[],[],false,lv,o.op,[],nx⟩::acc) k)=r:=h1;obtain⟨fr1,h2,e1⟩:=jR h1';obtain⟨rs,fr',lv',nx',l,q1,q2,q3,q4⟩:=nL hc h2 hg ho;refine⟨⟨.undef,[],[],false,lv,o.op,[],nx⟩::rs,fr',lv',nx',l,by simpa using q1,q2,q3,fun c hP hG hd=>?_⟩;obtain⟨hd1,hd2⟩:=jO hd;refine⟨mb.skip hd1 hw,rfl,?_⟩
   have:(iU P ⟨.undef,[],[],false,lv,o.op,[],nx⟩).e.app o.dst (SS fr lv)=SS fr1 lv:=by
    unfold SS;rw [so,← e1];rfl
   rw [this];exact q4 c hP hG hd2
  | true=>
   cases ek:tU o.op with
   | rG x=>rw [ek] at h1;exact absurd h1 hg.ne
   | call cl fo=>
    rw [ek] at h1;obtain⟨hop,hcal⟩:=zz ek
    have h1':eE (Mv ops)
     (uP P G call o.op cl fo fr lv nx [] (fun x lv' nx' lg'=>dN x fun x=>eu o.dst x fr fun fr=>iM P G call ops os fr lv' nx' (lg'++lg) (⟨x,lg'.map fun q=>(q,aY lv' q),[],true,lv,o.op,[],nx⟩::acc) k) (fun _ _ _ _=>.bad 10 [o.op]))
     (tA P G call o.op cl fo fr lv nx fun x us rds nx'=>dN x fun x=>eu o.dst x fr fun fr=>Ah us lv lg fun lv' lg=>iM P G call ops os fr lv' nx' lg (⟨x,us,rds,false,lv,o.op,[],nx⟩::acc) k)=r:=h1
    cases hi:Mv ops with
    | false=>
     rw [hi] at h1';have h2:uP P G call o.op cl fo fr lv nx [] (fun x lv' nx' lg'=>dN x fun x=>eu o.dst x fr fun fr=>iM P G call ops os fr lv' nx' (lg'++lg) (⟨x,lg'.map fun q=>(q,aY lv' q),[],true,lv,o.op,[],nx⟩::acc) k) (fun _ _ _ _=>.bad 10 [o.op])=r:=h1';obtain⟨f,fs,cs,c1,c2,c3⟩:=CP hc h2 hg ho;rcases c3 with ⟨x,lv1,nx1,l1,d1,d2,d3,d4⟩|⟨d,lv1,nx1,l1,d1,_⟩
     ·rw [iS,XD] at d1;have d1':eu o.dst x fr (fun fr=>iM P G call ops os fr lv1 nx1 (l1++lg) (⟨x,l1.map fun q=>(q,aY lv1 q),[],true,lv,o.op,[],nx⟩::acc) k)=r:=d1;obtain⟨fr1,h3,e1⟩:=jR d1';obtain⟨rs,fr',lv',nx',l,q1,q2,q3,q4⟩:=nL hc h3 hg d3;refine⟨⟨x,l1.map fun q=>(q,aY lv1 q),[],true,lv,o.op,[],nx⟩::rs,fr',lv',nx',l++l1,by simpa [WY] using q1,q2,d4.trans q3,fun c hP hG hd=>?_⟩;obtain⟨hd1,hd2⟩:=jO hd;refine⟨mb.MP hP hG hd1 hw hop hcal c1 c2 ho d3 d4 d2,rfl,?_⟩
      have:(iU P ⟨x,l1.map fun q=>(q,aY lv1 q),[],true,lv,o.op,[],nx⟩).e.app o.dst (SS fr lv)=SS fr1 lv1:=by
       unfold SS;rw [so,Sh d4 d3,← e1]
      rw [this];exact q4 c hP hG hd2
     ·exact absurd d1 hg.ne
    | true=>
     rw [hi] at h1';have h2:tA P G call o.op cl fo fr lv nx (fun x us rds nx'=>dN x fun x=>eu o.dst x fr fun fr=>Ah us lv lg fun lv' lg=>iM P G call ops os fr lv' nx' lg (⟨x,us,rds,false,lv,o.op,[],nx⟩::acc) k)=r:=h1';obtain⟨f,fs,cs,x,us,rds,nx1,c1,c2,d1,c3⟩:=HE hc h2 hg;rw [iS] at d1;have d1':eu o.dst x fr (fun fr=>Ah us lv lg fun lv' lg=>iM P G call ops os fr lv' nx1 lg (⟨x,us,rds,false,lv,o.op,[],nx⟩::acc) k)=r:=d1;obtain⟨fr1,h3,e1⟩:=jR d1';have h3':Ah us lv lg (fun lv' lg=>iM P G call ops os fr1 lv' nx1 lg (⟨x,us,rds,false,lv,o.op,[],nx⟩::acc) k)=r:=h3;obtain⟨lv1,l1,h5,e2,e3,e4⟩:=xI h3' hg ho;obtain⟨rs,fr',lv',nx',l,q1,q2,q3,q4⟩:=nL hc h5 hg e3;refine⟨⟨x,us,rds,false,lv,o.op,[],nx⟩::rs,fr',lv',nx',l++l1,by simpa [WY] using q1,q2,e4.trans q3,fun c hP hG hd=>?_⟩;obtain⟨hd1,hd2⟩:=jO hd;have heff:cM c none ops o (SS fr lv) ⟨x,us,rds⟩:=cM.call hd1 hw hop hcal (by rw [hG];exact c1) (by rw [hP];exact c2) (by rw [hG];exact c3 c hP hG);refine⟨mb.IS heff (fun lv' hok=>?_),rfl,?_⟩
     ·rcases hok with ⟨h1,_⟩|⟨_,h1|⟨h1,j,h2,h3⟩⟩
      ·cases h1
      ·exact Co h1
      ·exfalso;obtain⟨vc,g1,_⟩:=C1 h3;simp only at g1;rw [hop] at g1;have g2:iG P cl [] (aC (aY lv) j (lv' j)) nx=some (x,[],[j],vc):=g1;unfold iG at g2;rw [hcal] at g2;cases g2
     ·have:(iU P ⟨x,us,rds,false,lv,o.op,[],nx⟩).e.app o.dst (SS fr lv)=SS fr1 lv1:=by
       unfold SS;rw [so,← e1,← e2]
      rw [this];exact q4 c hP hG hd2
   | plain=>
    rw [ek] at h1;have h1':Oe P o.op (gA G fr o.op.operands.toList) lv nx (fun x us rds=>LX nx us fun nx'=>dN x fun x=>eu o.dst x fr fun fr'=>Ah us lv lg fun lv' lg=>iM P G call ops os fr' lv' nx' lg (⟨x,us,rds,false,lv,o.op,gA G fr o.op.operands.toList,nx⟩::acc) k)=r:=h1;obtain⟨x,us,rds,h2,hdo⟩:=Jp h1' hg;have h2':LX nx us (fun nx'=>dN x fun x=>eu o.dst x fr fun fr'=>Ah us lv lg fun lv' lg=>iM P G call ops os fr' lv' nx' lg (⟨x,us,rds,false,lv,o.op,gA G fr o.op.operands.toList,nx⟩::acc) k)=r:=h2;obtain⟨nx1,h3⟩:=Ft h2';rw [iS] at h3;obtain⟨fr1,h4,e1⟩:=jR h3;have h4':Ah us lv lg (fun lv' lg=>iM P G call ops os fr1 lv' nx1 lg (⟨x,us,rds,false,lv,o.op,gA G fr o.op.operands.toList,nx⟩::acc) k)=r:=h4;obtain⟨lv1,l1,h5,e2,e3,e4⟩:=xI h4' hg ho;obtain⟨rs,fr',lv',nx',l,q1,q2,q3,q4⟩:=nL hc h5 hg e3;refine⟨⟨x,us,rds,false,lv,o.op,gA G fr o.op.operands.toList,nx⟩::rs,fr',lv',nx',l++l1,by simpa [WY] using q1,q2,e4.trans q3,fun c hP hG hd=>?_⟩;obtain⟨hd1,hd2⟩:=jO hd;refine⟨mb.plain hP hG hd1 hw hdo,rfl,?_⟩
    have:(iU P ⟨x,us,rds,false,lv,o.op,gA G fr o.op.operands.toList,nx⟩).e.app o.dst (SS fr lv)=SS fr1 lv1:=by
     unfold SS;rw [so,← e1,← e2]
    rw [this];exact q4 c hP hG hd2
def ox (P:Program)(G:List (List DV))(N:Nat)(x:Code)(s s':aB)(e:Ex):Prop:=
 ∀ c:Ctx,c.P=P→c.G=G→c.n=N→∀ F β a w,aD c F β s a w→x.wpIn (oH none) 0 c.P (fun ex a' w'=>∃ F' β',aD c F' β' s' a' w'∧Cm e ex F' w') a w
def k7 (P:Program)(G:List (List DV))(x:Code)(run:RunT):Prop:=∀ call,jX P G call→∀ N fr lv nx lg k r,run call N fr lv nx lg k=r→Good r→cF (aY lv) →
 ∃ e fr' lv' nx' l,k e fr' lv' nx' (l++lg)=r∧cF (aY lv')∧jJ lv lv' l∧ox P G N x (SS fr lv) (SS fr' lv') e
theorem Io (hm:P.follows .mixedOrders=true)(id:Nat)(ops:Array Oper)(dr:Bool):k7 P G (.region id ops dr) (DJ P G id ops dr):=by
 intro call hc N fr lv nx lg k r h hg ho
 have h0:eE (cz N ops.toList) (.bad 11 []) (Bool.rec (motive:=fun _=>cK) (xM P G call ops ops.toList fr lv nx lg k)
  (eE (fW ops) (.bad 12 []) (iM P G call ops ops.toList fr lv nx lg [] fun acc fr lv nx lg=>eE (Ny P (gI ops.toList []) acc.reverse) (.bad 13 (ops.toList.map (·.op))) (k .normal fr lv nx lg))) dr)=r:=h
 obtain⟨hd,h1⟩:=cZ h0 hg.ne
 cases dr with
 | false=>
  obtain⟨e,fr',lv',nx',l,q1,q2,q3,q4⟩:=wg hc h1 hg ho;refine⟨e,fr',lv',nx',l,q1,q2,q3,?_⟩;intro c hP hG hn F β a w hs;refine wpIn_region ?_;have:=q4 c 0 _ hP hG (by rw [hn];exact hd) rfl (fun F' β' a' w' ex h1 h2=>(⟨F',β',h1,h2⟩:∃ F' β',aD c F' β' (SS fr' lv') a' w'∧Cm e ex F' w')) F β a w hs;rw [List.range_eq_range'];simpa using this
 | true=>
  obtain⟨hst,h2⟩:=cZ h1 hg.ne;obtain⟨rs,fr',lv',nx',l,q1,q2,q3,q4⟩:=nL hc h2 hg ho;rw [XD,List.reverse_reverse] at q1;obtain⟨hi,h3⟩:=cZ q1 hg.ne;refine⟨.normal,fr',lv',nx',l,h3,q2,q3,?_⟩;intro c hP hG hn F β a w hs;have hch:=q4 c hP hG (by rw [hn];exact hd);have hp:=xH (P:=P) (ms:=gI ops.toList []) (r:=rs) (j0:=0) (before:=[]) hi;unfold fW at hst;simp only [cn,E5,YZ] at hst;obtain⟨hs1,hs2⟩:=hst;have hanc:∀ i j,((gI ops.toList []).getD j 0).testBit i=true→vn ops i j:=jV ops.toList [] (by simp) (fun i j h=>by simp at h)
  refine jw.draw (by rw [hP];exact hm) hch (fun i o ho ed hed hb=>nv ops.toList 0 rfl hs1 i o (W2 _) ho ed hed hb) (fun i j o o' f g hij ho ho' hf hg=>?_)
   (fun F' β' a' w' h'=>⟨F',β',h',rfl⟩) hs
  have hj:j<ops.size:=(Array.getElem?_eq_some_iff.1 ho').1;rw [Yi,W7] at hf hg;obtain⟨f0,hf0,rfl⟩:=hf;obtain⟨g0,hg0,rfl⟩:=hg;have h5:=hs2 j hj i hij;rw [ho,ho'] at h5;simp only [Xl] at h5;rcases h5 with h5|h5
  ·exact .inl (hanc i j h5)
  ·rcases hp.2 i j f0 g0 hij hf0 hg0 with h6|h6
   ·simp only [W5] at h6;exact .inl (hanc i j h6)
   ·exact .inr ⟨h5,h6⟩
theorem ox.mono{x:Code}(h:ox P G N x s s' e)(hP:c.P=P) (hG:c.G=G) (hn:c.n=N)
 (hQ:∀ F' β' a' w' ex,aD c F' β' s' a' w'→Cm e ex F' w'→Q ex a' w'){a:Act}(hs:aD c F β s a w):x.wpIn (oH none) 0 c.P Q a w:=
 wpIn_mono (h c hP hG hn F β a w hs) fun ex a' w' ⟨F',β',h1,h2⟩=>hQ F' β' a' w' ex h1 h2
theorem Pq {x y:Code}{b:RunT}(ha:k7 P G x a) (hb:k7 P G y b):k7 P G (.seq x y) (Ok x y a b):=by
 intro call hc N fr lv nx lg k r h hg ho;obtain⟨e,fr1,lv1,nx1,l1,q1,q2,q3,q4⟩:=ha call hc N fr lv nx lg _ r h hg ho
 cases e with
 | normal=>
  have q1':b call N fr1 lv1 nx1 (l1++lg) k=r:=q1;obtain⟨e,fr',lv',nx',l,p1,p2,p3,p4⟩:=hb call hc N fr1 lv1 nx1 _ k r q1' hg q2;refine⟨e,fr',lv',nx',l++l1,by rw [WY];exact p1,p2,q3.trans p3,?_⟩;intro c hP hG hn F β ac w hs;refine wpIn_seq (q4.mono hP hG hn (fun F' β' a' w' ex h1 h2=>?_) hs);have:ex=.normal:=h2;subst this;exact p4 c hP hG hn F' β' a' w' h1
 | exit id=>
  refine⟨.exit id,fr1,lv1,nx1,l1,q1,q2,q3,fun c hP hG hn F β ac w hs=>wpIn_seq (q4.mono hP hG hn (fun F' β' a' w' ex h1 h2=>?_) hs)⟩;have:ex=.exit id:=h2;subst this;exact⟨F',β',h1,rfl⟩
 | goto id=>
  refine⟨.goto id,fr1,lv1,nx1,l1,q1,q2,q3,fun c hP hG hn F β ac w hs=>wpIn_seq (q4.mono hP hG hn (fun F' β' a' w' ex h1 h2=>?_) hs)⟩;have:ex=.goto id:=h2;subst this;exact⟨F',β',h1,rfl⟩
 | ret=>
  refine⟨.ret,fr1,lv1,nx1,l1,q1,q2,q3,fun c hP hG hn F β ac w hs=>wpIn_seq (q4.mono hP hG hn (fun F' β' a' w' ex h1 h2=>?_) hs)⟩;have:ex=.ret:=h2;subst this;exact⟨F',β',h1,rfl⟩
 | panic d=>
  refine⟨.panic d,fr1,lv1,nx1,l1,q1,q2,q3,fun c hP hG hn F β ac w hs=>wpIn_seq (q4.mono hP hG hn (fun F' β' a' w' ex h1 h2=>?_) hs)⟩;obtain⟨v,rfl,hv⟩:=h2;exact⟨F',β',h1,v,rfl,hv⟩
theorem MO {o:Operand}{x y:Code}{b:RunT}(ha:k7 P G x a) (hb:k7 P G y b):k7 P G (.cond o x y) (Kh G o x y a b):=by
 intro call hc N fr lv nx lg k r h hg ho;have h0:Jq (yP G fr o) (b call N fr lv nx lg k) (a call N fr lv nx lg k)=r:=h;unfold Jq at h0;split at h0
 ·rename_i t ht
  rw [qP G fr (aY lv)] at ht
  cases t with
  | false=>
   obtain⟨e,fr',lv',nx',l,p1,p2,p3,p4⟩:=hb call hc N fr lv nx lg k r h0 hg ho;refine⟨e,fr',lv',nx',l,p1,p2,p3,fun c hP hG hn F β ac w hs=>?_⟩;have hv:=hs.val o;have ht':(SS fr lv).val c.G o=.c (.d (.bool false)):=by rw [hG];exact ht
   rw [ht'] at hv;exact wpIn_cond_false (Vw.qD hv) (p4 c hP hG hn F β ac w hs)
  | true=>
   obtain⟨e,fr',lv',nx',l,p1,p2,p3,p4⟩:=ha call hc N fr lv nx lg k r h0 hg ho;refine⟨e,fr',lv',nx',l,p1,p2,p3,fun c hP hG hn F β ac w hs=>?_⟩;have hv:=hs.val o;have ht':(SS fr lv).val c.G o=.c (.d (.bool true)):=by rw [hG];exact ht
   rw [ht'] at hv;exact wpIn_cond_true (Vw.qD hv) (p4 c hP hG hn F β ac w hs)
 ·exact absurd h0 hg.ne
theorem IP{x:Code}(ha:k7 P G x a):k7 P G (.block id x) (GA id x a):=by
 intro call hc N fr lv nx lg k r h hg ho;obtain⟨e,fr1,lv1,nx1,l1,q1,q2,q3,q4⟩:=ha call hc N fr lv nx lg _ r h hg ho
 cases e with
 | normal=>
  refine⟨.normal,fr1,lv1,nx1,l1,q1,q2,q3,fun c hP hG hn F β ac w hs=>wpIn_block (q4.mono hP hG hn (fun F' β' a' w' ex h1 h2=>?_) hs)⟩;have:ex=.normal:=h2;subst this;exact⟨F',β',h1,rfl⟩
 | exit i=>
  have q1':Bool.rec (motive:=fun _=>cK) (k (.exit i) fr1 lv1 nx1 (l1++lg)) (k .normal fr1 lv1 nx1 (l1++lg)) (Nat.beq i id)=r:=q1
  cases hb:Nat.beq i id with
  | true=>
   rw [hb] at q1';have:=W1 hb;subst this;refine⟨.normal,fr1,lv1,nx1,l1,q1',q2,q3,fun c hP hG hn F β ac w hs=>wpIn_block (q4.mono hP hG hn (fun F' β' a' w' ex h1 h2=>?_) hs)⟩;have:ex=.exit i:=h2;subst this;simp only [Exit.inBlock,if_true];exact⟨F',β',h1,rfl⟩
  | false=>
   rw [hb] at q1';have hne:=YL hb;refine⟨.exit i,fr1,lv1,nx1,l1,q1',q2,q3,fun c hP hG hn F β ac w hs=>wpIn_block (q4.mono hP hG hn (fun F' β' a' w' ex h1 h2=>?_) hs)⟩;have:ex=.exit i:=h2;subst this;simp only [Exit.inBlock,if_neg hne];exact⟨F',β',h1,rfl⟩
 | goto i=>
  refine⟨.goto i,fr1,lv1,nx1,l1,q1,q2,q3,fun c hP hG hn F β ac w hs=>wpIn_block (q4.mono hP hG hn (fun F' β' a' w' ex h1 h2=>?_) hs)⟩;have:ex=.goto i:=h2;subst this;exact⟨F',β',h1,rfl⟩
 | ret=>
  refine⟨.ret,fr1,lv1,nx1,l1,q1,q2,q3,fun c hP hG hn F β ac w hs=>wpIn_block (q4.mono hP hG hn (fun F' β' a' w' ex h1 h2=>?_) hs)⟩;have:ex=.ret:=h2;subst this;exact⟨F',β',h1,rfl⟩
 | panic d=>
  refine⟨.panic d,fr1,lv1,nx1,l1,q1,q2,q3,fun c hP hG hn F β ac w hs=>wpIn_block (q4.mono hP hG hn (fun F' β' a' w' ex h1 h2=>?_) hs)⟩;obtain⟨v,rfl,hv⟩:=h2;exact⟨F',β',h1,v,rfl,hv⟩
theorem MM {x:Code}(ha:k7 P G x a):k7 P G (.loop x) (JW x a):=by
 intro call hc N fr lv nx lg k r h hg ho
 have key:∀ m (fr:Tb AV) (lv:Tb LB) (nx:Nat) (lg:List Key),Lb a call N m fr lv nx lg k=r→cF (aY lv) →
  ∃ e fr' lv' nx' l,k e fr' lv' nx' (l++lg)=r∧cF (aY lv')∧jJ lv lv' l ∧
   ∀ c:Ctx,c.P=P→c.G=G→c.n=N→∀ F β ac w,aD c F β (SS fr lv) ac w→Code.roundsIn (oH none) 0 c.P x (fun ex a' w'=>∃ F' β',aD c F' β' (SS fr' lv') a' w'∧Cm e ex F' w') m ac w:=by
  intro m
  induction m with
  | zero=>intro fr lv nx lg h _;exact absurd h hg.ne
  | succ m ih=>
   intro fr lv nx lg h ho;obtain⟨e,fr1,lv1,nx1,l1,q1,q2,q3,q4⟩:=ha call hc N fr lv nx lg _ r h hg ho
   cases e with
   | normal=>
    have q1':Lb a call N m fr1 lv1 nx1 (l1++lg) k=r:=q1;obtain⟨e,fr',lv',nx',l,p1,p2,p3,p4⟩:=ih fr1 lv1 nx1 _ q1' q2;refine⟨e,fr',lv',nx',l++l1,by rw [WY];exact p1,p2,q3.trans p3,fun c hP hG hn F β ac w hs=>?_⟩;rw [roundsIn_succ];refine q4.mono hP hG hn (fun F' β' a' w' ex h1 h2=>?_) hs;have:ex=.normal:=h2;subst this;exact p4 c hP hG hn F' β' a' w' h1
   | exit i=>
    refine⟨.exit i,fr1,lv1,nx1,l1,q1,q2,q3,fun c hP hG hn F β ac w hs=>?_⟩;rw [roundsIn_succ];refine q4.mono hP hG hn (fun F' β' a' w' ex h1 h2=>?_) hs;have:ex=.exit i:=h2;subst this;exact⟨F',β',h1,rfl⟩
   | goto i=>
    refine⟨.goto i,fr1,lv1,nx1,l1,q1,q2,q3,fun c hP hG hn F β ac w hs=>?_⟩;rw [roundsIn_succ];refine q4.mono hP hG hn (fun F' β' a' w' ex h1 h2=>?_) hs;have:ex=.goto i:=h2;subst this;exact⟨F',β',h1,rfl⟩
   | ret=>
    refine⟨.ret,fr1,lv1,nx1,l1,q1,q2,q3,fun c hP hG hn F β ac w hs=>?_⟩;rw [roundsIn_succ];refine q4.mono hP hG hn (fun F' β' a' w' ex h1 h2=>?_) hs;have:ex=.ret:=h2;subst this;exact⟨F',β',h1,rfl⟩
   | panic d=>
    refine⟨.panic d,fr1,lv1,nx1,l1,q1,q2,q3,fun c hP hG hn F β ac w hs=>?_⟩;rw [roundsIn_succ];refine q4.mono hP hG hn (fun F' β' a' w' ex h1 h2=>?_) hs;obtain⟨v,rfl,hv⟩:=h2;exact⟨F',β',h1,v,rfl,hv⟩
 obtain⟨e,fr',lv',nx',l,p1,p2,p3,p4⟩:=key 1000000 fr lv nx lg h ho;exact⟨e,fr',lv',nx',l,p1,p2,p3,fun c hP hG hn F β ac w hs=>wpIn_loop_rounds _ (p4 c hP hG hn F β ac w hs)⟩
theorem NC (hm:P.follows .mixedOrders=true)(x:Code):k7 P G x (runK P G x):=by
 have leaf:∀ {y:Code}{e:Ex},(∀ c:Ctx,∀ ex,e=ex→True)→(∀ (c:Ctx) (s:aB) F β a w,aD c F β s a w→y.wpIn (oH none) 0 c.P (fun ex a' w'=>∃ F' β',aD c F' β' s a' w'∧Cm e ex F' w') a w) →
  k7 P G y (fun _ _ fr lv nx lg k=>k e fr lv nx lg):=by
  intro y e _ hy call hc N fr lv nx lg k r h hg ho;exact⟨e,fr,lv,nx,[],h,ho,jJ.refl _,fun c _ _ _ F β a w hs=>hy c _ F β a w hs⟩
 have bad:∀ y:Code,k7 P G y GU:=fun y call hc N fr lv nx lg k r h hg ho=>absurd h hg.ne
 induction x with
 | skip=>exact leaf (e:=.normal) (fun _ _ _=>trivial) fun c s F β a w hs=>wpIn_skip ⟨F,β,hs,rfl⟩
 | region id ops dr=>exact Io hm id ops dr
 | seq a b iha ihb=>exact Pq iha ihb
 | cond o a b iha ihb=>exact MO iha ihb
 | block id a iha=>exact IP iha
 | loop a iha=>exact MM iha
 | rangeFunc f ps a b _ _=>exact bad _
 | exit id=>exact leaf (e:=.exit id) (fun _ _ _=>trivial) fun c s F β a w hs=>wpIn_exit ⟨F,β,hs,rfl⟩
 | scope a _=>exact bad _
 | label l=>exact leaf (e:=.normal) (fun _ _ _=>trivial) fun c s F β a w hs=>wpIn_label ⟨F,β,hs,rfl⟩
 | goto l=>exact leaf (e:=.goto l) (fun _ _ _=>trivial) fun c s F β a w hs=>wpIn_goto ⟨F,β,hs,rfl⟩
 | ret=>exact leaf (e:=.ret) (fun _ _ _=>trivial) fun c s F β a w hs=>wpIn_ret ⟨F,β,hs,rfl⟩
 | refuse w=>exact bad _
theorem Df:∀ {us:List AV}{i:Nat}{fr:Tb AV}{k:Tb AV→cK}{r:cK},JT us i fr k=r →
 ∃ fr',k fr'=r∧∀ j:Nat,jK fr' j=if i≤j∧j<i+us.length then us.getD (j - i) .undef else jK fr j
 | [],i,fr,k,r,h=>⟨fr,h,fun j=>by rw [if_neg (by simp only [List.length_nil];omega)]⟩
 | x::us,i,fr,k,r,h=>by
  have h1:(Tb.BP .undef x (pathOf i) fr fun fr=>JT us (Nat.succ i) fr k)=r:=h;rw [Tb.kM] at h1;obtain⟨fr',e1,e2⟩:=Df h1;refine⟨fr',e1,fun j=>?_⟩;rw [e2 j,DW]
  by_cases hj:j=i
  ·subst hj;rw [if_neg (by omega),if_pos (by simp),aA];simp
  ·rw [aE _ _ hj]
   by_cases h2:Nat.succ i≤j∧j<Nat.succ i+us.length
   ·rw [if_pos h2,if_pos (by simp;omega)];have:j - i=(j - Nat.succ i)+1:=by omega
    rw [this];rfl
   ·rw [if_neg h2,if_neg (by simp;omega)]
theorem ox.aw{x:Code}(h:ox P G N x s s' e)(hP:c.P=P) (hG:c.G=G) (hn:c.n=N){Q:Ex→aB→Nat→Prop}(hQ:Q e s' 0):AW c none x s κ Q:=
 fun F β a w hs=>h.mono hP hG hn (fun F' β' a' w' ex h1 h2=>⟨e,s',0,F',β',hQ,h1,h2⟩) hs
theorem Mt (hm:P.follows .mixedOrders=true)(hc:jX P G call):jX P G (NX P G call):=by
 intro f us lv nx lg kr kp r h hg ho;unfold NX at h;obtain⟨fn,h1,h2⟩:=dx h hg.ne;obtain⟨code,h3,h4⟩:=dx h2 hg.ne;obtain⟨h5,h6⟩:=cZ h4 hg.ne;obtain⟨fr,h7,h8⟩:=Df h6;obtain⟨e,fr',lv',nx',l,q1,q2,q3,q4⟩:=NC hm code call hc fn.ntmps fr lv nx lg _ r h7 hg ho
 have hfr:jK fr=fun t=>us.getD t .undef:=by
  funext j;rw [h8 j]
  by_cases hj:j<us.length
  ·rw [if_pos ⟨W2 _,by omega⟩,Nat.sub_zero]
  ·rw [if_neg (by omega),cW hj];show Tb.get AV.undef .leaf _=_;exact Tb.dW _ _
 have hSS:SS fr lv=⟨fun t=>us.getD t .undef,aY lv⟩:=by unfold SS;rw [hfr]
 rw [hSS] at q4
 cases e with
 | normal=>
  have q1':(lK (cH P ⟨jK fr',aY lv'⟩ fn.results.toList) (.bad 20 []) fun x=>dN x fun x=>kr x lv' nx' (l++lg))=r:=q1;obtain⟨x,h9,h10⟩:=dx q1' hg.ne;rw [iS] at h10;exact .inl ⟨x,lv',nx',l,h10,bP.nc (κ:=0) h1 h3 (W9 h5) fun c hP hG hn _=>q4.aw hP hG hn ⟨by rw [hP];exact h9,rfl⟩,q2,q3⟩
 | ret=>
  have q1':(lK (cH P ⟨jK fr',aY lv'⟩ fn.results.toList) (.bad 23 []) fun x=>dN x fun x=>kr x lv' nx' (l++lg))=r:=q1;obtain⟨x,h9,h10⟩:=dx q1' hg.ne;rw [iS] at h10;exact .inl ⟨x,lv',nx',l,h10,bP.nc (κ:=0) h1 h3 (W9 h5) fun c hP hG hn _=>q4.aw hP hG hn ⟨by rw [hP];exact h9,rfl⟩,q2,q3⟩
 | panic d=>
  have q1':kp d lv' nx' (l++lg)=r:=q1;exact .inr ⟨d,lv',nx',l,q1',bP.nc (κ:=0) h1 h3 (W9 h5) fun c hP hG hn _=>q4.aw hP hG hn ⟨rfl,rfl⟩,q2,q3⟩
 | exit i=>exact absurd q1 hg.ne
 | goto i=>exact absurd q1 hg.ne
structure xN (P:Program) (G:List (List DV)) (sp:Tb Spec) (ft:TypeId):Prop where
 pure:∀ f g us x,sp.get .body (pathOf f)=.pure g→g us=some x→∀ lv,cF lv→bP P G f us lv (.ret x lv)
 v7:∀ f,sp.get .body (pathOf f)=.caught→∀ v t fs cs lv lv' x,b7 v=some (t,fs,cs)→aG P t=true→cF lv→bP P G t (fs++cs) lv (.ret x lv')→bP P G f [v] lv (.ret (.c (.d (.int .i64 0))) lv')
 v8:∀ f,sp.get .body (pathOf f)=.caught→∀ v t fs cs lv lv' n,b7 v=some (t,fs,cs)→aG P t=true→cF lv→bP P G t (fs++cs) lv (.rG (.iface ft (.agg [.int .i64 n])) lv')→bP P G f [v] lv (.ret (.c (.d (.int .i64 n))) lv')
 F7:∀ f g,sp.get .body (pathOf f)=.self g→∀ lv k off T cs r,cF lv→g T off cs.length=true→lv k=.cells false false T cs→cs.drop off=.d .nilp::r→bP P G f [.c (.ptr k off)] lv (.ret (.tup []) (aC lv k (.cells false false T (aj cs off [.ptr k off]))))
 GX:∀ f g,sp.get .body (pathOf f)=.self g→∀ lv k off T cs r,cF lv→g T off cs.length=true→lv k=.cells false false T cs→cs.drop off=.ptr k off::r→bP P G f [.c (.ptr k off)] lv (.ret (.tup []) lv)
theorem Fi (hm:P.follows .mixedOrders=true){sp:Tb Spec}{ft:TypeId}(hsp:xN P G sp ft):∀ n,jX P G (P9 P G sp ft n)
 | 0=>fun f us lv nx lg kr kp r h hg ho=>absurd h hg.ne
 | n+1=>fun f us lv nx lg kr kp r h hg ho=>by
  have ih:=Fi hm hsp n;have h0:Spec.rec (motive:=fun _=>cK) (NX P G (P9 P G sp ft n) f us lv nx lg kr kp) (fun g=>lK (g us) (.bad 29 []) fun x=>dN x fun x=>kr x lv nx lg) (vM P ft (P9 P G sp ft n) us lv nx lg kr) (fun g=>GL g us lv nx lg kr) (sp.get .body (pathOf f))=r:=h
  cases es:sp.get .body (pathOf f) with
  | body=>rw [es] at h0;exact Mt hm ih f us lv nx lg kr kp r h0 hg ho
  | pure g=>
   rw [es] at h0;obtain⟨x,h1,h2⟩:=dx h0 hg.ne;rw [iS] at h2;exact .inl ⟨x,lv,nx,[],h2,hsp.pure f g us x es h1 _ ho,ho,jJ.refl _⟩
  | caught=>
   rw [es] at h0;have h1:vM P ft (P9 P G sp ft n) us lv nx lg kr=r:=h0;unfold vM at h1;split at h1
   ·rename_i v
    obtain⟨⟨t,fs,cs⟩,h2,h3⟩:=dx h1 hg.ne;obtain⟨h4,h5⟩:=cZ h3 hg.ne;rcases ih _ _ _ _ _ _ _ _ h5 hg ho with ⟨x,lv',nx',l,q1,q2,q3,q4⟩|⟨d,lv',nx',l,q1,q2,q3,q4⟩
    ·exact .inl ⟨_,lv',nx',l,q1,hsp.v7 f es v t fs cs _ _ x h2 h4 ho q2,q3,q4⟩
    ·split at q1
     ·rename_i t' m
      obtain⟨hb,q5⟩:=cZ q1 hg.ne;have:=W1 hb;subst this;exact .inl ⟨_,lv',nx',l,q5,hsp.v8 f es v t fs cs _ _ m h2 h4 ho q2,q3,q4⟩
     ·exact absurd q1 hg.ne
   ·exact absurd h1 hg.ne
  | self T0=>
   rw [es] at h0;have h1:GL T0 us lv nx lg kr=r:=h0;unfold GL at h1;split at h1
   ·rename_i k off
    split at h1
    ·rename_i own T cs hk
     have hown:own=false:=by have:=ho k;rw [hk] at this;simp only [LB.okB,cn,W8] at this;exact this.1
     subst hown;obtain⟨hb0,h6⟩:=cZ h1 hg.ne;clear h1;split at h6
     ·rename_i y hcs
      obtain⟨lv',l,e1,e2,e3,e4⟩:=xI h6 hg ho;refine .inl ⟨_,lv',nx,l,e1,?_,e3,e4⟩;have:=hsp.F7 f _ es (aY lv) k off T cs y ho hb0 hk hcs;have e5:aY lv'=aC (aY lv) k (.cells false false T (aj cs off [.ptr k off])):=by rw [e2];rfl
      rw [e5];exact this
     ·rename_i k' off' y hcs
      obtain⟨hb,h2⟩:=cZ h6 hg.ne;simp only [cn] at hb;have b1:=W1 hb.1;have b2:=W1 hb.2;subst b1;subst b2;exact .inl ⟨_,lv,nx,[],h2,hsp.GX f _ es (aY lv) _ _ T cs y ho hb0 hk hcs,ho,jJ.refl _⟩
     ·exact absurd h6 hg.ne
    ·exact absurd h1 hg.ne
   ·exact absurd h1 hg.ne
end
end Go.Am
