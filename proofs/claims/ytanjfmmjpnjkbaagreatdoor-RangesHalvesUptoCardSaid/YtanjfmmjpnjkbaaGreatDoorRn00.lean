/- Helpers: an abstract machine for Go functions, and walks of functions of the program. -/
import Derived.WalkKit
import Derived.Lib.Strings
import Derived.ChangeArms
import Derived.ReadAgain
import Derived.ChangeBears
import Derived.ChangeShapes
import Derived.ChangeOld
import Derived.OpenShut
import Derived.Handed
import Derived.RowKit
import Derived.ChangeFn
import Derived.LaidLaws

set_option linter.all false
set_option maxHeartbeats 8000000
set_option maxRecDepth 100000
namespace Go.Am
def loK:IntKind→Int
 | .i8=>-128|.i16=>-32768|.i32=>-2147483648|.i64=>-9223372036854775808|_=>0
def hiK:IntKind→Int
 | .i8=>127|.i16=>32767|.i32=>2147483647|.i64=>9223372036854775807
 | .u8=>255|.u16=>65535|.u32=>4294967295|.u64=>18446744073709551615
theorem wrap_eq (k:IntKind)(n:Int):k.wrap n=if k.signed=true∧n % 2 ^ k.bits ≥ 2 ^ (k.bits - 1) then n % 2 ^ k.bits - 2 ^ k.bits else n % 2 ^ k.bits:=by
 unfold IntKind.wrap
 simp
theorem wrap_rng (k:IntKind)(n:Int):loK k≤k.wrap n∧k.wrap n≤hiK k:=by
 rw [wrap_eq]
 cases k <;> simp only [IntKind.bits,IntKind.signed,loK,hiK,true_and,false_and,Bool.false_eq_true,if_false,Nat.reduceSub] <;> first|omega|(split <;> omega)
theorem wrap_in {k:IntKind}{n:Int}(h:loK k≤n∧n≤hiK k):k.wrap n=n:=by
 rw [wrap_eq]
 cases k <;> simp only [IntKind.bits,IntKind.signed,loK,hiK,true_and,false_and,Bool.false_eq_true,if_false,Nat.reduceSub] at h ⊢ <;> first|omega|(split <;> omega)
theorem wrap_iff {k:IntKind}{n:Int}:k.wrap n=n↔loK k≤n∧n≤hiK k:=
 ⟨fun h=>h ▸ wrap_rng k n,wrap_in⟩
theorem wrap_wrap (k:IntKind)(n:Int):k.wrap (k.wrap n)=k.wrap n:=wrap_in (wrap_rng k n)
theorem lo_le (k:IntKind):loK k≤0:=by cases k <;> decide
theorem le_hi (k:IntKind):0≤hiK k:=by cases k <;> decide
theorem wrap_tmod {k:IntKind}{m n:Int}(h:k.wrap m=m):k.wrap (m.tmod n)=m.tmod n:=by
 rw [wrap_iff] at h ⊢
 have h1:=lo_le k
 have h2:=le_hi k
 rcases Int.le_total 0 m with hm|hm
 ·have h3:=Int.tmod_nonneg n hm
  have h4:m.tmod n≤m:=by
   have e1:=Int.natAbs_tmod m n
   have e2:=Nat.mod_le m.natAbs n.natAbs
   omega
  omega
 ·have h3:m.tmod n≤0:=by
   have:=Int.tmod_nonneg n (a:=-m) (by omega)
   rw [Int.neg_tmod] at this
   omega
  have h4:m≤m.tmod n:=by
   have e1:=Int.natAbs_tmod m n
   have e2:=Nat.mod_le m.natAbs n.natAbs
   omega
  omega
theorem wrap_fdiv {k:IntKind}{m:Int}{j:Nat}(h:k.wrap m=m):k.wrap (m.fdiv (2 ^ j))=m.fdiv (2 ^ j):=by
 rw [wrap_iff] at h ⊢
 have h1:=lo_le k
 have h2:=le_hi k
 have hp:(0:Int)<2 ^ j:=Int.pow_pos (by decide)
 rw [Int.fdiv_eq_ediv_of_nonneg _ (by omega)]
 have h3:m / 2 ^ j*2 ^ j≤m:=Int.ediv_mul_le m (by omega)
 have h4:m<(m / 2 ^ j+1)*2 ^ j:=Int.lt_ediv_add_one_mul_self m hp
 have h5:(1:Int)≤2 ^ j:=by omega
 rcases Int.le_total 0 m with hm|hm
 ·have:0≤m / 2 ^ j:=Int.ediv_nonneg hm (by omega)
  have:m / 2 ^ j≤m:=Int.ediv_le_self _ hm
  omega
 ·have h6:m / 2 ^ j≤0:=Int.ediv_nonpos_of_nonpos_of_neg hm hp |> fun h=>h
  have h7:m≤m / 2 ^ j:=by
   by_cases hc:m≤m / 2 ^ j
   ·exact hc
   ·exfalso
    have h8:m / 2 ^ j+1≤m:=by omega
    have h9:(m / 2 ^ j+1)*2 ^ j≤(m / 2 ^ j+1)*1:=Int.mul_le_mul_of_nonpos_left (by omega) h5
    omega
  omega
inductive DV where
 | bool (b:Bool)
 | int (k:IntKind) (n:Int)
 | str (s:List UInt8)
 | nilp
 | ptr (cs:List DV)
 | nilsl
 | sl (es:List (List DV))
 | agg (cs:List DV)
 | nilIface
 | iface (t:TypeId) (v:DV)
 | nilFunc
 | func (fn:Fn) (first caps:List DV)
 | nilmap
 deriving Inhabited
abbrev Mem:=Addr→Value→Prop
inductive Rd (M:Mem):Value→DV→Prop where
 | bool (b:Bool):Rd M (.bool b) (.bool b)
 | int (k:IntKind) (n:Int) (hw:k.wrap n=n):Rd M (.int k n) (.int k n)
 | str (s:ByteArray) (hl:s.data.toList.length≤9223372036854775807):Rd M (.string s) (.str s.data.toList)
 | nilp:Rd M (.pointer none) .nilp
 | ptr (b off:Nat) (vs:Nat→Value) (cs:List DV) (hm:∀ i,i<cs.length→M ⟨b,off+i,none⟩ (vs i))
  (ho:∀ i,i<cs.length→(vs i).oneCell'=true) (hr:∀ i (h:i<cs.length),Rd M (vs i) cs[i]):Rd M (.pointer (some ⟨b,off,none⟩)) (.ptr cs)
 | nilsl:Rd M (.slice none 0 0) .nilsl
 | sl (b off cap sz:Nat) (es:List (List DV)) (vs:Nat→Nat→Value) (hl:∀ e∈es,e.length=sz) (hc:es.length≤cap) (hb:es.length≤9223372036854775807)
  (hm:∀ i,i<es.length→∀ j,j<sz→M ⟨b,off+i*sz+j,none⟩ (vs i j))
  (ho:∀ i,i<es.length→∀ j,j<sz→(vs i j).oneCell'=true)
  (hr:∀ i (hi:i<es.length) j (hj:j<es[i].length),Rd M (vs i j) es[i][j]):Rd M (.slice (some ⟨b,off,none⟩) es.length cap) (.sl es)
 | sl0 (a:Addr):Rd M (.slice (some a) 0 0) (.sl [])
 | agg (arr:Array Value) (cs:List DV) (hl:arr.size=cs.length) (ho:∀ i (h:i<arr.size),arr[i].oneCell'=true)
  (hr:∀ i (h:i<cs.length),Rd M (arr[i]'(by omega)) cs[i]):Rd M (.agg arr) (.agg cs)
 | nilIface:Rd M .nilIface .nilIface
 | iface (t:TypeId) (v:Value) (d:DV) (h:Rd M v d):Rd M (.iface t v) (.iface t d)
 | nilFunc:Rd M .nilFunc .nilFunc
 | func (fn:Fn) (fs cs:Array Value) (fd cd:List DV) (hf:fs.size=fd.length) (hc:cs.size=cd.length)
  (hrf:∀ i (h:i<fd.length),Rd M (fs[i]'(by omega)) fd[i]) (hrc:∀ i (h:i<cd.length),Rd M (cs[i]'(by omega)) cd[i]) :
  Rd M (.func fn fs cs) (.func fn fd cd)
 | nilmap:Rd M (.map none) .nilmap
theorem Rd.mono {M M':Mem}(hM:∀ a v,M a v→M' a v) {v:Value}{d:DV}(h:Rd M v d):Rd M' v d:=by
 induction h with
 | bool b=>exact .bool b
 | int k n hw=>exact .int k n hw
 | str s hl=>exact .str s hl
 | nilp=>exact .nilp
 | ptr b off vs cs hm ho _ ih=>exact .ptr b off vs cs (fun i h=>hM _ _ (hm i h)) ho ih
 | nilsl=>exact .nilsl
 | sl b off cap sz es vs hl hc hb hm ho _ ih=>exact .sl b off cap sz es vs hl hc hb (fun i h j hj=>hM _ _ (hm i h j hj)) ho ih
 | sl0 a=>exact .sl0 a
 | agg arr cs hl ho _ ih=>exact .agg arr cs hl ho ih
 | nilIface=>exact .nilIface
 | iface t v d _ ih=>exact .iface t v d ih
 | nilFunc=>exact .nilFunc
 | func fn fs cs fd cd hf hc _ _ ih1 ih2=>exact .func fn fs cs fd cd hf hc ih1 ih2
 | nilmap=>exact .nilmap
def DV.one:DV→Bool
 | .agg _=>false
 | _=>true
theorem Rd.oneCell {M:Mem}{v:Value}{d:DV}(h:Rd M v d):v.oneCell'=d.one:=by
 cases h <;> rfl
def memF (w:World)(F:Nat→Prop):Mem:=fun a v=>F a.block∧w.cell? a=some v
abbrev Key:=Nat
inductive RefC where
 | d (x:DV)
 | ptr (k:Key) (off:Nat)
 | lsl (k:Key) (off len sz:Nat)
 deriving Inhabited
inductive Ref where
 | d (x:DV)
 | ptr (k:Key) (off:Nat)
 | lsl (k:Key) (off len sz:Nat)
 | agg (cs:List RefC)
 | ifc (t:TypeId) (x:Ref)
 deriving Inhabited
inductive CV where
 | d (x:DV)
 | ptr (k:Key) (off:Nat)
 | lsl (k:Key) (off len sz:Nat)
 | mapr (k:Key)
 | func (fn:Fn) (first caps:List Ref)
 | ifc (t:TypeId) (x:Ref)
 | junk
 | lsf (k:Key) (off len sz:Nat)
 deriving Inhabited
inductive AV where
 | c (x:CV)
 | agg (cs:List CV)
 | tup (l:List AV)
 | undef
 | junk
 deriving Inhabited
inductive LB where
 | hole
 | dead
 | nils
 | cells (own fz:Bool) (T:TypeId) (cs:List CV)
 | map (own:Bool) (es:List (DV × AV))
 deriving Inhabited
structure LSt where
 fr:Nat→AV
 lv:Key→LB
def asize (w:World)(b:Nat):Nat:=
 match w.heap[b]? with
 | some (.cells arr _ _)=>arr.size
 | _=>0
structure Vw where
 F:Nat→Prop
 β:Key→Nat
 lv:Key→LB
 w:World
def Vw.mem (V:Vw):Mem:=memF V.w V.F
def Vw.atPtr (V:Vw)(v:Value)(k:Key)(off:Nat):Prop:=
 match V.lv k with
 | .hole|.nils|.map ..=>False
 | .dead=>True
 | .cells ..=>v=.pointer (some ⟨V.β k,off,none⟩)
def Vw.atLsl (V:Vw)(v:Value)(k:Key)(off len sz:Nat):Prop:=
 match V.lv k with
 | .hole|.map ..=>False
 | .dead=>True
 | .nils=>v=.slice none 0 0∧off=0∧len=0
 | .cells ..=>∃ cap,v=.slice (some ⟨V.β k,off,none⟩) len cap∧len≤cap∧off+cap*sz≤asize V.w (V.β k)
def Vw.atMap (V:Vw)(v:Value)(k:Key):Prop:=
 match V.lv k with
 | .map ..=>v=.map (some (V.β k))
 | .dead=>True
 | _=>False
def Vw.refC (V:Vw)(v:Value):RefC→Prop
 | .d x=>Rd V.mem v x∧v.oneCell'=true
 | .ptr k off=>V.atPtr v k off∧v.oneCell'=true
 | .lsl k off len sz=>V.atLsl v k off len sz∧v.oneCell'=true
def Vw.ref (V:Vw)(v:Value):Ref→Prop
 | .d x=>Rd V.mem v x
 | .ptr k off=>V.atPtr v k off∧v.oneCell'=true
 | .lsl k off len sz=>V.atLsl v k off len sz∧v.oneCell'=true
 | .agg cs=>∃ arr:Array Value,v=.agg arr∧arr.size=cs.length∧∀ i (h:i<cs.length) (h':i<arr.size),V.refC arr[i] cs[i]
 | .ifc t x=>∃ v',v=.iface t v'∧V.ref v' x
def Vw.cv (V:Vw)(v:Value):CV→Prop
 | .d x=>Rd V.mem v x∧v.oneCell'=true
 | .ptr k off=>V.atPtr v k off∧v.oneCell'=true
 | .lsl k off len sz=>V.atLsl v k off len sz∧v.oneCell'=true
 | .mapr k=>V.atMap v k∧v.oneCell'=true
 | .func fn first caps=>∃ fs cs:Array Value,v=.func fn fs cs∧fs.size=first.length∧cs.size=caps.length ∧
  (∀ i (h:i<first.length) (h':i<fs.size),V.ref fs[i] first[i])∧(∀ i (h:i<caps.length) (h':i<cs.size),V.ref cs[i] caps[i])
 | .ifc t x=>∃ v',v=.iface t v'∧V.ref v' x
 | .junk=>v.oneCell'=true
 | .lsf k off len sz=>(V.atLsl v k off len sz∧v.oneCell'=true)∧∀ a n cap,v=.slice a n cap→cap=n
def Vw.av0 (V:Vw)(v:Value):AV→Prop
 | .c x=>V.cv v x
 | .agg cs=>∃ arr:Array Value,v=.agg arr∧arr.size=cs.length∧∀ i (h:i<cs.length) (h':i<arr.size),V.cv arr[i] cs[i]
 | .tup _=>False
 | .undef=>v=Go.undef
 | .junk=>True
def Vw.av (V:Vw)(v:Value):AV→Prop
 | .tup l=>∃ arr:Array Value,v=.tuple arr∧arr.size=l.length∧∀ i (h:i<l.length) (h':i<arr.size),V.av0 arr[i] l[i]
 | x=>V.av0 v x
theorem Vw.cv_oneCell {V:Vw}{v:Value}{x:CV}(h:V.cv v x):v.oneCell'=true:=by
 cases x with
 | d x=>exact h.2
 | ptr k off=>exact h.2
 | lsl k off len sz=>exact h.2
 | mapr k=>exact h.2
 | func fn f c=>obtain⟨_,_,rfl,_⟩:=h;rfl
 | ifc t x=>obtain⟨_,rfl,_⟩:=h;rfl
 | junk=>exact h
 | lsf k off len sz=>exact h.1.2
structure Vw.Le (V V':Vw):Prop where
 F:∀ b,V.F b→V'.F b
 mem:∀ b,V.F b→V'.w.heap[b]?=V.w.heap[b]?
theorem memF_le {w w':World}{F F':Nat→Prop}(hF:∀ b,F b→F' b) (hm:∀ b,F b→w'.heap[b]?=w.heap[b]?) :
 ∀ a v,memF w F a v→memF w' F' a v:=by
 rintro a v ⟨h1,h2⟩
 refine⟨hF _ h1,?_⟩
 unfold World.cell? at *
 grind
structure Vw.KeyLe (V V':Vw):Prop where
 F:∀ b,V.F b→V'.F b
 mem:∀ b,V.F b→V'.w.heap[b]?=V.w.heap[b]?
 ptr:∀ v k off,V.atPtr v k off→V'.atPtr v k off
 lsl:∀ v k off len sz,V.atLsl v k off len sz→V'.atLsl v k off len sz
 map:∀ v k,V.atMap v k→V'.atMap v k
theorem Vw.KeyLe.refC {V V':Vw}(h:V.KeyLe V') {v:Value}{x:RefC}(hx:V.refC v x):V'.refC v x:=by
 cases x with
 | d x=>exact⟨Rd.mono (memF_le h.F h.mem) hx.1,hx.2⟩
 | ptr k off=>exact⟨h.ptr _ _ _ hx.1,hx.2⟩
 | lsl k off len sz=>exact⟨h.lsl _ _ _ _ _ hx.1,hx.2⟩
theorem Vw.KeyLe.ref {V V':Vw}(h:V.KeyLe V') {v:Value}{x:Ref}(hx:V.ref v x):V'.ref v x:=by
 induction x generalizing v with
 | d x=>exact Rd.mono (memF_le h.F h.mem) hx
 | ptr k off=>exact⟨h.ptr _ _ _ hx.1,hx.2⟩
 | lsl k off len sz=>exact⟨h.lsl _ _ _ _ _ hx.1,hx.2⟩
 | agg cs=>
  obtain⟨arr,rfl,h1,h2⟩:=hx
  exact⟨arr,rfl,h1,fun i a b=>h.refC (h2 i a b)⟩
 | ifc t x ih=>obtain⟨v',rfl,h1⟩:=hx;exact⟨v',rfl,ih h1⟩
theorem Vw.KeyLe.cv {V V':Vw}(h:V.KeyLe V') {v:Value}{x:CV}(hx:V.cv v x):V'.cv v x:=by
 cases x with
 | d x=>exact⟨Rd.mono (memF_le h.F h.mem) hx.1,hx.2⟩
 | ptr k off=>exact⟨h.ptr _ _ _ hx.1,hx.2⟩
 | lsl k off len sz=>exact⟨h.lsl _ _ _ _ _ hx.1,hx.2⟩
 | mapr k=>exact⟨h.map _ _ hx.1,hx.2⟩
 | func fn f c=>
  obtain⟨fs,cs,rfl,h1,h2,h3,h4⟩:=hx
  exact⟨fs,cs,rfl,h1,h2,fun i a b=>h.ref (h3 i a b),fun i a b=>h.ref (h4 i a b)⟩
 | ifc t x=>
  obtain⟨v',rfl,h1⟩:=hx
  exact⟨v',rfl,h.ref h1⟩
 | junk=>exact hx
 | lsf k off len sz=>exact⟨⟨h.lsl _ _ _ _ _ hx.1.1,hx.1.2⟩,hx.2⟩
theorem Vw.KeyLe.av0 {V V':Vw}(h:V.KeyLe V') {v:Value}{x:AV}(hx:V.av0 v x):V'.av0 v x:=by
 cases x with
 | c x=>exact h.cv (x:=x) hx
 | agg cs=>obtain⟨arr,rfl,h1,h2⟩:=hx;exact⟨arr,rfl,h1,fun i a b=>h.cv (h2 i a b)⟩
 | tup l=>exact hx
 | undef=>exact hx
 | junk=>trivial
theorem Vw.KeyLe.av {V V':Vw}(h:V.KeyLe V') {v:Value}{x:AV}(hx:V.av v x):V'.av v x:=by
 cases x with
 | c x=>exact h.av0 (x:=.c x) hx
 | agg cs=>exact h.av0 (x:=.agg cs) hx
 | tup l=>obtain⟨arr,rfl,h1,h2⟩:=hx;exact⟨arr,rfl,h1,fun i a b=>h.av0 (h2 i a b)⟩
 | undef=>exact hx
 | junk=>trivial
def LB.sub:LB→LB→Prop
 | .hole,_=>True
 | _,.dead=>True
 | .nils,.nils=>True
 | .cells ..,.cells ..=>True
 | .map ..,.map ..=>True
 | _,_=>False
theorem Vw.keyLe_of {V V':Vw}(hF:∀ b,V.F b→V'.F b) (hm:∀ b,V.F b→V'.w.heap[b]?=V.w.heap[b]?)
 (hk:∀ k,(V.lv k).sub (V'.lv k)) (hβ:∀ k,V.lv k≠.hole→V'.lv k≠.dead→V'.β k=V.β k)
 (ha:∀ b,asize V.w b≤asize V'.w b):V.KeyLe V':=by
 refine⟨hF,hm,?_,?_,?_⟩
 ·intro v k off h
  have h1:=hk k;have h2:=hβ k
  unfold Vw.atPtr at *
  cases e:V.lv k <;> cases e':V'.lv k <;> simp [e,e',LB.sub] at h h1 h2 ⊢ <;> (try rw [h2]) <;> assumption
 ·intro v k off len sz h
  have h1:=hk k;have h2:=hβ k
  unfold Vw.atLsl at *
  cases e:V.lv k <;> cases e':V'.lv k <;> simp [e,e',LB.sub] at h h1 h2 ⊢ <;> (try rw [h2]) <;> (try assumption)
  grind
 ·intro v k h
  have h1:=hk k;have h2:=hβ k
  unfold Vw.atMap at *
  cases e:V.lv k <;> cases e':V'.lv k <;> simp [e,e',LB.sub] at h h1 h2 ⊢ <;> (try rw [h2]) <;> assumption
structure Ctx where
 P:Program
 G:List (List DV)
 w0:World
 F0:Nat→Prop
 W0:Nat→Prop
 n:Nat
 lv0:Key→LB
 β0:Key→Nat
 ds:List Deferred:=[]
def ownAt (c:Ctx)(own:Bool)(b:Nat):Prop:=if own then c.w0.heap.size≤b else c.w0.heap.size≤b∨c.W0 b
def Vw.blk (V:Vw)(c:Ctx)(k:Key):Prop:=
 match V.lv k with
 | .cells own fz T cs=>∃ arr:Array Value,V.w.heap[V.β k]?=some (.cells arr T (0,0))∧cs.length≤arr.size ∧
  (∀ i (h:i<cs.length) (h':i<arr.size),V.cv arr[i] cs[i])∧(if fz then V.F (V.β k) else ¬ V.F (V.β k))∧ownAt c own (V.β k)
 | .map own es=>∃ ents clock,V.w.heap[V.β k]?=some (.map ents clock)∧ents.size=es.length ∧
  (∀ i (h:i<es.length) (h':i<ents.size),Rd V.mem ents[i].key es[i].1∧V.av0 ents[i].val es[i].2)∧¬ V.F (V.β k)∧ownAt c own (V.β k)
 | _=>True
def LB.live:LB→Bool
 | .cells _ false _ _=>true
 | .map ..=>true
 | _=>false
structure StOK (c:Ctx) (F:Nat→Prop) (β:Key→Nat) (s:LSt) (a:Act) (w:World):Prop where
 blk:∀ k,(Vw.mk F β s.lv w).blk c k
 inj:∀ k k',(s.lv k).live=true→(s.lv k').live=true→β k=β k'→k=k'
 fr:∀ t,(Vw.mk F β s.lv w).av (a.tmps.getD t undef) (s.fr t)
 size:a.tmps.size=c.n
 defers:a.defers=c.ds
 Flt:∀ b,F b→b<w.heap.size∧(c.F0 b∨c.w0.heap.size≤b)
 F0:∀ b,c.F0 b→F b
 old:∀ b,b<c.w0.heap.size→¬ c.W0 b→w.heap[b]?=c.w0.heap[b]?
 ge:c.w0.heap.size≤w.heap.size
 glob:∀ g cs,c.G[g]?=some cs→Rd (memF w F) (.pointer (some ⟨g,0,none⟩)) (.ptr cs)
 keep:∀ k,c.lv0 k≠.hole→s.lv k=.dead∨(β k=c.β0 k∧(c.lv0 k).sub (s.lv k))
 asz:∀ b,asize c.w0 b≤asize w b
 oso:w.os=c.w0.os∧w.output=c.w0.output
theorem LB.sub_trans {x y z:LB}(h1:x.sub y) (h2:y.sub z) (hy:x≠.hole):x.sub z:=by
 cases x <;> cases y <;> cases z <;> simp [LB.sub] at h1 h2 hy ⊢
theorem LB.sub_hole {x:LB}(h:x.sub .hole):x=.hole:=by
 cases x <;> simp [LB.sub] at h ⊢
theorem LB.sub_dead {x:LB}(h:LB.dead.sub x):x=.dead:=by
 cases x <;> simp [LB.sub] at h ⊢
theorem Vw.blk_keep {V V':Vw}{c:Ctx}{k:Key}(h:V.blk c k) (hK:V.KeyLe V') (hl:V'.lv k=V.lv k) (hβ:V'.β k=V.β k)
 (hm:V'.w.heap[V.β k]?=V.w.heap[V.β k]?) (hF:(V.lv k).live=true→(V'.F (V.β k)→V.F (V.β k))):V'.blk c k:=by
 unfold Vw.blk at *
 rw [hl]
 cases e:V.lv k with
 | cells own fz T cs=>
  rw [e] at h hF
  obtain⟨arr,h1,h2,h3,h4,h5⟩:=h
  refine⟨arr,by grind,h2,fun i a b=>hK.cv (h3 i a b),?_,by grind⟩
  rw [hβ]
  cases fz with
  | true=>exact hK.F _ h4
  | false=>exact fun hf=>h4 (hF rfl hf)
 | map own es=>
  rw [e] at h hF
  obtain⟨ents,clock,h1,h2,h3,h4,h5⟩:=h
  refine⟨ents,clock,by grind,h2,fun i a b=>⟨Rd.mono (memF_le hK.F hK.mem) (h3 i a b).1,hK.av0 (h3 i a b).2⟩,?_,by grind⟩
  rw [hβ];exact fun hf=>h4 (hF rfl hf)
 | hole=>trivial
 | dead=>trivial
 | nils=>trivial
theorem StOK.step {c:Ctx}{F F':Nat→Prop}{β β':Key→Nat}{s:LSt}{lv':Key→LB}{a:Act}{w w':World}(h:StOK c F β s a w)
 (hF:∀ b,F b→F' b) (hm:∀ b,F b→w'.heap[b]?=w.heap[b]?)
 (hk:∀ k,(s.lv k).sub (lv' k)) (hβ:∀ k,s.lv k≠.hole→lv' k≠.dead→β' k=β k) (ha:∀ b,asize w b≤asize w' b)
 (hblk:∀ k,(Vw.mk F β s.lv w).KeyLe (Vw.mk F' β' lv' w')→(Vw.mk F' β' lv' w').blk c k)
 (hinj:∀ k k',(lv' k).live=true→(lv' k').live=true→β' k=β' k'→k=k')
 (hFlt:∀ b,F' b→F b∨(b<w'.heap.size∧c.w0.heap.size≤b)) (hsz:w.heap.size≤w'.heap.size)
 (hold:∀ b,b<c.w0.heap.size→¬ c.W0 b→w'.heap[b]?=w.heap[b]?)
 (hoo:w'.os=w.os∧w'.output=w.output:=by exact⟨rfl,rfl⟩):StOK c F' β' ⟨s.fr,lv'⟩ a w':=by
 have hK:(Vw.mk F β s.lv w).KeyLe (Vw.mk F' β' lv' w'):=Vw.keyLe_of hF hm hk hβ ha
 refine⟨fun k=>hblk k hK,hinj,fun t=>hK.av (h.fr t),h.size,h.defers,?_,fun b hb=>hF b (h.F0 b hb),?_,Nat.le_trans h.ge hsz,?_,?_,fun b=>Nat.le_trans (h.asz b) (ha b),⟨hoo.1.trans h.oso.1,hoo.2.trans h.oso.2⟩⟩
 ·intro b hb
  rcases hFlt b hb with h1|⟨h1,h2⟩
  ·exact⟨Nat.lt_of_lt_of_le (h.Flt b h1).1 hsz,(h.Flt b h1).2⟩
  omega
 ·intro b h1 h2;rw [hold b h1 h2];exact h.old b h1 h2
 ·intro g cs hg;exact Rd.mono (memF_le hF hm) (h.glob g cs hg)
 ·intro k h0
  rcases h.keep k h0 with h1|⟨h1,h2⟩
  ·left;have:=hk k;rw [h1] at this;exact LB.sub_dead this
  ·by_cases hd:lv' k=.dead
   ·grind
   ·right
    have hnh:s.lv k≠.hole:=fun e=>h0 (LB.sub_hole (e ▸ h2))
    exact⟨(hβ k hnh hd).trans h1,LB.sub_trans h2 (hk k) h0⟩
def upd {α:Type}(f:Nat→α) (k:Nat) (x:α):Nat→α:=fun t=>if t=k then x else f t
theorem upd_same {α:Type}(f:Nat→α) (k:Nat) (x:α):upd f k x k=x:=by simp [upd]
theorem upd_ne {α:Type}(f:Nat→α) {k t:Nat}(x:α) (h:t≠k):upd f k x t=f t:=by simp [upd,h]
theorem getD_put (a:Act)(d t:Nat)(v:Value)(h:d<a.tmps.size) :
 (a.put (some d) v).tmps.getD t undef=if t=d then v else a.tmps.getD t undef:=by
 simp only [Act.put,Array.getD_eq_getD_getElem?,Array.getElem?_setIfInBounds]
 grind
theorem StOK.put {c:Ctx}{F:Nat→Prop}{β:Key→Nat}{s:LSt}{a:Act}{w:World}(h:StOK c F β s a w) {d:Nat}(hd:d<c.n) {v:Value}{x:AV}
 (hv:(Vw.mk F β s.lv w).av v x):StOK c F β ⟨upd s.fr d x,s.lv⟩ (a.put (some d) v) w:=by
 refine⟨h.blk,h.inj,?_,by simp [Act.put,h.size],h.defers,h.Flt,h.F0,h.old,h.ge,h.glob,h.keep,h.asz,h.oso⟩
 intro t
 rw [getD_put _ _ _ _ (by rw [h.size];exact hd)]
 by_cases e:t=d
 ·subst e;simp only [if_true];show (Vw.mk F β s.lv w).av v (upd s.fr t x t);rw [upd_same];exact hv
 ·simp only [if_neg e];show (Vw.mk F β s.lv w).av _ (upd s.fr d x t);rw [upd_ne _ _ e];exact h.fr t
def LSt.put (s:LSt)(dst:Option Nat)(x:AV):LSt:=
 match dst with
 | some d=>⟨upd s.fr d x,s.lv⟩
 | none=>s
theorem StOK.putD {c:Ctx}{F:Nat→Prop}{β:Key→Nat}{s:LSt}{a:Act}{w:World}(h:StOK c F β s a w) {dst:Option Nat}(hd:∀ d,dst=some d→d<c.n) {v:Value}{x:AV}
 (hv:(Vw.mk F β s.lv w).av v x):StOK c F β (s.put dst x) (a.put dst v) w:=by
 cases dst with
 | none=>exact h
 | some d=>exact h.put (hd d rfl) hv
theorem StOK.heap {c:Ctx}{F:Nat→Prop}{β:Key→Nat}{s:LSt}{a:Act}{w w':World}(h:StOK c F β s a w) (hw:w'.heap=w.heap) (hoo:w'.os=w.os∧w'.output=w.output:=by exact⟨rfl,rfl⟩):StOK c F β s a w':=by
 have:∀ b,asize w b≤asize w' b:=fun b=>by simp [asize,hw]
 have hk:∀ k,(s.lv k).sub (s.lv k):=fun k=>by cases e:s.lv k <;> simp [LB.sub]
 refine h.step (F':=F) (β':=β) (lv':=s.lv) (fun _ h=>h) (fun b _=>by rw [hw]) hk (fun _ _ _=>rfl) this
  (fun k hK=>Vw.blk_keep (h.blk k) hK rfl rfl (by simp [hw]) (fun _ h=>h)) h.inj (fun b h=>.inl h) (by grind) (fun b _ _=>by rw [hw]) hoo
theorem LB.sub_refl (x:LB):x.sub x:=by cases x <;> simp [LB.sub]
theorem heap_alloc (w:World)(o:Obj)(b:Nat):(w.alloc o).heap[b]?=if b=w.heap.size then some o else w.heap[b]?:=by
 simp only [World.alloc,Array.getElem?_push]
theorem asize_alloc_le (w:World)(o:Obj)(b:Nat):asize w b≤asize (w.alloc o) b:=by
 unfold asize
 rw [heap_alloc]
 grind
theorem lt_of_heap {w:World}{b:Nat}{o:Obj}(h:w.heap[b]?=some o):b<w.heap.size:=
 (Array.getElem?_eq_some_iff.1 h).1
section
variable {c:Ctx}{F:Nat→Prop}{β:Key→Nat}{s:LSt}{a:Act}{w:World}
theorem StOK.live_lt (h:StOK c F β s a w){k:Key}(hl:(s.lv k).live=true):β k<w.heap.size:=by
 have hb:=h.blk k
 unfold Vw.blk at hb
 cases e:s.lv k with
 | cells own fz T cs=>grind
 | map own es=>grind
 | hole=>simp [e,LB.live] at hl
 | dead=>simp [e,LB.live] at hl
 | nils=>simp [e,LB.live] at hl
theorem StOK.live_nF (h:StOK c F β s a w){k:Key}(hl:(s.lv k).live=true):¬ F (β k):=by
 have hb:=h.blk k
 unfold Vw.blk at hb
 cases e:s.lv k with
 | cells own fz T cs=>
  simp only [e] at hb hl;obtain⟨arr,h1,h2,h3,h4,h5⟩:=hb
  cases fz with
  | true=>simp [LB.live] at hl
  | false=>exact h4
 | map own es=>grind
 | hole=>simp [e,LB.live] at hl
 | dead=>simp [e,LB.live] at hl
 | nils=>simp [e,LB.live] at hl
theorem StOK.live_own (h:StOK c F β s a w){k:Key}(hl:(s.lv k).live=true):c.w0.heap.size≤β k∨c.W0 (β k):=by
 have hb:=h.blk k
 unfold Vw.blk at hb
 have key:∀ own,ownAt c own (β k)→c.w0.heap.size≤β k∨c.W0 (β k):=by
  intro own ho;unfold ownAt at ho;cases own <;> simp at ho
  ·exact ho
  ·omega
 cases e:s.lv k with
 | cells own fz T cs=>grind
 | map own es=>grind
 | hole=>simp [e,LB.live] at hl
 | dead=>simp [e,LB.live] at hl
 | nils=>simp [e,LB.live] at hl
theorem StOK.alloc (h:StOK c F β s a w){κ:Key}(hκ:s.lv κ=.hole) {arr:Array Value}(T:TypeId) {cs:List CV}(hl:cs.length≤arr.size)
 (hc:∀ i (h:i<cs.length) (h':i<arr.size),(Vw.mk F β s.lv w).cv arr[i] cs[i]) :
 StOK c F (upd β κ w.heap.size) ⟨s.fr,upd s.lv κ (.cells true false T cs)⟩ a (w.alloc (.cells arr T)):=by
 have hnew:∀ b,F b→b≠w.heap.size:=fun b hb e=>by have:=(h.Flt b hb).1;omega
 refine h.step (fun _ h=>h) (fun b hb=>by rw [heap_alloc,if_neg (hnew b hb)]) ?_ ?_ (asize_alloc_le w _) ?_ ?_ (fun b h=>.inl h) (by simp) ?_
 ·intro k
  by_cases e:k=κ
  ·subst e;rw [hκ];simp [LB.sub]
  ·rw [upd_ne _ _ e];exact LB.sub_refl _
 ·intro k hk _
  have e:k≠κ:=fun e=>hk (e ▸ hκ)
  exact upd_ne _ _ e
 ·intro k hK
  by_cases e:k=κ
  ·subst e
   simp only [Vw.blk,upd_same]
   refine⟨arr,by rw [heap_alloc,if_pos rfl],hl,fun i x y=>hK.cv (hc i x y),?_,h.ge⟩
   grind
  ·have hb:=h.blk k
   by_cases hcl:∃ own fz T' cs',s.lv k=.cells own fz T' cs'
   ·obtain⟨own,fz,T',cs',ek⟩:=hcl
    refine Vw.blk_keep hb hK (upd_ne _ _ e) (upd_ne _ _ e) ?_ (fun _ h=>h)
    unfold Vw.blk at hb;simp only [ek] at hb
    obtain⟨arr',h1,_⟩:=hb
    have:=lt_of_heap h1
    show (w.alloc _).heap[β k]?=_
    rw [heap_alloc,if_neg (by omega)]
   ·by_cases hml:∃ own es,s.lv k=.map own es
    ·obtain⟨own,es,ek⟩:=hml
     refine Vw.blk_keep hb hK (upd_ne _ _ e) (upd_ne _ _ e) ?_ (fun _ h=>h)
     unfold Vw.blk at hb;simp only [ek] at hb
     obtain⟨x,y,h1,_⟩:=hb
     have:=lt_of_heap h1
     show (w.alloc _).heap[β k]?=_
     rw [heap_alloc,if_neg (by omega)]
    ·unfold Vw.blk
     simp only [upd_ne _ _ e]
     grind
 ·intro k k' hk hk' he
  by_cases e:k=κ <;> by_cases e':k'=κ
  ·rw [e,e']
  ·subst e
   rw [upd_ne _ _ e'] at hk'
   rw [upd_same,upd_ne _ _ e'] at he
   have:=h.live_lt hk'
   omega
  ·subst e'
   rw [upd_ne _ _ e] at hk
   rw [upd_same,upd_ne _ _ e] at he
   have:=h.live_lt hk
   omega
  ·rw [upd_ne _ _ e] at hk he
   rw [upd_ne _ _ e'] at hk' he
   exact h.inj k k' hk hk' he
 ·intro b hb _
  have:=h.ge
  rw [heap_alloc,if_neg (by omega)]
theorem asize_setRow (w:World)(g:Nat)(old arr:Array Value)(T:TypeId)(fr:Nat × Nat)(hg:w.heap[g]?=some (.cells old T fr))(hs:arr.size=old.size)(b:Nat) :
 asize (w.setRow g arr) b=asize w b:=by
 unfold asize
 by_cases e:b=g
 ·subst e;rw [setRow_heap w b old arr T fr hg,hg];exact hs
 ·rw [setRow_other w g b arr e]
theorem StOK.setRow (h:StOK c F β s a w){k:Key}{own:Bool}{T:TypeId}{cs:List CV}(hk:s.lv k=.cells own false T cs) {old arr:Array Value}{cs':List CV}
 (hg:w.heap[β k]?=some (.cells old T (0,0))) (hs:arr.size=old.size) (hl:cs'.length≤arr.size)
 (hc:∀ i (h:i<cs'.length) (h':i<arr.size),(Vw.mk F β s.lv w).cv arr[i] cs'[i]) :
 StOK c F β ⟨s.fr,upd s.lv k (.cells own false T cs')⟩ a (w.setRow (β k) arr):=by
 have hlive:(s.lv k).live=true:=by rw [hk];rfl
 have hnF:=h.live_nF hlive
 have hsub:∀ k',(s.lv k').sub (upd s.lv k (.cells own false T cs') k'):=by
  intro k'
  by_cases e:k'=k
  ·subst e;rw [hk,upd_same];simp [LB.sub]
  ·rw [upd_ne _ _ e];exact LB.sub_refl _
 refine h.step (fun _ h=>h) (fun b hb=>setRow_other _ _ _ _ (fun e=>hnF (e ▸ hb))) hsub (fun _ _ _=>rfl)
  (fun b=>by rw [asize_setRow w (β k) old arr T (0,0) hg hs b];simp) ?_ ?_ (fun b h=>.inl h) (by simp) ?_
 ·intro k' hK
  by_cases e:k'=k
  ·subst e
   have hb:=h.blk k'
   unfold Vw.blk at hb ⊢;simp only [hk] at hb;simp only [upd_same]
   obtain⟨arr',h1,h2,h3,h4,h5⟩:=hb
   exact⟨arr,setRow_heap w _ old arr T (0,0) hg,hl,fun i x y=>hK.cv (hc i x y),h4,h5⟩
  ·have hne:(s.lv k').live=true→β k'≠β k:=fun hl' he=>e (h.inj _ _ hl' hlive he)
   have hb:=h.blk k'
   by_cases hlk:(s.lv k').live=true
   ·exact Vw.blk_keep hb hK (upd_ne _ _ e) rfl (setRow_other _ _ _ _ (hne hlk)) (fun _ h=>h)
   ·cases ek:s.lv k' with
    | cells own' fz T' cs''=>
     cases fz with
     | false=>rw [ek] at hlk;exact absurd rfl hlk
     | true=>
      refine Vw.blk_keep hb hK (upd_ne _ _ e) rfl (setRow_other _ _ _ _ ?_) (fun _ h=>h)
      unfold Vw.blk at hb;grind
    | map own es=>rw [ek] at hlk;exact absurd rfl hlk
    | hole=>unfold Vw.blk;simp only [upd_ne _ _ e,ek]
    | dead=>unfold Vw.blk;simp only [upd_ne _ _ e,ek]
    | nils=>unfold Vw.blk;simp only [upd_ne _ _ e,ek]
 ·intro k1 k2 h1 h2 he
  have g:∀ k',(upd s.lv k (.cells own false T cs') k').live=true→(s.lv k').live=true:=by
   intro k' hk'
   by_cases e:k'=k
   ·grind
   ·rwa [upd_ne _ _ e] at hk'
  exact h.inj k1 k2 (g _ h1) (g _ h2) he
 ·intro b hb hW
  refine setRow_other _ _ _ _ (fun e=>?_)
  rcases h.live_own hlive with h1|h1
  ·omega
  grind
theorem StOK.kill (h:StOK c F β s a w)(k:Key):StOK c F β ⟨s.fr,upd s.lv k .dead⟩ a w:=by
 refine h.step (fun _ h=>h) (fun _ _=>rfl) ?_ (fun _ _ _=>rfl) (fun _=>Nat.le_refl _) ?_ ?_ (fun b h=>.inl h) (Nat.le_refl _) (fun _ _ _=>rfl)
 ·intro k'
  by_cases e:k'=k
  ·subst e;rw [upd_same];cases s.lv k' <;> simp [LB.sub]
  ·rw [upd_ne _ _ e];exact LB.sub_refl _
 ·intro k' hK
  by_cases e:k'=k
  ·subst e;unfold Vw.blk;simp only [upd_same]
  ·exact Vw.blk_keep (h.blk k') hK (upd_ne _ _ e) rfl rfl (fun _ h=>h)
 ·intro k1 k2 h1 h2 he
  have g:∀ k',(upd s.lv k .dead k').live=true→(s.lv k').live=true:=by
   intro k' hk'
   by_cases e:k'=k
   ·subst e;rw [upd_same] at hk';simp [LB.live] at hk'
   ·rwa [upd_ne _ _ e] at hk'
  exact h.inj k1 k2 (g _ h1) (g _ h2) he
theorem StOK.move (h:StOK c F β s a w){k κ:Key}{own:Bool}{T:TypeId}{cs:List CV}(hk:s.lv k=.cells own false T cs) (hκ:s.lv κ=.hole) {cs':List CV}{arr:Array Value}
 (hg:w.heap[β k]?=some (.cells arr T (0,0))) (hl:cs'.length≤arr.size)
 (hc:∀ i (h:i<cs'.length) (h':i<arr.size),(Vw.mk F β s.lv w).cv arr[i] cs'[i]) :
 StOK c F (upd β κ (β k)) ⟨s.fr,upd (upd s.lv k .dead) κ (.cells own false T cs')⟩ a w:=by
 have hlive:(s.lv k).live=true:=by rw [hk];rfl
 have hkκ:k≠κ:=fun e=>by grind
 refine h.step (fun _ h=>h) (fun _ _=>rfl) ?_ ?_ (fun _=>Nat.le_refl _) ?_ ?_ (fun b h=>.inl h) (Nat.le_refl _) (fun _ _ _=>rfl)
 ·intro k'
  by_cases e:k'=κ
  ·subst e;rw [hκ];simp [LB.sub]
  ·rw [upd_ne _ _ e]
   by_cases e':k'=k
   ·subst e';rw [upd_same,hk];simp [LB.sub]
   ·rw [upd_ne _ _ e'];exact LB.sub_refl _
 ·intro k' hk' _
  have e:k'≠κ:=fun e=>hk' (e ▸ hκ)
  exact upd_ne _ _ e
 ·intro k' hK
  by_cases e:k'=κ
  ·subst e
   have hb:=h.blk k
   unfold Vw.blk at hb ⊢;simp only [hk] at hb;simp only [upd_same]
   obtain⟨arr',h1,h2,h3,h4,h5⟩:=hb
   exact⟨arr,hg,hl,fun i x y=>hK.cv (hc i x y),h4,h5⟩
  ·by_cases e':k'=k
   ·subst e';unfold Vw.blk;simp only [upd_ne _ _ e,upd_same]
   ·exact Vw.blk_keep (h.blk k') hK (by show upd (upd s.lv k .dead) κ _ k'=s.lv k';rw [upd_ne _ _ e,upd_ne _ _ e']) (upd_ne _ _ e) rfl (fun _ h=>h)
 ·have g:∀ k',k'≠κ→(upd (upd s.lv k .dead) κ (.cells own false T cs') k').live=true→(s.lv k').live=true∧k'≠k:=by
   intro k' e hk'
   rw [upd_ne _ _ e] at hk'
   by_cases e':k'=k
   ·subst e';rw [upd_same] at hk';simp [LB.live] at hk'
   ·rw [upd_ne _ _ e'] at hk';grind
  intro k1 k2 h1 h2 he
  by_cases e1:k1=κ <;> by_cases e2:k2=κ
  ·rw [e1,e2]
  ·have:=g k2 e2 h2
   rw [e1,upd_same,upd_ne _ _ e2] at he
   exact absurd (h.inj _ _ hlive this.1 he).symm this.2
  ·have:=g k1 e1 h1
   rw [e2,upd_same,upd_ne _ _ e1] at he
   exact absurd (h.inj _ _ this.1 hlive he) this.2
  ·rw [upd_ne _ _ e1,upd_ne _ _ e2] at he
   exact h.inj _ _ (g k1 e1 h1).1 (g k2 e2 h2).1 he
theorem StOK.freeze (h:StOK c F β s a w){k:Key}{T:TypeId}{cs:List CV}(hk:s.lv k=.cells true false T cs) :
 StOK c (fun b=>F b∨b=β k) β ⟨s.fr,upd s.lv k (.cells true true T cs)⟩ a w:=by
 have hlive:(s.lv k).live=true:=by rw [hk];rfl
 have hlt:=h.live_lt hlive
 have hb0:=h.blk k
 unfold Vw.blk at hb0;simp only [hk] at hb0
 obtain⟨arr,h1,h2,h3,h4,h5⟩:=hb0
 have g:∀ k',(upd s.lv k (.cells true true T cs) k').live=true→(s.lv k').live=true∧k'≠k:=by
  intro k' hk'
  by_cases e':k'=k
  ·subst e';rw [upd_same] at hk';simp [LB.live] at hk'
  ·rw [upd_ne _ _ e'] at hk';grind
 refine h.step (fun _ h=>.inl h) (fun _ _=>rfl) ?_ (fun _ _ _=>rfl) (fun _=>Nat.le_refl _) ?_ ?_ ?_ (Nat.le_refl _) (fun _ _ _=>rfl)
 ·intro k'
  by_cases e:k'=k
  ·subst e;rw [upd_same,hk];simp [LB.sub]
  ·rw [upd_ne _ _ e];exact LB.sub_refl _
 ·intro k' hK
  by_cases e:k'=k
  ·subst e
   unfold Vw.blk;simp only [upd_same]
   exact⟨arr,h1,h2,fun i x y=>hK.cv (h3 i x y),by simp,h5⟩
  ·refine Vw.blk_keep (h.blk k') hK (upd_ne _ _ e) rfl rfl (fun hl hf=>?_)
   rcases hf with hf|hf
   ·exact hf
   ·exact absurd (h.inj _ _ hl hlive hf) e
 ·intro k1 k2 a1 a2 he
  exact h.inj _ _ (g _ a1).1 (g _ a2).1 he
 ·intro b hb
  rcases hb with hb|hb
  ·grind
  ·subst hb;exact .inr ⟨hlt,by simpa [ownAt] using h5⟩
end
def cstC:Value→CV
 | .bool b=>.d (.bool b)
 | .int k n=>if k.wrap n=n then .d (.int k n) else .junk
 | .string s=>if s.data.toList.length≤9223372036854775807 then .d (.str s.data.toList) else .junk
 | .pointer none=>.d .nilp
 | .slice none 0 0=>.d .nilsl
 | .nilIface=>.d .nilIface
 | .nilFunc=>.d .nilFunc
 | .map none=>.d .nilmap
 | _=>.junk
def cst (v:Value):AV:=
 match v with
 | .agg arr=>if arr.toList.all (·.oneCell') then .agg (arr.toList.map cstC) else .junk
 | .tuple _=>.junk
 | v=>.c (cstC v)
def LSt.val (G:List (List DV))(s:LSt):Operand→AV
 | .tmp t=>s.fr t
 | .const v=>cst v
 | .global g=>match G[g]? with|some cs=>.c (.d (.ptr cs))|none=>.junk
 | .func f=>.c (.d (.func (.func f) [] []))
theorem cv_cst (V:Vw)(v:Value)(h:v.oneCell'=true):V.cv v (cstC v):=by
 unfold cstC
 split
 case h_1 b=>exact⟨.bool b,rfl⟩
 case h_2 k n=>split
               ·rename_i hw;exact⟨.int k n hw,rfl⟩
               rfl
 case h_3 s=>split
             ·rename_i hl;exact⟨.str s hl,rfl⟩
             rfl
 case h_4=>exact⟨.nilp,rfl⟩
 case h_5=>exact⟨.nilsl,rfl⟩
 case h_6=>exact⟨.nilIface,rfl⟩
 case h_7=>exact⟨.nilFunc,rfl⟩
 case h_8=>exact⟨.nilmap,rfl⟩
 case h_9=>exact h
theorem av_cst (V:Vw)(v:Value):V.av v (cst v):=by
 unfold cst
 split
 case h_1 arr=>
  split
  ·rename_i h
   refine⟨arr,rfl,by simp,fun i x y=>?_⟩
   simp only [List.getElem_map,Array.getElem_toList]
   refine cv_cst V _ ?_
   grind
  ·trivial
 case h_2=>trivial
 case h_3 h1 h2=>
  refine cv_cst V v ?_
  cases v <;> first|rfl|exact absurd rfl (h1 _)|grind
section
variable {c:Ctx}{F:Nat→Prop}{β:Key→Nat}{s:LSt}{a:Act}{w:World}
theorem StOK.val (h:StOK c F β s a w)(x:Operand):(Vw.mk F β s.lv w).av (a.eval x) (s.val c.G x):=by
 cases x with
 | tmp t=>exact h.fr t
 | const v=>exact av_cst _ v
 | global g=>
  simp only [LSt.val]
  split
  ·rename_i cs hg;exact⟨h.glob g cs hg,rfl⟩
  ·trivial
 | func f=>exact⟨.func _ _ _ _ _ rfl rfl (fun i h=>absurd h (Nat.not_lt_zero i)) (fun i h=>absurd h (Nat.not_lt_zero i)),rfl⟩
def Sim (c:Ctx)(o:Oper)(s s':LSt):Prop:=
 ∀ (F:Nat→Prop) (β:Key→Nat) (a:Act) (w:World) (K:Act→World→Prop) (Q:Exit→Act→World→Prop),StOK c F β s a w →
  (∀ F' β' a' w',StOK c F' β' s' a' w'→K a' w')→o.wp c.P a w K Q
theorem Sim.of_value {o:Oper}{lv':Key→LB}{x:AV}(hd:∀ d,o.dst=some d→d<c.n)
 (h:∀ F β a w,StOK c F β s a w→∃ v F' β' w',(execOp a.eval o).run c.P w=.ok (.value v) w'∧StOK c F' β' ⟨s.fr,lv'⟩ a w'∧(Vw.mk F' β' lv' w').av v x) :
 Sim c o s (LSt.put ⟨s.fr,lv'⟩ o.dst x):=by
 intro F β a w K Q hs hK
 obtain⟨v,F',β',w',hr,hs',hv⟩:=h F β a w hs
 unfold Oper.wp
 rw [hr,Oper.upon_value]
 exact hK F' β' _ _ (hs'.putD hd hv)
theorem Sim.of_pure {o:Oper}{x:AV}(hd:∀ d,o.dst=some d→d<c.n)
 (h:∀ F β a w,StOK c F β s a w→∃ v,(execOp a.eval o).run c.P w=.ok (.value v) w∧(Vw.mk F β s.lv w).av v x) :
 Sim c o s (s.put o.dst x):=
 Sim.of_value (lv':=s.lv) hd fun F β a w hs=>let ⟨v,h1,h2⟩:=h F β a w hs;⟨v,F,β,w,h1,hs,h2⟩
theorem undef_junk (V:Vw):V.av undef .undef:=rfl
theorem Sim.of_skip {o:Oper}{lv':Key→LB}(hd:∀ d,o.dst=some d→d<c.n)
 (h:∀ F β a w,StOK c F β s a w→∃ F' β' w',(execOp a.eval o).run c.P w=.ok .skip w'∧StOK c F' β' ⟨s.fr,lv'⟩ a w') :
 Sim c o s (LSt.put ⟨s.fr,lv'⟩ o.dst .undef):=by
 intro F β a w K Q hs hK
 obtain⟨F',β',w',hr,hs'⟩:=h F β a w hs
 unfold Oper.wp
 rw [hr,Oper.upon_skip]
 exact hK F' β' _ _ (hs'.putD hd (undef_junk _))
theorem sim_move {o:Oper}{x:Operand}(hd:∀ d,o.dst=some d→d<c.n) (ho:o.op=.move x∨o.op=.assign x):Sim c o s (s.put o.dst (s.val c.G x)):=
 Sim.of_pure hd fun F β a w hs=>⟨a.eval x,by rcases ho with ho|ho <;> simp [execOp,ho],hs.val x⟩
theorem sim_pick {o:Oper}{t x y:Operand}{b:Bool}(hd:∀ d,o.dst=some d→d<c.n) (ho:o.op=.pick t x y) (ht:s.val c.G t=.c (.d (.bool b))) :
 Sim c o s (s.put o.dst (if b then s.val c.G x else s.val c.G y)):=
 Sim.of_pure hd fun F β a w hs=>by
  have h1:=hs.val t
  rw [ht] at h1
  obtain⟨h1,_⟩:=h1
  generalize he:a.eval t=v at h1
  cases h1
  cases b with
  | true=>exact⟨a.eval x,by simp [execOp,ho,he,asBool],by simpa using hs.val x⟩
  | false=>exact⟨a.eval y,by simp [execOp,ho,he,asBool],by simpa using hs.val y⟩
theorem Vw.c_bool {V:Vw}{v:Value}{b:Bool}(h:V.av v (.c (.d (.bool b)))):v=.bool b:=by
 obtain⟨h,_⟩:=h;cases h;rfl
theorem Vw.c_int {V:Vw}{v:Value}{k:IntKind}{n:Int}(h:V.av v (.c (.d (.int k n)))):v=.int k n:=by
 obtain⟨h,_⟩:=h;cases h;rfl
theorem Vw.c_str {V:Vw}{v:Value}{l:List UInt8}(h:V.av v (.c (.d (.str l)))):v=.string ⟨l.toArray⟩:=by
 obtain⟨h,_⟩:=h;cases h;rfl
theorem Vw.mk_int (V:Vw)(k:IntKind)(n:Int)(hw:k.wrap n=n):V.av (.int k n) (.c (.d (.int k n))):=⟨.int k n hw,rfl⟩
theorem Vw.int_rng {V:Vw}{v:Value}{k:IntKind}{n:Int}(h:V.av v (.c (.d (.int k n)))):k.wrap n=n:=by
 obtain⟨h,_⟩:=h;cases h;omega
theorem Vw.str_rng {V:Vw}{v:Value}{l:List UInt8}(h:V.av v (.c (.d (.str l)))):l.length≤9223372036854775807:=by
 obtain⟨h,_⟩:=h;cases h;omega
theorem Vw.mk_bool (V:Vw)(b:Bool):V.av (.bool b) (.c (.d (.bool b))):=⟨.bool b,rfl⟩
theorem Vw.mk_str (V:Vw)(l:List UInt8)(hl:l.length≤9223372036854775807):V.av (.string ⟨l.toArray⟩) (.c (.d (.str l))):=⟨by have:=Rd.str (M:=V.mem) ⟨l.toArray⟩ (by omega);omega,rfl⟩
def binI (op:BinOp)(k:IntKind)(x y:Int):Option DV:=
 match op with
 | .add=>some (.int k (k.wrap (x+y)))
 | .sub=>some (.int k (k.wrap (x - y)))
 | .mul=>some (.int k (k.wrap (x*y)))
 | .quo=>some (.int k (k.wrap (x.tdiv y)))
 | .rem=>some (.int k (x.tmod y))
 | .and=>some (.int k (k.wrap (BitVec.ofInt k.bits x &&& BitVec.ofInt k.bits y).toNat))
 | .or=>some (.int k (k.wrap (BitVec.ofInt k.bits x ||| BitVec.ofInt k.bits y).toNat))
 | .xor=>some (.int k (k.wrap (BitVec.ofInt k.bits x ^^^ BitVec.ofInt k.bits y).toNat))
 | .andNot=>some (.int k (k.wrap (BitVec.ofInt k.bits x &&& ~~~BitVec.ofInt k.bits y).toNat))
 | .eql=>some (.bool (x == y))
 | .neq=>some (.bool (x != y))
 | .lss=>some (.bool (decide (x<y)))
 | .leq=>some (.bool (decide (x≤y)))
 | .gtr=>some (.bool (decide (y<x)))
 | .geq=>some (.bool (decide (y≤x)))
 | _=>none
def binIok (op:BinOp)(y:Int):Prop:=
 match op with
 | .quo|.rem=>y≠0
 | _=>True
def shI (op:BinOp)(k:IntKind)(x y:Int):Option DV:=
 match op with
 | .shl=>some (.int k (k.wrap (x*2 ^ (min y.toNat k.bits))))
 | .shr=>some (.int k (x.fdiv (2 ^ (min y.toNat k.bits))))
 | _=>none
def DV.scal:DV→Value
 | .bool b=>.bool b
 | .int k n=>.int k n
 | .str l=>.string ⟨l.toArray⟩
 | _=>undef
def DV.isScal:DV→Bool
 | .bool _|.int ..|.str _=>true
 | _=>false
def DV.rng:DV→Prop
 | .int k n=>k.wrap n=n
 | .str l=>l.length≤9223372036854775807
 | _=>True
theorem Vw.mk_scal (V:Vw){d:DV}(h:d.isScal=true) (hr:d.rng):V.av d.scal (.c (.d d)):=by
 cases d <;> simp [DV.isScal] at h
 ·exact V.mk_bool _
 ·exact V.mk_int _ _ hr
 ·exact V.mk_str _ hr
theorem binI_run {op:BinOp}{k:IntKind}{m n:Int}{d:DV}(hr:binI op k m n=some d) (hok:binIok op n) (P:Program) (T:TypeId) (x y:Operand) (w:World) :
 (do eqGuard op T x y (.int k m) (.int k n);binOp op T (.int k m) (.int k n):Sem Value).run P w=.ok d.scal w:=by
 cases op <;> simp only [binI,Option.some.injEq,reduceCtorEq] at hr <;> subst hr <;> simp only [binIok] at hok <;>
  simp only [eqGuard,binOp,ne_eq,not_true_eq_false,if_false,if_true,Bool.not_true,Bool.not_false] <;>
  first
   | rfl
   | (simp only [Op.intDiv,if_neg hok];rfl)
theorem binI_scal {op:BinOp}{k:IntKind}{m n:Int}{d:DV}(hr:binI op k m n=some d):d.isScal=true:=by
 cases op <;> simp only [binI,Option.some.injEq,reduceCtorEq] at hr <;> subst hr <;> rfl
theorem binI_rng {op:BinOp}{k:IntKind}{m n:Int}{d:DV}(hr:binI op k m n=some d) (hm:k.wrap m=m):d.rng:=by
 cases op <;> simp only [binI,Option.some.injEq,reduceCtorEq] at hr <;> subst hr <;> first|exact wrap_wrap _ _|exact wrap_tmod hm|trivial
theorem sim_binI {o:Oper}{op:BinOp}{T T':TypeId}{x y:Operand}{k:IntKind}{m n:Int}{d:DV}(hd:∀ d,o.dst=some d→d<c.n) (ho:o.op=.binOp op T x y T')
 (hx:s.val c.G x=.c (.d (.int k m))) (hy:s.val c.G y=.c (.d (.int k n))) (hr:binI op k m n=some d) (hok:binIok op n) :
 Sim c o s (s.put o.dst (.c (.d d))):=
 Sim.of_pure hd fun F β a w hs=>by
  have h1:=Vw.c_int (hx ▸ hs.val x)
  have h1':=Vw.int_rng (hx ▸ hs.val x)
  have h2:=Vw.c_int (hy ▸ hs.val y)
  refine⟨d.scal,?_,Vw.mk_scal _ (binI_scal hr) (binI_rng hr h1')⟩
  simp only [execOp,ho,h1,h2]
  rw [Sem.run_bind,binI_run hr hok];rfl
theorem sim_shI {o:Oper}{op:BinOp}{T T':TypeId}{x y:Operand}{k k':IntKind}{m n:Int}{d:DV}(hd:∀ d,o.dst=some d→d<c.n) (ho:o.op=.binOp op T x y T')
 (hx:s.val c.G x=.c (.d (.int k m))) (hy:s.val c.G y=.c (.d (.int k' n))) (hr:shI op k m n=some d) (hok:0≤n) :
 Sim c o s (s.put o.dst (.c (.d d))):=
 Sim.of_pure hd fun F β a w hs=>by
  have h1:=Vw.c_int (hx ▸ hs.val x)
  have h1':=Vw.int_rng (hx ▸ hs.val x)
  have h2:=Vw.c_int (hy ▸ hs.val y)
  have h3:¬ n<0:=by omega
  cases op <;> simp only [shI,Option.some.injEq,reduceCtorEq] at hr <;> subst hr
  ·exact⟨.int k (k.wrap (m*2 ^ (min n.toNat k.bits))),by simp [execOp,ho,h1,h2,eqGuard,binOp,Op.shift,h3],⟨.int _ _ (wrap_wrap _ _),rfl⟩⟩
  ·exact⟨.int k (m.fdiv (2 ^ (min n.toNat k.bits))),by simp [execOp,ho,h1,h2,eqGuard,binOp,Op.shift,h3],⟨.int _ _ (wrap_fdiv h1'),rfl⟩⟩
def binS (op:BinOp)(x y:List UInt8):Option DV:=
 match op with
 | .add=>some (.str (x++y))
 | .eql=>some (.bool (x == y))
 | .neq=>some (.bool (!(x == y)))
 | .lss=>some (.bool (Op.bytesLess x y))
 | .leq=>some (.bool (Op.bytesLess x y || x == y))
 | .gtr=>some (.bool (!(Op.bytesLess x y || x == y)))
 | .geq=>some (.bool (!Op.bytesLess x y))
 | _=>none
def binSok (op:BinOp)(x y:List UInt8):Prop:=
 match op with
 | .add=>x.length+y.length≤9223372036854775807
 | _=>True
theorem toList_mk (l:List UInt8):(ByteArray.mk l.toArray).toList=l:=by
 simp
theorem sim_binS {o:Oper}{op:BinOp}{T T':TypeId}{x y:Operand}{m n:List UInt8}{d:DV}(hd:∀ d,o.dst=some d→d<c.n) (ho:o.op=.binOp op T x y T')
 (hx:s.val c.G x=.c (.d (.str m))) (hy:s.val c.G y=.c (.d (.str n))) (hr:binS op m n=some d) (hok:binSok op m n) :
 Sim c o s (s.put o.dst (.c (.d d))):=
 Sim.of_pure hd fun F β a w hs=>by
  have h1:=Vw.c_str (hx ▸ hs.val x)
  have h2:=Vw.c_str (hy ▸ hs.val y)
  cases op <;> simp only [binS,Option.some.injEq,reduceCtorEq] at hr <;> subst hr <;> simp only [binSok] at hok
  case add=>
   refine⟨.string ⟨(m++n).toArray⟩,?_,Vw.mk_str _ _ (by grind)⟩
   have h3:¬ ((((ByteArray.mk m.toArray).size+(ByteArray.mk n.toArray).size:Nat):Int) > IntKind.i64.max):=by
    rw [IntKind.max_i64];simp [ByteArray.size];omega
   have h4:(ByteArray.mk m.toArray++ByteArray.mk n.toArray)=ByteArray.mk (m++n).toArray:=by
    apply ByteArray.ext;simp
   simp only [execOp,ho,h1,h2,eqGuard,binOp,Op.stringOp,if_neg h3,h4]
   rfl
  all_goals
   refine⟨DV.scal (.bool _),?_,Vw.mk_scal (d:=.bool _) _ rfl trivial⟩
   simp only [execOp,ho,h1,h2,eqGuard,binOp,Op.stringOp,toList_mk]
   rfl
end
def szT (P:Program)(t:TypeId):Nat:=match P.info? t with|some i=>i.size|none=>0
def aggT (P:Program)(t:TypeId):Option Bool:=
 match P.underlying t,P.info? t with
 | some (.struct _),some _|some (.array _ _),some _=>some true
 | some _,some _=>some false
 | _,_=>none
def fldT (P:Program)(t:TypeId)(f:Nat):Option (Nat × TypeId):=
 match P.underlying t with
 | some (.struct fs)=>
  match fs[f]? with
  | some fd=>if (P.info? fd.type).isSome && szT P fd.type != 0 then some (fd.offset,fd.type) else none
  | none=>none
 | _=>none
def slT (P:Program)(t:TypeId):Option (TypeId × Nat):=
 match P.underlying t with
 | some (.slice e)=>if (P.info? e).isSome then some (e,szT P e) else none
 | _=>none
def arT (P:Program)(t:TypeId):Option (Nat × TypeId × Nat):=
 match P.underlying t with
 | some (.array n e)=>if (P.info? e).isSome then some (n,e,szT P e) else none
 | _=>none
theorem run_sizeOf {P:Program}{t:TypeId}(h:(P.info? t).isSome=true) (w:World):(sizeOf t).run P w=.ok (szT P t) w:=by
 obtain⟨i,hi⟩:=Option.isSome_iff_exists.1 h
 simp [sizeOf,typeInfo,szT,hi]
theorem run_isAgg {P:Program}{t:TypeId}{b:Bool}(h:aggT P t=some b) (w:World):(isAgg t).run P w=.ok b w:=by
 unfold aggT at h
 unfold isAgg
 split at h
 ·rename_i h1 h2;simp at h;subst h;simp [Sem.run_bind,run_underlying h1]
 ·rename_i h1 h2;simp at h;subst h;simp [Sem.run_bind,run_underlying h1]
 ·rename_i d i hns hna h1 h2
  simp at h;subst h
  simp only [Sem.run_bind,run_underlying h1,Result.andThen_ok]
  rfl
 grind
def AV.cells:AV→Option (List CV)
 | .c x=>some [x]
 | .agg cs=>some cs
 | _=>none
theorem Vw.av_cells {V:Vw}{v:Value}{x:AV}{cs:List CV}(h:V.av v x) (hc:x.cells=some cs) :
 v.cells.size=cs.length∧∀ i (h:i<cs.length) (h':i<v.cells.size),V.cv v.cells[i] cs[i]:=by
 cases x with
 | c x=>
  simp only [AV.cells,Option.some.injEq] at hc;subst hc
  have ho:=Vw.cv_oneCell (V:=V) h
  have hv:v.cells=#[v]:=by cases v <;> simp [Value.oneCell'] at ho <;> rfl
  refine⟨by grind,fun i a b=>?_⟩
  have:i=0:=by simp at a;exact a
  subst this
  simp only [hv];exact h
 | agg l=>
  simp only [AV.cells,Option.some.injEq] at hc;subst hc
  obtain⟨arr,rfl,h1,h2⟩:=h
  exact⟨h1,h2⟩
 | tup l=>simp [AV.cells] at hc
 | undef=>simp [AV.cells] at hc
 | junk=>simp [AV.cells] at hc
section
variable {c:Ctx}{F:Nat→Prop}{β:Key→Nat}{s:LSt}{a:Act}{w:World}
theorem run_load_cell {P:Program}{w:World}{ad:Addr}{v:Value}(h:w.cell? ad=some v):(load ad).run P w=.ok v w:=by
 simp_all
theorem cell_of_block {w:World}{b o:Nat}{arr:Array Value}{T:TypeId}{fr:Nat × Nat}(h:w.heap[b]?=some (.cells arr T fr)) (ho:o<arr.size) :
 w.cell? ⟨b,o,none⟩=some arr[o]:=by
 rw [cell_of_row w b o arr T fr h];simp [ho]
def loadA (P:Program)(T:TypeId)(cs:List CV):Option AV:=
 match aggT P T with
 | some true=>if szT P T≤cs.length then some (.agg (cs.take (szT P T))) else none
 | some false=>match cs with|x::_=>some (.c x)|[]=>none
 | none=>none
theorem info_of_agg {P:Program}{t:TypeId}{b:Bool}(h:aggT P t=some b):(P.info? t).isSome=true:=by
 unfold aggT at h
 grind
theorem run_loadAt {P:Program}{T:TypeId}{cs:List CV}{x:AV}(V:Vw) {b o:Nat}(hl:loadA P T cs=some x) (vs:Nat→Value)
 (hm:∀ i,i<cs.length→V.w.cell? ⟨b,o+i,none⟩=some (vs i)) (hr:∀ i (h:i<cs.length),V.cv (vs i) cs[i]) :
 ∃ v,(Instr.loadAt T (.pointer (some ⟨b,o,none⟩))).run P V.w=.ok v V.w∧V.av v x:=by
 unfold loadA at hl
 split at hl
 ·rename_i hag
  split at hl
  ·rename_i hsz
   simp only [Option.some.injEq] at hl;subst hl
   refine⟨.agg ((List.range (szT P T)).map vs).toArray,?_,?_⟩
   ·simp only [Instr.loadAt,Instr.sureAddr,loadVar,Sem.run_bind,Sem.run_pure,Result.andThen_ok,run_isAgg hag,if_true,run_sizeOf (info_of_agg hag)]
    rw [run_loadCells V.w ⟨b,o,none⟩ (szT P T) vs (fun j hj=>by rw [Addr.add_lit];grind)]
    simp
   ·refine⟨_,rfl,by simp;omega,fun i h h'=>?_⟩
    grind
  grind
 ·rename_i hag
  split at hl
  ·rename_i y rest
   simp only [Option.some.injEq] at hl;subst hl
   refine⟨vs 0,?_,hr 0 (by simp)⟩
   simp only [Instr.loadAt,Instr.sureAddr,loadVar,Sem.run_bind,Sem.run_pure,Result.andThen_ok,run_isAgg hag]
   exact run_load_cell (hm 0 (by simp))
  grind
 grind
theorem sim_load_d {o:Oper}{T:TypeId}{x:Operand}{cs:List DV}{y:AV}(hd:∀ d,o.dst=some d→d<c.n) (ho:o.op=.load T x)
 (hx:s.val c.G x=.c (.d (.ptr cs))) (hl:loadA c.P T (cs.map CV.d)=some y):Sim c o s (s.put o.dst y):=
 Sim.of_pure hd fun F β a w hs=>by
  have h1:=hx ▸ hs.val x
  obtain⟨h1,_⟩:=h1
  generalize he:a.eval x=v at h1
  cases h1 with
  | ptr b off vs _ hm hone hr=>
   obtain⟨v,h2,h3⟩:=run_loadAt (P:=c.P) (T:=T) (Vw.mk F β s.lv w) (b:=b) (o:=off) hl vs (fun i hi=>(hm i (by grind)).2)
    (fun i hi=>by simp only [List.getElem_map];exact⟨hr i (by grind),hone i (by grind)⟩)
   exact⟨v,by simp [execOp,ho,he,h2],h3⟩
theorem sim_load_l {o:Oper}{T T':TypeId}{x:Operand}{k:Key}{off:Nat}{own fz:Bool}{cs:List CV}{y:AV}(hd:∀ d,o.dst=some d→d<c.n) (ho:o.op=.load T x)
 (hx:s.val c.G x=.c (.ptr k off)) (hk:s.lv k=.cells own fz T' cs) (hl:loadA c.P T (cs.drop off)=some y):Sim c o s (s.put o.dst y):=
 Sim.of_pure hd fun F β a w hs=>by
  have h1:=hx ▸ hs.val x
  obtain⟨h1,_⟩:=h1
  simp only [Vw.atPtr,hk] at h1
  have hb:=hs.blk k
  unfold Vw.blk at hb;simp only [hk] at hb
  obtain⟨arr,h2,h3,h4,_⟩:=hb
  obtain⟨v,h5,h6⟩:=run_loadAt (P:=c.P) (T:=T) (Vw.mk F β s.lv w) (b:=β k) (o:=off) hl (fun i=>arr.getD (off+i) undef)
   (fun i hi=>by
    have hi':off+i<arr.size:=by simp at hi;omega
    rw [cell_of_block h2 hi'];simp_all)
   (fun i hi=>by
    have hi':off+i<arr.size:=by simp at hi;omega
    simp_all)
  exact⟨v,by simp [execOp,ho,h1,h5],h6⟩
def setSeg {α:Type}(cs:List α) (off:Nat) (xs:List α):List α:=cs.take off++xs++cs.drop (off+xs.length)
theorem setSeg_length {α:Type}(cs:List α) (off:Nat) (xs:List α) (h:off+xs.length≤cs.length):(setSeg cs off xs).length=cs.length:=by
 simp [setSeg];omega
theorem setSeg_get {α:Type}(cs:List α) (off:Nat) (xs:List α) (h:off+xs.length≤cs.length) (i:Nat) (hi:i<(setSeg cs off xs).length) :
 (setSeg cs off xs)[i]=if h1:off≤i∧i<off+xs.length then xs[i - off] else cs[i]'(by rw [setSeg_length _ _ _ h] at hi;exact hi):=by
 have hi':=hi
 rw [setSeg_length _ _ _ h] at hi'
 have hto:(cs.take off).length=off:=by simp;omega
 by_cases h1:i<off
 ·rw [dif_neg (by omega)]
  simp only [setSeg,List.append_assoc]
  grind
 ·by_cases h2:i<off+xs.length
  ·rw [dif_pos ⟨by omega,h2⟩]
   simp only [setSeg,List.append_assoc]
   grind
  ·rw [dif_neg (by omega)]
   simp only [setSeg,List.append_assoc]
   rw [List.getElem_append_right (by omega),List.getElem_append_right (by omega),List.getElem_drop]
   grind
theorem sim_store {o:Oper}{T T':TypeId}{x y:Operand}{k:Key}{off:Nat}{own:Bool}{cs xs:List CV}(hd:∀ d,o.dst=some d→d<c.n) (ho:o.op=.store T x y)
 (hx:s.val c.G x=.c (.ptr k off)) (hk:s.lv k=.cells own false T' cs) (hy:(s.val c.G y).cells=some xs) (hi:(c.P.info? T).isSome=true)
 (hsz:xs.length=szT c.P T) (hoff:off+xs.length≤cs.length) :
 Sim c o s (LSt.put ⟨s.fr,upd s.lv k (.cells own false T' (setSeg cs off xs))⟩ o.dst .undef):=
 Sim.of_skip hd fun F β a w hs=>by
  have h1:=hx ▸ hs.val x
  obtain⟨h1,_⟩:=h1
  simp only [Vw.atPtr,hk] at h1
  have hb:=hs.blk k
  unfold Vw.blk at hb;simp only [hk] at hb
  obtain⟨arr,h2,h3,h4,_⟩:=hb
  obtain⟨h5,h6⟩:=Vw.av_cells (hs.val y) hy
  obtain⟨v,hv⟩:∃ v,a.eval y=v:=⟨_,rfl⟩
  rw [hv] at h5 h6
  have hone:∀ u∈v.cells.toList,u.oneCell'=true:=by
   intro u hu
   obtain⟨i,hi1,rfl⟩:=List.mem_iff_getElem.1 hu
   have:=h6 i (by grind) (by omega)
   exact Vw.cv_oneCell this
  have hl5:v.cells.toList.length=xs.length:=by simpa using h5
  have hst:=run_storeCells_at c.P (β k) off T' v.cells.toList 0 arr w h2 (by omega) hone
  simp only [Nat.add_zero] at hst
  have hset:arr.toList.take off++v.cells.toList++arr.toList.drop (off+v.cells.toList.length)=setSeg arr.toList off v.cells.toList:=rfl
  have hle:off+v.cells.toList.length≤arr.toList.length:=by simp only [Array.length_toList];omega
  refine⟨F,β,_,?_,hs.setRow (arr:=(setSeg arr.toList off v.cells.toList).toArray) hk h2 (by grind) (by rw [setSeg_length _ _ _ hoff];grind) ?_⟩
  ·simp only [execOp,ho,h1,hv,Instr.storeAt,Instr.sureAddr,storeVar,Sem.run_bind,Sem.run_pure,Result.andThen_ok,run_sizeOf hi]
   simp_all
  ·intro i p q
   simp only [List.getElem_toArray]
   rw [setSeg_get _ _ _ hle i (by omega),setSeg_get _ _ _ hoff i p]
   grind
theorem sim_box {o:Oper}{T:TypeId}{x:Operand}{κ:Key}{xs:List CV}(hd:∀ d,o.dst=some d→d<c.n) (ho:o.op=.box T x)
 (hκ:s.lv κ=.hole) (hx:(s.val c.G x).cells=some xs) :
 Sim c o s (LSt.put ⟨s.fr,upd s.lv κ (.cells true false T xs)⟩ o.dst (.c (.ptr κ 0))):=
 Sim.of_value hd fun F β a w hs=>by
  obtain⟨h5,h6⟩:=Vw.av_cells (hs.val x) hx
  refine⟨.pointer (some ⟨w.heap.size,0,none⟩),F,upd β κ w.heap.size,w.alloc (.cells (a.eval x).cells T),?_,hs.alloc hκ T (by omega) h6,?_⟩
  ·simp [execOp,ho,Instr.box,newVar,newRow]
  ·refine⟨?_,rfl⟩
   simp [Vw.atPtr,upd_same]
theorem sim_alloc {o:Oper}{T:TypeId}{κ:Key}{z:Value}{xs:List CV}(hd:∀ d,o.dst=some d→d<c.n) (ho:o.op=.alloc T)
 (hκ:s.lv κ=.hole) (hz:(c.P.info? T).bind (·.zero)=some z) (hx:(cst z).cells=some xs) :
 Sim c o s (LSt.put ⟨s.fr,upd s.lv κ (.cells true false T xs)⟩ o.dst (.c (.ptr κ 0))):=
 Sim.of_value hd fun F β a w hs=>by
  obtain⟨i,hi,hz⟩:=Option.bind_eq_some_iff.1 hz
  obtain⟨h5,h6⟩:=Vw.av_cells (av_cst (Vw.mk F β s.lv w) z) hx
  refine⟨.pointer (some ⟨w.heap.size,0,none⟩),F,upd β κ w.heap.size,w.alloc (.cells z.cells T),?_,hs.alloc hκ T (by omega) h6,?_⟩
  ·simp [execOp,ho,Instr.alloc,zeroValue,typeInfo,hi,hz,newVar,newRow]
  ·refine⟨?_,rfl⟩
   simp [Vw.atPtr,upd_same]
end
section
variable {c:Ctx}{F:Nat→Prop}{β:Key→Nat}{s:LSt}{a:Act}{w:World}
theorem Rd.ptr_drop {M:Mem}{v:Value}{cs:List DV}(h:Rd M v (.ptr cs)) (n:Nat) (hn:n≤cs.length) :
 ∃ b o,v=.pointer (some ⟨b,o,none⟩)∧Rd M (.pointer (some ⟨b,o+n,none⟩)) (.ptr (cs.drop n)):=by
 cases h with
 | ptr b off vs _ hm ho hr=>
  refine⟨b,off,rfl,.ptr b (off+n) (fun i=>vs (n+i)) _ (fun i hi=>?_) (fun i hi=>ho _ (by grind)) (fun i hi=>?_)⟩
  ·grind
  grind
theorem run_fieldAt {P:Program}{T:TypeId}{f off:Nat}{ft:TypeId}(h:fldT P T f=some (off,ft)) (b o:Nat) (w:World) :
 (Instr.fieldAt T (.pointer (some ⟨b,o,none⟩)) f).run P w=.ok (.pointer (some ⟨b,o+off,none⟩)) w:=by
 unfold fldT at h
 split at h
 ·rename_i fs hu
  split at h
  ·rename_i fd hf
   split at h
   ·rename_i hc
    simp only [Option.some.injEq,Prod.mk.injEq] at h
    obtain⟨rfl,rfl⟩:=h
    rw [Bool.and_eq_true,bne_iff_ne] at hc
    simp only [Instr.fieldAt,Sem.run_bind,run_underlying hu,Result.andThen_ok,hf,Instr.sureAddr,Sem.run_pure,fieldPlace,run_sizeOf hc.1,if_neg hc.2]
    rw [Addr.add_lit]
   grind
  grind
 grind
theorem sim_fieldAddr_d {o:Oper}{T ft:TypeId}{x:Operand}{f off:Nat}{cs:List DV}(hd:∀ d,o.dst=some d→d<c.n) (ho:o.op=.fieldAddr T x f)
 (hx:s.val c.G x=.c (.d (.ptr cs))) (hf:fldT c.P T f=some (off,ft)) (hoff:off≤cs.length):Sim c o s (s.put o.dst (.c (.d (.ptr (cs.drop off))))):=
 Sim.of_pure hd fun F β a w hs=>by
  have h1:=hx ▸ hs.val x
  obtain⟨h1,_⟩:=h1
  obtain⟨b,o',h2,h3⟩:=Rd.ptr_drop h1 off hoff
  exact⟨_,by simp only [execOp,ho,h2,Sem.run_bind,run_fieldAt hf,Result.andThen_ok];rfl,h3,rfl⟩
theorem sim_fieldAddr_l {o:Oper}{T ft:TypeId}{x:Operand}{f off n:Nat}{k:Key}{own fz:Bool}{T':TypeId}{cs:List CV}(hd:∀ d,o.dst=some d→d<c.n) (ho:o.op=.fieldAddr T x f)
 (hx:s.val c.G x=.c (.ptr k n)) (hk:s.lv k=.cells own fz T' cs) (hf:fldT c.P T f=some (off,ft)):Sim c o s (s.put o.dst (.c (.ptr k (n+off)))):=
 Sim.of_pure hd fun F β a w hs=>by
  have h1:=hx ▸ hs.val x
  obtain⟨h1,_⟩:=h1
  simp only [Vw.atPtr,hk] at h1
  refine⟨_,by simp only [execOp,ho,h1,Sem.run_bind,run_fieldAt hf,Result.andThen_ok];rfl,?_,rfl⟩
  simp only [Vw.atPtr,hk]
theorem sim_nilCheck {o:Oper}{x:Operand}{y:CV}(hd:∀ d,o.dst=some d→d<c.n) (ho:o.op=.nilCheck x) (hx:s.val c.G x=.c y)
 (hy:∀ F β a w,StOK c F β s a w→∃ ad,a.eval x=.pointer (some ad)):Sim c o s (s.put o.dst (.c y)):=
 Sim.of_pure hd fun F β a w hs=>by
  obtain⟨ad,h⟩:=hy F β a w hs
  exact⟨.pointer (some ad),by simp [execOp,ho,h],by rw [← h,← hx];exact hs.val x⟩
theorem sim_nilCheck_d {o:Oper}{x:Operand}{cs:List DV}(hd:∀ d,o.dst=some d→d<c.n) (ho:o.op=.nilCheck x) (hx:s.val c.G x=.c (.d (.ptr cs))) :
 Sim c o s (s.put o.dst (.c (.d (.ptr cs)))):=
 sim_nilCheck hd ho hx fun F β a w hs=>by
  have h1:=hx ▸ hs.val x
  obtain⟨h1,_⟩:=h1
  generalize a.eval x=v at h1
  cases h1;simp
theorem sim_nilCheck_l {o:Oper}{x:Operand}{n:Nat}{k:Key}{own fz:Bool}{T':TypeId}{cs:List CV}(hd:∀ d,o.dst=some d→d<c.n) (ho:o.op=.nilCheck x)
 (hx:s.val c.G x=.c (.ptr k n)) (hk:s.lv k=.cells own fz T' cs):Sim c o s (s.put o.dst (.c (.ptr k n))):=
 sim_nilCheck hd ho hx fun F β a w hs=>by
  have h1:=hx ▸ hs.val x
  obtain⟨h1,_⟩:=h1
  simp only [Vw.atPtr,hk] at h1
  grind
theorem sim_nilCheck_f {o:Oper}{x:Operand}{fn:Fn}{fs cs:List DV}(hd:∀ d,o.dst=some d→d<c.n) (ho:o.op=.nilCheck x)
 (hx:s.val c.G x=.c (.d (.func fn fs cs))) (hn:∀ m,fn≠.method m):Sim c o s (s.put o.dst (.c (.d (.func fn fs cs)))):=
 Sim.of_pure hd fun F β a w hs=>by
  have h0:=hs.val x
  have h1:=hx ▸ h0
  obtain⟨h1,_⟩:=h1
  obtain⟨v,he⟩:∃ v,a.eval x=v:=⟨_,rfl⟩
  rw [he] at h1
  refine⟨v,?_,by grind⟩
  cases h1 with
  | func _ fs cs _ _ _ _ _ _=>cases fn <;> simp [execOp,ho,he] <;> exact absurd rfl (hn _)
theorem sim_nilCheck_fl {o:Oper}{x:Operand}{fn:Fn}{fs cs:List Ref}(hd:∀ d,o.dst=some d→d<c.n) (ho:o.op=.nilCheck x)
 (hx:s.val c.G x=.c (.func fn fs cs)) (hn:∀ m,fn≠.method m):Sim c o s (s.put o.dst (.c (.func fn fs cs))):=
 Sim.of_pure hd fun F β a w hs=>by
  have h0:=hs.val x
  have h1:=hx ▸ h0
  obtain⟨fs',cs',he,_⟩:=h1
  refine⟨_,?_,by rw [← hx];exact h0⟩
  rw [he]
  cases fn <;> simp [execOp,ho,he] <;> exact absurd rfl (hn _)
theorem sim_extract {o:Oper}{x:Operand}{i:Nat}{l:List AV}{y:AV}(hd:∀ d,o.dst=some d→d<c.n) (ho:o.op=.extract x i)
 (hx:s.val c.G x=.tup l) (hi:l[i]?=some y) (hy:∀ l',y≠.tup l'):Sim c o s (s.put o.dst y):=
 Sim.of_pure hd fun F β a w hs=>by
  have h1:=hx ▸ hs.val x
  obtain⟨arr,h2,h3,h4⟩:=h1
  obtain⟨hlt,rfl⟩:=List.getElem?_eq_some_iff.1 hi
  have hlt':i<arr.size:=by omega
  refine⟨arr[i],by simp [execOp,ho,h2,Instr.extract,hlt'],?_⟩
  have:=h4 i hlt hlt'
  cases e:l[i] with
  | tup l'=>grind
  | c x=>rw [e] at this;exact this
  | agg x=>rw [e] at this;exact this
  | undef=>rw [e] at this;exact this
  | junk=>trivial
def partA (P:Program)(T:TypeId)(cs:List CV)(off:Nat):Option AV:=
 match aggT P T with
 | some true=>if off+szT P T≤cs.length then some (.agg ((cs.drop off).take (szT P T))) else none
 | some false=>(cs[off]?).map .c
 | none=>none
theorem run_part {P:Program}{T:TypeId}{cs:List CV}{off:Nat}{y:AV}(V:Vw) (h:partA P T cs off=some y) (arr:Array Value) (hs:arr.size=cs.length)
 (hr:∀ i (h:i<cs.length) (h':i<arr.size),V.cv arr[i] cs[i]):∃ v,(part T arr off).run P V.w=.ok v V.w∧V.av v y:=by
 unfold partA at h
 split at h
 ·rename_i hag
  split at h
  ·rename_i hsz
   simp only [Option.some.injEq] at h;subst h
   refine⟨.agg (arr.extract off (off+szT P T)),by simp [part,Sem.run_bind,run_isAgg hag,run_sizeOf (info_of_agg hag)],_,rfl,by simp;omega,fun i p q=>?_⟩
   grind
  grind
 ·rename_i hag
  cases e:cs[off]? with
  | none=>grind
  | some x=>
   rw [e] at h;simp only [Option.map_some,Option.some.injEq] at h;subst h
   obtain⟨hlt,rfl⟩:=List.getElem?_eq_some_iff.1 e
   have hlt':off<arr.size:=by omega
   exact⟨arr[off],by simp [part,Sem.run_bind,run_isAgg hag,hlt'],hr _ _ _⟩
 grind
theorem sim_field {o:Oper}{T:TypeId}{x:Operand}{f:Nat}{off:Nat}{ft:TypeId}{cs:List CV}{y:AV}(hd:∀ d,o.dst=some d→d<c.n) (ho:o.op=.field T x f)
 (hx:s.val c.G x=.agg cs) (hf:fldT c.P T f=some (off,ft)) (hp:partA c.P ft cs off=some y):Sim c o s (s.put o.dst y):=
 Sim.of_pure hd fun F β a w hs=>by
  have h1:=hx ▸ hs.val x
  obtain⟨arr,h2,h3,h4⟩:=h1
  obtain⟨v,h5,h6⟩:=run_part (Vw.mk F β s.lv w) hp arr h3 h4
  refine⟨v,?_,h6⟩
  unfold fldT at hf
  split at hf
  ·rename_i fs hu
   split at hf
   ·rename_i fd hfd
    split at hf
    ·simp only [Option.some.injEq,Prod.mk.injEq] at hf
     obtain⟨rfl,rfl⟩:=hf
     simp only [execOp,ho,h2,Instr.field,Sem.run_bind,run_underlying hu,Result.andThen_ok,hfd,asAgg,Sem.run_pure,h5]
    grind
   grind
  grind
end
section
variable {c:Ctx}{F:Nat→Prop}{β:Key→Nat}{s:LSt}{a:Act}{w:World}
theorem slT_info {P:Program}{T e:TypeId}{sz:Nat}(h:slT P T=some (e,sz)):P.underlying T=some (.slice e)∧(P.info? e).isSome=true∧szT P e=sz:=by
 unfold slT at h
 grind
theorem arT_info {P:Program}{T e:TypeId}{n sz:Nat}(h:arT P T=some (n,e,sz)):P.underlying T=some (.array n e)∧(P.info? e).isSome=true∧szT P e=sz:=by
 unfold arT at h
 grind
theorem run_indexAt_slice {P:Program}{T e:TypeId}{sz:Nat}(h:slT P T=some (e,sz)) (b o len cap:Nat) (k:IntKind) (n:Int) (h0:0≤n) (h1:n<len) (w:World) :
 (Instr.indexAt T (.slice (some ⟨b,o,none⟩) len cap) (.int k n)).run P w=.ok (.pointer (some ⟨b,o+n.toNat*sz,none⟩)) w:=by
 obtain⟨hu,hi,hs⟩:=slT_info h
 simp [Instr.indexAt,asIntOf,run_underlying hu,h0,h1,run_sizeOf hi,hs,Addr.add_lit]
theorem run_indexAt_array {P:Program}{T e:TypeId}{len sz:Nat}(h:arT P T=some (len,e,sz)) (b o:Nat) (k:IntKind) (n:Int) (h0:0≤n) (h1:n<len) (w:World) :
 (Instr.indexAt T (.pointer (some ⟨b,o,none⟩)) (.int k n)).run P w=.ok (.pointer (some ⟨b,o+n.toNat*sz,none⟩)) w:=by
 obtain⟨hu,hi,hs⟩:=arT_info h
 simp [Instr.indexAt,asIntOf,run_underlying hu,Instr.sureAddr,h0,h1,run_sizeOf hi,hs,Addr.add_lit]
theorem Rd.sl_elem {M:Mem}{v:Value}{es:List (List DV)}(h:Rd M v (.sl es)):(∃ b o cap,v=.slice (some ⟨b,o,none⟩) es.length cap∧es.length≤cap ∧
 ∀ i (hi:i<es.length),Rd M (.pointer (some ⟨b,o+i*es[i].length,none⟩)) (.ptr es[i]))∨∃ a,v=.slice (some a) 0 0∧es=[]:=by
 cases h with
 | sl b off cap sz _ vs hl hc hb hm ho hr=>
  refine .inl ⟨b,off,cap,rfl,hc,fun i hi=>?_⟩
  have hlen:es[i].length=sz:=hl _ (List.getElem_mem hi)
  exact .ptr b _ (vs i) _ (fun j hj=>by grind) (fun j hj=>ho i hi j (by omega)) (fun j hj=>hr i hi j hj)
 | sl0 a=>exact .inr ⟨a,rfl,rfl⟩
theorem sim_indexAddr_d {o:Oper}{T e:TypeId}{x ix:Operand}{es:List (List DV)}{k:IntKind}{n:Int}{sz:Nat}{cs:List DV}(hd:∀ d,o.dst=some d→d<c.n) (ho:o.op=.indexAddr T x ix)
 (hx:s.val c.G x=.c (.d (.sl es))) (hi:s.val c.G ix=.c (.d (.int k n))) (hT:slT c.P T=some (e,sz)) (h0:0≤n) (hcs:es[n.toNat]?=some cs) (hsz:cs.length=sz) :
 Sim c o s (s.put o.dst (.c (.d (.ptr cs)))):=
 Sim.of_pure hd fun F β a w hs=>by
  have h1:=hx ▸ hs.val x
  obtain⟨h1,_⟩:=h1
  have h2:=Vw.c_int (hi ▸ hs.val ix)
  obtain⟨hlt,rfl⟩:=List.getElem?_eq_some_iff.1 hcs
  obtain⟨b,o',cap,h3,h4,h5⟩:∃ b o cap,a.eval x=.slice (some ⟨b,o,none⟩) es.length cap∧es.length≤cap∧∀ i (hi:i<es.length),Rd (Vw.mk F β s.lv w).mem (.pointer (some ⟨b,o+i*es[i].length,none⟩)) (.ptr es[i]):=by
   rcases h1.sl_elem with h1|⟨_,_,rfl⟩
   ·exact h1
   ·cases hlt
  have h6:=h5 n.toNat hlt
  rw [hsz] at h6
  have hb:n<(es.length:Int):=by omega
  exact⟨_,by simp only [execOp,ho,h2,h3,Sem.run_bind,run_indexAt_slice hT _ _ _ _ _ _ h0 hb,Result.andThen_ok];rfl,h6,rfl⟩
theorem sim_indexAddr_l {o:Oper}{T e:TypeId}{x ix:Operand}{k:IntKind}{n:Int}{sz:Nat}{κ:Key}{off len:Nat}{own fz:Bool}{T':TypeId}{cs:List CV}(hd:∀ d,o.dst=some d→d<c.n) (ho:o.op=.indexAddr T x ix)
 (hx:s.val c.G x=.c (.lsl κ off len sz)) (hk:s.lv κ=.cells own fz T' cs) (hi:s.val c.G ix=.c (.d (.int k n))) (hT:slT c.P T=some (e,sz)) (h0:0≤n) (h1':n<len) :
 Sim c o s (s.put o.dst (.c (.ptr κ (off+n.toNat*sz)))):=
 Sim.of_pure hd fun F β a w hs=>by
  have h1:=hx ▸ hs.val x
  obtain⟨h1,_⟩:=h1
  simp only [Vw.atLsl,hk] at h1
  obtain⟨cap,h3,_⟩:=h1
  have h2:=Vw.c_int (hi ▸ hs.val ix)
  refine⟨_,by simp only [execOp,ho,h2,h3,Sem.run_bind,run_indexAt_slice hT _ _ _ _ _ _ h0 h1',Result.andThen_ok];rfl,?_,rfl⟩
  simp only [Vw.atPtr,hk]
theorem sim_indexAddr_ad {o:Oper}{T e:TypeId}{x ix:Operand}{cs:List DV}{k:IntKind}{n:Int}{len sz:Nat}(hd:∀ d,o.dst=some d→d<c.n) (ho:o.op=.indexAddr T x ix)
 (hx:s.val c.G x=.c (.d (.ptr cs))) (hi:s.val c.G ix=.c (.d (.int k n))) (hT:arT c.P T=some (len,e,sz)) (h0:0≤n) (h1':n<len) (hl:n.toNat*sz≤cs.length) :
 Sim c o s (s.put o.dst (.c (.d (.ptr (cs.drop (n.toNat*sz)))))):=
 Sim.of_pure hd fun F β a w hs=>by
  have h1:=hx ▸ hs.val x
  obtain⟨h1,_⟩:=h1
  have h2:=Vw.c_int (hi ▸ hs.val ix)
  obtain⟨b,o',h3,h4⟩:=Rd.ptr_drop h1 (n.toNat*sz) hl
  exact⟨_,by simp only [execOp,ho,h2,h3,Sem.run_bind,run_indexAt_array hT _ _ _ _ h0 h1',Result.andThen_ok];rfl,h4,rfl⟩
theorem sim_indexAddr_al {o:Oper}{T e:TypeId}{x ix:Operand}{k:IntKind}{n:Int}{len sz:Nat}{κ:Key}{off:Nat}{own fz:Bool}{T':TypeId}{cs:List CV}(hd:∀ d,o.dst=some d→d<c.n) (ho:o.op=.indexAddr T x ix)
 (hx:s.val c.G x=.c (.ptr κ off)) (hk:s.lv κ=.cells own fz T' cs) (hi:s.val c.G ix=.c (.d (.int k n))) (hT:arT c.P T=some (len,e,sz)) (h0:0≤n) (h1':n<len) :
 Sim c o s (s.put o.dst (.c (.ptr κ (off+n.toNat*sz)))):=
 Sim.of_pure hd fun F β a w hs=>by
  have h1:=hx ▸ hs.val x
  obtain⟨h1,_⟩:=h1
  simp only [Vw.atPtr,hk] at h1
  have h2:=Vw.c_int (hi ▸ hs.val ix)
  refine⟨_,by simp only [execOp,ho,h1,h2,Sem.run_bind,run_indexAt_array hT _ _ _ _ h0 h1',Result.andThen_ok];rfl,?_,rfl⟩
  simp only [Vw.atPtr,hk]
theorem sim_index_str {o:Oper}{T:TypeId}{x ix:Operand}{l:List UInt8}{k:IntKind}{n:Int}{b:UInt8}(hd:∀ d,o.dst=some d→d<c.n) (ho:o.op=.index T x ix)
 (hx:s.val c.G x=.c (.d (.str l))) (hi:s.val c.G ix=.c (.d (.int k n))) (hT:c.P.underlying T=some .string) (h0:0≤n) (hb:l[n.toNat]?=some b) :
 Sim c o s (s.put o.dst (.c (.d (.int .u8 b.toNat)))):=
 Sim.of_pure hd fun F β a w hs=>by
  have h1:=Vw.c_str (hx ▸ hs.val x)
  have h2:=Vw.c_int (hi ▸ hs.val ix)
  obtain⟨hlt,rfl⟩:=List.getElem?_eq_some_iff.1 hb
  refine⟨.int .u8 (l[n.toNat]).toNat,?_,Vw.mk_int _ _ _ (wrap_in ⟨by simp only [loK];omega,by have:=(l[n.toNat]).toNat_lt;simp only [hiK];omega⟩)⟩
  have h3:(ByteArray.mk l.toArray)[n.toNat]?=some l[n.toNat]:=by
   have:n.toNat<(ByteArray.mk l.toArray).size:=by simpa [ByteArray.size] using hlt
   rw [getElem?_pos (ByteArray.mk l.toArray) n.toNat this]
   rfl
  simp only [execOp,ho,h1,h2,Instr.index,Sem.run_bind,asIntOf,Sem.run_pure,Result.andThen_ok,run_underlying hT,if_pos h0,h3]
theorem sim_index_arr {o:Oper}{T e:TypeId}{x ix:Operand}{cs:List CV}{k:IntKind}{n:Int}{len sz:Nat}{y:AV}(hd:∀ d,o.dst=some d→d<c.n) (ho:o.op=.index T x ix)
 (hx:s.val c.G x=.agg cs) (hi:s.val c.G ix=.c (.d (.int k n))) (hT:arT c.P T=some (len,e,sz)) (h0:0≤n) (h1':n<len) (hp:partA c.P e cs (n.toNat*sz)=some y) :
 Sim c o s (s.put o.dst y):=
 Sim.of_pure hd fun F β a w hs=>by
  have h1:=hx ▸ hs.val x
  obtain⟨arr,h2,h3,h4⟩:=h1
  have h5:=Vw.c_int (hi ▸ hs.val ix)
  obtain⟨hu,hin,hsz⟩:=arT_info hT
  obtain⟨v,h6,h7⟩:=run_part (Vw.mk F β s.lv w) hp arr h3 h4
  refine⟨v,?_,h7⟩
  simp only [execOp,ho,h2,h5,Instr.index,Sem.run_bind,asIntOf,Sem.run_pure,Result.andThen_ok,run_underlying hu,if_pos (And.intro h0 h1'),run_sizeOf hin,hsz,h6]
def bndA:Option AV→Int→Option Int
 | none,n=>some n
 | some (.c (.d (.int _ m))),_=>some m
 | _,_=>none
theorem run_sliceBound' {P:Program}{k:IntKind}{n:Int}{y:Nat}{code:BoundsCode}(h0:0≤n) (h1:n≤y) (w:World) :
 (Instr.sliceBound (.int k n) y code).run P w=.ok n.toNat w:=by
 simp [Instr.sliceBound,asIntOf,h0,h1]
theorem run_sliceBounds {P:Program}{isSlice:Bool}{len cap:Nat}{lo hi:Option Value}{l h:Int}
 (hlo:lo=none∧l=0∨∃ k,lo=some (.int k l)) (hhi:hi=none∧h=len∨∃ k,hi=some (.int k h)) (h0:0≤l) (h1:l≤h) (h2:h≤cap) (w:World) :
 (Instr.sliceBounds isSlice len cap lo hi none).run P w=.ok (l.toNat,h.toNat,cap) w:=by
 rcases hlo with ⟨rfl,rfl⟩|⟨k,rfl⟩ <;> rcases hhi with ⟨rfl,rfl⟩|⟨k',rfl⟩ <;>
  simp [Instr.sliceBounds]
 ·rw [run_sliceBound' (by omega) h2];simp
 ·rw [run_sliceBound' h0 h1];simp
 ·rw [run_sliceBound' (by omega) h2];simp only [Result.andThen_ok];rw [run_sliceBound' h0 (by omega)];simp
theorem bnd_of {V:Vw}{a:Act}{lo:Option Operand}{n l:Int}{val:Operand→AV}(hval:∀ x,V.av (a.eval x) (val x)) (h:bndA (lo.map val) n=some l) :
 lo.map a.eval=none∧l=n∨∃ k,lo.map a.eval=some (.int k l):=by
 cases lo with
 | none=>simp [bndA] at h;grind
 | some x=>
  right
  simp only [Option.map_some] at h ⊢
  have hv:=hval x
  unfold bndA at h
  split at h
  ·grind
  ·rename_i k m e
   simp only [Option.some.injEq] at e h
   subst h
   rw [e] at hv
   exact⟨k,by rw [Vw.c_int hv]⟩
  grind
theorem extract_mk (bs:List UInt8)(a b:Nat):(ByteArray.mk bs.toArray).extract a b=⟨((bs.take b).drop a).toArray⟩:=by
 apply ByteArray.ext
 apply Array.toList_inj.1
 have:=Lib.extract_data (ByteArray.mk bs.toArray) a b
 rw [this]
 simp [List.drop_take]
theorem sim_slice_str {o:Oper}{T:TypeId}{x:Operand}{lo hi:Option Operand}{bs:List UInt8}{l h:Int}(hd:∀ d,o.dst=some d→d<c.n) (ho:o.op=.slice T x lo hi none)
 (hx:s.val c.G x=.c (.d (.str bs))) (hT:c.P.underlying T=some .string) (hlo:bndA (lo.map (s.val c.G)) 0=some l) (hhi:bndA (hi.map (s.val c.G)) bs.length=some h)
 (h0:0≤l) (h1:l≤h) (h2:h≤bs.length):Sim c o s (s.put o.dst (.c (.d (.str ((bs.take h.toNat).drop l.toNat))))):=
 Sim.of_pure hd fun F β a w hs=>by
  have e1:=Vw.c_str (hx ▸ hs.val x)
  have e1':=Vw.str_rng (hx ▸ hs.val x)
  have b1:=bnd_of hs.val hlo
  have b2:=bnd_of hs.val hhi
  refine⟨.string ⟨((bs.take h.toNat).drop l.toNat).toArray⟩,?_,Vw.mk_str _ _ (by simp;omega)⟩
  have hsize:(ByteArray.mk bs.toArray).size=bs.length:=by simp [ByteArray.size]
  simp only [execOp,ho,e1,Instr.sliceAt,Sem.run_bind,run_underlying hT,Result.andThen_ok,Instr.slice,Option.map_none,Option.isSome_none,Bool.false_eq_true,if_false]
  rw [run_sliceBounds (l:=l) (h:=h) (by omega) (by grind) h0 h1 (by omega)]
  simp only [Result.andThen_ok,Sem.run_pure,extract_mk]
theorem Rd.sl_part {M:Mem}{b o cap:Nat}{es:List (List DV)}{len:Nat}(h:Rd M (.slice (some ⟨b,o,none⟩) len cap) (.sl es)) {sz:Nat}(hsz:∀ e∈es,e.length=sz)
 {l h':Nat}(h1:l≤h') (h2:h'≤es.length) (b':Nat) (o':Nat) (hb:l<h'→b'=b∧o'=o+l*sz) (cap':Nat) (hc:h' - l≤cap') :
 Rd M (.slice (some ⟨b',o',none⟩) (h' - l) cap') (.sl ((es.take h').drop l)):=by
 cases h with
 | sl _ _ _ sz' _ vs hl hcap hbig hm ho hr=>
  have hlen:((es.take h').drop l).length=h' - l:=by simp;omega
  have key:=Rd.sl (M:=M) b' o' cap' sz ((es.take h').drop l) (fun i j=>vs (l+i) j) (fun e he=>hsz e (List.mem_of_mem_take (List.mem_of_mem_drop he))) (by omega) (by omega) ?_ ?_ ?_
  ·rwa [hlen] at key
  ·grind
  ·grind
  grind
 | sl0 a=>
  have e1:l=0:=by simp at h2;omega
  have e2:h'=0:=by simpa using h2
  subst e1 e2
  exact Rd.sl b' o' cap' sz [] (fun _ _=>undef) (fun _ h=>by cases h) (Nat.zero_le _) (Nat.zero_le _) (fun i h=>by cases h) (fun i h=>by cases h) (fun i h=>by cases h)
theorem run_sliceAt_zero {P:Program}{T e:TypeId}{sz:Nat}(h:slT P T=some (e,sz)) {a:Addr}{lo hi:Option Value}(hlo:lo=none∧(0:Int)=0∨∃ k,lo=some (.int k 0)) (hhi:hi=none∧(0:Int)=((0:Nat):Int)∨∃ k,hi=some (.int k 0)) (w:World) :
 (Instr.sliceAt T (.slice (some a) 0 0) lo hi none).run P w=.ok (.slice (some a) 0 0) w:=by
 obtain⟨hu,hi',hs⟩:=slT_info h
 simp only [Instr.sliceAt,Sem.run_bind,run_underlying hu,Result.andThen_ok,Instr.slice]
 rw [run_sliceBounds hlo hhi (Int.le_refl _) (Int.le_refl _) (by simp)]
 simp only [Result.andThen_ok,run_sizeOf hi',hs,Sem.run_pure,Option.map_some]
 grind
theorem run_sliceAt_slice' {P:Program}{T e:TypeId}{sz:Nat}(h:slT P T=some (e,sz)) {b o len cap:Nat}{lo hi:Option Value}{l hh:Int}
 (hlo:lo=none∧l=0∨∃ k,lo=some (.int k l)) (hhi:hi=none∧hh=len∨∃ k,hi=some (.int k hh)) (h0:0≤l) (h1:l≤hh) (h2:hh≤cap) (w:World) :
 (Instr.sliceAt T (.slice (some ⟨b,o,none⟩) len cap) lo hi none).run P w=.ok (.slice (some (if cap=l.toNat then ⟨b,o,none⟩ else ⟨b,o+l.toNat*sz,none⟩)) (hh.toNat - l.toNat) (cap - l.toNat)) w:=by
 obtain⟨hu,hi',hs⟩:=slT_info h
 simp only [Instr.sliceAt,Sem.run_bind,run_underlying hu,Result.andThen_ok,Instr.slice]
 rw [run_sliceBounds hlo hhi h0 h1 h2]
 simp only [Result.andThen_ok,run_sizeOf hi',hs,Sem.run_pure,Option.map_some,Addr.add_lit]
 grind
theorem sim_slice_d {o:Oper}{T e:TypeId}{x:Operand}{lo hi:Option Operand}{es:List (List DV)}{l h:Int}{sz:Nat}(hd:∀ d,o.dst=some d→d<c.n) (ho:o.op=.slice T x lo hi none)
 (hx:s.val c.G x=.c (.d (.sl es))) (hT:slT c.P T=some (e,sz)) (hes:∀ e∈es,e.length=sz) (hlo:bndA (lo.map (s.val c.G)) 0=some l) (hhi:bndA (hi.map (s.val c.G)) es.length=some h)
 (h0:0≤l) (h1:l≤h) (h2:h≤es.length):Sim c o s (s.put o.dst (.c (.d (.sl ((es.take h.toNat).drop l.toNat))))):=
 Sim.of_pure hd fun F β a w hs=>by
  have e1:=hx ▸ hs.val x
  obtain⟨e1,_⟩:=e1
  have b1:=bnd_of hs.val hlo
  have b2:=bnd_of hs.val hhi
  rcases e1.sl_elem with ⟨b,o',cap,h3,h4,_⟩|⟨ad,h3,rfl⟩
  rotate_left
  ·have e2:h=0:=by simp at h2;omega
   have e3:l=0:=by omega
   subst e2 e3
   exact⟨_,by simp only [execOp,ho,h3,Sem.run_bind,Option.map_none,run_sliceAt_zero hT b1 b2,Result.andThen_ok];rfl,.sl0 ad,rfl⟩
  rw [h3] at e1
  have hr:=run_sliceAt_slice' (b:=b) (o:=o') (cap:=cap) hT b1 b2 h0 h1 (by omega) w
  refine⟨_,by simp only [execOp,ho,h3,Sem.run_bind,Option.map_none,hr,Result.andThen_ok];rfl,?_,rfl⟩
  by_cases hcap:cap=l.toNat
  ·simp only [if_pos hcap]
   exact Rd.sl_part e1 hes (by omega) (by omega) _ _ (fun hlt=>by omega) _ (by omega)
  ·simp only [if_neg hcap]
   exact Rd.sl_part e1 hes (by omega) (by omega) _ _ (fun _=>⟨rfl,rfl⟩) _ (by omega)
theorem sim_slice_l {o:Oper}{T e:TypeId}{x:Operand}{lo hi:Option Operand}{κ:Key}{off len:Nat}{own fz:Bool}{T':TypeId}{cs:List CV}{l h:Int}{sz:Nat}(hd:∀ d,o.dst=some d→d<c.n) (ho:o.op=.slice T x lo hi none)
 (hx:s.val c.G x=.c (.lsl κ off len sz)) (hk:s.lv κ=.cells own fz T' cs) (hT:slT c.P T=some (e,sz)) (hlo:bndA (lo.map (s.val c.G)) 0=some l) (hhi:bndA (hi.map (s.val c.G)) len=some h)
 (h0:0≤l) (h1:l≤h) (h2:h≤len) (h3:l<h∨l=0):Sim c o s (s.put o.dst (.c (.lsl κ (off+l.toNat*sz) (h.toNat - l.toNat) sz))):=
 Sim.of_pure hd fun F β a w hs=>by
  have e1:=hx ▸ hs.val x
  obtain⟨e1,_⟩:=e1
  simp only [Vw.atLsl,hk] at e1
  obtain⟨cap,e2,e3,e4⟩:=e1
  have b1:=bnd_of hs.val hlo
  have b2:=bnd_of hs.val hhi
  have hr:=run_sliceAt_slice' (b:=β κ) (o:=off) (cap:=cap) hT b1 b2 h0 h1 (by omega) w
  refine⟨_,by simp only [execOp,ho,e2,Sem.run_bind,Option.map_none,hr,Result.andThen_ok];rfl,?_,rfl⟩
  simp only [Vw.atLsl,hk]
  refine⟨cap - l.toNat,?_,by omega,?_⟩
  ·grind
  ·have:cap*sz=l.toNat*sz+(cap - l.toNat)*sz:=by rw [← Nat.add_mul];congr 1;omega
   omega
theorem sim_slice_f {o:Oper}{T e:TypeId}{x y z:Operand}{κ:Key}{off len:Nat}{own fz:Bool}{T':TypeId}{cs:List CV}{k1 k2:IntKind}{h:Int}{sz:Nat}(hd:∀ d,o.dst=some d→d<c.n) (ho:o.op=.slice T x none (some y) (some z))
 (hx:s.val c.G x=.c (.lsl κ off len sz)) (hk:s.lv κ=.cells own fz T' cs) (hT:slT c.P T=some (e,sz)) (hy:s.val c.G y=.c (.d (.int k1 h))) (hz:s.val c.G z=.c (.d (.int k2 h)))
 (h0:0≤h) (h2:h≤len):Sim c o s (s.put o.dst (.c (.lsf κ off h.toNat sz))):=
 Sim.of_pure hd fun F β a w hs=>by
  have e1:=hx ▸ hs.val x
  obtain⟨e1,_⟩:=e1
  simp only [Vw.atLsl,hk] at e1
  obtain⟨cap,e2,e3,e4⟩:=e1
  have ey:a.eval y=.int k1 h:=Vw.c_int (hy ▸ hs.val y)
  have ez:a.eval z=.int k2 h:=Vw.c_int (hz ▸ hs.val z)
  obtain⟨hu,hi',hss⟩:=slT_info hT
  have hr:(Instr.sliceAt T (.slice (some ⟨β κ,off,none⟩) len cap) none (some (.int k1 h)) (some (.int k2 h))).run c.P w=.ok (.slice (some ⟨β κ,off,none⟩) h.toNat h.toNat) w:=by
   simp only [Instr.sliceAt,Sem.run_bind,run_underlying hu,Result.andThen_ok,Instr.slice,Instr.sliceBounds]
   rw [run_sliceBound' h0 (by omega)]
   simp only [Result.andThen_ok]
   rw [run_sliceBound' h0 (by omega)]
   simp [run_sizeOf hi',Addr.add_lit]
  refine⟨_,by simp only [execOp,ho,e2,ey,ez,Sem.run_bind,Option.map_none,Option.map_some,hr,Result.andThen_ok];rfl,⟨?_,rfl⟩,fun _ _ _ h=>by cases h;rfl⟩
  simp only [Vw.atLsl,hk]
  refine⟨h.toNat,rfl,Nat.le_refl _,?_⟩
  have:h.toNat*sz≤cap*sz:=Nat.mul_le_mul_right _ (by omega)
  show off+h.toNat*sz≤asize w (β κ)
  omega
theorem sim_slice_le {o:Oper}{T e:TypeId}{x:Operand}{lo hi:Option Operand}{κ:Key}{off len:Nat}{own fz:Bool}{T':TypeId}{cs:List CV}{l h:Int}{sz:Nat}(hd:∀ d,o.dst=some d→d<c.n) (ho:o.op=.slice T x lo hi none)
 (hx:s.val c.G x=.c (.lsl κ off len sz)) (hk:s.lv κ=.cells own fz T' cs) (hT:slT c.P T=some (e,sz)) (hlo:bndA (lo.map (s.val c.G)) 0=some l) (hhi:bndA (hi.map (s.val c.G)) len=some h)
 (h0:0≤l) (h1:l=h) (h2:h≤len):Sim c o s (s.put o.dst (.c (.d (.sl [])))):=
 Sim.of_pure hd fun F β a w hs=>by
  have e1:=hx ▸ hs.val x
  obtain⟨e1,_⟩:=e1
  simp only [Vw.atLsl,hk] at e1
  obtain⟨cap,e2,e3,e4⟩:=e1
  have b1:=bnd_of hs.val hlo
  have b2:=bnd_of hs.val hhi
  have hr:=run_sliceAt_slice' (b:=β κ) (o:=off) (cap:=cap) hT b1 b2 h0 (by omega) (by omega) w
  refine⟨_,by simp only [execOp,ho,e2,Sem.run_bind,Option.map_none,hr,Result.andThen_ok];rfl,?_,rfl⟩
  subst h1
  rw [Nat.sub_self]
  have key:∀ ad:Addr,ad.spot=none→Rd (Vw.mk F β s.lv w).mem (.slice (some ad) 0 (cap - l.toNat)) (.sl []):=by
   intro ad hsp
   obtain⟨b,o',sp⟩:=ad
   simp only at hsp;subst hsp
   exact Rd.sl b o' _ 0 [] (fun _ _=>undef) (fun _ h=>by cases h) (Nat.zero_le _) (Nat.zero_le _) (fun i h=>by cases h) (fun i h=>by cases h) (fun i h=>by cases h)
  grind
theorem sim_slice_nil {o:Oper}{T e:TypeId}{x:Operand}{lo hi:Option Operand}{l h:Int}{sz:Nat}(hd:∀ d,o.dst=some d→d<c.n) (ho:o.op=.slice T x lo hi none)
 (hx:s.val c.G x=.c (.d .nilsl)) (hT:slT c.P T=some (e,sz)) (hlo:bndA (lo.map (s.val c.G)) 0=some l) (hhi:bndA (hi.map (s.val c.G)) 0=some h)
 (h0:l=0) (h1:h=0):Sim c o s (s.put o.dst (.c (.d .nilsl))):=
 Sim.of_pure hd fun F β a w hs=>by
  have e1:=hx ▸ hs.val x
  obtain⟨e1,_⟩:=e1
  obtain⟨v,hv⟩:∃ v,a.eval x=v:=⟨_,rfl⟩
  rw [hv] at e1
  have b1:=bnd_of hs.val hlo
  have b2:=bnd_of hs.val hhi
  obtain⟨hu,hi',hsz⟩:=slT_info hT
  subst h0 h1
  cases e1
  refine⟨.slice none 0 0,?_,.nilsl,rfl⟩
  simp only [execOp,ho,hv,Option.map_none,Instr.sliceAt,Sem.run_bind,run_underlying hu,Result.andThen_ok,Instr.slice]
  rw [run_sliceBounds (l:=0) (h:=0) b1 b2 (by omega) (by omega) (by omega)]
  simp [run_sizeOf hi']
end
def repl (n:Nat)(zs:List CV):List CV:=(List.replicate n zs).flatten
theorem repl_one (n:Nat)(z:CV):repl n [z]=List.replicate n z:=by
 unfold repl
 simp
theorem repl_length (n:Nat)(zs:List CV):(repl n zs).length=n*zs.length:=by
 simp [repl]
theorem repl_get (n:Nat)(zs:List CV):∀ (i:Nat) (h:i<(repl n zs).length) (h':i % zs.length<zs.length),(repl n zs)[i]=zs[i % zs.length]:=by
 induction n with
 | zero=>intro i h;simp [repl] at h
 | succ n ih=>
  intro i h h'
  have e:repl (n+1) zs=zs++repl n zs:=by simp [repl,List.replicate_succ]
  simp only [e]
  by_cases hi:i<zs.length
  ·rw [List.getElem_append_left hi]
   congr 1;exact (Nat.mod_eq_of_lt hi).symm
  ·have hi':zs.length≤i:=by omega
   rw [List.getElem_append_right hi']
   have h2:(i - zs.length) % zs.length=i % zs.length:=by
    conv=>rhs;rw [← Nat.sub_add_cancel hi',Nat.add_mod_right]
   grind
section
variable {c:Ctx}{F:Nat→Prop}{β:Key→Nat}{s:LSt}{a:Act}{w:World}
theorem sim_make {o:Oper}{T e:TypeId}{x y:Operand}{κ:Key}{k k':IntKind}{l m:Int}{sz:Nat}{i:TypeInfo}{z:Value}{zs:List CV}(hd:∀ d,o.dst=some d→d<c.n) (ho:o.op=.makeSlice T x y)
 (hκ:s.lv κ=.hole) (hx:s.val c.G x=.c (.d (.int k l))) (hy:s.val c.G y=.c (.d (.int k' m))) (hT:slT c.P T=some (e,sz)) (hi:c.P.info? e=some i) (hz:i.zero=some z) (hzs:(cst z).cells=some zs) (hlen:zs.length=sz)
 (hpos:0<sz) (h0:0≤l) (h1:l≤m) (hb:(i.bytes:Int)*m≤281474976710656) (h63:m≤9223372036854775807) :
 Sim c o s (LSt.put ⟨s.fr,upd s.lv κ (.cells true false e (repl l.toNat zs))⟩ o.dst (.c (.lsl κ 0 l.toNat sz))):=
 Sim.of_value hd fun F β a w hs=>by
  have h2:=Vw.c_int (hx ▸ hs.val x)
  have h3:=Vw.c_int (hy ▸ hs.val y)
  obtain⟨hu,hie,hsz⟩:=slT_info hT
  have hsize:i.size=sz:=by rw [← hsz];simp [szT,hi]
  have hr:=run_make (P:=c.P) w T e i z hu hi hz k k' l m h0 h1 hb h63
  obtain⟨h5,h6⟩:=Vw.av_cells (av_cst (Vw.mk F β s.lv w) z) hzs
  have hlm:l.toNat*sz≤m.toNat*sz:=Nat.mul_le_mul_right _ (by omega)
  refine⟨_,F,upd β κ w.heap.size,_,by simp only [execOp,ho,h2,h3,Sem.run_bind,hr,Result.andThen_ok];rfl,?_,?_,rfl⟩
  ·refine hs.alloc hκ e ?_ ?_
   ·rw [repl_length,size_madeCells,hlen,hsize];exact hlm
   ·intro j hj hj'
    have hm:j % zs.length<zs.length:=Nat.mod_lt _ (by omega)
    rw [repl_get _ _ _ hj hm]
    have hsz':z.cells.size=zs.length:=h5
    simp only [madeCells,Array.getElem_map,Array.getElem_range]
    grind
  ·simp only [Vw.atLsl,upd_same]
   refine⟨m.toNat,rfl,by omega,?_⟩
   simp only [asize,heap_alloc,if_true,size_madeCells,hsize]
   omega
def strT (P:Program)(T:TypeId):Bool:=match P.underlying T with|some .string=>true|_=>false
theorem strT_info {P:Program}{T:TypeId}(h:strT P T=true):P.underlying T=some .string:=by
 unfold strT at h
 grind
def lenA (P:Program)(T:TypeId)(lv:Key→LB):AV→Option Int
 | .c (.d (.str l))=>if strT P T then some l.length else none
 | .c (.d (.sl es))=>if (slT P T).isSome then some es.length else none
 | .c (.d .nilsl)=>if (slT P T).isSome then some 0 else none
 | .c (.lsl k _ len _)=>if (slT P T).isSome then (match lv k with|.cells ..|.nils=>some len|_=>none) else none
 | _=>none
def lenOk (x:AV)(n:Int):Prop:=
 match x with
 | .c (.lsl ..)=>n≤9223372036854775807
 | _=>True
theorem Vw.sl_rng {V:Vw}{v:Value}{es:List (List DV)}(h:V.av v (.c (.d (.sl es)))):es.length≤9223372036854775807:=by
 obtain⟨h,_⟩:=h;cases h
 ·omega
 ·simp
theorem lenA_rng {V:Vw}{P:Program}{T:TypeId}{x:AV}{v:Value}{n:Int}(hv:V.av v x) (hn:lenA P T V.lv x=some n) (hok:lenOk x n):0≤n∧n≤9223372036854775807:=by
 unfold lenA at hn
 split at hn
 ·split at hn
  ·simp only [Option.some.injEq] at hn;subst hn
   have:=Vw.str_rng hv;omega
  grind
 ·split at hn
  ·simp only [Option.some.injEq] at hn;subst hn
   have:=Vw.sl_rng hv;omega
  grind
 ·grind
 ·simp only [lenOk] at hok
  grind
 grind
theorem sim_len {o:Oper}{T:TypeId}{x:Operand}{n:Int}(hd:∀ d,o.dst=some d→d<c.n) (ho:o.op=.call { callee:=.builtin .len,args:=#[x],argTypes:=#[T] })
 (hn:lenA c.P T s.lv (s.val c.G x)=some n) (hok:lenOk (s.val c.G x) n):Sim c o s (s.put o.dst (.c (.d (.int .i64 n)))):=
 Sim.of_pure hd fun F β a w hs=>by
  have hv:=hs.val x
  refine⟨.int .i64 n,?_,Vw.mk_int _ _ _ (wrap_in (by have:=lenA_rng hv hn hok;simp only [loK,hiK];omega))⟩
  have key:(Builtin.len_ #[T] o.type #[a.eval x]).run c.P w=.ok (goInt n) w:=by
   unfold lenA at hn
   split at hn
   ·rename_i l e
    split at hn
    ·rename_i hT
     have hT':=strT_info hT
     simp only [Option.some.injEq] at hn;subst hn
     rw [e] at hv
     rw [Vw.c_str hv]
     simp [Builtin.len_,run_underlying hT']
     rfl
    grind
   ·rename_i es e
    split at hn
    ·rename_i hT
     obtain⟨⟨e',sz⟩,hT⟩:=Option.isSome_iff_exists.1 hT
     obtain⟨hu,_,_⟩:=slT_info hT
     simp only [Option.some.injEq] at hn;subst hn
     rw [e] at hv
     rcases hv.1.sl_elem with ⟨b,o',cap,h3,_⟩|⟨ad,h3,rfl⟩
     ·rw [h3]
      simp [Builtin.len_,run_underlying hu]
     ·rw [h3]
      simp [Builtin.len_,run_underlying hu]
    grind
   ·rename_i e
    split at hn
    ·rename_i hT
     obtain⟨⟨e',sz⟩,hT⟩:=Option.isSome_iff_exists.1 hT
     obtain⟨hu,_,_⟩:=slT_info hT
     simp only [Option.some.injEq] at hn;subst hn
     rw [e] at hv
     obtain⟨v,hv'⟩:∃ v,a.eval x=v:=⟨_,rfl⟩
     rw [hv'] at hv ⊢
     obtain⟨hv,_⟩:=hv
     cases hv
     simp [Builtin.len_,run_underlying hu]
    grind
   ·rename_i k off len sz' e
    split at hn
    ·rename_i hT
     obtain⟨⟨e',sz⟩,hT⟩:=Option.isSome_iff_exists.1 hT
     obtain⟨hu,_,_⟩:=slT_info hT
     rw [e] at hv
     obtain⟨hv,_⟩:=hv
     simp only [Vw.atLsl] at hv
     split at hn
     ·rename_i ek
      simp only [Option.some.injEq] at hn;subst hn
      simp only [ek] at hv
      obtain⟨cap,h3,_⟩:=hv
      rw [h3];simp [Builtin.len_,run_underlying hu]
     ·rename_i ek
      simp only [Option.some.injEq] at hn;subst hn
      simp only [ek] at hv
      obtain⟨h3,_,h4⟩:=hv
      rw [h3,h4];simp [Builtin.len_,run_underlying hu]
     grind
    grind
   ·cases hn
  simp [execOp,ho,resolve,invoke,builtin,key,goInt]
def srcA (lv:Key→LB)(sz:Nat):AV→Option (Nat × List CV)
 | .c (.d (.sl es))=>if es.all (·.length == sz) then some (es.length,es.flatten.map .d) else none
 | .c (.d .nilsl)=>some (0,[])
 | .c (.lsl k off len sz')=>match lv k with
  | .cells _ _ _ cs=>if sz'=sz∧off+len*sz≤cs.length then some (len,(cs.drop off).take (len*sz)) else none
  | .nils=>some (0,[])
  | _=>none
 | _=>none
theorem flatten_get {α:Type}:∀ (es:List (List α)) (sz:Nat) (_:∀ e∈es,e.length=sz) (i j:Nat) (hi:i<es.length) (_hj:j<sz) (h':j<es[i].length),
 ∃ h:i*sz+j<es.flatten.length,es.flatten[i*sz+j]=es[i][j]
 | [],_,_,i,_,hi,_,_=>by simp at hi
 | e::es,sz,hl,0,j,hi,hj,h'=>by
  grind
 | e::es,sz,hl,i+1,j,hi,hj,h'=>by
  have he:e.length=sz:=hl e (by simp)
  obtain⟨h1,h2⟩:=flatten_get es sz (fun e he=>hl e (by simp [he])) i j (by grind) hj (by grind)
  grind
theorem flatten_len {α:Type}(es:List (List α)) (sz:Nat) (hl:∀ e∈es,e.length=sz):es.flatten.length=es.length*sz:=by
 induction es with
 | nil=>simp
 | cons e es ih=>
  grind
theorem StOK.src (hs:StOK c F β s a w){x:Operand}{sz m:Nat}{xs:List CV}(h:srcA s.lv sz (s.val c.G x)=some (m,xs)) :
 xs.length=m*sz∧∃ ao cap,a.eval x=.slice ao m cap∧(ao=none→m=0)∧(∀ ad,ao=some ad→0<m→ad.spot=none) ∧
  ∃ vs:List Value,vs.length=xs.length∧(∀ ad,ao=some ad→∀ j u,vs[j]?=some u→w.cell? (ad.add j)=some u) ∧
   ∀ i (h:i<xs.length) (h':i<vs.length),(Vw.mk F β s.lv w).cv vs[i] xs[i]:=by
 have hv:=hs.val x
 unfold srcA at h
 split at h
 ·rename_i es e
  split at h
  ·rename_i hall
   simp only [Option.some.injEq,Prod.mk.injEq] at h
   obtain⟨rfl,rfl⟩:=h
   rw [e] at hv
   have hsz:∀ e∈es,e.length=sz:=by
    intro e he;rw [List.all_eq_true] at hall;simpa using hall e he
   have hlen:=flatten_len es sz hsz
   obtain⟨hv,_⟩:=hv
   obtain⟨v,hv'⟩:∃ v,a.eval x=v:=⟨_,rfl⟩
   rw [hv'] at hv
   have hlen':(es.flatten.map CV.d).length=es.length*sz:=by rw [List.length_map,hlen]
   refine⟨hlen',?_⟩
   cases hv with
   | sl b off cap sz' _ vs hl hc hbig hm hone hr=>
    refine⟨some ⟨b,off,none⟩,cap,hv',by simp,by simp,(List.range (es.length*sz)).map (fun n=>vs (n / sz) (n % sz)),by grind,?_,?_⟩
    ·rintro ad ⟨⟩ j u hu
     rw [List.getElem?_map] at hu
     have hj:j<es.length*sz:=by
      rcases Nat.lt_or_ge j (es.length*sz) with h|h
      ·exact h
      ·rw [List.getElem?_eq_none (by simpa using h)] at hu;cases hu
     rw [List.getElem?_range hj] at hu
     simp only [Option.map_some,Option.some.injEq] at hu;subst hu
     have hszp:0<sz:=by rcases Nat.eq_zero_or_pos sz with h|h;· rw [h] at hj;simp at hj
                        ·exact h
     have hi:j / sz<es.length:=Nat.div_lt_of_lt_mul (by grind)
     have hs':sz'=sz:=by rw [← hl _ (List.getElem_mem hi),hsz _ (List.getElem_mem hi)]
     have:=(hm (j / sz) hi (j % sz) (by rw [hs'];exact Nat.mod_lt _ hszp)).2
     rw [hs'] at this
     rw [Addr.add_lit]
     have hj2:off+j / sz*sz+j % sz=off+j:=by rw [Nat.add_assoc,Nat.div_add_mod']
     grind
    ·intro i p q
     simp only [List.getElem_map,List.getElem_range]
     have hj:i<es.length*sz:=by rwa [hlen'] at p
     have hszp:0<sz:=by rcases Nat.eq_zero_or_pos sz with h|h;· rw [h] at hj;simp at hj
                        ·exact h
     have hi:i / sz<es.length:=Nat.div_lt_of_lt_mul (by grind)
     have hjm:i % sz<sz:=Nat.mod_lt _ hszp
     have hs':sz'=sz:=by rw [← hl _ (List.getElem_mem hi),hsz _ (List.getElem_mem hi)]
     have hin:i % sz<es[i / sz].length:=by rw [hsz _ (List.getElem_mem hi)];exact hjm
     obtain⟨h1,h2⟩:=flatten_get es sz hsz (i / sz) (i % sz) hi hjm hin
     have h3:i / sz*sz+i % sz=i:=Nat.div_add_mod' i sz
     simp only [h3] at h2
     rw [h2]
     exact⟨hr _ hi _ hin,hone _ hi _ (by omega)⟩
   | sl0 ad=>
    exact⟨some ad,0,hv',by simp,by simp,[],by simp,by rintro ad ⟨⟩ j u hu;simp at hu,by intro i p;simp at p⟩
  grind
 ·rename_i e
  simp only [Option.some.injEq,Prod.mk.injEq] at h
  obtain⟨rfl,rfl⟩:=h
  rw [e] at hv
  obtain⟨hv,_⟩:=hv
  obtain⟨v,hv'⟩:∃ v,a.eval x=v:=⟨_,rfl⟩
  rw [hv'] at hv
  cases hv
  simp_all
 ·rename_i k off len sz' e
  rw [e] at hv
  obtain⟨hv,_⟩:=hv
  simp only [Vw.atLsl] at hv
  split at h
  ·rename_i own fz T cs ek
   simp only [ek] at hv
   split at h
   ·rename_i hc
    obtain⟨rfl,hc⟩:=hc
    simp only [Option.some.injEq,Prod.mk.injEq] at h
    obtain⟨rfl,rfl⟩:=h
    obtain⟨cap,h3,h4,h5⟩:=hv
    have hb:=hs.blk k
    unfold Vw.blk at hb;simp only [ek] at hb
    obtain⟨arr,h6,h7,h8,_⟩:=hb
    refine⟨by simp;omega,some ⟨β k,off,none⟩,cap,h3,by simp,by simp,(arr.toList.drop off).take (len*sz'),by simp;omega,?_,?_⟩
    ·rintro ad ⟨⟩ j u hu
     rw [List.getElem?_take] at hu
     split at hu
     ·rw [List.getElem?_drop,Array.getElem?_toList] at hu
      rw [Addr.add_lit,cell_of_row w _ _ _ _ _ h6]
      exact hu
     grind
    grind
   grind
  ·rename_i ek
   simp only [ek] at hv
   simp only [Option.some.injEq,Prod.mk.injEq] at h
   obtain⟨rfl,rfl⟩:=h
   simp_all
  grind
 grind
end
section
variable {c:Ctx}{F:Nat→Prop}{β:Key→Nat}{s:LSt}{a:Act}{w:World}
theorem StOK.run_append_new (hs:StOK c F β s a w){T e:TypeId}{ty:TypeId}{κ:Key}{m sz:Nat}{xs:List CV}{i:TypeInfo}{z:Value}(hκ:s.lv κ=.hole) (hT:slT c.P T=some (e,sz))
 (hi:c.P.info? e=some i) (hz:i.zero=some z) {x:Operand}(hx:srcA s.lv sz (s.val c.G x)=some (m,xs)) (hzs:z.cells.size=sz) (h63:m≤9223372036854775807) (hb:m*i.bytes≤140737488355328) :
 ∃ v F' β' w',(Builtin.append_ #[T,T] ty #[.slice none 0 0,a.eval x]).run c.P w=.ok v w' ∧
  StOK c F' β' ⟨s.fr,upd s.lv κ (if m=0 then .nils else .cells true false e xs)⟩ a w' ∧
  (Vw.mk F' β' (upd s.lv κ (if m=0 then .nils else .cells true false e xs)) w').cv v (.lsl κ 0 m sz):=by
 obtain⟨hu,hie,hsz⟩:=slT_info hT
 have hsize:i.size=sz:=by rw [← hsz];simp [szT,hi]
 obtain⟨hlen,ao,cap,h1,h2,h3,vs,h4,h5,h6⟩:=hs.src hx
 by_cases hm:m=0
 ·subst hm
  have hn:StOK c F β ⟨s.fr,upd s.lv κ .nils⟩ a w:=by
   refine hs.step (fun _ h=>h) (fun _ _=>rfl) ?_ (fun _ _ _=>rfl) (fun _=>Nat.le_refl _) ?_ ?_ (fun b h=>.inl h) (Nat.le_refl _) (fun _ _ _=>rfl)
   ·intro k
    by_cases e:k=κ
    ·subst e;rw [hκ];simp [LB.sub]
    ·rw [upd_ne _ _ e];exact LB.sub_refl _
   ·intro k hK
    by_cases e:k=κ
    ·subst e;unfold Vw.blk;simp only [upd_same]
    ·exact Vw.blk_keep (hs.blk k) hK (upd_ne _ _ e) rfl rfl (fun _ h=>h)
   ·intro k1 k2 g1 g2 he
    have g:∀ k',(upd s.lv κ .nils k').live=true→(s.lv k').live=true:=by
     intro k' hk'
     by_cases e:k'=κ
     ·subst e;rw [upd_same] at hk';simp [LB.live] at hk'
     ·rwa [upd_ne _ _ e] at hk'
    exact hs.inj _ _ (g _ g1) (g _ g2) he
  refine⟨.slice none 0 0,F,β,w,?_,by simpa using hn,?_⟩
  ·rw [h1]
   have hvs:vs=[]:=List.eq_nil_of_length_eq_zero (by omega)
   subst hvs
   have hf:(Builtin.firstCells i.size 0 (.slice ao 0 cap)).run c.P w=.ok #[] w:=by
    cases ao with
    | none=>rfl
    | some ad=>simp [Builtin.firstCells,loadCells,loadCellsFrom]
   simp [Builtin.append_,run_underlying hu,sizeOf,typeInfo,hi,Builtin.lenOf,hf]
  ·simp [Vw.cv,Vw.atLsl,upd_same,Value.oneCell']
 ·cases ao with
  | none=>grind
  | some ad=>
   have hl':vs.length=m*i.size:=by rw [h4,hlen,hsize]
   have hr:=run_append_nil (P:=c.P) w T ty e i z hu hi hz ad m cap vs hl' (h5 ad rfl) (by omega) (by omega) (by omega)
   have hd:StOK c F β s a w.drew:=hs.heap rfl
   have hal:=hd.alloc hκ (arr:=vs.toArray++Builtin.zeroCells z.cells (grownCap w m 0 e - m)) e (cs:=xs) (by simp;omega) (fun j p q=>by
    have hj:j<vs.length:=by omega
    have:(vs.toArray++Builtin.zeroCells z.cells (grownCap w m 0 e - m))[j]=vs[j]:=by
     rw [Array.getElem_append_left (by simpa using hj)];simp
    rw [this]
    exact (Vw.keyLe_of (V:=Vw.mk F β s.lv w) (V':=Vw.mk F β s.lv w.drew) (fun _ h=>h) (fun _ _=>rfl) (fun _=>LB.sub_refl _) (fun _ _ _=>rfl) (fun _=>Nat.le_refl _)).cv (h6 j p hj))
   refine⟨_,F,upd β κ w.heap.size,_,by rw [h1];exact hr,by simpa [hm] using hal,?_⟩
   simp only [hm,if_false,Vw.cv,Vw.atLsl,upd_same]
   refine⟨⟨_,rfl,?_,?_⟩,rfl⟩
   ·exact grownCap_ge w m 0 e
   ·have hge:=grownCap_ge w m 0 e
    simp only [asize,heap_alloc,World.size_drew,if_true,Array.size_append,List.size_toArray,size_zeroCells,hl',hsize,hzs]
    rw [← Nat.add_mul]
    grind
theorem upd_upd {α:Type}(f:Nat→α) (i:Nat) (x y:α):upd (upd f i x) i y=upd f i y:=by
 funext t;unfold upd;grind
theorem upd_same' {α:Type}{f:Nat→α}{k:Nat}{x:α}:upd f k x k=x:=by simp [upd]
theorem StOK.unown (h:StOK c F β s a w){k:Key}{T:TypeId}{cs:List CV}(own:Bool) (hk:s.lv k=.cells true false T cs) :
 StOK c F β ⟨s.fr,upd s.lv k (.cells own false T cs)⟩ a w:=by
 have hlive:(s.lv k).live=true:=by rw [hk];rfl
 refine h.step (fun _ h=>h) (fun _ _=>rfl) ?_ (fun _ _ _=>rfl) (fun _=>Nat.le_refl _) ?_ ?_ (fun b h=>.inl h) (Nat.le_refl _) (fun _ _ _=>rfl)
 ·intro k'
  by_cases e:k'=k
  ·subst e;rw [upd_same,hk];simp [LB.sub]
  ·rw [upd_ne _ _ e];exact LB.sub_refl _
 ·intro k' hK
  by_cases e:k'=k
  ·subst e
   have hb:=h.blk k'
   unfold Vw.blk at hb ⊢;simp only [hk] at hb;simp only [upd_same]
   obtain⟨arr,h1,h2,h3,h4,h5⟩:=hb
   refine⟨arr,h1,h2,fun i p q=>hK.cv (h3 i p q),h4,?_⟩
   unfold ownAt at h5 ⊢
   grind
  ·exact Vw.blk_keep (h.blk k') hK (upd_ne _ _ e) rfl rfl (fun _ h=>h)
 ·intro k1 k2 h1 h2 he
  have g:∀ k',(upd s.lv k (.cells own false T cs) k').live=true→(s.lv k').live=true:=by
   intro k' hk'
   by_cases e:k'=k
   ·grind
   ·rwa [upd_ne _ _ e] at hk'
  exact h.inj k1 k2 (g _ h1) (g _ h2) he
theorem StOK.run_append_old (hs:StOK c F β s a w){T e:TypeId}{ty:TypeId}{k κ:Key}{n m sz:Nat}{own:Bool}{cs xs:List CV}{i:TypeInfo}{z:Value}(hκ:s.lv κ=.hole) (hT:slT c.P T=some (e,sz))
 (hi:c.P.info? e=some i) (hz:i.zero=some z) {x y:Operand}(hy:s.val c.G y=.c (.lsl k 0 n sz)) (hk:s.lv k=.cells own false e cs) (hfull:cs.length=n*sz)
 (hx:srcA s.lv sz (s.val c.G x)=some (m,xs)) (hzs:z.cells.size=sz) (h63:n+m≤9223372036854775807) (hb:(n+m)*i.bytes≤140737488355328) :
 ∃ v F' β' w',(Builtin.append_ #[T,T] ty #[a.eval y,a.eval x]).run c.P w=.ok v w' ∧
  StOK c F' β' ⟨s.fr,upd (upd s.lv k .dead) κ (.cells own false e (cs++xs))⟩ a w' ∧
  (Vw.mk F' β' (upd (upd s.lv k .dead) κ (.cells own false e (cs++xs))) w').cv v (.lsl κ 0 (n+m) sz):=by
 obtain⟨hu,hie,hsz⟩:=slT_info hT
 have hsize:i.size=sz:=by rw [← hsz];simp [szT,hi]
 obtain⟨hlen,ao,cap',h1,h2,h3,vs,h4,h5,h6⟩:=hs.src hx
 have hkκ:k≠κ:=fun e=>by grind
 have hv:=hy ▸ hs.val y
 obtain⟨hv,_⟩:=hv
 simp only [Vw.atLsl,hk] at hv
 obtain⟨cap,hv1,hv2,hv3⟩:=hv
 have hbk:=hs.blk k
 unfold Vw.blk at hbk;simp only [hk] at hbk
 obtain⟨arr,g1,g2,g3,g4,g5⟩:=hbk
 have has:asize w (β k)=arr.size:=by simp [asize,g1]
 rw [has] at hv3
 simp only [Nat.zero_add] at hv3
 have hsrc:∃ ad:Addr,(Builtin.append_ #[T,T] ty #[a.eval y,a.eval x]).run c.P w=(Builtin.append_ #[T,T] ty #[.slice (some ⟨β k,0,none⟩) n cap,.slice (some ad) m cap']).run c.P w ∧
  (∀ j u,vs[j]?=some u→w.cell? (ad.add j)=some u):=by
  cases ao with
  | some ad=>grind
  | none=>
   have hm:=h2 rfl
   subst hm
   have hvs:vs=[]:=List.eq_nil_of_length_eq_zero (by omega)
   subst hvs
   refine⟨⟨0,0,none⟩,?_,by simp⟩
   rw [hv1,h1]
   simp [Builtin.append_,run_underlying hu,sizeOf,typeInfo,hi,Builtin.lenOf,Builtin.firstCells,loadCells,loadCellsFrom,hv2]
 obtain⟨ad,hsrc,hnews⟩:=hsrc
 rw [hsrc]
 have hl':vs.length=m*i.size:=by rw [h4,hlen,hsize]
 have hone:∀ u∈vs,u.oneCell'=true:=by
  intro u hu
  obtain⟨j,hj,rfl⟩:=List.mem_iff_getElem.1 hu
  exact Vw.cv_oneCell (h6 j (by omega) hj)
 by_cases hroom:n+m≤cap
 ·have hcap:(n+m)*sz≤cap*sz:=Nat.mul_le_mul_right _ hroom
  have hnm:(n+m)*sz=n*sz+m*sz:=Nat.add_mul _ _ _
  have hr:=run_append_room (P:=c.P) w T ty e i hu hi (β k) n cap arr g1 ad m cap' vs hl' hnews hone hroom (by grind)
  rw [hsize] at hr
  have hseg:arr.toList.take (n*sz)++vs++arr.toList.drop (n*sz+vs.length)=setSeg arr.toList (n*sz) vs:=rfl
  rw [hseg] at hr
  have hle:n*sz+vs.length≤arr.toList.length:=by rw [hl',hsize];simp;omega
  have hset:=hs.setRow (arr:=(setSeg arr.toList (n*sz) vs).toArray) hk g1 (cs':=cs) (by grind) (by grind) (fun j p q=>by
   grind)
  have hsame:upd s.lv k (.cells own false e cs)=s.lv:=by
   funext t;unfold upd;split
   ·grind
   ·rfl
  rw [hsame] at hset
  have hK:(Vw.mk F β s.lv w).KeyLe (Vw.mk F β s.lv (w.setRow (β k) (setSeg arr.toList (n*sz) vs).toArray)):=
   Vw.keyLe_of (fun _ h=>h) (fun b hb=>setRow_other _ _ _ _ (fun e=>by
    grind)) (fun _=>LB.sub_refl _) (fun _ _ _=>rfl) (fun b=>by rw [asize_setRow w (β k) arr _ e (0,0) g1 (by grind) b];simp)
  have hmv:=hset.move (k:=k) (κ:=κ) hk hκ (cs':=cs++xs) (arr:=(setSeg arr.toList (n*sz) vs).toArray) (setRow_heap w _ arr _ e (0,0) g1) (by grind) (fun j p q=>by
   simp only [List.getElem_toArray]
   rw [setSeg_get _ _ _ hle j (by omega)]
   by_cases hj:j<n*sz
   ·rw [dif_neg (by omega),List.getElem_append_left (by omega)]
    simp only [Array.getElem_toList]
    exact hK.cv (g3 _ _ _)
   ·rw [dif_pos ⟨by omega,by grind⟩,List.getElem_append_right (by omega)]
    simp only [hfull]
    exact hK.cv (h6 _ _ _))
  refine⟨_,_,_,_,hr,hmv,⟨?_,rfl⟩⟩
  simp only [Vw.atLsl,upd_same]
  refine⟨cap,rfl,hroom,?_⟩
  rw [asize_setRow w (β k) arr _ e (0,0) g1 (by grind)]
  omega
 ·have holds:∀ j u,(arr.toList.take (n*sz))[j]?=some u→w.cell? ((⟨β k,0,none⟩:Addr).add j)=some u:=by
   intro j u hu
   rw [List.getElem?_take] at hu
   split at hu
   ·rw [Array.getElem?_toList] at hu
    rw [Addr.add_lit,cell_of_row w _ _ _ _ _ g1,Nat.zero_add];exact hu
   ·cases hu
  have hn:n*sz≤arr.size:=by omega
  have hr:=run_append_grow (P:=c.P) w T ty e i z hu hi hz ⟨β k,0,none⟩ n cap (arr.toList.take (n*sz)) (by grind) holds ad m cap' vs hl' hnews (by omega) (by omega) (growslice_fits (by omega) hb)
  have hd:StOK c F β s a w.drew:=hs.heap rfl
  have hK:(Vw.mk F β s.lv w).KeyLe (Vw.mk F β s.lv w.drew):=Vw.keyLe_of (fun _ h=>h) (fun _ _=>rfl) (fun _=>LB.sub_refl _) (fun _ _ _=>rfl) (fun _=>Nat.le_refl _)
  have hal:=(hd.kill k).alloc (κ:=κ) (by show upd s.lv k .dead κ=_;rw [upd_ne _ _ (Ne.symm hkκ)];exact hκ) (arr:=((arr.toList.take (n*sz)).toArray++vs.toArray++Builtin.zeroCells z.cells (grownCap w (n+m) cap e - (n+m)))) e (cs:=cs++xs)
   (by simp;omega) (fun j p q=>by
    have hK2:(Vw.mk F β s.lv w).KeyLe (Vw.mk F β (upd s.lv k .dead) w.drew):=Vw.keyLe_of (fun _ h=>h) (fun _ _=>rfl) (fun t=>by
     by_cases e:t=k
     ·subst e;show LB.sub (s.lv t) (upd s.lv t .dead t);rw [upd_same];cases s.lv t <;> simp [LB.sub]
     ·show LB.sub (s.lv t) (upd s.lv k .dead t);rw [upd_ne _ _ e];exact LB.sub_refl _) (fun _ _ _=>rfl) (fun _=>Nat.le_refl _)
    simp only [List.length_append] at p
    have hto:(arr.toList.take (n*sz)).length=n*sz:=by simp;omega
    by_cases hj:j<n*sz
    ·have e1:((arr.toList.take (n*sz)).toArray++vs.toArray++Builtin.zeroCells z.cells (grownCap w (n+m) cap e - (n+m)))[j]=arr[j]'(by omega):=by
      rw [Array.getElem_append_left (by simp;omega),Array.getElem_append_left (by simp;omega)]
      simp
     rw [e1,List.getElem_append_left (by omega)]
     exact hK2.cv (g3 _ _ _)
    ·have e1:((arr.toList.take (n*sz)).toArray++vs.toArray++Builtin.zeroCells z.cells (grownCap w (n+m) cap e - (n+m)))[j]=vs[j - n*sz]'(by omega):=by
      rw [Array.getElem_append_left (by simp;omega),Array.getElem_append_right (by simp;omega)]
      simp [hto]
     rw [e1,List.getElem_append_right (by omega)]
     simp only [hfull]
     exact hK2.cv (h6 _ _ _))
  have hun:=hal.unown (k:=κ) own upd_same'
  rw [upd_upd] at hun
  refine⟨_,_,_,_,hr,hun,⟨?_,rfl⟩⟩
  simp only [Vw.atLsl,upd_same]
  refine⟨_,rfl,grownCap_ge w (n+m) cap e,?_⟩
  have hge:=grownCap_ge w (n+m) cap e
  simp only [asize,heap_alloc,World.size_drew,if_true,Array.size_append,List.size_toArray,size_zeroCells,hl',hsize,hzs,List.length_take,Array.length_toList]
  rw [Nat.min_eq_left hn,← Nat.add_mul,← Nat.add_mul]
  grind
theorem StOK.run_append_f (hs:StOK c F β s a w){T e T':TypeId}{ty:TypeId}{k κ:Key}{off n m sz:Nat}{own fz:Bool}{cs xs:List CV}{i:TypeInfo}{z:Value}(hκ:s.lv κ=.hole) (hT:slT c.P T=some (e,sz))
 (hi:c.P.info? e=some i) (hz:i.zero=some z) {x y:Operand}(hy:s.val c.G y=.c (.lsf k off n sz)) (hk:s.lv k=.cells own fz T' cs) (hfull:off+n*sz≤cs.length)
 (hx:srcA s.lv sz (s.val c.G x)=some (m,xs)) (hm0:m≠0) (hzs:z.cells.size=sz) (h63:n+m≤9223372036854775807) (hb:(n+m)*i.bytes≤140737488355328) :
 ∃ v F' β' w',(Builtin.append_ #[T,T] ty #[a.eval y,a.eval x]).run c.P w=.ok v w' ∧
  StOK c F' β' ⟨s.fr,upd s.lv κ (.cells true false e ((cs.drop off).take (n*sz)++xs))⟩ a w' ∧
  (Vw.mk F' β' (upd s.lv κ (.cells true false e ((cs.drop off).take (n*sz)++xs))) w').cv v (.lsl κ 0 (n+m) sz):=by
 obtain⟨hu,hie,hsz⟩:=slT_info hT
 have hsize:i.size=sz:=by rw [← hsz];simp [szT,hi]
 obtain⟨hlen,ao,cap',h1,h2,h3,vs,h4,h5,h6⟩:=hs.src hx
 have hv:=hy ▸ hs.val y
 obtain⟨⟨hv,_⟩,hcn⟩:=hv
 simp only [Vw.atLsl,hk] at hv
 obtain⟨cap,hv1,hv2,hv3⟩:=hv
 have hcn:=hcn _ _ _ hv1
 subst hcn
 have hbk:=hs.blk k
 unfold Vw.blk at hbk;simp only [hk] at hbk
 obtain⟨arr,g1,g2,g3,g4,g5⟩:=hbk
 have has:asize w (β k)=arr.size:=by simp [asize,g1]
 rw [has] at hv3
 have hsrc:∃ ad:Addr,(Builtin.append_ #[T,T] ty #[a.eval y,a.eval x]).run c.P w=(Builtin.append_ #[T,T] ty #[.slice (some ⟨β k,off,none⟩) cap cap,.slice (some ad) m cap']).run c.P w ∧
  (∀ j u,vs[j]?=some u→w.cell? (ad.add j)=some u):=by
  cases ao with
  | some ad=>grind
  | none=>exact absurd (h2 rfl) hm0
 obtain⟨ad,hsrc,hnews⟩:=hsrc
 rw [hsrc]
 have hl':vs.length=m*i.size:=by rw [h4,hlen,hsize]
 have holds:∀ j u,((arr.toList.drop off).take (cap*sz))[j]?=some u→w.cell? ((⟨β k,off,none⟩:Addr).add j)=some u:=by
  intro j u hu
  rw [List.getElem?_take] at hu
  split at hu
  ·rw [List.getElem?_drop,Array.getElem?_toList] at hu
   rw [Addr.add_lit,cell_of_row w _ _ _ _ _ g1];exact hu
  ·cases hu
 have hr:=run_append_grow (P:=c.P) w T ty e i z hu hi hz ⟨β k,off,none⟩ cap cap ((arr.toList.drop off).take (cap*sz)) (by simp;rw [hsize];omega) holds ad m cap' vs hl' hnews (by omega) (by omega) (growslice_fits (by omega) hb)
 have hd:StOK c F β s a w.drew:=hs.heap rfl
 have hto:((arr.toList.drop off).take (cap*sz)).length=cap*sz:=by simp;omega
 have htc:((cs.drop off).take (cap*sz)).length=cap*sz:=by simp;omega
 have hK2:(Vw.mk F β s.lv w).KeyLe (Vw.mk F β s.lv w.drew):=Vw.keyLe_of (fun _ h=>h) (fun _ _=>rfl) (fun _=>LB.sub_refl _) (fun _ _ _=>rfl) (fun _=>Nat.le_refl _)
 have hal:=hd.alloc (κ:=κ) hκ (arr:=(((arr.toList.drop off).take (cap*sz)).toArray++vs.toArray++Builtin.zeroCells z.cells (grownCap w (cap+m) cap e - (cap+m)))) e (cs:=(cs.drop off).take (cap*sz)++xs)
  (by simp only [List.length_append,htc,Array.size_append,List.size_toArray,hto];omega) (fun j p q=>by
   simp only [List.length_append] at p
   by_cases hj:j<cap*sz
   ·have e1:(((arr.toList.drop off).take (cap*sz)).toArray++vs.toArray++Builtin.zeroCells z.cells (grownCap w (cap+m) cap e - (cap+m)))[j]=arr[off+j]'(by omega):=by
     rw [Array.getElem_append_left (by simp;omega),Array.getElem_append_left (by simp;omega)]
     simp
    rw [e1,List.getElem_append_left (by omega)]
    simp only [List.getElem_take,List.getElem_drop]
    exact hK2.cv (g3 _ _ _)
   ·have e1:(((arr.toList.drop off).take (cap*sz)).toArray++vs.toArray++Builtin.zeroCells z.cells (grownCap w (cap+m) cap e - (cap+m)))[j]=vs[j - cap*sz]'(by omega):=by
     rw [Array.getElem_append_left (by simp;omega),Array.getElem_append_right (by simp;omega)]
     simp [hto]
    rw [e1,List.getElem_append_right (by omega)]
    simp only [htc]
    exact hK2.cv (h6 _ _ _))
 refine⟨_,_,_,_,hr,hal,⟨?_,rfl⟩⟩
 simp only [Vw.atLsl,upd_same]
 refine⟨_,rfl,grownCap_ge w (cap+m) cap e,?_⟩
 have hge:=grownCap_ge w (cap+m) cap e
 simp only [asize,heap_alloc,World.size_drew,if_true,Array.size_append,List.size_toArray,size_zeroCells,hl',hsize,hzs,hto]
 rw [← Nat.add_mul,← Nat.add_mul]
 grind
theorem sim_append_f {o:Oper}{T e T':TypeId}{x y:Operand}{k κ:Key}{off n m sz:Nat}{own fz:Bool}{cs xs:List CV}{i:TypeInfo}{z:Value}(hd:∀ d,o.dst=some d→d<c.n)
 (ho:o.op=.call { callee:=.builtin .append,args:=#[y,x],argTypes:=#[T,T] }) (hκ:s.lv κ=.hole) (hT:slT c.P T=some (e,sz))
 (hi:c.P.info? e=some i) (hz:i.zero=some z) (hy:s.val c.G y=.c (.lsf k off n sz)) (hk:s.lv k=.cells own fz T' cs) (hfull:off+n*sz≤cs.length)
 (hx:srcA s.lv sz (s.val c.G x)=some (m,xs)) (hm0:m≠0) (hzs:z.cells.size=sz) (h63:n+m≤9223372036854775807) (hb:(n+m)*i.bytes≤140737488355328) :
 Sim c o s (LSt.put ⟨s.fr,upd s.lv κ (.cells true false e ((cs.drop off).take (n*sz)++xs))⟩ o.dst (.c (.lsl κ 0 (n+m) sz))):=
 Sim.of_value hd fun F β a w hs=>by
  obtain⟨v,F',β',w',h1,h2,h3⟩:=hs.run_append_f (ty:=o.type) hκ hT hi hz hy hk hfull hx hm0 hzs h63 hb
  exact⟨v,F',β',w',by simp [execOp,ho,resolve,invoke,builtin,h1],h2,h3⟩
theorem sim_append_new {o:Oper}{T e:TypeId}{x y:Operand}{κ:Key}{m sz:Nat}{xs:List CV}{i:TypeInfo}{z:Value}(hd:∀ d,o.dst=some d→d<c.n)
 (ho:o.op=.call { callee:=.builtin .append,args:=#[y,x],argTypes:=#[T,T] }) (hκ:s.lv κ=.hole) (hy:s.val c.G y=.c (.d .nilsl)) (hT:slT c.P T=some (e,sz))
 (hi:c.P.info? e=some i) (hz:i.zero=some z) (hx:srcA s.lv sz (s.val c.G x)=some (m,xs)) (hzs:z.cells.size=sz) (h63:m≤9223372036854775807) (hb:m*i.bytes≤140737488355328) :
 Sim c o s (LSt.put ⟨s.fr,upd s.lv κ (if m=0 then .nils else .cells true false e xs)⟩ o.dst (.c (.lsl κ 0 m sz))):=
 Sim.of_value hd fun F β a w hs=>by
  obtain⟨v,F',β',w',h1,h2,h3⟩:=hs.run_append_new (ty:=o.type) hκ hT hi hz hx hzs h63 hb
  refine⟨v,F',β',w',?_,h2,h3⟩
  have hv:=hy ▸ hs.val y
  obtain⟨hv,_⟩:=hv
  obtain⟨u,hu⟩:∃ u,a.eval y=u:=⟨_,rfl⟩
  rw [hu] at hv
  cases hv
  simp [execOp,ho,resolve,invoke,builtin,hu,h1]
theorem sim_append_old {o:Oper}{T e:TypeId}{x y:Operand}{k κ:Key}{n m sz:Nat}{own:Bool}{cs xs:List CV}{i:TypeInfo}{z:Value}(hd:∀ d,o.dst=some d→d<c.n)
 (ho:o.op=.call { callee:=.builtin .append,args:=#[y,x],argTypes:=#[T,T] }) (hκ:s.lv κ=.hole) (hT:slT c.P T=some (e,sz))
 (hi:c.P.info? e=some i) (hz:i.zero=some z) (hy:s.val c.G y=.c (.lsl k 0 n sz)) (hk:s.lv k=.cells own false e cs) (hfull:cs.length=n*sz)
 (hx:srcA s.lv sz (s.val c.G x)=some (m,xs)) (hzs:z.cells.size=sz) (h63:n+m≤9223372036854775807) (hb:(n+m)*i.bytes≤140737488355328) :
 Sim c o s (LSt.put ⟨s.fr,upd (upd s.lv k .dead) κ (.cells own false e (cs++xs))⟩ o.dst (.c (.lsl κ 0 (n+m) sz))):=
 Sim.of_value hd fun F β a w hs=>by
  obtain⟨v,F',β',w',h1,h2,h3⟩:=hs.run_append_old (ty:=o.type) hκ hT hi hz hy hk hfull hx hzs h63 hb
  exact⟨v,F',β',w',by simp [execOp,ho,resolve,invoke,builtin,h1],h2,h3⟩
theorem sim_append_nils {o:Oper}{T e:TypeId}{x y:Operand}{k κ:Key}{m sz:Nat}{xs:List CV}{i:TypeInfo}{z:Value}(hd:∀ d,o.dst=some d→d<c.n)
 (ho:o.op=.call { callee:=.builtin .append,args:=#[y,x],argTypes:=#[T,T] }) (hκ:s.lv κ=.hole) (hT:slT c.P T=some (e,sz))
 (hi:c.P.info? e=some i) (hz:i.zero=some z) (hy:s.val c.G y=.c (.lsl k 0 0 sz)) (hk:s.lv k=.nils)
 (hx:srcA s.lv sz (s.val c.G x)=some (m,xs)) (hzs:z.cells.size=sz) (h63:m≤9223372036854775807) (hb:m*i.bytes≤140737488355328) :
 Sim c o s (LSt.put ⟨s.fr,upd s.lv κ (if m=0 then .nils else .cells true false e xs)⟩ o.dst (.c (.lsl κ 0 m sz))):=
 Sim.of_value hd fun F β a w hs=>by
  obtain⟨v,F',β',w',h1,h2,h3⟩:=hs.run_append_new (ty:=o.type) hκ hT hi hz hx hzs h63 hb
  refine⟨v,F',β',w',?_,h2,h3⟩
  have hv:=hy ▸ hs.val y
  obtain⟨hv,_⟩:=hv
  simp only [Vw.atLsl,hk] at hv
  simp [execOp,ho,resolve,invoke,builtin,hv.1,h1]
end
section
variable {c:Ctx}{F:Nat→Prop}{β:Key→Nat}{s:LSt}{a:Act}{w:World}
theorem fold_set {α:Type}(off:Nat):∀ (vs:List α) (n:Nat) (cells:Array α) (i:Nat),
 ((vs.zipIdx n).foldl (fun cs (p:α × Nat)=>cs.setIfInBounds (off+p.2) p.1) cells)[i]? =
  if off+n≤i∧i<off+n+vs.length∧i<cells.size then vs[i - (off+n)]? else cells[i]?
 | [],n,cells,i=>by
  rw [if_neg (by simp;omega)];rfl
 | v::vs,n,cells,i=>by
  rw [List.zipIdx_cons,List.foldl_cons,fold_set off vs (n+1)]
  grind
theorem fold_setSeg {α:Type}(off:Nat) (vs cells:Array α) (h:off+vs.size≤cells.size) :
 vs.zipIdx.foldl (fun cs (p:α × Nat)=>cs.setIfInBounds (off+p.2) p.1) cells=(setSeg cells.toList off vs.toList).toArray:=by
 apply Array.ext_getElem?
 intro i
 rw [← Array.foldl_toList,Array.toList_zipIdx,fold_set]
 have hle:off+vs.toList.length≤cells.toList.length:=by simpa using h
 have hlen:=setSeg_length cells.toList off vs.toList hle
 have hR:(setSeg cells.toList off vs.toList).toArray[i]?=if off≤i∧i<off+vs.size∧i<cells.size then vs.toList[i - off]? else cells[i]?:=by
  rw [List.getElem?_toArray]
  by_cases hi:i<cells.size
  ·have hi':i<(setSeg cells.toList off vs.toList).length:=by rw [hlen];simpa using hi
   rw [List.getElem?_eq_getElem hi',setSeg_get _ _ _ hle]
   grind
  ·grind
 grind
def fillA (place:Nat→Option (Nat × Nat))(cells:List CV):List (Nat × AV)→Option (List CV)
 | []=>some cells
 | (i,v)::rest=>
  match place i,v.cells with
  | some (off,size),some cs=>if cs.length=size∧off+size≤cells.length then fillA place (setSeg cells off cs) rest else none
  | _,_=>none
theorem fill_of {V:Vw}{place:Nat→Option (Nat × Nat)}:∀ {parts:List (Nat × AV)}{vparts:List (Nat × Value)}{cells cells':List CV}{arr:Array Value},
 fillA place cells parts=some cells'→vparts.map (·.1)=parts.map (·.1)→(∀ i (h:i<parts.length) (h':i<vparts.length),V.av vparts[i].2 parts[i].2) →
 arr.size=cells.length→(∀ i (h:i<cells.length) (h':i<arr.size),V.cv arr[i] cells[i]) →
 ∃ arr',Instr.fill place arr vparts=some arr'∧arr'.size=cells'.length∧(∀ i (h:i<cells'.length) (h':i<arr'.size),V.cv arr'[i] cells'[i])
 | [],vparts,cells,cells',arr,h,hi,_,h1,h2=>by
  simp only [fillA,Option.some.injEq] at h;subst h
  cases vparts with
  | nil=>exact⟨arr,rfl,h1,h2⟩
  | cons x y=>simp at hi
 | (i,v)::rest,[],cells,cells',arr,h,hi,_,h1,h2=>by simp at hi
 | (i,v)::rest,(j,u)::vrest,cells,cells',arr,h,hi,hv,h1,h2=>by
  simp only [fillA] at h
  split at h
  ·rename_i off size cs hp hcs
   split at h
   ·rename_i hc
    simp only [List.map_cons,List.cons.injEq] at hi
    obtain⟨rfl,hi⟩:=hi
    have hu:V.av u v:=hv 0 (by simp) (by simp)
    obtain⟨h3,h4⟩:=Vw.av_cells hu hcs
    have hle:off+cs.length≤cells.length:=by omega
    have hle':off+u.cells.toList.length≤arr.toList.length:=by simp;omega
    have hf:Instr.fill place arr ((j,u)::vrest)=Instr.fill place (setSeg arr.toList off u.cells.toList).toArray vrest:=by
     simp only [Instr.fill,hp]
     rw [if_neg (by simp;omega),← fold_setSeg off u.cells arr (by omega)]
    rw [hf]
    refine fill_of h hi (fun k p q=>hv (k+1) (by grind) (by grind)) ?_ ?_
    ·rw [setSeg_length _ _ _ hle];simp [setSeg_length _ _ _ hle',h1]
    ·intro k p q
     simp only [List.getElem_toArray]
     rw [setSeg_get _ _ _ hle' k (by omega),setSeg_get _ _ _ hle k p]
     grind
   grind
  grind
def placesT (P:Program)(t:TypeId):Option (Nat→Option (Nat × Nat)):=
 match P.underlying t with
 | some (.array _ e)=>match P.info? e with|some ie=>some (fun i=>some (i*ie.size,ie.size))|none=>none
 | some (.struct fields)=>match fields.toList.mapM (fun f=>(P.info? f.type).map fun i=>(f.offset,i.size)) with
  | some places=>some (places.toArray[·]?)
  | none=>none
 | _=>none
theorem sim_build {o:Oper}{T:TypeId}{parts:Array (Nat × Operand)}{place:Nat→Option (Nat × Nat)}{z:Value}{zs cs:List CV}(hd:∀ d,o.dst=some d→d<c.n) (ho:o.op=.build T parts)
 (hz:(c.P.info? T).bind (·.zero)=some z) (hzs:(cst z).cells=some zs) (hp:placesT c.P T=some place)
 (hf:fillA place zs (parts.toList.map fun p=>(p.1,s.val c.G p.2))=some cs):Sim c o s (s.put o.dst (.agg cs)):=
 Sim.of_pure hd fun F β a w hs=>by
  obtain⟨it,hit,hz⟩:=Option.bind_eq_some_iff.1 hz
  obtain⟨h1,h2⟩:=Vw.av_cells (av_cst (Vw.mk F β s.lv w) z) hzs
  obtain⟨arr,h3,h4,h5⟩:=fill_of (V:=Vw.mk F β s.lv w) (vparts:=parts.toList.map fun p=>(p.1,a.eval p.2)) hf (by simp) (fun i p q=>by simp only [List.getElem_map];exact hs.val _) h1 h2
  refine⟨.agg arr,?_,arr,rfl,h4,h5⟩
  have hb:c.P.built T (parts.map fun (i,x)=>(i,a.eval x)).toList=some arr:=by
   unfold Program.built
   unfold placesT at hp
   have e1:(parts.map fun (i,x)=>(i,a.eval x)).toList=parts.toList.map fun p=>(p.1,a.eval p.2):=by simp
   rw [e1]
   cases hu:c.P.underlying T with
   | none=>grind
   | some d=>
    grind
  simp only [execOp,ho,Sem.run_bind,run_build w T _ arr hb,Result.andThen_ok]
  rfl
theorem sim_buildSlice {o:Oper}{T e:TypeId}{n sz:Nat}{parts:Array (Nat × Operand)}{κ:Key}{z:Value}{zs cs:List CV}(hd:∀ d,o.dst=some d→d<c.n) (ho:o.op=.buildSlice T n parts)
 (hκ:s.lv κ=.hole) (hT:slT c.P T=some (e,sz)) (hz:(c.P.info? e).bind (·.zero)=some z) (hzs:(cst z).cells=some zs) (hsz:zs.length=sz) (hpos:0<sz) (hn:n*sz≤16777216)
 (hf:fillA (fun i=>some (i*sz,sz)) (repl n zs) (parts.toList.map fun p=>(p.1,s.val c.G p.2))=some cs) :
 Sim c o s (LSt.put ⟨s.fr,upd s.lv κ (.cells true false e cs)⟩ o.dst (.c (.lsl κ 0 n sz))):=
 Sim.of_value hd fun F β a w hs=>by
  obtain⟨it,hit,hz⟩:=Option.bind_eq_some_iff.1 hz
  obtain⟨hu,hie,hsz'⟩:=slT_info hT
  obtain⟨h1,h2⟩:=Vw.av_cells (av_cst (Vw.mk F β s.lv w) z) hzs
  have hzl:z.cells.size=sz:=by omega
  obtain⟨arr,h3,h4,h5⟩:=fill_of (V:=Vw.mk F β s.lv w) (vparts:=parts.toList.map fun p=>(p.1,a.eval p.2)) (arr:=(Array.range (n*sz)).map (z.cells[· % z.cells.size]!)) hf (by simp) (fun i p q=>by simp only [List.getElem_map];exact hs.val _)
   (by rw [repl_length,hsz];simp) (fun j p q=>by
    have hm:j % zs.length<zs.length:=Nat.mod_lt _ (by omega)
    rw [repl_get _ _ _ p hm]
    grind)
  have hcl:cs.length=n*sz:=by
   have:∀ (parts:List (Nat × AV)) (cells cells':List CV),fillA (fun i=>some (i*sz,sz)) cells parts=some cells'→cells'.length=cells.length:=by
    intro parts
    induction parts with
    | nil=>intro cells cells' h;simp only [fillA,Option.some.injEq] at h;rw [h]
    | cons p rest ih=>
     intro cells cells' h
     obtain⟨i,v⟩:=p
     simp only [fillA] at h
     split at h
     ·rename_i off size cs' hp hcs
      split at h
      ·rename_i hc
       rw [ih _ _ h,setSeg_length _ _ _ (by omega)]
      grind
     grind
   rw [this _ _ _ hf,repl_length,hsz]
  refine⟨.slice (some ⟨w.heap.size,0,none⟩) n n,F,upd β κ w.heap.size,w.alloc (.cells arr e),?_,hs.alloc hκ e (by omega) h5,⟨?_,rfl⟩⟩
  ·have e1:(parts.map fun (i,x)=>(i,a.eval x)).toList=parts.toList.map fun p=>(p.1,a.eval p.2):=by simp
   have hni:¬ (n*sz > 2 ^ 24):=by omega
   have harr:Instr.fill (fun i=>some (i*sz,sz)) ((Array.range (n*sz)).map ((if n*sz=0 then #[] else z.cells)[· % (if n*sz=0 then (#[]:Array Value) else z.cells).size]!)) (parts.toList.map fun p=>(p.1,a.eval p.2))=some arr:=by
    by_cases h0:n*sz=0
    ·rw [h0] at h3 ⊢
     simp only [Array.range_zero',Array.map_empty] at h3 ⊢
     exact h3
    ·rw [if_neg h0];exact h3
   by_cases h0:n*sz=0
   ·simp only [if_pos h0] at harr
    simp only [execOp,ho,Instr.buildSlice,Sem.run_bind,run_underlying hu,Result.andThen_ok,run_sizeOf hie,hsz',if_neg hni,if_pos h0,Sem.run_pure,e1]
    rw [harr]
    rfl
   ·simp only [if_neg h0] at harr
    have hzv:(zeroValue e).run c.P w=.ok z w:=by simp [zeroValue,typeInfo,hit,hz]
    simp only [execOp,ho,Instr.buildSlice,Sem.run_bind,run_underlying hu,Result.andThen_ok,run_sizeOf hie,hsz',if_neg hni,if_neg h0,Sem.run_pure,hzv,e1]
    rw [harr]
    rfl
  ·simp only [Vw.atLsl,upd_same]
   refine⟨n,rfl,Nat.le_refl _,?_⟩
   simp only [asize,heap_alloc,if_true]
   omega
end
section
variable {c:Ctx}{F:Nat→Prop}{β:Key→Nat}{s:LSt}{a:Act}{w:World}
def unA (op:UnOp)(d:DV):Option DV:=
 match op,d with
 | .not,.bool b=>some (.bool !b)
 | .neg,.int k n=>some (.int k (k.wrap (0 - n)))
 | _,_=>none
theorem sim_unOp {o:Oper}{op:UnOp}{T:TypeId}{x:Operand}{d d':DV}(hd:∀ d,o.dst=some d→d<c.n) (ho:o.op=.unOp op T x)
 (hx:s.val c.G x=.c (.d d)) (hr:unA op d=some d'):Sim c o s (s.put o.dst (.c (.d d'))):=
 Sim.of_pure hd fun F β a w hs=>by
  have h1:=hx ▸ hs.val x
  unfold unA at hr
  split at hr
  ·simp only [Option.some.injEq] at hr;subst hr
   exact⟨_,by simp only [execOp,ho,Vw.c_bool h1,Op.unary];rfl,Vw.mk_bool _ _⟩
  ·simp only [Option.some.injEq] at hr;subst hr
   exact⟨_,by simp only [execOp,ho,Vw.c_int h1,Op.unary,Op.intArith];rfl,Vw.mk_int _ _ _ (wrap_wrap _ _)⟩
  grind
def intT (P:Program)(T:TypeId):Option IntKind:=match P.underlying T with|some (.int k)=>some k|_=>none
theorem intT_info {P:Program}{T:TypeId}{k:IntKind}(h:intT P T=some k):P.underlying T=some (.int k):=by
 unfold intT at h
 grind
theorem sim_conv_int {o:Oper}{S T:TypeId}{x:Operand}{k k':IntKind}{n:Int}(hd:∀ d,o.dst=some d→d<c.n) (ho:o.op=.convert S T x)
 (hx:s.val c.G x=.c (.d (.int k n))) (hS:(intT c.P S).isSome=true) (hT:intT c.P T=some k'):Sim c o s (s.put o.dst (.c (.d (.int k' (k'.wrap n))))):=
 Sim.of_pure hd fun F β a w hs=>by
  have h1:=Vw.c_int (hx ▸ hs.val x)
  obtain⟨ks,hS⟩:=Option.isSome_iff_exists.1 hS
  refine⟨.int k' (k'.wrap n),?_,Vw.mk_int _ _ _ (wrap_wrap _ _)⟩
  simp only [execOp,ho,h1,convert,Sem.run_bind,run_underlying (intT_info hS),run_underlying (intT_info hT),Result.andThen_ok,Conv.intToInt]
  rfl
theorem sim_conv_str {o:Oper}{S T:TypeId}{x:Operand}{l:List UInt8}(hd:∀ d,o.dst=some d→d<c.n) (ho:o.op=.convert S T x)
 (hx:s.val c.G x=.c (.d (.str l))) (hS:strT c.P S=true) (hT:strT c.P T=true):Sim c o s (s.put o.dst (.c (.d (.str l)))):=
 Sim.of_pure hd fun F β a w hs=>by
  have h1:=Vw.c_str (hx ▸ hs.val x)
  refine⟨.string ⟨l.toArray⟩,?_,Vw.mk_str _ _ (Vw.str_rng (hx ▸ hs.val x))⟩
  simp only [execOp,ho,h1,convert,Sem.run_bind,run_underlying (strT_info hS),run_underlying (strT_info hT),Result.andThen_ok]
  rfl
def deepL:List CV→Option (List DV)
 | []=>some []
 | .d x::r=>(deepL r).map (x::·)
 | _=>none
theorem deepL_get:∀ {cs:List CV}{ds:List DV},deepL cs=some ds→cs=ds.map CV.d
 | [],ds,h=>by simp only [deepL,Option.some.injEq] at h;grind
 | .d x::r,ds,h=>by
  simp only [deepL] at h
  cases e:deepL r with
  | none=>grind
  | some l=>rw [e] at h;simp only [Option.map_some,Option.some.injEq] at h;subst h;rw [deepL_get e];rfl
 | .ptr ..::r,ds,h=>by cases h
 | .lsl ..::r,ds,h=>by cases h
 | .mapr ..::r,ds,h=>by cases h
 | .lsf ..::r,ds,h=>by cases h
 | .func ..::r,ds,h=>by cases h
 | .junk::r,ds,h=>by cases h
 | .ifc ..::r,ds,h=>by cases h
def deepA:AV→Option DV
 | .c (.d x)=>some x
 | .agg cs=>(deepL cs).map .agg
 | _=>none
theorem Vw.deep {V:Vw}{v:Value}{x:AV}{d:DV}(h:V.av v x) (hd:deepA x=some d):Rd V.mem v d:=by
 cases x with
 | c y=>
  cases y <;> simp only [deepA,Option.some.injEq,reduceCtorEq] at hd
  subst hd;exact h.1
 | agg cs=>
  simp only [deepA] at hd
  cases e:deepL cs with
  | none=>grind
  | some ds=>
   rw [e] at hd;simp only [Option.map_some,Option.some.injEq] at hd;subst hd
   have:=deepL_get e;subst this
   obtain⟨arr,rfl,h1,h2⟩:=h
   simp only [List.length_map] at h1
   refine .agg arr ds h1 (fun i hi=>Vw.cv_oneCell (h2 i (by simp;omega) hi)) (fun i hi=>?_)
   have:=h2 i (by grind) (by omega)
   simp only [List.getElem_map] at this
   exact this.1
 | tup l=>cases hd
 | undef=>cases hd
 | junk=>cases hd
theorem sim_mkIface {o:Oper}{T:TypeId}{x:Operand}{d:DV}(hd:∀ d,o.dst=some d→d<c.n) (ho:o.op=.makeInterface T x)
 (hx:deepA (s.val c.G x)=some d) (hT:c.P.concrete T=true):Sim c o s (s.put o.dst (.c (.d (.iface T d)))):=
 Sim.of_pure hd fun F β a w hs=>by
  have h1:=Vw.deep (hs.val x) hx
  exact⟨.iface T (a.eval x),by simp only [execOp,ho,Sem.run_bind,run_makeInterface w T _ hT,Result.andThen_ok];rfl,.iface _ _ _ h1,rfl⟩
def refC:CV→Option RefC
 | .d x=>some (.d x)
 | .ptr k o=>some (.ptr k o)
 | .lsl k o l z=>some (.lsl k o l z)
 | _=>none
def refCs:List CV→Option (List RefC)
 | []=>some []
 | x::r=>match refC x,refCs r with|some y,some l=>some (y::l)|_,_=>none
theorem Vw.refC_of {V:Vw}{v:Value}{x:CV}{r:RefC}(h:V.cv v x) (hr:Am.refC x=some r):V.refC v r:=by
 cases x <;> simp only [Am.refC,Option.some.injEq,reduceCtorEq] at hr
 all_goals subst hr
 all_goals exact h
theorem refCs_get:∀ {xs:List CV}{rs:List RefC},refCs xs=some rs→rs.length=xs.length∧∀ i (h:i<rs.length) (h':i<xs.length),refC xs[i]=some rs[i]
 | [],rs,h=>by simp only [refCs,Option.some.injEq] at h;grind
 | x::xs,rs,h=>by
  simp only [refCs] at h
  split at h
  ·rename_i y l hy hl
   simp only [Option.some.injEq] at h;subst h
   obtain⟨h1,h2⟩:=refCs_get hl
   grind
  grind
def refA:AV→Option Ref
 | .c (.d x)=>some (.d x)
 | .c (.ptr k o)=>some (.ptr k o)
 | .c (.lsl k o l z)=>some (.lsl k o l z)
 | .c (.ifc t x)=>some (.ifc t x)
 | .agg cs=>match deepL cs with|some l=>some (.d (.agg l))|none=>(refCs cs).map .agg
 | _=>none
theorem Vw.refA {V:Vw}{v:Value}{x:AV}{r:Ref}(h:V.av v x) (hr:Am.refA x=some r):V.ref v r:=by
 cases x with
 | c y=>
  cases y <;> simp only [Am.refA,Option.some.injEq,reduceCtorEq] at hr
  all_goals subst hr
  ·exact h.1
  ·exact h
  ·exact h
  ·exact h
 | agg cs=>
  simp only [Am.refA] at hr
  cases e:deepL cs with
  | none=>
   rw [e] at hr
   simp only [Option.map_eq_some_iff] at hr
   obtain⟨rs,h1,rfl⟩:=hr
   obtain⟨arr,rfl,h2,h3⟩:=h
   obtain⟨h4,h5⟩:=refCs_get h1
   exact⟨arr,rfl,by omega,fun i p q=>Vw.refC_of (h3 i (by omega) q) (h5 i p (by omega))⟩
  | some ds=>
   rw [e] at hr;simp only [Option.some.injEq] at hr;subst hr
   exact Vw.deep (x:=.agg cs) h (by simp [deepA,e])
 | tup l=>cases hr
 | undef=>cases hr
 | junk=>cases hr
def refL:List AV→Option (List Ref)
 | []=>some []
 | x::r=>match refA x,refL r with|some y,some l=>some (y::l)|_,_=>none
theorem refL_get {V:Vw}:∀ {vs:List Value}{xs:List AV}{rs:List Ref},refL xs=some rs→vs.length=xs.length →
 (∀ i (h:i<xs.length) (h':i<vs.length),V.av vs[i] xs[i])→rs.length=vs.length∧∀ i (h:i<rs.length) (h':i<vs.length),V.ref vs[i] rs[i]
 | [],[],rs,h,_,_=>by simp only [refL,Option.some.injEq] at h;grind
 | [],x::xs,rs,_,hl,_=>by simp at hl
 | v::vs,[],rs,_,hl,_=>by simp at hl
 | v::vs,x::xs,rs,h,hl,hv=>by
  simp only [refL] at h
  split at h
  ·rename_i y l hy hl'
   simp only [Option.some.injEq] at h;subst h
   obtain⟨h1,h2⟩:=refL_get hl' (by grind) (fun i p q=>hv (i+1) (by grind) (by grind))
   refine⟨by simp [h1],fun i p q=>?_⟩
   cases i with
   | zero=>exact Vw.refA (hv 0 (by simp) (by simp)) hy
   | succ i=>grind
  grind
def deepRefs:List Ref→Option (List DV)
 | []=>some []
 | .d x::r=>(deepRefs r).map (x::·)
 | _=>none
theorem deepRefs_get:∀ {rs:List Ref}{ds:List DV},deepRefs rs=some ds→rs=ds.map Ref.d
 | [],ds,h=>by simp only [deepRefs,Option.some.injEq] at h;grind
 | .d x::r,ds,h=>by
  simp only [deepRefs] at h
  cases e:deepRefs r with
  | none=>grind
  | some l=>rw [e] at h;simp only [Option.map_some,Option.some.injEq] at h;subst h;rw [deepRefs_get e];rfl
 | .ptr ..::r,ds,h=>by cases h
 | .lsl ..::r,ds,h=>by cases h
 | .agg ..::r,ds,h=>by cases h
 | .ifc ..::r,ds,h=>by cases h
def funA (fn:Fn)(fs cs:List Ref):CV:=
 match deepRefs fs,deepRefs cs with
 | some fd,some cd=>.d (.func fn fd cd)
 | _,_=>.func fn fs cs
theorem Vw.funA {V:Vw}{fn:Fn}{fs cs:Array Value}{fr cr:List Ref}(h1:fs.size=fr.length) (h2:cs.size=cr.length)
 (h3:∀ i (h:i<fr.length) (h':i<fs.size),V.ref fs[i] fr[i]) (h4:∀ i (h:i<cr.length) (h':i<cs.size),V.ref cs[i] cr[i]) :
 V.cv (.func fn fs cs) (Am.funA fn fr cr):=by
 unfold Am.funA
 split
 ·rename_i fd cd hf hc
  have:=deepRefs_get hf;subst this
  have:=deepRefs_get hc;subst this
  simp only [List.length_map] at h1 h2
  refine⟨.func fn fs cs fd cd h1 h2 (fun i hi=>?_) (fun i hi=>?_),rfl⟩
  ·have:=h3 i (by grind) (by omega);simp only [List.getElem_map] at this;exact this
  ·have:=h4 i (by grind) (by omega);simp only [List.getElem_map] at this;exact this
 ·exact⟨fs,cs,rfl,h1,h2,h3,h4⟩
theorem sim_mkFunc {o:Oper}{fn:Fn}{first caps:Array Operand}{fr cr:List Ref}(hd:∀ d,o.dst=some d→d<c.n) (ho:o.op=.makeFunc fn first caps)
 (hf:refL (first.toList.map (s.val c.G))=some fr) (hc:refL (caps.toList.map (s.val c.G))=some cr):Sim c o s (s.put o.dst (.c (funA fn fr cr))):=
 Sim.of_pure hd fun F β a w hs=>by
  obtain⟨h1,h2⟩:=refL_get (V:=Vw.mk F β s.lv w) (vs:=first.toList.map a.eval) hf (by simp) (fun i p q=>by simp only [List.getElem_map];exact hs.val _)
  obtain⟨h3,h4⟩:=refL_get (V:=Vw.mk F β s.lv w) (vs:=caps.toList.map a.eval) hc (by simp) (fun i p q=>by simp only [List.getElem_map];exact hs.val _)
  refine⟨.func fn (first.map a.eval) (caps.map a.eval),by simp [execOp,ho,Instr.makeFunc],?_⟩
  refine Vw.funA (by grind) (by grind) (fun i p q=>?_) (fun i p q=>?_)
  ·grind
  grind
def eqT (P:Program):Nat→TypeId→AV→AV→Option Bool
 | 0,_,_,_=>none
 | d+1,t,x,y=>
  match P.underlying t,x,y with
  | some .bool,.c (.d (.bool a)),.c (.d (.bool b))=>some (a == b)
  | some (.int _),.c (.d (.int k a)),.c (.d (.int k' b))=>if k=k' then some (a == b) else none
  | some .string,.c (.d (.str a)),.c (.d (.str b))=>some (a == b)
  | some (.pointer _),.c (.d .nilp),.c (.d .nilp)=>some true
  | some (.pointer _),.c (.d .nilp),.c (.d (.ptr _))=>some false
  | some (.pointer _),.c (.d (.ptr _)),.c (.d .nilp)=>some false
  | some (.slice _),.c (.d .nilsl),.c (.d .nilsl)=>some true
  | some (.slice _),.c (.d .nilsl),.c (.d (.sl _))=>some false
  | some (.slice _),.c (.d (.sl _)),.c (.d .nilsl)=>some false
  | some (.interface _),.c (.d .nilIface),.c (.d (.iface _ _))=>some false
  | some (.interface _),.c (.d (.iface _ _)),.c (.d .nilIface)=>some false
  | some (.struct fields),.agg xs,.agg ys=>if P.stoodInHeld t then none else
   fields.toList.foldr (fun f r=>if f.name ≠ "_" then (match partA P f.type xs f.offset,partA P f.type ys f.offset with
    | some u,some v=>match eqT P d f.type u v,r with|some b,some r=>some (b && r)|_,_=>none
    | _,_=>none) else r) (some true)
  | _,_,_=>none
theorem run_eqT {P:Program}(V:Vw):∀ (d:Nat) (t:TypeId) (x y:AV) (b:Bool),eqT P d t x y=some b→∀ (u v:Value),V.av u x→V.av v y→∀ n,d≤n →
 (Op.equalIn n t u v).run P V.w=.ok b V.w
 | 0,_,_,_,_,h=>by cases h
 | d+1,t,x,y,b,h=>by
  intro u v hu hv n hn
  obtain⟨m,rfl⟩:∃ m,n=m+1:=⟨n - 1,by omega⟩
  unfold eqT at h
  split at h
  ·rename_i hT
   simp only [Option.some.injEq] at h;subst h
   rw [Vw.c_bool hu,Vw.c_bool hv]
   exact run_equalIn_bool' V.w m t _ _ hT
  ·rename_i hT
   split at h
   ·rename_i hk;subst hk
    simp only [Option.some.injEq] at h;subst h
    rw [Vw.c_int hu,Vw.c_int hv]
    exact run_equalIn_int V.w m t _ _ _ _ hT
   grind
  ·rename_i hT
   simp only [Option.some.injEq] at h;subst h
   rw [Vw.c_str hu,Vw.c_str hv,run_equalIn_string V.w m t _ _ hT,toList_mk,toList_mk]
  ·rename_i hT;simp only [Option.some.injEq] at h;subst h
   obtain⟨hu,_⟩:=hu;obtain⟨hv,_⟩:=hv;cases hu <;> cases hv <;> simp [Op.equalIn,run_underlying hT]
  ·rename_i hT;simp only [Option.some.injEq] at h;subst h
   obtain⟨hu,_⟩:=hu;obtain⟨hv,_⟩:=hv;cases hu <;> cases hv <;> simp [Op.equalIn,run_underlying hT]
  ·rename_i hT;simp only [Option.some.injEq] at h;subst h
   obtain⟨hu,_⟩:=hu;obtain⟨hv,_⟩:=hv;cases hu <;> cases hv <;> simp [Op.equalIn,run_underlying hT]
  ·rename_i hT;simp only [Option.some.injEq] at h;subst h
   obtain⟨hu,_⟩:=hu;obtain⟨hv,_⟩:=hv;cases hu <;> cases hv <;> simp [Op.equalIn,run_underlying hT]
  ·rename_i hT;simp only [Option.some.injEq] at h;subst h
   obtain⟨hu,_⟩:=hu;obtain⟨hv,_⟩:=hv;cases hu <;> cases hv <;> simp [Op.equalIn,run_underlying hT]
  ·rename_i hT;simp only [Option.some.injEq] at h;subst h
   obtain⟨hu,_⟩:=hu;obtain⟨hv,_⟩:=hv;cases hu <;> cases hv <;> simp [Op.equalIn,run_underlying hT]
  ·rename_i hT;simp only [Option.some.injEq] at h;subst h
   obtain⟨hu,_⟩:=hu;obtain⟨hv,_⟩:=hv;cases hu <;> cases hv <;> simp [Op.equalIn,run_underlying hT]
  ·rename_i hT;simp only [Option.some.injEq] at h;subst h
   obtain⟨hu,_⟩:=hu;obtain⟨hv,_⟩:=hv;cases hu <;> cases hv <;> simp [Op.equalIn,run_underlying hT]
  ·rename_i fields xs ys hT
   split at h
   ·cases h
   ·rename_i hst
    obtain⟨ax,rfl,hx1,hx2⟩:=hu
    obtain⟨ay,rfl,hy1,hy2⟩:=hv
    have hfo:P.fieldsOf t=fields:=by simp [Program.fieldsOf,hT]
    rw [run_equalIn_struct V.w m t ax ay (by grind) (by grind),hfo]
    clear hT hfo
    generalize fields.toList=fs at h
    induction fs generalizing b with
    | nil=>simp only [List.foldr_nil,Option.some.injEq] at h;subst h;rfl
    | cons f fs ih=>
     simp only [List.foldr_cons] at h
     simp only [Op.eqFields]
     split at h
     ·rename_i hnm
      rw [if_pos hnm]
      split at h
      ·rename_i p q hp hq
       split at h
       ·rename_i b1 r1 he hr
        simp only [Option.some.injEq] at h;subst h
        obtain⟨v1,e1,e2⟩:=run_part V hp ax hx1 hx2
        obtain⟨v2,e3,e4⟩:=run_part V hq ay hy1 hy2
        have e5:=run_eqT V d f.type p q b1 he v1 v2 e2 e4 m (by omega)
        simp only [Sem.run_bind,e1,e3,e5,Result.andThen_ok]
        cases b1 with
        | false=>simp
        | true=>grind
       grind
      grind
     grind
  grind
theorem sim_copy {o:Oper}{T T' T0 e:TypeId}{x y:Operand}{k:Key}{off n m:Nat}{own:Bool}{cs xs:List CV}(hd:∀ d,o.dst=some d→d<c.n) (ho:o.op=.call { callee:=.builtin .copy,args:=#[y,x],argTypes:=#[T,T'] })
 (hy:s.val c.G y=.c (.lsl k off n 1)) (hk:s.lv k=.cells own false T0 cs) (hT:slT c.P T=some (e,1)) (hx:srcA s.lv 1 (s.val c.G x)=some (m,xs)) (hm:0<m) (hoff:off+min m n≤cs.length) (hn:n≤9223372036854775807) :
 Sim c o s (LSt.put ⟨s.fr,upd s.lv k (.cells own false T0 (setSeg cs off (xs.take (min m n))))⟩ o.dst (.c (.d (.int .i64 ((min m n:Nat):Int))))):=
 Sim.of_value hd fun F β a w hs=>by
  have h1:=hy ▸ hs.val y
  obtain⟨h1,_⟩:=h1
  simp only [Vw.atLsl,hk] at h1
  obtain⟨cap,h1,_,_⟩:=h1
  have hb:=hs.blk k
  unfold Vw.blk at hb;simp only [hk] at hb
  obtain⟨arr,h2,h3,h4,_⟩:=hb
  obtain⟨hu,hie,hsz⟩:=slT_info hT
  obtain⟨hl,ao,scap,hsx,hnone,hspot,vs,hvl,hvc,hvr⟩:=hs.src hx
  cases ao with
  | none=>grind
  | some ad=>
   have hlen:(vs.take (min m n)).length=min m n:=by rw [List.length_take,hvl,hl];omega
   have hone:∀ v∈vs.take (min m n),v.oneCell'=true:=by
    intro v hv
    obtain⟨i,hi,rfl⟩:=List.mem_iff_getElem.1 (List.mem_of_mem_take hv)
    exact Vw.cv_oneCell (hvr i (by omega) hi)
   have hs1:(c.P.info? e).map (·.size)=some 1:=by
    obtain⟨i,hi⟩:=Option.isSome_iff_exists.1 hie
    rw [hi];simp [szT,hi] at hsz;simp [hsz]
   have hrun:=run_copy_row c.P w T T' o.type e (β k) off n cap ad m scap arr T0 (vs.take (min m n)) hu hs1 h2 hlen
    (fun j v hj=>hvc ad rfl j v (by grind)) (by omega) hone
   have hset:arr.toList.take off++vs.take (min m n)++arr.toList.drop (off+(vs.take (min m n)).length)=setSeg arr.toList off (vs.take (min m n)):=rfl
   have hle:off+(vs.take (min m n)).length≤arr.toList.length:=by rw [hlen,Array.length_toList];omega
   have hxl:(xs.take (min m n)).length=min m n:=by rw [List.length_take,hl];omega
   have hle2:off+(xs.take (min m n)).length≤cs.length:=by rw [hxl];omega
   refine⟨.int .i64 ((min m n:Nat):Int),F,β,_,?_,hs.setRow (arr:=(setSeg arr.toList off (vs.take (min m n))).toArray) hk h2 (by grind) (by rw [setSeg_length _ _ _ hle2];grind) ?_,?_⟩
   ·rw [hlen] at hrun
    simp [execOp,ho,resolve,invoke,builtin,h1,hsx,hrun,goInt,setSeg,hlen]
   ·intro i p q
    simp only [List.getElem_toArray]
    rw [setSeg_get _ _ _ hle i (by omega),setSeg_get _ _ _ hle2 i p]
    grind
   ·exact Vw.mk_int _ _ _ (wrap_in (by simp only [loK,hiK];omega))
end
def RefC.ren (g:Key→Key):RefC→RefC
 | .d x=>.d x
 | .ptr k o=>.ptr (g k) o
 | .lsl k o l z=>.lsl (g k) o l z
def Ref.ren (g:Key→Key):Ref→Ref
 | .d x=>.d x
 | .ptr k o=>.ptr (g k) o
 | .lsl k o l z=>.lsl (g k) o l z
 | .agg cs=>.agg (cs.map (RefC.ren g))
 | .ifc t x=>.ifc t (x.ren g)
def CV.ren (g:Key→Key):CV→CV
 | .d x=>.d x
 | .ptr k o=>.ptr (g k) o
 | .lsl k o l z=>.lsl (g k) o l z
 | .mapr k=>.mapr (g k)
 | .lsf k o l z=>.lsf (g k) o l z
 | .func fn f c=>.func fn (f.map (Ref.ren g)) (c.map (Ref.ren g))
 | .ifc t x=>.ifc t (x.ren g)
 | .junk=>.junk
def AV.ren0 (g:Key→Key):AV→AV
 | .c x=>.c (x.ren g)
 | .agg cs=>.agg (cs.map (CV.ren g))
 | .tup _=>.junk
 | .undef=>.undef
 | .junk=>.junk
def AV.ren (g:Key→Key):AV→AV
 | .tup l=>.tup (l.map (AV.ren0 g))
 | x=>x.ren0 g
def LB.kin (x y:LB):Prop:=
 match x,y with
 | .hole,.hole=>True
 | _,.dead=>x≠.hole
 | .nils,.nils=>True
 | .cells ..,.cells ..=>True
 | .map ..,.map ..=>True
 | _,_=>False
structure Vw.Ren (V V2:Vw) (g:Key→Key):Prop where
 F:V2.F=V.F
 w:V2.w=V.w
 β:∀ k,V2.lv k≠.hole→V2.β k=V.β (g k)
 kin:∀ k,(V.lv (g k)).kin (V2.lv k)
section
variable {V V2:Vw}{g:Key→Key}
theorem Vw.Ren.mem (h:V.Ren V2 g):V2.mem=V.mem:=by
 unfold Vw.mem;rw [h.F,h.w]
theorem Vw.Ren.ptr (h:V.Ren V2 g){v:Value}{k:Key}{off:Nat}(hv:V.atPtr v (g k) off):V2.atPtr v k off:=by
 have h1:=h.kin k;have h2:=h.β k
 unfold Vw.atPtr at *
 cases e:V.lv (g k) <;> cases e':V2.lv k <;> simp [e,e',LB.kin] at h1 h2 hv ⊢ <;> (try rw [h2]) <;> assumption
theorem Vw.Ren.lsl (h:V.Ren V2 g){v:Value}{k:Key}{off len sz:Nat}(hv:V.atLsl v (g k) off len sz):V2.atLsl v k off len sz:=by
 have h1:=h.kin k;have h2:=h.β k
 unfold Vw.atLsl at *
 rw [h.w]
 cases e:V.lv (g k) <;> cases e':V2.lv k <;> simp [e,e',LB.kin] at h1 h2 hv ⊢ <;> (try rw [h2]) <;> assumption
theorem Vw.Ren.map (h:V.Ren V2 g){v:Value}{k:Key}(hv:V.atMap v (g k)):V2.atMap v k:=by
 have h1:=h.kin k;have h2:=h.β k
 unfold Vw.atMap at *
 cases e:V.lv (g k) <;> cases e':V2.lv k <;> simp [e,e',LB.kin] at h1 h2 hv ⊢ <;> (try rw [h2]) <;> assumption
theorem Vw.Ren.refC (h:V.Ren V2 g){v:Value}{x:RefC}(hv:V.refC v (x.ren g)):V2.refC v x:=by
 cases x with
 | d x=>exact⟨by rw [h.mem];exact hv.1,hv.2⟩
 | ptr k off=>exact⟨h.ptr hv.1,hv.2⟩
 | lsl k off len sz=>exact⟨h.lsl hv.1,hv.2⟩
theorem Vw.Ren.ref (h:V.Ren V2 g){v:Value}{x:Ref}(hv:V.ref v (x.ren g)):V2.ref v x:=by
 induction x generalizing v with
 | d x=>show Rd V2.mem v x;rw [h.mem];exact hv
 | ptr k off=>exact⟨h.ptr hv.1,hv.2⟩
 | lsl k off len sz=>exact⟨h.lsl hv.1,hv.2⟩
 | agg cs=>
  obtain⟨arr,rfl,h1,h2⟩:=hv
  refine⟨arr,rfl,by grind,fun i a b=>?_⟩
  have:=h2 i (by omega) b
  simp only [List.getElem_map] at this
  exact h.refC this
 | ifc t x ih=>obtain⟨v',rfl,h1⟩:=hv;exact⟨v',rfl,ih h1⟩
theorem Vw.Ren.cv (h:V.Ren V2 g){v:Value}{x:CV}(hv:V.cv v (x.ren g)):V2.cv v x:=by
 cases x with
 | d x=>exact⟨by rw [h.mem];exact hv.1,hv.2⟩
 | ptr k off=>exact⟨h.ptr hv.1,hv.2⟩
 | lsl k off len sz=>exact⟨h.lsl hv.1,hv.2⟩
 | mapr k=>exact⟨h.map hv.1,hv.2⟩
 | lsf k off len sz=>exact⟨⟨h.lsl hv.1.1,hv.1.2⟩,hv.2⟩
 | func fn f c=>
  obtain⟨fs,cs,rfl,h1,h2,h3,h4⟩:=hv
  simp only [List.length_map] at h1 h2
  refine⟨fs,cs,rfl,h1,h2,fun i a b=>h.ref ?_,fun i a b=>h.ref ?_⟩
  ·grind
  grind
 | ifc t x=>
  obtain⟨v',rfl,h1⟩:=hv
  exact⟨v',rfl,h.ref h1⟩
 | junk=>exact hv
theorem Vw.Ren.av0 (h:V.Ren V2 g){v:Value}{x:AV}(hv:V.av0 v (x.ren0 g)):V2.av0 v x∨∃ l,x=.tup l:=by
 cases x with
 | c x=>exact .inl (h.cv (x:=x) hv)
 | agg cs=>
  obtain⟨arr,rfl,h1,h2⟩:=hv
  simp only [List.length_map] at h1
  refine .inl ⟨arr,rfl,h1,fun i a b=>h.cv ?_⟩
  grind
 | tup l=>simp
 | undef=>exact .inl hv
 | junk=>exact .inl trivial
def AV.flat1:AV→Bool
 | .tup l=>l.all fun x=>match x with|.tup _=>false|_=>true
 | _=>true
theorem Vw.Ren.av (h:V.Ren V2 g){v:Value}{x:AV}(hx:x.flat1=true) (hv:V.av v (x.ren g)):V2.av v x:=by
 cases x with
 | tup l=>
  obtain⟨arr,rfl,h1,h2⟩:=hv
  simp only [List.length_map] at h1
  refine⟨arr,rfl,h1,fun i a b=>?_⟩
  have h3:=h2 i (by grind) b
  simp only [List.getElem_map] at h3
  rcases h.av0 h3 with h4|⟨l',h4⟩
  ·exact h4
  ·simp only [AV.flat1,List.all_eq_true] at hx
   have:=hx _ (List.getElem_mem a)
   grind
 | c x=>
  rcases h.av0 (x:=.c x) hv with h|⟨l,h⟩
  ·exact h
  grind
 | agg cs=>
  rcases h.av0 (x:=.agg cs) hv with h|⟨l,h⟩
  ·exact h
  grind
 | undef=>exact hv
 | junk=>trivial
end
def LB.ren (g:Key→Key):LB→LB
 | .cells own fz T cs=>.cells own fz T (cs.map (CV.ren g))
 | .map own es=>.map own (es.map fun p=>(p.1,p.2.ren0 g))
 | x=>x
def LB.as (x y:LB)(g:Key→Key):Prop:=
 match y with
 | .hole=>x=.hole
 | .dead=>x≠.hole
 | .nils=>x=.nils
 | .cells own fz T cs=>∃ own' cs',x=.cells own' fz T cs'∧cs'=cs.map (CV.ren g)∧(own=true→own'=true)
 | .map own es=>∃ own' es',x=.map own' es'∧es'=es.map (fun p=>(p.1,p.2.ren0 g))∧(own=true→own'=true)∧∀ p∈es,∀ l,p.2≠.tup l
theorem LB.as_kin {x y:LB}{g:Key→Key}(h:x.as y g):x.kin y:=by
 cases y <;> cases x <;> simp [LB.as,LB.kin] at h ⊢
theorem ownAt_weak {c:Ctx}{own own':Bool}{b:Nat}(h:ownAt c own' b) (hw:own=true→own'=true):ownAt c own b:=by
 unfold ownAt at *
 grind
structure Coarse (c:Ctx) (s s2:LSt) (g:Key→Key):Prop where
 as:∀ k,(s.lv (g k)).as (s2.lv k) g
 inj:∀ k k',(s2.lv k).live=true→(s2.lv k').live=true→g k=g k'→k=k'
 fr:∀ t,s2.fr t=.junk∨((s2.fr t).flat1=true∧s.fr t=(s2.fr t).ren g)
 keep:∀ k,c.lv0 k≠.hole→s2.lv k=.dead∨g k=k
theorem StOK.coarse {c:Ctx}{F:Nat→Prop}{β:Key→Nat}{s s2:LSt}{g:Key→Key}{a:Act}{w:World}(h:StOK c F β s a w) (hc:Coarse c s s2 g) :
 StOK c F (fun k=>β (g k)) s2 a w:=by
 have hR:(Vw.mk F β s.lv w).Ren (Vw.mk F (fun k=>β (g k)) s2.lv w) g:=⟨rfl,rfl,fun _ _=>rfl,fun k=>LB.as_kin (hc.as k)⟩
 have hlive:∀ k,(s2.lv k).live=true→(s.lv (g k)).live=true:=by
  intro k hk
  have:=hc.as k
  cases e:s2.lv k with
  | cells own fz T cs=>
   rw [e] at this hk
   obtain⟨own',cs',h1,_⟩:=this
   cases fz with
   | false=>rw [h1];rfl
   | true=>cases hk
  | map own es=>rw [e] at this;obtain⟨own',es',h1,_⟩:=this;rw [h1];rfl
  | hole=>rw [e] at hk;cases hk
  | dead=>rw [e] at hk;cases hk
  | nils=>rw [e] at hk;cases hk
 refine⟨?_,?_,?_,h.size,h.defers,h.Flt,h.F0,h.old,h.ge,h.glob,?_,h.asz,h.oso⟩
 ·intro k
  have hb:=h.blk (g k)
  have ha:=hc.as k
  unfold Vw.blk at hb ⊢
  cases e:s2.lv k with
  | cells own fz T cs=>
   rw [e] at ha
   obtain⟨own',cs',h1,h2,h3⟩:=ha
   simp only [h1] at hb
   obtain⟨arr,b1,b2,b3,b4,b5⟩:=hb
   subst h2
   simp only [e]
   refine⟨arr,b1,by grind,fun i p q=>hR.cv ?_,b4,ownAt_weak b5 h3⟩
   grind
  | map own es=>
   rw [e] at ha
   obtain⟨own',es',h1,h2,h3,h4⟩:=ha
   simp only [h1] at hb
   obtain⟨ents,clock,b1,b2,b3,b4,b5⟩:=hb
   subst h2
   simp only [List.length_map] at b2
   simp only [e]
   refine⟨ents,clock,b1,b2,fun i p q=>?_,b4,ownAt_weak b5 h3⟩
   have:=b3 i (by grind) q
   simp only [List.getElem_map] at this
   refine⟨this.1,?_⟩
   rcases hR.av0 this.2 with h5|⟨l,h5⟩
   ·exact h5
   grind
  | hole=>grind
  | dead=>grind
  | nils=>grind
 ·intro k k' h1 h2 he
  exact hc.inj k k' h1 h2 (h.inj _ _ (hlive k h1) (hlive k' h2) he)
 ·intro t
  rcases hc.fr t with h1|⟨h1,h2⟩
  ·rw [h1];trivial
  ·exact hR.av h1 (h2 ▸ h.fr t)
 ·intro k h0
  rcases hc.keep k h0 with h1|h1
  ·grind
  ·have ha:=hc.as k
   rw [h1] at ha
   rcases h.keep k h0 with h2|⟨h2,h3⟩
   ·left
    rw [h2] at ha
    cases e:s2.lv k <;> rw [e] at ha <;> simp [LB.as] at ha ⊢
   ·by_cases hd:s2.lv k=.dead
    ·grind
    ·right
     refine⟨by grind,?_⟩
     have hk:=LB.as_kin ha
     refine LB.sub_trans h3 ?_ h0
     cases e:s2.lv k <;> cases e':s.lv k <;> rw [e,e'] at hk <;> simp [LB.kin,LB.sub] at hk ⊢
def lvOf (σ ν:List LB):Key→LB:=fun k=>if k<1000 then σ.getD k .hole else ν.getD (k - 1000) .hole
def CtxE (P:Program)(G:List (List DV))(w:World)(F:Nat→Prop)(β:Key→Nat)(lv:Key→LB):Ctx:=
 ⟨P,G,w,F,fun b=>∃ k,(lv k).live=true∧β k=b,0,lv,β,[]⟩
def Sits (c:Ctx)(F:Nat→Prop)(β:Key→Nat)(lv:Key→LB)(w:World):Prop:=
 StOK { c with n:=0,ds:=[] } F β ⟨fun _=>.junk,lv⟩ ⟨#[],[]⟩ w
theorem StOK.sits {c:Ctx}{F:Nat→Prop}{β:Key→Nat}{s:LSt}{a:Act}{w:World}(h:StOK c F β s a w):Sits c F β s.lv w:=
 ⟨h.blk,h.inj,fun _=>trivial,rfl,rfl,h.Flt,h.F0,h.old,h.ge,h.glob,h.keep,h.asz,h.oso⟩
theorem Sits.with {c:Ctx}{F:Nat→Prop}{β:Key→Nat}{lv:Key→LB}{w:World}(h:Sits c F β lv w) {fr:Nat→AV}{a:Act}(h1:a.tmps.size=c.n) (h2:a.defers=c.ds)
 (h3:∀ t,(Vw.mk F β lv w).av (a.tmps.getD t undef) (fr t)):StOK c F β ⟨fr,lv⟩ a w:=
 ⟨h.blk,h.inj,h3,h1,h2,h.Flt,h.F0,h.old,h.ge,h.glob,h.keep,h.asz,h.oso⟩
inductive Out where
 | ret (x:AV) (σ ν:List LB)
 | pan (d:DV)
def LB.killed (x:LB):LB:=match x with|.hole=>.hole|_=>.dead
def outR (P:Program)(G:List (List DV))(σ:List LB)(F:Nat→Prop)(β:Key→Nat)(w:World)(o:Out)(e:Ending)(w':World):Prop:=
 match o with
 | .ret x σ' ν=>∃ v F' β',e=.returned v∧Sits (CtxE P G w F β (lvOf σ [])) F' β' (lvOf σ' ν) w'∧(Vw.mk F' β' (lvOf σ' ν) w').av v x
 | .pan d=>∃ v F' β',e=.panicked [{ v:=v,recovered:=false }]∧Sits (CtxE P G w F β (lvOf σ [])) F' β' (fun k=>(lvOf σ [] k).killed) w'∧Rd (memF w' F') v d
def CallsS (P:Program)(G:List (List DV))(f:FuncId)(args:List AV)(σ:List LB)(o:Out):Prop:=
 ∀ (F:Nat→Prop) (β:Key→Nat) (w:World) (vs:Array Value),Sits (CtxE P G w F β (lvOf σ [])) F β (lvOf σ []) w→vs.size=args.length →
  (∀ i (h:i<args.length) (h':i<vs.size),(Vw.mk F β (lvOf σ []) w).av vs[i] args[i])→Calls P f vs w (outR P G σ F β w o)
def CallsP (P:Program)(G:List (List DV))(f:FuncId)(args:List AV)(x:AV):Prop:=CallsS P G f args [] (.ret x [] [])
def chunk {α:Type}(sz n:Nat) (l:List α):List (List α):=(List.range n).map fun i=>(l.drop (i*sz)).take sz
def toDVs (f:CV→Option (DV × List Key)):List CV→Option (List DV × List Key)
 | []=>some ([],[])
 | x::r=>match f x,toDVs f r with
  | some (d,k),some (l,ks)=>some (d::l,k++ks)
  | _,_=>none
def toDV (lv:Key→LB):Nat→CV→Option (DV × List Key)
 | _,.d x=>some (x,[])
 | n+1,.ptr k off=>match lv k with
  | .cells _ _ _ cs=>if off≤cs.length then (toDVs (toDV lv n) (cs.drop off)).map fun p=>(.ptr p.1,k::p.2) else none
  | _=>none
 | n+1,.lsl k off len sz=>match lv k with
  | .cells _ _ _ cs=>if off+len*sz≤cs.length∧len≤9223372036854775807 then (toDVs (toDV lv n) ((cs.drop off).take (len*sz))).map fun p=>(.sl (chunk sz len p.1),k::p.2) else none
  | .nils=>some (.nilsl,[])
  | _=>none
 | _,_=>none
theorem toDVs_get {f:CV→Option (DV × List Key)}:∀ {cs:List CV}{l:List DV}{ks:List Key},toDVs f cs=some (l,ks)→l.length=cs.length ∧
 ∀ i (h:i<l.length) (h':i<cs.length),∃ k,f cs[i]=some (l[i],k)∧∀ x∈k,x∈ks
 | [],l,ks,h=>by simp only [toDVs,Option.some.injEq,Prod.mk.injEq] at h;grind
 | x::r,l,ks,h=>by
  simp only [toDVs] at h
  split at h
  ·rename_i d k l' ks' h1 h2
   simp only [Option.some.injEq,Prod.mk.injEq] at h
   obtain⟨rfl,rfl⟩:=h
   obtain⟨h3,h4⟩:=toDVs_get h2
   refine⟨by simp [h3],fun i p q=>?_⟩
   cases i with
   | zero=>grind
   | succ i=>
    obtain⟨k',h5,h6⟩:=h4 i (by grind) (by grind)
    grind
  grind
section
variable {c:Ctx}{F:Nat→Prop}{β:Key→Nat}{s:LSt}{a:Act}{w:World}
theorem Sits.toDV (h:Sits c F β s.lv w){Fz:Nat→Prop}(hF:∀ b,F b→Fz b):∀ (n:Nat) (x:CV) (d:DV) (ks:List Key) (v:Value),Am.toDV s.lv n x=some (d,ks)→(∀ k∈ks,Fz (β k)) →
 (Vw.mk F β s.lv w).cv v x→Rd (memF w Fz) v d
 | n,.d x,d,ks,v,ht,hk,hv=>by
  simp only [Am.toDV,Option.some.injEq,Prod.mk.injEq] at ht
  obtain⟨rfl,rfl⟩:=ht
  exact Rd.mono (memF_le hF (fun _ _=>rfl)) hv.1
 | n+1,.ptr k off,d,ks,v,ht,hk,hv=>by
  simp only [Am.toDV] at ht
  split at ht
  ·rename_i own fz T cs e
   split at ht
   ·rename_i hoff
    rw [Option.map_eq_some_iff] at ht
    obtain⟨⟨l,ks'⟩,ht,he⟩:=ht
    simp only [Prod.mk.injEq] at he
    obtain⟨rfl,rfl⟩:=he
    obtain⟨h1,h2⟩:=toDVs_get ht
    have hb:=h.blk k
    unfold Vw.blk at hb;simp only [e] at hb
    obtain⟨arr,b1,b2,b3,_⟩:=hb
    obtain⟨hv,_⟩:=hv
    simp only [Vw.atPtr,e] at hv
    subst hv
    simp only [List.length_drop] at h1
    refine .ptr (β k) off (fun i=>arr.getD (off+i) undef) l (fun i hi=>⟨hk k (by simp),?_⟩) (fun i hi=>?_) (fun i hi=>?_)
    ·have hi':off+i<arr.size:=by omega
     rw [cell_of_block b1 hi'];simp_all
    ·have hi':off+i<arr.size:=by omega
     simp only [Array.getD,hi',dite_true]
     exact Vw.cv_oneCell (b3 (off+i) (by omega) hi')
    ·have hi':off+i<arr.size:=by omega
     obtain⟨k',h3,h4⟩:=h2 i hi (by simp;omega)
     simp only [Array.getD,hi',dite_true]
     simp only [List.getElem_drop] at h3
     exact Sits.toDV h hF n _ _ _ _ h3 (fun x hx=>hk x (by grind)) (b3 (off+i) (by omega) hi')
   grind
  grind
 | n+1,.lsl k off len sz,d,ks,v,ht,hk,hv=>by
  simp only [Am.toDV] at ht
  split at ht
  ·rename_i own fz T cs e
   split at ht
   ·rename_i hoff
    rw [Option.map_eq_some_iff] at ht
    obtain⟨⟨l,ks'⟩,ht,he⟩:=ht
    simp only [Prod.mk.injEq] at he
    obtain⟨rfl,rfl⟩:=he
    obtain⟨h1,h2⟩:=toDVs_get ht
    have hb:=h.blk k
    unfold Vw.blk at hb;simp only [e] at hb
    obtain⟨arr,b1,b2,b3,_⟩:=hb
    obtain⟨hv,_⟩:=hv
    simp only [Vw.atLsl,e] at hv
    obtain⟨cap,rfl,hcap,_⟩:=hv
    have hl:l.length=len*sz:=by rw [h1];simp;omega
    have hcl:(chunk sz len l).length=len:=by simp [chunk]
    have hce:∀ i (hi:i<(chunk sz len l).length),(chunk sz len l)[i]=(l.drop (i*sz)).take sz:=by intro i hi;simp [chunk]
    have hsz:∀ i,i<len→i*sz+sz≤len*sz:=by
     intro i hi
     have:(i+1)*sz≤len*sz:=Nat.mul_le_mul_right _ hi
     rwa [Nat.add_mul,Nat.one_mul] at this
    have key:=Rd.sl (M:=memF w Fz) (β k) off cap sz (chunk sz len l) (fun i j=>arr.getD (off+i*sz+j) undef) ?_ (by omega) (by omega) ?_ ?_ ?_
    ·rwa [hcl] at key
    ·intro x hx
     obtain⟨i,hi,rfl⟩:=List.mem_iff_getElem.1 hx
     grind
    ·intro i hi j hj
     rw [hcl] at hi
     have:=hsz i hi
     have hi':off+i*sz+j<arr.size:=by omega
     refine⟨hk k (by simp),?_⟩
     rw [cell_of_block b1 hi'];simp [Array.getD,hi']
    ·intro i hi j hj
     rw [hcl] at hi
     have:=hsz i hi
     have hi':off+i*sz+j<arr.size:=by omega
     simp only [Array.getD,hi',dite_true]
     exact Vw.cv_oneCell (b3 _ (by omega) hi')
    ·intro i hi j hj
     have hi2:=hi
     rw [hcl] at hi2
     have h5:=hsz i hi2
     simp only [hce] at hj ⊢
     have hj':j<sz:=by simp at hj;omega
     have hi':off+i*sz+j<arr.size:=by omega
     simp only [Array.getD,hi',dite_true,List.getElem_take,List.getElem_drop]
     obtain⟨k',h3,h4⟩:=h2 (i*sz+j) (by omega) (by simp;omega)
     simp only [List.getElem_take,List.getElem_drop] at h3
     have h6:=b3 (off+i*sz+j) (by omega) hi'
     have e2:off+i*sz+j=off+(i*sz+j):=by omega
     simp only [e2] at h6 ⊢
     exact Sits.toDV h hF n _ _ _ _ h3 (fun x hx=>hk x (by grind)) h6
   grind
  ·rename_i e
   simp only [Option.some.injEq,Prod.mk.injEq] at ht
   obtain⟨rfl,rfl⟩:=ht
   obtain⟨hv,_⟩:=hv
   simp only [Vw.atLsl,e] at hv
   rw [hv.1];exact .nilsl
  grind
 | 0,.ptr ..,_,_,_,ht,_,_=>by cases ht
 | 0,.lsl ..,_,_,_,ht,_,_=>by cases ht
 | n,.mapr _,_,_,_,ht,_,_=>by cases n <;> cases ht
 | n,.lsf ..,_,_,_,ht,_,_=>by cases n <;> cases ht
 | n,.func ..,_,_,_,ht,_,_=>by cases n <;> cases ht
 | n,.ifc ..,_,_,_,ht,_,_=>by cases n <;> cases ht
 | n,.junk,_,_,_,ht,_,_=>by cases n <;> cases ht
end
def RelM (M:Mem)(cs:List Value)(l:List DV):Prop:=
 cs.length=l.length∧∀ i (h:i<cs.length) (h':i<l.length),Rd M cs[i] l[i]∧(cs[i]).oneCell'=true
theorem RelM.nil {M:Mem}:RelM M [] []:=⟨rfl,fun i h=>by cases h⟩
theorem RelM.one {M:Mem}{v:Value}{d:DV}(h:Rd M v d) (ho:v.oneCell'=true):RelM M [v] [d]:=
 ⟨rfl,fun i h1 h2=>by
  grind⟩
theorem RelM.app {M:Mem}{a b:List Value}{l m:List DV}(h1:RelM M a l) (h2:RelM M b m):RelM M (a++b) (l++m):=by
 refine⟨by simp [h1.1,h2.1],fun i h h'=>?_⟩
 by_cases e:i<a.length
 ·rw [List.getElem_append_left e,List.getElem_append_left (h1.1 ▸ e)]
  exact h1.2 i e (h1.1 ▸ e)
 ·have e1:a.length≤i:=Nat.le_of_not_lt e
  rw [List.getElem_append_right e1,List.getElem_append_right (h1.1 ▸ e1)]
  have:=h2.2 (i - a.length) (by grind) (by have:=h1.1;grind)
  simpa [h1.1] using this
theorem RelM.segs {M:Mem}:∀ (ss:List Nat) (cs:List Value) (ls:List (List DV)),ls.length=ss.length→cs.length=ss.sum →
 (∀ i (h:i<ss.length) (h':i<ls.length),RelM M ((cs.drop (ss.take i).sum).take ss[i]) ls[i])→RelM M cs ls.flatten
 | [],cs,ls,h1,h2,_=>by
  cases ls with
  | nil=>simp at h2;subst h2;exact RelM.nil
  | cons _ _=>cases h1
 | s::ss,cs,ls,h1,h2,h3=>by
  cases ls with
  | nil=>cases h1
  | cons l ls=>
   have h0:RelM M (cs.take s) l:=h3 0 (by simp) (by simp)
   have hr:RelM M (cs.drop s) ls.flatten:=by
    refine RelM.segs ss (cs.drop s) ls (by grind) (by grind) fun i h h'=>?_
    have:=h3 (i+1) (by grind) (by grind)
    simpa [List.take_succ_cons,List.drop_drop,Nat.add_comm] using this
   have:=h0.app hr
   simp_all
theorem exists_list {α:Type}:∀ (n:Nat) (p:Nat→α→Prop),(∀ i,i<n→∃ x,p i x)→∃ l:List α,l.length=n∧∀ i (h:i<l.length),p i l[i]
 | 0,_,_=>⟨[],rfl,fun i h=>by cases h⟩
 | n+1,p,h=>by
  obtain⟨x,hx⟩:=h 0 (by omega)
  obtain⟨l,hl,hp⟩:=exists_list n (fun i=>p (i+1)) (fun i hi=>h (i+1) (by omega))
  refine⟨x::l,by simp [hl],fun i hi=>?_⟩
  grind
def plainT (P:Program):Bool→Nat→TypeId→Bool
 | _,0,_=>false
 | s,n+1,t=>match P.underlying t with
  | some .bool=>true
  | some (.int _)=>true
  | some .string=>true
  | some (.slice e)=>s && plainT P false n e
  | some (.struct fs)=>fs.toList.all fun f=>plainT P s n f.type
  | some (.array _ e)=>plainT P s n e
  | _=>false
def inT (P:Program):Nat→TypeId→List DV→Prop
 | 0,_,_=>False
 | n+1,t,l=>match P.underlying t with
  | some .bool=>∃ b,l=[.bool b]
  | some (.int k)=>∃ i,l=[.int k i]
  | some .string=>∃ s,l=[.str s]
  | some (.slice e)=>l=[.nilsl]∨∃ es,l=[.sl es]∧∀ x∈es,inT P n e x
  | some (.struct fs)=>∃ ls:List (List DV),ls.length=fs.size∧l=ls.flatten∧∀ i (h:i<fs.size) (h':i<ls.length),inT P n fs[i].type ls[i]
  | some (.array m e)=>∃ ls:List (List DV),ls.length=m∧l=ls.flatten∧∀ x∈ls,inT P n e x
  | _=>False
mutual
def dvL {H:Type}:DataW H→List DV
 | .lit (.bool b)=>[.bool b]
 | .lit (.int k n)=>[.int k n]
 | .lit (.string s)=>[.str s]
 | .agg ps=>dvLs ps
 | _=>[]
def dvLs {H:Type}:List (DataW H)→List DV
 | []=>[]
 | d::r=>dvL d++dvLs r
end
theorem dvLs_eq {H:Type}:∀ l:List (DataW H),dvLs l=(l.map dvL).flatten
 | []=>rfl
 | d::r=>by simp [dvLs,dvLs_eq r]
theorem cell_lt {w:World}{a:Addr}{v:Value}(h:w.cell? a=some v):a.block<w.heap.size:=by
 unfold World.cell? at h
 grind
abbrev allM (w:World):Mem:=memF w (fun b=>b<w.heap.size)
theorem wf_wrap {k:IntKind}{n:Int}(h:(Lit.int k n).wf=true):k.wrap n=n:=by
 refine wrap_in ?_
 simp only [Lit.wf,Bool.and_eq_true,decide_eq_true_eq] at h
 cases k <;> (simp [IntKind.min,IntKind.max,IntKind.signed,IntKind.bits,loK,hiK] at h ⊢;omega)
theorem trod_rd {H:Type}{enc:TypeId × Value→H}{P:Program}{w:World}{base:Nat}{spare:Nat→Bool}{held:Bool}{T:TypeId→Prop}(K:Kids P T) :
 ∀ (n:Nat) (s:Bool) (t:TypeId) (fuel:Nat) (cs:List Value) (x:DataW H × List MemPlace),T t→plainT P s n t=true →
  (s=true→∀ (i:Nat) (a:Addr) (len cap:Nat),cs[i]?=some (.slice (some a) len cap)→a.spot=none) →
  DataW.trod enc P w base spare held fuel t cs=some x→∃ l,inT P n t l∧RelM (allM w) cs l∧(s=false→l=dvL x.1)
 | 0,_,_,_,_,_,_,h,_,_=>by simp [plainT] at h
 | n+1,s,t,fuel,cs,x,hT,hp,hs,h=>by
  unfold plainT at hp
  split at hp
  ·rename_i hu
   obtain⟨b,rfl,rfl⟩:=DataW.trod_bool hu h
   exact⟨[.bool b],by simp [inT,hu],RelM.one (.bool b) rfl,fun _=>rfl⟩
  ·rename_i k hu
   obtain⟨i,rfl,rfl,hw⟩:=DataW.trod_int hu h
   exact⟨[.int k i],by simp [inT,hu],RelM.one (.int k i (wf_wrap hw)) rfl,fun _=>rfl⟩
  ·rename_i hu
   obtain⟨b,rfl,rfl,hl⟩:=DataW.trod_string hu h
   refine⟨[.str b.data.toList],by simp [inT,hu],RelM.one (.str b ?_) rfl,fun _=>rfl⟩
   have e:b.data.toList.length=b.size:=by simp
   rw [e]
   simp only [maxLen] at hl
   omega
  ·rename_i e hu
   simp only [Bool.and_eq_true] at hp
   obtain⟨rfl,hp⟩:=hp
   rcases DataW.trod_slice hu h with ⟨rfl,rfl⟩|⟨a,len,cap,elems,rest,m,rfl,rfl,rfl,hb,hlc,hcm,hel,hget,_,_⟩
   ·exact⟨[.nilsl],by simp [inT,hu],RelM.one .nilsl rfl,fun h=>by cases h⟩
   ·have hsp:=hs rfl 0 a len cap rfl
    obtain⟨b,off,sp⟩:=a
    simp only at hsp
    subst hsp
    obtain⟨l,hl,hq⟩:=exists_list (α:=List Value × List DV) len (fun i q=>w.cells? base (Addr.add ⟨b,off,none⟩ (i*P.cellsOf e)) (P.cellsOf e)=some q.1∧inT P n e q.2∧RelM (allM w) q.1 q.2) (by
     intro i hi
     have h1:=hget i hi
     rw [List.getElem?_eq_getElem (by omega)] at h1
     obtain⟨c,hc,ht⟩:=Option.bind_eq_some_iff.1 h1
     obtain⟨l,h2,h3,_⟩:=trod_rd K n false e m c _ (K.slice hT hu) hp (fun h=>by cases h) ht
     exact⟨(c,l),hc,h2,h3⟩)
    subst hl
    have hlen:∀ i (h:i<l.length),(l[i].1).length=P.cellsOf e:=fun i h=>(World.cells?_some (hq i h).1).2.1
    have hcell:∀ i (h:i<l.length) j (hj:j<P.cellsOf e),w.cell? ⟨b,off+i*P.cellsOf e+j,none⟩=some ((l[i].1).getD j undef):=by
     intro i h j hj
     have h1:=(World.cells?_some (hq i h).1).2.2 j hj
     have h2:(Addr.add (Addr.add ⟨b,off,none⟩ (i*P.cellsOf e)) j)=⟨b,off+i*P.cellsOf e+j,none⟩:=by
      unfold Addr.add
      split <;> split <;> simp_all
     rw [h2] at h1
     rw [h1,List.getD_eq_getElem?_getD,List.getElem?_eq_getElem (by grind)]
     rfl
    have hR:=Rd.sl (M:=allM w) b off cap (P.cellsOf e) (l.map (·.2)) (fun i j=>(l.getD i ([],[])).1.getD j undef)
     (by
      intro x hx
      obtain⟨q,hq',rfl⟩:=List.mem_map.1 hx
      obtain⟨i,hi,rfl⟩:=List.getElem_of_mem hq'
      rw [← (hq i hi).2.2.1,hlen i hi])
     (by grind) (by simp only [maxLen] at hcm;grind)
     (by
      intro i hi j hj
      have hi':i<l.length:=by simpa using hi
      have:=hcell i hi' j hj
      refine⟨cell_lt this,?_⟩
      grind)
     (by
      intro i hi j hj
      have hi':i<l.length:=by simpa using hi
      have hj':j<(l[i].1).length:=by rw [hlen i hi'];exact hj
      have:=((hq i hi').2.2.2 j hj' (by rw [← (hq i hi').2.2.1];exact hj')).2
      grind)
     (by
      intro i hi j hj
      have hi':i<l.length:=by simpa using hi
      have hj2:j<(l[i].2).length:=by simpa using hj
      have hj':j<(l[i].1).length:=by rw [(hq i hi').2.2.1];exact hj2
      have:=((hq i hi').2.2.2 j hj' hj2).1
      grind)
    refine⟨[.sl (l.map (·.2))],?_,RelM.one ?_ rfl,fun h=>by cases h⟩
    ·simp only [inT,hu]
     refine .inr ⟨_,rfl,fun x hx=>?_⟩
     obtain⟨q,hq',rfl⟩:=List.mem_map.1 hx
     obtain⟨i,hi,rfl⟩:=List.getElem_of_mem hq'
     grind
    grind
  ·rename_i fs hu
   obtain⟨xs,m,rfl,rfl,hlen,hxs,hget⟩:=DataW.trod_struct hu h
   obtain⟨k1,k2,k3⟩:=K.struct hT hu
   have hstep:∀ i,i<fs.size→∃ l,∀ (hi:i<fs.size) (hx:i<xs.length),inT P n fs[i].type l∧RelM (allM w) ((cs.drop fs[i].offset).take (P.cellsOf fs[i].type)) l∧(s=false→l=dvL xs[i].1):=by
    intro i hi
    have h1:=hget i fs[i] (by simp [hi])
    rw [List.getElem?_eq_getElem (by omega)] at h1
    have hm:fs[i]∈fs.toList:=by simp
    obtain⟨l,h2,h3,h4⟩:=trod_rd K n s fs[i].type m _ _ (k1 _ hm) (List.all_eq_true.1 hp _ hm) (by
     grind) h1
    exact⟨l,fun _ _=>⟨h2,h3,h4⟩⟩
   obtain⟨ls,hl,hq⟩:=exists_list fs.size _ hstep
   refine⟨ls.flatten,?_,?_,fun hf=>?_⟩
   ·simp only [inT,hu]
    grind
   ·refine RelM.segs (fs.toList.map fun f=>P.cellsOf f.type) cs ls (by simp [hl]) (by omega) fun i h h'=>?_
    have hi:i<fs.size:=by simpa using h
    have h3:=(hq i h' hi (by omega)).2.1
    have ho:=k3 i fs[i] (by simp [hi])
    simp_all
   ·simp only [dvL,dvLs_eq,List.map_map]
    congr 1
    refine List.ext_getElem (by simp;omega) fun i h1 h2=>?_
    grind
  ·rename_i m e hu
   obtain⟨xs,f,rfl,rfl,hlen,hxs,hget⟩:=DataW.trod_array hu h
   obtain⟨k1,k2⟩:=K.array hT hu
   have hstep:∀ i,i<m→∃ l,∀ (hx:i<xs.length),inT P n e l∧RelM (allM w) ((cs.drop (i*P.cellsOf e)).take (P.cellsOf e)) l∧(s=false→l=dvL xs[i].1):=by
    intro i hi
    have h1:=hget i hi
    rw [List.getElem?_eq_getElem (by omega)] at h1
    obtain⟨l,h2,h3,h4⟩:=trod_rd K n s e f _ _ k1 hp (by
     grind) h1
    exact⟨l,fun _=>⟨h2,h3,h4⟩⟩
   obtain⟨ls,hl,hq⟩:=exists_list m _ hstep
   refine⟨ls.flatten,?_,?_,fun hf=>?_⟩
   ·simp only [inT,hu]
    refine⟨ls,hl,rfl,fun x hx=>?_⟩
    obtain⟨i,hi,rfl⟩:=List.getElem_of_mem hx
    grind
   ·refine RelM.segs (List.replicate m (P.cellsOf e)) cs ls (by simp [hl]) (by simp_all) fun i h h'=>?_
    have h3:=(hq i h' (by omega)).2.1
    have hm:min i m=i:=by simp at h;omega
    simp_all
   ·simp only [dvL,dvLs_eq,List.map_map]
    congr 1
    refine List.ext_getElem (by simp;omega) fun i h1 h2=>?_
    grind
  grind
structure Kept (W W':World):Prop where
 old:∀ b,b<W.heap.size→W'.heap[b]?=W.heap[b]?
 os:W'.os=W.os
 out:W'.output=W.output
theorem Kept.but {W W':World}(h:Kept W W') (may:MemPlace→Prop):W.keptBut W' may:=by
 refine⟨h.os,h.out,fun i hi=>?_⟩
 rw [h.old i hi]
 grind
theorem Kept.sameAt {W W':World}(h:Kept W W') {p:MemPlace}(hp:p.block<W.heap.size):W.sameAt W' p:=by
 cases p with
 | cell b off=>simp only [World.sameAt,World.cell?];rw [h.old b hp]
 | map b=>exact h.old b hp
theorem trodAll_carry {H:Type}{enc:TypeId × Value→H}{P:Program}{w w':World}{base:Nat}{spare:Nat→Bool}{held:Bool} :
 ∀ {ts:List TypeId}{vs:List Value}{ds:List (DataW H)}{ps:List MemPlace},DataW.TrodAll enc P w base spare held ts vs ds ps→(∀ p∈ps,w.sameAt w' p)→DataW.TrodAll enc P w' base spare held ts vs ds ps
 | [],[],[],_,h,_=>h
 | _::_,_::_,_::_,_,⟨p,q,⟨n,h1⟩,h2,e⟩,hs=>
  ⟨p,q,⟨n,DataW.trod_carry n _ _ _ h1 (fun x hx=>hs x (by grind))⟩,trodAll_carry h2 (fun x hx=>hs x (by grind)),e⟩
theorem Kept.args {H:Type}{enc:TypeId × Value→H}{P:Program}{W W':World}{T:TypeId→Prop}(K:Kids P T) (hz:∀ t e,T t→P.underlying t=some (.slice e)→0<P.cellsOf e)
 (h:Kept W W') {ts:List TypeId}{vs:List Value}{ds:List (DataW H)}{ps:List MemPlace}(hT:∀ t∈ts,T t) (hr:DataW.TrodAll enc P W 0 (fun _=>true) true ts vs ds ps) :
 DataW.TrodAll enc P W' 0 (fun b=>decide (b<W.heap.size)) true ts vs ds ps:=by
 have hlt:=DataW.TrodAll.lt hr
 refine trodAll_carry (DataW.TrodAll.respare K hz hT hr (fun p hp=>by grind)) (fun p hp=>h.sameAt (hlt p hp))
theorem law_post {H:Type}{enc:TypeId × Value→H}{P:Program}{f:Func}{s:ChangeSpec}{apart fresh handsOn:Bool}{W W':World}{args:Array Value}{ds gs:List (DataW H)}{before:List MemPlace}
 {T:TypeId→Prop}{tb:TypeId}(K:Kids P T) (hz:∀ t e,T t→P.underlying t=some (.slice e)→0<P.cellsOf e) (hT:∀ t∈f.params.toList,T t)
 (hv:s.vars=[]) (hr:f.resultTypes=#[tb]) (hb:P.underlying tb=some .bool)
 (hW:DataW.Whole enc P f.params.toList s.vars apart W args.toList ds gs before) (hs:s.fn H (ds++gs)={ results:=[.lit (.bool true)],args:=ds }) (h:Kept W W') :
 s.post enc P f apart fresh handsOn false W args (.bool true) W':=by
 have hW':=hW
 obtain⟨p,q,hA,hV,rfl,hfz,hnd⟩:=hW
 refine⟨ds,gs,p++q,[],p,[],hW',?_,?_,?_,h.but _,fun h=>by cases h⟩
 ·rw [hs,hr];exact⟨[],[],⟨1,by simp [DataW.trod,Value.cells,hb]⟩,rfl,rfl⟩
 ·rw [hs];exact h.args K hz hT hA
 ·rw [hs,hv];rfl
theorem laidVars_mem {P:Program}{W:World}:∀ {l:List (String × DataW Unit)}{ps:List MemPlace},DataW.LaidVars P W l ps→∀ x∈l,
 ∃ g t cs fuel p,P.globalNamed x.1=some g∧(P.globals[g]?).map (·.type)=some t∧W.var? P x.1=some cs∧DataW.trod (fun _=>()) P W 0 (fun _=>true) false fuel t cs.toList=some (x.2,p)
 | [],_,_,x,hx=>by cases hx
 | (n,d)::r,ps,h,x,hx=>by
  obtain⟨g,t,cs,fuel,p,q,h1,h2,h3,h4,h5,_⟩:=h
  rcases List.mem_cons.1 hx with rfl|hx
  ·grind
  ·exact laidVars_mem h5 x hx
theorem rd_table {P:Program}{W:World}{n:String}{g:Nat}{cs:Array Value}{l:List DV}(hg:P.globalNamed n=some g) (hc:W.var? P n=some cs)
 (hR:RelM (allM W) cs.toList l):Rd (allM W) (.pointer (some ⟨g,0,none⟩)) (.ptr l):=by
 have hl:cs.size=l.length:=by simpa using hR.1
 refine .ptr g 0 (fun i=>cs.toList.getD i undef) l (fun i hi=>?_) (fun i hi=>?_) (fun i hi=>?_)
 ·have:=World.var?_cell hg hc i
  rw [Array.getElem?_eq_getElem (by omega)] at this
  rw [Nat.zero_add]
  refine⟨cell_lt this,?_⟩
  grind
 ·have:=(hR.2 i (by simp;omega) hi).2
  grind
 ·have:=(hR.2 i (by simp;omega) hi).1
  grind
theorem row_call {P:Program}{G:List (List DV)}{f:FuncId}{us:List AV}{b:Bool}(hC:CallsP P G f us (.c (.d (.bool b)))) {W:World}{vs:Array Value}
 (hG:∀ g cs,G[g]?=some cs→Rd (allM W) (.pointer (some ⟨g,0,none⟩)) (.ptr cs)) (hl:vs.size=us.length)
 (hv:∀ i (h:i<us.length) (h':i<vs.size),(Vw.mk (fun b=>b<W.heap.size) (fun _=>0) (lvOf [] []) W).av vs[i] us[i]) :
 Calls P f vs W fun e W'=>e=.returned (.bool b)∧Kept W W':=by
 refine (hC (fun b=>b<W.heap.size) (fun _=>0) W vs ?_ hl hv).mono fun e W' h=>?_
 ·refine⟨fun k=>?_,fun k k' hk=>?_,fun _=>trivial,rfl,rfl,fun b hb=>⟨hb,.inl hb⟩,fun _ hb=>hb,fun _ _ _=>rfl,Nat.le_refl _,hG,fun k hk=>.inr ⟨rfl,LB.sub_refl _⟩,fun _=>Nat.le_refl _,⟨rfl,rfl⟩⟩
  ·have:lvOf [] [] k=.hole:=by unfold lvOf;split <;> rfl
   unfold Vw.blk;grind
  ·have:lvOf [] [] k=.hole:=by unfold lvOf;split <;> rfl
   simp only [this] at hk;cases hk
 ·obtain⟨v,F',β',rfl,hS,hx⟩:=h
  have hx':Rd (memF W' F') v (.bool b)∧v.oneCell'=true:=hx
  refine⟨?_,⟨fun i hi=>hS.old i hi ?_,hS.oso.1,hS.oso.2⟩⟩
  ·cases hx'.1;rfl
  ·rintro⟨k,hk,_⟩
   have:lvOf [] [] k=.hole:=by unfold lvOf;split <;> rfl
   simp only [this] at hk;cases hk
theorem okWide_spot {P:Program}{w:World}{r:Reach}{base:Nat}{u:TypeId}{a:Addr}{len cap:Nat}(h:Cell.okWide P w r base u (.slice (some a) len cap)):a.spot=none:=by
 unfold Cell.okWide at h
 split at h <;> rename_i e <;> first|cases e|skip
 all_goals unfold Cell.ok at h
 all_goals split at h <;> rename_i e2 <;> first|cases e2|grind|skip
 all_goals exact h.2.2.2.1
theorem shaped_int {P:Program}{W:World}(h:W.ShapedOpen P) {g:Nat}{zero:Array Value}{t:TypeId}{k:IntKind}(hg:g<P.globals.size)
 (hr:((begin P (fun _ _=>0) default).world.heap[g]?).bind Obj.row?=some (zero,t)) (hz:zero.size=1) (hb:P.buildable t=true) (ht:P.cellTypes P.depth t=some [t]) (hu:P.underlying t=some (.int k)) :
 ∃ m,W.cell? ⟨g,0,none⟩=some (.int k m)∧k.wrap m=m:=by
 obtain⟨cs,h1,h2,h3⟩:=h.1 g zero t hg hr
 obtain⟨ts,e1,_,e3⟩:=h3 hb
 rw [ht] at e1
 obtain rfl:=Option.some.inj e1
 have h0:cs[0]?=some (cs[0]'(by omega)):=Array.getElem?_eq_getElem _
 obtain⟨u,e4,e5⟩:=e3 0 _ h0
 have e6:u=t:=by simpa using e4.symm
 subst e6
 have hc:W.cell? ⟨g,0,none⟩=some (cs[0]'(by omega)):=by simp [World.cell?,h1,h0]
 unfold Cell.ok at e5
 rw [hu] at e5
 split at e5 <;> rename_i x y <;> first|cases x|skip
 all_goals first|(cases e5;done)|skip
 all_goals
  rename_i hv
  rw [y] at hc
  obtain⟨rfl,hk⟩:=e5
  refine⟨_,hc,wf_wrap ?_⟩
  simpa [Lit.wf,IntKind.has] using hk
structure Vw.Up (V V2:Vw) (g:Key→Key):Prop where
 F:V2.F=V.F
 w:V2.w=V.w
 kin:∀ k,V.lv k≠.hole→(V.lv k).kin (V2.lv (g k))
 β:∀ k,V.lv k≠.hole→V2.β (g k)=V.β k
section
variable {V V2:Vw}{g:Key→Key}
theorem Vw.Up.mem (h:V.Up V2 g):V2.mem=V.mem:=by
 unfold Vw.mem;rw [h.F,h.w]
theorem Vw.Up.ptr (h:V.Up V2 g){v:Value}{k:Key}{off:Nat}(hv:V.atPtr v k off):V2.atPtr v (g k) off:=by
 have h1:=h.kin k;have h2:=h.β k
 unfold Vw.atPtr at *
 cases e:V.lv k <;> cases e':V2.lv (g k) <;> simp [e,e',LB.kin] at h1 h2 hv ⊢ <;> (try rw [h2]) <;> assumption
theorem Vw.Up.lsl (h:V.Up V2 g){v:Value}{k:Key}{off len sz:Nat}(hv:V.atLsl v k off len sz):V2.atLsl v (g k) off len sz:=by
 have h1:=h.kin k;have h2:=h.β k
 unfold Vw.atLsl at *
 rw [h.w]
 cases e:V.lv k <;> cases e':V2.lv (g k) <;> simp [e,e',LB.kin] at h1 h2 hv ⊢ <;> (try rw [h2]) <;> assumption
theorem Vw.Up.map (h:V.Up V2 g){v:Value}{k:Key}(hv:V.atMap v k):V2.atMap v (g k):=by
 have h1:=h.kin k;have h2:=h.β k
 unfold Vw.atMap at *
 cases e:V.lv k <;> cases e':V2.lv (g k) <;> simp [e,e',LB.kin] at h1 h2 hv ⊢ <;> (try rw [h2]) <;> assumption
theorem Vw.Up.refC (h:V.Up V2 g){v:Value}{x:RefC}(hv:V.refC v x):V2.refC v (x.ren g):=by
 cases x with
 | d x=>exact⟨by rw [h.mem];exact hv.1,hv.2⟩
 | ptr k off=>exact⟨h.ptr hv.1,hv.2⟩
 | lsl k off len sz=>exact⟨h.lsl hv.1,hv.2⟩
theorem Vw.Up.ref (h:V.Up V2 g){v:Value}{x:Ref}(hv:V.ref v x):V2.ref v (x.ren g):=by
 induction x generalizing v with
 | d x=>show Rd V2.mem v x;rw [h.mem];exact hv
 | ptr k off=>exact⟨h.ptr hv.1,hv.2⟩
 | lsl k off len sz=>exact⟨h.lsl hv.1,hv.2⟩
 | agg cs=>
  obtain⟨arr,rfl,h1,h2⟩:=hv
  exact⟨arr,rfl,by grind,fun i a b=>by simp only [List.getElem_map];exact h.refC (h2 i (by omega) b)⟩
 | ifc t x ih=>obtain⟨v',rfl,h1⟩:=hv;exact⟨v',rfl,ih h1⟩
theorem Vw.Up.cv (h:V.Up V2 g){v:Value}{x:CV}(hv:V.cv v x):V2.cv v (x.ren g):=by
 cases x with
 | d x=>exact⟨by rw [h.mem];exact hv.1,hv.2⟩
 | ptr k off=>exact⟨h.ptr hv.1,hv.2⟩
 | lsl k off len sz=>exact⟨h.lsl hv.1,hv.2⟩
 | mapr k=>exact⟨h.map hv.1,hv.2⟩
 | lsf k off len sz=>exact⟨⟨h.lsl hv.1.1,hv.1.2⟩,hv.2⟩
 | func fn f c=>
  obtain⟨fs,cs,rfl,h1,h2,h3,h4⟩:=hv
  refine⟨fs,cs,rfl,by grind,by grind,fun i a b=>?_,fun i a b=>?_⟩
  ·simp only [List.getElem_map];exact h.ref (h3 i (by omega) b)
  ·simp only [List.getElem_map];exact h.ref (h4 i (by omega) b)
 | ifc t x=>
  obtain⟨v',rfl,h1⟩:=hv
  exact⟨v',rfl,h.ref h1⟩
 | junk=>exact hv
theorem Vw.Up.av0 (h:V.Up V2 g){v:Value}{x:AV}(hv:V.av0 v x):V2.av0 v (x.ren0 g):=by
 cases x with
 | c x=>exact h.cv (x:=x) hv
 | agg cs=>
  obtain⟨arr,rfl,h1,h2⟩:=hv
  exact⟨arr,rfl,by grind,fun i a b=>by simp only [List.getElem_map];exact h.cv (h2 i (by omega) b)⟩
 | tup l=>exact hv.elim
 | undef=>exact hv
 | junk=>trivial
theorem Vw.Up.av (h:V.Up V2 g){v:Value}{x:AV}(hv:V.av v x):V2.av v (x.ren g):=by
 cases x with
 | c x=>exact h.cv (x:=x) hv
 | agg cs=>exact h.av0 (x:=.agg cs) hv
 | tup l=>
  obtain⟨arr,rfl,h1,h2⟩:=hv
  exact⟨arr,rfl,by grind,fun i a b=>by simp only [List.getElem_map];exact h.av0 (h2 i (by omega) b)⟩
 | undef=>exact hv
 | junk=>trivial
end
def LB.pass:LB→Bool
 | .cells own fz _ _=>!own && !fz
 | .map own _=>!own
 | .dead=>false
 | _=>true
def LB.ownB:LB→Bool
 | .cells own ..=>own
 | .map own _=>own
 | _=>true
def LB.fix (b:Bool):LB→LB
 | .cells own fz T cs=>.cells (own || b) fz T cs
 | .map own es=>.map (own || b) es
 | x=>x
theorem LB.fix_live (b:Bool)(x:LB):(x.fix b).live=x.live:=by
 cases x with
 | cells own fz T cs=>cases fz <;> rfl
 | _=>rfl
theorem LB.ren_live (g:Key→Key)(x:LB):(x.ren g).live=x.live:=by
 cases x with
 | cells own fz T cs=>cases fz <;> rfl
 | _=>rfl
section
variable {c:Ctx}{F:Nat→Prop}{β:Key→Nat}{s:LSt}{a:Act}{w:World}
structure Bord (s:LSt) (g:Key→Key) (gi:Key→Option Key) (L L':Key→LB) (own:Bool):Prop where
 pass:∀ k,(L k).pass=true
 as:∀ k,(s.lv (g k)).as (L k) g
 gi1:∀ k' k,gi k'=some k→g k=k'∧L' k≠.hole
 gi2:∀ k,L' k≠.hole→gi (g k)=some k
 stay:∀ k,L k≠.hole→L' k≠.hole
 own:own=true→∀ k,(L k).live=true→(s.lv (g k)).ownB=true
theorem Bord.live {g:Key→Key}{gi:Key→Option Key}{L L':Key→LB}{own:Bool}(hB:Bord s g gi L L' own) {k:Key}(hk:(L k).live=true):(s.lv (g k)).live=true:=by
 have:=hB.as k
 cases e:L k with
 | cells own fz T cs=>
  rw [e] at this hk
  obtain⟨own',cs',h1,_⟩:=this
  cases fz with
  | false=>rw [h1];rfl
  | true=>cases hk
 | map own es=>rw [e] at this;obtain⟨own',es',h1,_⟩:=this;rw [h1];rfl
 | hole=>rw [e] at hk;cases hk
 | dead=>rw [e] at hk;cases hk
 | nils=>rw [e] at hk;cases hk
theorem Bord.inj {g:Key→Key}{gi:Key→Option Key}{L L':Key→LB}{own:Bool}(hB:Bord s g gi L L' own) {k k':Key}(h1:L k≠.hole) (h2:L k'≠.hole) (h:g k=g k'):k=k':=by
 have e1:=hB.gi2 k (hB.stay k h1)
 have e2:=hB.gi2 k' (hB.stay k' h2)
 grind
theorem live_ne_hole {x:LB}(h:x.live=true):x≠.hole:=fun e=>by rw [e] at h;cases h
theorem Bord.ren {g:Key→Key}{gi:Key→Option Key}{L L':Key→LB}{own:Bool}(hB:Bord s g gi L L' own) :
 (Vw.mk F β s.lv w).Ren (Vw.mk F (fun k=>β (g k)) L w) g:=⟨rfl,rfl,fun _ _=>rfl,fun k=>LB.as_kin (hB.as k)⟩
theorem StOK.enter (h:StOK c F β s a w){g:Key→Key}{gi:Key→Option Key}{L L':Key→LB}{own:Bool}(hB:Bord s g gi L L' own) :
 Sits (CtxE c.P c.G w F (fun k=>β (g k)) L) F (fun k=>β (g k)) L w:=by
 have hR:=hB.ren (F:=F) (β:=β) (w:=w)
 refine⟨?_,?_,fun _=>trivial,rfl,rfl,fun b hb=>⟨(h.Flt b hb).1,.inl hb⟩,fun _ hb=>hb,fun _ _ _=>rfl,Nat.le_refl _,h.glob,fun k _=>.inr ⟨rfl,LB.sub_refl _⟩,fun _=>Nat.le_refl _,⟨rfl,rfl⟩⟩
 ·intro k
  have hb:=h.blk (g k)
  have ha:=hB.as k
  have hp:=hB.pass k
  unfold Vw.blk at hb ⊢
  cases e:L k with
  | cells own fz T cs=>
   rw [e] at ha hp
   simp only [LB.pass,Bool.and_eq_true,Bool.not_eq_true'] at hp
   obtain⟨own',cs',h1,h2,h3⟩:=ha
   simp only [h1] at hb
   obtain⟨arr,b1,b2,b3,b4,b5⟩:=hb
   subst h2
   simp only [e]
   refine⟨arr,b1,by grind,fun i p q=>hR.cv ?_,b4,?_⟩
   ·grind
   ·rw [hp.1];simp only [ownAt,Bool.false_eq_true,if_false]
    exact .inr ⟨k,by rw [e,hp.2];rfl,rfl⟩
  | map own es=>
   rw [e] at ha hp
   simp only [LB.pass,Bool.not_eq_true'] at hp
   obtain⟨own',es',h1,h2,h3,h4⟩:=ha
   simp only [h1] at hb
   obtain⟨ents,clock,b1,b2,b3,b4,b5⟩:=hb
   subst h2
   simp only [List.length_map] at b2
   simp only [e]
   refine⟨ents,clock,b1,b2,fun i p q=>?_,b4,?_⟩
   ·have:=b3 i (by grind) q
    simp only [List.getElem_map] at this
    refine⟨this.1,?_⟩
    rcases hR.av0 this.2 with h5|⟨l,h5⟩
    ·exact h5
    grind
   ·rw [hp];simp only [ownAt,Bool.false_eq_true,if_false]
    exact .inr ⟨k,by rw [e];rfl,rfl⟩
  | hole=>grind
  | dead=>grind
  | nils=>grind
 ·intro k k' h1 h2 he
  exact hB.inj (live_ne_hole h1) (live_ne_hole h2) (h.inj _ _ (hB.live h1) (hB.live h2) he)
def lvAfter (s:LSt)(g:Key→Key)(gi:Key→Option Key)(L':Key→LB)(own:Bool):Key→LB:=
 fun k'=>match gi k' with|some k=>((L' k).ren g).fix own|none=>s.lv k'
def βAfter (β β':Key→Nat)(gi:Key→Option Key):Key→Nat:=
 fun k'=>match gi k' with|some k=>β' k|none=>β k'
theorem Bord.up {g:Key→Key}{gi:Key→Option Key}{L L':Key→LB}{own:Bool}(hB:Bord s g gi L L' own) (F':Nat→Prop) (β':Key→Nat) (w':World) :
 (Vw.mk F' β' L' w').Up (Vw.mk F' (βAfter β β' gi) (lvAfter s g gi L' own) w') g:=by
 refine⟨rfl,rfl,fun k hk=>?_,fun k hk=>?_⟩
 ·simp only at hk
  simp only [lvAfter,hB.gi2 k hk]
  cases e:L' k <;> simp [e,LB.ren,LB.fix,LB.kin] at hk ⊢
 ·simp only at hk
  simp only [βAfter,hB.gi2 k hk]
theorem StOK.back (h:StOK c F β s a w){g:Key→Key}{gi:Key→Option Key}{L L':Key→LB}{own:Bool}(hB:Bord s g gi L L' own) {F':Nat→Prop}{β':Key→Nat}{w':World}
 (hx:Sits (CtxE c.P c.G w F (fun k=>β (g k)) L) F' β' L' w'):StOK c F' (βAfter β β' gi) ⟨s.fr,lvAfter s g gi L' own⟩ a w':=by
 have hF:∀ b,F b→F' b:=hx.F0
 have hW:∀ b,(∃ k,(L k).live=true∧β (g k)=b)→¬ F b:=by
  rintro b ⟨k,hk,rfl⟩;exact h.live_nF (hB.live hk)
 have hold:∀ b,b<w.heap.size→¬ (∃ k,(L k).live=true∧β (g k)=b)→w'.heap[b]?=w.heap[b]?:=hx.old
 have hm:∀ b,F b→w'.heap[b]?=w.heap[b]?:=fun b hb=>hold b (h.Flt b hb).1 (fun hw=>hW b hw hb)
 have hUp:=hB.up (β:=β) F' β' w'
 have hkeep:∀ k,L k≠.hole→L' k=.dead∨(β' k=β (g k)∧(L k).sub (L' k)):=hx.keep
 refine h.step (hoo:=hx.oso) hF hm ?_ ?_ hx.asz ?_ ?_ ?_ hx.ge ?_
 ·intro k'
  simp only [lvAfter]
  split
  ·rename_i k e
   obtain⟨rfl,hk⟩:=hB.gi1 _ _ e
   by_cases h0:L k=.hole
   ·have:=hB.as k;rw [h0] at this
    have hh:s.lv (g k)=.hole:=this
    rw [hh];simp [LB.sub]
   ·have ha:=LB.as_kin (hB.as k)
    rcases hkeep k h0 with hd|⟨_,hs⟩
    ·rw [hd];cases s.lv (g k) <;> simp [LB.ren,LB.fix,LB.sub]
    ·cases e1:s.lv (g k) <;> cases e2:L k <;> cases e3:L' k <;> simp [e1,e2,e3,LB.kin,LB.sub,LB.ren,LB.fix] at ha hs h0 hk ⊢
     all_goals (have:=hB.pass k;rw [e2] at this;cases this)
  ·exact LB.sub_refl _
 ·intro k' hh hd
  simp only [lvAfter] at hd
  simp only [βAfter]
  split
  ·rename_i k e
   rw [e] at hd
   obtain⟨rfl,hk⟩:=hB.gi1 _ _ e
   have h0:L k≠.hole:=fun h0=>by
    have:=hB.as k;rw [h0] at this;exact hh this
   rcases hkeep k h0 with hd'|⟨h1,_⟩
   ·have hd2:((L' k).ren g).fix own≠.dead:=hd
    rw [hd'] at hd2;exact absurd rfl hd2
   omega
  ·rfl
 ·intro k' hK
  cases e:gi k' with
  | some k=>
   obtain⟨rfl,hk⟩:=hB.gi1 _ _ e
   have hb:=hx.blk k
   have hownk:∀ o:Bool,ownAt (CtxE c.P c.G w F (fun k=>β (g k)) L) o (β' k)→ownAt c (o || own) (β' k):=by
    intro o ho
    have hge:=h.ge
    unfold ownAt at ho ⊢
    cases o with
    | true=>simp only [if_true] at ho;simp only [Bool.true_or,if_true];exact Nat.le_trans hge ho
    | false=>
     simp only [Bool.false_eq_true,if_false] at ho
     simp only [Bool.false_or]
     rcases ho with ho|⟨j,hj,hj2⟩
     ·cases own
      ·exact .inl (Nat.le_trans hge ho)
      ·exact Nat.le_trans hge ho
     ·have hl:=hB.live hj
      cases hw:own with
      | false=>simp only [Bool.false_eq_true,if_false];rw [← hj2];exact h.live_own hl
      | true=>
       simp only [if_true]
       have ho':=hB.own hw j hj
       have hb':=h.blk (g j)
       unfold Vw.blk at hb'
       rw [← hj2]
       cases e1:s.lv (g j) with
       | cells o fz T cs=>
        rw [e1] at ho';simp only [e1] at hb'
        obtain⟨x,p1,p2,p3,p4,p5⟩:=hb'
        simp only [LB.ownB] at ho';rw [ho'] at p5;simpa [ownAt] using p5
       | map o es=>
        rw [e1] at ho';simp only [e1] at hb'
        obtain⟨x,y,p1,p2,p3,p4,p5⟩:=hb'
        simp only [LB.ownB] at ho';rw [ho'] at p5;simpa [ownAt] using p5
       | hole=>rw [e1] at hl;cases hl
       | dead=>rw [e1] at hl;cases hl
       | nils=>rw [e1] at hl;cases hl
   unfold Vw.blk at hb ⊢
   simp only [lvAfter,βAfter,e]
   cases e':L' k with
   | cells o fz T cs=>
    simp only [e'] at hb
    obtain⟨arr,b1,b2,b3,b4,b5⟩:=hb
    simp only [LB.ren,LB.fix]
    refine⟨arr,b1,by grind,fun i p q=>?_,b4,hownk o b5⟩
    simp only [List.getElem_map]
    exact hUp.cv (b3 i (by grind) q)
   | map o es=>
    simp only [e'] at hb
    obtain⟨ents,clock,b1,b2,b3,b4,b5⟩:=hb
    simp only [LB.ren,LB.fix]
    refine⟨ents,clock,b1,by grind,fun i p q=>?_,b4,hownk o b5⟩
    simp only [List.getElem_map]
    have:=b3 i (by omega) q
    exact⟨by have h5:=this.1;exact h5,hUp.av0 this.2⟩
   | hole=>grind
   | dead=>simp [LB.ren,LB.fix]
   | nils=>simp [LB.ren,LB.fix]
  | none=>
   have hl:(Vw.mk F' (βAfter β β' gi) (lvAfter s g gi L' own) w').lv k'=(Vw.mk F β s.lv w).lv k':=by simp only [lvAfter,e]
   have hβe:(Vw.mk F' (βAfter β β' gi) (lvAfter s g gi L' own) w').β k'=(Vw.mk F β s.lv w).β k':=by simp only [βAfter,e]
   have hnW:(s.lv k').live=true→¬ ∃ k,(L k).live=true∧β (g k)=β k':=by
    rintro hlv ⟨k,hk,he⟩
    have:=h.inj _ _ (hB.live hk) hlv he
    rw [← this,hB.gi2 k (hB.stay k (live_ne_hole hk))] at e
    cases e
   have hb:=h.blk k'
   by_cases hlv:(s.lv k').live=true
   ·refine Vw.blk_keep hb hK hl hβe (hold _ (h.live_lt hlv) (hnW hlv)) (fun _ hf=>?_)
    rcases (hx.Flt _ hf).2 with h1|h1
    ·exact h1
    ·have:w.heap.size≤β k':=h1
     have:=h.live_lt hlv
     omega
   ·cases ek:s.lv k' with
    | cells o fz T cs=>
     cases fz with
     | false=>rw [ek] at hlv;exact absurd rfl hlv
     | true=>
      have hFk:F (β k'):=by
       unfold Vw.blk at hb;simp only [ek] at hb
       obtain⟨x,p1,p2,p3,p4,p5⟩:=hb
       exact p4
      refine Vw.blk_keep hb hK hl hβe (hm _ hFk) (fun hlv'=>absurd hlv' hlv)
    | map o es=>rw [ek] at hlv;exact absurd rfl hlv
    | hole=>unfold Vw.blk;grind
    | dead=>unfold Vw.blk;grind
    | nils=>unfold Vw.blk;grind
 ·intro k1 k2 h1 h2 he
  have side:∀ k',(lvAfter s g gi L' own k').live=true→gi k'=none→(s.lv k').live=true:=by
   intro k' hk' e;simp only [lvAfter,e] at hk';exact hk'
  have bord:∀ k' k,(lvAfter s g gi L' own k').live=true→gi k'=some k→(L' k).live=true:=by
   intro k' k hk' e;simp only [lvAfter,e,LB.fix_live,LB.ren_live] at hk';exact hk'
  have apart:∀ k' k,gi k'=none→(s.lv k').live=true→(L' k).live=true→β' k≠β k':=by
   intro k' k e hk' hk heq
   have hbo:=StOK.live_own hx hk
   rcases hbo with h3|⟨j,hj,hj2⟩
   ·have h3':w.heap.size≤β' k:=h3
    have:=h.live_lt hk'
    omega
   ·have:=h.inj _ _ (hB.live hj) hk' (hj2.trans heq)
    rw [← this,hB.gi2 j (hB.stay j (live_ne_hole hj))] at e
    cases e
  cases e1:gi k1 with
  | none=>
   cases e2:gi k2 with
   | none=>
    simp only [βAfter,e1,e2] at he
    exact h.inj _ _ (side _ h1 e1) (side _ h2 e2) he
   | some j2=>
    simp only [βAfter,e1,e2] at he
    grind
  | some j1=>
   cases e2:gi k2 with
   | none=>
    simp only [βAfter,e1,e2] at he
    grind
   | some j2=>
    simp only [βAfter,e1,e2] at he
    have:=hx.inj _ _ (bord _ _ h1 e1) (bord _ _ h2 e2) he
    rw [← (hB.gi1 _ _ e1).1,← (hB.gi1 _ _ e2).1,this]
 ·intro b hb
  rcases (hx.Flt b hb).2 with h1|h1
  ·exact .inl h1
  ·have h1':w.heap.size≤b:=h1
   have:=h.ge
   exact .inr ⟨(hx.Flt b hb).1,by omega⟩
 ·intro b hb hnW
  have hlt:b<w.heap.size:=Nat.lt_of_lt_of_le hb h.ge
  refine hold b hlt ?_
  rintro⟨k,hk,rfl⟩
  rcases h.live_own (hB.live hk) with h1|h1
  ·omega
  grind
end
def zcells (P:Program)(T:TypeId):Option (List CV):=((P.info? T).bind (·.zero)).bind fun z=>(cst z).cells
theorem zcells_info {P:Program}{T:TypeId}{xs:List CV}(h:zcells P T=some xs):∃ z,(P.info? T).bind (·.zero)=some z∧(cst z).cells=some xs:=
 Option.bind_eq_some_iff.1 h
def tbytes (P:Program)(T:TypeId):Option Nat:=
 match P.info? T with
 | some i=>match i.zero with
  | some z=>if z.cells.size=i.size then some i.bytes else none
  | none=>none
 | none=>none
theorem tbytes_info {P:Program}{T:TypeId}{n:Nat}(h:tbytes P T=some n):∃ i z,P.info? T=some i∧i.zero=some z∧z.cells.size=i.size∧i.bytes=n:=by
 unfold tbytes at h
 grind
def bnds (lo hi:Option Operand)(rest:List AV):Option (Option AV × Option AV):=
 match lo,hi,rest with
 | none,none,[]=>some (none,none)
 | some _,none,[x]=>some (some x,none)
 | none,some _,[y]=>some (none,some y)
 | some _,some _,[x,y]=>some (some x,some y)
 | _,_,_=>none
def eqable:AV→Bool
 | .c (.d (.bool _))|.agg _|.c (.d .nilp)|.c (.d (.ptr _))|.c (.d .nilsl)|.c (.d (.sl _))|.c (.d .nilIface)|.c (.d (.iface ..))=>true
 | _=>false
def keyOf:AV→List Key
 | .c (.lsl k ..)=>[k]
 | _=>[]
abbrev StepR:=AV × List (Key × LB) × List Key × Prop
def stepBin (P:Program)(op:BinOp)(T:TypeId)(x y:AV):Option StepR:=
 match x,y with
 | .c (.d (.int k m)),.c (.d (.int k' n))=>
  match op with
  | .shl|.shr=>match shI op k m n with|some d=>some (.c (.d d),[],[],0≤n)|none=>none
  | _=>if k=k' then (match binI op k m n with|some d=>some (.c (.d d),[],[],binIok op n)|none=>none) else none
 | .c (.d (.str m)),.c (.d (.str n))=>match binS op m n with|some d=>some (.c (.d d),[],[],binSok op m n)|none=>none
 | x,y=>
  match op with
  | .eql=>if P.eqGuardType P.depth T || !eqable x then none else match eqT P 20 T x y with|some b=>some (.c (.d (.bool b)),[],[],True)|none=>none
  | .neq=>if P.eqGuardType P.depth T || !eqable x then none else match eqT P 20 T x y with|some b=>some (.c (.d (.bool (!b))),[],[],True)|none=>none
  | _=>none
def stepLoad (P:Program)(T:TypeId)(lv:Key→LB):AV→Option StepR
 | .c (.d (.ptr cs))=>match loadA P T (cs.map CV.d) with|some y=>some (y,[],[],True)|none=>none
 | .c (.ptr k off)=>match lv k with
  | .cells _ _ _ cs=>match loadA P T (cs.drop off) with|some y=>some (y,[],[k],True)|none=>none
  | _=>none
 | _=>none
def stepStore (P:Program)(T:TypeId)(lv:Key→LB)(x y:AV):Option StepR:=
 match x with
 | .c (.ptr k off)=>match lv k with
  | .cells own false T' cs=>match y.cells with
   | some xs=>if (P.info? T).isSome && xs.length == szT P T then some (.undef,[(k,.cells own false T' (setSeg cs off xs))],[],off+xs.length≤cs.length) else none
   | none=>none
  | _=>none
 | _=>none
def stepNil (lv:Key→LB):AV→Option StepR
 | .c (.d (.ptr cs))=>some (.c (.d (.ptr cs)),[],[],True)
 | .c (.ptr k n)=>match lv k with|.cells ..=>some (.c (.ptr k n),[],[k],True)|_=>none
 | .c (.d (.func (.func f) fs cs))=>some (.c (.d (.func (.func f) fs cs)),[],[],True)
 | .c (.func (.func f) fs cs)=>some (.c (.func (.func f) fs cs),[],[],True)
 | _=>none
def stepFieldAddr (P:Program)(T:TypeId)(f:Nat)(lv:Key→LB):AV→Option StepR
 | .c (.d (.ptr cs))=>match fldT P T f with|some (off,_)=>some (.c (.d (.ptr (cs.drop off))),[],[],off≤cs.length)|none=>none
 | .c (.ptr k n)=>match lv k,fldT P T f with|.cells ..,some (off,_)=>some (.c (.ptr k (n+off)),[],[k],True)|_,_=>none
 | _=>none
def stepIndexAddr (P:Program)(T:TypeId)(lv:Key→LB)(x i:AV):Option StepR:=
 match i with
 | .c (.d (.int _ n))=>
  match x with
  | .c (.d (.sl es))=>match slT P T with
   | some (_,sz)=>some (.c (.d (.ptr (es.getD n.toNat []))),[],[],0≤n∧n<es.length∧(es.getD n.toNat []).length=sz)
   | none=>none
  | .c (.lsl k off len sz)=>match lv k,slT P T with
   | .cells ..,some (_,sz')=>if sz=sz' then some (.c (.ptr k (off+n.toNat*sz)),[],[k],0≤n∧n<len) else none
   | _,_=>none
  | .c (.d (.ptr cs))=>match arT P T with
   | some (len,_,sz)=>some (.c (.d (.ptr (cs.drop (n.toNat*sz)))),[],[],0≤n∧n<len∧n.toNat*sz≤cs.length)
   | none=>none
  | .c (.ptr k off)=>match lv k,arT P T with
   | .cells ..,some (len,_,sz)=>some (.c (.ptr k (off+n.toNat*sz)),[],[k],0≤n∧n<len)
   | _,_=>none
  | _=>none
 | _=>none
def stepIndex (P:Program)(T:TypeId)(x i:AV):Option StepR:=
 match i with
 | .c (.d (.int _ n))=>
  match x with
  | .c (.d (.str l))=>if strT P T then some (.c (.d (.int .u8 (l.getD n.toNat 0).toNat)),[],[],0≤n∧n<l.length) else none
  | .agg cs=>match arT P T with
   | some (len,e,sz)=>match partA P e cs (n.toNat*sz) with|some y=>some (y,[],[],0≤n∧n<len)|none=>none
   | none=>none
  | _=>none
 | _=>none
def stepSlice (P:Program)(T:TypeId)(lv:Key→LB)(x:AV)(lo hi:Option AV):Option StepR:=
 match x with
 | .c (.d (.str bs))=>if strT P T then (match bndA lo 0,bndA hi bs.length with
  | some l,some h=>some (.c (.d (.str ((bs.take h.toNat).drop l.toNat))),[],[],0≤l∧l≤h∧h≤bs.length)
  | _,_=>none) else none
 | .c (.d (.sl es))=>match slT P T with
  | some (_,sz)=>match bndA lo 0,bndA hi es.length with
   | some l,some h=>some (.c (.d (.sl ((es.take h.toNat).drop l.toNat))),[],[],0≤l∧l≤h∧h≤es.length∧∀ e∈es,e.length=sz)
   | _,_=>none
  | none=>none
 | .c (.d .nilsl)=>match slT P T with
  | some _=>match bndA lo 0,bndA hi 0 with
   | some l,some h=>some (.c (.d .nilsl),[],[],l=0∧h=0)
   | _,_=>none
  | none=>none
 | .c (.lsl k off len sz)=>match lv k,slT P T with
  | .cells ..,some (_,sz')=>if sz=sz' then (match bndA lo 0,bndA hi len with
   | some l,some h=>some (.c (.lsl k (off+l.toNat*sz) (h.toNat - l.toNat) sz),[],[k],0≤l∧l≤h∧h≤len∧(l<h∨l=0))
   | _,_=>none) else none
  | _,_=>none
 | _=>none
def stepMake (P:Program)(T:TypeId)(lv:Key→LB)(κ:Key)(x y:AV):Option StepR:=
 match x,y with
 | .c (.d (.int _ l)),.c (.d (.int _ m))=>match slT P T,lv κ with
  | some (e,sz),.hole=>match zcells P e,tbytes P e with
   | some zs,some b=>if zs.length=sz∧0<sz then some (.c (.lsl κ 0 l.toNat sz),[(κ,.cells true false e (repl l.toNat zs))],[],0≤l∧l≤m∧(b:Int)*m≤281474976710656∧m≤9223372036854775807) else none
   | _,_=>none
  | _,_=>none
 | _,_=>none
def stepAppend (P:Program)(T:TypeId)(lv:Key→LB)(κ:Key)(y x:AV):Option StepR:=
 match slT P T,lv κ with
 | some (e,sz),.hole=>match tbytes P e,srcA lv sz x with
  | some b,some (m,xs)=>
   match y with
   | .c (.d .nilsl)=>some (.c (.lsl κ 0 m sz),[(κ,if m=0 then .nils else .cells true false e xs)],keyOf x,m≤9223372036854775807∧m*b≤140737488355328)
   | .c (.lsl k off n sz')=>match lv k with
    | .nils=>if off=0∧n=0∧sz'=sz then some (.c (.lsl κ 0 m sz),[(κ,if m=0 then .nils else .cells true false e xs)],k::keyOf x,m≤9223372036854775807∧m*b≤140737488355328) else none
    | .cells own false e' cs=>if off=0∧sz'=sz∧e'=e then
     some (.c (.lsl κ 0 (n+m) sz),[(k,.dead),(κ,.cells own false e (cs++xs))],keyOf x,cs.length=n*sz∧n+m≤9223372036854775807∧(n+m)*b≤140737488355328) else none
    | _=>none
   | _=>none
  | _,_=>none
 | _,_=>none
def stepBuildSlice (P:Program)(T:TypeId)(n:Nat)(ixs:List Nat)(lv:Key→LB)(κ:Key)(vals:List AV):Option StepR:=
 match slT P T,lv κ with
 | some (e,sz),.hole=>match zcells P e with
  | some zs=>if zs.length=sz∧0<sz∧n*sz≤16777216∧ixs.length=vals.length then (match fillA (fun i=>some (i*sz,sz)) (repl n zs) (ixs.zip vals) with
   | some cs=>some (.c (.lsl κ 0 n sz),[(κ,.cells true false e cs)],[],True)
   | none=>none) else none
  | none=>none
 | _,_=>none
def stepCopy (P:Program)(T:TypeId)(lv:Key→LB)(y x:AV):Option StepR:=
 match y,slT P T with
 | .c (.lsl k off n sz),some (_,sz')=>if sz=1∧sz'=1 then (match lv k,srcA lv 1 x with
  | .cells own false T' cs,some (m,xs)=>some (.c (.d (.int .i64 ((min m n:Nat):Int))),[(k,.cells own false T' (setSeg cs off (xs.take (min m n))))],keyOf x,0<m∧off+min m n≤cs.length∧n≤9223372036854775807)
  | _,_=>none) else none
 | _,_=>none
def intsOf:List AV→Option (IntKind × List Int)
 | [.c (.d (.int k n))]=>some (k,[n])
 | .c (.d (.int k n))::r=>match intsOf r with|some (k',l)=>if k=k' then some (k,n::l) else none|none=>none
 | _=>none
def stepB (P:Program)(cl:Call)(vals:List AV)(lv:Key→LB)(κ:Key):Option StepR:=
 match cl.callee with
 | .builtin .len=>match cl.args.toList,cl.argTypes.toList,vals with
  | [_],[T],[x]=>match lenA P T lv x with
   | some n=>some (.c (.d (.int .i64 n)),[],keyOf x,lenOk x n)
   | none=>none
  | _,_,_=>none
 | .builtin .append=>match cl.args.toList,cl.argTypes.toList,vals with
  | [_,_],[T,T'],[y,x]=>if T=T' then stepAppend P T lv κ y x else none
  | _,_,_=>none
 | .builtin .copy=>match cl.args.toList,cl.argTypes.toList,vals with
  | [_,_],[T,_],[y,x]=>stepCopy P T lv y x
  | _,_,_=>none
 | .builtin .max=>match intsOf vals with
  | some (k,n::l)=>some (.c (.d (.int k (l.foldl (fun a b=>if b > a then b else a) n))),[],[],True)
  | _=>none
 | .builtin .min=>match intsOf vals with
  | some (k,n::l)=>some (.c (.d (.int k (l.foldl (fun a b=>if b<a then b else a) n))),[],[],True)
  | _=>none
 | _=>none
def stepF (P:Program)(op:Op)(vals:List AV)(lv:Key→LB)(κ:Key):Option StepR:=
 match op,vals with
 | .move _,[x]|.assign _,[x]=>some (x,[],[],True)
 | .pick _ _ _,[t,x,y]=>match t with|.c (.d (.bool true))=>some (x,[],[],True)|.c (.d (.bool false))=>some (y,[],[],True)|_=>none
 | .alloc T,[]=>match zcells P T,lv κ with|some xs,.hole=>some (.c (.ptr κ 0),[(κ,.cells true false T xs)],[],True)|_,_=>none
 | .box T _,[x]=>match x.cells,lv κ with|some xs,.hole=>some (.c (.ptr κ 0),[(κ,.cells true false T xs)],[],True)|_,_=>none
 | .build T parts,vals=>match zcells P T,placesT P T with
  | some zs,some place=>if parts.size=vals.length then (match fillA place zs ((parts.toList.map (·.1)).zip vals) with|some cs=>some (.agg cs,[],[],True)|none=>none) else none
  | _,_=>none
 | .buildSlice T n parts,vals=>stepBuildSlice P T n (parts.toList.map (·.1)) lv κ vals
 | .load T _,[x]=>stepLoad P T lv x
 | .store T _ _,[x,y]=>stepStore P T lv x y
 | .nilCheck _,[x]=>stepNil lv x
 | .binOp op T _ _ _,[x,y]=>stepBin P op T x y
 | .unOp op _ _,[x]=>match x with|.c (.d d)=>(match unA op d with|some d'=>some (.c (.d d'),[],[],True)|none=>none)|_=>none
 | .convert S T _,[x]=>match x with
  | .c (.d (.int _ n))=>match intT P S,intT P T with|some _,some k'=>some (.c (.d (.int k' (k'.wrap n))),[],[],True)|_,_=>none
  | .c (.d (.str l))=>if strT P S && strT P T then some (.c (.d (.str l)),[],[],True) else none
  | _=>none
 | .makeInterface T _,[x]=>match deepA x with|some d=>if P.concrete T then some (.c (.d (.iface T d)),[],[],True) else none|none=>none
 | .makeFunc fn first caps,vals=>if vals.length=first.size+caps.size then (match refL (vals.take first.size),refL (vals.drop first.size) with
  | some fr,some cr=>some (.c (funA fn fr cr),[],[],True)
  | _,_=>none) else none
 | .makeSlice T _ _,[x,y]=>stepMake P T lv κ x y
 | .slice T _ lo hi none,x::rest=>match bnds lo hi rest with|some (l,h)=>stepSlice P T lv x l h|none=>none
 | .fieldAddr T _ f,[x]=>stepFieldAddr P T f lv x
 | .field T _ f,[x]=>match x with|.agg cs=>(match fldT P T f with|some (off,ft)=>(match partA P ft cs off with|some y=>some (y,[],[],True)|none=>none)|none=>none)|_=>none
 | .indexAddr T _ _,[x,i]=>stepIndexAddr P T lv x i
 | .index T _ _,[x,i]=>stepIndex P T x i
 | .extract _ i,[x]=>match x with|.tup l=>(match l[i]? with|some (.tup _)=>none|some y=>some (y,[],[],True)|none=>none)|_=>none
 | .call cl,vals=>stepB P cl vals lv κ
 | _,_=>none
def updL (lv:Key→LB)(us:List (Key × LB)):Key→LB:=us.foldl (fun f p=>upd f p.1 p.2) lv
section
variable {c:Ctx}{s:LSt}{o:Oper}
theorem beq_isSome_and {α:Type}{x:Option α}{b:Bool}(h:(x.isSome && b)=true):x.isSome=true∧b=true:=by grind
theorem eqT_nil {P:Program}{T:TypeId}{d:Nat}{b:Bool}(h:eqT P d T (.c (.d .nilIface)) (.c (.d .nilIface))=some b):False:=by
 cases d with
 | zero=>cases h
 | succ d=>unfold eqT at h;grind
theorem run_eq_any {V:Vw}{P:Program}{T:TypeId}{x y:Operand}{p q:AV}{u v:Value}{b:Bool}{d:Nat}(hu:V.av u p) (hv:V.av v q) (he:eqT P d T p q=some b) (hp:eqable p=true)
 (hg:P.eqGuardType P.depth T=false) (hr:(Op.equalIn 10000 T u v).run P V.w=.ok b V.w) :
 (do eqGuard .eql T x y u v;binOp .eql T u v:Sem Value).run P V.w=.ok (.bool b) V.w∧(do eqGuard .neq T x y u v;binOp .neq T u v:Sem Value).run P V.w=.ok (.bool (!b)) V.w:=by
 have hq:(Op.equal T u v).run P V.w=.ok b V.w:=hr
 have key:∀ op,op=.eql∨op=.neq→(eqGuard op T x y u v).run P V.w=.ok () V.w:=by
  intro op hop
  have hne:¬ (u=.nilIface∧v=.nilIface):=by
   rintro⟨rfl,rfl⟩
   have e1:p=.c (.d .nilIface):=by
    cases p with
    | c z=>cases z <;> simp [eqable] at hp
           rename_i z;cases z <;> simp at hp <;> (obtain⟨hu,_⟩:=hu;cases hu);rfl
    | agg cs=>obtain⟨arr,h,_⟩:=hu;cases h
    | tup l=>cases hp
    | undef=>cases hp
    | junk=>cases hp
   subst e1
   have e2:q=.c (.d .nilIface):=by
    cases d with
    | zero=>cases he
    | succ d=>
     unfold eqT at he
     split at he <;> first|(simp at *;done)|skip
     all_goals (first|(rename_i h1 h2 h3;simp_all;done)|skip)
     all_goals (obtain⟨hv,_⟩:=hv;cases hv)
   subst e2
   exact eqT_nil he
  unfold eqGuard
  rcases hop with rfl|rfl <;> simp only [Bool.not_true,Bool.false_eq_true,if_false] <;> split <;> first|(exfalso;exact hne ⟨rfl,rfl⟩)|(simp [hg];done)|rfl
 have hb:binOp .eql T u v=(do pure (.bool (← Op.equal T u v)))∧binOp .neq T u v=(do pure (.bool (!(← Op.equal T u v)))):=by
  cases p with
  | c z=>
   cases z <;> simp [eqable] at hp
   rename_i z
   cases z <;> simp at hp <;> (obtain⟨hu,_⟩:=hu;cases hu) <;> exact⟨rfl,rfl⟩
  | agg cs=>obtain⟨arr,rfl,_⟩:=hu;exact⟨rfl,rfl⟩
  | tup l=>cases hp
  | undef=>cases hp
  | junk=>cases hp
 simp_all
theorem sim_bin {op:BinOp}{T T':TypeId}{x y:Operand}{κ:StepR}(hd:∀ d,o.dst=some d→d<c.n) (ho:o.op=.binOp op T x y T')
 (h:stepBin c.P op T (s.val c.G x) (s.val c.G y)=some κ) (hvc:κ.2.2.2):Sim c o s (LSt.put ⟨s.fr,updL s.lv κ.2.1⟩ o.dst κ.1):=by
 have hst:(⟨s.fr,s.lv⟩:LSt)=s:=rfl
 unfold stepBin at h
 split at h
 ·rename_i k m k' n hx hy
  split at h
  ·split at h
   ·simp only [Option.some.injEq] at h;subst h
    exact sim_shI hd ho hx hy (by assumption) hvc
   grind
  ·split at h
   ·simp only [Option.some.injEq] at h;subst h
    exact sim_shI hd ho hx hy (by assumption) hvc
   grind
  ·split at h
   ·rename_i hk;subst hk
    split at h
    ·simp only [Option.some.injEq] at h;subst h
     exact sim_binI hd ho hx hy (by assumption) hvc
    grind
   grind
 ·rename_i m n hx hy
  split at h
  ·simp only [Option.some.injEq] at h;subst h
   exact sim_binS hd ho hx hy (by assumption) hvc
  grind
 ·split at h
  ·split at h
   ·cases h
   ·rename_i hg
    split at h
    ·rename_i b hb
     simp only [Option.some.injEq] at h;subst h
     refine Sim.of_pure hd fun F β a w hs=>⟨.bool b,?_,Vw.mk_bool _ _⟩
     have hr:=run_eqT (Vw.mk F β s.lv w) 20 T _ _ b hb _ _ (hs.val x) (hs.val y) 10000 (by omega)
     have:=(run_eq_any (x:=x) (y:=y) (hs.val x) (hs.val y) hb (by grind) (by grind) hr).1
     simp only [execOp,ho]
     rw [Sem.run_bind,this];rfl
    grind
  ·split at h
   ·cases h
   ·rename_i hg
    split at h
    ·rename_i b hb
     simp only [Option.some.injEq] at h;subst h
     refine Sim.of_pure hd fun F β a w hs=>⟨.bool (!b),?_,Vw.mk_bool _ _⟩
     have hr:=run_eqT (Vw.mk F β s.lv w) 20 T _ _ b hb _ _ (hs.val x) (hs.val y) 10000 (by omega)
     have:=(run_eq_any (x:=x) (y:=y) (hs.val x) (hs.val y) hb (by grind) (by grind) hr).2
     simp only [execOp,ho]
     rw [Sem.run_bind,this];rfl
    grind
  grind
theorem bnds_eq {lo hi:Option Operand}{ρ:Operand→AV}{l h:Option AV}(hb:bnds lo hi ((lo.toArray++hi.toArray).toList.map ρ)=some (l,h)):l=lo.map ρ∧h=hi.map ρ:=by
 cases lo <;> cases hi <;> simp [bnds] at hb ⊢ <;> (obtain⟨rfl,rfl⟩:=hb;simp)
theorem map_eq_one {α β:Type}{f:α→β}{x:α}{y:β}(h:[x].map f=[y]):f x=y:=by grind
theorem call_eq {cl:Call}{b:Callee}{xs:List Operand}{ts:List TypeId}(h1:cl.callee=b) (h2:cl.args.toList=xs) (h3:cl.argTypes.toList=ts) :
 cl={ callee:=b,args:=xs.toArray,argTypes:=ts.toArray }:=by
 cases cl;simp only at h1 h2 h3;subst h1 h2 h3;simp
theorem intsOf_vals {V:Vw}:∀ {vals:List AV}{k:IntKind}{l:List Int}{vs:List Value},intsOf vals=some (k,l)→vs.length=vals.length→(∀ i (h:i<vs.length) (h':i<vals.length),V.av vs[i] vals[i]) →
 vs=l.map (Value.int k)
 | [],_,_,_,h,_,_=>by cases h
 | [x],k,l,vs,h,hl,hv=>by
  match vs,hl with
  | [v],_=>
   have h0:=hv 0 (by simp) (by simp)
   unfold intsOf at h
   split at h
   ·rename_i e
    simp only [List.cons.injEq,and_true] at e
    simp only [Option.some.injEq,Prod.mk.injEq] at h
    obtain⟨rfl,rfl⟩:=h
    simp only [List.getElem_cons_zero,e] at h0
    rw [Vw.c_int h0];rfl
   ·grind
   grind
 | x::y::r,k,l,vs,h,hl,hv=>by
  match vs,hl with
  | v::vr,hl=>
   have h0:=hv 0 (by simp) (by simp)
   unfold intsOf at h
   split at h
   ·grind
   ·rename_i hne e
    simp only [List.cons.injEq] at e
    obtain⟨rfl,rfl⟩:=e
    split at h
    ·rename_i k' l' hr
     split at h
     ·rename_i hk;subst hk
      simp only [Option.some.injEq,Prod.mk.injEq] at h
      obtain⟨rfl,rfl⟩:=h
      simp only [List.getElem_cons_zero] at h0
      rw [Vw.c_int h0,intsOf_vals hr (by grind) (fun i p q=>hv (i+1) (by grind) (by grind))]
      rfl
     grind
    grind
   grind
theorem intsOf_rng {V:Vw}:∀ {vals:List AV}{k:IntKind}{l:List Int}{vs:List Value},intsOf vals=some (k,l)→vs.length=vals.length→(∀ i (h:i<vs.length) (h':i<vals.length),V.av vs[i] vals[i]) →
 ∀ m∈l,k.wrap m=m
 | [],_,_,_,h,_,_=>by cases h
 | [x],k,l,vs,h,hl,hv=>by
  match vs,hl with
  | [v],_=>
   have h0:=hv 0 (by simp) (by simp)
   unfold intsOf at h
   split at h
   ·rename_i e
    simp only [List.cons.injEq,and_true] at e
    simp only [Option.some.injEq,Prod.mk.injEq] at h
    obtain⟨rfl,rfl⟩:=h
    simp only [List.getElem_cons_zero,e] at h0
    simp only [List.mem_singleton]
    rintro m rfl;exact Vw.int_rng h0
   ·grind
   grind
 | x::y::r,k,l,vs,h,hl,hv=>by
  match vs,hl with
  | v::vr,hl=>
   have h0:=hv 0 (by simp) (by simp)
   unfold intsOf at h
   split at h
   ·grind
   ·rename_i hne e
    simp only [List.cons.injEq] at e
    obtain⟨rfl,rfl⟩:=e
    split at h
    ·rename_i k' l' hr
     split at h
     ·rename_i hk;subst hk
      simp only [Option.some.injEq,Prod.mk.injEq] at h
      obtain⟨rfl,rfl⟩:=h
      simp only [List.getElem_cons_zero] at h0
      intro m hm
      rcases List.mem_cons.1 hm with rfl|hm
      ·exact Vw.int_rng h0
      ·exact intsOf_rng hr (by grind) (fun i p q=>hv (i+1) (by grind) (by grind)) m hm
     grind
    grind
   grind
theorem foldl_pick {f:Int→Int→Int}(hf:∀ a b,f a b=a∨f a b=b):∀ (l:List Int) (n:Int),l.foldl f n∈n::l
 | [],n=>by simp
 | x::l,n=>by
  have h:=foldl_pick hf l (f n x)
  grind
theorem foldlM_max {P:Program}{k:IntKind}(w:World):∀ (l:List Int) (n:Int),((l.map (Value.int k)).foldlM Builtin.max2 (.int k n)).run P w=.ok (.int k (l.foldl (fun a b=>if b > a then b else a) n)) w
 | [],n=>rfl
 | x::l,n=>by
  simp only [List.map_cons,List.foldlM_cons,List.foldl_cons,Sem.run_bind]
  have:(Builtin.max2 (.int k n) (.int k x)).run P w=.ok (.int k (if x > n then x else n)) w:=rfl
  rw [this,Result.andThen_ok]
  exact foldlM_max w l _
theorem foldlM_min {P:Program}{k:IntKind}(w:World):∀ (l:List Int) (n:Int),((l.map (Value.int k)).foldlM Builtin.min2 (.int k n)).run P w=.ok (.int k (l.foldl (fun a b=>if b<a then b else a) n)) w
 | [],n=>rfl
 | x::l,n=>by
  simp only [List.map_cons,List.foldlM_cons,List.foldl_cons,Sem.run_bind]
  have:(Builtin.min2 (.int k n) (.int k x)).run P w=.ok (.int k (if x<n then x else n)) w:=rfl
  rw [this,Result.andThen_ok]
  exact foldlM_min w l _
theorem stepB_sim {cl:Call}{vals:List AV}{κ:Key}{r:StepR}(hd:∀ d,o.dst=some d→d<c.n) (ho:o.op=.call cl) (hv:(Op.call cl).operands.toList.map (s.val c.G)=vals)
 (h:stepB c.P cl vals s.lv κ=some r) (hvc:r.2.2.2):Sim c o s (LSt.put ⟨s.fr,updL s.lv r.2.1⟩ o.dst r.1):=by
 unfold stepB at h
 split at h
 ·rename_i hcal
  split at h
  ·rename_i a0 T x ha ht
   have hcl:=call_eq hcal ha ht
   subst hcl
   have h1:s.val c.G a0=x:=by simpa [Op.operands,Call.operands] using hv
   split at h
   ·simp only [Option.some.injEq] at h;subst h
    exact sim_len hd ho (by grind) (by grind)
   grind
  ·cases h
 ·rename_i hcal
  split at h
  ·rename_i a0 a1 T T' y x ha ht
   have hcl:=call_eq hcal ha ht
   subst hcl
   have h12:s.val c.G a0=y∧s.val c.G a1=x:=by simpa [Op.operands,Call.operands] using hv
   obtain⟨h1,h2⟩:=h12
   split at h
   ·rename_i hTT;subst hTT
    unfold stepAppend at h
    split at h
    ·rename_i e sz hT hk
     split at h
     ·rename_i b m xs hb hx
      obtain⟨i,z,hi,hz1,hz2,hz3⟩:=tbytes_info hb
      obtain⟨hu,hie,hsz⟩:=slT_info hT
      have hsize:z.cells.size=sz:=by rw [hz2,← hsz];simp [szT,hi]
      split at h
      ·simp only [Option.some.injEq] at h;subst h
       exact sim_append_new hd ho hk h1 hT hi hz1 (by grind) hsize hvc.1 (by grind)
      ·split at h
       ·split at h
        ·rename_i hc
         obtain⟨rfl,rfl,rfl⟩:=hc
         simp only [Option.some.injEq] at h;subst h
         exact sim_append_nils hd ho hk hT hi hz1 h1 (by assumption) (by grind) hsize hvc.1 (by grind)
        grind
       ·split at h
        ·rename_i hc
         obtain⟨rfl,rfl,rfl⟩:=hc
         simp only [Option.some.injEq] at h;subst h
         exact sim_append_old hd ho hk hT hi hz1 h1 (by assumption) hvc.1 (by grind) hsize hvc.2.1 (by grind)
        grind
       grind
      grind
     grind
    grind
   grind
  ·cases h
 ·rename_i hcal
  split at h
  ·rename_i a0 a1 T T' y x ha ht
   have hcl:=call_eq hcal ha ht
   subst hcl
   have h12:s.val c.G a0=y∧s.val c.G a1=x:=by simpa [Op.operands,Call.operands] using hv
   obtain⟨h1,h2⟩:=h12
   unfold stepCopy at h
   split at h
   ·rename_i k off n sz e sz' hT
    split at h
    ·rename_i hsz
     obtain⟨rfl,rfl⟩:=hsz
     split at h
     ·rename_i own T0 cs m xs hk hx
      simp only [Option.some.injEq] at h;subst h
      obtain⟨g1,g2,g3⟩:=hvc
      exact sim_copy hd ho h1 hk hT (by grind) g1 g2 g3
     grind
    grind
   grind
  ·cases h
 ·rename_i hcal
  split at h
  ·rename_i k n l hi
   simp only [Option.some.injEq] at h;subst h
   refine Sim.of_pure hd fun F β a w hs=>?_
   have hall:(cl.args.toList.map a.eval).length=vals.length∧∀ i (h:i<(cl.args.toList.map a.eval).length) (h':i<vals.length),(Vw.mk F β s.lv w).av (cl.args.toList.map a.eval)[i] vals[i]:=by
    refine⟨?_,?_⟩
    ·rw [← hv];simp [Op.operands,Call.operands,hcal]
    ·intro i p q
     subst hv
     simp only [Op.operands,Call.operands,hcal,Array.empty_append,List.getElem_map] at q ⊢
     exact hs.val _
   have hargs:cl.args.toList.map a.eval=(n::l).map (Value.int k):=intsOf_vals (V:=Vw.mk F β s.lv w) hi hall.1 hall.2
   have hrng:=intsOf_rng (V:=Vw.mk F β s.lv w) hi hall.1 hall.2 _ (foldl_pick (f:=fun a b=>if b > a then b else a) (fun a b=>by by_cases h:b > a <;> simp [h]) l n)
   refine⟨.int k (l.foldl (fun a b=>if b > a then b else a) n),?_,Vw.mk_int _ _ _ hrng⟩
   have hm:(Builtin.max_ cl.argTypes o.type (cl.args.map a.eval)).run c.P w=.ok (.int k (l.foldl (fun a b=>if b > a then b else a) n)) w:=by
    simp only [Builtin.max_,Array.toList_map,hargs,List.map_cons]
    exact foldlM_max w l n
   simp [execOp,ho,resolve,hcal,invoke,builtin,hm]
  ·cases h
 ·rename_i hcal
  split at h
  ·rename_i k n l hi
   simp only [Option.some.injEq] at h;subst h
   refine Sim.of_pure hd fun F β a w hs=>?_
   have hall:(cl.args.toList.map a.eval).length=vals.length∧∀ i (h:i<(cl.args.toList.map a.eval).length) (h':i<vals.length),(Vw.mk F β s.lv w).av (cl.args.toList.map a.eval)[i] vals[i]:=by
    refine⟨?_,?_⟩
    ·rw [← hv];simp [Op.operands,Call.operands,hcal]
    ·intro i p q
     subst hv
     simp only [Op.operands,Call.operands,hcal,Array.empty_append,List.getElem_map] at q ⊢
     exact hs.val _
   have hargs:cl.args.toList.map a.eval=(n::l).map (Value.int k):=intsOf_vals (V:=Vw.mk F β s.lv w) hi hall.1 hall.2
   have hrng:=intsOf_rng (V:=Vw.mk F β s.lv w) hi hall.1 hall.2 _ (foldl_pick (f:=fun a b=>if b<a then b else a) (fun a b=>by by_cases h:b<a <;> simp [h]) l n)
   refine⟨.int k (l.foldl (fun a b=>if b<a then b else a) n),?_,Vw.mk_int _ _ _ hrng⟩
   have hm:(Builtin.min_ cl.argTypes o.type (cl.args.map a.eval)).run c.P w=.ok (.int k (l.foldl (fun a b=>if b<a then b else a) n)) w:=by
    simp only [Builtin.min_,Array.toList_map,hargs,List.map_cons]
    exact foldlM_min w l n
   simp [execOp,ho,resolve,hcal,invoke,builtin,hm]
  ·cases h
 ·cases h
theorem stepF_sim {op:Op}{vals:List AV}{κ:Key}{r:StepR}(hd:∀ d,o.dst=some d→d<c.n) (ho:o.op=op) (hv:op.operands.toList.map (s.val c.G)=vals)
 (h:stepF c.P op vals s.lv κ=some r) (hvc:r.2.2.2):Sim c o s (LSt.put ⟨s.fr,updL s.lv r.2.1⟩ o.dst r.1):=by
 unfold stepF at h
 split at h
 ·
  simp only [Option.some.injEq] at h;subst h
  have:=map_eq_one hv
  subst this
  exact sim_move hd (.inl ho)
 ·simp only [Option.some.injEq] at h;subst h
  have:=map_eq_one hv
  subst this
  exact sim_move hd (.inr ho)
 ·
  simp only [Op.operands,List.map_cons,List.map_nil,List.cons.injEq,and_true] at hv
  obtain⟨h1,h2,h3⟩:=hv
  split at h
  ·simp only [Option.some.injEq] at h;subst h;subst h2
   exact sim_pick hd ho h1
  ·simp only [Option.some.injEq] at h;subst h;subst h3
   exact sim_pick hd ho h1
  ·cases h
 ·
  split at h
  ·rename_i xs hz hk
   simp only [Option.some.injEq] at h;subst h
   obtain⟨z,hz1,hz2⟩:=zcells_info hz
   exact sim_alloc hd ho hk hz1 hz2
  ·cases h
 ·
  have h1:=map_eq_one hv
  split at h
  ·rename_i xs hx hk
   simp only [Option.some.injEq] at h;subst h
   exact sim_box hd ho hk (by grind)
  grind
 ·
  split at h
  ·rename_i zs place hz hp
   split at h
   ·split at h
    ·rename_i cs hf
     simp only [Option.some.injEq] at h;subst h
     obtain⟨z,hz1,hz2⟩:=zcells_info hz
     refine sim_build hd ho hz1 hz2 hp ?_
     rw [← hf]
     congr 1
     rw [← hv]
     simp only [Op.operands,List.map_map]
     grind
    ·cases h
   ·cases h
  ·cases h
 ·
  unfold stepBuildSlice at h
  split at h
  ·rename_i e sz hT hk
   split at h
   ·rename_i zs hz
    split at h
    ·rename_i hc
     split at h
     ·rename_i cs hf
      simp only [Option.some.injEq] at h;subst h
      obtain⟨z,hz1,hz2⟩:=zcells_info hz
      refine sim_buildSlice hd ho hk hT hz1 hz2 hc.1 hc.2.1 hc.2.2.1 ?_
      rw [← hf]
      congr 1
      rw [← hv]
      simp only [Op.operands,List.map_map]
      grind
     ·cases h
    ·cases h
   ·cases h
  ·cases h
 ·
  have h1:=map_eq_one hv
  unfold stepLoad at h
  split at h
  ·split at h
   ·simp only [Option.some.injEq] at h;subst h
    exact sim_load_d hd ho h1 (by assumption)
   grind
  ·split at h
   ·split at h
    ·simp only [Option.some.injEq] at h;subst h
     exact sim_load_l hd ho h1 (by assumption) (by assumption)
    grind
   grind
  grind
 ·
  simp only [Op.operands,List.map_cons,List.map_nil,List.cons.injEq,and_true] at hv
  obtain⟨h1,h2⟩:=hv
  unfold stepStore at h
  split at h
  ·split at h
   ·split at h
    ·split at h
     ·rename_i hc
      simp only [Option.some.injEq] at h;subst h
      obtain⟨h3,h4⟩:=beq_isSome_and hc
      exact sim_store hd ho h1 (by assumption) (by grind) h3 (by grind) hvc
     ·cases h
    ·cases h
   ·cases h
  ·cases h
 ·
  have h1:=map_eq_one hv
  unfold stepNil at h
  split at h
  ·simp only [Option.some.injEq] at h;subst h
   exact sim_nilCheck_d hd ho h1
  ·split at h
   ·simp only [Option.some.injEq] at h;subst h
    exact sim_nilCheck_l hd ho h1 (by assumption)
   grind
  ·simp only [Option.some.injEq] at h;subst h
   exact sim_nilCheck_f hd ho h1 (fun m e=>by cases e)
  ·simp only [Option.some.injEq] at h;subst h
   exact sim_nilCheck_fl hd ho h1 (fun m e=>by cases e)
  grind
 ·
  simp only [Op.operands,List.map_cons,List.map_nil,List.cons.injEq,and_true] at hv
  obtain⟨h1,h2⟩:=hv
  subst h1 h2
  exact sim_bin hd ho h hvc
 ·
  have h1:=map_eq_one hv
  split at h
  ·split at h
   ·simp only [Option.some.injEq] at h;subst h
    exact sim_unOp hd ho h1 (by assumption)
   grind
  grind
 ·
  have h1:=map_eq_one hv
  split at h
  ·split at h
   ·rename_i e1 e2
    simp only [Option.some.injEq] at h;subst h
    exact sim_conv_int hd ho h1 (by grind) e2
   grind
  ·split at h
   ·rename_i hc
    simp only [Option.some.injEq] at h;subst h
    simp only [Bool.and_eq_true] at hc
    exact sim_conv_str hd ho h1 hc.1 hc.2
   grind
  grind
 ·
  have h1:=map_eq_one hv
  split at h
  ·split at h
   ·simp only [Option.some.injEq] at h;subst h
    exact sim_mkIface hd ho (by grind) (by assumption)
   grind
  grind
 ·
  split at h
  ·rename_i hl
   split at h
   ·rename_i fr cr e1 e2
    simp only [Option.some.injEq] at h;subst h
    simp only [Op.operands,Array.toList_append,List.map_append] at hv
    subst hv
    rw [List.take_left' (by simp)] at e1
    rw [List.drop_left' (by simp)] at e2
    exact sim_mkFunc hd ho e1 e2
   ·cases h
  ·cases h
 ·
  simp only [Op.operands,List.map_cons,List.map_nil,List.cons.injEq,and_true] at hv
  obtain⟨h1,h2⟩:=hv
  unfold stepMake at h
  split at h
  ·split at h
   ·rename_i e sz hT hk
    split at h
    ·rename_i zs b hz hb
     split at h
     ·rename_i hc
      simp only [Option.some.injEq] at h;subst h
      obtain⟨i,z,hi,hz1,hz2,hz3⟩:=tbytes_info hb
      obtain⟨z',hz4,hz5⟩:=zcells_info hz
      rw [hi] at hz4;simp only [Option.bind_some] at hz4
      rw [hz1] at hz4;cases hz4
      obtain⟨v1,v2,v3,v4⟩:=hvc
      exact sim_make hd ho hk h1 h2 hT hi hz1 hz5 hc.1 hc.2 v1 v2 (by grind) v4
     ·cases h
    ·cases h
   ·cases h
  ·cases h
 ·
  rename_i T x lo hi v rest
  simp only [Op.operands,Option.toArray_none,Array.append_empty,Array.append_assoc,Array.toList_append,List.map_append,List.map_cons,List.cons_append,List.nil_append,List.cons.injEq] at hv
  obtain⟨h1,h2⟩:=hv
  split at h
  ·rename_i l hh hb
   rw [← h2,← List.map_append,← Array.toList_append] at hb
   obtain⟨rfl,rfl⟩:=bnds_eq hb
   unfold stepSlice at h
   split at h
   ·split at h
    ·rename_i hs
     split at h
     ·simp only [Option.some.injEq] at h;subst h
      obtain⟨v1,v2,v3⟩:=hvc
      exact sim_slice_str hd ho h1 (strT_info hs) (by assumption) (by assumption) v1 v2 v3
     ·cases h
    ·cases h
   ·split at h
    ·rename_i hT
     split at h
     ·simp only [Option.some.injEq] at h;subst h
      obtain⟨v1,v2,v3,v4⟩:=hvc
      exact sim_slice_d hd ho h1 hT v4 (by assumption) (by assumption) v1 v2 v3
     ·cases h
    ·cases h
   ·split at h
    ·rename_i hT
     split at h
     ·simp only [Option.some.injEq] at h;subst h
      exact sim_slice_nil hd ho h1 hT (by assumption) (by assumption) hvc.1 hvc.2
     ·cases h
    ·cases h
   ·split at h
    ·rename_i hk hT
     split at h
     ·rename_i hsz;subst hsz
      split at h
      ·simp only [Option.some.injEq] at h;subst h
       obtain⟨v1,v2,v3,v4⟩:=hvc
       exact sim_slice_l hd ho h1 hk hT (by assumption) (by assumption) v1 v2 v3 v4
      ·cases h
     ·cases h
    ·cases h
   ·cases h
  ·cases h
 ·
  have h1:=map_eq_one hv
  unfold stepFieldAddr at h
  split at h
  ·split at h
   ·simp only [Option.some.injEq] at h;subst h
    exact sim_fieldAddr_d hd ho h1 (by assumption) hvc
   grind
  ·split at h
   ·simp only [Option.some.injEq] at h;subst h
    exact sim_fieldAddr_l hd ho h1 (by assumption) (by assumption)
   grind
  grind
 ·
  have h1:=map_eq_one hv
  split at h
  ·split at h
   ·split at h
    ·simp only [Option.some.injEq] at h;subst h
     exact sim_field hd ho h1 (by assumption) (by assumption)
    grind
   grind
  grind
 ·
  simp only [Op.operands,List.map_cons,List.map_nil,List.cons.injEq,and_true] at hv
  obtain⟨h1,h2⟩:=hv
  unfold stepIndexAddr at h
  split at h
  ·split at h
   ·rename_i es _
    split at h
    ·simp only [Option.some.injEq] at h;subst h
     obtain⟨v1,v2,v3⟩:=hvc
     refine sim_indexAddr_d hd ho h1 h2 (by assumption) v1 ?_ v3
     grind
    ·cases h
   ·split at h
    ·split at h
     ·rename_i hsz;subst hsz
      simp only [Option.some.injEq] at h;subst h
      exact sim_indexAddr_l hd ho h1 (by assumption) h2 (by assumption) hvc.1 hvc.2
     ·cases h
    ·cases h
   ·split at h
    ·simp only [Option.some.injEq] at h;subst h
     exact sim_indexAddr_ad hd ho h1 h2 (by assumption) hvc.1 hvc.2.1 hvc.2.2
    ·cases h
   ·split at h
    ·simp only [Option.some.injEq] at h;subst h
     exact sim_indexAddr_al hd ho h1 (by assumption) h2 (by assumption) hvc.1 hvc.2
    ·cases h
   ·cases h
  ·cases h
 ·
  simp only [Op.operands,List.map_cons,List.map_nil,List.cons.injEq,and_true] at hv
  obtain⟨h1,h2⟩:=hv
  unfold stepIndex at h
  split at h
  ·split at h
   ·split at h
    ·rename_i hs
     simp only [Option.some.injEq] at h;subst h
     refine sim_index_str hd ho h1 h2 (strT_info hs) hvc.1 ?_
     grind
    ·cases h
   ·split at h
    ·split at h
     ·simp only [Option.some.injEq] at h;subst h
      exact sim_index_arr hd ho h1 h2 (by assumption) hvc.1 hvc.2 (by assumption)
     ·cases h
    ·cases h
   ·cases h
  ·cases h
 ·
  have h1:=map_eq_one hv
  split at h
  ·split at h
   ·cases h
   ·rename_i y hnt hy
    simp only [Option.some.injEq] at h;subst h
    exact sim_extract hd ho h1 hy (fun l' e=>hnt l' e)
   grind
  grind
 ·
  rename_i cl vals'
  exact stepB_sim hd ho hv h hvc
 ·cases h
def Agree (lv lv':Key→LB)(us:List (Key × LB))(rds:List Key):Prop:=(∀ k∈rds,lv' k=lv k)∧∀ p∈us,lv' p.1=lv p.1
theorem srcA_local {lv lv':Key→LB}{sz:Nat}{x:AV}{r:Nat × List CV}(h:srcA lv sz x=some r) (hk:∀ k∈keyOf x,lv' k=lv k):srcA lv' sz x=some r:=by
 rw [← h]
 unfold srcA
 split <;> first|rfl|skip
 rw [hk _ (by simp [keyOf])]
theorem lenA_local {P:Program}{lv lv':Key→LB}{T:TypeId}{x:AV}{r:Int}(h:lenA P T lv x=some r) (hk:∀ k∈keyOf x,lv' k=lv k):lenA P T lv' x=some r:=by
 rw [← h]
 unfold lenA
 split <;> first|rfl|skip
 rw [hk _ (by simp [keyOf])]
theorem stepLoad_local {P:Program}{T:TypeId}{lv lv':Key→LB}{x:AV}{r:StepR}(h:stepLoad P T lv x=some r) (ha:Agree lv lv' r.2.1 r.2.2.1):stepLoad P T lv' x=some r:=by
 have h0:=h
 unfold stepLoad at h ⊢
 split at h
 ·exact h
 ·split at h
  ·rename_i e
   split at h
   ·rename_i e2
    simp only [Option.some.injEq] at h;subst h
    have:=ha.1 _ (List.mem_singleton.2 rfl)
    grind
   grind
  grind
 omega
theorem stepStore_local {P:Program}{T:TypeId}{lv lv':Key→LB}{x y:AV}{r:StepR}(h:stepStore P T lv x y=some r) (ha:Agree lv lv' r.2.1 r.2.2.1):stepStore P T lv' x y=some r:=by
 unfold stepStore at h ⊢
 split at h
 ·split at h
  ·rename_i e
   split at h
   ·rename_i e2
    split at h
    ·rename_i e3
     simp only [Option.some.injEq] at h;subst h
     have:=ha.2 _ (List.mem_singleton.2 rfl)
     grind
    grind
   grind
  grind
 omega
theorem stepNil_local {lv lv':Key→LB}{x:AV}{r:StepR}(h:stepNil lv x=some r) (ha:Agree lv lv' r.2.1 r.2.2.1):stepNil lv' x=some r:=by
 unfold stepNil at h ⊢
 split at h
 ·exact h
 ·split at h
  ·rename_i e
   simp only [Option.some.injEq] at h;subst h
   have:=ha.1 _ (List.mem_singleton.2 rfl)
   grind
  grind
 ·exact h
 ·exact h
 omega
theorem stepFieldAddr_local {P:Program}{T:TypeId}{f:Nat}{lv lv':Key→LB}{x:AV}{r:StepR}(h:stepFieldAddr P T f lv x=some r) (ha:Agree lv lv' r.2.1 r.2.2.1):stepFieldAddr P T f lv' x=some r:=by
 unfold stepFieldAddr at h ⊢
 split at h
 ·exact h
 ·split at h
  ·rename_i e e2
   simp only [Option.some.injEq] at h;subst h
   have:=ha.1 _ (List.mem_singleton.2 rfl)
   grind
  grind
 omega
theorem stepIndexAddr_local {P:Program}{T:TypeId}{lv lv':Key→LB}{x i:AV}{r:StepR}(h:stepIndexAddr P T lv x i=some r) (ha:Agree lv lv' r.2.1 r.2.2.1):stepIndexAddr P T lv' x i=some r:=by
 unfold stepIndexAddr at h ⊢
 split at h
 ·split at h
  ·exact h
  ·split at h
   ·rename_i e e2
    split at h
    ·rename_i e3
     simp only [Option.some.injEq] at h;subst h
     have:=ha.1 _ (List.mem_singleton.2 rfl)
     grind
    grind
   grind
  ·exact h
  ·split at h
   ·rename_i e e2
    simp only [Option.some.injEq] at h;subst h
    have:=ha.1 _ (List.mem_singleton.2 rfl)
    grind
   grind
  omega
 omega
theorem stepSlice_local {P:Program}{T:TypeId}{lv lv':Key→LB}{x:AV}{lo hi:Option AV}{r:StepR}(h:stepSlice P T lv x lo hi=some r) (ha:Agree lv lv' r.2.1 r.2.2.1):stepSlice P T lv' x lo hi=some r:=by
 unfold stepSlice at h ⊢
 split at h
 ·exact h
 ·exact h
 ·exact h
 ·split at h
  ·rename_i e e2
   split at h
   ·rename_i e3
    split at h
    ·rename_i e4 e5
     simp only [Option.some.injEq] at h;subst h
     have:=ha.1 _ (List.mem_singleton.2 rfl)
     grind
    grind
   grind
  grind
 omega
theorem stepMake_local {P:Program}{T:TypeId}{lv lv':Key→LB}{κ:Key}{x y:AV}{r:StepR}(h:stepMake P T lv κ x y=some r) (ha:Agree lv lv' r.2.1 r.2.2.1):stepMake P T lv' κ x y=some r:=by
 unfold stepMake at h ⊢
 split at h
 ·split at h
  ·rename_i e e2
   split at h
   ·rename_i e3 e4
    split at h
    ·rename_i e5
     simp only [Option.some.injEq] at h;subst h
     have:=ha.2 _ (List.mem_singleton.2 rfl)
     grind
    grind
   grind
  grind
 omega
theorem stepBuildSlice_local {P:Program}{T:TypeId}{n:Nat}{ixs:List Nat}{lv lv':Key→LB}{κ:Key}{vals:List AV}{r:StepR}(h:stepBuildSlice P T n ixs lv κ vals=some r) (ha:Agree lv lv' r.2.1 r.2.2.1):stepBuildSlice P T n ixs lv' κ vals=some r:=by
 unfold stepBuildSlice at h ⊢
 split at h
 ·rename_i e e2
  split at h
  ·rename_i e3
   split at h
   ·rename_i e4
    split at h
    ·rename_i e5
     simp only [Option.some.injEq] at h;subst h
     have:=ha.2 _ (List.mem_singleton.2 rfl)
     grind
    grind
   grind
  grind
 grind
theorem stepAppend_local {P:Program}{T:TypeId}{lv lv':Key→LB}{κ:Key}{y x:AV}{r:StepR}(h:stepAppend P T lv κ y x=some r) (ha:Agree lv lv' r.2.1 r.2.2.1):stepAppend P T lv' κ y x=some r:=by
 unfold stepAppend at h ⊢
 split at h
 ·rename_i e e2
  split at h
  ·rename_i e3 e4
   split at h
   ·simp only [Option.some.injEq] at h;subst h
    have h1:=ha.2 _ (List.mem_singleton.2 rfl)
    simp only at h1
    have h2:=srcA_local e4 (fun k hk=>ha.1 k hk)
    grind
   ·split at h
    ·rename_i e5
     split at h
     ·rename_i e6
      simp only [Option.some.injEq] at h;subst h
      have h1:=ha.2 _ (List.mem_singleton.2 rfl)
      simp only at h1
      have h2:=srcA_local e4 (fun k hk=>ha.1 k (List.mem_cons_of_mem _ hk))
      have h3:=ha.1 _ (List.mem_cons_self)
      grind
     grind
    ·rename_i e5
     split at h
     ·rename_i e6
      simp only [Option.some.injEq] at h;subst h
      have h1:=ha.2 _ (List.mem_cons_of_mem _ (List.mem_singleton.2 rfl))
      simp only at h1
      have h2:=srcA_local e4 (fun k hk=>ha.1 k hk)
      have h3:=ha.2 _ (List.mem_cons_self)
      grind
     grind
    grind
   grind
  grind
 grind
theorem stepCopy_local {P:Program}{T:TypeId}{lv lv':Key→LB}{y x:AV}{r:StepR}(h:stepCopy P T lv y x=some r) (ha:Agree lv lv' r.2.1 r.2.2.1):stepCopy P T lv' y x=some r:=by
 unfold stepCopy at h ⊢
 split at h
 ·rename_i k off n sz e sz' hT
  split at h
  ·rename_i hsz
   split at h
   ·rename_i own T0 cs m xs hk hx
    simp only [Option.some.injEq] at h;subst h
    have h1:=ha.2 _ (List.mem_singleton.2 rfl)
    simp only at h1
    have h2:=srcA_local hx ha.1
    grind
   grind
  grind
 omega
theorem stepB_local {P:Program}{cl:Call}{vals:List AV}{lv lv':Key→LB}{κ:Key}{r:StepR}(h:stepB P cl vals lv κ=some r) (ha:Agree lv lv' r.2.1 r.2.2.1):stepB P cl vals lv' κ=some r:=by
 unfold stepB at h ⊢
 split at h
 ·split at h
  ·split at h
   ·rename_i e
    simp only [Option.some.injEq] at h;subst h
    rw [lenA_local e ha.1]
   grind
  omega
 ·split at h
  ·split at h
   ·rename_i e;exact (by rw [if_pos e];exact stepAppend_local h ha)
   grind
  omega
 ·split at h
  ·exact stepCopy_local h ha
  omega
 ·exact h
 ·exact h
 omega
theorem stepF_local {P:Program}{op:Op}{vals:List AV}{lv lv':Key→LB}{κ:Key}{r:StepR}(h:stepF P op vals lv κ=some r) (ha:Agree lv lv' r.2.1 r.2.2.1):stepF P op vals lv' κ=some r:=by
 unfold stepF at h ⊢
 split at h
 ·exact h
 ·exact h
 ·exact h
 ·split at h
  ·rename_i e e2
   simp only [Option.some.injEq] at h;subst h
   have:=ha.2 _ (List.mem_singleton.2 rfl)
   grind
  grind
 ·split at h
  ·rename_i e e2
   simp only [Option.some.injEq] at h;subst h
   have:=ha.2 _ (List.mem_singleton.2 rfl)
   grind
  grind
 ·exact h
 ·exact stepBuildSlice_local h ha
 ·exact stepLoad_local h ha
 ·exact stepStore_local h ha
 ·exact stepNil_local h ha
 ·exact h
 ·exact h
 ·exact h
 ·exact h
 ·exact h
 ·exact stepMake_local h ha
 ·split at h
  ·exact stepSlice_local h ha
  omega
 ·exact stepFieldAddr_local h ha
 ·exact h
 ·exact stepIndexAddr_local h ha
 ·exact h
 ·exact h
 ·exact stepB_local h ha
 omega
end
end Go.Am
