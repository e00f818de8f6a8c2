/- Helpers: an abstract machine for Go functions, and walks of functions of the program. -/
import Derived.WalkKit
import Derived.Lib.Strings
import Derived.ChangeArms
import Derived.ReadAgain
import Derived.ChangeBears
import Derived.ChangeShapes
import Derived.ChangeOld
import Derived.OpenShut
import Derived.Handed
import Derived.RowKit
import Derived.ChangeFn
import Derived.LaidLaws

set_option linter.all false
set_option maxHeartbeats 8000000
set_option maxRecDepth 100000
namespace Go.Am
variable {T e T' t ft ty S:TypeId}{v z:Value}{o:Oper}{x y ix fo:Operand}{P:Program}{sz off len cap base:Nat}{n l m h:Int}{own b fz apart fresh handsOn:Bool}{α H:Type}{w W w' W':World}{F F' Fz:Nat→Prop}{a:Act}{op:BinOp}{lo hi:Option Operand}{i:TypeInfo}{f:FuncId}{arr:Array Value}{cl:Call}{fn:Fn}{k':IntKind}{parts:Array (Nat × Operand)}{ts:List TypeId}
abbrev cy:=@Bool.and_eq_true
abbrev Y2:=@Bool.false_eq_true
abbrev Zu:=@Int.fdiv_eq_ediv_of_nonneg
abbrev Za:=@Nat.le_trans
abbrev ZS:=@Nat.lt_of_lt_of_le
abbrev ZA:=@Array.getD_eq_getD_getElem?
abbrev aa9:=@Array.getElem?_setIfInBounds
abbrev aW:=@Nat.le_refl
abbrev sr:=@List.getElem_map
abbrev Zw:=@Array.getElem_toList
abbrev YU:=@List.all_eq_true
abbrev ZN:=@Nat.not_lt_zero
abbrev ai:=@Option.some.injEq
abbrev cK:=@Sem.run_bind
abbrev YY:=@List.length_append
abbrev rP:=@Result.andThen_ok
abbrev Zi:=@Sem.run_pure
abbrev Z5:=@Addr.add_lit
abbrev aaH:=@List.getElem_toArray
abbrev abJ:=@List.getElem_range
abbrev aaI:=@List.getElem_take
abbrev ZZ:=@List.getElem_drop
abbrev YZ:=@List.append_assoc
abbrev ZB:=@List.getElem_append_left
abbrev ZI:=@List.getElem_append_right
abbrev ZT:=@Nat.add_zero
abbrev aaR:=@Array.length_toList
abbrev ZC:=@Nat.add_assoc
abbrev fy:=@Prod.mk.injEq
abbrev Zb:=@Option.map_some
abbrev cq:=@List.getElem_mem
abbrev aaS:=@Option.map_none
abbrev Z6:=@List.mem_of_mem_take
abbrev aaJ:=@List.mem_of_mem_drop
abbrev Y3:=@Nat.add_mul
abbrev ZJ:=@Nat.sub_self
abbrev Y4:=@Nat.zero_le
abbrev aba:=@List.replicate_succ
abbrev aaK:=@List.flatten_cons
abbrev ZD:=@Nat.mod_eq_of_lt
abbrev Zg:=@Nat.mul_le_mul_right
abbrev Zl:=@Nat.mod_lt
abbrev abq:=@Array.getElem_map
abbrev Y5:=@Nat.zero_add
abbrev Zx:=@List.getElem_cons_zero
abbrev ZE:=@Nat.add_sub_cancel_left
abbrev Zn:=@List.length_cons
abbrev YX:=@List.length_map
abbrev ZO:=@List.getElem?_map
abbrev Z7:=@Nat.lt_or_ge
abbrev ZU:=@List.getElem?_eq_none
abbrev abK:=@Nat.eq_zero_or_pos
abbrev Zm:=@Nat.mul_comm
abbrev aaT:=@List.getElem?_take
abbrev Z0:=@List.getElem?_drop
abbrev abr:=@Array.getElem?_toList
abbrev abt:=@List.eq_nil_of_length_eq_zero
abbrev Z1:=@Array.getElem_append_left
abbrev abb:=@Array.size_append
abbrev abu:=@List.size_toArray
abbrev Z8:=@Nat.le_of_eq
abbrev abL:=@Array.getElem_append_right
abbrev Zc:=@List.length_take
abbrev ZF:=@Nat.min_eq_left
abbrev abc:=@List.foldl_cons
abbrev abv:=@Array.getElem?_eq_none
abbrev cn:=@List.getElem?_eq_getElem
abbrev Y0:=@List.map_cons
abbrev Zh:=@List.cons.injEq
abbrev Y8:=@Option.map_eq_some_iff
abbrev aaU:=@List.mem_append_left
abbrev aa2:=@List.mem_append_right
abbrev abd:=@List.length_drop
abbrev ZK:=@Nat.one_mul
abbrev abe:=@Nat.le_of_not_lt
abbrev Z9:=@List.drop_drop
abbrev ZV:=@Nat.add_comm
abbrev abw:=@List.take_append_drop
abbrev hJ:=@List.getD_eq_getElem?_getD
abbrev abf:=@List.map_take
abbrev Y7:=@List.map_map
abbrev aa3:=@List.ext_getElem
abbrev ZL:=@Array.getElem?_eq_getElem
abbrev Zs:=@Option.some.inj
abbrev Zd:=@Bool.not_eq_true'
abbrev abg:=@Bool.false_or
abbrev ZW:=@List.mem_singleton
abbrev abh:=@Array.empty_append
abbrev Zy:=@List.map_nil
abbrev Z2:=@List.map_append
abbrev Z3:=@List.cons_append
abbrev Zt:=@List.nil_append
abbrev ZX:=@List.mem_cons_of_mem
abbrev ZP:=@List.mem_cons_self
def CF:IntKind→Int
 | .i8=>-128|.i16=>-32768|.i32=>-2147483648|.i64=>-9223372036854775808|_=>0
def qd:IntKind→Int
 | .i8=>127|.i16=>32767|.i32=>2147483647|.i64=>9223372036854775807
 | .u8=>255|.u16=>65535|.u32=>4294967295|.u64=>18446744073709551615
theorem wZ (k:IntKind)(n:Int):k.wrap n=if k.signed=true∧n % 2 ^ k.bits ≥ 2 ^ (k.bits - 1) then n % 2 ^ k.bits - 2 ^ k.bits else n % 2 ^ k.bits:=by
 unfold IntKind.wrap;simp only [cy,decide_eq_true_eq]
theorem Ep (k:IntKind)(n:Int):CF k≤k.wrap n∧k.wrap n≤qd k:=by
 rw [wZ]
 cases k <;> simp only [IntKind.bits,IntKind.signed,CF,qd,true_and,false_and,Y2,if_false,Nat.reduceSub] <;> first|omega|(split <;> omega)
theorem c9 {k:IntKind}(h:CF k≤n∧n≤qd k):k.wrap n=n:=by
 rw [wZ]
 cases k <;> simp only [IntKind.bits,IntKind.signed,CF,qd,true_and,false_and,Y2,if_false,Nat.reduceSub] at h ⊢ <;> first|omega|(split <;> omega)
theorem nO {k:IntKind}:k.wrap n=n↔CF k≤n∧n≤qd k:=
 ⟨fun h=>h ▸ Ep k n,c9⟩
theorem wrap_wrap (k:IntKind)(n:Int):k.wrap (k.wrap n)=k.wrap n:=c9 (Ep k n)
theorem lo_le (k:IntKind):CF k≤0:=by cases k <;> decide
theorem O6 (k:IntKind):0≤qd k:=by cases k <;> decide
theorem HY {k:IntKind}(h:k.wrap m=m):k.wrap (m.tmod n)=m.tmod n:=by
 rw [nO] at h ⊢;have h1:=lo_le k;have h2:=O6 k;rcases Int.le_total 0 m with hm|hm
 ·have h3:=Int.tmod_nonneg n hm
  have h4:m.tmod n≤m:=by
   have e1:=Int.natAbs_tmod m n;have e2:=Nat.mod_le m.natAbs n.natAbs;omega
  omega
 ·have h3:m.tmod n≤0:=by
   have:=Int.tmod_nonneg n (a:=-m) (by omega);rw [Int.neg_tmod] at this;omega
  have h4:m≤m.tmod n:=by
   have e1:=Int.natAbs_tmod m n;have e2:=Nat.mod_le m.natAbs n.natAbs;omega
  omega
theorem Io {k:IntKind}{j:Nat}(h:k.wrap m=m):k.wrap (m.fdiv (2 ^ j))=m.fdiv (2 ^ j):=by
 rw [nO] at h ⊢;have h1:=lo_le k;have h2:=O6 k;have hp:(0:Int)<2 ^ j:=Int.pow_pos (by decide);rw [Zu _ (by omega)];have h3:m / 2 ^ j*2 ^ j≤m:=Int.ediv_mul_le m (by omega);have h4:m<(m / 2 ^ j+1)*2 ^ j:=Int.lt_ediv_add_one_mul_self m hp;have h5:(1:Int)≤2 ^ j:=by omega
 rcases Int.le_total 0 m with hm|hm
 ·have:0≤m / 2 ^ j:=Int.ediv_nonneg hm (by omega);have:m / 2 ^ j≤m:=Int.ediv_le_self _ hm;omega
 ·have h6:m / 2 ^ j≤0:=Int.ediv_nonpos_of_nonpos_of_neg hm hp |> fun h=>h
  have h7:m≤m / 2 ^ j:=by
   by_cases hc:m≤m / 2 ^ j
   ·exact hc
   ·exfalso;have h8:m / 2 ^ j+1≤m:=by omega
    have h9:(m / 2 ^ j+1)*2 ^ j≤(m / 2 ^ j+1)*1:=Int.mul_le_mul_of_nonpos_left (by omega) h5;omega
  omega
inductive DV where
 | bool (b:Bool)
 | int (k:IntKind) (n:Int)
 | str (s:List UInt8)
 | nilp
 | ptr (cs:List DV)
 | nilsl
 | sl (es:List (List DV))
 | agg (cs:List DV)
 | nilIface
 | iface (t:TypeId) (v:DV)
 | nilFunc
 | func (fn:Fn) (first caps:List DV)
 | nilmap
 deriving Inhabited
variable {d:DV}{es:List (List DV)}
abbrev Mem:=Addr→Value→Prop
variable {M M':Mem}
inductive Rd (M:Mem):Value→DV→Prop where
 | bool (b:Bool):Rd M (.bool b) (.bool b)
 | int (k:IntKind) (n:Int) (hw:k.wrap n=n):Rd M (.int k n) (.int k n)
 | str (s:ByteArray) (hl:s.data.toList.length≤9223372036854775807):Rd M (.string s) (.str s.data.toList)
 | nilp:Rd M (.pointer none) .nilp
 | ptr (b off:Nat) (vs:Nat→Value) (cs:List DV) (hm:∀ i,i<cs.length→M ⟨b,off+i,none⟩ (vs i))
  (ho:∀ i,i<cs.length→(vs i).oneCell'=true) (hr:∀ i (h:i<cs.length),Rd M (vs i) cs[i]):Rd M (.pointer (some ⟨b,off,none⟩)) (.ptr cs)
 | nilsl:Rd M (.slice none 0 0) .nilsl
 | sl (b off cap sz:Nat) (es:List (List DV)) (vs:Nat→Nat→Value) (hl:∀ e∈es,e.length=sz) (hc:es.length≤cap) (hb:es.length≤9223372036854775807)
  (hm:∀ i,i<es.length→∀ j,j<sz→M ⟨b,off+i*sz+j,none⟩ (vs i j))
  (ho:∀ i,i<es.length→∀ j,j<sz→(vs i j).oneCell'=true)
  (hr:∀ i (hi:i<es.length) j (hj:j<es[i].length),Rd M (vs i j) es[i][j]):Rd M (.slice (some ⟨b,off,none⟩) es.length cap) (.sl es)
 | agg (arr:Array Value) (cs:List DV) (hl:arr.size=cs.length) (ho:∀ i (h:i<arr.size),arr[i].oneCell'=true)
  (hr:∀ i (h:i<cs.length),Rd M (arr[i]'(by omega)) cs[i]):Rd M (.agg arr) (.agg cs)
 | nilIface:Rd M .nilIface .nilIface
 | iface (t:TypeId) (v:Value) (d:DV) (h:Rd M v d):Rd M (.iface t v) (.iface t d)
 | nilFunc:Rd M .nilFunc .nilFunc
 | func (fn:Fn) (fs cs:Array Value) (fd cd:List DV) (hf:fs.size=fd.length) (hc:cs.size=cd.length)
  (hrf:∀ i (h:i<fd.length),Rd M (fs[i]'(by omega)) fd[i]) (hrc:∀ i (h:i<cd.length),Rd M (cs[i]'(by omega)) cd[i]) :
  Rd M (.func fn fs cs) (.func fn fd cd)
 | nilmap:Rd M (.map none) .nilmap
theorem Rd.mono(hM:∀ a v,M a v→M' a v)(h:Rd M v d):Rd M' v d:=by
 induction h with
 | bool b=>exact .bool b
 | int k n hw=>exact .int k n hw
 | str s hl=>exact .str s hl
 | nilp=>exact .nilp
 | ptr b off vs cs hm ho _ ih=>exact .ptr b off vs cs (fun i h=>hM _ _ (hm i h)) ho ih
 | nilsl=>exact .nilsl
 | sl b off cap sz es vs hl hc hb hm ho _ ih=>exact .sl b off cap sz es vs hl hc hb (fun i h j hj=>hM _ _ (hm i h j hj)) ho ih
 | agg arr cs hl ho _ ih=>exact .agg arr cs hl ho ih
 | nilIface=>exact .nilIface
 | iface t v d _ ih=>exact .iface t v d ih
 | nilFunc=>exact .nilFunc
 | func fn fs cs fd cd hf hc _ _ ih1 ih2=>exact .func fn fs cs fd cd hf hc ih1 ih2
 | nilmap=>exact .nilmap
def DV.one:DV→Bool
 | .agg _=>false
 | _=>true
theorem Rd.Nw(h:Rd M v d):v.oneCell'=d.one:=by
 cases h <;> rfl
def kI (w:World)(F:Nat→Prop):Mem:=fun a v=>F a.block∧w.cell? a=some v
abbrev Key:=Nat
variable {k κ:Key}{β β':Key→Nat}{g:Key→Key}{gi:Key→Option Key}{ks:List Key}
inductive ij where
 | d (x:DV)
 | ptr (k:Key) (off:Nat)
 | aI (k:Key) (off len sz:Nat)
 deriving Inhabited
inductive Ref where
 | d (x:DV)
 | ptr (k:Key) (off:Nat)
 | aI (k:Key) (off len sz:Nat)
 | agg (cs:List ij)
 | ifc (t:TypeId) (x:Ref)
 deriving Inhabited
variable {fr cr:List Ref}
inductive CV where
 | d (x:DV)
 | ptr (k:Key) (off:Nat)
 | aI (k:Key) (off len sz:Nat)
 | mapr (k:Key)
 | func (fn:Fn) (first caps:List Ref)
 | ifc (t:TypeId) (x:Ref)
 | junk
 deriving Inhabited
variable {cs xs zs cs':List CV}
inductive AV where
 | c (x:CV)
 | agg (cs:List CV)
 | tup (l:List AV)
 | undef
 | junk
 deriving Inhabited
variable {vals fs us:List AV}{fv:AV}
inductive LB where
 | hole
 | dead
 | bk
 | cells (own fz:Bool) (T:TypeId) (cs:List CV)
 | map (own:Bool) (es:List (DV × AV))
 deriving Inhabited
variable {lv' lv L L':Key→LB}
structure au where
 fr:Nat→AV
 lv:Key→LB
variable {s:au}
def cw (w:World)(b:Nat):Nat:=
 match w.heap[b]? with
 | some (.cells arr _ _)=>arr.size
 | _=>0
structure Vw where
 F:Nat→Prop
 β:Key→Nat
 lv:Key→LB
 w:World
variable {V V':Vw}
def Vw.mem (V:Vw):Mem:=kI V.w V.F
def Vw.de (V:Vw)(v:Value)(k:Key)(off:Nat):Prop:=
 match V.lv k with
 | .hole|.bk|.map ..=>False
 | .dead=>True
 | .cells ..=>v=.pointer (some ⟨V.β k,off,none⟩)
def Vw.cB (V:Vw)(v:Value)(k:Key)(off len sz:Nat):Prop:=
 match V.lv k with
 | .hole|.map ..=>False
 | .dead=>True
 | .bk=>v=.slice none 0 0∧off=0∧len=0
 | .cells ..=>∃ cap,v=.slice (some ⟨V.β k,off,none⟩) len cap∧len≤cap∧off+cap*sz≤cw V.w (V.β k)
def Vw.ku (V:Vw)(v:Value)(k:Key):Prop:=
 match V.lv k with
 | .map ..=>v=.map (some (V.β k))
 | .dead=>True
 | _=>False
def Vw.l9 (V:Vw)(v:Value):ij→Prop
 | .d x=>Rd V.mem v x∧v.oneCell'=true
 | .ptr k off=>V.de v k off∧v.oneCell'=true
 | .aI k off len sz=>V.cB v k off len sz∧v.oneCell'=true
def Vw.ref (V:Vw)(v:Value):Ref→Prop
 | .d x=>Rd V.mem v x
 | .ptr k off=>V.de v k off∧v.oneCell'=true
 | .aI k off len sz=>V.cB v k off len sz∧v.oneCell'=true
 | .agg cs=>∃ arr:Array Value,v=.agg arr∧arr.size=cs.length∧∀ i (h:i<cs.length) (h':i<arr.size),V.l9 arr[i] cs[i]
 | .ifc t x=>∃ v',v=.iface t v'∧V.ref v' x
def Vw.cv (V:Vw)(v:Value):CV→Prop
 | .d x=>Rd V.mem v x∧v.oneCell'=true
 | .ptr k off=>V.de v k off∧v.oneCell'=true
 | .aI k off len sz=>V.cB v k off len sz∧v.oneCell'=true
 | .mapr k=>V.ku v k∧v.oneCell'=true
 | .func fn first caps=>∃ fs cs:Array Value,v=.func fn fs cs∧fs.size=first.length∧cs.size=caps.length ∧
  (∀ i (h:i<first.length) (h':i<fs.size),V.ref fs[i] first[i])∧(∀ i (h:i<caps.length) (h':i<cs.size),V.ref cs[i] caps[i])
 | .ifc t x=>∃ v',v=.iface t v'∧V.ref v' x
 | .junk=>v.oneCell'=true
def Vw.kF (V:Vw)(v:Value):AV→Prop
 | .c x=>V.cv v x
 | .agg cs=>∃ arr:Array Value,v=.agg arr∧arr.size=cs.length∧∀ i (h:i<cs.length) (h':i<arr.size),V.cv arr[i] cs[i]
 | .tup _=>False
 | .undef=>v=Go.undef
 | .junk=>True
def Vw.av (V:Vw)(v:Value):AV→Prop
 | .tup l=>∃ arr:Array Value,v=.tuple arr∧arr.size=l.length∧∀ i (h:i<l.length) (h':i<arr.size),V.kF arr[i] l[i]
 | x=>V.kF v x
theorem Vw.eZ{x:CV}(h:V.cv v x):v.oneCell'=true:=by
 cases x with
 | d x=>exact h.2
 | ptr k off=>exact h.2
 | aI k off len sz=>exact h.2
 | mapr k=>exact h.2
 | func fn f c=>obtain⟨_,_,rfl,_⟩:=h;rfl
 | ifc t x=>obtain⟨_,rfl,_⟩:=h;rfl
 | junk=>exact h
structure Vw.Le (V V':Vw):Prop where
 F:∀ b,V.F b→V'.F b
 mem:∀ b,V.F b→V'.w.heap[b]?=V.w.heap[b]?
theorem gm(hF:∀ b,F b→F' b) (hm:∀ b,F b→w'.heap[b]?=w.heap[b]?) :
 ∀ a v,kI w F a v→kI w' F' a v:=by
 rintro a v ⟨h1,h2⟩;refine⟨hF _ h1,?_⟩;unfold World.cell? at *
 rw [hm _ h1];exact h2
structure Vw.iz (V V':Vw):Prop where
 F:∀ b,V.F b→V'.F b
 mem:∀ b,V.F b→V'.w.heap[b]?=V.w.heap[b]?
 ptr:∀ v k off,V.de v k off→V'.de v k off
 aI:∀ v k off len sz,V.cB v k off len sz→V'.cB v k off len sz
 map:∀ v k,V.ku v k→V'.ku v k
theorem Vw.iz.l9(h:V.iz V'){x:ij}(hx:V.l9 v x):V'.l9 v x:=by
 cases x with
 | d x=>exact⟨Rd.mono (gm h.F h.mem) hx.1,hx.2⟩
 | ptr k off=>exact⟨h.ptr _ _ _ hx.1,hx.2⟩
 | aI k off len sz=>exact⟨h.aI _ _ _ _ _ hx.1,hx.2⟩
theorem Vw.iz.ref(h:V.iz V'){x:Ref}(hx:V.ref v x):V'.ref v x:=by
 induction x generalizing v with
 | d x=>exact Rd.mono (gm h.F h.mem) hx
 | ptr k off=>exact⟨h.ptr _ _ _ hx.1,hx.2⟩
 | aI k off len sz=>exact⟨h.aI _ _ _ _ _ hx.1,hx.2⟩
 | agg cs=>
  obtain⟨arr,rfl,h1,h2⟩:=hx;exact⟨arr,rfl,h1,fun i a b=>h.l9 (h2 i a b)⟩
 | ifc t x ih=>obtain⟨v',rfl,h1⟩:=hx;exact⟨v',rfl,ih h1⟩
theorem Vw.iz.cv(h:V.iz V'){x:CV}(hx:V.cv v x):V'.cv v x:=by
 cases x with
 | d x=>exact⟨Rd.mono (gm h.F h.mem) hx.1,hx.2⟩
 | ptr k off=>exact⟨h.ptr _ _ _ hx.1,hx.2⟩
 | aI k off len sz=>exact⟨h.aI _ _ _ _ _ hx.1,hx.2⟩
 | mapr k=>exact⟨h.map _ _ hx.1,hx.2⟩
 | func fn f c=>
  obtain⟨fs,cs,rfl,h1,h2,h3,h4⟩:=hx;exact⟨fs,cs,rfl,h1,h2,fun i a b=>h.ref (h3 i a b),fun i a b=>h.ref (h4 i a b)⟩
 | ifc t x=>
  obtain⟨v',rfl,h1⟩:=hx;exact⟨v',rfl,h.ref h1⟩
 | junk=>exact hx
theorem Vw.iz.kF(h:V.iz V'){x:AV}(hx:V.kF v x):V'.kF v x:=by
 cases x with
 | c x=>exact h.cv (x:=x) hx
 | agg cs=>obtain⟨arr,rfl,h1,h2⟩:=hx;exact⟨arr,rfl,h1,fun i a b=>h.cv (h2 i a b)⟩
 | tup l=>exact hx
 | undef=>exact hx
 | junk=>trivial
theorem Vw.iz.av(h:V.iz V'){x:AV}(hx:V.av v x):V'.av v x:=by
 cases x with
 | c x=>exact h.kF (x:=.c x) hx
 | agg cs=>exact h.kF (x:=.agg cs) hx
 | tup l=>obtain⟨arr,rfl,h1,h2⟩:=hx;exact⟨arr,rfl,h1,fun i a b=>h.kF (h2 i a b)⟩
 | undef=>exact hx
 | junk=>trivial
def LB.sub:LB→LB→Prop
 | .hole,_=>True
 | _,.dead=>True
 | .bk,.bk=>True
 | .cells ..,.cells ..=>True
 | .map ..,.map ..=>True
 | _,_=>False
theorem Vw.iG(hF:∀ b,V.F b→V'.F b) (hm:∀ b,V.F b→V'.w.heap[b]?=V.w.heap[b]?)
 (hk:∀ k,(V.lv k).sub (V'.lv k)) (hβ:∀ k,V.lv k≠.hole→V'.lv k≠.dead→V'.β k=V.β k)
 (ha:∀ b,cw V.w b≤cw V'.w b):V.iz V':=by
 refine⟨hF,hm,?_,?_,?_⟩
 ·intro v k off h;have h1:=hk k;have h2:=hβ k;unfold Vw.de at *
  cases e:V.lv k <;> cases e':V'.lv k <;> simp [e,e',LB.sub] at h h1 h2 ⊢ <;> (try rw [h2]) <;> assumption
 ·intro v k off len sz h;have h1:=hk k;have h2:=hβ k;unfold Vw.cB at *
  cases e:V.lv k <;> cases e':V'.lv k <;> simp [e,e',LB.sub] at h h1 h2 ⊢ <;> (try rw [h2]) <;> (try assumption)
  obtain⟨cap,a1,a2,a3⟩:=h;exact⟨cap,a1,a2,Za a3 (ha _)⟩
 ·intro v k h;have h1:=hk k;have h2:=hβ k;unfold Vw.ku at *
  cases e:V.lv k <;> cases e':V'.lv k <;> simp [e,e',LB.sub] at h h1 h2 ⊢ <;> (try rw [h2]) <;> assumption
structure Ctx where
 P:Program
 G:List (List DV)
 w0:World
 F0:Nat→Prop
 W0:Nat→Prop
 n:Nat
 js:Key→LB
 β0:Key→Nat
variable {c:Ctx}
def eH (c:Ctx)(own:Bool)(b:Nat):Prop:=if own then c.w0.heap.size≤b else c.w0.heap.size≤b∨c.W0 b
def Vw.bx (V:Vw)(c:Ctx)(k:Key):Prop:=
 match V.lv k with
 | .cells own fz T cs=>∃ arr:Array Value,V.w.heap[V.β k]?=some (.cells arr T (0,0))∧cs.length≤arr.size ∧
  (∀ i (h:i<cs.length) (h':i<arr.size),V.cv arr[i] cs[i])∧(if fz then V.F (V.β k) else ¬ V.F (V.β k))∧eH c own (V.β k)
 | .map own es=>∃ ents clock,V.w.heap[V.β k]?=some (.map ents clock)∧ents.size=es.length ∧
  (∀ i (h:i<es.length) (h':i<ents.size),Rd V.mem ents[i].key es[i].1∧V.kF ents[i].val es[i].2)∧¬ V.F (V.β k)∧eH c own (V.β k)
 | _=>True
def LB.live:LB→Bool
 | .cells _ false _ _=>true
 | .map ..=>true
 | _=>false
structure aE (c:Ctx) (F:Nat→Prop) (β:Key→Nat) (s:au) (a:Act) (w:World):Prop where
 bx:∀ k,(Vw.mk F β s.lv w).bx c k
 inj:∀ k k',(s.lv k).live=true→(s.lv k').live=true→β k=β k'→k=k'
 fr:∀ t,(Vw.mk F β s.lv w).av (a.tmps.getD t undef) (s.fr t)
 size:a.tmps.size=c.n
 defers:a.defers=[]
 mh:∀ b,F b→b<w.heap.size∧(c.F0 b∨c.w0.heap.size≤b)
 F0:∀ b,c.F0 b→F b
 old:∀ b,b<c.w0.heap.size→¬ c.W0 b→w.heap[b]?=c.w0.heap[b]?
 ge:c.w0.heap.size≤w.heap.size
 pK:∀ g cs,c.G[g]?=some cs→Rd (kI w F) (.pointer (some ⟨g,0,none⟩)) (.ptr cs)
 keep:∀ k,c.js k≠.hole→s.lv k=.dead∨(β k=c.β0 k∧(c.js k).sub (s.lv k))
 Ht:∀ b,cw c.w0 b≤cw w b
 Et:w.os=c.w0.os∧w.output=c.w0.output
theorem LB.AF {x y z:LB}(h1:x.sub y) (h2:y.sub z) (hy:x≠.hole):x.sub z:=by
 cases x <;> cases y <;> cases z <;> simp [LB.sub] at h1 h2 hy ⊢
theorem LB.JK {x:LB}(h:x.sub .hole):x=.hole:=by
 cases x <;> simp [LB.sub] at h ⊢
theorem LB.Lu {x:LB}(h:LB.dead.sub x):x=.dead:=by
 cases x <;> simp [LB.sub] at h ⊢
theorem Vw.bp(h:V.bx c k) (hK:V.iz V') (hl:V'.lv k=V.lv k) (hβ:V'.β k=V.β k)
 (hm:V'.w.heap[V.β k]?=V.w.heap[V.β k]?) (hF:(V.lv k).live=true→(V'.F (V.β k)→V.F (V.β k))):V'.bx c k:=by
 unfold Vw.bx at *
 rw [hl]
 cases e:V.lv k with
 | cells own fz T cs=>
  rw [e] at h hF;obtain⟨arr,h1,h2,h3,h4,h5⟩:=h;refine⟨arr,by rw [hβ,hm,h1],h2,fun i a b=>hK.cv (h3 i a b),?_,by rw [hβ];exact h5⟩;rw [hβ]
  cases fz with
  | true=>exact hK.F _ h4
  | false=>exact fun hf=>h4 (hF rfl hf)
 | map own es=>
  rw [e] at h hF;obtain⟨ents,clock,h1,h2,h3,h4,h5⟩:=h;refine⟨ents,clock,by rw [hβ,hm,h1],h2,fun i a b=>⟨Rd.mono (gm hK.F hK.mem) (h3 i a b).1,hK.kF (h3 i a b).2⟩,?_,by rw [hβ];exact h5⟩;rw [hβ];exact fun hf=>h4 (hF rfl hf)
 | hole=>trivial
 | dead=>trivial
 | bk=>trivial
theorem aE.step(h:aE c F β s a w)
 (hF:∀ b,F b→F' b) (hm:∀ b,F b→w'.heap[b]?=w.heap[b]?)
 (hk:∀ k,(s.lv k).sub (lv' k)) (hβ:∀ k,s.lv k≠.hole→lv' k≠.dead→β' k=β k) (ha:∀ b,cw w b≤cw w' b)
 (hblk:∀ k,(Vw.mk F β s.lv w).iz (Vw.mk F' β' lv' w')→(Vw.mk F' β' lv' w').bx c k)
 (hinj:∀ k k',(lv' k).live=true→(lv' k').live=true→β' k=β' k'→k=k')
 (hFlt:∀ b,F' b→F b∨(b<w'.heap.size∧c.w0.heap.size≤b)) (hsz:w.heap.size≤w'.heap.size)
 (hold:∀ b,b<c.w0.heap.size→¬ c.W0 b→w'.heap[b]?=w.heap[b]?)
 (hoo:w'.os=w.os∧w'.output=w.output:=by exact⟨rfl,rfl⟩):aE c F' β' ⟨s.fr,lv'⟩ a w':=by
 have hK:(Vw.mk F β s.lv w).iz (Vw.mk F' β' lv' w'):=Vw.iG hF hm hk hβ ha;refine⟨fun k=>hblk k hK,hinj,fun t=>hK.av (h.fr t),h.size,h.defers,?_,fun b hb=>hF b (h.F0 b hb),?_,Za h.ge hsz,?_,?_,fun b=>Za (h.Ht b) (ha b),⟨hoo.1.trans h.Et.1,hoo.2.trans h.Et.2⟩⟩
 ·intro b hb;rcases hFlt b hb with h1|⟨h1,h2⟩
  ·exact⟨ZS (h.mh b h1).1 hsz,(h.mh b h1).2⟩
  ·exact⟨h1,.inr h2⟩
 ·intro b h1 h2;rw [hold b h1 h2];exact h.old b h1 h2
 ·intro g cs hg;exact Rd.mono (gm hF hm) (h.pK g cs hg)
 ·intro k h0;rcases h.keep k h0 with h1|⟨h1,h2⟩
  ·left;have:=hk k;rw [h1] at this;exact LB.Lu this
  ·by_cases hd:lv' k=.dead
   ·exact .inl hd
   ·right;have hnh:s.lv k≠.hole:=fun e=>h0 (LB.JK (e ▸ h2))
    exact⟨(hβ k hnh hd).trans h1,LB.AF h2 (hk k) h0⟩
def aD(f:Nat→α) (k:Nat) (x:α):Nat→α:=fun t=>if t=k then x else f t
theorem az(f:Nat→α) (k:Nat) (x:α):aD f k x k=x:=by simp [aD]
theorem aC(f:Nat→α) {k t:Nat}(x:α) (h:t≠k):aD f k x t=f t:=by simp [aD,h]
theorem Jv (a:Act)(d t:Nat)(v:Value)(h:d<a.tmps.size) :
 (a.put (some d) v).tmps.getD t undef=if t=d then v else a.tmps.getD t undef:=by
 simp only [Act.put,ZA,aa9]
 by_cases e:d=t
 ·subst e;simp [h]
 ·have:¬ t=d:=fun h=>e h.symm
  simp [e,this]
theorem aE.put(h:aE c F β s a w) {d:Nat}(hd:d<c.n){x:AV}
 (hv:(Vw.mk F β s.lv w).av v x):aE c F β ⟨aD s.fr d x,s.lv⟩ (a.put (some d) v) w:=by
 refine⟨h.bx,h.inj,?_,by simp [Act.put,h.size],h.defers,h.mh,h.F0,h.old,h.ge,h.pK,h.keep,h.Ht,h.Et⟩;intro t;rw [Jv _ _ _ _ (by rw [h.size];exact hd)]
 by_cases e:t=d
 ·subst e;simp only [if_true];show (Vw.mk F β s.lv w).av v (aD s.fr t x t);rw [az];exact hv
 ·simp only [if_neg e];show (Vw.mk F β s.lv w).av _ (aD s.fr d x t);rw [aC _ _ e];exact h.fr t
def au.put (s:au)(dst:Option Nat)(x:AV):au:=
 match dst with
 | some d=>⟨aD s.fr d x,s.lv⟩
 | none=>s
theorem aE.AX(h:aE c F β s a w) {dst:Option Nat}(hd:∀ d,dst=some d→d<c.n){x:AV}
 (hv:(Vw.mk F β s.lv w).av v x):aE c F β (s.put dst x) (a.put dst v) w:=by
 cases dst with
 | none=>exact h
 | some d=>exact h.put (hd d rfl) hv
theorem aE.heap(h:aE c F β s a w) (hw:w'.heap=w.heap) (hoo:w'.os=w.os∧w'.output=w.output:=by exact⟨rfl,rfl⟩):aE c F β s a w':=by
 have:∀ b,cw w b≤cw w' b:=fun b=>by simp [cw,hw]
 have hk:∀ k,(s.lv k).sub (s.lv k):=fun k=>by cases e:s.lv k <;> simp [LB.sub]
 refine h.step (F':=F) (β':=β) (lv':=s.lv) (fun _ h=>h) (fun b _=>by rw [hw]) hk (fun _ _ _=>rfl) this
  (fun k hK=>Vw.bp (h.bx k) hK rfl rfl (by simp [hw]) (fun _ h=>h)) h.inj (fun b h=>.inl h) (by rw [hw];exact aW _) (fun b _ _=>by rw [hw]) hoo
theorem LB.bl (x:LB):x.sub x:=by cases x <;> simp [LB.sub]
theorem heap_alloc (w:World)(o:Obj)(b:Nat):(w.alloc o).heap[b]?=if b=w.heap.size then some o else w.heap[b]?:=by
 simp only [World.alloc,Array.getElem?_push]
theorem iJ (w:World)(o:Obj)(b:Nat):cw w b≤cw (w.alloc o) b:=by
 unfold cw;rw [heap_alloc]
 by_cases e:b=w.heap.size
 ·have:w.heap[b]?=none:=by rw [e];simp
  simp [this]
 ·simp [e]
theorem eG{b:Nat}{o:Obj}(h:w.heap[b]?=some o):b<w.heap.size:=
 (Array.getElem?_eq_some_iff.1 h).1
section
variable {c:Ctx}{F:Nat→Prop}{β:Key→Nat}{s:au}{a:Act}{w:World}
theorem aE.fO (h:aE c F β s a w)(hl:(s.lv k).live=true):β k<w.heap.size:=by
 have hb:=h.bx k;unfold Vw.bx at hb
 cases e:s.lv k with
 | cells own fz T cs=>simp only [e] at hb;obtain⟨arr,h1,_⟩:=hb;exact eG h1
 | map own es=>simp only [e] at hb;obtain⟨x,y,h1,_⟩:=hb;exact eG h1
 | hole=>simp [e,LB.live] at hl
 | dead=>simp [e,LB.live] at hl
 | bk=>simp [e,LB.live] at hl
theorem aE.mI (h:aE c F β s a w)(hl:(s.lv k).live=true):¬ F (β k):=by
 have hb:=h.bx k;unfold Vw.bx at hb
 cases e:s.lv k with
 | cells own fz T cs=>
  simp only [e] at hb hl;obtain⟨arr,h1,h2,h3,h4,h5⟩:=hb
  cases fz with
  | true=>simp [LB.live] at hl
  | false=>exact h4
 | map own es=>simp only [e] at hb;obtain⟨x,y,h1,h2,h3,h4,h5⟩:=hb;exact h4
 | hole=>simp [e,LB.live] at hl
 | dead=>simp [e,LB.live] at hl
 | bk=>simp [e,LB.live] at hl
theorem aE.eM (h:aE c F β s a w)(hl:(s.lv k).live=true):c.w0.heap.size≤β k∨c.W0 (β k):=by
 have hb:=h.bx k;unfold Vw.bx at hb
 have key:∀ own,eH c own (β k)→c.w0.heap.size≤β k∨c.W0 (β k):=by
  intro own ho;unfold eH at ho;cases own <;> simp at ho
  ·exact ho
  ·exact .inl ho
 cases e:s.lv k with
 | cells own fz T cs=>simp only [e] at hb;obtain⟨arr,h1,h2,h3,h4,h5⟩:=hb;exact key _ h5
 | map own es=>simp only [e] at hb;obtain⟨x,y,h1,h2,h3,h4,h5⟩:=hb;exact key _ h5
 | hole=>simp [e,LB.live] at hl
 | dead=>simp [e,LB.live] at hl
 | bk=>simp [e,LB.live] at hl
theorem aE.alloc (h:aE c F β s a w)(hκ:s.lv κ=.hole)(T:TypeId)(hl:cs.length≤arr.size)
 (hc:∀ i (h:i<cs.length) (h':i<arr.size),(Vw.mk F β s.lv w).cv arr[i] cs[i]) :
 aE c F (aD β κ w.heap.size) ⟨s.fr,aD s.lv κ (.cells true false T cs)⟩ a (w.alloc (.cells arr T)):=by
 have hnew:∀ b,F b→b≠w.heap.size:=fun b hb e=>by have:=(h.mh b hb).1;omega
 refine h.step (fun _ h=>h) (fun b hb=>by rw [heap_alloc,if_neg (hnew b hb)]) ?_ ?_ (iJ w _) ?_ ?_ (fun b h=>.inl h) (by simp) ?_
 ·intro k
  by_cases e:k=κ
  ·subst e;rw [hκ];simp [LB.sub]
  ·rw [aC _ _ e];exact LB.bl _
 ·intro k hk _;have e:k≠κ:=fun e=>hk (e ▸ hκ)
  exact aC _ _ e
 ·intro k hK
  by_cases e:k=κ
  ·subst e;simp only [Vw.bx,az];refine⟨arr,by rw [heap_alloc,if_pos rfl],hl,fun i x y=>hK.cv (hc i x y),?_,h.ge⟩;exact fun hf=>hnew _ hf rfl
  ·have hb:=h.bx k
   by_cases hcl:∃ own fz T' cs',s.lv k=.cells own fz T' cs'
   ·obtain⟨own,fz,T',cs',ek⟩:=hcl;refine Vw.bp hb hK (aC _ _ e) (aC _ _ e) ?_ (fun _ h=>h);unfold Vw.bx at hb;simp only [ek] at hb;obtain⟨arr',h1,_⟩:=hb;have:=eG h1;show (w.alloc _).heap[β k]?=_;rw [heap_alloc,if_neg (by omega)]
   ·by_cases hml:∃ own es,s.lv k=.map own es
    ·obtain⟨own,es,ek⟩:=hml;refine Vw.bp hb hK (aC _ _ e) (aC _ _ e) ?_ (fun _ h=>h);unfold Vw.bx at hb;simp only [ek] at hb;obtain⟨x,y,h1,_⟩:=hb;have:=eG h1;show (w.alloc _).heap[β k]?=_;rw [heap_alloc,if_neg (by omega)]
    ·unfold Vw.bx;simp only [aC _ _ e]
     cases ek:s.lv k with
     | cells own fz T cs=>exact absurd ⟨_,_,_,_,ek⟩ hcl
     | map own es=>exact absurd ⟨_,_,ek⟩ hml
     | hole=>trivial
     | dead=>trivial
     | bk=>trivial
 ·intro k k' hk hk' he
  by_cases e:k=κ <;> by_cases e':k'=κ
  ·rw [e,e']
  ·subst e;rw [aC _ _ e'] at hk';rw [az,aC _ _ e'] at he;have:=h.fO hk';omega
  ·subst e';rw [aC _ _ e] at hk;rw [az,aC _ _ e] at he;have:=h.fO hk;omega
  ·rw [aC _ _ e] at hk he;rw [aC _ _ e'] at hk' he;exact h.inj k k' hk hk' he
 ·intro b hb _;have:=h.ge;rw [heap_alloc,if_neg (by omega)]
theorem gh (w:World)(g:Nat)(old arr:Array Value)(T:TypeId)(fr:Nat × Nat)(hg:w.heap[g]?=some (.cells old T fr))(hs:arr.size=old.size)(b:Nat) :
 cw (w.setRow g arr) b=cw w b:=by
 unfold cw
 by_cases e:b=g
 ·subst e;rw [setRow_heap w b old arr T fr hg,hg];exact hs
 ·rw [setRow_other w g b arr e]
theorem aE.setRow (h:aE c F β s a w)(hk:s.lv k=.cells own false T cs) {old:Array Value}
 (hg:w.heap[β k]?=some (.cells old T (0,0))) (hs:arr.size=old.size) (hl:cs'.length≤arr.size)
 (hc:∀ i (h:i<cs'.length) (h':i<arr.size),(Vw.mk F β s.lv w).cv arr[i] cs'[i]) :
 aE c F β ⟨s.fr,aD s.lv k (.cells own false T cs')⟩ a (w.setRow (β k) arr):=by
 have hlive:(s.lv k).live=true:=by rw [hk];rfl
 have hnF:=h.mI hlive
 have hsub:∀ k',(s.lv k').sub (aD s.lv k (.cells own false T cs') k'):=by
  intro k'
  by_cases e:k'=k
  ·subst e;rw [hk,az];simp [LB.sub]
  ·rw [aC _ _ e];exact LB.bl _
 refine h.step (fun _ h=>h) (fun b hb=>setRow_other _ _ _ _ (fun e=>hnF (e ▸ hb))) hsub (fun _ _ _=>rfl)
  (fun b=>by rw [gh w (β k) old arr T (0,0) hg hs b];exact aW _) ?_ ?_ (fun b h=>.inl h) (by simp) ?_
 ·intro k' hK
  by_cases e:k'=k
  ·subst e;have hb:=h.bx k';unfold Vw.bx at hb ⊢;simp only [hk] at hb;simp only [az];obtain⟨arr',h1,h2,h3,h4,h5⟩:=hb;exact⟨arr,setRow_heap w _ old arr T (0,0) hg,hl,fun i x y=>hK.cv (hc i x y),h4,h5⟩
  ·have hne:(s.lv k').live=true→β k'≠β k:=fun hl' he=>e (h.inj _ _ hl' hlive he)
   have hb:=h.bx k'
   by_cases hlk:(s.lv k').live=true
   ·exact Vw.bp hb hK (aC _ _ e) rfl (setRow_other _ _ _ _ (hne hlk)) (fun _ h=>h)
   ·cases ek:s.lv k' with
    | cells own' fz T' cs''=>
     cases fz with
     | false=>rw [ek] at hlk;exact absurd rfl hlk
     | true=>
      refine Vw.bp hb hK (aC _ _ e) rfl (setRow_other _ _ _ _ ?_) (fun _ h=>h);unfold Vw.bx at hb;simp only [ek] at hb;obtain⟨x,h1,h2,h3,h4,h5⟩:=hb;exact fun he=>hnF (he ▸ h4)
    | map own es=>rw [ek] at hlk;exact absurd rfl hlk
    | hole=>unfold Vw.bx;simp only [aC _ _ e,ek]
    | dead=>unfold Vw.bx;simp only [aC _ _ e,ek]
    | bk=>unfold Vw.bx;simp only [aC _ _ e,ek]
 ·intro k1 k2 h1 h2 he
  have g:∀ k',(aD s.lv k (.cells own false T cs') k').live=true→(s.lv k').live=true:=by
   intro k' hk'
   by_cases e:k'=k
   ·subst e;exact hlive
   ·rwa [aC _ _ e] at hk'
  exact h.inj k1 k2 (g _ h1) (g _ h2) he
 ·intro b hb hW;refine setRow_other _ _ _ _ (fun e=>?_);rcases h.eM hlive with h1|h1
  ·omega
  ·exact hW (e ▸ h1)
theorem aE.kill (h:aE c F β s a w)(k:Key):aE c F β ⟨s.fr,aD s.lv k .dead⟩ a w:=by
 refine h.step (fun _ h=>h) (fun _ _=>rfl) ?_ (fun _ _ _=>rfl) (fun _=>aW _) ?_ ?_ (fun b h=>.inl h) (aW _) (fun _ _ _=>rfl)
 ·intro k'
  by_cases e:k'=k
  ·subst e;rw [az];cases s.lv k' <;> simp [LB.sub]
  ·rw [aC _ _ e];exact LB.bl _
 ·intro k' hK
  by_cases e:k'=k
  ·subst e;unfold Vw.bx;simp only [az]
  ·exact Vw.bp (h.bx k') hK (aC _ _ e) rfl rfl (fun _ h=>h)
 ·intro k1 k2 h1 h2 he
  have g:∀ k',(aD s.lv k .dead k').live=true→(s.lv k').live=true:=by
   intro k' hk'
   by_cases e:k'=k
   ·subst e;rw [az] at hk';simp [LB.live] at hk'
   ·rwa [aC _ _ e] at hk'
  exact h.inj k1 k2 (g _ h1) (g _ h2) he
theorem aE.move (h:aE c F β s a w)(hk:s.lv k=.cells own false T cs) (hκ:s.lv κ=.hole)
 (hg:w.heap[β k]?=some (.cells arr T (0,0))) (hl:cs'.length≤arr.size)
 (hc:∀ i (h:i<cs'.length) (h':i<arr.size),(Vw.mk F β s.lv w).cv arr[i] cs'[i]) :
 aE c F (aD β κ (β k)) ⟨s.fr,aD (aD s.lv k .dead) κ (.cells own false T cs')⟩ a w:=by
 have hlive:(s.lv k).live=true:=by rw [hk];rfl
 have hkκ:k≠κ:=fun e=>by rw [e,hκ] at hk;cases hk
 refine h.step (fun _ h=>h) (fun _ _=>rfl) ?_ ?_ (fun _=>aW _) ?_ ?_ (fun b h=>.inl h) (aW _) (fun _ _ _=>rfl)
 ·intro k'
  by_cases e:k'=κ
  ·subst e;rw [hκ];simp [LB.sub]
  ·rw [aC _ _ e]
   by_cases e':k'=k
   ·subst e';rw [az,hk];simp [LB.sub]
   ·rw [aC _ _ e'];exact LB.bl _
 ·intro k' hk' _;have e:k'≠κ:=fun e=>hk' (e ▸ hκ)
  exact aC _ _ e
 ·intro k' hK
  by_cases e:k'=κ
  ·subst e;have hb:=h.bx k;unfold Vw.bx at hb ⊢;simp only [hk] at hb;simp only [az];obtain⟨arr',h1,h2,h3,h4,h5⟩:=hb;exact⟨arr,hg,hl,fun i x y=>hK.cv (hc i x y),h4,h5⟩
  ·by_cases e':k'=k
   ·subst e';unfold Vw.bx;simp only [aC _ _ e,az]
   ·exact Vw.bp (h.bx k') hK (by show aD (aD s.lv k .dead) κ _ k'=s.lv k';rw [aC _ _ e,aC _ _ e']) (aC _ _ e) rfl (fun _ h=>h)
 ·have g:∀ k',k'≠κ→(aD (aD s.lv k .dead) κ (.cells own false T cs') k').live=true→(s.lv k').live=true∧k'≠k:=by
   intro k' e hk';rw [aC _ _ e] at hk'
   by_cases e':k'=k
   ·subst e';rw [az] at hk';simp [LB.live] at hk'
   ·rw [aC _ _ e'] at hk';exact⟨hk',e'⟩
  intro k1 k2 h1 h2 he
  by_cases e1:k1=κ <;> by_cases e2:k2=κ
  ·rw [e1,e2]
  ·have:=g k2 e2 h2;rw [e1,az,aC _ _ e2] at he;exact absurd (h.inj _ _ hlive this.1 he).symm this.2
  ·have:=g k1 e1 h1;rw [e2,az,aC _ _ e1] at he;exact absurd (h.inj _ _ this.1 hlive he) this.2
  ·rw [aC _ _ e1,aC _ _ e2] at he;exact h.inj _ _ (g k1 e1 h1).1 (g k2 e2 h2).1 he
theorem aE.freeze (h:aE c F β s a w)(hk:s.lv k=.cells true false T cs) :
 aE c (fun b=>F b∨b=β k) β ⟨s.fr,aD s.lv k (.cells true true T cs)⟩ a w:=by
 have hlive:(s.lv k).live=true:=by rw [hk];rfl
 have hlt:=h.fO hlive;have hb0:=h.bx k;unfold Vw.bx at hb0;simp only [hk] at hb0;obtain⟨arr,h1,h2,h3,h4,h5⟩:=hb0
 have g:∀ k',(aD s.lv k (.cells true true T cs) k').live=true→(s.lv k').live=true∧k'≠k:=by
  intro k' hk'
  by_cases e':k'=k
  ·subst e';rw [az] at hk';simp [LB.live] at hk'
  ·rw [aC _ _ e'] at hk';exact⟨hk',e'⟩
 refine h.step (fun _ h=>.inl h) (fun _ _=>rfl) ?_ (fun _ _ _=>rfl) (fun _=>aW _) ?_ ?_ ?_ (aW _) (fun _ _ _=>rfl)
 ·intro k'
  by_cases e:k'=k
  ·subst e;rw [az,hk];simp [LB.sub]
  ·rw [aC _ _ e];exact LB.bl _
 ·intro k' hK
  by_cases e:k'=k
  ·subst e;unfold Vw.bx;simp only [az];exact⟨arr,h1,h2,fun i x y=>hK.cv (h3 i x y),by simp,h5⟩
  ·refine Vw.bp (h.bx k') hK (aC _ _ e) rfl rfl (fun hl hf=>?_);rcases hf with hf|hf
   ·exact hf
   ·exact absurd (h.inj _ _ hl hlive hf) e
 ·intro k1 k2 a1 a2 he;exact h.inj _ _ (g _ a1).1 (g _ a2).1 he
 ·intro b hb;rcases hb with hb|hb
  ·exact .inl hb
  ·subst hb;exact .inr ⟨hlt,by simpa [eH] using h5⟩
end
def Fk:Value→CV
 | .bool b=>.d (.bool b)
 | .int k n=>if k.wrap n=n then .d (.int k n) else .junk
 | .string s=>if s.data.toList.length≤9223372036854775807 then .d (.str s.data.toList) else .junk
 | .pointer none=>.d .nilp
 | .slice none 0 0=>.d .nilsl
 | .nilIface=>.d .nilIface
 | .nilFunc=>.d .nilFunc
 | .map none=>.d .nilmap
 | _=>.junk
def qV (v:Value):AV:=
 match v with
 | .agg arr=>if arr.toList.all (·.oneCell') then .agg (arr.toList.map Fk) else .junk
 | .tuple _=>.junk
 | v=>.c (Fk v)
def au.val (G:List (List DV))(s:au):Operand→AV
 | .tmp t=>s.fr t
 | .const v=>qV v
 | .global g=>match G[g]? with|some cs=>.c (.d (.ptr cs))|none=>.junk
 | .func f=>.c (.d (.func (.func f) [] []))
theorem Lx (V:Vw)(v:Value)(h:v.oneCell'=true):V.cv v (Fk v):=by
 unfold Fk;split
 case h_1 b=>exact⟨.bool b,rfl⟩
 case h_2 k n=>split
               ·rename_i hw;exact⟨.int k n hw,rfl⟩
               ·exact h
 case h_3 s=>split
             ·rename_i hl;exact⟨.str s hl,rfl⟩
             ·exact h
 case h_4=>exact⟨.nilp,rfl⟩
 case h_5=>exact⟨.nilsl,rfl⟩
 case h_6=>exact⟨.nilIface,rfl⟩
 case h_7=>exact⟨.nilFunc,rfl⟩
 case h_8=>exact⟨.nilmap,rfl⟩
 case h_9=>exact h
theorem tN (V:Vw)(v:Value):V.av v (qV v):=by
 unfold qV;split
 case h_1 arr=>
  split
  ·rename_i h
   refine⟨arr,rfl,by simp,fun i x y=>?_⟩;simp only [sr,Zw];refine Lx V _ ?_;rw [YU] at h;exact h _ (by simp)
  ·trivial
 case h_2=>trivial
 case h_3 h1 h2=>
  refine Lx V v ?_
  cases v <;> first|rfl|exact absurd rfl (h1 _)|exact absurd rfl (h2 _)
section
variable {c:Ctx}{F:Nat→Prop}{β:Key→Nat}{s:au}{a:Act}{w:World}
theorem aE.val (h:aE c F β s a w)(x:Operand):(Vw.mk F β s.lv w).av (a.eval x) (s.val c.G x):=by
 cases x with
 | tmp t=>exact h.fr t
 | const v=>exact tN _ v
 | global g=>
  simp only [au.val];split
  ·rename_i cs hg;exact⟨h.pK g cs hg,rfl⟩
  ·trivial
 | func f=>exact⟨.func _ _ _ _ _ rfl rfl (fun i h=>absurd h (ZN i)) (fun i h=>absurd h (ZN i)),rfl⟩
def bP (c:Ctx)(o:Oper)(s s':au):Prop:=
 ∀ (F:Nat→Prop) (β:Key→Nat) (a:Act) (w:World) (K:Act→World→Prop) (Q:Exit→Act→World→Prop),aE c F β s a w →
  (∀ F' β' a' w',aE c F' β' s' a' w'→K a' w')→o.wp c.P a w K Q
theorem bP.eB{x:AV}(hd:∀ d,o.dst=some d→d<c.n)
 (h:∀ F β a w,aE c F β s a w→∃ v F' β' w',(execOp a.eval o).run c.P w=.ok (.value v) w'∧aE c F' β' ⟨s.fr,lv'⟩ a w'∧(Vw.mk F' β' lv' w').av v x) :
 bP c o s (au.put ⟨s.fr,lv'⟩ o.dst x):=by
 intro F β a w K Q hs hK;obtain⟨v,F',β',w',hr,hs',hv⟩:=h F β a w hs;unfold Oper.wp;rw [hr,Oper.upon_value];exact hK F' β' _ _ (hs'.AX hd hv)
theorem bP.aU{x:AV}(hd:∀ d,o.dst=some d→d<c.n)
 (h:∀ F β a w,aE c F β s a w→∃ v,(execOp a.eval o).run c.P w=.ok (.value v) w∧(Vw.mk F β s.lv w).av v x) :
 bP c o s (s.put o.dst x):=
 bP.eB (lv':=s.lv) hd fun F β a w hs=>let ⟨v,h1,h2⟩:=h F β a w hs;⟨v,F,β,w,h1,hs,h2⟩
theorem mU (V:Vw):V.av undef .undef:=rfl
theorem bP.GF(hd:∀ d,o.dst=some d→d<c.n)
 (h:∀ F β a w,aE c F β s a w→∃ F' β' w',(execOp a.eval o).run c.P w=.ok .skip w'∧aE c F' β' ⟨s.fr,lv'⟩ a w') :
 bP c o s (au.put ⟨s.fr,lv'⟩ o.dst .undef):=by
 intro F β a w K Q hs hK;obtain⟨F',β',w',hr,hs'⟩:=h F β a w hs;unfold Oper.wp;rw [hr,Oper.upon_skip];exact hK F' β' _ _ (hs'.AX hd (mU _))
theorem CJ(hd:∀ d,o.dst=some d→d<c.n) (ho:o.op=.move x∨o.op=.assign x):bP c o s (s.put o.dst (s.val c.G x)):=
 bP.aU hd fun F β a w hs=>⟨a.eval x,by rcases ho with ho|ho <;> simp [execOp,ho],hs.val x⟩
theorem DY{t:Operand}(hd:∀ d,o.dst=some d→d<c.n) (ho:o.op=.pick t x y) (ht:s.val c.G t=.c (.d (.bool b))) :
 bP c o s (s.put o.dst (if b then s.val c.G x else s.val c.G y)):=
 bP.aU hd fun F β a w hs=>by
  have h1:=hs.val t;rw [ht] at h1;obtain⟨h1,_⟩:=h1;generalize he:a.eval t=v at h1
  cases h1
  cases b with
  | true=>exact⟨a.eval x,by simp [execOp,ho,he,asBool],by simpa using hs.val x⟩
  | false=>exact⟨a.eval y,by simp [execOp,ho,he,asBool],by simpa using hs.val y⟩
theorem Vw.qp(h:V.av v (.c (.d (.bool b)))):v=.bool b:=by
 obtain⟨h,_⟩:=h;cases h;rfl
theorem Vw.fP{k:IntKind}(h:V.av v (.c (.d (.int k n)))):v=.int k n:=by
 obtain⟨h,_⟩:=h;cases h;rfl
theorem Vw.iR{l:List UInt8}(h:V.av v (.c (.d (.str l)))):v=.string ⟨l.toArray⟩:=by
 obtain⟨h,_⟩:=h;cases h;rfl
theorem Vw.jB (V:Vw)(k:IntKind)(n:Int)(hw:k.wrap n=n):V.av (.int k n) (.c (.d (.int k n))):=⟨.int k n hw,rfl⟩
theorem Vw.s6{k:IntKind}(h:V.av v (.c (.d (.int k n)))):k.wrap n=n:=by
 obtain⟨h,_⟩:=h;cases h;assumption
theorem Vw.Bb{l:List UInt8}(h:V.av v (.c (.d (.str l)))):l.length≤9223372036854775807:=by
 obtain⟨h,_⟩:=h;cases h;assumption
theorem Vw.m7 (V:Vw)(b:Bool):V.av (.bool b) (.c (.d (.bool b))):=⟨.bool b,rfl⟩
theorem Vw.uF (V:Vw)(l:List UInt8)(hl:l.length≤9223372036854775807):V.av (.string ⟨l.toArray⟩) (.c (.d (.str l))):=⟨by have:=Rd.str (M:=V.mem) ⟨l.toArray⟩ (by simpa using hl);simpa using this,rfl⟩
def kJ (op:BinOp)(k:IntKind)(x y:Int):Option DV:=
 match op with
 | .add=>some (.int k (k.wrap (x+y)))
 | .sub=>some (.int k (k.wrap (x - y)))
 | .mul=>some (.int k (k.wrap (x*y)))
 | .quo=>some (.int k (k.wrap (x.tdiv y)))
 | .rem=>some (.int k (x.tmod y))
 | .and=>some (.int k (k.wrap (BitVec.ofInt k.bits x &&& BitVec.ofInt k.bits y).toNat))
 | .or=>some (.int k (k.wrap (BitVec.ofInt k.bits x ||| BitVec.ofInt k.bits y).toNat))
 | .xor=>some (.int k (k.wrap (BitVec.ofInt k.bits x ^^^ BitVec.ofInt k.bits y).toNat))
 | .andNot=>some (.int k (k.wrap (BitVec.ofInt k.bits x &&& ~~~BitVec.ofInt k.bits y).toNat))
 | .eql=>some (.bool (x == y))
 | .neq=>some (.bool (x != y))
 | .lss=>some (.bool (decide (x<y)))
 | .leq=>some (.bool (decide (x≤y)))
 | .gtr=>some (.bool (decide (y<x)))
 | .geq=>some (.bool (decide (y≤x)))
 | _=>none
def eV (op:BinOp)(y:Int):Prop:=
 match op with
 | .quo|.rem=>y≠0
 | _=>True
def Rj (op:BinOp)(k:IntKind)(x y:Int):Option DV:=
 match op with
 | .shl=>some (.int k (k.wrap (x*2 ^ (min y.toNat k.bits))))
 | .shr=>some (.int k (x.fdiv (2 ^ (min y.toNat k.bits))))
 | _=>none
def DV.eW:DV→Value
 | .bool b=>.bool b
 | .int k n=>.int k n
 | .str l=>.string ⟨l.toArray⟩
 | _=>undef
def DV.uk:DV→Bool
 | .bool _|.int ..|.str _=>true
 | _=>false
def DV.T8:DV→Prop
 | .int k n=>k.wrap n=n
 | .str l=>l.length≤9223372036854775807
 | _=>True
theorem Vw.GH (V:Vw)(h:d.uk=true) (hr:d.T8):V.av d.eW (.c (.d d)):=by
 cases d <;> simp [DV.uk] at h
 ·exact V.m7 _
 ·exact V.jB _ _ hr
 ·exact V.uF _ hr
theorem KX{k:IntKind}(hr:kJ op k m n=some d) (hok:eV op n) (P:Program) (T:TypeId) (x y:Operand) (w:World) :
 (do eqGuard op T x y (.int k m) (.int k n);binOp op T (.int k m) (.int k n):Sem Value).run P w=.ok d.eW w:=by
 cases op <;> simp only [kJ,ai,reduceCtorEq] at hr <;> subst hr <;> simp only [eV] at hok <;>
  simp only [eqGuard,binOp,ne_eq,not_true_eq_false,if_false,if_true,Bool.not_true,Bool.not_false] <;>
  first
   | rfl
   | (simp only [Op.intDiv,if_neg hok];rfl)
theorem IJ{k:IntKind}(hr:kJ op k m n=some d):d.uk=true:=by
 cases op <;> simp only [kJ,ai,reduceCtorEq] at hr <;> subst hr <;> rfl
theorem Mr{k:IntKind}(hr:kJ op k m n=some d) (hm:k.wrap m=m):d.T8:=by
 cases op <;> simp only [kJ,ai,reduceCtorEq] at hr <;> subst hr <;> first|exact wrap_wrap _ _|exact HY hm|trivial
theorem J7{k:IntKind}(hd:∀ d,o.dst=some d→d<c.n) (ho:o.op=.binOp op T x y T')
 (hx:s.val c.G x=.c (.d (.int k m))) (hy:s.val c.G y=.c (.d (.int k n))) (hr:kJ op k m n=some d) (hok:eV op n) :
 bP c o s (s.put o.dst (.c (.d d))):=
 bP.aU hd fun F β a w hs=>by
  have h1:=Vw.fP (hx ▸ hs.val x);have h1':=Vw.s6 (hx ▸ hs.val x);have h2:=Vw.fP (hy ▸ hs.val y);refine⟨d.eW,?_,Vw.GH _ (IJ hr) (Mr hr h1')⟩;simp only [execOp,ho,h1,h2];rw [cK,KX hr hok];rfl
theorem G7{k:IntKind}(hd:∀ d,o.dst=some d→d<c.n) (ho:o.op=.binOp op T x y T')
 (hx:s.val c.G x=.c (.d (.int k m))) (hy:s.val c.G y=.c (.d (.int k' n))) (hr:Rj op k m n=some d) (hok:0≤n) :
 bP c o s (s.put o.dst (.c (.d d))):=
 bP.aU hd fun F β a w hs=>by
  have h1:=Vw.fP (hx ▸ hs.val x);have h1':=Vw.s6 (hx ▸ hs.val x);have h2:=Vw.fP (hy ▸ hs.val y);have h3:¬ n<0:=by omega
  cases op <;> simp only [Rj,ai,reduceCtorEq] at hr <;> subst hr
  ·exact⟨.int k (k.wrap (m*2 ^ (min n.toNat k.bits))),by simp [execOp,ho,h1,h2,eqGuard,binOp,Op.shift,h3],⟨.int _ _ (wrap_wrap _ _),rfl⟩⟩
  ·exact⟨.int k (m.fdiv (2 ^ (min n.toNat k.bits))),by simp [execOp,ho,h1,h2,eqGuard,binOp,Op.shift,h3],⟨.int _ _ (Io h1'),rfl⟩⟩
def Nq (op:BinOp)(x y:List UInt8):Option DV:=
 match op with
 | .add=>some (.str (x++y))
 | .eql=>some (.bool (x == y))
 | .neq=>some (.bool (!(x == y)))
 | .lss=>some (.bool (Op.bytesLess x y))
 | .leq=>some (.bool (Op.bytesLess x y || x == y))
 | .gtr=>some (.bool (!(Op.bytesLess x y || x == y)))
 | .geq=>some (.bool (!Op.bytesLess x y))
 | _=>none
def uE (op:BinOp)(x y:List UInt8):Prop:=
 match op with
 | .add=>x.length+y.length≤9223372036854775807
 | _=>True
theorem toList_mk (l:List UInt8):(ByteArray.mk l.toArray).toList=l:=by
 rw [ByteArray.toList_eq]
theorem Kl{m n:List UInt8}(hd:∀ d,o.dst=some d→d<c.n) (ho:o.op=.binOp op T x y T')
 (hx:s.val c.G x=.c (.d (.str m))) (hy:s.val c.G y=.c (.d (.str n))) (hr:Nq op m n=some d) (hok:uE op m n) :
 bP c o s (s.put o.dst (.c (.d d))):=
 bP.aU hd fun F β a w hs=>by
  have h1:=Vw.iR (hx ▸ hs.val x);have h2:=Vw.iR (hy ▸ hs.val y)
  cases op <;> simp only [Nq,ai,reduceCtorEq] at hr <;> subst hr <;> simp only [uE] at hok
  case add=>
   refine⟨.string ⟨(m++n).toArray⟩,?_,Vw.uF _ _ (by rw [YY];exact hok)⟩
   have h3:¬ ((((ByteArray.mk m.toArray).size+(ByteArray.mk n.toArray).size:Nat):Int) > IntKind.i64.max):=by
    rw [IntKind.max_i64];simp [ByteArray.size];omega
   have h4:(ByteArray.mk m.toArray++ByteArray.mk n.toArray)=ByteArray.mk (m++n).toArray:=by
    apply ByteArray.ext;simp
   simp only [execOp,ho,h1,h2,eqGuard,binOp,Op.stringOp,if_neg h3,h4];rfl
  all_goals
   refine⟨DV.eW (.bool _),?_,Vw.GH (d:=.bool _) _ rfl trivial⟩;simp only [execOp,ho,h1,h2,eqGuard,binOp,Op.stringOp,toList_mk];rfl
end
def gb (P:Program)(t:TypeId):Nat:=match P.info? t with|some i=>i.size|none=>0
def cR (P:Program)(t:TypeId):Option Bool:=
 match P.underlying t,P.info? t with
 | some (.struct _),some _|some (.array _ _),some _=>some true
 | some _,some _=>some false
 | _,_=>none
def cW (P:Program)(t:TypeId)(f:Nat):Option (Nat × TypeId):=
 match P.underlying t with
 | some (.struct fs)=>
  match fs[f]? with
  | some fd=>if (P.info? fd.type).isSome && gb P fd.type != 0 then some (fd.offset,fd.type) else none
  | none=>none
 | _=>none
def ff (P:Program)(t:TypeId):Option (TypeId × Nat):=
 match P.underlying t with
 | some (.slice e)=>if (P.info? e).isSome then some (e,gb P e) else none
 | _=>none
def qX (P:Program)(t:TypeId):Option (Nat × TypeId × Nat):=
 match P.underlying t with
 | some (.array n e)=>if (P.info? e).isSome then some (n,e,gb P e) else none
 | _=>none
theorem run_sizeOf(h:(P.info? t).isSome=true) (w:World):(sizeOf t).run P w=.ok (gb P t) w:=by
 obtain⟨i,hi⟩:=Option.isSome_iff_exists.1 h;simp [sizeOf,typeInfo,gb,hi]
theorem lR(h:cR P t=some b) (w:World):(isAgg t).run P w=.ok b w:=by
 unfold cR at h;unfold isAgg;split at h
 ·rename_i h1 h2;simp at h;subst h;simp [cK,run_underlying h1]
 ·rename_i h1 h2;simp at h;subst h;simp [cK,run_underlying h1]
 ·rename_i d i hns hna h1 h2
  simp at h;subst h;simp only [cK,run_underlying h1,rP];rfl
 ·cases h
def AV.cells:AV→Option (List CV)
 | .c x=>some [x]
 | .agg cs=>some cs
 | _=>none
theorem Vw.kA{x:AV}(h:V.av v x) (hc:x.cells=some cs) :
 v.cells.size=cs.length∧∀ i (h:i<cs.length) (h':i<v.cells.size),V.cv v.cells[i] cs[i]:=by
 cases x with
 | c x=>
  simp only [AV.cells,ai] at hc;subst hc;have ho:=Vw.eZ (V:=V) h;have hv:v.cells=#[v]:=by cases v <;> simp [Value.oneCell'] at ho <;> rfl
  refine⟨by rw [hv];rfl,fun i a b=>?_⟩;have:i=0:=by simp at a;exact a
  subst this;simp only [hv];exact h
 | agg l=>
  simp only [AV.cells,ai] at hc;subst hc;obtain⟨arr,rfl,h1,h2⟩:=h;exact⟨h1,h2⟩
 | tup l=>simp [AV.cells] at hc
 | undef=>simp [AV.cells] at hc
 | junk=>simp [AV.cells] at hc
section
variable {c:Ctx}{F:Nat→Prop}{β:Key→Nat}{s:au}{a:Act}{w:World}
theorem zM{w:World}{ad:Addr}(h:w.cell? ad=some v):(load ad).run P w=.ok v w:=by
 simp [load,Sem.run,h]
theorem gM {w:World}{b o:Nat}{fr:Nat × Nat}(h:w.heap[b]?=some (.cells arr T fr)) (ho:o<arr.size) :
 w.cell? ⟨b,o,none⟩=some arr[o]:=by
 rw [cell_of_row w b o arr T fr h];simp [ho]
def dQ (P:Program)(T:TypeId)(cs:List CV):Option AV:=
 match cR P T with
 | some true=>if gb P T≤cs.length then some (.agg (cs.take (gb P T))) else none
 | some false=>match cs with|x::_=>some (.c x)|[]=>none
 | none=>none
theorem vh(h:cR P t=some b):(P.info? t).isSome=true:=by
 unfold cR at h;split at h <;> first|(rename_i h2;simp [h2])|cases h
theorem qN{x:AV}(V:Vw) {b o:Nat}(hl:dQ P T cs=some x) (vs:Nat→Value)
 (hm:∀ i,i<cs.length→V.w.cell? ⟨b,o+i,none⟩=some (vs i)) (hr:∀ i (h:i<cs.length),V.cv (vs i) cs[i]) :
 ∃ v,(Instr.loadAt T (.pointer (some ⟨b,o,none⟩))).run P V.w=.ok v V.w∧V.av v x:=by
 unfold dQ at hl;split at hl
 ·rename_i hag
  split at hl
  ·rename_i hsz
   simp only [ai] at hl;subst hl;refine⟨.agg ((List.range (gb P T)).map vs).toArray,?_,?_⟩
   ·simp only [Instr.loadAt,Instr.sureAddr,loadVar,cK,Zi,rP,lR hag,if_true,run_sizeOf (vh hag)];rw [run_loadCells V.w ⟨b,o,none⟩ (gb P T) vs (fun j hj=>by rw [Z5];exact hm j (by omega))];simp
   ·refine⟨_,rfl,by simp;omega,fun i h h'=>?_⟩;simp only [aaH,sr,abJ,aaI];exact hr i (by simp at h;omega)
  ·cases hl
 ·rename_i hag
  split at hl
  ·rename_i y rest
   simp only [ai] at hl;subst hl;refine⟨vs 0,?_,hr 0 (by simp)⟩;simp only [Instr.loadAt,Instr.sureAddr,loadVar,cK,Zi,rP,lR hag];exact zM (hm 0 (by simp))
  ·cases hl
 ·cases hl
theorem FE{cs:List DV}{y:AV}(hd:∀ d,o.dst=some d→d<c.n) (ho:o.op=.load T x)
 (hx:s.val c.G x=.c (.d (.ptr cs))) (hl:dQ c.P T (cs.map CV.d)=some y):bP c o s (s.put o.dst y):=
 bP.aU hd fun F β a w hs=>by
  have h1:=hx ▸ hs.val x;obtain⟨h1,_⟩:=h1;generalize he:a.eval x=v at h1
  cases h1 with
  | ptr b off vs _ hm hone hr=>
   obtain⟨v,h2,h3⟩:=qN (P:=c.P) (T:=T) (Vw.mk F β s.lv w) (b:=b) (o:=off) hl vs (fun i hi=>(hm i (by simpa using hi)).2)
    (fun i hi=>by simp only [sr];exact⟨hr i (by simpa using hi),hone i (by simpa using hi)⟩)
   exact⟨v,by simp [execOp,ho,he,h2],h3⟩
theorem FO{y:AV}(hd:∀ d,o.dst=some d→d<c.n) (ho:o.op=.load T x)
 (hx:s.val c.G x=.c (.ptr k off)) (hk:s.lv k=.cells own fz T' cs) (hl:dQ c.P T (cs.drop off)=some y):bP c o s (s.put o.dst y):=
 bP.aU hd fun F β a w hs=>by
  have h1:=hx ▸ hs.val x;obtain⟨h1,_⟩:=h1;simp only [Vw.de,hk] at h1;have hb:=hs.bx k;unfold Vw.bx at hb;simp only [hk] at hb;obtain⟨arr,h2,h3,h4,_⟩:=hb
  obtain⟨v,h5,h6⟩:=qN (P:=c.P) (T:=T) (Vw.mk F β s.lv w) (b:=β k) (o:=off) hl (fun i=>arr.getD (off+i) undef)
   (fun i hi=>by
    have hi':off+i<arr.size:=by simp at hi;omega
    rw [gM h2 hi'];simp [Array.getD,hi'])
   (fun i hi=>by
    have hi':off+i<arr.size:=by simp at hi;omega
    simp only [Array.getD,hi',dite_true,ZZ];exact h4 (off+i) (by simp at hi;omega) hi')
  exact⟨v,by simp [execOp,ho,h1,h5],h6⟩
def aj(cs:List α) (off:Nat) (xs:List α):List α:=cs.take off++xs++cs.drop (off+xs.length)
theorem aO(cs:List α) (off:Nat) (xs:List α) (h:off+xs.length≤cs.length):(aj cs off xs).length=cs.length:=by
 simp [aj];omega
theorem dm(cs:List α) (off:Nat) (xs:List α) (h:off+xs.length≤cs.length) (i:Nat) (hi:i<(aj cs off xs).length) :
 (aj cs off xs)[i]=if h1:off≤i∧i<off+xs.length then xs[i - off] else cs[i]'(by rw [aO _ _ _ h] at hi;exact hi):=by
 have hi':=hi;rw [aO _ _ _ h] at hi';have hto:(cs.take off).length=off:=by simp;omega
 by_cases h1:i<off
 ·rw [dif_neg (by omega)];simp only [aj,YZ];rw [ZB (by omega),aaI]
 ·by_cases h2:i<off+xs.length
  ·rw [dif_pos ⟨by omega,h2⟩];simp only [aj,YZ];rw [ZI (by omega),ZB (by omega)];simp only [hto]
  ·rw [dif_neg (by omega)];simp only [aj,YZ];rw [ZI (by omega),ZI (by omega),ZZ];congr 1;omega
theorem H7(hd:∀ d,o.dst=some d→d<c.n) (ho:o.op=.store T x y)
 (hx:s.val c.G x=.c (.ptr k off)) (hk:s.lv k=.cells own false T' cs) (hy:(s.val c.G y).cells=some xs) (hi:(c.P.info? T).isSome=true)
 (hsz:xs.length=gb c.P T) (hoff:off+xs.length≤cs.length) :
 bP c o s (au.put ⟨s.fr,aD s.lv k (.cells own false T' (aj cs off xs))⟩ o.dst .undef):=
 bP.GF hd fun F β a w hs=>by
  have h1:=hx ▸ hs.val x;obtain⟨h1,_⟩:=h1;simp only [Vw.de,hk] at h1;have hb:=hs.bx k;unfold Vw.bx at hb;simp only [hk] at hb;obtain⟨arr,h2,h3,h4,_⟩:=hb;obtain⟨h5,h6⟩:=Vw.kA (hs.val y) hy;obtain⟨v,hv⟩:∃ v,a.eval y=v:=⟨_,rfl⟩
  rw [hv] at h5 h6
  have hone:∀ u∈v.cells.toList,u.oneCell'=true:=by
   intro u hu;obtain⟨i,hi1,rfl⟩:=List.mem_iff_getElem.1 hu;have:=h6 i (by simp at hi1;omega) (by simpa using hi1);exact Vw.eZ this
  have hl5:v.cells.toList.length=xs.length:=by simpa using h5
  have hst:=run_storeCells_at c.P (β k) off T' v.cells.toList 0 arr w h2 (by omega) hone;simp only [ZT] at hst;have hset:arr.toList.take off++v.cells.toList++arr.toList.drop (off+v.cells.toList.length)=aj arr.toList off v.cells.toList:=rfl;have hle:off+v.cells.toList.length≤arr.toList.length:=by simp only [aaR];omega
  refine⟨F,β,_,?_,hs.setRow (arr:=(aj arr.toList off v.cells.toList).toArray) hk h2 (by simp [aO _ _ _ hle]) (by rw [aO _ _ _ hoff];simp [aO _ _ _ hle];omega) ?_⟩
  ·simp only [execOp,ho,h1,hv,Instr.storeAt,Instr.sureAddr,storeVar,cK,Zi,rP,run_sizeOf hi];rw [if_neg (by rw [h5,hsz];simp)];simp only [rP,hst];rfl
  ·intro i p q;simp only [aaH];rw [dm _ _ _ hle i (by simpa using q),dm _ _ _ hoff i p]
   by_cases hin:off≤i∧i<off+xs.length
   ·rw [dif_pos (by rw [hl5];exact hin),dif_pos hin];simp only [Zw];exact h6 _ _ _
   ·rw [dif_neg (by rw [hl5];exact hin),dif_neg hin];simp only [Zw];exact h4 _ _ _
theorem OF(hd:∀ d,o.dst=some d→d<c.n) (ho:o.op=.box T x)
 (hκ:s.lv κ=.hole) (hx:(s.val c.G x).cells=some xs) :
 bP c o s (au.put ⟨s.fr,aD s.lv κ (.cells true false T xs)⟩ o.dst (.c (.ptr κ 0))):=
 bP.eB hd fun F β a w hs=>by
  obtain⟨h5,h6⟩:=Vw.kA (hs.val x) hx;refine⟨.pointer (some ⟨w.heap.size,0,none⟩),F,aD β κ w.heap.size,w.alloc (.cells (a.eval x).cells T),?_,hs.alloc hκ T (by omega) h6,?_⟩
  ·simp [execOp,ho,Instr.box,newVar,newRow]
  ·refine⟨?_,rfl⟩;simp [Vw.de,az]
theorem Il(hd:∀ d,o.dst=some d→d<c.n) (ho:o.op=.alloc T)
 (hκ:s.lv κ=.hole) (hz:(c.P.info? T).bind (·.zero)=some z) (hx:(qV z).cells=some xs) :
 bP c o s (au.put ⟨s.fr,aD s.lv κ (.cells true false T xs)⟩ o.dst (.c (.ptr κ 0))):=
 bP.eB hd fun F β a w hs=>by
  obtain⟨i,hi,hz⟩:=Option.bind_eq_some_iff.1 hz;obtain⟨h5,h6⟩:=Vw.kA (tN (Vw.mk F β s.lv w) z) hx;refine⟨.pointer (some ⟨w.heap.size,0,none⟩),F,aD β κ w.heap.size,w.alloc (.cells z.cells T),?_,hs.alloc hκ T (by omega) h6,?_⟩
  ·simp [execOp,ho,Instr.alloc,zeroValue,typeInfo,hi,hz,newVar,newRow]
  ·refine⟨?_,rfl⟩;simp [Vw.de,az]
end
section
variable {c:Ctx}{F:Nat→Prop}{β:Key→Nat}{s:au}{a:Act}{w:World}
theorem Rd.EA{cs:List DV}(h:Rd M v (.ptr cs)) (n:Nat) (hn:n≤cs.length) :
 ∃ b o,v=.pointer (some ⟨b,o,none⟩)∧Rd M (.pointer (some ⟨b,o+n,none⟩)) (.ptr (cs.drop n)):=by
 cases h with
 | ptr b off vs _ hm ho hr=>
  refine⟨b,off,rfl,.ptr b (off+n) (fun i=>vs (n+i)) _ (fun i hi=>?_) (fun i hi=>ho _ (by simp at hi;omega)) (fun i hi=>?_)⟩
  ·have:=hm (n+i) (by simp at hi;omega)
   rwa [← ZC] at this
  ·simp only [ZZ];exact hr (n+i) (by simp at hi;omega)
theorem u9{f:Nat}(h:cW P T f=some (off,ft)) (b o:Nat) (w:World) :
 (Instr.fieldAt T (.pointer (some ⟨b,o,none⟩)) f).run P w=.ok (.pointer (some ⟨b,o+off,none⟩)) w:=by
 unfold cW at h;split at h
 ·rename_i fs hu
  split at h
  ·rename_i fd hf
   split at h
   ·rename_i hc
    simp only [ai,fy] at h;obtain⟨rfl,rfl⟩:=h;rw [cy,bne_iff_ne] at hc;simp only [Instr.fieldAt,cK,run_underlying hu,rP,hf,Instr.sureAddr,Zi,fieldPlace,run_sizeOf hc.1,if_neg hc.2];rw [Z5]
   ·cases h
  ·cases h
 ·cases h
theorem wA{f:Nat}{cs:List DV}(hd:∀ d,o.dst=some d→d<c.n) (ho:o.op=.fieldAddr T x f)
 (hx:s.val c.G x=.c (.d (.ptr cs))) (hf:cW c.P T f=some (off,ft)) (hoff:off≤cs.length):bP c o s (s.put o.dst (.c (.d (.ptr (cs.drop off))))):=
 bP.aU hd fun F β a w hs=>by
  have h1:=hx ▸ hs.val x;obtain⟨h1,_⟩:=h1;obtain⟨b,o',h2,h3⟩:=Rd.EA h1 off hoff;exact⟨_,by simp only [execOp,ho,h2,cK,u9 hf,rP];rfl,h3,rfl⟩
theorem wm{f n:Nat}(hd:∀ d,o.dst=some d→d<c.n) (ho:o.op=.fieldAddr T x f)
 (hx:s.val c.G x=.c (.ptr k n)) (hk:s.lv k=.cells own fz T' cs) (hf:cW c.P T f=some (off,ft)):bP c o s (s.put o.dst (.c (.ptr k (n+off)))):=
 bP.aU hd fun F β a w hs=>by
  have h1:=hx ▸ hs.val x;obtain⟨h1,_⟩:=h1;simp only [Vw.de,hk] at h1;refine⟨_,by simp only [execOp,ho,h1,cK,u9 hf,rP];rfl,?_,rfl⟩;simp only [Vw.de,hk]
theorem sE{y:CV}(hd:∀ d,o.dst=some d→d<c.n) (ho:o.op=.nilCheck x) (hx:s.val c.G x=.c y)
 (hy:∀ F β a w,aE c F β s a w→∃ ad,a.eval x=.pointer (some ad)):bP c o s (s.put o.dst (.c y)):=
 bP.aU hd fun F β a w hs=>by
  obtain⟨ad,h⟩:=hy F β a w hs;exact⟨.pointer (some ad),by simp [execOp,ho,h],by rw [← h,← hx];exact hs.val x⟩
theorem yB{cs:List DV}(hd:∀ d,o.dst=some d→d<c.n) (ho:o.op=.nilCheck x) (hx:s.val c.G x=.c (.d (.ptr cs))) :
 bP c o s (s.put o.dst (.c (.d (.ptr cs)))):=
 sE hd ho hx fun F β a w hs=>by
  have h1:=hx ▸ hs.val x;obtain⟨h1,_⟩:=h1;generalize a.eval x=v at h1
  cases h1;exact⟨_,rfl⟩
theorem x9{n:Nat}(hd:∀ d,o.dst=some d→d<c.n) (ho:o.op=.nilCheck x)
 (hx:s.val c.G x=.c (.ptr k n)) (hk:s.lv k=.cells own fz T' cs):bP c o s (s.put o.dst (.c (.ptr k n))):=
 sE hd ho hx fun F β a w hs=>by
  have h1:=hx ▸ hs.val x;obtain⟨h1,_⟩:=h1;simp only [Vw.de,hk] at h1;exact⟨_,h1⟩
theorem xO{fs cs:List DV}(hd:∀ d,o.dst=some d→d<c.n) (ho:o.op=.nilCheck x)
 (hx:s.val c.G x=.c (.d (.func fn fs cs))) (hn:∀ m,fn≠.method m):bP c o s (s.put o.dst (.c (.d (.func fn fs cs)))):=
 bP.aU hd fun F β a w hs=>by
  have h0:=hs.val x;have h1:=hx ▸ h0;obtain⟨h1,_⟩:=h1;obtain⟨v,he⟩:∃ v,a.eval x=v:=⟨_,rfl⟩
  rw [he] at h1;refine⟨v,?_,by rw [← he,← hx];exact h0⟩
  cases h1 with
  | func _ fs cs _ _ _ _ _ _=>cases fn <;> simp [execOp,ho,he] <;> exact absurd rfl (hn _)
theorem vz{fs cs:List Ref}(hd:∀ d,o.dst=some d→d<c.n) (ho:o.op=.nilCheck x)
 (hx:s.val c.G x=.c (.func fn fs cs)) (hn:∀ m,fn≠.method m):bP c o s (s.put o.dst (.c (.func fn fs cs))):=
 bP.aU hd fun F β a w hs=>by
  have h0:=hs.val x;have h1:=hx ▸ h0;obtain⟨fs',cs',he,_⟩:=h1;refine⟨_,?_,by rw [← hx];exact h0⟩;rw [he]
  cases fn <;> simp [execOp,ho,he] <;> exact absurd rfl (hn _)
theorem Df{i:Nat}{l:List AV}{y:AV}(hd:∀ d,o.dst=some d→d<c.n) (ho:o.op=.extract x i)
 (hx:s.val c.G x=.tup l) (hi:l[i]?=some y) (hy:∀ l',y≠.tup l'):bP c o s (s.put o.dst y):=
 bP.aU hd fun F β a w hs=>by
  have h1:=hx ▸ hs.val x;obtain⟨arr,h2,h3,h4⟩:=h1;obtain⟨hlt,rfl⟩:=List.getElem?_eq_some_iff.1 hi;have hlt':i<arr.size:=by omega
  refine⟨arr[i],by simp [execOp,ho,h2,Instr.extract,hlt'],?_⟩;have:=h4 i hlt hlt'
  cases e:l[i] with
  | tup l'=>exact absurd e (hy l')
  | c x=>rw [e] at this;exact this
  | agg x=>rw [e] at this;exact this
  | undef=>rw [e] at this;exact this
  | junk=>trivial
def nw (P:Program)(T:TypeId)(cs:List CV)(off:Nat):Option AV:=
 match cR P T with
 | some true=>if off+gb P T≤cs.length then some (.agg ((cs.drop off).take (gb P T))) else none
 | some false=>(cs[off]?).map .c
 | none=>none
theorem sK{y:AV}(V:Vw) (h:nw P T cs off=some y) (arr:Array Value) (hs:arr.size=cs.length)
 (hr:∀ i (h:i<cs.length) (h':i<arr.size),V.cv arr[i] cs[i]):∃ v,(part T arr off).run P V.w=.ok v V.w∧V.av v y:=by
 unfold nw at h;split at h
 ·rename_i hag
  split at h
  ·rename_i hsz
   simp only [ai] at h;subst h;refine⟨.agg (arr.extract off (off+gb P T)),by simp [part,cK,lR hag,run_sizeOf (vh hag)],_,rfl,by simp;omega,fun i p q=>?_⟩;simp only [Array.getElem_extract,aaI,ZZ];exact hr _ _ _
  ·cases h
 ·rename_i hag
  cases e:cs[off]? with
  | none=>rw [e] at h;cases h
  | some x=>
   rw [e] at h;simp only [Zb,ai] at h;subst h;obtain⟨hlt,rfl⟩:=List.getElem?_eq_some_iff.1 e;have hlt':off<arr.size:=by omega
   exact⟨arr[off],by simp [part,cK,lR hag,hlt'],hr _ _ _⟩
 ·cases h
theorem IX{f:Nat}{y:AV}(hd:∀ d,o.dst=some d→d<c.n) (ho:o.op=.field T x f)
 (hx:s.val c.G x=.agg cs) (hf:cW c.P T f=some (off,ft)) (hp:nw c.P ft cs off=some y):bP c o s (s.put o.dst y):=
 bP.aU hd fun F β a w hs=>by
  have h1:=hx ▸ hs.val x;obtain⟨arr,h2,h3,h4⟩:=h1;obtain⟨v,h5,h6⟩:=sK (Vw.mk F β s.lv w) hp arr h3 h4;refine⟨v,?_,h6⟩;unfold cW at hf;split at hf
  ·rename_i fs hu
   split at hf
   ·rename_i fd hfd
    split at hf
    ·simp only [ai,fy] at hf;obtain⟨rfl,rfl⟩:=hf;simp only [execOp,ho,h2,Instr.field,cK,run_underlying hu,rP,hfd,asAgg,Zi,h5]
    ·cases hf
   ·cases hf
  ·cases hf
end
section
variable {c:Ctx}{F:Nat→Prop}{β:Key→Nat}{s:au}{a:Act}{w:World}
theorem dL(h:ff P T=some (e,sz)):P.underlying T=some (.slice e)∧(P.info? e).isSome=true∧gb P e=sz:=by
 unfold ff at h;split at h
 ·rename_i hu
  split at h
  ·rename_i hi;simp only [ai,fy] at h;obtain⟨rfl,rfl⟩:=h;exact⟨hu,hi,rfl⟩
  ·cases h
 ·cases h
theorem yU{n:Nat}(h:qX P T=some (n,e,sz)):P.underlying T=some (.array n e)∧(P.info? e).isSome=true∧gb P e=sz:=by
 unfold qX at h;split at h
 ·rename_i hu
  split at h
  ·rename_i hi;simp only [ai,fy] at h;obtain⟨rfl,rfl,rfl⟩:=h;exact⟨hu,hi,rfl⟩
  ·cases h
 ·cases h
theorem run_indexAt_slice(h:ff P T=some (e,sz)) (b o len cap:Nat) (k:IntKind) (n:Int) (h0:0≤n) (h1:n<len) (w:World) :
 (Instr.indexAt T (.slice (some ⟨b,o,none⟩) len cap) (.int k n)).run P w=.ok (.pointer (some ⟨b,o+n.toNat*sz,none⟩)) w:=by
 obtain⟨hu,hi,hs⟩:=dL h;simp [Instr.indexAt,asIntOf,run_underlying hu,h0,h1,run_sizeOf hi,hs,Z5]
theorem run_indexAt_array(h:qX P T=some (len,e,sz)) (b o:Nat) (k:IntKind) (n:Int) (h0:0≤n) (h1:n<len) (w:World) :
 (Instr.indexAt T (.pointer (some ⟨b,o,none⟩)) (.int k n)).run P w=.ok (.pointer (some ⟨b,o+n.toNat*sz,none⟩)) w:=by
 obtain⟨hu,hi,hs⟩:=yU h;simp [Instr.indexAt,asIntOf,run_underlying hu,Instr.sureAddr,h0,h1,run_sizeOf hi,hs,Z5]
theorem Rd.Cq(h:Rd M v (.sl es)):∃ b o cap,v=.slice (some ⟨b,o,none⟩) es.length cap∧es.length≤cap ∧
 ∀ i (hi:i<es.length),Rd M (.pointer (some ⟨b,o+i*es[i].length,none⟩)) (.ptr es[i]):=by
 cases h with
 | sl b off cap sz _ vs hl hc hb hm ho hr=>
  refine⟨b,off,cap,rfl,hc,fun i hi=>?_⟩;have hlen:es[i].length=sz:=hl _ (cq hi);exact .ptr b _ (vs i) _ (fun j hj=>by rw [hlen];exact hm i hi j (by omega)) (fun j hj=>ho i hi j (by omega)) (fun j hj=>hr i hi j hj)
theorem vF{k:IntKind}{cs:List DV}(hd:∀ d,o.dst=some d→d<c.n) (ho:o.op=.indexAddr T x ix)
 (hx:s.val c.G x=.c (.d (.sl es))) (hi:s.val c.G ix=.c (.d (.int k n))) (hT:ff c.P T=some (e,sz)) (h0:0≤n) (hcs:es[n.toNat]?=some cs) (hsz:cs.length=sz) :
 bP c o s (s.put o.dst (.c (.d (.ptr cs)))):=
 bP.aU hd fun F β a w hs=>by
  have h1:=hx ▸ hs.val x;obtain⟨h1,_⟩:=h1;have h2:=Vw.fP (hi ▸ hs.val ix);obtain⟨b,o',cap,h3,h4,h5⟩:=h1.Cq;obtain⟨hlt,rfl⟩:=List.getElem?_eq_some_iff.1 hcs;have h6:=h5 n.toNat hlt;rw [hsz] at h6;have hb:n<(es.length:Int):=by omega
  exact⟨_,by simp only [execOp,ho,h2,h3,cK,run_indexAt_slice hT _ _ _ _ _ _ h0 hb,rP];rfl,h6,rfl⟩
theorem vL{k:IntKind}(hd:∀ d,o.dst=some d→d<c.n) (ho:o.op=.indexAddr T x ix)
 (hx:s.val c.G x=.c (.aI κ off len sz)) (hk:s.lv κ=.cells own fz T' cs) (hi:s.val c.G ix=.c (.d (.int k n))) (hT:ff c.P T=some (e,sz)) (h0:0≤n) (h1':n<len) :
 bP c o s (s.put o.dst (.c (.ptr κ (off+n.toNat*sz)))):=
 bP.aU hd fun F β a w hs=>by
  have h1:=hx ▸ hs.val x;obtain⟨h1,_⟩:=h1;simp only [Vw.cB,hk] at h1;obtain⟨cap,h3,_⟩:=h1;have h2:=Vw.fP (hi ▸ hs.val ix);refine⟨_,by simp only [execOp,ho,h2,h3,cK,run_indexAt_slice hT _ _ _ _ _ _ h0 h1',rP];rfl,?_,rfl⟩;simp only [Vw.de,hk]
theorem uI{cs:List DV}{k:IntKind}(hd:∀ d,o.dst=some d→d<c.n) (ho:o.op=.indexAddr T x ix)
 (hx:s.val c.G x=.c (.d (.ptr cs))) (hi:s.val c.G ix=.c (.d (.int k n))) (hT:qX c.P T=some (len,e,sz)) (h0:0≤n) (h1':n<len) (hl:n.toNat*sz≤cs.length) :
 bP c o s (s.put o.dst (.c (.d (.ptr (cs.drop (n.toNat*sz)))))):=
 bP.aU hd fun F β a w hs=>by
  have h1:=hx ▸ hs.val x;obtain⟨h1,_⟩:=h1;have h2:=Vw.fP (hi ▸ hs.val ix);obtain⟨b,o',h3,h4⟩:=Rd.EA h1 (n.toNat*sz) hl;exact⟨_,by simp only [execOp,ho,h2,h3,cK,run_indexAt_array hT _ _ _ _ h0 h1',rP];rfl,h4,rfl⟩
theorem tI{k:IntKind}(hd:∀ d,o.dst=some d→d<c.n) (ho:o.op=.indexAddr T x ix)
 (hx:s.val c.G x=.c (.ptr κ off)) (hk:s.lv κ=.cells own fz T' cs) (hi:s.val c.G ix=.c (.d (.int k n))) (hT:qX c.P T=some (len,e,sz)) (h0:0≤n) (h1':n<len) :
 bP c o s (s.put o.dst (.c (.ptr κ (off+n.toNat*sz)))):=
 bP.aU hd fun F β a w hs=>by
  have h1:=hx ▸ hs.val x;obtain⟨h1,_⟩:=h1;simp only [Vw.de,hk] at h1;have h2:=Vw.fP (hi ▸ hs.val ix);refine⟨_,by simp only [execOp,ho,h1,h2,cK,run_indexAt_array hT _ _ _ _ h0 h1',rP];rfl,?_,rfl⟩;simp only [Vw.de,hk]
theorem zO{l:List UInt8}{k:IntKind}{b:UInt8}(hd:∀ d,o.dst=some d→d<c.n) (ho:o.op=.index T x ix)
 (hx:s.val c.G x=.c (.d (.str l))) (hi:s.val c.G ix=.c (.d (.int k n))) (hT:c.P.underlying T=some .string) (h0:0≤n) (hb:l[n.toNat]?=some b) :
 bP c o s (s.put o.dst (.c (.d (.int .u8 b.toNat)))):=
 bP.aU hd fun F β a w hs=>by
  have h1:=Vw.iR (hx ▸ hs.val x);have h2:=Vw.fP (hi ▸ hs.val ix);obtain⟨hlt,rfl⟩:=List.getElem?_eq_some_iff.1 hb;refine⟨.int .u8 (l[n.toNat]).toNat,?_,Vw.jB _ _ _ (c9 ⟨by simp only [CF];omega,by have:=(l[n.toNat]).toNat_lt;simp only [qd];omega⟩)⟩
  have h3:(ByteArray.mk l.toArray)[n.toNat]?=some l[n.toNat]:=by
   have:n.toNat<(ByteArray.mk l.toArray).size:=by simpa [ByteArray.size] using hlt
   rw [getElem?_pos (ByteArray.mk l.toArray) n.toNat this];rfl
  simp only [execOp,ho,h1,h2,Instr.index,cK,asIntOf,Zi,rP,run_underlying hT,if_pos h0,h3]
theorem zG{k:IntKind}{y:AV}(hd:∀ d,o.dst=some d→d<c.n) (ho:o.op=.index T x ix)
 (hx:s.val c.G x=.agg cs) (hi:s.val c.G ix=.c (.d (.int k n))) (hT:qX c.P T=some (len,e,sz)) (h0:0≤n) (h1':n<len) (hp:nw c.P e cs (n.toNat*sz)=some y) :
 bP c o s (s.put o.dst y):=
 bP.aU hd fun F β a w hs=>by
  have h1:=hx ▸ hs.val x;obtain⟨arr,h2,h3,h4⟩:=h1;have h5:=Vw.fP (hi ▸ hs.val ix);obtain⟨hu,hin,hsz⟩:=yU hT;obtain⟨v,h6,h7⟩:=sK (Vw.mk F β s.lv w) hp arr h3 h4;refine⟨v,?_,h7⟩;simp only [execOp,ho,h2,h5,Instr.index,cK,asIntOf,Zi,rP,run_underlying hu,if_pos (And.intro h0 h1'),run_sizeOf hin,hsz,h6]
def dc:Option AV→Int→Option Int
 | none,n=>some n
 | some (.c (.d (.int _ m))),_=>some m
 | _,_=>none
theorem gS{k:IntKind}{y:Nat}{code:BoundsCode}(h0:0≤n) (h1:n≤y) (w:World) :
 (Instr.sliceBound (.int k n) y code).run P w=.ok n.toNat w:=by
 simp [Instr.sliceBound,asIntOf,h0,h1]
theorem gU{isSlice:Bool}{lo hi:Option Value}
 (hlo:lo=none∧l=0∨∃ k,lo=some (.int k l)) (hhi:hi=none∧h=len∨∃ k,hi=some (.int k h)) (h0:0≤l) (h1:l≤h) (h2:h≤cap) (w:World) :
 (Instr.sliceBounds isSlice len cap lo hi none).run P w=.ok (l.toNat,h.toNat,cap) w:=by
 rcases hlo with ⟨rfl,rfl⟩|⟨k,rfl⟩ <;> rcases hhi with ⟨rfl,rfl⟩|⟨k',rfl⟩ <;>
  simp [Instr.sliceBounds]
 ·rw [gS (by omega) h2];simp
 ·rw [gS h0 h1];simp
 ·rw [gS (by omega) h2];simp only [rP];rw [gS h0 (by omega)];simp
theorem gJ{a:Act}{val:Operand→AV}(hval:∀ x,V.av (a.eval x) (val x)) (h:dc (lo.map val) n=some l) :
 lo.map a.eval=none∧l=n∨∃ k,lo.map a.eval=some (.int k l):=by
 cases lo with
 | none=>simp [dc] at h;exact .inl ⟨rfl,h.symm⟩
 | some x=>
  right;simp only [Zb] at h ⊢;have hv:=hval x;unfold dc at h;split at h
  ·rename_i e;cases e
  ·rename_i k m e
   simp only [ai] at e h;subst h;rw [e] at hv;exact⟨k,by rw [Vw.fP hv]⟩
  ·cases h
theorem extract_mk (bs:List UInt8)(a b:Nat):(ByteArray.mk bs.toArray).extract a b=⟨((bs.take b).drop a).toArray⟩:=by
 apply ByteArray.ext;apply Array.toList_inj.1;have:=Lib.extract_data (ByteArray.mk bs.toArray) a b;rw [this];simp [List.drop_take]
theorem zR{bs:List UInt8}(hd:∀ d,o.dst=some d→d<c.n) (ho:o.op=.slice T x lo hi none)
 (hx:s.val c.G x=.c (.d (.str bs))) (hT:c.P.underlying T=some .string) (hlo:dc (lo.map (s.val c.G)) 0=some l) (hhi:dc (hi.map (s.val c.G)) bs.length=some h)
 (h0:0≤l) (h1:l≤h) (h2:h≤bs.length):bP c o s (s.put o.dst (.c (.d (.str ((bs.take h.toNat).drop l.toNat))))):=
 bP.aU hd fun F β a w hs=>by
  have e1:=Vw.iR (hx ▸ hs.val x);have e1':=Vw.Bb (hx ▸ hs.val x);have b1:=gJ hs.val hlo;have b2:=gJ hs.val hhi;refine⟨.string ⟨((bs.take h.toNat).drop l.toNat).toArray⟩,?_,Vw.uF _ _ (by simp;omega)⟩;have hsize:(ByteArray.mk bs.toArray).size=bs.length:=by simp [ByteArray.size]
  simp only [execOp,ho,e1,Instr.sliceAt,cK,run_underlying hT,rP,Instr.slice,aaS,Option.isSome_none,Y2,if_false];rw [gU (l:=l) (h:=h) (by simpa using b1) (by rw [hsize];exact b2) h0 h1 (by rw [hsize];exact h2)];simp only [rP,Zi,extract_mk]
theorem Rd.A7{b o:Nat}(h:Rd M (.slice (some ⟨b,o,none⟩) len cap) (.sl es))(hsz:∀ e∈es,e.length=sz)
 {l h':Nat}(h1:l≤h') (h2:h'≤es.length) (b':Nat) (o':Nat) (hb:l<h'→b'=b∧o'=o+l*sz) (cap':Nat) (hc:h' - l≤cap') :
 Rd M (.slice (some ⟨b',o',none⟩) (h' - l) cap') (.sl ((es.take h').drop l)):=by
 cases h with
 | sl _ _ _ sz' _ vs hl hcap hbig hm ho hr=>
  have hlen:((es.take h').drop l).length=h' - l:=by simp;omega
  have key:=Rd.sl (M:=M) b' o' cap' sz ((es.take h').drop l) (fun i j=>vs (l+i) j) (fun e he=>hsz e (Z6 (aaJ he))) (by omega) (by omega) ?_ ?_ ?_
  ·rwa [hlen] at key
  ·intro i hi j hj;rw [hlen] at hi;obtain⟨rfl,rfl⟩:=hb (by omega)
   have hs':sz'=sz:=by
    have h3:=hl _ (cq (by omega:l<es.length));have h4:=hsz _ (cq (by omega:l<es.length));omega
   subst hs';have:=hm (l+i) (by omega) j hj
   rwa [Y3,← ZC] at this
  ·intro i hi j hj;rw [hlen] at hi
   have hs':sz'=sz:=by
    have h3:=hl _ (cq (by omega:l<es.length));have h4:=hsz _ (cq (by omega:l<es.length));omega
   exact ho (l+i) (by omega) j (by omega)
  ·intro i hi j hj;rw [hlen] at hi;simp only [ZZ,aaI] at hj ⊢;exact hr (l+i) (by omega) j hj
theorem gX(h:ff P T=some (e,sz)) {b o:Nat}{lo hi:Option Value}{hh:Int}
 (hlo:lo=none∧l=0∨∃ k,lo=some (.int k l)) (hhi:hi=none∧hh=len∨∃ k,hi=some (.int k hh)) (h0:0≤l) (h1:l≤hh) (h2:hh≤cap) (w:World) :
 (Instr.sliceAt T (.slice (some ⟨b,o,none⟩) len cap) lo hi none).run P w=.ok (.slice (some (if cap=l.toNat then ⟨b,o,none⟩ else ⟨b,o+l.toNat*sz,none⟩)) (hh.toNat - l.toNat) (cap - l.toNat)) w:=by
 obtain⟨hu,hi',hs⟩:=dL h;simp only [Instr.sliceAt,cK,run_underlying hu,rP,Instr.slice];rw [gU hlo hhi h0 h1 h2];simp only [rP,run_sizeOf hi',hs,Zi,Zb,Z5]
 by_cases e:cap=l.toNat <;> simp [e]
theorem En(hd:∀ d,o.dst=some d→d<c.n) (ho:o.op=.slice T x lo hi none)
 (hx:s.val c.G x=.c (.d (.sl es))) (hT:ff c.P T=some (e,sz)) (hes:∀ e∈es,e.length=sz) (hlo:dc (lo.map (s.val c.G)) 0=some l) (hhi:dc (hi.map (s.val c.G)) es.length=some h)
 (h0:0≤l) (h1:l≤h) (h2:h≤es.length):bP c o s (s.put o.dst (.c (.d (.sl ((es.take h.toNat).drop l.toNat))))):=
 bP.aU hd fun F β a w hs=>by
  have e1:=hx ▸ hs.val x;obtain⟨e1,_⟩:=e1;have b1:=gJ hs.val hlo;have b2:=gJ hs.val hhi;obtain⟨b,o',cap,h3,h4,_⟩:=e1.Cq;rw [h3] at e1;have hr:=gX (b:=b) (o:=o') (cap:=cap) hT b1 b2 h0 h1 (by omega) w;refine⟨_,by simp only [execOp,ho,h3,cK,aaS,hr,rP];rfl,?_,rfl⟩
  by_cases hcap:cap=l.toNat
  ·simp only [if_pos hcap];exact Rd.A7 e1 hes (by omega) (by omega) _ _ (fun hlt=>by omega) _ (by omega)
  ·simp only [if_neg hcap];exact Rd.A7 e1 hes (by omega) (by omega) _ _ (fun _=>⟨rfl,rfl⟩) _ (by omega)
theorem EB(hd:∀ d,o.dst=some d→d<c.n) (ho:o.op=.slice T x lo hi none)
 (hx:s.val c.G x=.c (.aI κ off len sz)) (hk:s.lv κ=.cells own fz T' cs) (hT:ff c.P T=some (e,sz)) (hlo:dc (lo.map (s.val c.G)) 0=some l) (hhi:dc (hi.map (s.val c.G)) len=some h)
 (h0:0≤l) (h1:l≤h) (h2:h≤len) (h3:l<h∨l=0):bP c o s (s.put o.dst (.c (.aI κ (off+l.toNat*sz) (h.toNat - l.toNat) sz))):=
 bP.aU hd fun F β a w hs=>by
  have e1:=hx ▸ hs.val x;obtain⟨e1,_⟩:=e1;simp only [Vw.cB,hk] at e1;obtain⟨cap,e2,e3,e4⟩:=e1;have b1:=gJ hs.val hlo;have b2:=gJ hs.val hhi;have hr:=gX (b:=β κ) (o:=off) (cap:=cap) hT b1 b2 h0 h1 (by omega) w;refine⟨_,by simp only [execOp,ho,e2,cK,aaS,hr,rP];rfl,?_,rfl⟩;simp only [Vw.cB,hk];refine⟨cap - l.toNat,?_,by omega,?_⟩
  ·by_cases hcap:cap=l.toNat
   ·have:l=0:=by omega
    subst this;simp
   ·simp only [if_neg hcap]
  ·have:cap*sz=l.toNat*sz+(cap - l.toNat)*sz:=by rw [← Y3];congr 1;omega
   omega
theorem BE(hd:∀ d,o.dst=some d→d<c.n) (ho:o.op=.slice T x lo hi none)
 (hx:s.val c.G x=.c (.aI κ off len sz)) (hk:s.lv κ=.cells own fz T' cs) (hT:ff c.P T=some (e,sz)) (hlo:dc (lo.map (s.val c.G)) 0=some l) (hhi:dc (hi.map (s.val c.G)) len=some h)
 (h0:0≤l) (h1:l=h) (h2:h≤len):bP c o s (s.put o.dst (.c (.d (.sl [])))):=
 bP.aU hd fun F β a w hs=>by
  have e1:=hx ▸ hs.val x;obtain⟨e1,_⟩:=e1;simp only [Vw.cB,hk] at e1;obtain⟨cap,e2,e3,e4⟩:=e1;have b1:=gJ hs.val hlo;have b2:=gJ hs.val hhi;have hr:=gX (b:=β κ) (o:=off) (cap:=cap) hT b1 b2 h0 (by omega) (by omega) w;refine⟨_,by simp only [execOp,ho,e2,cK,aaS,hr,rP];rfl,?_,rfl⟩;subst h1;rw [ZJ]
  have key:∀ ad:Addr,ad.spot=none→Rd (Vw.mk F β s.lv w).mem (.slice (some ad) 0 (cap - l.toNat)) (.sl []):=by
   intro ad hsp;obtain⟨b,o',sp⟩:=ad;simp only at hsp;subst hsp;exact Rd.sl b o' _ 0 [] (fun _ _=>undef) (fun _ h=>by cases h) (Y4 _) (Y4 _) (fun i h=>by cases h) (fun i h=>by cases h) (fun i h=>by cases h)
  exact key _ (by split <;> rfl)
theorem zT(hd:∀ d,o.dst=some d→d<c.n) (ho:o.op=.slice T x lo hi none)
 (hx:s.val c.G x=.c (.d .nilsl)) (hT:ff c.P T=some (e,sz)) (hlo:dc (lo.map (s.val c.G)) 0=some l) (hhi:dc (hi.map (s.val c.G)) 0=some h)
 (h0:l=0) (h1:h=0):bP c o s (s.put o.dst (.c (.d .nilsl))):=
 bP.aU hd fun F β a w hs=>by
  have e1:=hx ▸ hs.val x;obtain⟨e1,_⟩:=e1;obtain⟨v,hv⟩:∃ v,a.eval x=v:=⟨_,rfl⟩
  rw [hv] at e1;have b1:=gJ hs.val hlo;have b2:=gJ hs.val hhi;obtain⟨hu,hi',hsz⟩:=dL hT;subst h0 h1
  cases e1
  refine⟨.slice none 0 0,?_,.nilsl,rfl⟩;simp only [execOp,ho,hv,aaS,Instr.sliceAt,cK,run_underlying hu,rP,Instr.slice];rw [gU (l:=0) (h:=0) b1 b2 (by omega) (by omega) (by omega)];simp [run_sizeOf hi']
end
def kB (n:Nat)(zs:List CV):List CV:=(List.replicate n zs).flatten
theorem D4 (n:Nat)(z:CV):kB n [z]=List.replicate n z:=by
 unfold kB
 induction n with
 | zero=>rfl
 | succ n ih=>rw [aba,aaK,ih];rfl
theorem oo (n:Nat)(zs:List CV):(kB n zs).length=n*zs.length:=by
 simp [kB]
theorem D8 (n:Nat)(zs:List CV):∀ (i:Nat) (h:i<(kB n zs).length) (h':i % zs.length<zs.length),(kB n zs)[i]=zs[i % zs.length]:=by
 induction n with
 | zero=>intro i h;simp [kB] at h
 | succ n ih=>
  intro i h h';have e:kB (n+1) zs=zs++kB n zs:=by simp [kB,aba]
  simp only [e]
  by_cases hi:i<zs.length
  ·rw [ZB hi];congr 1;exact (ZD hi).symm
  ·have hi':zs.length≤i:=by omega
   rw [ZI hi']
   have h2:(i - zs.length) % zs.length=i % zs.length:=by
    conv=>rhs;rw [← Nat.sub_add_cancel hi',Nat.add_mod_right]
   rw [ih (i - zs.length) (by rw [e] at h;simp at h;omega) (by rw [h2];exact h')];congr 1
section
variable {c:Ctx}{F:Nat→Prop}{β:Key→Nat}{s:au}{a:Act}{w:World}
theorem KY{k:IntKind}(hd:∀ d,o.dst=some d→d<c.n) (ho:o.op=.makeSlice T x y)
 (hκ:s.lv κ=.hole) (hx:s.val c.G x=.c (.d (.int k l))) (hy:s.val c.G y=.c (.d (.int k' m))) (hT:ff c.P T=some (e,sz)) (hi:c.P.info? e=some i) (hz:i.zero=some z) (hzs:(qV z).cells=some zs) (hlen:zs.length=sz)
 (hpos:0<sz) (h0:0≤l) (h1:l≤m) (hb:(i.bytes:Int)*m≤281474976710656) (h63:m≤9223372036854775807) :
 bP c o s (au.put ⟨s.fr,aD s.lv κ (.cells true false e (kB l.toNat zs))⟩ o.dst (.c (.aI κ 0 l.toNat sz))):=
 bP.eB hd fun F β a w hs=>by
  have h2:=Vw.fP (hx ▸ hs.val x);have h3:=Vw.fP (hy ▸ hs.val y);obtain⟨hu,hie,hsz⟩:=dL hT;have hsize:i.size=sz:=by rw [← hsz];simp [gb,hi]
  have hr:=run_make (P:=c.P) w T e i z hu hi hz k k' l m h0 h1 hb h63;obtain⟨h5,h6⟩:=Vw.kA (tN (Vw.mk F β s.lv w) z) hzs;have hlm:l.toNat*sz≤m.toNat*sz:=Zg _ (by omega);refine⟨_,F,aD β κ w.heap.size,_,by simp only [execOp,ho,h2,h3,cK,hr,rP];rfl,?_,?_,rfl⟩
  ·refine hs.alloc hκ e ?_ ?_
   ·rw [oo,size_madeCells,hlen,hsize];exact hlm
   ·intro j hj hj';have hm:j % zs.length<zs.length:=Zl _ (by omega);rw [D8 _ _ _ hj hm];have hsz':z.cells.size=zs.length:=h5;simp only [madeCells,abq,Array.getElem_range];rw [getElem!_pos z.cells (j % z.cells.size) (by rw [hsz'];exact hm)];have:=h6 (j % zs.length) hm (by rw [hsz'];exact hm);simp only [hsz'];exact this
  ·simp only [Vw.cB,az];refine⟨m.toNat,rfl,by omega,?_⟩;simp only [cw,heap_alloc,if_true,size_madeCells,hsize];omega
def ct (P:Program)(T:TypeId):Bool:=match P.underlying T with|some .string=>true|_=>false
theorem hH(h:ct P T=true):P.underlying T=some .string:=by
 unfold ct at h;split at h
 ·assumption
 ·cases h
def lF (P:Program)(T:TypeId)(lv:Key→LB):AV→Option Int
 | .c (.d (.str l))=>if ct P T then some l.length else none
 | .c (.d (.sl es))=>if (ff P T).isSome then some es.length else none
 | .c (.d .nilsl)=>if (ff P T).isSome then some 0 else none
 | .c (.aI k _ len _)=>if (ff P T).isSome then (match lv k with|.cells ..|.bk=>some len|_=>none) else none
 | _=>none
def kV (x:AV)(n:Int):Prop:=
 match x with
 | .c (.aI ..)=>n≤9223372036854775807
 | _=>True
theorem Vw.Fp(h:V.av v (.c (.d (.sl es)))):es.length≤9223372036854775807:=by
 obtain⟨h,_⟩:=h;cases h;assumption
theorem Lb{x:AV}(hv:V.av v x) (hn:lF P T V.lv x=some n) (hok:kV x n):0≤n∧n≤9223372036854775807:=by
 unfold lF at hn;split at hn
 ·split at hn
  ·simp only [ai] at hn;subst hn;have:=Vw.Bb hv;omega
  ·cases hn
 ·split at hn
  ·simp only [ai] at hn;subst hn;have:=Vw.Fp hv;omega
  ·cases hn
 ·split at hn
  ·simp only [ai] at hn;subst hn;omega
  ·cases hn
 ·simp only [kV] at hok;split at hn
  ·split at hn
   ·simp only [ai] at hn;subst hn;omega
   ·simp only [ai] at hn;subst hn;omega
   ·cases hn
  ·cases hn
 ·cases hn
theorem Nz(hd:∀ d,o.dst=some d→d<c.n) (ho:o.op=.call { callee:=.builtin .len,args:=#[x],argTypes:=#[T] })
 (hn:lF c.P T s.lv (s.val c.G x)=some n) (hok:kV (s.val c.G x) n):bP c o s (s.put o.dst (.c (.d (.int .i64 n)))):=
 bP.aU hd fun F β a w hs=>by
  have hv:=hs.val x;refine⟨.int .i64 n,?_,Vw.jB _ _ _ (c9 (by have:=Lb hv hn hok;simp only [CF,qd];omega))⟩
  have key:(Builtin.len_ #[T] o.type #[a.eval x]).run c.P w=.ok (goInt n) w:=by
   unfold lF at hn;split at hn
   ·rename_i l e
    split at hn
    ·rename_i hT
     have hT':=hH hT;simp only [ai] at hn;subst hn;rw [e] at hv;rw [Vw.iR hv];simp [Builtin.len_,run_underlying hT'];rfl
    ·cases hn
   ·rename_i es e
    split at hn
    ·rename_i hT
     obtain⟨⟨e',sz⟩,hT⟩:=Option.isSome_iff_exists.1 hT;obtain⟨hu,_,_⟩:=dL hT;simp only [ai] at hn;subst hn;rw [e] at hv;obtain⟨b,o',cap,h3,_⟩:=hv.1.Cq;rw [h3];simp [Builtin.len_,run_underlying hu]
    ·cases hn
   ·rename_i e
    split at hn
    ·rename_i hT
     obtain⟨⟨e',sz⟩,hT⟩:=Option.isSome_iff_exists.1 hT;obtain⟨hu,_,_⟩:=dL hT;simp only [ai] at hn;subst hn;rw [e] at hv;obtain⟨v,hv'⟩:∃ v,a.eval x=v:=⟨_,rfl⟩
     rw [hv'] at hv ⊢;obtain⟨hv,_⟩:=hv
     cases hv
     simp [Builtin.len_,run_underlying hu]
    ·cases hn
   ·rename_i k off len sz' e
    split at hn
    ·rename_i hT
     obtain⟨⟨e',sz⟩,hT⟩:=Option.isSome_iff_exists.1 hT;obtain⟨hu,_,_⟩:=dL hT;rw [e] at hv;obtain⟨hv,_⟩:=hv;simp only [Vw.cB] at hv;split at hn
     ·rename_i ek
      simp only [ai] at hn;subst hn;simp only [ek] at hv;obtain⟨cap,h3,_⟩:=hv;rw [h3];simp [Builtin.len_,run_underlying hu]
     ·rename_i ek
      simp only [ai] at hn;subst hn;simp only [ek] at hv;obtain⟨h3,_,h4⟩:=hv;rw [h3,h4];simp [Builtin.len_,run_underlying hu]
     ·cases hn
    ·cases hn
   ·cases hn
  simp [execOp,ho,resolve,invoke,builtin,key,goInt]
def jl (lv:Key→LB)(sz:Nat):AV→Option (Nat × List CV)
 | .c (.d (.sl es))=>if es.all (·.length == sz) then some (es.length,es.flatten.map .d) else none
 | .c (.d .nilsl)=>some (0,[])
 | .c (.aI k off len sz')=>match lv k with
  | .cells _ _ _ cs=>if sz'=sz∧off+len*sz≤cs.length then some (len,(cs.drop off).take (len*sz)) else none
  | .bk=>some (0,[])
  | _=>none
 | _=>none
theorem vp {α:Type}:∀ (es:List (List α)) (sz:Nat) (_:∀ e∈es,e.length=sz) (i j:Nat) (hi:i<es.length) (_hj:j<sz) (h':j<es[i].length),
 ∃ h:i*sz+j<es.flatten.length,es.flatten[i*sz+j]=es[i][j]
 | [],_,_,i,_,hi,_,_=>by simp at hi
 | e::es,sz,hl,0,j,hi,hj,h'=>by
  have he:e.length=sz:=hl e (by simp);refine⟨by rw [aaK,YY];omega,?_⟩;simp only [Nat.zero_mul,Y5,aaK,Zx];rw [ZB (by omega)]
 | e::es,sz,hl,i+1,j,hi,hj,h'=>by
  have he:e.length=sz:=hl e (by simp);obtain⟨h1,h2⟩:=vp es sz (fun e he=>hl e (by simp [he])) i j (by simpa using hi) hj (by simpa using h');have e1:(i+1)*sz+j=sz+(i*sz+j):=by rw [Y3];omega
  refine⟨by rw [e1,aaK,YY];omega,?_⟩;simp only [e1,aaK,List.getElem_cons_succ];rw [ZI (by omega)];simp only [he,ZE];exact h2
theorem EL(es:List (List α)) (sz:Nat) (hl:∀ e∈es,e.length=sz):es.flatten.length=es.length*sz:=by
 induction es with
 | nil=>simp
 | cons e es ih=>
  simp only [aaK,YY,Zn];rw [ih (fun e he=>hl e (by simp [he])),hl e (by simp),Y3];omega
theorem aE.src (hs:aE c F β s a w){m:Nat}(h:jl s.lv sz (s.val c.G x)=some (m,xs)) :
 xs.length=m*sz∧∃ ao cap,a.eval x=.slice ao m cap∧(ao=none→m=0)∧(∀ ad,ao=some ad→ad.spot=none) ∧
  ∃ vs:List Value,vs.length=xs.length∧(∀ ad,ao=some ad→∀ j u,vs[j]?=some u→w.cell? (ad.add j)=some u) ∧
   ∀ i (h:i<xs.length) (h':i<vs.length),(Vw.mk F β s.lv w).cv vs[i] xs[i]:=by
 have hv:=hs.val x;unfold jl at h;split at h
 ·rename_i es e
  split at h
  ·rename_i hall
   simp only [ai,fy] at h;obtain⟨rfl,rfl⟩:=h;rw [e] at hv
   have hsz:∀ e∈es,e.length=sz:=by
    intro e he;rw [YU] at hall;simpa using hall e he
   have hlen:=EL es sz hsz;obtain⟨hv,_⟩:=hv;obtain⟨v,hv'⟩:∃ v,a.eval x=v:=⟨_,rfl⟩
   rw [hv'] at hv;have hlen':(es.flatten.map CV.d).length=es.length*sz:=by rw [YX,hlen]
   refine⟨hlen',?_⟩
   cases hv with
   | sl b off cap sz' _ vs hl hc hbig hm hone hr=>
    refine⟨some ⟨b,off,none⟩,cap,hv',by simp,by simp,(List.range (es.length*sz)).map (fun n=>vs (n / sz) (n % sz)),by rw [hlen'];simp,?_,?_⟩
    ·rintro ad ⟨⟩ j u hu;rw [ZO] at hu
     have hj:j<es.length*sz:=by
      rcases Z7 j (es.length*sz) with h|h
      ·exact h
      ·rw [ZU (by simpa using h)] at hu;cases hu
     rw [List.getElem?_range hj] at hu;simp only [Zb,ai] at hu;subst hu
     have hszp:0<sz:=by rcases abK sz with h|h;· rw [h] at hj;simp at hj
                        ·exact h
     have hi:j / sz<es.length:=Nat.div_lt_of_lt_mul (by rw [Zm];exact hj);have hs':sz'=sz:=by rw [← hl _ (cq hi),hsz _ (cq hi)]
     have:=(hm (j / sz) hi (j % sz) (by rw [hs'];exact Zl _ hszp)).2;rw [hs'] at this;rw [Z5];have hj2:off+j / sz*sz+j % sz=off+j:=by rw [ZC,Nat.div_add_mod']
     rw [hj2] at this;exact this
    ·intro i p q;simp only [sr,abJ];have hj:i<es.length*sz:=by rwa [hlen'] at p
     have hszp:0<sz:=by rcases abK sz with h|h;· rw [h] at hj;simp at hj
                        ·exact h
     have hi:i / sz<es.length:=Nat.div_lt_of_lt_mul (by rw [Zm];exact hj);have hjm:i % sz<sz:=Zl _ hszp;have hs':sz'=sz:=by rw [← hl _ (cq hi),hsz _ (cq hi)]
     have hin:i % sz<es[i / sz].length:=by rw [hsz _ (cq hi)];exact hjm
     obtain⟨h1,h2⟩:=vp es sz hsz (i / sz) (i % sz) hi hjm hin;have h3:i / sz*sz+i % sz=i:=Nat.div_add_mod' i sz;simp only [h3] at h2;rw [h2];exact⟨hr _ hi _ hin,hone _ hi _ (by rw [hs'];exact hjm)⟩
  ·cases h
 ·rename_i e
  simp only [ai,fy] at h;obtain⟨rfl,rfl⟩:=h;rw [e] at hv;obtain⟨hv,_⟩:=hv;obtain⟨v,hv'⟩:∃ v,a.eval x=v:=⟨_,rfl⟩
  rw [hv'] at hv
  cases hv
  exact⟨by simp,none,0,hv',fun _=>rfl,by simp,[],rfl,by simp,by simp⟩
 ·rename_i k off len sz' e
  rw [e] at hv;obtain⟨hv,_⟩:=hv;simp only [Vw.cB] at hv;split at h
  ·rename_i own fz T cs ek
   simp only [ek] at hv;split at h
   ·rename_i hc
    obtain⟨rfl,hc⟩:=hc;simp only [ai,fy] at h;obtain⟨rfl,rfl⟩:=h;obtain⟨cap,h3,h4,h5⟩:=hv;have hb:=hs.bx k;unfold Vw.bx at hb;simp only [ek] at hb;obtain⟨arr,h6,h7,h8,_⟩:=hb;refine⟨by simp;omega,some ⟨β k,off,none⟩,cap,h3,by simp,by simp,(arr.toList.drop off).take (len*sz'),by simp;omega,?_,?_⟩
    ·rintro ad ⟨⟩ j u hu;rw [aaT] at hu;split at hu
     ·rw [Z0,abr] at hu;rw [Z5,cell_of_row w _ _ _ _ _ h6];exact hu
     ·cases hu
    ·intro i p q;simp only [aaI,ZZ,Zw];exact h8 _ _ _
   ·cases h
  ·rename_i ek
   simp only [ek] at hv;simp only [ai,fy] at h;obtain⟨rfl,rfl⟩:=h;obtain⟨h3,_,h4⟩:=hv;exact⟨by simp,none,0,h3,fun _=>rfl,by simp,[],rfl,by simp,by simp⟩
  ·cases h
 ·cases h
end
section
variable {c:Ctx}{F:Nat→Prop}{β:Key→Nat}{s:au}{a:Act}{w:World}
theorem aE.nJ (hs:aE c F β s a w){m:Nat}(hκ:s.lv κ=.hole) (hT:ff c.P T=some (e,sz))
 (hi:c.P.info? e=some i) (hz:i.zero=some z)(hx:jl s.lv sz (s.val c.G x)=some (m,xs)) (hzs:z.cells.size=sz) (h63:m≤9223372036854775807) (hb:m*i.bytes≤140737488355328) :
 ∃ v F' β' w',(Builtin.append_ #[T,T] ty #[.slice none 0 0,a.eval x]).run c.P w=.ok v w' ∧
  aE c F' β' ⟨s.fr,aD s.lv κ (if m=0 then .bk else .cells true false e xs)⟩ a w' ∧
  (Vw.mk F' β' (aD s.lv κ (if m=0 then .bk else .cells true false e xs)) w').cv v (.aI κ 0 m sz):=by
 obtain⟨hu,hie,hsz⟩:=dL hT;have hsize:i.size=sz:=by rw [← hsz];simp [gb,hi]
 obtain⟨hlen,ao,cap,h1,h2,h3,vs,h4,h5,h6⟩:=hs.src hx
 by_cases hm:m=0
 ·subst hm
  have hn:aE c F β ⟨s.fr,aD s.lv κ .bk⟩ a w:=by
   refine hs.step (fun _ h=>h) (fun _ _=>rfl) ?_ (fun _ _ _=>rfl) (fun _=>aW _) ?_ ?_ (fun b h=>.inl h) (aW _) (fun _ _ _=>rfl)
   ·intro k
    by_cases e:k=κ
    ·subst e;rw [hκ];simp [LB.sub]
    ·rw [aC _ _ e];exact LB.bl _
   ·intro k hK
    by_cases e:k=κ
    ·subst e;unfold Vw.bx;simp only [az]
    ·exact Vw.bp (hs.bx k) hK (aC _ _ e) rfl rfl (fun _ h=>h)
   ·intro k1 k2 g1 g2 he
    have g:∀ k',(aD s.lv κ .bk k').live=true→(s.lv k').live=true:=by
     intro k' hk'
     by_cases e:k'=κ
     ·subst e;rw [az] at hk';simp [LB.live] at hk'
     ·rwa [aC _ _ e] at hk'
    exact hs.inj _ _ (g _ g1) (g _ g2) he
  refine⟨.slice none 0 0,F,β,w,?_,by simpa using hn,?_⟩
  ·rw [h1];have hvs:vs=[]:=abt (by rw [h4,hlen];simp);subst hvs
   have hf:(Builtin.firstCells i.size 0 (.slice ao 0 cap)).run c.P w=.ok #[] w:=by
    cases ao with
    | none=>simp [Builtin.firstCells]
    | some ad=>simp [Builtin.firstCells,loadCells,loadCellsFrom]
   simp [Builtin.append_,run_underlying hu,sizeOf,typeInfo,hi,Builtin.lenOf,hf]
  ·simp [Vw.cv,Vw.cB,az,Value.oneCell']
 ·cases ao with
  | none=>exact absurd (h2 rfl) hm
  | some ad=>
   have hl':vs.length=m*i.size:=by rw [h4,hlen,hsize]
   have hr:=run_append_nil (P:=c.P) w T ty e i z hu hi hz ad m cap vs hl' (h5 ad rfl) (by omega) (by omega) (by omega);have hd:aE c F β s a w.drew:=hs.heap rfl
   have hal:=hd.alloc hκ (arr:=vs.toArray++Builtin.zeroCells z.cells (grownCap w m 0 e - m)) e (cs:=xs) (by simp;omega) (fun j p q=>by
    have hj:j<vs.length:=by omega
    have:(vs.toArray++Builtin.zeroCells z.cells (grownCap w m 0 e - m))[j]=vs[j]:=by
     rw [Z1 (by simpa using hj)];simp
    rw [this];exact (Vw.iG (V:=Vw.mk F β s.lv w) (V':=Vw.mk F β s.lv w.drew) (fun _ h=>h) (fun _ _=>rfl) (fun _=>LB.bl _) (fun _ _ _=>rfl) (fun _=>aW _)).cv (h6 j p hj))
   refine⟨_,F,aD β κ w.heap.size,_,by rw [h1];exact hr,by simpa [hm] using hal,?_⟩;simp only [hm,if_false,Vw.cv,Vw.cB,az];refine⟨⟨_,rfl,?_,?_⟩,rfl⟩
   ·exact grownCap_ge w m 0 e
   ·have hge:=grownCap_ge w m 0 e;simp only [cw,heap_alloc,World.size_drew,if_true,abb,abu,size_zeroCells,hl',hsize,hzs];rw [← Y3];exact Z8 (by rw [Y5];congr 1;omega)
theorem Bf(f:Nat→α) (i:Nat) (x y:α):aD (aD f i x) i y=aD f i y:=by
 funext t;unfold aD;split <;> rfl
theorem Ad{f:Nat→α}{k:Nat}{x:α}:aD f k x k=x:=by simp [aD]
theorem aE.nu (h:aE c F β s a w)(own:Bool) (hk:s.lv k=.cells true false T cs) :
 aE c F β ⟨s.fr,aD s.lv k (.cells own false T cs)⟩ a w:=by
 have hlive:(s.lv k).live=true:=by rw [hk];rfl
 refine h.step (fun _ h=>h) (fun _ _=>rfl) ?_ (fun _ _ _=>rfl) (fun _=>aW _) ?_ ?_ (fun b h=>.inl h) (aW _) (fun _ _ _=>rfl)
 ·intro k'
  by_cases e:k'=k
  ·subst e;rw [az,hk];simp [LB.sub]
  ·rw [aC _ _ e];exact LB.bl _
 ·intro k' hK
  by_cases e:k'=k
  ·subst e;have hb:=h.bx k';unfold Vw.bx at hb ⊢;simp only [hk] at hb;simp only [az];obtain⟨arr,h1,h2,h3,h4,h5⟩:=hb;refine⟨arr,h1,h2,fun i p q=>hK.cv (h3 i p q),h4,?_⟩;unfold eH at h5 ⊢;simp only [if_true] at h5;split
   ·exact h5
   ·exact .inl h5
  ·exact Vw.bp (h.bx k') hK (aC _ _ e) rfl rfl (fun _ h=>h)
 ·intro k1 k2 h1 h2 he
  have g:∀ k',(aD s.lv k (.cells own false T cs) k').live=true→(s.lv k').live=true:=by
   intro k' hk'
   by_cases e:k'=k
   ·subst e;exact hlive
   ·rwa [aC _ _ e] at hk'
  exact h.inj k1 k2 (g _ h1) (g _ h2) he
theorem aE.xl (hs:aE c F β s a w){n m:Nat}(hκ:s.lv κ=.hole) (hT:ff c.P T=some (e,sz))
 (hi:c.P.info? e=some i) (hz:i.zero=some z)(hy:s.val c.G y=.c (.aI k 0 n sz)) (hk:s.lv k=.cells own false e cs) (hfull:cs.length=n*sz)
 (hx:jl s.lv sz (s.val c.G x)=some (m,xs)) (hzs:z.cells.size=sz) (h63:n+m≤9223372036854775807) (hb:(n+m)*i.bytes≤140737488355328) :
 ∃ v F' β' w',(Builtin.append_ #[T,T] ty #[a.eval y,a.eval x]).run c.P w=.ok v w' ∧
  aE c F' β' ⟨s.fr,aD (aD s.lv k .dead) κ (.cells own false e (cs++xs))⟩ a w' ∧
  (Vw.mk F' β' (aD (aD s.lv k .dead) κ (.cells own false e (cs++xs))) w').cv v (.aI κ 0 (n+m) sz):=by
 obtain⟨hu,hie,hsz⟩:=dL hT;have hsize:i.size=sz:=by rw [← hsz];simp [gb,hi]
 obtain⟨hlen,ao,cap',h1,h2,h3,vs,h4,h5,h6⟩:=hs.src hx;have hkκ:k≠κ:=fun e=>by rw [e,hκ] at hk;cases hk
 have hv:=hy ▸ hs.val y;obtain⟨hv,_⟩:=hv;simp only [Vw.cB,hk] at hv;obtain⟨cap,vw,PB,hv3⟩:=hv;have hbk:=hs.bx k;unfold Vw.bx at hbk;simp only [hk] at hbk;obtain⟨arr,g1,g2,g3,g4,g5⟩:=hbk;have has:cw w (β k)=arr.size:=by simp [cw,g1]
 rw [has] at hv3;simp only [Y5] at hv3
 have hsrc:∃ ad:Addr,(Builtin.append_ #[T,T] ty #[a.eval y,a.eval x]).run c.P w=(Builtin.append_ #[T,T] ty #[.slice (some ⟨β k,0,none⟩) n cap,.slice (some ad) m cap']).run c.P w ∧
  (∀ j u,vs[j]?=some u→w.cell? (ad.add j)=some u):=by
  cases ao with
  | some ad=>exact⟨ad,by rw [vw,h1],h5 ad rfl⟩
  | none=>
   have hm:=h2 rfl;subst hm;have hvs:vs=[]:=abt (by rw [h4,hlen];simp);subst hvs;refine⟨⟨0,0,none⟩,?_,by simp⟩;rw [vw,h1];simp [Builtin.append_,run_underlying hu,sizeOf,typeInfo,hi,Builtin.lenOf,Builtin.firstCells,loadCells,loadCellsFrom,PB]
 obtain⟨ad,hsrc,hnews⟩:=hsrc;rw [hsrc];have hl':vs.length=m*i.size:=by rw [h4,hlen,hsize]
 have hone:∀ u∈vs,u.oneCell'=true:=by
  intro u hu;obtain⟨j,hj,rfl⟩:=List.mem_iff_getElem.1 hu;exact Vw.eZ (h6 j (by omega) hj)
 by_cases hroom:n+m≤cap
 ·have hcap:(n+m)*sz≤cap*sz:=Zg _ hroom;have hnm:(n+m)*sz=n*sz+m*sz:=Y3 _ _ _;have hr:=run_append_room (P:=c.P) w T ty e i hu hi (β k) n cap arr g1 ad m cap' vs hl' hnews hone hroom (by rw [hl',hsize];omega);rw [hsize] at hr;have hseg:arr.toList.take (n*sz)++vs++arr.toList.drop (n*sz+vs.length)=aj arr.toList (n*sz) vs:=rfl;rw [hseg] at hr;have hle:n*sz+vs.length≤arr.toList.length:=by rw [hl',hsize];simp;omega
  have hset:=hs.setRow (arr:=(aj arr.toList (n*sz) vs).toArray) hk g1 (cs':=cs) (by simp [aO _ _ _ hle]) (by simp [aO _ _ _ hle];omega) (fun j p q=>by
   simp only [aaH];rw [dm _ _ _ hle j (by simpa using q),dif_neg (by omega)];simp only [Zw];exact g3 _ _ _)
  have hsame:aD s.lv k (.cells own false e cs)=s.lv:=by
   funext t;unfold aD;split
   ·rename_i h;rw [h,hk]
   ·rfl
  rw [hsame] at hset
  have hK:(Vw.mk F β s.lv w).iz (Vw.mk F β s.lv (w.setRow (β k) (aj arr.toList (n*sz) vs).toArray)):=
   Vw.iG (fun _ h=>h) (fun b hb=>setRow_other _ _ _ _ (fun e=>by
    have:F (β k):=e ▸ hb;simp at g4;exact g4 this)) (fun _=>LB.bl _) (fun _ _ _=>rfl) (fun b=>by rw [gh w (β k) arr _ e (0,0) g1 (by simp [aO _ _ _ hle]) b];exact aW _)
  have hmv:=hset.move (k:=k) (κ:=κ) hk hκ (cs':=cs++xs) (arr:=(aj arr.toList (n*sz) vs).toArray) (setRow_heap w _ arr _ e (0,0) g1) (by simp [aO _ _ _ hle];omega) (fun j p q=>by
   simp only [aaH];rw [dm _ _ _ hle j (by simpa using q)]
   by_cases hj:j<n*sz
   ·rw [dif_neg (by omega),ZB (by omega)];simp only [Zw];exact hK.cv (g3 _ _ _)
   ·rw [dif_pos ⟨by omega,by simp at p;omega⟩,ZI (by omega)];simp only [hfull];exact hK.cv (h6 _ _ _))
  refine⟨_,_,_,_,hr,hmv,⟨?_,rfl⟩⟩;simp only [Vw.cB,az];refine⟨cap,rfl,hroom,?_⟩;rw [gh w (β k) arr _ e (0,0) g1 (by simp [aO _ _ _ hle])];rw [has];omega
 ·have holds:∀ j u,(arr.toList.take (n*sz))[j]?=some u→w.cell? ((⟨β k,0,none⟩:Addr).add j)=some u:=by
   intro j u hu;rw [aaT] at hu;split at hu
   ·rw [abr] at hu;rw [Z5,cell_of_row w _ _ _ _ _ g1,Y5];exact hu
   ·cases hu
  have hn:n*sz≤arr.size:=by omega
  have hr:=run_append_grow (P:=c.P) w T ty e i z hu hi hz ⟨β k,0,none⟩ n cap (arr.toList.take (n*sz)) (by simp [hsize];omega) holds ad m cap' vs hl' hnews (by omega) (by omega) (growslice_fits (by omega) hb);have hd:aE c F β s a w.drew:=hs.heap rfl;have hK:(Vw.mk F β s.lv w).iz (Vw.mk F β s.lv w.drew):=Vw.iG (fun _ h=>h) (fun _ _=>rfl) (fun _=>LB.bl _) (fun _ _ _=>rfl) (fun _=>aW _)
  have hal:=(hd.kill k).alloc (κ:=κ) (by show aD s.lv k .dead κ=_;rw [aC _ _ (Ne.symm hkκ)];exact hκ) (arr:=((arr.toList.take (n*sz)).toArray++vs.toArray++Builtin.zeroCells z.cells (grownCap w (n+m) cap e - (n+m)))) e (cs:=cs++xs)
   (by simp;omega) (fun j p q=>by
    have hK2:(Vw.mk F β s.lv w).iz (Vw.mk F β (aD s.lv k .dead) w.drew):=Vw.iG (fun _ h=>h) (fun _ _=>rfl) (fun t=>by
     by_cases e:t=k
     ·subst e;show LB.sub (s.lv t) (aD s.lv t .dead t);rw [az];cases s.lv t <;> simp [LB.sub]
     ·show LB.sub (s.lv t) (aD s.lv k .dead t);rw [aC _ _ e];exact LB.bl _) (fun _ _ _=>rfl) (fun _=>aW _)
    simp only [YY] at p;have hto:(arr.toList.take (n*sz)).length=n*sz:=by simp;omega
    by_cases hj:j<n*sz
    ·have e1:((arr.toList.take (n*sz)).toArray++vs.toArray++Builtin.zeroCells z.cells (grownCap w (n+m) cap e - (n+m)))[j]=arr[j]'(by omega):=by
      rw [Z1 (by simp;omega),Z1 (by simp;omega)];simp
     rw [e1,ZB (by omega)];exact hK2.cv (g3 _ _ _)
    ·have e1:((arr.toList.take (n*sz)).toArray++vs.toArray++Builtin.zeroCells z.cells (grownCap w (n+m) cap e - (n+m)))[j]=vs[j - n*sz]'(by omega):=by
      rw [Z1 (by simp;omega),abL (by simp;omega)];simp [hto]
     rw [e1,ZI (by omega)];simp only [hfull];exact hK2.cv (h6 _ _ _))
  have hun:=hal.nu (k:=κ) own Ad;rw [Bf] at hun;refine⟨_,_,_,_,hr,hun,⟨?_,rfl⟩⟩;simp only [Vw.cB,az];refine⟨_,rfl,grownCap_ge w (n+m) cap e,?_⟩;have hge:=grownCap_ge w (n+m) cap e;simp only [cw,heap_alloc,World.size_drew,if_true,abb,abu,size_zeroCells,hl',hsize,hzs,Zc,aaR];rw [ZF hn,← Y3,← Y3];exact Z8 (by rw [Y5];congr 1;omega)
theorem yM{m:Nat}(hd:∀ d,o.dst=some d→d<c.n)
 (ho:o.op=.call { callee:=.builtin .append,args:=#[y,x],argTypes:=#[T,T] }) (hκ:s.lv κ=.hole) (hy:s.val c.G y=.c (.d .nilsl)) (hT:ff c.P T=some (e,sz))
 (hi:c.P.info? e=some i) (hz:i.zero=some z) (hx:jl s.lv sz (s.val c.G x)=some (m,xs)) (hzs:z.cells.size=sz) (h63:m≤9223372036854775807) (hb:m*i.bytes≤140737488355328) :
 bP c o s (au.put ⟨s.fr,aD s.lv κ (if m=0 then .bk else .cells true false e xs)⟩ o.dst (.c (.aI κ 0 m sz))):=
 bP.eB hd fun F β a w hs=>by
  obtain⟨v,F',β',w',h1,h2,h3⟩:=hs.nJ (ty:=o.type) hκ hT hi hz hx hzs h63 hb;refine⟨v,F',β',w',?_,h2,h3⟩;have hv:=hy ▸ hs.val y;obtain⟨hv,_⟩:=hv;obtain⟨u,hu⟩:∃ u,a.eval y=u:=⟨_,rfl⟩
  rw [hu] at hv
  cases hv
  simp [execOp,ho,resolve,invoke,builtin,hu,h1]
theorem yd{n m:Nat}(hd:∀ d,o.dst=some d→d<c.n)
 (ho:o.op=.call { callee:=.builtin .append,args:=#[y,x],argTypes:=#[T,T] }) (hκ:s.lv κ=.hole) (hT:ff c.P T=some (e,sz))
 (hi:c.P.info? e=some i) (hz:i.zero=some z) (hy:s.val c.G y=.c (.aI k 0 n sz)) (hk:s.lv k=.cells own false e cs) (hfull:cs.length=n*sz)
 (hx:jl s.lv sz (s.val c.G x)=some (m,xs)) (hzs:z.cells.size=sz) (h63:n+m≤9223372036854775807) (hb:(n+m)*i.bytes≤140737488355328) :
 bP c o s (au.put ⟨s.fr,aD (aD s.lv k .dead) κ (.cells own false e (cs++xs))⟩ o.dst (.c (.aI κ 0 (n+m) sz))):=
 bP.eB hd fun F β a w hs=>by
  obtain⟨v,F',β',w',h1,h2,h3⟩:=hs.xl (ty:=o.type) hκ hT hi hz hy hk hfull hx hzs h63 hb;exact⟨v,F',β',w',by simp [execOp,ho,resolve,invoke,builtin,h1],h2,h3⟩
theorem vN{m:Nat}(hd:∀ d,o.dst=some d→d<c.n)
 (ho:o.op=.call { callee:=.builtin .append,args:=#[y,x],argTypes:=#[T,T] }) (hκ:s.lv κ=.hole) (hT:ff c.P T=some (e,sz))
 (hi:c.P.info? e=some i) (hz:i.zero=some z) (hy:s.val c.G y=.c (.aI k 0 0 sz)) (hk:s.lv k=.bk)
 (hx:jl s.lv sz (s.val c.G x)=some (m,xs)) (hzs:z.cells.size=sz) (h63:m≤9223372036854775807) (hb:m*i.bytes≤140737488355328) :
 bP c o s (au.put ⟨s.fr,aD s.lv κ (if m=0 then .bk else .cells true false e xs)⟩ o.dst (.c (.aI κ 0 m sz))):=
 bP.eB hd fun F β a w hs=>by
  obtain⟨v,F',β',w',h1,h2,h3⟩:=hs.nJ (ty:=o.type) hκ hT hi hz hx hzs h63 hb;refine⟨v,F',β',w',?_,h2,h3⟩;have hv:=hy ▸ hs.val y;obtain⟨hv,_⟩:=hv;simp only [Vw.cB,hk] at hv;simp [execOp,ho,resolve,invoke,builtin,hv.1,h1]
end
section
variable {c:Ctx}{F:Nat→Prop}{β:Key→Nat}{s:au}{a:Act}{w:World}
theorem Dd {α:Type}(off:Nat):∀ (vs:List α) (n:Nat) (cells:Array α) (i:Nat),
 ((vs.zipIdx n).foldl (fun cs (p:α × Nat)=>cs.setIfInBounds (off+p.2) p.1) cells)[i]? =
  if off+n≤i∧i<off+n+vs.length∧i<cells.size then vs[i - (off+n)]? else cells[i]?
 | [],n,cells,i=>by
  rw [if_neg (by simp;omega)];rfl
 | v::vs,n,cells,i=>by
  rw [List.zipIdx_cons,abc,Dd off vs (n+1)];simp only [Array.size_setIfInBounds,aa9,Zn]
  by_cases h1:off+n=i
  ·subst h1;rw [if_neg (by omega),if_pos rfl]
   by_cases h2:off+n<cells.size
   ·rw [if_pos h2,if_pos ⟨aW _,by omega,h2⟩,ZJ];rfl
   ·rw [if_neg h2,if_neg (by omega),abv (by omega)]
  ·by_cases h2:off+(n+1)≤i∧i<off+(n+1)+vs.length∧i<cells.size
   ·rw [if_pos h2,if_pos ⟨by omega,by omega,h2.2.2⟩];have:i - (off+n)=(i - (off+(n+1)))+1:=by omega
    rw [this,List.getElem?_cons_succ]
   ·rw [if_neg h2,if_neg h1,if_neg (by omega)]
theorem Ec(off:Nat) (vs cells:Array α) (h:off+vs.size≤cells.size) :
 vs.zipIdx.foldl (fun cs (p:α × Nat)=>cs.setIfInBounds (off+p.2) p.1) cells=(aj cells.toList off vs.toList).toArray:=by
 apply Array.ext_getElem?;intro i;rw [← Array.foldl_toList,Array.toList_zipIdx,Dd];have hle:off+vs.toList.length≤cells.toList.length:=by simpa using h
 have hlen:=aO cells.toList off vs.toList hle
 have hR:(aj cells.toList off vs.toList).toArray[i]?=if off≤i∧i<off+vs.size∧i<cells.size then vs.toList[i - off]? else cells[i]?:=by
  rw [List.getElem?_toArray]
  by_cases hi:i<cells.size
  ·have hi':i<(aj cells.toList off vs.toList).length:=by rw [hlen];simpa using hi
   rw [cn hi',dm _ _ _ hle]
   by_cases h1:off≤i∧i<off+vs.size
   ·rw [if_pos ⟨h1.1,h1.2,hi⟩,dif_pos (by simpa using h1)];exact (cn _).symm
   ·rw [if_neg (by omega),dif_neg (by simpa using h1)];simp [hi]
  ·rw [if_neg (by omega),ZU (by rw [hlen];simp;omega),abv (by omega)]
 rw [hR];simp only [ZT,aaR]
def iT (place:Nat→Option (Nat × Nat))(cells:List CV):List (Nat × AV)→Option (List CV)
 | []=>some cells
 | (i,v)::rest=>
  match place i,v.cells with
  | some (off,size),some cs=>if cs.length=size∧off+size≤cells.length then iT place (aj cells off cs) rest else none
  | _,_=>none
theorem B7 {V:Vw}{place:Nat→Option (Nat × Nat)}:∀ {parts:List (Nat × AV)}{vparts:List (Nat × Value)}{cells cells':List CV}{arr:Array Value},
 iT place cells parts=some cells'→vparts.map (·.1)=parts.map (·.1)→(∀ i (h:i<parts.length) (h':i<vparts.length),V.av vparts[i].2 parts[i].2) →
 arr.size=cells.length→(∀ i (h:i<cells.length) (h':i<arr.size),V.cv arr[i] cells[i]) →
 ∃ arr',Instr.fill place arr vparts=some arr'∧arr'.size=cells'.length∧(∀ i (h:i<cells'.length) (h':i<arr'.size),V.cv arr'[i] cells'[i])
 | [],vparts,cells,cells',arr,h,hi,_,h1,h2=>by
  simp only [iT,ai] at h;subst h
  cases vparts with
  | nil=>exact⟨arr,rfl,h1,h2⟩
  | cons x y=>simp at hi
 | (i,v)::rest,[],cells,cells',arr,h,hi,_,h1,h2=>by simp at hi
 | (i,v)::rest,(j,u)::vrest,cells,cells',arr,h,hi,hv,h1,h2=>by
  simp only [iT] at h;split at h
  ·rename_i off size cs hp hcs
   split at h
   ·rename_i hc
    simp only [Y0,Zh] at hi;obtain⟨rfl,hi⟩:=hi;have hu:V.av u v:=hv 0 (by simp) (by simp);obtain⟨h3,h4⟩:=Vw.kA hu hcs;have hle:off+cs.length≤cells.length:=by omega
    have hle':off+u.cells.toList.length≤arr.toList.length:=by simp;omega
    have hf:Instr.fill place arr ((j,u)::vrest)=Instr.fill place (aj arr.toList off u.cells.toList).toArray vrest:=by
     simp only [Instr.fill,hp];rw [if_neg (by simp;omega),← Ec off u.cells arr (by omega)]
    rw [hf];refine B7 h hi (fun k p q=>hv (k+1) (by simpa using p) (by simpa using q)) ?_ ?_
    ·rw [aO _ _ _ hle];simp [aO _ _ _ hle',h1]
    ·intro k p q;simp only [aaH];rw [dm _ _ _ hle' k (by simpa using q),dm _ _ _ hle k p]
     by_cases hin:off≤k∧k<off+cs.length
     ·rw [dif_pos (by simp;omega),dif_pos hin];simp only [Zw];exact h4 _ _ _
     ·rw [dif_neg (by simp;omega),dif_neg hin];simp only [Zw];exact h2 _ _ _
   ·cases h
  ·cases h
def sM (P:Program)(t:TypeId):Option (Nat→Option (Nat × Nat)):=
 match P.underlying t with
 | some (.array _ e)=>match P.info? e with|some ie=>some (fun i=>some (i*ie.size,ie.size))|none=>none
 | some (.struct fields)=>match fields.toList.mapM (fun f=>(P.info? f.type).map fun i=>(f.offset,i.size)) with
  | some places=>some (places.toArray[·]?)
  | none=>none
 | _=>none
theorem IT{place:Nat→Option (Nat × Nat)}(hd:∀ d,o.dst=some d→d<c.n) (ho:o.op=.build T parts)
 (hz:(c.P.info? T).bind (·.zero)=some z) (hzs:(qV z).cells=some zs) (hp:sM c.P T=some place)
 (hf:iT place zs (parts.toList.map fun p=>(p.1,s.val c.G p.2))=some cs):bP c o s (s.put o.dst (.agg cs)):=
 bP.aU hd fun F β a w hs=>by
  obtain⟨it,hit,hz⟩:=Option.bind_eq_some_iff.1 hz;obtain⟨h1,h2⟩:=Vw.kA (tN (Vw.mk F β s.lv w) z) hzs;obtain⟨arr,h3,h4,h5⟩:=B7 (V:=Vw.mk F β s.lv w) (vparts:=parts.toList.map fun p=>(p.1,a.eval p.2)) hf (by simp) (fun i p q=>by simp only [sr];exact hs.val _) h1 h2;refine⟨.agg arr,?_,arr,rfl,h4,h5⟩
  have hb:c.P.built T (parts.map fun (i,x)=>(i,a.eval x)).toList=some arr:=by
   unfold Program.built;unfold sM at hp;have e1:(parts.map fun (i,x)=>(i,a.eval x)).toList=parts.toList.map fun p=>(p.1,a.eval p.2):=by simp
   rw [e1]
   cases hu:c.P.underlying T with
   | none=>rw [hu] at hp;cases hp
   | some d=>
    rw [hu] at hp
    cases d <;> try (simp at hp;done)
    case array n e=>
     cases hie:c.P.info? e with
     | none=>simp [hie] at hp
     | some ie=>
      simp only [hie,ai] at hp;subst hp;simp only [hit,hz,hie];exact h3
    case struct fields=>
     cases hpl:fields.toList.mapM (fun f=>(c.P.info? f.type).map fun i=>(f.offset,i.size)) with
     | none=>simp [hpl] at hp
     | some places=>
      simp only [hpl,ai] at hp;subst hp;simp only [hit,hz,hpl];exact h3
  simp only [execOp,ho,cK,run_build w T _ arr hb,rP];rfl
theorem xe{n:Nat}(hd:∀ d,o.dst=some d→d<c.n) (ho:o.op=.buildSlice T n parts)
 (hκ:s.lv κ=.hole) (hT:ff c.P T=some (e,sz)) (hz:(c.P.info? e).bind (·.zero)=some z) (hzs:(qV z).cells=some zs) (hsz:zs.length=sz) (hpos:0<sz) (hn:n*sz≤16777216)
 (hf:iT (fun i=>some (i*sz,sz)) (kB n zs) (parts.toList.map fun p=>(p.1,s.val c.G p.2))=some cs) :
 bP c o s (au.put ⟨s.fr,aD s.lv κ (.cells true false e cs)⟩ o.dst (.c (.aI κ 0 n sz))):=
 bP.eB hd fun F β a w hs=>by
  obtain⟨it,hit,hz⟩:=Option.bind_eq_some_iff.1 hz;obtain⟨hu,hie,hsz'⟩:=dL hT;obtain⟨h1,h2⟩:=Vw.kA (tN (Vw.mk F β s.lv w) z) hzs;have hzl:z.cells.size=sz:=by omega
  obtain⟨arr,h3,h4,h5⟩:=B7 (V:=Vw.mk F β s.lv w) (vparts:=parts.toList.map fun p=>(p.1,a.eval p.2)) (arr:=(Array.range (n*sz)).map (z.cells[· % z.cells.size]!)) hf (by simp) (fun i p q=>by simp only [sr];exact hs.val _)
   (by rw [oo,hsz];simp) (fun j p q=>by
    have hm:j % zs.length<zs.length:=Zl _ (by omega);rw [D8 _ _ _ p hm];simp only [abq,Array.getElem_range];rw [getElem!_pos z.cells (j % z.cells.size) (by rw [hzl,← hsz];exact hm)];have:=h2 (j % zs.length) hm (by omega);simp only [h1];exact this)
  have hcl:cs.length=n*sz:=by
   have:∀ (parts:List (Nat × AV)) (cells cells':List CV),iT (fun i=>some (i*sz,sz)) cells parts=some cells'→cells'.length=cells.length:=by
    intro parts
    induction parts with
    | nil=>intro cells cells' h;simp only [iT,ai] at h;rw [h]
    | cons p rest ih=>
     intro cells cells' h;obtain⟨i,v⟩:=p;simp only [iT] at h;split at h
     ·rename_i off size cs' hp hcs
      split at h
      ·rename_i hc
       rw [ih _ _ h,aO _ _ _ (by omega)]
      ·cases h
     ·cases h
   rw [this _ _ _ hf,oo,hsz]
  refine⟨.slice (some ⟨w.heap.size,0,none⟩) n n,F,aD β κ w.heap.size,w.alloc (.cells arr e),?_,hs.alloc hκ e (by omega) h5,⟨?_,rfl⟩⟩
  ·have e1:(parts.map fun (i,x)=>(i,a.eval x)).toList=parts.toList.map fun p=>(p.1,a.eval p.2):=by simp
   have hni:¬ (n*sz > 2 ^ 24):=by omega
   have harr:Instr.fill (fun i=>some (i*sz,sz)) ((Array.range (n*sz)).map ((if n*sz=0 then #[] else z.cells)[· % (if n*sz=0 then (#[]:Array Value) else z.cells).size]!)) (parts.toList.map fun p=>(p.1,a.eval p.2))=some arr:=by
    by_cases h0:n*sz=0
    ·rw [h0] at h3 ⊢;simp only [Array.range_zero',Array.map_empty] at h3 ⊢;exact h3
    ·rw [if_neg h0];exact h3
   by_cases h0:n*sz=0
   ·simp only [if_pos h0] at harr;simp only [execOp,ho,Instr.buildSlice,cK,run_underlying hu,rP,run_sizeOf hie,hsz',if_neg hni,if_pos h0,Zi,e1];rw [harr];simp [newRow]
   ·simp only [if_neg h0] at harr;have hzv:(zeroValue e).run c.P w=.ok z w:=by simp [zeroValue,typeInfo,hit,hz]
    simp only [execOp,ho,Instr.buildSlice,cK,run_underlying hu,rP,run_sizeOf hie,hsz',if_neg hni,if_neg h0,Zi,hzv,e1];rw [harr];simp [newRow]
  ·simp only [Vw.cB,az];refine⟨n,rfl,aW _,?_⟩;simp only [cw,heap_alloc,if_true];omega
end
section
variable {c:Ctx}{F:Nat→Prop}{β:Key→Nat}{s:au}{a:Act}{w:World}
def Sx (op:UnOp)(d:DV):Option DV:=
 match op,d with
 | .not,.bool b=>some (.bool !b)
 | .neg,.int k n=>some (.int k (k.wrap (0 - n)))
 | _,_=>none
theorem Ke{op:UnOp}{d':DV}(hd:∀ d,o.dst=some d→d<c.n) (ho:o.op=.unOp op T x)
 (hx:s.val c.G x=.c (.d d)) (hr:Sx op d=some d'):bP c o s (s.put o.dst (.c (.d d'))):=
 bP.aU hd fun F β a w hs=>by
  have h1:=hx ▸ hs.val x;unfold Sx at hr;split at hr
  ·simp only [ai] at hr;subst hr;exact⟨_,by simp only [execOp,ho,Vw.qp h1,Op.unary];rfl,Vw.m7 _ _⟩
  ·simp only [ai] at hr;subst hr;exact⟨_,by simp only [execOp,ho,Vw.fP h1,Op.unary,Op.intArith];rfl,Vw.jB _ _ _ (wrap_wrap _ _)⟩
  ·cases hr
def pL (P:Program)(T:TypeId):Option IntKind:=match P.underlying T with|some (.int k)=>some k|_=>none
theorem AK{k:IntKind}(h:pL P T=some k):P.underlying T=some (.int k):=by
 unfold pL at h;split at h
 ·simp only [ai] at h;subst h;assumption
 ·cases h
theorem AZ{k:IntKind}(hd:∀ d,o.dst=some d→d<c.n) (ho:o.op=.convert S T x)
 (hx:s.val c.G x=.c (.d (.int k n))) (hS:(pL c.P S).isSome=true) (hT:pL c.P T=some k'):bP c o s (s.put o.dst (.c (.d (.int k' (k'.wrap n))))):=
 bP.aU hd fun F β a w hs=>by
  have h1:=Vw.fP (hx ▸ hs.val x);obtain⟨ks,hS⟩:=Option.isSome_iff_exists.1 hS;refine⟨.int k' (k'.wrap n),?_,Vw.jB _ _ _ (wrap_wrap _ _)⟩;simp only [execOp,ho,h1,convert,cK,run_underlying (AK hS),run_underlying (AK hT),rP,Conv.intToInt];rfl
theorem B5{l:List UInt8}(hd:∀ d,o.dst=some d→d<c.n) (ho:o.op=.convert S T x)
 (hx:s.val c.G x=.c (.d (.str l))) (hS:ct c.P S=true) (hT:ct c.P T=true):bP c o s (s.put o.dst (.c (.d (.str l)))):=
 bP.aU hd fun F β a w hs=>by
  have h1:=Vw.iR (hx ▸ hs.val x);refine⟨.string ⟨l.toArray⟩,?_,Vw.uF _ _ (Vw.Bb (hx ▸ hs.val x))⟩;simp only [execOp,ho,h1,convert,cK,run_underlying (hH hS),run_underlying (hH hT),rP];rfl
def pY:List CV→Option (List DV)
 | []=>some []
 | .d x::r=>(pY r).map (x::·)
 | _=>none
theorem AJ:∀ {cs:List CV}{ds:List DV},pY cs=some ds→cs=ds.map CV.d
 | [],ds,h=>by simp only [pY,ai] at h;subst h;rfl
 | .d x::r,ds,h=>by
  simp only [pY] at h
  cases e:pY r with
  | none=>rw [e] at h;cases h
  | some l=>rw [e] at h;simp only [Zb,ai] at h;subst h;rw [AJ e];rfl
 | .ptr ..::r,ds,h=>by cases h
 | .aI ..::r,ds,h=>by cases h
 | .mapr ..::r,ds,h=>by cases h
 | .func ..::r,ds,h=>by cases h
 | .junk::r,ds,h=>by cases h
 | .ifc ..::r,ds,h=>by cases h
def kW:AV→Option DV
 | .c (.d x)=>some x
 | .agg cs=>(pY cs).map .agg
 | _=>none
theorem Vw.deep{x:AV}(h:V.av v x) (hd:kW x=some d):Rd V.mem v d:=by
 cases x with
 | c y=>
  cases y <;> simp only [kW,ai,reduceCtorEq] at hd
  subst hd;exact h.1
 | agg cs=>
  simp only [kW] at hd
  cases e:pY cs with
  | none=>rw [e] at hd;cases hd
  | some ds=>
   rw [e] at hd;simp only [Zb,ai] at hd;subst hd;have:=AJ e;subst this;obtain⟨arr,rfl,h1,h2⟩:=h;simp only [YX] at h1;refine .agg arr ds h1 (fun i hi=>Vw.eZ (h2 i (by simp;omega) hi)) (fun i hi=>?_);have:=h2 i (by simpa using hi) (by omega);simp only [sr] at this;exact this.1
 | tup l=>cases hd
 | undef=>cases hd
 | junk=>cases hd
theorem DR(hd:∀ d,o.dst=some d→d<c.n) (ho:o.op=.makeInterface T x)
 (hx:kW (s.val c.G x)=some d) (hT:c.P.concrete T=true):bP c o s (s.put o.dst (.c (.d (.iface T d)))):=
 bP.aU hd fun F β a w hs=>by
  have h1:=Vw.deep (hs.val x) hx;exact⟨.iface T (a.eval x),by simp only [execOp,ho,cK,run_makeInterface w T _ hT,rP];rfl,.iface _ _ _ h1,rfl⟩
def l9:CV→Option ij
 | .d x=>some (.d x)
 | .ptr k o=>some (.ptr k o)
 | .aI k o l z=>some (.aI k o l z)
 | _=>none
def DQ:List CV→Option (List ij)
 | []=>some []
 | x::r=>match l9 x,DQ r with|some y,some l=>some (y::l)|_,_=>none
theorem Vw.NQ{x:CV}{r:ij}(h:V.cv v x) (hr:Am.l9 x=some r):V.l9 v r:=by
 cases x <;> simp only [Am.l9,ai,reduceCtorEq] at hr
 all_goals subst hr
 all_goals exact h
theorem Au:∀ {xs:List CV}{rs:List ij},DQ xs=some rs→rs.length=xs.length∧∀ i (h:i<rs.length) (h':i<xs.length),l9 xs[i]=some rs[i]
 | [],rs,h=>by simp only [DQ,ai] at h;subst h;simp
 | x::xs,rs,h=>by
  simp only [DQ] at h;split at h
  ·rename_i y l hy hl
   simp only [ai] at h;subst h;obtain⟨h1,h2⟩:=Au hl;refine⟨by simp [h1],fun i p q=>?_⟩
   cases i with
   | zero=>exact hy
   | succ i=>exact h2 i (by simpa using p) (by simpa using q)
  ·cases h
def xI:AV→Option Ref
 | .c (.d x)=>some (.d x)
 | .c (.ptr k o)=>some (.ptr k o)
 | .c (.aI k o l z)=>some (.aI k o l z)
 | .c (.ifc t x)=>some (.ifc t x)
 | .agg cs=>match pY cs with|some l=>some (.d (.agg l))|none=>(DQ cs).map .agg
 | _=>none
theorem Vw.xI{x:AV}{r:Ref}(h:V.av v x) (hr:Am.xI x=some r):V.ref v r:=by
 cases x with
 | c y=>
  cases y <;> simp only [Am.xI,ai,reduceCtorEq] at hr
  all_goals subst hr
  ·exact h.1
  ·exact h
  ·exact h
  ·exact h
 | agg cs=>
  simp only [Am.xI] at hr
  cases e:pY cs with
  | none=>
   rw [e] at hr;simp only [Y8] at hr;obtain⟨rs,h1,rfl⟩:=hr;obtain⟨arr,rfl,h2,h3⟩:=h;obtain⟨h4,h5⟩:=Au h1;exact⟨arr,rfl,by omega,fun i p q=>Vw.NQ (h3 i (by omega) q) (h5 i p (by omega))⟩
  | some ds=>
   rw [e] at hr;simp only [ai] at hr;subst hr;exact Vw.deep (x:=.agg cs) h (by simp [kW,e])
 | tup l=>cases hr
 | undef=>cases hr
 | junk=>cases hr
def qZ:List AV→Option (List Ref)
 | []=>some []
 | x::r=>match xI x,qZ r with|some y,some l=>some (y::l)|_,_=>none
theorem xd {V:Vw}:∀ {vs:List Value}{xs:List AV}{rs:List Ref},qZ xs=some rs→vs.length=xs.length →
 (∀ i (h:i<xs.length) (h':i<vs.length),V.av vs[i] xs[i])→rs.length=vs.length∧∀ i (h:i<rs.length) (h':i<vs.length),V.ref vs[i] rs[i]
 | [],[],rs,h,_,_=>by simp only [qZ,ai] at h;subst h;simp
 | [],x::xs,rs,_,hl,_=>by simp at hl
 | v::vs,[],rs,_,hl,_=>by simp at hl
 | v::vs,x::xs,rs,h,hl,hv=>by
  simp only [qZ] at h;split at h
  ·rename_i y l hy hl'
   simp only [ai] at h;subst h;obtain⟨h1,h2⟩:=xd hl' (by simpa using hl) (fun i p q=>hv (i+1) (by simpa using p) (by simpa using q));refine⟨by simp [h1],fun i p q=>?_⟩
   cases i with
   | zero=>exact Vw.xI (hv 0 (by simp) (by simp)) hy
   | succ i=>exact h2 i (by simpa using p) (by simpa using q)
  ·cases h
def iK:List Ref→Option (List DV)
 | []=>some []
 | .d x::r=>(iK r).map (x::·)
 | _=>none
theorem ng:∀ {rs:List Ref}{ds:List DV},iK rs=some ds→rs=ds.map Ref.d
 | [],ds,h=>by simp only [iK,ai] at h;subst h;rfl
 | .d x::r,ds,h=>by
  simp only [iK] at h
  cases e:iK r with
  | none=>rw [e] at h;cases h
  | some l=>rw [e] at h;simp only [Zb,ai] at h;subst h;rw [ng e];rfl
 | .ptr ..::r,ds,h=>by cases h
 | .aI ..::r,ds,h=>by cases h
 | .agg ..::r,ds,h=>by cases h
 | .ifc ..::r,ds,h=>by cases h
def zI (fn:Fn)(fs cs:List Ref):CV:=
 match iK fs,iK cs with
 | some fd,some cd=>.d (.func fn fd cd)
 | _,_=>.func fn fs cs
theorem Vw.zI{fs cs:Array Value}(h1:fs.size=fr.length) (h2:cs.size=cr.length)
 (h3:∀ i (h:i<fr.length) (h':i<fs.size),V.ref fs[i] fr[i]) (h4:∀ i (h:i<cr.length) (h':i<cs.size),V.ref cs[i] cr[i]) :
 V.cv (.func fn fs cs) (Am.zI fn fr cr):=by
 unfold Am.zI;split
 ·rename_i fd cd hf hc
  have:=ng hf;subst this;have:=ng hc;subst this;simp only [YX] at h1 h2;refine⟨.func fn fs cs fd cd h1 h2 (fun i hi=>?_) (fun i hi=>?_),rfl⟩
  ·have:=h3 i (by simpa using hi) (by omega);simp only [sr] at this;exact this
  ·have:=h4 i (by simpa using hi) (by omega);simp only [sr] at this;exact this
 ·exact⟨fs,cs,rfl,h1,h2,h3,h4⟩
theorem FX{first caps:Array Operand}(hd:∀ d,o.dst=some d→d<c.n) (ho:o.op=.makeFunc fn first caps)
 (hf:qZ (first.toList.map (s.val c.G))=some fr) (hc:qZ (caps.toList.map (s.val c.G))=some cr):bP c o s (s.put o.dst (.c (zI fn fr cr))):=
 bP.aU hd fun F β a w hs=>by
  obtain⟨h1,h2⟩:=xd (V:=Vw.mk F β s.lv w) (vs:=first.toList.map a.eval) hf (by simp) (fun i p q=>by simp only [sr];exact hs.val _);obtain⟨h3,h4⟩:=xd (V:=Vw.mk F β s.lv w) (vs:=caps.toList.map a.eval) hc (by simp) (fun i p q=>by simp only [sr];exact hs.val _);refine⟨.func fn (first.map a.eval) (caps.map a.eval),by simp [execOp,ho,Instr.makeFunc],?_⟩;refine Vw.zI (by simpa using h1.symm) (by simpa using h3.symm) (fun i p q=>?_) (fun i p q=>?_)
  ·have:=h2 i p (by simpa using q);simpa using this
  ·have:=h4 i p (by simpa using q);simpa using this
def zl (P:Program):Nat→TypeId→AV→AV→Option Bool
 | 0,_,_,_=>none
 | d+1,t,x,y=>
  match P.underlying t,x,y with
  | some .bool,.c (.d (.bool a)),.c (.d (.bool b))=>some (a == b)
  | some (.int _),.c (.d (.int k a)),.c (.d (.int k' b))=>if k=k' then some (a == b) else none
  | some .string,.c (.d (.str a)),.c (.d (.str b))=>some (a == b)
  | some (.pointer _),.c (.d .nilp),.c (.d .nilp)=>some true
  | some (.pointer _),.c (.d .nilp),.c (.d (.ptr _))=>some false
  | some (.pointer _),.c (.d (.ptr _)),.c (.d .nilp)=>some false
  | some (.slice _),.c (.d .nilsl),.c (.d .nilsl)=>some true
  | some (.slice _),.c (.d .nilsl),.c (.d (.sl _))=>some false
  | some (.slice _),.c (.d (.sl _)),.c (.d .nilsl)=>some false
  | some (.interface _),.c (.d .nilIface),.c (.d (.iface _ _))=>some false
  | some (.interface _),.c (.d (.iface _ _)),.c (.d .nilIface)=>some false
  | some (.struct fields),.agg xs,.agg ys=>if P.stoodInHeld t then none else
   fields.toList.foldr (fun f r=>if f.name ≠ "_" then (match nw P f.type xs f.offset,nw P f.type ys f.offset with
    | some u,some v=>match zl P d f.type u v,r with|some b,some r=>some (b && r)|_,_=>none
    | _,_=>none) else r) (some true)
  | _,_,_=>none
theorem Cw {P:Program}(V:Vw):∀ (d:Nat) (t:TypeId) (x y:AV) (b:Bool),zl P d t x y=some b→∀ (u v:Value),V.av u x→V.av v y→∀ n,d≤n →
 (Op.equalIn n t u v).run P V.w=.ok b V.w
 | 0,_,_,_,_,h=>by cases h
 | d+1,t,x,y,b,h=>by
  intro u v hu hv n hn;obtain⟨m,rfl⟩:∃ m,n=m+1:=⟨n - 1,by omega⟩
  unfold zl at h;split at h
  ·rename_i hT
   simp only [ai] at h;subst h;rw [Vw.qp hu,Vw.qp hv];exact run_equalIn_bool' V.w m t _ _ hT
  ·rename_i hT
   split at h
   ·rename_i hk;subst hk
    simp only [ai] at h;subst h;rw [Vw.fP hu,Vw.fP hv];exact run_equalIn_int V.w m t _ _ _ _ hT
   ·cases h
  ·rename_i hT
   simp only [ai] at h;subst h;rw [Vw.iR hu,Vw.iR hv,run_equalIn_string V.w m t _ _ hT,toList_mk,toList_mk]
  ·rename_i hT;simp only [ai] at h;subst h
   obtain⟨hu,_⟩:=hu;obtain⟨hv,_⟩:=hv;cases hu;cases hv;simp [Op.equalIn,run_underlying hT]
  ·rename_i hT;simp only [ai] at h;subst h
   obtain⟨hu,_⟩:=hu;obtain⟨hv,_⟩:=hv;cases hu;cases hv;simp [Op.equalIn,run_underlying hT]
  ·rename_i hT;simp only [ai] at h;subst h
   obtain⟨hu,_⟩:=hu;obtain⟨hv,_⟩:=hv;cases hu;cases hv;simp [Op.equalIn,run_underlying hT]
  ·rename_i hT;simp only [ai] at h;subst h
   obtain⟨hu,_⟩:=hu;obtain⟨hv,_⟩:=hv;cases hu;cases hv;simp [Op.equalIn,run_underlying hT]
  ·rename_i hT;simp only [ai] at h;subst h
   obtain⟨hu,_⟩:=hu;obtain⟨hv,_⟩:=hv;cases hu;cases hv;simp [Op.equalIn,run_underlying hT]
  ·rename_i hT;simp only [ai] at h;subst h
   obtain⟨hu,_⟩:=hu;obtain⟨hv,_⟩:=hv;cases hu;cases hv;simp [Op.equalIn,run_underlying hT]
  ·rename_i hT;simp only [ai] at h;subst h
   obtain⟨hu,_⟩:=hu;obtain⟨hv,_⟩:=hv;cases hu;cases hv;simp [Op.equalIn,run_underlying hT]
  ·rename_i hT;simp only [ai] at h;subst h
   obtain⟨hu,_⟩:=hu;obtain⟨hv,_⟩:=hv;cases hu;cases hv;simp [Op.equalIn,run_underlying hT]
  ·rename_i fields xs ys hT
   split at h
   ·cases h
   ·rename_i hst
    obtain⟨ax,rfl,hx1,hx2⟩:=hu;obtain⟨ay,rfl,hy1,hy2⟩:=hv;have hfo:P.fieldsOf t=fields:=by simp [Program.fieldsOf,hT]
    rw [run_equalIn_struct V.w m t ax ay (by rw [hfo];exact hT) (by simpa using hst),hfo];clear hT hfo;generalize fields.toList=fs at h
    induction fs generalizing b with
    | nil=>simp only [List.foldr_nil,ai] at h;subst h;simp [Op.eqFields]
    | cons f fs ih=>
     simp only [List.foldr_cons] at h;simp only [Op.eqFields];split at h
     ·rename_i hnm
      rw [if_pos hnm];split at h
      ·rename_i p q hp hq
       split at h
       ·rename_i b1 r1 he hr
        simp only [ai] at h;subst h;obtain⟨v1,e1,e2⟩:=sK V hp ax hx1 hx2;obtain⟨v2,e3,e4⟩:=sK V hq ay hy1 hy2;have e5:=Cw V d f.type p q b1 he v1 v2 e2 e4 m (by omega);simp only [cK,e1,e3,e5,rP]
        cases b1 with
        | false=>simp
        | true=>simp only [Bool.not_true,Y2,if_false,Bool.true_and];exact ih r1 hr
       ·cases h
      ·cases h
     ·rename_i hnm
      rw [if_neg hnm];exact ih b h
  ·cases h
theorem JR{T0:TypeId}{n m:Nat}(hd:∀ d,o.dst=some d→d<c.n) (ho:o.op=.call { callee:=.builtin .copy,args:=#[y,x],argTypes:=#[T,T'] })
 (hy:s.val c.G y=.c (.aI k off n 1)) (hk:s.lv k=.cells own false T0 cs) (hT:ff c.P T=some (e,1)) (hx:jl s.lv 1 (s.val c.G x)=some (m,xs)) (hm:0<m) (hoff:off+min m n≤cs.length) (hn:n≤9223372036854775807) :
 bP c o s (au.put ⟨s.fr,aD s.lv k (.cells own false T0 (aj cs off (xs.take (min m n))))⟩ o.dst (.c (.d (.int .i64 ((min m n:Nat):Int))))):=
 bP.eB hd fun F β a w hs=>by
  have h1:=hy ▸ hs.val y;obtain⟨h1,_⟩:=h1;simp only [Vw.cB,hk] at h1;obtain⟨cap,h1,_,_⟩:=h1;have hb:=hs.bx k;unfold Vw.bx at hb;simp only [hk] at hb;obtain⟨arr,h2,h3,h4,_⟩:=hb;obtain⟨hu,hie,hsz⟩:=dL hT;obtain⟨hl,ao,scap,hsx,hnone,hspot,vs,hvl,hvc,hvr⟩:=hs.src hx
  cases ao with
  | none=>have:=hnone rfl;omega
  | some ad=>
   have hlen:(vs.take (min m n)).length=min m n:=by rw [Zc,hvl,hl];omega
   have hone:∀ v∈vs.take (min m n),v.oneCell'=true:=by
    intro v hv;obtain⟨i,hi,rfl⟩:=List.mem_iff_getElem.1 (Z6 hv);exact Vw.eZ (hvr i (by omega) hi)
   have hs1:(c.P.info? e).map (·.size)=some 1:=by
    obtain⟨i,hi⟩:=Option.isSome_iff_exists.1 hie;rw [hi];simp [gb,hi] at hsz;simp [hsz]
   have hrun:=run_copy_row c.P w T T' o.type e (β k) off n cap ad m scap arr T0 (vs.take (min m n)) hu hs1 h2 hlen
    (fun j v hj=>hvc ad rfl j v (by rw [aaT] at hj;split at hj;exact hj;cases hj)) (by rw [hlen];omega) hone
   have hset:arr.toList.take off++vs.take (min m n)++arr.toList.drop (off+(vs.take (min m n)).length)=aj arr.toList off (vs.take (min m n)):=rfl;have hle:off+(vs.take (min m n)).length≤arr.toList.length:=by rw [hlen,aaR];omega
   have hxl:(xs.take (min m n)).length=min m n:=by rw [Zc,hl];omega
   have hle2:off+(xs.take (min m n)).length≤cs.length:=by rw [hxl];omega
   refine⟨.int .i64 ((min m n:Nat):Int),F,β,_,?_,hs.setRow (arr:=(aj arr.toList off (vs.take (min m n))).toArray) hk h2 (by simp [aO _ _ _ hle]) (by rw [aO _ _ _ hle2];simp [aO _ _ _ hle];omega) ?_,?_⟩
   ·rw [hlen] at hrun;simp [execOp,ho,resolve,invoke,builtin,h1,hsx,hrun,goInt,aj,hlen]
   ·intro i p q;simp only [aaH];rw [dm _ _ _ hle i (by simpa using q),dm _ _ _ hle2 i p]
    by_cases hin:off≤i∧i<off+min m n
    ·rw [dif_pos (by rw [hlen];exact hin),dif_pos (by rw [hxl];exact hin)];simp only [aaI];exact hvr _ _ _
    ·rw [dif_neg (by rw [hlen];exact hin),dif_neg (by rw [hxl];exact hin)];simp only [Zw];exact h4 _ _ _
   ·exact Vw.jB _ _ _ (c9 (by simp only [CF,qd];omega))
end
def ij.br (g:Key→Key):ij→ij
 | .d x=>.d x
 | .ptr k o=>.ptr (g k) o
 | .aI k o l z=>.aI (g k) o l z
def Ref.br (g:Key→Key):Ref→Ref
 | .d x=>.d x
 | .ptr k o=>.ptr (g k) o
 | .aI k o l z=>.aI (g k) o l z
 | .agg cs=>.agg (cs.map (ij.br g))
 | .ifc t x=>.ifc t (x.br g)
def CV.br (g:Key→Key):CV→CV
 | .d x=>.d x
 | .ptr k o=>.ptr (g k) o
 | .aI k o l z=>.aI (g k) o l z
 | .mapr k=>.mapr (g k)
 | .func fn f c=>.func fn (f.map (Ref.br g)) (c.map (Ref.br g))
 | .ifc t x=>.ifc t (x.br g)
 | .junk=>.junk
def AV.kM (g:Key→Key):AV→AV
 | .c x=>.c (x.br g)
 | .agg cs=>.agg (cs.map (CV.br g))
 | .tup _=>.junk
 | .undef=>.undef
 | .junk=>.junk
def AV.br (g:Key→Key):AV→AV
 | .tup l=>.tup (l.map (AV.kM g))
 | x=>x.kM g
def LB.zk (x y:LB):Prop:=
 match x,y with
 | .hole,.hole=>True
 | _,.dead=>x≠.hole
 | .bk,.bk=>True
 | .cells ..,.cells ..=>True
 | .map ..,.map ..=>True
 | _,_=>False
structure Vw.Ren (V V2:Vw) (g:Key→Key):Prop where
 F:V2.F=V.F
 w:V2.w=V.w
 β:∀ k,V2.lv k≠.hole→V2.β k=V.β (g k)
 zk:∀ k,(V.lv (g k)).zk (V2.lv k)
section
variable {V V2:Vw}{g:Key→Key}
theorem Vw.Ren.mem (h:V.Ren V2 g):V2.mem=V.mem:=by
 unfold Vw.mem;rw [h.F,h.w]
theorem Vw.Ren.ptr (h:V.Ren V2 g)(hv:V.de v (g k) off):V2.de v k off:=by
 have h1:=h.zk k;have h2:=h.β k;unfold Vw.de at *
 cases e:V.lv (g k) <;> cases e':V2.lv k <;> simp [e,e',LB.zk] at h1 h2 hv ⊢ <;> (try rw [h2]) <;> assumption
theorem Vw.Ren.aI (h:V.Ren V2 g)(hv:V.cB v (g k) off len sz):V2.cB v k off len sz:=by
 have h1:=h.zk k;have h2:=h.β k;unfold Vw.cB at *
 rw [h.w]
 cases e:V.lv (g k) <;> cases e':V2.lv k <;> simp [e,e',LB.zk] at h1 h2 hv ⊢ <;> (try rw [h2]) <;> assumption
theorem Vw.Ren.map (h:V.Ren V2 g)(hv:V.ku v (g k)):V2.ku v k:=by
 have h1:=h.zk k;have h2:=h.β k;unfold Vw.ku at *
 cases e:V.lv (g k) <;> cases e':V2.lv k <;> simp [e,e',LB.zk] at h1 h2 hv ⊢ <;> (try rw [h2]) <;> assumption
theorem Vw.Ren.l9 (h:V.Ren V2 g){x:ij}(hv:V.l9 v (x.br g)):V2.l9 v x:=by
 cases x with
 | d x=>exact⟨by rw [h.mem];exact hv.1,hv.2⟩
 | ptr k off=>exact⟨h.ptr hv.1,hv.2⟩
 | aI k off len sz=>exact⟨h.aI hv.1,hv.2⟩
theorem Vw.Ren.ref (h:V.Ren V2 g){x:Ref}(hv:V.ref v (x.br g)):V2.ref v x:=by
 induction x generalizing v with
 | d x=>show Rd V2.mem v x;rw [h.mem];exact hv
 | ptr k off=>exact⟨h.ptr hv.1,hv.2⟩
 | aI k off len sz=>exact⟨h.aI hv.1,hv.2⟩
 | agg cs=>
  obtain⟨arr,rfl,h1,h2⟩:=hv;refine⟨arr,rfl,by simpa using h1,fun i a b=>?_⟩;have:=h2 i (by simpa using a) b;simp only [sr] at this;exact h.l9 this
 | ifc t x ih=>obtain⟨v',rfl,h1⟩:=hv;exact⟨v',rfl,ih h1⟩
theorem Vw.Ren.cv (h:V.Ren V2 g){x:CV}(hv:V.cv v (x.br g)):V2.cv v x:=by
 cases x with
 | d x=>exact⟨by rw [h.mem];exact hv.1,hv.2⟩
 | ptr k off=>exact⟨h.ptr hv.1,hv.2⟩
 | aI k off len sz=>exact⟨h.aI hv.1,hv.2⟩
 | mapr k=>exact⟨h.map hv.1,hv.2⟩
 | func fn f c=>
  obtain⟨fs,cs,rfl,h1,h2,h3,h4⟩:=hv;simp only [YX] at h1 h2;refine⟨fs,cs,rfl,h1,h2,fun i a b=>h.ref ?_,fun i a b=>h.ref ?_⟩
  ·have:=h3 i (by simpa using a) b;simpa using this
  ·have:=h4 i (by simpa using a) b;simpa using this
 | ifc t x=>
  obtain⟨v',rfl,h1⟩:=hv;exact⟨v',rfl,h.ref h1⟩
 | junk=>exact hv
theorem Vw.Ren.kF (h:V.Ren V2 g){x:AV}(hv:V.kF v (x.kM g)):V2.kF v x∨∃ l,x=.tup l:=by
 cases x with
 | c x=>exact .inl (h.cv (x:=x) hv)
 | agg cs=>
  obtain⟨arr,rfl,h1,h2⟩:=hv;simp only [YX] at h1;refine .inl ⟨arr,rfl,h1,fun i a b=>h.cv ?_⟩;have:=h2 i (by simpa using a) b;simpa using this
 | tup l=>exact .inr ⟨l,rfl⟩
 | undef=>exact .inl hv
 | junk=>exact .inl trivial
def AV.bu:AV→Bool
 | .tup l=>l.all fun x=>match x with|.tup _=>false|_=>true
 | _=>true
theorem Vw.Ren.av (h:V.Ren V2 g){x:AV}(hx:x.bu=true) (hv:V.av v (x.br g)):V2.av v x:=by
 cases x with
 | tup l=>
  obtain⟨arr,rfl,h1,h2⟩:=hv;simp only [YX] at h1;refine⟨arr,rfl,h1,fun i a b=>?_⟩;have h3:=h2 i (by simpa using a) b;simp only [sr] at h3;rcases h.kF h3 with h4|⟨l',h4⟩
  ·exact h4
  ·simp only [AV.bu,YU] at hx;have:=hx _ (cq a);rw [h4] at this;simp at this
 | c x=>
  rcases h.kF (x:=.c x) hv with h|⟨l,h⟩
  ·exact h
  ·cases h
 | agg cs=>
  rcases h.kF (x:=.agg cs) hv with h|⟨l,h⟩
  ·exact h
  ·cases h
 | undef=>exact hv
 | junk=>trivial
end
def LB.br (g:Key→Key):LB→LB
 | .cells own fz T cs=>.cells own fz T (cs.map (CV.br g))
 | .map own es=>.map own (es.map fun p=>(p.1,p.2.kM g))
 | x=>x
def LB.as (x y:LB)(g:Key→Key):Prop:=
 match y with
 | .hole=>x=.hole
 | .dead=>x≠.hole
 | .bk=>x=.bk
 | .cells own fz T cs=>∃ own' cs',x=.cells own' fz T cs'∧cs'=cs.map (CV.br g)∧(own=true→own'=true)
 | .map own es=>∃ own' es',x=.map own' es'∧es'=es.map (fun p=>(p.1,p.2.kM g))∧(own=true→own'=true)∧∀ p∈es,∀ l,p.2≠.tup l
theorem LB.yC {x y:LB}(h:x.as y g):x.zk y:=by
 cases y <;> cases x <;> simp [LB.as,LB.zk] at h ⊢
theorem qm{own':Bool}{b:Nat}(h:eH c own' b) (hw:own=true→own'=true):eH c own b:=by
 unfold eH at *
 cases own with
 | true=>rw [hw rfl] at h;exact h
 | false=>cases own' <;> simp at h ⊢
          ·exact h
          ·exact .inl h
structure dn (c:Ctx) (s s2:au) (g:Key→Key):Prop where
 as:∀ k,(s.lv (g k)).as (s2.lv k) g
 inj:∀ k k',(s2.lv k).live=true→(s2.lv k').live=true→g k=g k'→k=k'
 fr:∀ t,s2.fr t=.junk∨((s2.fr t).bu=true∧s.fr t=(s2.fr t).br g)
 keep:∀ k,c.js k≠.hole→s2.lv k=.dead∨g k=k
theorem aE.coarse{s2:au}(h:aE c F β s a w) (hc:dn c s s2 g) :
 aE c F (fun k=>β (g k)) s2 a w:=by
 have hR:(Vw.mk F β s.lv w).Ren (Vw.mk F (fun k=>β (g k)) s2.lv w) g:=⟨rfl,rfl,fun _ _=>rfl,fun k=>LB.yC (hc.as k)⟩
 have hlive:∀ k,(s2.lv k).live=true→(s.lv (g k)).live=true:=by
  intro k hk;have:=hc.as k
  cases e:s2.lv k with
  | cells own fz T cs=>
   rw [e] at this hk;obtain⟨own',cs',h1,_⟩:=this
   cases fz with
   | false=>rw [h1];rfl
   | true=>cases hk
  | map own es=>rw [e] at this;obtain⟨own',es',h1,_⟩:=this;rw [h1];rfl
  | hole=>rw [e] at hk;cases hk
  | dead=>rw [e] at hk;cases hk
  | bk=>rw [e] at hk;cases hk
 refine⟨?_,?_,?_,h.size,h.defers,h.mh,h.F0,h.old,h.ge,h.pK,?_,h.Ht,h.Et⟩
 ·intro k;have hb:=h.bx (g k);have ha:=hc.as k;unfold Vw.bx at hb ⊢
  cases e:s2.lv k with
  | cells own fz T cs=>
   rw [e] at ha;obtain⟨own',cs',h1,h2,h3⟩:=ha;simp only [h1] at hb;obtain⟨arr,b1,b2,b3,b4,b5⟩:=hb;subst h2;simp only [e];refine⟨arr,b1,by simpa using b2,fun i p q=>hR.cv ?_,b4,qm b5 h3⟩;have:=b3 i (by simpa using p) q;simpa using this
  | map own es=>
   rw [e] at ha;obtain⟨own',es',h1,h2,h3,h4⟩:=ha;simp only [h1] at hb;obtain⟨ents,clock,b1,b2,b3,b4,b5⟩:=hb;subst h2;simp only [YX] at b2;simp only [e];refine⟨ents,clock,b1,b2,fun i p q=>?_,b4,qm b5 h3⟩;have:=b3 i (by simpa using p) q;simp only [sr] at this;refine⟨this.1,?_⟩;rcases hR.kF this.2 with h5|⟨l,h5⟩
   ·exact h5
   ·exact absurd h5 (h4 _ (cq p) l)
  | hole=>simp only [e]
  | dead=>simp only [e]
  | bk=>simp only [e]
 ·intro k k' h1 h2 he;exact hc.inj k k' h1 h2 (h.inj _ _ (hlive k h1) (hlive k' h2) he)
 ·intro t;rcases hc.fr t with h1|⟨h1,h2⟩
  ·rw [h1];trivial
  ·exact hR.av h1 (h2 ▸ h.fr t)
 ·intro k h0;rcases hc.keep k h0 with h1|h1
  ·exact .inl h1
  ·have ha:=hc.as k;rw [h1] at ha;rcases h.keep k h0 with h2|⟨h2,h3⟩
   ·left;rw [h2] at ha
    cases e:s2.lv k <;> rw [e] at ha <;> simp [LB.as] at ha ⊢
   ·by_cases hd:s2.lv k=.dead
    ·exact .inl hd
    ·right;refine⟨by rw [h1];exact h2,?_⟩;have hk:=LB.yC ha;refine LB.AF h3 ?_ h0
     cases e:s2.lv k <;> cases e':s.lv k <;> rw [e,e'] at hk <;> simp [LB.zk,LB.sub] at hk ⊢
def bn (σ ν:List LB):Key→LB:=fun k=>if k<1000 then σ.getD k .hole else ν.getD (k - 1000) .hole
def cQ (P:Program)(G:List (List DV))(w:World)(F:Nat→Prop)(β:Key→Nat)(lv:Key→LB):Ctx:=
 ⟨P,G,w,F,fun b=>∃ k,(lv k).live=true∧β k=b,0,lv,β⟩
def cG (c:Ctx)(F:Nat→Prop)(β:Key→Nat)(lv:Key→LB)(w:World):Prop:=
 aE { c with n:=0 } F β ⟨fun _=>.junk,lv⟩ ⟨#[],[]⟩ w
theorem aE.wu(h:aE c F β s a w):cG c F β s.lv w:=
 ⟨h.bx,h.inj,fun _=>trivial,rfl,rfl,h.mh,h.F0,h.old,h.ge,h.pK,h.keep,h.Ht,h.Et⟩
theorem cG.with(h:cG c F β lv w) {fr:Nat→AV}(h1:a.tmps.size=c.n) (h2:a.defers=[])
 (h3:∀ t,(Vw.mk F β lv w).av (a.tmps.getD t undef) (fr t)):aE c F β ⟨fr,lv⟩ a w:=
 ⟨h.bx,h.inj,h3,h1,h2,h.mh,h.F0,h.old,h.ge,h.pK,h.keep,h.Ht,h.Et⟩
inductive Out where
 | ret (x:AV) (σ ν:List LB)
 | tq (d:DV)
def LB.QF (x:LB):LB:=match x with|.hole=>.hole|_=>.dead
def Ww (P:Program)(G:List (List DV))(σ:List LB)(F:Nat→Prop)(β:Key→Nat)(w:World)(o:Out)(e:Ending)(w':World):Prop:=
 match o with
 | .ret x σ' ν=>∃ v F' β',e=.returned v∧cG (cQ P G w F β (bn σ [])) F' β' (bn σ' ν) w'∧(Vw.mk F' β' (bn σ' ν) w').av v x
 | .tq d=>∃ v F' β',e=.panicked [{ v:=v,recovered:=false }]∧cG (cQ P G w F β (bn σ [])) F' β' (fun k=>(bn σ [] k).QF) w'∧Rd (kI w' F') v d
def aG (P:Program)(G:List (List DV))(f:FuncId)(args:List AV)(σ:List LB)(o:Out):Prop:=
 ∀ (F:Nat→Prop) (β:Key→Nat) (w:World) (vs:Array Value),cG (cQ P G w F β (bn σ [])) F β (bn σ []) w→vs.size=args.length →
  (∀ i (h:i<args.length) (h':i<vs.size),(Vw.mk F β (bn σ []) w).av vs[i] args[i])→Calls P f vs w (Ww P G σ F β w o)
def aa (P:Program)(G:List (List DV))(f:FuncId)(args:List AV)(x:AV):Prop:=aG P G f args [] (.ret x [] [])
def chunk(sz n:Nat) (l:List α):List (List α):=(List.range n).map fun i=>(l.drop (i*sz)).take sz
def fG (f:CV→Option (DV × List Key)):List CV→Option (List DV × List Key)
 | []=>some ([],[])
 | x::r=>match f x,fG f r with
  | some (d,k),some (l,ks)=>some (d::l,k++ks)
  | _,_=>none
def cC (lv:Key→LB):Nat→CV→Option (DV × List Key)
 | _,.d x=>some (x,[])
 | n+1,.ptr k off=>match lv k with
  | .cells _ _ _ cs=>if off≤cs.length then (fG (cC lv n) (cs.drop off)).map fun p=>(.ptr p.1,k::p.2) else none
  | _=>none
 | n+1,.aI k off len sz=>match lv k with
  | .cells _ _ _ cs=>if off+len*sz≤cs.length∧len≤9223372036854775807 then (fG (cC lv n) ((cs.drop off).take (len*sz))).map fun p=>(.sl (chunk sz len p.1),k::p.2) else none
  | .bk=>some (.nilsl,[])
  | _=>none
 | _,_=>none
theorem oI {f:CV→Option (DV × List Key)}:∀ {cs:List CV}{l:List DV}{ks:List Key},fG f cs=some (l,ks)→l.length=cs.length ∧
 ∀ i (h:i<l.length) (h':i<cs.length),∃ k,f cs[i]=some (l[i],k)∧∀ x∈k,x∈ks
 | [],l,ks,h=>by simp only [fG,ai,fy] at h;obtain⟨rfl,rfl⟩:=h;simp
 | x::r,l,ks,h=>by
  simp only [fG] at h;split at h
  ·rename_i d k l' ks' h1 h2
   simp only [ai,fy] at h;obtain⟨rfl,rfl⟩:=h;obtain⟨h3,h4⟩:=oI h2;refine⟨by simp [h3],fun i p q=>?_⟩
   cases i with
   | zero=>exact⟨k,h1,fun x hx=>aaU _ hx⟩
   | succ i=>
    obtain⟨k',h5,h6⟩:=h4 i (by simpa using p) (by simpa using q);exact⟨k',h5,fun x hx=>aa2 _ (h6 x hx)⟩
  ·cases h
section
variable {c:Ctx}{F:Nat→Prop}{β:Key→Nat}{s:au}{a:Act}{w:World}
theorem cG.cC (h:cG c F β s.lv w)(hF:∀ b,F b→Fz b):∀ (n:Nat) (x:CV) (d:DV) (ks:List Key) (v:Value),Am.cC s.lv n x=some (d,ks)→(∀ k∈ks,Fz (β k)) →
 (Vw.mk F β s.lv w).cv v x→Rd (kI w Fz) v d
 | n,.d x,d,ks,v,ht,hk,hv=>by
  simp only [Am.cC,ai,fy] at ht;obtain⟨rfl,rfl⟩:=ht;exact Rd.mono (gm hF (fun _ _=>rfl)) hv.1
 | n+1,.ptr k off,d,ks,v,ht,hk,hv=>by
  simp only [Am.cC] at ht;split at ht
  ·rename_i own fz T cs e
   split at ht
   ·rename_i hoff
    rw [Y8] at ht;obtain⟨⟨l,ks'⟩,ht,he⟩:=ht;simp only [fy] at he;obtain⟨rfl,rfl⟩:=he;obtain⟨h1,h2⟩:=oI ht;have hb:=h.bx k;unfold Vw.bx at hb;simp only [e] at hb;obtain⟨arr,b1,b2,b3,_⟩:=hb;obtain⟨hv,_⟩:=hv;simp only [Vw.de,e] at hv;subst hv;simp only [abd] at h1;refine .ptr (β k) off (fun i=>arr.getD (off+i) undef) l (fun i hi=>⟨hk k (by simp),?_⟩) (fun i hi=>?_) (fun i hi=>?_)
    ·have hi':off+i<arr.size:=by omega
     rw [gM b1 hi'];simp [Array.getD,hi']
    ·have hi':off+i<arr.size:=by omega
     simp only [Array.getD,hi',dite_true];exact Vw.eZ (b3 (off+i) (by omega) hi')
    ·have hi':off+i<arr.size:=by omega
     obtain⟨k',h3,h4⟩:=h2 i hi (by simp;omega);simp only [Array.getD,hi',dite_true];simp only [ZZ] at h3;exact cG.cC h hF n _ _ _ _ h3 (fun x hx=>hk x (by simp [h4 x hx])) (b3 (off+i) (by omega) hi')
   ·cases ht
  ·cases ht
 | n+1,.aI k off len sz,d,ks,v,ht,hk,hv=>by
  simp only [Am.cC] at ht;split at ht
  ·rename_i own fz T cs e
   split at ht
   ·rename_i hoff
    rw [Y8] at ht;obtain⟨⟨l,ks'⟩,ht,he⟩:=ht;simp only [fy] at he;obtain⟨rfl,rfl⟩:=he;obtain⟨h1,h2⟩:=oI ht;have hb:=h.bx k;unfold Vw.bx at hb;simp only [e] at hb;obtain⟨arr,b1,b2,b3,_⟩:=hb;obtain⟨hv,_⟩:=hv;simp only [Vw.cB,e] at hv;obtain⟨cap,rfl,hcap,_⟩:=hv;have hl:l.length=len*sz:=by rw [h1];simp;omega
    have hcl:(chunk sz len l).length=len:=by simp [chunk]
    have hce:∀ i (hi:i<(chunk sz len l).length),(chunk sz len l)[i]=(l.drop (i*sz)).take sz:=by intro i hi;simp [chunk]
    have hsz:∀ i,i<len→i*sz+sz≤len*sz:=by
     intro i hi;have:(i+1)*sz≤len*sz:=Zg _ hi
     rwa [Y3,ZK] at this
    have key:=Rd.sl (M:=kI w Fz) (β k) off cap sz (chunk sz len l) (fun i j=>arr.getD (off+i*sz+j) undef) ?_ (by rw [hcl];exact hcap) (by rw [hcl];exact hoff.2) ?_ ?_ ?_
    ·rwa [hcl] at key
    ·intro x hx;obtain⟨i,hi,rfl⟩:=List.mem_iff_getElem.1 hx;rw [hcl] at hi;rw [hce];have:=hsz i hi;simp;omega
    ·intro i hi j hj;rw [hcl] at hi;have:=hsz i hi;have hi':off+i*sz+j<arr.size:=by omega
     refine⟨hk k (by simp),?_⟩;rw [gM b1 hi'];simp [Array.getD,hi']
    ·intro i hi j hj;rw [hcl] at hi;have:=hsz i hi;have hi':off+i*sz+j<arr.size:=by omega
     simp only [Array.getD,hi',dite_true];exact Vw.eZ (b3 _ (by omega) hi')
    ·intro i hi j hj;have hi2:=hi;rw [hcl] at hi2;have h5:=hsz i hi2;simp only [hce] at hj ⊢;have hj':j<sz:=by simp at hj;omega
     have hi':off+i*sz+j<arr.size:=by omega
     simp only [Array.getD,hi',dite_true,aaI,ZZ];obtain⟨k',h3,h4⟩:=h2 (i*sz+j) (by omega) (by simp;omega);simp only [aaI,ZZ] at h3;have h6:=b3 (off+i*sz+j) (by omega) hi';have e2:off+i*sz+j=off+(i*sz+j):=by omega
     simp only [e2] at h6 ⊢;exact cG.cC h hF n _ _ _ _ h3 (fun x hx=>hk x (by simp [h4 x hx])) h6
   ·cases ht
  ·rename_i e
   simp only [ai,fy] at ht;obtain⟨rfl,rfl⟩:=ht;obtain⟨hv,_⟩:=hv;simp only [Vw.cB,e] at hv;rw [hv.1];exact .nilsl
  ·cases ht
 | 0,.ptr ..,_,_,_,ht,_,_=>by cases ht
 | 0,.aI ..,_,_,_,ht,_,_=>by cases ht
 | n,.mapr _,_,_,_,ht,_,_=>by cases n <;> cases ht
 | n,.func ..,_,_,_,ht,_,_=>by cases n <;> cases ht
 | n,.ifc ..,_,_,_,ht,_,_=>by cases n <;> cases ht
 | n,.junk,_,_,_,ht,_,_=>by cases n <;> cases ht
end
def iE (M:Mem)(cs:List Value)(l:List DV):Prop:=
 cs.length=l.length∧∀ i (h:i<cs.length) (h':i<l.length),Rd M cs[i] l[i]∧(cs[i]).oneCell'=true
theorem iE.nil:iE M [] []:=⟨rfl,fun i h=>by cases h⟩
theorem iE.one(h:Rd M v d) (ho:v.oneCell'=true):iE M [v] [d]:=
 ⟨rfl,fun i h1 h2=>by
  have:i=0:=by simp at h1;exact h1
  subst this;exact⟨h,ho⟩⟩
theorem iE.app{a b:List Value}{l m:List DV}(h1:iE M a l) (h2:iE M b m):iE M (a++b) (l++m):=by
 refine⟨by simp [h1.1,h2.1],fun i h h'=>?_⟩
 by_cases e:i<a.length
 ·rw [ZB e,ZB (h1.1 ▸ e)];exact h1.2 i e (h1.1 ▸ e)
 ·have e1:a.length≤i:=abe e;rw [ZI e1,ZI (h1.1 ▸ e1)];have:=h2.2 (i - a.length) (by simp at h;omega) (by have:=h1.1;simp at h';omega);simpa [h1.1] using this
theorem iE.Qo:∀ (ss:List Nat) (cs:List Value) (ls:List (List DV)),ls.length=ss.length→cs.length=ss.sum →
 (∀ i (h:i<ss.length) (h':i<ls.length),iE M ((cs.drop (ss.take i).sum).take ss[i]) ls[i])→iE M cs ls.flatten
 | [],cs,ls,h1,h2,_=>by
  cases ls with
  | nil=>simp at h2;subst h2;exact iE.nil
  | cons _ _=>cases h1
 | s::ss,cs,ls,h1,h2,h3=>by
  cases ls with
  | nil=>cases h1
  | cons l ls=>
   have h0:iE M (cs.take s) l:=h3 0 (by simp) (by simp)
   have hr:iE M (cs.drop s) ls.flatten:=by
    refine iE.Qo ss (cs.drop s) ls (by simpa using h1) (by simp at h2 ⊢;omega) fun i h h'=>?_;have:=h3 (i+1) (by simpa using h) (by simpa using h');simpa [List.take_succ_cons,Z9,ZV] using this
   have:=h0.app hr
   rwa [abw] at this
theorem lu {α:Type}:∀ (n:Nat) (p:Nat→α→Prop),(∀ i,i<n→∃ x,p i x)→∃ l:List α,l.length=n∧∀ i (h:i<l.length),p i l[i]
 | 0,_,_=>⟨[],rfl,fun i h=>by cases h⟩
 | n+1,p,h=>by
  obtain⟨x,hx⟩:=h 0 (by omega);obtain⟨l,hl,hp⟩:=lu n (fun i=>p (i+1)) (fun i hi=>h (i+1) (by omega));refine⟨x::l,by simp [hl],fun i hi=>?_⟩
  cases i with
  | zero=>exact hx
  | succ i=>exact hp i (by simpa using hi)
def nV (P:Program):Bool→Nat→TypeId→Bool
 | _,0,_=>false
 | s,n+1,t=>match P.underlying t with
  | some .bool=>true
  | some (.int _)=>true
  | some .string=>true
  | some (.slice e)=>s && nV P false n e
  | some (.struct fs)=>fs.toList.all fun f=>nV P s n f.type
  | some (.array _ e)=>nV P s n e
  | _=>false
def ql (P:Program):Nat→TypeId→List DV→Prop
 | 0,_,_=>False
 | n+1,t,l=>match P.underlying t with
  | some .bool=>∃ b,l=[.bool b]
  | some (.int k)=>∃ i,l=[.int k i]
  | some .string=>∃ s,l=[.str s]
  | some (.slice e)=>l=[.nilsl]∨∃ es,l=[.sl es]∧∀ x∈es,ql P n e x
  | some (.struct fs)=>∃ ls:List (List DV),ls.length=fs.size∧l=ls.flatten∧∀ i (h:i<fs.size) (h':i<ls.length),ql P n fs[i].type ls[i]
  | some (.array m e)=>∃ ls:List (List DV),ls.length=m∧l=ls.flatten∧∀ x∈ls,ql P n e x
  | _=>False
mutual
def Pb {H:Type}:DataW H→List DV
 | .lit (.bool b)=>[.bool b]
 | .lit (.int k n)=>[.int k n]
 | .lit (.string s)=>[.str s]
 | .agg ps=>Nn ps
 | _=>[]
def Nn {H:Type}:List (DataW H)→List DV
 | []=>[]
 | d::r=>Pb d++Nn r
end
theorem Ct {H:Type}:∀ l:List (DataW H),Nn l=(l.map Pb).flatten
 | []=>rfl
 | d::r=>by simp [Nn,Ct r]
theorem Bc{a:Addr}(h:w.cell? a=some v):a.block<w.heap.size:=by
 unfold World.cell? at h;split at h
 ·rename_i e;exact (Array.getElem?_eq_some_iff.1 e).1
 ·cases h
abbrev allM (w:World):Mem:=kI w (fun b=>b<w.heap.size)
theorem wf_wrap {k:IntKind}(h:(Lit.int k n).wf=true):k.wrap n=n:=by
 refine c9 ?_;simp only [Lit.wf,cy,decide_eq_true_eq] at h
 cases k <;> (simp [IntKind.min,IntKind.max,IntKind.signed,IntKind.bits,CF,qd] at h ⊢;omega)
theorem sI {H:Type}{enc:TypeId × Value→H}{P:Program}{w:World}{base:Nat}{spare:Nat→Bool}{held:Bool}{T:TypeId→Prop}(K:Kids P T) :
 ∀ (n:Nat) (s:Bool) (t:TypeId) (fuel:Nat) (cs:List Value) (x:DataW H × List MemPlace),T t→nV P s n t=true →
  (s=true→∀ (i:Nat) (a:Addr) (len cap:Nat),cs[i]?=some (.slice (some a) len cap)→a.spot=none) →
  DataW.trod enc P w base spare held fuel t cs=some x→∃ l,ql P n t l∧iE (allM w) cs l∧(s=false→l=Pb x.1)
 | 0,_,_,_,_,_,_,h,_,_=>by simp [nV] at h
 | n+1,s,t,fuel,cs,x,hT,hp,hs,h=>by
  unfold nV at hp;split at hp
  ·rename_i hu
   obtain⟨b,rfl,rfl⟩:=DataW.trod_bool hu h;exact⟨[.bool b],by simp [ql,hu],iE.one (.bool b) rfl,fun _=>rfl⟩
  ·rename_i k hu
   obtain⟨i,rfl,rfl,hw⟩:=DataW.trod_int hu h;exact⟨[.int k i],by simp [ql,hu],iE.one (.int k i (wf_wrap hw)) rfl,fun _=>rfl⟩
  ·rename_i hu
   obtain⟨b,rfl,rfl,hl⟩:=DataW.trod_string hu h;refine⟨[.str b.data.toList],by simp [ql,hu],iE.one (.str b ?_) rfl,fun _=>rfl⟩;have e:b.data.toList.length=b.size:=by simp
   rw [e];simp only [maxLen] at hl;omega
  ·rename_i e hu
   simp only [cy] at hp;obtain⟨rfl,hp⟩:=hp;rcases DataW.trod_slice hu h with ⟨rfl,rfl⟩|⟨a,len,cap,elems,rest,m,rfl,rfl,rfl,hb,hlc,hcm,hel,hget,_,_⟩
   ·exact⟨[.nilsl],by simp [ql,hu],iE.one .nilsl rfl,fun h=>by cases h⟩
   ·have hsp:=hs rfl 0 a len cap rfl;obtain⟨b,off,sp⟩:=a;simp only at hsp;subst hsp
    obtain⟨l,hl,hq⟩:=lu (α:=List Value × List DV) len (fun i q=>w.cells? base (Addr.add ⟨b,off,none⟩ (i*P.cellsOf e)) (P.cellsOf e)=some q.1∧ql P n e q.2∧iE (allM w) q.1 q.2) (by
     intro i hi;have h1:=hget i hi;rw [cn (by omega)] at h1;obtain⟨c,hc,ht⟩:=Option.bind_eq_some_iff.1 h1;obtain⟨l,h2,h3,_⟩:=sI K n false e m c _ (K.slice hT hu) hp (fun h=>by cases h) ht;exact⟨(c,l),hc,h2,h3⟩)
    subst hl;have hlen:∀ i (h:i<l.length),(l[i].1).length=P.cellsOf e:=fun i h=>(World.cells?_some (hq i h).1).2.1
    have hcell:∀ i (h:i<l.length) j (hj:j<P.cellsOf e),w.cell? ⟨b,off+i*P.cellsOf e+j,none⟩=some ((l[i].1).getD j undef):=by
     intro i h j hj;have h1:=(World.cells?_some (hq i h).1).2.2 j hj
     have h2:(Addr.add (Addr.add ⟨b,off,none⟩ (i*P.cellsOf e)) j)=⟨b,off+i*P.cellsOf e+j,none⟩:=by
      unfold Addr.add;split <;> split <;> simp_all
     rw [h2] at h1;rw [h1,hJ,cn (by rw [hlen i h];exact hj)];rfl
    have hR:=Rd.sl (M:=allM w) b off cap (P.cellsOf e) (l.map (·.2)) (fun i j=>(l.getD i ([],[])).1.getD j undef)
     (by
      intro x hx;obtain⟨q,hq',rfl⟩:=List.mem_map.1 hx;obtain⟨i,hi,rfl⟩:=List.getElem_of_mem hq';rw [← (hq i hi).2.2.1,hlen i hi])
     (by simpa using hlc) (by simp only [maxLen] at hcm;simp;omega)
     (by
      intro i hi j hj;have hi':i<l.length:=by simpa using hi
      have:=hcell i hi' j hj;refine⟨Bc this,?_⟩;rw [this];simp [hi'])
     (by
      intro i hi j hj;have hi':i<l.length:=by simpa using hi
      have hj':j<(l[i].1).length:=by rw [hlen i hi'];exact hj
      have:=((hq i hi').2.2.2 j hj' (by rw [← (hq i hi').2.2.1];exact hj')).2;simpa [hi',hj'] using this)
     (by
      intro i hi j hj;have hi':i<l.length:=by simpa using hi
      have hj2:j<(l[i].2).length:=by simpa using hj
      have hj':j<(l[i].1).length:=by rw [(hq i hi').2.2.1];exact hj2
      have:=((hq i hi').2.2.2 j hj' hj2).1;simpa [hi',hj'] using this)
    refine⟨[.sl (l.map (·.2))],?_,iE.one ?_ rfl,fun h=>by cases h⟩
    ·simp only [ql,hu];refine .inr ⟨_,rfl,fun x hx=>?_⟩;obtain⟨q,hq',rfl⟩:=List.mem_map.1 hx;obtain⟨i,hi,rfl⟩:=List.getElem_of_mem hq';exact (hq i hi).2.1
    ·simpa using hR
  ·rename_i fs hu
   obtain⟨xs,m,rfl,rfl,hlen,hxs,hget⟩:=DataW.trod_struct hu h;obtain⟨k1,k2,k3⟩:=K.struct hT hu
   have hstep:∀ i,i<fs.size→∃ l,∀ (hi:i<fs.size) (hx:i<xs.length),ql P n fs[i].type l∧iE (allM w) ((cs.drop fs[i].offset).take (P.cellsOf fs[i].type)) l∧(s=false→l=Pb xs[i].1):=by
    intro i hi;have h1:=hget i fs[i] (by simp [hi]);rw [cn (by omega)] at h1;have hm:fs[i]∈fs.toList:=by simp
    obtain⟨l,h2,h3,h4⟩:=sI K n s fs[i].type m _ _ (k1 _ hm) (List.all_eq_true.1 hp _ hm) (by
     intro hs' j a len cap hj;rw [aaT] at hj;split at hj
     ·rw [Z0] at hj;exact hs hs' _ a len cap hj
     ·cases hj) h1
    exact⟨l,fun _ _=>⟨h2,h3,h4⟩⟩
   obtain⟨ls,hl,hq⟩:=lu fs.size _ hstep;refine⟨ls.flatten,?_,?_,fun hf=>?_⟩
   ·simp only [ql,hu];exact⟨ls,hl,rfl,fun i h h'=>(hq i h' h (by omega)).1⟩
   ·refine iE.Qo (fs.toList.map fun f=>P.cellsOf f.type) cs ls (by simp [hl]) (by rw [hlen,k2]) fun i h h'=>?_;have hi:i<fs.size:=by simpa using h
    have h3:=(hq i h' hi (by omega)).2.1;have ho:=k3 i fs[i] (by simp [hi]);rw [ho] at h3;simpa [abf] using h3
   ·simp only [Pb,Ct,Y7];congr 1;refine aa3 (by simp;omega) fun i h1 h2=>?_;have:=(hq i h1 (by omega) (by simp at h2;omega)).2.2 hf;simp [this]
  ·rename_i m e hu
   obtain⟨xs,f,rfl,rfl,hlen,hxs,hget⟩:=DataW.trod_array hu h;obtain⟨k1,k2⟩:=K.array hT hu
   have hstep:∀ i,i<m→∃ l,∀ (hx:i<xs.length),ql P n e l∧iE (allM w) ((cs.drop (i*P.cellsOf e)).take (P.cellsOf e)) l∧(s=false→l=Pb xs[i].1):=by
    intro i hi;have h1:=hget i hi;rw [cn (by omega)] at h1
    obtain⟨l,h2,h3,h4⟩:=sI K n s e f _ _ k1 hp (by
     intro hs' j a len cap hj;rw [aaT] at hj;split at hj
     ·rw [Z0] at hj;exact hs hs' _ a len cap hj
     ·cases hj) h1
    exact⟨l,fun _=>⟨h2,h3,h4⟩⟩
   obtain⟨ls,hl,hq⟩:=lu m _ hstep;refine⟨ls.flatten,?_,?_,fun hf=>?_⟩
   ·simp only [ql,hu];refine⟨ls,hl,rfl,fun x hx=>?_⟩;obtain⟨i,hi,rfl⟩:=List.getElem_of_mem hx;exact (hq i hi (by omega)).1
   ·refine iE.Qo (List.replicate m (P.cellsOf e)) cs ls (by simp [hl]) (by rw [hlen,k2];simp) fun i h h'=>?_;have h3:=(hq i h' (by omega)).2.1;have hm:min i m=i:=by simp at h;omega
    simpa [List.take_replicate,hm] using h3
   ·simp only [Pb,Ct,Y7];congr 1;refine aa3 (by simp;omega) fun i h1 h2=>?_;have:=(hq i h1 (by simp at h2;omega)).2.2 hf;simp [this]
  ·cases hp
structure Kept (W W':World):Prop where
 old:∀ b,b<W.heap.size→W'.heap[b]?=W.heap[b]?
 os:W'.os=W.os
 out:W'.output=W.output
theorem Kept.Yq(h:Kept W W') (may:MemPlace→Prop):W.keptBut W' may:=by
 refine⟨h.os,h.out,fun i hi=>?_⟩;rw [h.old i hi]
 cases e:W.heap[i]? with
 | none=>rfl
 | some o=>cases o <;> simp
theorem Kept.sameAt(h:Kept W W') {p:MemPlace}(hp:p.block<W.heap.size):W.sameAt W' p:=by
 cases p with
 | cell b off=>simp only [World.sameAt,World.cell?];rw [h.old b hp]
 | map b=>exact h.old b hp
theorem pO {H:Type}{enc:TypeId × Value→H}{P:Program}{w w':World}{base:Nat}{spare:Nat→Bool}{held:Bool} :
 ∀ {ts:List TypeId}{vs:List Value}{ds:List (DataW H)}{ps:List MemPlace},DataW.TrodAll enc P w base spare held ts vs ds ps→(∀ p∈ps,w.sameAt w' p)→DataW.TrodAll enc P w' base spare held ts vs ds ps
 | [],[],[],_,h,_=>h
 | _::_,_::_,_::_,_,⟨p,q,⟨n,h1⟩,h2,e⟩,hs=>
  ⟨p,q,⟨n,DataW.trod_carry n _ _ _ h1 (fun x hx=>hs x (by rw [e];exact aaU _ hx))⟩,pO h2 (fun x hx=>hs x (by rw [e];exact aa2 _ hx)),e⟩
theorem Kept.args{enc:TypeId × Value→H}{T:TypeId→Prop}(K:Kids P T) (hz:∀ t e,T t→P.underlying t=some (.slice e)→0<P.cellsOf e)
 (h:Kept W W'){vs:List Value}{ds:List (DataW H)}{ps:List MemPlace}(hT:∀ t∈ts,T t) (hr:DataW.TrodAll enc P W 0 (fun _=>true) true ts vs ds ps) :
 DataW.TrodAll enc P W' 0 (fun b=>decide (b<W.heap.size)) true ts vs ds ps:=by
 have hlt:=DataW.TrodAll.lt hr;refine pO (DataW.TrodAll.respare K hz hT hr (fun p hp=>by simpa using hlt p hp)) (fun p hp=>h.sameAt (hlt p hp))
theorem Kb{enc:TypeId × Value→H}{f:Func}{s:ChangeSpec}{args:Array Value}{ds gs:List (DataW H)}{before:List MemPlace}
 {T:TypeId→Prop}{tb:TypeId}(K:Kids P T) (hz:∀ t e,T t→P.underlying t=some (.slice e)→0<P.cellsOf e) (hT:∀ t∈f.params.toList,T t)
 (hv:s.vars=[]) (hr:f.resultTypes=#[tb]) (hb:P.underlying tb=some .bool)
 (hW:DataW.Whole enc P f.params.toList s.vars apart W args.toList ds gs before) (hs:s.fn H (ds++gs)={ results:=[.lit (.bool true)],args:=ds }) (h:Kept W W') :
 s.post enc P f apart fresh handsOn false W args (.bool true) W':=by
 have hW':=hW;obtain⟨p,q,hA,hV,rfl,hfz,hnd⟩:=hW;refine⟨ds,gs,p++q,[],p,[],hW',?_,?_,?_,h.Yq _,fun h=>by cases h⟩
 ·rw [hs,hr];exact⟨[],[],⟨1,by simp [DataW.trod,Value.cells,hb]⟩,rfl,rfl⟩
 ·rw [hs];exact h.args K hz hT hA
 ·rw [hs,hv];rfl
theorem s9 {P:Program}{W:World}:∀ {l:List (String × DataW Unit)}{ps:List MemPlace},DataW.LaidVars P W l ps→∀ x∈l,
 ∃ g t cs fuel p,P.globalNamed x.1=some g∧(P.globals[g]?).map (·.type)=some t∧W.var? P x.1=some cs∧DataW.trod (fun _=>()) P W 0 (fun _=>true) false fuel t cs.toList=some (x.2,p)
 | [],_,_,x,hx=>by cases hx
 | (n,d)::r,ps,h,x,hx=>by
  obtain⟨g,t,cs,fuel,p,q,h1,h2,h3,h4,h5,_⟩:=h;rcases List.mem_cons.1 hx with rfl|hx
  ·exact⟨g,t,cs,fuel,p,h1,h2,h3,h4⟩
  ·exact s9 h5 x hx
theorem Mu{n:String}{g:Nat}{cs:Array Value}{l:List DV}(hg:P.globalNamed n=some g) (hc:W.var? P n=some cs)
 (hR:iE (allM W) cs.toList l):Rd (allM W) (.pointer (some ⟨g,0,none⟩)) (.ptr l):=by
 have hl:cs.size=l.length:=by simpa using hR.1
 refine .ptr g 0 (fun i=>cs.toList.getD i undef) l (fun i hi=>?_) (fun i hi=>?_) (fun i hi=>?_)
 ·have:=World.var?_cell hg hc i;rw [ZL (by omega)] at this;rw [Y5];refine⟨Bc this,?_⟩;rw [this];simp [show i<cs.size by omega]
 ·have:=(hR.2 i (by simp;omega) hi).2;simpa [show i<cs.size by omega] using this
 ·have:=(hR.2 i (by simp;omega) hi).1;simpa [show i<cs.size by omega] using this
theorem Kx{G:List (List DV)}(hC:aa P G f us (.c (.d (.bool b)))){vs:Array Value}
 (hG:∀ g cs,G[g]?=some cs→Rd (allM W) (.pointer (some ⟨g,0,none⟩)) (.ptr cs)) (hl:vs.size=us.length)
 (hv:∀ i (h:i<us.length) (h':i<vs.size),(Vw.mk (fun b=>b<W.heap.size) (fun _=>0) (bn [] []) W).av vs[i] us[i]) :
 Calls P f vs W fun e W'=>e=.returned (.bool b)∧Kept W W':=by
 refine (hC (fun b=>b<W.heap.size) (fun _=>0) W vs ?_ hl hv).mono fun e W' h=>?_
 ·refine⟨fun k=>?_,fun k k' hk=>?_,fun _=>trivial,rfl,rfl,fun b hb=>⟨hb,.inl hb⟩,fun _ hb=>hb,fun _ _ _=>rfl,aW _,hG,fun k hk=>.inr ⟨rfl,LB.bl _⟩,fun _=>aW _,⟨rfl,rfl⟩⟩
  ·have:bn [] [] k=.hole:=by unfold bn;split <;> rfl
   unfold Vw.bx;simp only [this]
  ·have:bn [] [] k=.hole:=by unfold bn;split <;> rfl
   simp only [this] at hk;cases hk
 ·obtain⟨v,F',β',rfl,hS,hx⟩:=h;have hx':Rd (kI W' F') v (.bool b)∧v.oneCell'=true:=hx;refine⟨?_,⟨fun i hi=>hS.old i hi ?_,hS.Et.1,hS.Et.2⟩⟩
  ·cases hx'.1;rfl
  ·rintro⟨k,hk,_⟩;have:bn [] [] k=.hole:=by unfold bn;split <;> rfl
   simp only [this] at hk;cases hk
theorem C1{r:Reach}{u:TypeId}{a:Addr}(h:Cell.okWide P w r base u (.slice (some a) len cap)):a.spot=none:=by
 unfold Cell.okWide at h;split at h <;> rename_i e <;> first|cases e|skip
 all_goals unfold Cell.ok at h
 all_goals split at h <;> rename_i e2 <;> first|cases e2|(cases h;done)|skip
 all_goals exact h.2.2.2.1
theorem El{enc:TypeId × Value→H}{T:TypeId→Prop}(K:Kids P T) {n:Nat}{fs:Array Field}{d:DataW H}{p:List MemPlace}
 (hu:P.underlying t=some (.struct fs)) (hT:T t) (hp:nV P true n t=true) (hok:Value.okWide P W .any base t v) (h:DataW.Trod enc P W 0 (fun _=>true) true t v d p) :
 ∃ (arr:Array Value) (l:List DV),v=.agg arr∧ql P n t l∧iE (allM W) arr.toList l:=by
 unfold Value.okWide at hok;rw [hu] at hok;obtain⟨cs,rfl,_,hrow⟩:=hok;obtain⟨ts,_,_,hcell⟩:=hrow;obtain⟨fuel,h⟩:=h
 obtain⟨l,h1,h2,_⟩:=sI K n true t fuel cs.toList _ hT hp (fun _ i a len cap hi=>by
  obtain⟨u,_,ho⟩:=hcell i _ (by simpa using hi);exact C1 ho) h
 exact⟨cs,l,rfl,h1,h2⟩
theorem Jc{l:List DV}(h:iE (allM W) arr.toList l):(Vw.mk (fun b=>b<W.heap.size) (fun _=>0) (bn [] []) W).av (.agg arr) (.agg (l.map .d)):=by
 refine⟨arr,rfl,by simpa using h.1,fun i h1 h2=>?_⟩;have:=h.2 i (by simpa using h2) (by simpa using h1);simp only [sr];rw [Zw] at this;exact this
theorem H9{enc:TypeId × Value→H}{a:Assume}{C:Checked}{os:Os}{fn:Func}{s:ChangeSpec}{conds:List PathCond}{again:Bool}{X:World→Array Value→Prop}
 (hX:∀ (w w':World) (args:Array Value),w.heap=w'.heap→X w args→X w' args)
 (own:ownKnob C.prog.godebug=none) (started:os.Started) (noInit:C.prog.inits.idxOf? f=none) (hfn:C.prog.funcs[f]?=some fn)
 (witness:∃ (w:World) (tape:Tape) (i:Input),w.os=os∧(w.forCall tape i).Shaped C.prog∧i.vars=[]∧Input.okWide C.prog (w.forCall tape i) .any w.heap.size f i ∧
  ((s.pre enc C.prog fn conds apart (w.forCall tape i).memory i.args∧X (w.forCall tape i).memory i.args)∧sizedMet enc C.prog fn (OpenSpec.ofChange s) apart (w.forCall tape i).memory i.args)∧a.holds C.prog (lone (Frame.enter C.prog f i.args .normal) [] (w.forCall tape i)))
 (contract:∀ (W:World) (base:Nat) (args:Array Value) (ds gs:List (DataW H)) (before:List MemPlace),W.ShapedOpen C.prog →
  (∀ (j:Nat) t v,fn.params[j]?=some t→args[j]?=some v→Value.okWide C.prog W .any base t v) →
  DataW.Whole enc C.prog fn.params.toList s.vars apart W args.toList ds gs before→X W args →
  Calls C.prog f args W fun e W'=>∃ v,e=.returned v∧s.post enc C.prog fn apart fresh handsOn again W args v W') :
 ReturnsInHanded a C os f .any (fun w args=>(s.pre enc C.prog fn conds apart w args∧X w args)∧sizedMet enc C.prog fn (OpenSpec.ofChange s) apart w args) (s.post enc C.prog fn apart fresh handsOn again):=by
 refine returnsInHanded_of_calls own started noInit witness ?_;intro w tape i _ hsh _ hok hpre _;obtain⟨_,_,_,fn',hfn',_,_,_,_,hval⟩:=hok;have e:fn'=fn:=Zs (hfn'.symm.trans hfn);subst e;obtain⟨⟨⟨ds,gs,before,hw,_⟩,hx⟩,_⟩:=hpre;have hw':=DataW.Whole.of_heap (w':=w.forCall tape i) (by rfl) hw;refine (contract (w.forCall tape i) w.heap.size i.args ds gs before hsh hval hw' (hX _ _ _ (by rfl) hx)).mono fun e W' ⟨v,he,hp⟩=>?_;subst he;exact ChangeSpec.post_blind hp
theorem Fi(h:W.ShapedOpen P) {g:Nat}{zero:Array Value}{k:IntKind}(hg:g<P.globals.size)
 (hr:((begin P (fun _ _=>0) default).world.heap[g]?).bind Obj.row?=some (zero,t)) (hz:zero.size=1) (hb:P.buildable t=true) (ht:P.cellTypes P.depth t=some [t]) (hu:P.underlying t=some (.int k)) :
 ∃ m,W.cell? ⟨g,0,none⟩=some (.int k m)∧k.wrap m=m:=by
 obtain⟨cs,h1,h2,h3⟩:=h.1 g zero t hg hr;obtain⟨ts,e1,_,e3⟩:=h3 hb;rw [ht] at e1;obtain rfl:=Zs e1;have h0:cs[0]?=some (cs[0]'(by omega)):=ZL _;obtain⟨u,e4,e5⟩:=e3 0 _ h0;have e6:u=t:=by simpa using e4.symm
 subst e6;have hc:W.cell? ⟨g,0,none⟩=some (cs[0]'(by omega)):=by simp [World.cell?,h1,h0]
 unfold Cell.ok at e5;rw [hu] at e5;split at e5 <;> rename_i x y <;> first|cases x|skip
 all_goals first|(cases e5;done)|skip
 all_goals
  rename_i hv
  rw [y] at hc;obtain⟨rfl,hk⟩:=e5;refine⟨_,hc,wf_wrap ?_⟩;simpa [Lit.wf,IntKind.has] using hk
structure Vw.Up (V V2:Vw) (g:Key→Key):Prop where
 F:V2.F=V.F
 w:V2.w=V.w
 zk:∀ k,V.lv k≠.hole→(V.lv k).zk (V2.lv (g k))
 β:∀ k,V.lv k≠.hole→V2.β (g k)=V.β k
section
variable {V V2:Vw}{g:Key→Key}
theorem Vw.Up.mem (h:V.Up V2 g):V2.mem=V.mem:=by
 unfold Vw.mem;rw [h.F,h.w]
theorem Vw.Up.ptr (h:V.Up V2 g)(hv:V.de v k off):V2.de v (g k) off:=by
 have h1:=h.zk k;have h2:=h.β k;unfold Vw.de at *
 cases e:V.lv k <;> cases e':V2.lv (g k) <;> simp [e,e',LB.zk] at h1 h2 hv ⊢ <;> (try rw [h2]) <;> assumption
theorem Vw.Up.aI (h:V.Up V2 g)(hv:V.cB v k off len sz):V2.cB v (g k) off len sz:=by
 have h1:=h.zk k;have h2:=h.β k;unfold Vw.cB at *
 rw [h.w]
 cases e:V.lv k <;> cases e':V2.lv (g k) <;> simp [e,e',LB.zk] at h1 h2 hv ⊢ <;> (try rw [h2]) <;> assumption
theorem Vw.Up.map (h:V.Up V2 g)(hv:V.ku v k):V2.ku v (g k):=by
 have h1:=h.zk k;have h2:=h.β k;unfold Vw.ku at *
 cases e:V.lv k <;> cases e':V2.lv (g k) <;> simp [e,e',LB.zk] at h1 h2 hv ⊢ <;> (try rw [h2]) <;> assumption
theorem Vw.Up.l9 (h:V.Up V2 g){x:ij}(hv:V.l9 v x):V2.l9 v (x.br g):=by
 cases x with
 | d x=>exact⟨by rw [h.mem];exact hv.1,hv.2⟩
 | ptr k off=>exact⟨h.ptr hv.1,hv.2⟩
 | aI k off len sz=>exact⟨h.aI hv.1,hv.2⟩
theorem Vw.Up.ref (h:V.Up V2 g){x:Ref}(hv:V.ref v x):V2.ref v (x.br g):=by
 induction x generalizing v with
 | d x=>show Rd V2.mem v x;rw [h.mem];exact hv
 | ptr k off=>exact⟨h.ptr hv.1,hv.2⟩
 | aI k off len sz=>exact⟨h.aI hv.1,hv.2⟩
 | agg cs=>
  obtain⟨arr,rfl,h1,h2⟩:=hv;exact⟨arr,rfl,by simpa using h1,fun i a b=>by simp only [sr];exact h.l9 (h2 i (by simpa using a) b)⟩
 | ifc t x ih=>obtain⟨v',rfl,h1⟩:=hv;exact⟨v',rfl,ih h1⟩
theorem Vw.Up.cv (h:V.Up V2 g){x:CV}(hv:V.cv v x):V2.cv v (x.br g):=by
 cases x with
 | d x=>exact⟨by rw [h.mem];exact hv.1,hv.2⟩
 | ptr k off=>exact⟨h.ptr hv.1,hv.2⟩
 | aI k off len sz=>exact⟨h.aI hv.1,hv.2⟩
 | mapr k=>exact⟨h.map hv.1,hv.2⟩
 | func fn f c=>
  obtain⟨fs,cs,rfl,h1,h2,h3,h4⟩:=hv;refine⟨fs,cs,rfl,by simpa using h1,by simpa using h2,fun i a b=>?_,fun i a b=>?_⟩
  ·simp only [sr];exact h.ref (h3 i (by simpa using a) b)
  ·simp only [sr];exact h.ref (h4 i (by simpa using a) b)
 | ifc t x=>
  obtain⟨v',rfl,h1⟩:=hv;exact⟨v',rfl,h.ref h1⟩
 | junk=>exact hv
theorem Vw.Up.kF (h:V.Up V2 g){x:AV}(hv:V.kF v x):V2.kF v (x.kM g):=by
 cases x with
 | c x=>exact h.cv (x:=x) hv
 | agg cs=>
  obtain⟨arr,rfl,h1,h2⟩:=hv;exact⟨arr,rfl,by simpa using h1,fun i a b=>by simp only [sr];exact h.cv (h2 i (by simpa using a) b)⟩
 | tup l=>exact hv.elim
 | undef=>exact hv
 | junk=>trivial
theorem Vw.Up.av (h:V.Up V2 g){x:AV}(hv:V.av v x):V2.av v (x.br g):=by
 cases x with
 | c x=>exact h.cv (x:=x) hv
 | agg cs=>exact h.kF (x:=.agg cs) hv
 | tup l=>
  obtain⟨arr,rfl,h1,h2⟩:=hv;exact⟨arr,rfl,by simpa using h1,fun i a b=>by simp only [sr];exact h.kF (h2 i (by simpa using a) b)⟩
 | undef=>exact hv
 | junk=>trivial
end
def LB.pass:LB→Bool
 | .cells own fz _ _=>!own && !fz
 | .map own _=>!own
 | .dead=>false
 | _=>true
def LB.wz:LB→Bool
 | .cells own ..=>own
 | .map own _=>own
 | _=>true
def LB.fix (b:Bool):LB→LB
 | .cells own fz T cs=>.cells (own || b) fz T cs
 | .map own es=>.map (own || b) es
 | x=>x
theorem LB.JY (b:Bool)(x:LB):(x.fix b).live=x.live:=by
 cases x with
 | cells own fz T cs=>cases fz <;> rfl
 | _=>rfl
theorem LB.Kn (g:Key→Key)(x:LB):(x.br g).live=x.live:=by
 cases x with
 | cells own fz T cs=>cases fz <;> rfl
 | _=>rfl
section
variable {c:Ctx}{F:Nat→Prop}{β:Key→Nat}{s:au}{a:Act}{w:World}
structure vZ (s:au) (g:Key→Key) (gi:Key→Option Key) (L L':Key→LB) (own:Bool):Prop where
 pass:∀ k,(L k).pass=true
 as:∀ k,(s.lv (g k)).as (L k) g
 Td:∀ k' k,gi k'=some k→g k=k'∧L' k≠.hole
 Q9:∀ k,L' k≠.hole→gi (g k)=some k
 stay:∀ k,L k≠.hole→L' k≠.hole
 own:own=true→∀ k,(L k).live=true→(s.lv (g k)).wz=true
theorem vZ.live(hB:vZ s g gi L L' own)(hk:(L k).live=true):(s.lv (g k)).live=true:=by
 have:=hB.as k
 cases e:L k with
 | cells own fz T cs=>
  rw [e] at this hk;obtain⟨own',cs',h1,_⟩:=this
  cases fz with
  | false=>rw [h1];rfl
  | true=>cases hk
 | map own es=>rw [e] at this;obtain⟨own',es',h1,_⟩:=this;rw [h1];rfl
 | hole=>rw [e] at hk;cases hk
 | dead=>rw [e] at hk;cases hk
 | bk=>rw [e] at hk;cases hk
theorem vZ.inj {g:Key→Key}{gi:Key→Option Key}{L L':Key→LB}{own:Bool}(hB:vZ s g gi L L' own) {k k':Key}(h1:L k≠.hole) (h2:L k'≠.hole) (h:g k=g k'):k=k':=by
 have e1:=hB.Q9 k (hB.stay k h1);have e2:=hB.Q9 k' (hB.stay k' h2);rw [h,e2] at e1;exact (Zs e1).symm
theorem iI {x:LB}(h:x.live=true):x≠.hole:=fun e=>by rw [e] at h;cases h
theorem vZ.br(hB:vZ s g gi L L' own) :
 (Vw.mk F β s.lv w).Ren (Vw.mk F (fun k=>β (g k)) L w) g:=⟨rfl,rfl,fun _ _=>rfl,fun k=>LB.yC (hB.as k)⟩
theorem aE.enter (h:aE c F β s a w)(hB:vZ s g gi L L' own) :
 cG (cQ c.P c.G w F (fun k=>β (g k)) L) F (fun k=>β (g k)) L w:=by
 have hR:=hB.br (F:=F) (β:=β) (w:=w);refine⟨?_,?_,fun _=>trivial,rfl,rfl,fun b hb=>⟨(h.mh b hb).1,.inl hb⟩,fun _ hb=>hb,fun _ _ _=>rfl,aW _,h.pK,fun k _=>.inr ⟨rfl,LB.bl _⟩,fun _=>aW _,⟨rfl,rfl⟩⟩
 ·intro k;have hb:=h.bx (g k);have ha:=hB.as k;have hp:=hB.pass k;unfold Vw.bx at hb ⊢
  cases e:L k with
  | cells own fz T cs=>
   rw [e] at ha hp;simp only [LB.pass,cy,Zd] at hp;obtain⟨own',cs',h1,h2,h3⟩:=ha;simp only [h1] at hb;obtain⟨arr,b1,b2,b3,b4,b5⟩:=hb;subst h2;simp only [e];refine⟨arr,b1,by simpa using b2,fun i p q=>hR.cv ?_,b4,?_⟩
   ·have:=b3 i (by simpa using p) q;simpa using this
   ·rw [hp.1];simp only [eH,Y2,if_false];exact .inr ⟨k,by rw [e,hp.2];rfl,rfl⟩
  | map own es=>
   rw [e] at ha hp;simp only [LB.pass,Zd] at hp;obtain⟨own',es',h1,h2,h3,h4⟩:=ha;simp only [h1] at hb;obtain⟨ents,clock,b1,b2,b3,b4,b5⟩:=hb;subst h2;simp only [YX] at b2;simp only [e];refine⟨ents,clock,b1,b2,fun i p q=>?_,b4,?_⟩
   ·have:=b3 i (by simpa using p) q;simp only [sr] at this;refine⟨this.1,?_⟩;rcases hR.kF this.2 with h5|⟨l,h5⟩
    ·exact h5
    ·exact absurd h5 (h4 _ (cq p) l)
   ·rw [hp];simp only [eH,Y2,if_false];exact .inr ⟨k,by rw [e];rfl,rfl⟩
  | hole=>simp only [e]
  | dead=>simp only [e]
  | bk=>simp only [e]
 ·intro k k' h1 h2 he;exact hB.inj (iI h1) (iI h2) (h.inj _ _ (hB.live h1) (hB.live h2) he)
def fk (s:au)(g:Key→Key)(gi:Key→Option Key)(L':Key→LB)(own:Bool):Key→LB:=
 fun k'=>match gi k' with|some k=>((L' k).br g).fix own|none=>s.lv k'
def gW (β β':Key→Nat)(gi:Key→Option Key):Key→Nat:=
 fun k'=>match gi k' with|some k=>β' k|none=>β k'
theorem vZ.up(hB:vZ s g gi L L' own) (F':Nat→Prop) (β':Key→Nat) (w':World) :
 (Vw.mk F' β' L' w').Up (Vw.mk F' (gW β β' gi) (fk s g gi L' own) w') g:=by
 refine⟨rfl,rfl,fun k hk=>?_,fun k hk=>?_⟩
 ·simp only at hk;simp only [fk,hB.Q9 k hk]
  cases e:L' k <;> simp [e,LB.br,LB.fix,LB.zk] at hk ⊢
 ·simp only at hk;simp only [gW,hB.Q9 k hk]
theorem aE.back (h:aE c F β s a w)(hB:vZ s g gi L L' own)
 (hx:cG (cQ c.P c.G w F (fun k=>β (g k)) L) F' β' L' w'):aE c F' (gW β β' gi) ⟨s.fr,fk s g gi L' own⟩ a w':=by
 have hF:∀ b,F b→F' b:=hx.F0
 have hW:∀ b,(∃ k,(L k).live=true∧β (g k)=b)→¬ F b:=by
  rintro b ⟨k,hk,rfl⟩;exact h.mI (hB.live hk)
 have hold:∀ b,b<w.heap.size→¬ (∃ k,(L k).live=true∧β (g k)=b)→w'.heap[b]?=w.heap[b]?:=hx.old;have hm:∀ b,F b→w'.heap[b]?=w.heap[b]?:=fun b hb=>hold b (h.mh b hb).1 (fun hw=>hW b hw hb)
 have hUp:=hB.up (β:=β) F' β' w';have hkeep:∀ k,L k≠.hole→L' k=.dead∨(β' k=β (g k)∧(L k).sub (L' k)):=hx.keep;refine h.step (hoo:=hx.Et) hF hm ?_ ?_ hx.Ht ?_ ?_ ?_ hx.ge ?_
 ·intro k';simp only [fk];split
  ·rename_i k e
   obtain⟨rfl,hk⟩:=hB.Td _ _ e
   by_cases h0:L k=.hole
   ·have:=hB.as k;rw [h0] at this;have hh:s.lv (g k)=.hole:=this;rw [hh];simp [LB.sub]
   ·have ha:=LB.yC (hB.as k);rcases hkeep k h0 with hd|⟨_,hs⟩
    ·rw [hd];cases s.lv (g k) <;> simp [LB.br,LB.fix,LB.sub]
    ·cases e1:s.lv (g k) <;> cases e2:L k <;> cases e3:L' k <;> simp [e1,e2,e3,LB.zk,LB.sub,LB.br,LB.fix] at ha hs h0 hk ⊢
     all_goals (have:=hB.pass k;rw [e2] at this;cases this)
  ·exact LB.bl _
 ·intro k' hh hd;simp only [fk] at hd;simp only [gW];split
  ·rename_i k e
   rw [e] at hd;obtain⟨rfl,hk⟩:=hB.Td _ _ e
   have h0:L k≠.hole:=fun h0=>by
    have:=hB.as k;rw [h0] at this;exact hh this
   rcases hkeep k h0 with hd'|⟨h1,_⟩
   ·have hd2:((L' k).br g).fix own≠.dead:=hd;rw [hd'] at hd2;exact absurd rfl hd2
   ·exact h1
  ·rfl
 ·intro k' hK
  cases e:gi k' with
  | some k=>
   obtain⟨rfl,hk⟩:=hB.Td _ _ e;have hb:=hx.bx k
   have hownk:∀ o:Bool,eH (cQ c.P c.G w F (fun k=>β (g k)) L) o (β' k)→eH c (o || own) (β' k):=by
    intro o ho;have hge:=h.ge;unfold eH at ho ⊢
    cases o with
    | true=>simp only [if_true] at ho;simp only [Bool.true_or,if_true];exact Za hge ho
    | false=>
     simp only [Y2,if_false] at ho;simp only [abg];rcases ho with ho|⟨j,hj,hj2⟩
     ·cases own
      ·exact .inl (Za hge ho)
      ·exact Za hge ho
     ·have hl:=hB.live hj
      cases hw:own with
      | false=>simp only [Y2,if_false];rw [← hj2];exact h.eM hl
      | true=>
       simp only [if_true];have ho':=hB.own hw j hj;have hb':=h.bx (g j);unfold Vw.bx at hb';rw [← hj2]
       cases e1:s.lv (g j) with
       | cells o fz T cs=>
        rw [e1] at ho';simp only [e1] at hb';obtain⟨x,p1,p2,p3,p4,p5⟩:=hb';simp only [LB.wz] at ho';rw [ho'] at p5;simpa [eH] using p5
       | map o es=>
        rw [e1] at ho';simp only [e1] at hb';obtain⟨x,y,p1,p2,p3,p4,p5⟩:=hb';simp only [LB.wz] at ho';rw [ho'] at p5;simpa [eH] using p5
       | hole=>rw [e1] at hl;cases hl
       | dead=>rw [e1] at hl;cases hl
       | bk=>rw [e1] at hl;cases hl
   unfold Vw.bx at hb ⊢;simp only [fk,gW,e]
   cases e':L' k with
   | cells o fz T cs=>
    simp only [e'] at hb;obtain⟨arr,b1,b2,b3,b4,b5⟩:=hb;simp only [LB.br,LB.fix];refine⟨arr,b1,by simpa using b2,fun i p q=>?_,b4,hownk o b5⟩;simp only [sr];exact hUp.cv (b3 i (by simpa using p) q)
   | map o es=>
    simp only [e'] at hb;obtain⟨ents,clock,b1,b2,b3,b4,b5⟩:=hb;simp only [LB.br,LB.fix];refine⟨ents,clock,b1,by simpa using b2,fun i p q=>?_,b4,hownk o b5⟩;simp only [sr];have:=b3 i (by simpa using p) q;exact⟨by have h5:=this.1;exact h5,hUp.kF this.2⟩
   | hole=>exact absurd e' hk
   | dead=>simp [LB.br,LB.fix]
   | bk=>simp [LB.br,LB.fix]
  | none=>
   have hl:(Vw.mk F' (gW β β' gi) (fk s g gi L' own) w').lv k'=(Vw.mk F β s.lv w).lv k':=by simp only [fk,e]
   have hβe:(Vw.mk F' (gW β β' gi) (fk s g gi L' own) w').β k'=(Vw.mk F β s.lv w).β k':=by simp only [gW,e]
   have hnW:(s.lv k').live=true→¬ ∃ k,(L k).live=true∧β (g k)=β k':=by
    rintro hlv ⟨k,hk,he⟩;have:=h.inj _ _ (hB.live hk) hlv he;rw [← this,hB.Q9 k (hB.stay k (iI hk))] at e
    cases e
   have hb:=h.bx k'
   by_cases hlv:(s.lv k').live=true
   ·refine Vw.bp hb hK hl hβe (hold _ (h.fO hlv) (hnW hlv)) (fun _ hf=>?_);rcases (hx.mh _ hf).2 with h1|h1
    ·exact h1
    ·have:w.heap.size≤β k':=h1;have:=h.fO hlv;omega
   ·cases ek:s.lv k' with
    | cells o fz T cs=>
     cases fz with
     | false=>rw [ek] at hlv;exact absurd rfl hlv
     | true=>
      have hFk:F (β k'):=by
       unfold Vw.bx at hb;simp only [ek] at hb;obtain⟨x,p1,p2,p3,p4,p5⟩:=hb;exact p4
      refine Vw.bp hb hK hl hβe (hm _ hFk) (fun hlv'=>absurd hlv' hlv)
    | map o es=>rw [ek] at hlv;exact absurd rfl hlv
    | hole=>unfold Vw.bx;rw [hl];simp only [ek]
    | dead=>unfold Vw.bx;rw [hl];simp only [ek]
    | bk=>unfold Vw.bx;rw [hl];simp only [ek]
 ·intro k1 k2 h1 h2 he
  have side:∀ k',(fk s g gi L' own k').live=true→gi k'=none→(s.lv k').live=true:=by
   intro k' hk' e;simp only [fk,e] at hk';exact hk'
  have bord:∀ k' k,(fk s g gi L' own k').live=true→gi k'=some k→(L' k).live=true:=by
   intro k' k hk' e;simp only [fk,e,LB.JY,LB.Kn] at hk';exact hk'
  have apart:∀ k' k,gi k'=none→(s.lv k').live=true→(L' k).live=true→β' k≠β k':=by
   intro k' k e hk' hk heq;have hbo:=aE.eM hx hk;rcases hbo with h3|⟨j,hj,hj2⟩
   ·have h3':w.heap.size≤β' k:=h3;have:=h.fO hk';omega
   ·have:=h.inj _ _ (hB.live hj) hk' (hj2.trans heq);rw [← this,hB.Q9 j (hB.stay j (iI hj))] at e
    cases e
  cases e1:gi k1 with
  | none=>
   cases e2:gi k2 with
   | none=>
    simp only [gW,e1,e2] at he;exact h.inj _ _ (side _ h1 e1) (side _ h2 e2) he
   | some j2=>
    simp only [gW,e1,e2] at he;exact absurd he.symm (apart k1 j2 e1 (side _ h1 e1) (bord _ _ h2 e2))
  | some j1=>
   cases e2:gi k2 with
   | none=>
    simp only [gW,e1,e2] at he;exact absurd he (apart k2 j1 e2 (side _ h2 e2) (bord _ _ h1 e1))
   | some j2=>
    simp only [gW,e1,e2] at he;have:=hx.inj _ _ (bord _ _ h1 e1) (bord _ _ h2 e2) he;rw [← (hB.Td _ _ e1).1,← (hB.Td _ _ e2).1,this]
 ·intro b hb;rcases (hx.mh b hb).2 with h1|h1
  ·exact .inl h1
  ·have h1':w.heap.size≤b:=h1;have:=h.ge;exact .inr ⟨(hx.mh b hb).1,by omega⟩
 ·intro b hb hnW;have hlt:b<w.heap.size:=ZS hb h.ge;refine hold b hlt ?_;rintro⟨k,hk,rfl⟩;rcases h.eM (hB.live hk) with h1|h1
  ·omega
  ·exact hnW h1
end
def aY (P:Program)(T:TypeId):Option (List CV):=((P.info? T).bind (·.zero)).bind fun z=>(qV z).cells
theorem kS(h:aY P T=some xs):∃ z,(P.info? T).bind (·.zero)=some z∧(qV z).cells=some xs:=
 Option.bind_eq_some_iff.1 h
def bg (P:Program)(T:TypeId):Option Nat:=
 match P.info? T with
 | some i=>match i.zero with
  | some z=>if z.cells.size=i.size then some i.bytes else none
  | none=>none
 | none=>none
theorem vf{n:Nat}(h:bg P T=some n):∃ i z,P.info? T=some i∧i.zero=some z∧z.cells.size=i.size∧i.bytes=n:=by
 unfold bg at h;split at h
 ·rename_i i hi
  split at h
  ·rename_i z hz
   split at h
   ·rename_i he;simp only [ai] at h;exact⟨i,z,hi,hz,he,h⟩
   ·cases h
  ·cases h
 ·cases h
def wv (lo hi:Option Operand)(rest:List AV):Option (Option AV × Option AV):=
 match lo,hi,rest with
 | none,none,[]=>some (none,none)
 | some _,none,[x]=>some (some x,none)
 | none,some _,[y]=>some (none,some y)
 | some _,some _,[x,y]=>some (some x,some y)
 | _,_,_=>none
def m8:AV→Bool
 | .c (.d (.bool _))|.agg _|.c (.d .nilp)|.c (.d (.ptr _))|.c (.d .nilsl)|.c (.d (.sl _))|.c (.d .nilIface)|.c (.d (.iface ..))=>true
 | _=>false
def keyOf:AV→List Key
 | .c (.aI k ..)=>[k]
 | _=>[]
abbrev bW:=AV × List (Key × LB) × List Key × Prop
variable {r:bW}
def aJ (P:Program)(op:BinOp)(T:TypeId)(x y:AV):Option bW:=
 match x,y with
 | .c (.d (.int k m)),.c (.d (.int k' n))=>
  match op with
  | .shl|.shr=>match Rj op k m n with|some d=>some (.c (.d d),[],[],0≤n)|none=>none
  | _=>if k=k' then (match kJ op k m n with|some d=>some (.c (.d d),[],[],eV op n)|none=>none) else none
 | .c (.d (.str m)),.c (.d (.str n))=>match Nq op m n with|some d=>some (.c (.d d),[],[],uE op m n)|none=>none
 | x,y=>
  match op with
  | .eql=>if P.eqGuardType P.depth T || !m8 x then none else match zl P 20 T x y with|some b=>some (.c (.d (.bool b)),[],[],True)|none=>none
  | .neq=>if P.eqGuardType P.depth T || !m8 x then none else match zl P 20 T x y with|some b=>some (.c (.d (.bool (!b))),[],[],True)|none=>none
  | _=>none
def cx (P:Program)(T:TypeId)(lv:Key→LB):AV→Option bW
 | .c (.d (.ptr cs))=>match dQ P T (cs.map CV.d) with|some y=>some (y,[],[],True)|none=>none
 | .c (.ptr k off)=>match lv k with
  | .cells _ _ _ cs=>match dQ P T (cs.drop off) with|some y=>some (y,[],[k],True)|none=>none
  | _=>none
 | _=>none
def dh (P:Program)(T:TypeId)(lv:Key→LB)(x y:AV):Option bW:=
 match x with
 | .c (.ptr k off)=>match lv k with
  | .cells own false T' cs=>match y.cells with
   | some xs=>if (P.info? T).isSome && xs.length == gb P T then some (.undef,[(k,.cells own false T' (aj cs off xs))],[],off+xs.length≤cs.length) else none
   | none=>none
  | _=>none
 | _=>none
def gk (lv:Key→LB):AV→Option bW
 | .c (.d (.ptr cs))=>some (.c (.d (.ptr cs)),[],[],True)
 | .c (.ptr k n)=>match lv k with|.cells ..=>some (.c (.ptr k n),[],[k],True)|_=>none
 | .c (.d (.func (.func f) fs cs))=>some (.c (.d (.func (.func f) fs cs)),[],[],True)
 | .c (.func (.func f) fs cs)=>some (.c (.func (.func f) fs cs),[],[],True)
 | _=>none
def bF (P:Program)(T:TypeId)(f:Nat)(lv:Key→LB):AV→Option bW
 | .c (.d (.ptr cs))=>match cW P T f with|some (off,_)=>some (.c (.d (.ptr (cs.drop off))),[],[],off≤cs.length)|none=>none
 | .c (.ptr k n)=>match lv k,cW P T f with|.cells ..,some (off,_)=>some (.c (.ptr k (n+off)),[],[k],True)|_,_=>none
 | _=>none
def aq (P:Program)(T:TypeId)(lv:Key→LB)(x i:AV):Option bW:=
 match i with
 | .c (.d (.int _ n))=>
  match x with
  | .c (.d (.sl es))=>match ff P T with
   | some (_,sz)=>some (.c (.d (.ptr (es.getD n.toNat []))),[],[],0≤n∧n<es.length∧(es.getD n.toNat []).length=sz)
   | none=>none
  | .c (.aI k off len sz)=>match lv k,ff P T with
   | .cells ..,some (_,sz')=>if sz=sz' then some (.c (.ptr k (off+n.toNat*sz)),[],[k],0≤n∧n<len) else none
   | _,_=>none
  | .c (.d (.ptr cs))=>match qX P T with
   | some (len,_,sz)=>some (.c (.d (.ptr (cs.drop (n.toNat*sz)))),[],[],0≤n∧n<len∧n.toNat*sz≤cs.length)
   | none=>none
  | .c (.ptr k off)=>match lv k,qX P T with
   | .cells ..,some (len,_,sz)=>some (.c (.ptr k (off+n.toNat*sz)),[],[k],0≤n∧n<len)
   | _,_=>none
  | _=>none
 | _=>none
def fI (P:Program)(T:TypeId)(x i:AV):Option bW:=
 match i with
 | .c (.d (.int _ n))=>
  match x with
  | .c (.d (.str l))=>if ct P T then some (.c (.d (.int .u8 (l.getD n.toNat 0).toNat)),[],[],0≤n∧n<l.length) else none
  | .agg cs=>match qX P T with
   | some (len,e,sz)=>match nw P e cs (n.toNat*sz) with|some y=>some (y,[],[],0≤n∧n<len)|none=>none
   | none=>none
  | _=>none
 | _=>none
def bh (P:Program)(T:TypeId)(lv:Key→LB)(x:AV)(lo hi:Option AV):Option bW:=
 match x with
 | .c (.d (.str bs))=>if ct P T then (match dc lo 0,dc hi bs.length with
  | some l,some h=>some (.c (.d (.str ((bs.take h.toNat).drop l.toNat))),[],[],0≤l∧l≤h∧h≤bs.length)
  | _,_=>none) else none
 | .c (.d (.sl es))=>match ff P T with
  | some (_,sz)=>match dc lo 0,dc hi es.length with
   | some l,some h=>some (.c (.d (.sl ((es.take h.toNat).drop l.toNat))),[],[],0≤l∧l≤h∧h≤es.length∧∀ e∈es,e.length=sz)
   | _,_=>none
  | none=>none
 | .c (.d .nilsl)=>match ff P T with
  | some _=>match dc lo 0,dc hi 0 with
   | some l,some h=>some (.c (.d .nilsl),[],[],l=0∧h=0)
   | _,_=>none
  | none=>none
 | .c (.aI k off len sz)=>match lv k,ff P T with
  | .cells ..,some (_,sz')=>if sz=sz' then (match dc lo 0,dc hi len with
   | some l,some h=>some (.c (.aI k (off+l.toNat*sz) (h.toNat - l.toNat) sz),[],[k],0≤l∧l≤h∧h≤len∧(l<h∨l=0))
   | _,_=>none) else none
  | _,_=>none
 | _=>none
def fU (P:Program)(T:TypeId)(lv:Key→LB)(κ:Key)(x y:AV):Option bW:=
 match x,y with
 | .c (.d (.int _ l)),.c (.d (.int _ m))=>match ff P T,lv κ with
  | some (e,sz),.hole=>match aY P e,bg P e with
   | some zs,some b=>if zs.length=sz∧0<sz then some (.c (.aI κ 0 l.toNat sz),[(κ,.cells true false e (kB l.toNat zs))],[],0≤l∧l≤m∧(b:Int)*m≤281474976710656∧m≤9223372036854775807) else none
   | _,_=>none
  | _,_=>none
 | _,_=>none
def dM (P:Program)(T:TypeId)(lv:Key→LB)(κ:Key)(y x:AV):Option bW:=
 match ff P T,lv κ with
 | some (e,sz),.hole=>match bg P e,jl lv sz x with
  | some b,some (m,xs)=>
   match y with
   | .c (.d .nilsl)=>some (.c (.aI κ 0 m sz),[(κ,if m=0 then .bk else .cells true false e xs)],keyOf x,m≤9223372036854775807∧m*b≤140737488355328)
   | .c (.aI k off n sz')=>match lv k with
    | .bk=>if off=0∧n=0∧sz'=sz then some (.c (.aI κ 0 m sz),[(κ,if m=0 then .bk else .cells true false e xs)],k::keyOf x,m≤9223372036854775807∧m*b≤140737488355328) else none
    | .cells own false e' cs=>if off=0∧sz'=sz∧e'=e then
     some (.c (.aI κ 0 (n+m) sz),[(k,.dead),(κ,.cells own false e (cs++xs))],keyOf x,cs.length=n*sz∧n+m≤9223372036854775807∧(n+m)*b≤140737488355328) else none
    | _=>none
   | _=>none
  | _,_=>none
 | _,_=>none
def aB (P:Program)(T:TypeId)(n:Nat)(ixs:List Nat)(lv:Key→LB)(κ:Key)(vals:List AV):Option bW:=
 match ff P T,lv κ with
 | some (e,sz),.hole=>match aY P e with
  | some zs=>if zs.length=sz∧0<sz∧n*sz≤16777216∧ixs.length=vals.length then (match iT (fun i=>some (i*sz,sz)) (kB n zs) (ixs.zip vals) with
   | some cs=>some (.c (.aI κ 0 n sz),[(κ,.cells true false e cs)],[],True)
   | none=>none) else none
  | none=>none
 | _,_=>none
def gR (P:Program)(T:TypeId)(lv:Key→LB)(y x:AV):Option bW:=
 match y,ff P T with
 | .c (.aI k off n sz),some (_,sz')=>if sz=1∧sz'=1 then (match lv k,jl lv 1 x with
  | .cells own false T' cs,some (m,xs)=>some (.c (.d (.int .i64 ((min m n:Nat):Int))),[(k,.cells own false T' (aj cs off (xs.take (min m n))))],keyOf x,0<m∧off+min m n≤cs.length∧n≤9223372036854775807)
  | _,_=>none) else none
 | _,_=>none
def eN:List AV→Option (IntKind × List Int)
 | [.c (.d (.int k n))]=>some (k,[n])
 | .c (.d (.int k n))::r=>match eN r with|some (k',l)=>if k=k' then some (k,n::l) else none|none=>none
 | _=>none
def iy (P:Program)(cl:Call)(vals:List AV)(lv:Key→LB)(κ:Key):Option bW:=
 match cl.callee with
 | .builtin .len=>match cl.args.toList,cl.argTypes.toList,vals with
  | [_],[T],[x]=>match lF P T lv x with
   | some n=>some (.c (.d (.int .i64 n)),[],keyOf x,kV x n)
   | none=>none
  | _,_,_=>none
 | .builtin .append=>match cl.args.toList,cl.argTypes.toList,vals with
  | [_,_],[T,T'],[y,x]=>if T=T' then dM P T lv κ y x else none
  | _,_,_=>none
 | .builtin .copy=>match cl.args.toList,cl.argTypes.toList,vals with
  | [_,_],[T,_],[y,x]=>gR P T lv y x
  | _,_,_=>none
 | .builtin .max=>match eN vals with
  | some (k,n::l)=>some (.c (.d (.int k (l.foldl (fun a b=>if b > a then b else a) n))),[],[],True)
  | _=>none
 | .builtin .min=>match eN vals with
  | some (k,n::l)=>some (.c (.d (.int k (l.foldl (fun a b=>if b<a then b else a) n))),[],[],True)
  | _=>none
 | _=>none
def aZ (P:Program)(op:Op)(vals:List AV)(lv:Key→LB)(κ:Key):Option bW:=
 match op,vals with
 | .move _,[x]|.assign _,[x]=>some (x,[],[],True)
 | .pick _ _ _,[t,x,y]=>match t with|.c (.d (.bool true))=>some (x,[],[],True)|.c (.d (.bool false))=>some (y,[],[],True)|_=>none
 | .alloc T,[]=>match aY P T,lv κ with|some xs,.hole=>some (.c (.ptr κ 0),[(κ,.cells true false T xs)],[],True)|_,_=>none
 | .box T _,[x]=>match x.cells,lv κ with|some xs,.hole=>some (.c (.ptr κ 0),[(κ,.cells true false T xs)],[],True)|_,_=>none
 | .build T parts,vals=>match aY P T,sM P T with
  | some zs,some place=>if parts.size=vals.length then (match iT place zs ((parts.toList.map (·.1)).zip vals) with|some cs=>some (.agg cs,[],[],True)|none=>none) else none
  | _,_=>none
 | .buildSlice T n parts,vals=>aB P T n (parts.toList.map (·.1)) lv κ vals
 | .load T _,[x]=>cx P T lv x
 | .store T _ _,[x,y]=>dh P T lv x y
 | .nilCheck _,[x]=>gk lv x
 | .binOp op T _ _ _,[x,y]=>aJ P op T x y
 | .unOp op _ _,[x]=>match x with|.c (.d d)=>(match Sx op d with|some d'=>some (.c (.d d'),[],[],True)|none=>none)|_=>none
 | .convert S T _,[x]=>match x with
  | .c (.d (.int _ n))=>match pL P S,pL P T with|some _,some k'=>some (.c (.d (.int k' (k'.wrap n))),[],[],True)|_,_=>none
  | .c (.d (.str l))=>if ct P S && ct P T then some (.c (.d (.str l)),[],[],True) else none
  | _=>none
 | .makeInterface T _,[x]=>match kW x with|some d=>if P.concrete T then some (.c (.d (.iface T d)),[],[],True) else none|none=>none
 | .makeFunc fn first caps,vals=>if vals.length=first.size+caps.size then (match qZ (vals.take first.size),qZ (vals.drop first.size) with
  | some fr,some cr=>some (.c (zI fn fr cr),[],[],True)
  | _,_=>none) else none
 | .makeSlice T _ _,[x,y]=>fU P T lv κ x y
 | .slice T _ lo hi none,x::rest=>match wv lo hi rest with|some (l,h)=>bh P T lv x l h|none=>none
 | .fieldAddr T _ f,[x]=>bF P T f lv x
 | .field T _ f,[x]=>match x with|.agg cs=>(match cW P T f with|some (off,ft)=>(match nw P ft cs off with|some y=>some (y,[],[],True)|none=>none)|none=>none)|_=>none
 | .indexAddr T _ _,[x,i]=>aq P T lv x i
 | .index T _ _,[x,i]=>fI P T x i
 | .extract _ i,[x]=>match x with|.tup l=>(match l[i]? with|some (.tup _)=>none|some y=>some (y,[],[],True)|none=>none)|_=>none
 | .call cl,vals=>iy P cl vals lv κ
 | _,_=>none
def aR (lv:Key→LB)(us:List (Key × LB)):Key→LB:=us.foldl (fun f p=>aD f p.1 p.2) lv
section
variable {c:Ctx}{s:au}{o:Oper}
theorem xP{x:Option α}(h:(x.isSome && b)=true):x.isSome=true∧b=true:=by simpa using h
theorem NF{d:Nat}(h:zl P d T (.c (.d .nilIface)) (.c (.d .nilIface))=some b):False:=by
 cases d with
 | zero=>cases h
 | succ d=>unfold zl at h;split at h <;> simp_all
theorem xz{p q:AV}{u:Value}{d:Nat}(hu:V.av u p) (hv:V.av v q) (he:zl P d T p q=some b) (hp:m8 p=true)
 (hg:P.eqGuardType P.depth T=false) (hr:(Op.equalIn 10000 T u v).run P V.w=.ok b V.w) :
 (do eqGuard .eql T x y u v;binOp .eql T u v:Sem Value).run P V.w=.ok (.bool b) V.w∧(do eqGuard .neq T x y u v;binOp .neq T u v:Sem Value).run P V.w=.ok (.bool (!b)) V.w:=by
 have hq:(Op.equal T u v).run P V.w=.ok b V.w:=hr
 have key:∀ op,op=.eql∨op=.neq→(eqGuard op T x y u v).run P V.w=.ok () V.w:=by
  intro op hop
  have hne:¬ (u=.nilIface∧v=.nilIface):=by
   rintro⟨rfl,rfl⟩
   have e1:p=.c (.d .nilIface):=by
    cases p with
    | c z=>cases z <;> simp [m8] at hp
           rename_i z;cases z <;> simp at hp <;> (obtain⟨hu,_⟩:=hu;cases hu);rfl
    | agg cs=>obtain⟨arr,h,_⟩:=hu;cases h
    | tup l=>cases hp
    | undef=>cases hp
    | junk=>cases hp
   subst e1
   have e2:q=.c (.d .nilIface):=by
    cases d with
    | zero=>cases he
    | succ d=>
     unfold zl at he;split at he <;> first|(simp at *;done)|skip
     all_goals (first|(rename_i h1 h2 h3;simp_all;done)|skip)
     all_goals (obtain⟨hv,_⟩:=hv;cases hv)
   subst e2;exact NF he
  unfold eqGuard;rcases hop with rfl|rfl <;> simp only [Bool.not_true,Y2,if_false] <;> split <;> first|(exfalso;exact hne ⟨rfl,rfl⟩)|(simp [hg];done)|rfl
 have hb:binOp .eql T u v=(do pure (.bool (← Op.equal T u v)))∧binOp .neq T u v=(do pure (.bool (!(← Op.equal T u v)))):=by
  cases p with
  | c z=>
   cases z <;> simp [m8] at hp
   rename_i z
   cases z <;> simp at hp <;> (obtain⟨hu,_⟩:=hu;cases hu) <;> exact⟨rfl,rfl⟩
  | agg cs=>obtain⟨arr,rfl,_⟩:=hu;exact⟨rfl,rfl⟩
  | tup l=>cases hp
  | undef=>cases hp
  | junk=>cases hp
 constructor
 ·rw [cK,key .eql (.inl rfl),rP,hb.1,cK,hq];rfl
 ·rw [cK,key .neq (.inr rfl),rP,hb.2,cK,hq];rfl
theorem OE{κ:bW}(hd:∀ d,o.dst=some d→d<c.n) (ho:o.op=.binOp op T x y T')
 (h:aJ c.P op T (s.val c.G x) (s.val c.G y)=some κ) (hvc:κ.2.2.2):bP c o s (au.put ⟨s.fr,aR s.lv κ.2.1⟩ o.dst κ.1):=by
 have hst:(⟨s.fr,s.lv⟩:au)=s:=rfl;unfold aJ at h;split at h
 ·rename_i k m k' n hx hy
  split at h
  ·split at h
   ·simp only [ai] at h;subst h;exact G7 hd ho hx hy (by assumption) hvc
   ·cases h
  ·split at h
   ·simp only [ai] at h;subst h;exact G7 hd ho hx hy (by assumption) hvc
   ·cases h
  ·split at h
   ·rename_i hk;subst hk
    split at h
    ·simp only [ai] at h;subst h;exact J7 hd ho hx hy (by assumption) hvc
    ·cases h
   ·cases h
 ·rename_i m n hx hy
  split at h
  ·simp only [ai] at h;subst h;exact Kl hd ho hx hy (by assumption) hvc
  ·cases h
 ·split at h
  ·split at h
   ·cases h
   ·rename_i hg
    split at h
    ·rename_i b hb
     simp only [ai] at h;subst h;refine bP.aU hd fun F β a w hs=>⟨.bool b,?_,Vw.m7 _ _⟩
     have hr:=Cw (Vw.mk F β s.lv w) 20 T _ _ b hb _ _ (hs.val x) (hs.val y) 10000 (by omega);have:=(xz (x:=x) (y:=y) (hs.val x) (hs.val y) hb (by simp at hg;exact hg.2) (by simp at hg;exact hg.1) hr).1;simp only [execOp,ho];rw [cK,this];rfl
    ·cases h
  ·split at h
   ·cases h
   ·rename_i hg
    split at h
    ·rename_i b hb
     simp only [ai] at h;subst h;refine bP.aU hd fun F β a w hs=>⟨.bool (!b),?_,Vw.m7 _ _⟩
     have hr:=Cw (Vw.mk F β s.lv w) 20 T _ _ b hb _ _ (hs.val x) (hs.val y) 10000 (by omega);have:=(xz (x:=x) (y:=y) (hs.val x) (hs.val y) hb (by simp at hg;exact hg.2) (by simp at hg;exact hg.1) hr).2;simp only [execOp,ho];rw [cK,this];rfl
    ·cases h
  ·cases h
theorem GV{ρ:Operand→AV}{l h:Option AV}(hb:wv lo hi ((lo.toArray++hi.toArray).toList.map ρ)=some (l,h)):l=lo.map ρ∧h=hi.map ρ:=by
 cases lo <;> cases hi <;> simp [wv] at hb ⊢ <;> (obtain⟨rfl,rfl⟩:=hb;simp)
theorem dJ {β:Type}{f:α→β}{x:α}{y:β}(h:[x].map f=[y]):f x=y:=by simpa using h
theorem mX{b:Callee}{xs:List Operand}(h1:cl.callee=b) (h2:cl.args.toList=xs) (h3:cl.argTypes.toList=ts) :
 cl={ callee:=b,args:=xs.toArray,argTypes:=ts.toArray }:=by
 cases cl;simp only at h1 h2 h3;subst h1 h2 h3;simp
theorem og {V:Vw}:∀ {vals:List AV}{k:IntKind}{l:List Int}{vs:List Value},eN vals=some (k,l)→vs.length=vals.length→(∀ i (h:i<vs.length) (h':i<vals.length),V.av vs[i] vals[i]) →
 vs=l.map (Value.int k)
 | [],_,_,_,h,_,_=>by cases h
 | [x],k,l,vs,h,hl,hv=>by
  match vs,hl with
  | [v],_=>
   have h0:=hv 0 (by simp) (by simp);unfold eN at h;split at h
   ·rename_i e
    simp only [Zh,and_true] at e;simp only [ai,fy] at h;obtain⟨rfl,rfl⟩:=h;simp only [Zx,e] at h0;rw [Vw.fP h0];rfl
   ·exfalso;simp_all
   ·cases h
 | x::y::r,k,l,vs,h,hl,hv=>by
  match vs,hl with
  | v::vr,hl=>
   have h0:=hv 0 (by simp) (by simp);unfold eN at h;split at h
   ·rename_i e;simp at e
   ·rename_i hne e
    simp only [Zh] at e;obtain⟨rfl,rfl⟩:=e;split at h
    ·rename_i k' l' hr
     split at h
     ·rename_i hk;subst hk
      simp only [ai,fy] at h;obtain⟨rfl,rfl⟩:=h;simp only [Zx] at h0;rw [Vw.fP h0,og hr (by simpa using hl) (fun i p q=>hv (i+1) (by simpa using p) (by simpa using q))];rfl
     ·cases h
    ·cases h
   ·cases h
theorem qJ {V:Vw}:∀ {vals:List AV}{k:IntKind}{l:List Int}{vs:List Value},eN vals=some (k,l)→vs.length=vals.length→(∀ i (h:i<vs.length) (h':i<vals.length),V.av vs[i] vals[i]) →
 ∀ m∈l,k.wrap m=m
 | [],_,_,_,h,_,_=>by cases h
 | [x],k,l,vs,h,hl,hv=>by
  match vs,hl with
  | [v],_=>
   have h0:=hv 0 (by simp) (by simp);unfold eN at h;split at h
   ·rename_i e
    simp only [Zh,and_true] at e;simp only [ai,fy] at h;obtain⟨rfl,rfl⟩:=h;simp only [Zx,e] at h0;simp only [ZW];rintro m rfl;exact Vw.s6 h0
   ·exfalso;simp_all
   ·cases h
 | x::y::r,k,l,vs,h,hl,hv=>by
  match vs,hl with
  | v::vr,hl=>
   have h0:=hv 0 (by simp) (by simp);unfold eN at h;split at h
   ·rename_i e;simp at e
   ·rename_i hne e
    simp only [Zh] at e;obtain⟨rfl,rfl⟩:=e;split at h
    ·rename_i k' l' hr
     split at h
     ·rename_i hk;subst hk
      simp only [ai,fy] at h;obtain⟨rfl,rfl⟩:=h;simp only [Zx] at h0;intro m hm;rcases List.mem_cons.1 hm with rfl|hm
      ·exact Vw.s6 h0
      ·exact qJ hr (by simpa using hl) (fun i p q=>hv (i+1) (by simpa using p) (by simpa using q)) m hm
     ·cases h
    ·cases h
   ·cases h
theorem qq {f:Int→Int→Int}(hf:∀ a b,f a b=a∨f a b=b):∀ (l:List Int) (n:Int),l.foldl f n∈n::l
 | [],n=>by simp
 | x::l,n=>by
  have h:=qq hf l (f n x);rw [abc];rcases List.mem_cons.1 h with h|h
  ·rw [h];rcases hf n x with e|e <;> rw [e] <;> simp
  ·simp [h]
theorem xj {P:Program}{k:IntKind}(w:World):∀ (l:List Int) (n:Int),((l.map (Value.int k)).foldlM Builtin.max2 (.int k n)).run P w=.ok (.int k (l.foldl (fun a b=>if b > a then b else a) n)) w
 | [],n=>rfl
 | x::l,n=>by
  simp only [Y0,List.foldlM_cons,abc,cK];have:(Builtin.max2 (.int k n) (.int k x)).run P w=.ok (.int k (if x > n then x else n)) w:=rfl;rw [this,rP];exact xj w l _
theorem yP {P:Program}{k:IntKind}(w:World):∀ (l:List Int) (n:Int),((l.map (Value.int k)).foldlM Builtin.min2 (.int k n)).run P w=.ok (.int k (l.foldl (fun a b=>if b<a then b else a) n)) w
 | [],n=>rfl
 | x::l,n=>by
  simp only [Y0,List.foldlM_cons,abc,cK];have:(Builtin.min2 (.int k n) (.int k x)).run P w=.ok (.int k (if x<n then x else n)) w:=rfl;rw [this,rP];exact yP w l _
theorem IF(hd:∀ d,o.dst=some d→d<c.n) (ho:o.op=.call cl) (hv:(Op.call cl).operands.toList.map (s.val c.G)=vals)
 (h:iy c.P cl vals s.lv κ=some r) (hvc:r.2.2.2):bP c o s (au.put ⟨s.fr,aR s.lv r.2.1⟩ o.dst r.1):=by
 unfold iy at h;split at h
 ·rename_i hcal
  split at h
  ·rename_i a0 T x ha ht
   have hcl:=mX hcal ha ht;subst hcl;have h1:s.val c.G a0=x:=by simpa [Op.operands,Call.operands] using hv
   split at h
   ·simp only [ai] at h;subst h;exact Nz hd ho (by rw [h1];assumption) (by rw [h1];exact hvc)
   ·cases h
  ·cases h
 ·rename_i hcal
  split at h
  ·rename_i a0 a1 T T' y x ha ht
   have hcl:=mX hcal ha ht;subst hcl;have h12:s.val c.G a0=y∧s.val c.G a1=x:=by simpa [Op.operands,Call.operands] using hv
   obtain⟨h1,h2⟩:=h12;split at h
   ·rename_i hTT;subst hTT
    unfold dM at h;split at h
    ·rename_i e sz hT hk
     split at h
     ·rename_i b m xs hb hx
      obtain⟨i,z,hi,hz1,hz2,hz3⟩:=vf hb;obtain⟨hu,hie,hsz⟩:=dL hT;have hsize:z.cells.size=sz:=by rw [hz2,← hsz];simp [gb,hi]
      split at h
      ·simp only [ai] at h;subst h;exact yM hd ho hk h1 hT hi hz1 (by rw [h2];exact hx) hsize hvc.1 (by rw [hz3];exact hvc.2)
      ·split at h
       ·split at h
        ·rename_i hc
         obtain⟨rfl,rfl,rfl⟩:=hc;simp only [ai] at h;subst h;exact vN hd ho hk hT hi hz1 h1 (by assumption) (by rw [h2];exact hx) hsize hvc.1 (by rw [hz3];exact hvc.2)
        ·cases h
       ·split at h
        ·rename_i hc
         obtain⟨rfl,rfl,rfl⟩:=hc;simp only [ai] at h;subst h;exact yd hd ho hk hT hi hz1 h1 (by assumption) hvc.1 (by rw [h2];exact hx) hsize hvc.2.1 (by rw [hz3];exact hvc.2.2)
        ·cases h
       ·cases h
      ·cases h
     ·cases h
    ·cases h
   ·cases h
  ·cases h
 ·rename_i hcal
  split at h
  ·rename_i a0 a1 T T' y x ha ht
   have hcl:=mX hcal ha ht;subst hcl;have h12:s.val c.G a0=y∧s.val c.G a1=x:=by simpa [Op.operands,Call.operands] using hv
   obtain⟨h1,h2⟩:=h12;unfold gR at h;split at h
   ·rename_i k off n sz e sz' hT
    split at h
    ·rename_i hsz
     obtain⟨rfl,rfl⟩:=hsz;split at h
     ·rename_i own T0 cs m xs hk hx
      simp only [ai] at h;subst h;obtain⟨g1,g2,g3⟩:=hvc;exact JR hd ho h1 hk hT (by rw [h2];exact hx) g1 g2 g3
     ·cases h
    ·cases h
   ·cases h
  ·cases h
 ·rename_i hcal
  split at h
  ·rename_i k n l hi
   simp only [ai] at h;subst h;refine bP.aU hd fun F β a w hs=>?_
   have hall:(cl.args.toList.map a.eval).length=vals.length∧∀ i (h:i<(cl.args.toList.map a.eval).length) (h':i<vals.length),(Vw.mk F β s.lv w).av (cl.args.toList.map a.eval)[i] vals[i]:=by
    refine⟨?_,?_⟩
    ·rw [← hv];simp [Op.operands,Call.operands,hcal]
    ·intro i p q;subst hv;simp only [Op.operands,Call.operands,hcal,abh,sr] at q ⊢;exact hs.val _
   have hargs:cl.args.toList.map a.eval=(n::l).map (Value.int k):=og (V:=Vw.mk F β s.lv w) hi hall.1 hall.2;have hrng:=qJ (V:=Vw.mk F β s.lv w) hi hall.1 hall.2 _ (qq (f:=fun a b=>if b > a then b else a) (fun a b=>by by_cases h:b > a <;> simp [h]) l n);refine⟨.int k (l.foldl (fun a b=>if b > a then b else a) n),?_,Vw.jB _ _ _ hrng⟩
   have hm:(Builtin.max_ cl.argTypes o.type (cl.args.map a.eval)).run c.P w=.ok (.int k (l.foldl (fun a b=>if b > a then b else a) n)) w:=by
    simp only [Builtin.max_,Array.toList_map,hargs,Y0];exact xj w l n
   simp [execOp,ho,resolve,hcal,invoke,builtin,hm]
  ·cases h
 ·rename_i hcal
  split at h
  ·rename_i k n l hi
   simp only [ai] at h;subst h;refine bP.aU hd fun F β a w hs=>?_
   have hall:(cl.args.toList.map a.eval).length=vals.length∧∀ i (h:i<(cl.args.toList.map a.eval).length) (h':i<vals.length),(Vw.mk F β s.lv w).av (cl.args.toList.map a.eval)[i] vals[i]:=by
    refine⟨?_,?_⟩
    ·rw [← hv];simp [Op.operands,Call.operands,hcal]
    ·intro i p q;subst hv;simp only [Op.operands,Call.operands,hcal,abh,sr] at q ⊢;exact hs.val _
   have hargs:cl.args.toList.map a.eval=(n::l).map (Value.int k):=og (V:=Vw.mk F β s.lv w) hi hall.1 hall.2;have hrng:=qJ (V:=Vw.mk F β s.lv w) hi hall.1 hall.2 _ (qq (f:=fun a b=>if b<a then b else a) (fun a b=>by by_cases h:b<a <;> simp [h]) l n);refine⟨.int k (l.foldl (fun a b=>if b<a then b else a) n),?_,Vw.jB _ _ _ hrng⟩
   have hm:(Builtin.min_ cl.argTypes o.type (cl.args.map a.eval)).run c.P w=.ok (.int k (l.foldl (fun a b=>if b<a then b else a) n)) w:=by
    simp only [Builtin.min_,Array.toList_map,hargs,Y0];exact yP w l n
   simp [execOp,ho,resolve,hcal,invoke,builtin,hm]
  ·cases h
 ·cases h
theorem zY {op:Op}(hd:∀ d,o.dst=some d→d<c.n) (ho:o.op=op) (hv:op.operands.toList.map (s.val c.G)=vals)
 (h:aZ c.P op vals s.lv κ=some r) (hvc:r.2.2.2):bP c o s (au.put ⟨s.fr,aR s.lv r.2.1⟩ o.dst r.1):=by
 unfold aZ at h;split at h
 ·
  simp only [ai] at h;subst h;have:=dJ hv;subst this;exact CJ hd (.inl ho)
 ·simp only [ai] at h;subst h;have:=dJ hv;subst this;exact CJ hd (.inr ho)
 ·
  simp only [Op.operands,Y0,Zy,Zh,and_true] at hv;obtain⟨h1,h2,h3⟩:=hv;split at h
  ·simp only [ai] at h;subst h;subst h2;exact DY hd ho h1
  ·simp only [ai] at h;subst h;subst h3;exact DY hd ho h1
  ·cases h
 ·
  split at h
  ·rename_i xs hz hk
   simp only [ai] at h;subst h;obtain⟨z,hz1,hz2⟩:=kS hz;exact Il hd ho hk hz1 hz2
  ·cases h
 ·
  have h1:=dJ hv;split at h
  ·rename_i xs hx hk
   simp only [ai] at h;subst h;exact OF hd ho hk (by rw [h1];exact hx)
  ·cases h
 ·
  split at h
  ·rename_i zs place hz hp
   split at h
   ·split at h
    ·rename_i cs hf
     simp only [ai] at h;subst h;obtain⟨z,hz1,hz2⟩:=kS hz;refine IT hd ho hz1 hz2 hp ?_;rw [← hf];congr 1;rw [← hv];simp only [Op.operands,Y7];rw [List.zip_map'];rfl
    ·cases h
   ·cases h
  ·cases h
 ·
  unfold aB at h;split at h
  ·rename_i e sz hT hk
   split at h
   ·rename_i zs hz
    split at h
    ·rename_i hc
     split at h
     ·rename_i cs hf
      simp only [ai] at h;subst h;obtain⟨z,hz1,hz2⟩:=kS hz;refine xe hd ho hk hT hz1 hz2 hc.1 hc.2.1 hc.2.2.1 ?_;rw [← hf];congr 1;rw [← hv];simp only [Op.operands,Y7];rw [List.zip_map'];rfl
     ·cases h
    ·cases h
   ·cases h
  ·cases h
 ·
  have h1:=dJ hv;unfold cx at h;split at h
  ·split at h
   ·simp only [ai] at h;subst h;exact FE hd ho h1 (by assumption)
   ·cases h
  ·split at h
   ·split at h
    ·simp only [ai] at h;subst h;exact FO hd ho h1 (by assumption) (by assumption)
    ·cases h
   ·cases h
  ·cases h
 ·
  simp only [Op.operands,Y0,Zy,Zh,and_true] at hv;obtain⟨h1,h2⟩:=hv;unfold dh at h;split at h
  ·split at h
   ·split at h
    ·split at h
     ·rename_i hc
      simp only [ai] at h;subst h;obtain⟨h3,h4⟩:=xP hc;exact H7 hd ho h1 (by assumption) (by rw [h2];assumption) h3 (by simpa using h4) hvc
     ·cases h
    ·cases h
   ·cases h
  ·cases h
 ·
  have h1:=dJ hv;unfold gk at h;split at h
  ·simp only [ai] at h;subst h;exact yB hd ho h1
  ·split at h
   ·simp only [ai] at h;subst h;exact x9 hd ho h1 (by assumption)
   ·cases h
  ·simp only [ai] at h;subst h;exact xO hd ho h1 (fun m e=>by cases e)
  ·simp only [ai] at h;subst h;exact vz hd ho h1 (fun m e=>by cases e)
  ·cases h
 ·
  simp only [Op.operands,Y0,Zy,Zh,and_true] at hv;obtain⟨h1,h2⟩:=hv;subst h1 h2;exact OE hd ho h hvc
 ·
  have h1:=dJ hv;split at h
  ·split at h
   ·simp only [ai] at h;subst h;exact Ke hd ho h1 (by assumption)
   ·cases h
  ·cases h
 ·
  have h1:=dJ hv;split at h
  ·split at h
   ·rename_i e1 e2
    simp only [ai] at h;subst h;exact AZ hd ho h1 (by rw [e1];rfl) e2
   ·cases h
  ·split at h
   ·rename_i hc
    simp only [ai] at h;subst h;simp only [cy] at hc;exact B5 hd ho h1 hc.1 hc.2
   ·cases h
  ·cases h
 ·
  have h1:=dJ hv;split at h
  ·split at h
   ·simp only [ai] at h;subst h;exact DR hd ho (by rw [h1];assumption) (by assumption)
   ·cases h
  ·cases h
 ·
  split at h
  ·rename_i hl
   split at h
   ·rename_i fr cr e1 e2
    simp only [ai] at h;subst h;simp only [Op.operands,Array.toList_append,Z2] at hv;subst hv;rw [List.take_left' (by simp)] at e1;rw [List.drop_left' (by simp)] at e2;exact FX hd ho e1 e2
   ·cases h
  ·cases h
 ·
  simp only [Op.operands,Y0,Zy,Zh,and_true] at hv;obtain⟨h1,h2⟩:=hv;unfold fU at h;split at h
  ·split at h
   ·rename_i e sz hT hk
    split at h
    ·rename_i zs b hz hb
     split at h
     ·rename_i hc
      simp only [ai] at h;subst h;obtain⟨i,z,hi,hz1,hz2,hz3⟩:=vf hb;obtain⟨z',hz4,hz5⟩:=kS hz;rw [hi] at hz4;simp only [Option.bind_some] at hz4;rw [hz1] at hz4;cases hz4;obtain⟨v1,v2,v3,v4⟩:=hvc;exact KY hd ho hk h1 h2 hT hi hz1 hz5 hc.1 hc.2 v1 v2 (by rw [hz3];exact v3) v4
     ·cases h
    ·cases h
   ·cases h
  ·cases h
 ·
  rename_i T x lo hi v rest
  simp only [Op.operands,Option.toArray_none,Array.append_empty,Array.append_assoc,Array.toList_append,Z2,Y0,Z3,Zt,Zh] at hv;obtain⟨h1,h2⟩:=hv;split at h
  ·rename_i l hh hb
   rw [← h2,← Z2,← Array.toList_append] at hb;obtain⟨rfl,rfl⟩:=GV hb;unfold bh at h;split at h
   ·split at h
    ·rename_i hs
     split at h
     ·simp only [ai] at h;subst h;obtain⟨v1,v2,v3⟩:=hvc;exact zR hd ho h1 (hH hs) (by assumption) (by assumption) v1 v2 v3
     ·cases h
    ·cases h
   ·split at h
    ·rename_i hT
     split at h
     ·simp only [ai] at h;subst h;obtain⟨v1,v2,v3,v4⟩:=hvc;exact En hd ho h1 hT v4 (by assumption) (by assumption) v1 v2 v3
     ·cases h
    ·cases h
   ·split at h
    ·rename_i hT
     split at h
     ·simp only [ai] at h;subst h;exact zT hd ho h1 hT (by assumption) (by assumption) hvc.1 hvc.2
     ·cases h
    ·cases h
   ·split at h
    ·rename_i hk hT
     split at h
     ·rename_i hsz;subst hsz
      split at h
      ·simp only [ai] at h;subst h;obtain⟨v1,v2,v3,v4⟩:=hvc;exact EB hd ho h1 hk hT (by assumption) (by assumption) v1 v2 v3 v4
      ·cases h
     ·cases h
    ·cases h
   ·cases h
  ·cases h
 ·
  have h1:=dJ hv;unfold bF at h;split at h
  ·split at h
   ·simp only [ai] at h;subst h;exact wA hd ho h1 (by assumption) hvc
   ·cases h
  ·split at h
   ·simp only [ai] at h;subst h;exact wm hd ho h1 (by assumption) (by assumption)
   ·cases h
  ·cases h
 ·
  have h1:=dJ hv;split at h
  ·split at h
   ·split at h
    ·simp only [ai] at h;subst h;exact IX hd ho h1 (by assumption) (by assumption)
    ·cases h
   ·cases h
  ·cases h
 ·
  simp only [Op.operands,Y0,Zy,Zh,and_true] at hv;obtain⟨h1,h2⟩:=hv;unfold aq at h;split at h
  ·split at h
   ·rename_i es _
    split at h
    ·simp only [ai] at h;subst h;obtain⟨v1,v2,v3⟩:=hvc;refine vF hd ho h1 h2 (by assumption) v1 ?_ v3;rw [hJ,cn (by omega)];rfl
    ·cases h
   ·split at h
    ·split at h
     ·rename_i hsz;subst hsz
      simp only [ai] at h;subst h;exact vL hd ho h1 (by assumption) h2 (by assumption) hvc.1 hvc.2
     ·cases h
    ·cases h
   ·split at h
    ·simp only [ai] at h;subst h;exact uI hd ho h1 h2 (by assumption) hvc.1 hvc.2.1 hvc.2.2
    ·cases h
   ·split at h
    ·simp only [ai] at h;subst h;exact tI hd ho h1 (by assumption) h2 (by assumption) hvc.1 hvc.2
    ·cases h
   ·cases h
  ·cases h
 ·
  simp only [Op.operands,Y0,Zy,Zh,and_true] at hv;obtain⟨h1,h2⟩:=hv;unfold fI at h;split at h
  ·split at h
   ·split at h
    ·rename_i hs
     simp only [ai] at h;subst h;refine zO hd ho h1 h2 (hH hs) hvc.1 ?_;have:=hvc.2;rw [hJ,cn (by omega)];rfl
    ·cases h
   ·split at h
    ·split at h
     ·simp only [ai] at h;subst h;exact zG hd ho h1 h2 (by assumption) hvc.1 hvc.2 (by assumption)
     ·cases h
    ·cases h
   ·cases h
  ·cases h
 ·
  have h1:=dJ hv;split at h
  ·split at h
   ·cases h
   ·rename_i y hnt hy
    simp only [ai] at h;subst h;exact Df hd ho h1 hy (fun l' e=>hnt l' e)
   ·cases h
  ·cases h
 ·
  rename_i cl vals'
  exact IF hd ho hv h hvc
 ·cases h
def Agree (lv lv':Key→LB)(us:List (Key × LB))(rds:List Key):Prop:=(∀ k∈rds,lv' k=lv k)∧∀ p∈us,lv' p.1=lv p.1
theorem mJ{x:AV}{r:Nat × List CV}(h:jl lv sz x=some r) (hk:∀ k∈keyOf x,lv' k=lv k):jl lv' sz x=some r:=by
 rw [← h];unfold jl;split <;> first|rfl|skip;rw [hk _ (by simp [keyOf])]
theorem EV{x:AV}{r:Int}(h:lF P T lv x=some r) (hk:∀ k∈keyOf x,lv' k=lv k):lF P T lv' x=some r:=by
 rw [← h];unfold lF;split <;> first|rfl|skip;rw [hk _ (by simp [keyOf])]
theorem yW{x:AV}(h:cx P T lv x=some r) (ha:Agree lv lv' r.2.1 r.2.2.1):cx P T lv' x=some r:=by
 have h0:=h;unfold cx at h ⊢;split at h
 ·exact h
 ·split at h
  ·rename_i e
   split at h
   ·rename_i e2
    simp only [ai] at h;subst h;have:=ha.1 _ (List.mem_singleton.2 rfl);simp only [this,e,e2]
   ·cases h
  ·cases h
 ·cases h
theorem vQ{x y:AV}(h:dh P T lv x y=some r) (ha:Agree lv lv' r.2.1 r.2.2.1):dh P T lv' x y=some r:=by
 unfold dh at h ⊢;split at h
 ·split at h
  ·rename_i e
   split at h
   ·rename_i e2
    split at h
    ·rename_i e3
     simp only [ai] at h;subst h;have:=ha.2 _ (List.mem_singleton.2 rfl);simp only at this;simp only [this,e,e3,if_true]
    ·cases h
   ·cases h
  ·cases h
 ·cases h
theorem zE{x:AV}(h:gk lv x=some r) (ha:Agree lv lv' r.2.1 r.2.2.1):gk lv' x=some r:=by
 unfold gk at h ⊢;split at h
 ·exact h
 ·split at h
  ·rename_i e
   simp only [ai] at h;subst h;have:=ha.1 _ (List.mem_singleton.2 rfl);simp only [this,e]
  ·cases h
 ·exact h
 ·exact h
 ·cases h
theorem pM{f:Nat}{x:AV}(h:bF P T f lv x=some r) (ha:Agree lv lv' r.2.1 r.2.2.1):bF P T f lv' x=some r:=by
 unfold bF at h ⊢;split at h
 ·exact h
 ·split at h
  ·rename_i e e2
   simp only [ai] at h;subst h;have:=ha.1 _ (List.mem_singleton.2 rfl);simp only [this,e,e2]
  ·cases h
 ·cases h
theorem pN{x i:AV}(h:aq P T lv x i=some r) (ha:Agree lv lv' r.2.1 r.2.2.1):aq P T lv' x i=some r:=by
 unfold aq at h ⊢;split at h
 ·split at h
  ·exact h
  ·split at h
   ·rename_i e e2
    split at h
    ·rename_i e3
     simp only [ai] at h;subst h;have:=ha.1 _ (List.mem_singleton.2 rfl);simp only [this,e,e2,if_pos e3]
    ·cases h
   ·cases h
  ·exact h
  ·split at h
   ·rename_i e e2
    simp only [ai] at h;subst h;have:=ha.1 _ (List.mem_singleton.2 rfl);simp only [this,e,e2]
   ·cases h
  ·cases h
 ·cases h
theorem vB{x:AV}{lo hi:Option AV}(h:bh P T lv x lo hi=some r) (ha:Agree lv lv' r.2.1 r.2.2.1):bh P T lv' x lo hi=some r:=by
 unfold bh at h ⊢;split at h
 ·exact h
 ·exact h
 ·exact h
 ·split at h
  ·rename_i e e2
   split at h
   ·rename_i e3
    split at h
    ·rename_i e4 e5
     simp only [ai] at h;subst h;have:=ha.1 _ (List.mem_singleton.2 rfl);simp only [this,e,e2,if_pos e3]
    ·cases h
   ·cases h
  ·cases h
 ·cases h
theorem yq{x y:AV}(h:fU P T lv κ x y=some r) (ha:Agree lv lv' r.2.1 r.2.2.1):fU P T lv' κ x y=some r:=by
 unfold fU at h ⊢;split at h
 ·split at h
  ·rename_i e e2
   split at h
   ·rename_i e3 e4
    split at h
    ·rename_i e5
     simp only [ai] at h;subst h;have:=ha.2 _ (List.mem_singleton.2 rfl);simp only at this;simp only [this,e,e2,e3,e4,if_pos e5]
    ·cases h
   ·cases h
  ·cases h
 ·cases h
theorem od{n:Nat}{ixs:List Nat}(h:aB P T n ixs lv κ vals=some r) (ha:Agree lv lv' r.2.1 r.2.2.1):aB P T n ixs lv' κ vals=some r:=by
 unfold aB at h ⊢;split at h
 ·rename_i e e2
  split at h
  ·rename_i e3
   split at h
   ·rename_i e4
    split at h
    ·rename_i e5
     simp only [ai] at h;subst h;have:=ha.2 _ (List.mem_singleton.2 rfl);simp only at this;simp only [this,e,e2,e3,if_pos e4,e5]
    ·cases h
   ·cases h
  ·cases h
 ·cases h
theorem ux{y x:AV}(h:dM P T lv κ y x=some r) (ha:Agree lv lv' r.2.1 r.2.2.1):dM P T lv' κ y x=some r:=by
 unfold dM at h ⊢;split at h
 ·rename_i e e2
  split at h
  ·rename_i e3 e4
   split at h
   ·simp only [ai] at h;subst h;have h1:=ha.2 _ (List.mem_singleton.2 rfl);simp only at h1;have h2:=mJ e4 (fun k hk=>ha.1 k hk);simp only [h1,e,e2,e3,h2]
   ·split at h
    ·rename_i e5
     split at h
     ·rename_i e6
      simp only [ai] at h;subst h;have h1:=ha.2 _ (List.mem_singleton.2 rfl);simp only at h1;have h2:=mJ e4 (fun k hk=>ha.1 k (ZX _ hk));have h3:=ha.1 _ (ZP);simp only [h1,e,e2,e3,h2,h3,e5,if_pos e6]
     ·cases h
    ·rename_i e5
     split at h
     ·rename_i e6
      simp only [ai] at h;subst h;have h1:=ha.2 _ (ZX _ (List.mem_singleton.2 rfl));simp only at h1;have h2:=mJ e4 (fun k hk=>ha.1 k hk);have h3:=ha.2 _ (ZP);simp only at h3;simp only [h1,e,e2,e3,h2,h3,e5,if_pos e6]
     ·cases h
    ·cases h
   ·cases h
  ·cases h
 ·cases h
theorem x8{y x:AV}(h:gR P T lv y x=some r) (ha:Agree lv lv' r.2.1 r.2.2.1):gR P T lv' y x=some r:=by
 unfold gR at h ⊢;split at h
 ·rename_i k off n sz e sz' hT
  split at h
  ·rename_i hsz
   split at h
   ·rename_i own T0 cs m xs hk hx
    simp only [ai] at h;subst h;have h1:=ha.2 _ (List.mem_singleton.2 rfl);simp only at h1;have h2:=mJ hx ha.1;simp only [hT,hsz,h1,hk,h2,and_self,if_true]
   ·cases h
  ·cases h
 ·cases h
theorem Ef(h:iy P cl vals lv κ=some r) (ha:Agree lv lv' r.2.1 r.2.2.1):iy P cl vals lv' κ=some r:=by
 unfold iy at h ⊢;split at h
 ·split at h
  ·split at h
   ·rename_i e
    simp only [ai] at h;subst h;rw [EV e ha.1]
   ·cases h
  ·cases h
 ·split at h
  ·split at h
   ·rename_i e;exact (by rw [if_pos e];exact ux h ha)
   ·cases h
  ·cases h
 ·split at h
  ·exact x8 h ha
  ·cases h
 ·exact h
 ·exact h
 ·cases h
theorem nT{op:Op}(h:aZ P op vals lv κ=some r) (ha:Agree lv lv' r.2.1 r.2.2.1):aZ P op vals lv' κ=some r:=by
 unfold aZ at h ⊢;split at h
 ·exact h
 ·exact h
 ·exact h
 ·split at h
  ·rename_i e e2
   simp only [ai] at h;subst h;have:=ha.2 _ (List.mem_singleton.2 rfl);simp only at this;simp only [this,e,e2]
  ·cases h
 ·split at h
  ·rename_i e e2
   simp only [ai] at h;subst h;have:=ha.2 _ (List.mem_singleton.2 rfl);simp only at this;simp only [this,e,e2]
  ·cases h
 ·exact h
 ·exact od h ha
 ·exact yW h ha
 ·exact vQ h ha
 ·exact zE h ha
 ·exact h
 ·exact h
 ·exact h
 ·exact h
 ·exact h
 ·exact yq h ha
 ·split at h
  ·exact vB h ha
  ·cases h
 ·exact pM h ha
 ·exact h
 ·exact pN h ha
 ·exact h
 ·exact h
 ·exact Ef h ha
 ·cases h
end
def KR:DV→AV
 | .agg l=>.agg (l.map .d)
 | x=>.c (.d x)
def ij.cv:ij→CV
 | .d x=>.d x
 | .ptr k o=>.ptr k o
 | .aI k o l z=>.aI k o l z
theorem Vw.N1{x:ij}(h:V.l9 v x):V.cv v x.cv:=by
 cases x <;> exact h
def s7:Ref→AV
 | .d x=>KR x
 | .ptr k o=>.c (.ptr k o)
 | .aI k o l z=>.c (.aI k o l z)
 | .agg cs=>.agg (cs.map ij.cv)
 | .ifc t x=>.c (.ifc t x)
theorem Vw.KR(h:Rd V.mem v d):V.av v (Am.KR d):=by
 cases d with
 | agg l=>
  cases h with
  | agg arr cs hl ho hr=>
   refine⟨arr,rfl,by simpa using hl,fun i p q=>?_⟩;simp only [sr];exact⟨hr i (by simpa using p),ho i q⟩
 | _=>exact⟨h,by rw [Rd.Nw h];rfl⟩
theorem Vw.s7{r:Ref}(h:V.ref v r):V.av v (Am.s7 r):=by
 cases r with
 | d x=>exact V.KR h
 | ptr k o=>exact h
 | aI k o l z=>exact h
 | agg cs=>
  obtain⟨arr,rfl,h1,h2⟩:=h;exact⟨arr,rfl,by simpa using h1,fun i a b=>by simp only [sr];exact V.N1 (h2 i (by simpa using a) b)⟩
 | ifc t x=>exact h
def cj:AV→Option (FuncId × List AV × List AV)
 | .c (.d (.func (.func f) fs cs))=>some (f,fs.map KR,cs.map KR)
 | .c (.func (.func f) fs cs)=>some (f,fs.map s7,cs.map s7)
 | _=>none
def aT (P:Program)(f:FuncId):Bool:=
 match P.funcs[f]? with
 | some fn=>fn.body.isSome && fn.name != "runtime.NumGoroutine"
 | none=>false
theorem iN(h:aT P f=true) (args:Array Value) (w:World):(callFunc f args).run P w=.ok (.enter f args) w:=by
 unfold aT at h;unfold callFunc;split at h
 ·rename_i fn hf
  simp only [cy,bne_iff_ne] at h;simp only [cK,run_program,rP,hf];have h1:(fn.name == "runtime.NumGoroutine")=false:=by simpa using h.2
  have h2:fn.body.isNone=false:=by
   cases e:fn.body with
   | none=>rw [e] at h;simp at h
   | some b=>rfl
  rw [h1,h2];rfl
 ·cases h
theorem lA{fv:Value}{x:AV}{cs:List AV}(h:V.av fv x) (ht:cj x=some (f,fs,cs)) :
 ∃ fs' cs':Array Value,fv=.func (.func f) fs' cs'∧fs'.size=fs.length∧cs'.size=cs.length∧(∀ i (h:i<fs.length) (h':i<fs'.size),V.av fs'[i] fs[i])∧(∀ i (h:i<cs.length) (h':i<cs'.size),V.av cs'[i] cs[i]):=by
 unfold cj at ht;split at ht
 ·simp only [ai,fy] at ht;obtain⟨rfl,rfl,rfl⟩:=ht;obtain⟨h,_⟩:=h
  cases h with
  | func _ fs' cs' fd cd hf hc hrf hrc=>
   refine⟨fs',cs',rfl,by simpa using hf,by simpa using hc,fun i p q=>?_,fun i p q=>?_⟩
   ·simp only [sr];exact V.KR (hrf i (by simpa using p))
   ·simp only [sr];exact V.KR (hrc i (by simpa using p))
 ·simp only [ai,fy] at ht;obtain⟨rfl,rfl,rfl⟩:=ht;obtain⟨fs',cs',rfl,h1,h2,h3,h4⟩:=h;refine⟨fs',cs',rfl,by simpa using h1,by simpa using h2,fun i p q=>?_,fun i p q=>?_⟩
  ·simp only [sr];exact V.s7 (h3 i (by simpa using p) q)
  ·simp only [sr];exact V.s7 (h4 i (by simpa using p) q)
 ·cases ht
def CV.flat:CV→Bool
 | .d x=>x.uk
 | _=>false
def AV.Hs:AV→Bool
 | .c x=>x.flat
 | .agg cs=>cs.all CV.flat
 | _=>false
def AV.flat:AV→Bool
 | .tup l=>l.all AV.Hs
 | x=>x.Hs
theorem Rd.eW(h:Rd M v d) (hd:d.uk=true):Rd M' v d:=by
 cases h <;> simp [DV.uk] at hd
 ·exact .bool _
 ·exact .int _ _ (by assumption)
 ·exact .str _ (by assumption)
theorem Vw.B1{x:CV}(h:V.cv v x) (hx:x.flat=true):V'.cv v x:=by
 cases x <;> simp [CV.flat] at hx
 exact⟨Rd.eW h.1 hx,h.2⟩
theorem Vw.DD{x:AV}(h:V.kF v x) (hx:x.Hs=true):V'.kF v x:=by
 cases x with
 | c x=>exact Vw.B1 (x:=x) h hx
 | agg cs=>
  obtain⟨arr,rfl,h1,h2⟩:=h;simp only [AV.Hs,YU] at hx;exact⟨arr,rfl,h1,fun i p q=>Vw.B1 (h2 i p q) (hx _ (cq p))⟩
 | tup l=>cases hx
 | undef=>cases hx
 | junk=>cases hx
theorem Vw.On{x:AV}(h:V.av v x) (hx:x.flat=true):V'.av v x:=by
 cases x with
 | c x=>exact Vw.B1 (x:=x) h hx
 | agg cs=>exact Vw.DD (x:=.agg cs) h hx
 | tup l=>
  obtain⟨arr,rfl,h1,h2⟩:=h;simp only [AV.flat,YU] at hx;exact⟨arr,rfl,h1,fun i p q=>Vw.DD (h2 i p q) (hx _ (cq p))⟩
 | undef=>cases hx
 | junk=>cases hx
def fq (lv:Key→LB):AV→Option (AV × List Key)
 | .c x=>(cC lv 8 x).map fun p=>(.c (.d p.1),p.2)
 | .agg cs=>(fG (cC lv 8) cs).map fun p=>(.agg (p.1.map .d),p.2)
 | _=>none
def jn (lv:Key→LB):List AV→Option (List AV × List Key)
 | []=>some ([],[])
 | x::r=>match fq lv x,jn lv r with
  | some (y,k),some (l,ks)=>some (y::l,k++ks)
  | _,_=>none
theorem cG.fq(h:cG c F β s.lv w) (hF:∀ b,F b→Fz b){x y:AV}(ht:Am.fq s.lv x=some (y,ks))
 (hk:∀ k∈ks,Fz (β k)) (hv:(Vw.mk F β s.lv w).av v x):(Vw.mk Fz β' lv' w).av v y:=by
 cases x with
 | c x=>
  simp only [Am.fq,Y8] at ht;obtain⟨⟨d,ks'⟩,ht,he⟩:=ht;simp only [fy] at he;obtain⟨rfl,rfl⟩:=he;exact⟨h.cC hF 8 x d ks' v ht hk hv,Vw.eZ (x:=x) hv⟩
 | agg cs=>
  simp only [Am.fq,Y8] at ht;obtain⟨⟨l,ks'⟩,ht,he⟩:=ht;simp only [fy] at he;obtain⟨rfl,rfl⟩:=he;obtain⟨h1,h2⟩:=oI ht;obtain⟨arr,rfl,h3,h4⟩:=hv;refine⟨arr,rfl,by simp;omega,fun i p q=>?_⟩;simp only [YX] at p;simp only [sr];obtain⟨k',h5,h6⟩:=h2 i p (by omega);exact⟨h.cC hF 8 _ _ _ _ h5 (fun k hk'=>hk k (h6 k hk')) (h4 i (by omega) q),Vw.eZ (h4 i (by omega) q)⟩
 | tup l=>cases ht
 | undef=>cases ht
 | junk=>cases ht
theorem uc {lv:Key→LB}:∀ {xs ys:List AV}{ks:List Key},jn lv xs=some (ys,ks)→ys.length=xs.length ∧
 ∀ i (h:i<ys.length) (h':i<xs.length),∃ k,fq lv xs[i]=some (ys[i],k)∧∀ x∈k,x∈ks
 | [],ys,ks,h=>by simp only [jn,ai,fy] at h;obtain⟨rfl,rfl⟩:=h;simp
 | x::r,ys,ks,h=>by
  simp only [jn] at h;split at h
  ·rename_i d k l' ks' h1 h2
   simp only [ai,fy] at h;obtain⟨rfl,rfl⟩:=h;obtain⟨h3,h4⟩:=uc h2;refine⟨by simp [h3],fun i p q=>?_⟩
   cases i with
   | zero=>exact⟨k,h1,fun x hx=>aaU _ hx⟩
   | succ i=>
    obtain⟨k',h5,h6⟩:=h4 i (by simpa using p) (by simpa using q);exact⟨k',h5,fun x hx=>aa2 _ (h6 x hx)⟩
  ·cases h
def aF (sel nk:List Key)(kh:Key):Key→Key:=fun k=>if k<1000 then sel.getD k kh else nk.getD (k - 1000) kh
def qa (sel nk:List Key):Key→Option Key:=fun k'=>
 match sel.idxOf? k' with
 | some j=>some j
 | none=>match nk.idxOf? k' with
  | some j=>some (1000+j)
  | none=>none
def Tu (lv:Key→LB)(g:Key→Key)(a u:AV):Prop:=
 (u.bu=true∧a=u.br g)∨∃ ks,fq lv a=some (u,ks)∧∀ k∈ks,∃ own T cs,lv k=.cells own true T cs
def ec (Z:List (Key × TypeId × List CV)):List (Key × LB):=Z.map fun z=>(z.1,.cells true true z.2.1 z.2.2)
def bB (g:Key→Key)(own:Bool)(ks:List Key)(bs:List LB):List (Key × LB):=List.zipWith (fun k b=>(k,(b.br g).fix own)) ks bs
def fY (lv:Key→LB):Nat→CV→List Key
 | n+1,.ptr k _=>k::(match lv k with|.cells _ _ _ cs=>cs.flatMap (fY lv n)|_=>[])
 | n+1,.aI k _ _ _=>k::(match lv k with|.cells _ _ _ cs=>cs.flatMap (fY lv n)|_=>[])
 | _,_=>[]
def jo (lv:Key→LB):AV→List Key
 | .c x=>fY lv 8 x
 | .agg cs=>cs.flatMap (fY lv 8)
 | _=>[]
inductive bM (c:Ctx) (f:FuncId) (as:List AV) (lv:Key→LB):AV→List (Key × LB)→List Key→Prop where
 | flat (us:List AV) (ks rds:List Key) (x:AV) (ha:jn lv as=some (us,ks)) (hc:aa c.P c.G f us x) (hx:x.flat=true) (hr:∀ a∈as,∀ k∈jo lv a,k∈rds):bM c f as lv x [] rds
 | gen (us:List AV) (Z:List (Key × TypeId × List CV)) (sel nk:List Key) (kh:Key) (σ σ' ν:List LB) (x:AV) (own:Bool) (rds:List Key)
  (hZ:∀ z∈Z,lv z.1=.cells true false z.2.1 z.2.2) (hZn:(Z.map (·.1)).Nodup) (hn:(sel++nk).Nodup) (hZs:∀ z∈Z,z.1 ∉ sel++nk) (hkh:kh ∉ sel++nk) (hkZ:∀ z∈Z,z.1≠kh)
  (hl1:sel.length=σ.length) (hl2:σ'.length=σ.length) (hl3:nk.length=ν.length) (hb:σ.length≤1000)
  (hsel:∀ i (h:i<sel.length) (h':i<σ.length),(lv sel[i]).as σ[i] (aF sel nk kh)) (hnk:∀ k∈nk,lv k=.hole) (hh:lv kh=.hole)
  (hpass:∀ b∈σ,b.pass=true) (hnh:∀ b,b∈σ++σ'++ν→b≠.hole) (hown:own=true→∀ k∈sel,(lv k).wz=true)
  (hlen:us.length=as.length) (hargs:∀ i (h:i<as.length) (h':i<us.length),Tu (aR lv (ec Z)) (aF sel nk kh) as[i] us[i])
  (hrd:∀ a∈as,∀ k∈jo (aR lv (ec Z)) a,k∈rds∨k∈Z.map (·.1)) (hrh:kh∈rds)
  (hc:aG c.P c.G f us σ (.ret x σ' ν)) :
  bM c f as lv (x.br (aF sel nk kh)) (ec Z++bB (aF sel nk kh) own sel σ'++bB (aF sel nk kh) own nk ν) rds
theorem mz {f:CV→Option (DV × List Key)}{p:Key→Prop}(hf:∀ x d ks,f x=some (d,ks)→∀ k∈ks,p k):∀ {cs:List CV}{l:List DV}{ks:List Key},fG f cs=some (l,ks)→∀ k∈ks,p k
 | [],l,ks,h=>by simp only [fG,ai,fy] at h;obtain⟨rfl,rfl⟩:=h;simp
 | x::r,l,ks,h=>by
  simp only [fG] at h;split at h
  ·rename_i d k l' ks' h1 h2
   simp only [ai,fy] at h;obtain⟨rfl,rfl⟩:=h;intro y hy;rcases List.mem_append.1 hy with h|h
   ·exact hf _ _ _ h1 y h
   ·exact mz hf h2 y h
  ·cases h
theorem oV {lv:Key→LB}:∀ (n:Nat) (x:CV) (d:DV) (ks:List Key),cC lv n x=some (d,ks)→∀ k∈ks,∃ own fz T cs,lv k=.cells own fz T cs
 | n,.d x,d,ks,h=>by simp only [cC,ai,fy] at h;obtain⟨rfl,rfl⟩:=h;simp
 | n+1,.ptr k off,d,ks,h=>by
  simp only [cC] at h;split at h
  ·rename_i own fz T cs e
   split at h
   ·rw [Y8] at h;obtain⟨⟨l,ks'⟩,ht,he⟩:=h;simp only [fy] at he;obtain⟨rfl,rfl⟩:=he;intro y hy;rcases List.mem_cons.1 hy with rfl|hy
    ·exact⟨_,_,_,_,e⟩
    ·exact mz (oV n) ht y hy
   ·cases h
  ·cases h
 | n+1,.aI k off len sz,d,ks,h=>by
  simp only [cC] at h;split at h
  ·rename_i own fz T cs e
   split at h
   ·rw [Y8] at h;obtain⟨⟨l,ks'⟩,ht,he⟩:=h;simp only [fy] at he;obtain⟨rfl,rfl⟩:=he;intro y hy;rcases List.mem_cons.1 hy with rfl|hy
    ·exact⟨_,_,_,_,e⟩
    ·exact mz (oV n) ht y hy
   ·cases h
  ·simp only [ai,fy] at h;obtain⟨rfl,rfl⟩:=h;simp
  ·cases h
 | 0,.ptr ..,_,_,h=>by cases h
 | 0,.aI ..,_,_,h=>by cases h
 | n,.mapr _,_,_,h=>by cases n <;> cases h
 | n,.func ..,_,_,h=>by cases n <;> cases h
 | n,.ifc ..,_,_,h=>by cases n <;> cases h
 | n,.junk,_,_,h=>by cases n <;> cases h
theorem uH{x y:AV}(h:fq lv x=some (y,ks)):∀ k∈ks,∃ own fz T cs,lv k=.cells own fz T cs:=by
 cases x with
 | c x=>
  simp only [fq,Y8] at h;obtain⟨⟨d,ks'⟩,ht,he⟩:=h;simp only [fy] at he;obtain⟨rfl,rfl⟩:=he;exact oV _ _ _ _ ht
 | agg cs=>
  simp only [fq,Y8] at h;obtain⟨⟨l,ks'⟩,ht,he⟩:=h;simp only [fy] at he;obtain⟨rfl,rfl⟩:=he;exact mz (oV _) ht
 | tup l=>cases h
 | undef=>cases h
 | junk=>cases h
theorem qk {lv:Key→LB}:∀ {xs ys:List AV}{ks:List Key},jn lv xs=some (ys,ks)→∀ k∈ks,∃ own fz T cs,lv k=.cells own fz T cs
 | [],ys,ks,h=>by simp only [jn,ai,fy] at h;obtain⟨rfl,rfl⟩:=h;simp
 | x::r,ys,ks,h=>by
  simp only [jn] at h;split at h
  ·rename_i d k l' ks' h1 h2
   simp only [ai,fy] at h;obtain⟨rfl,rfl⟩:=h;intro y hy;rcases List.mem_append.1 hy with h|h
   ·exact uH h1 y h
   ·exact qk h2 y h
  ·cases h
section
variable {c:Ctx}{F:Nat→Prop}{β:Key→Nat}{s:au}{a:Act}{w:World}
theorem aE.rG (h:aE c F β s a w)(hk:s.lv k=.cells own fz T cs):β k<w.heap.size:=by
 have hb:=h.bx k;unfold Vw.bx at hb;simp only [hk] at hb;obtain⟨arr,h1,_⟩:=hb;exact eG h1
theorem pe{fs' args' cs':Array Value}{as cs:List AV}(h1:fs'.size=fs.length) (h2:args'.size=as.length) (h3:cs'.size=cs.length)
 (g1:∀ i (h:i<fs.length) (h':i<fs'.size),V.av fs'[i] fs[i]) (g2:∀ i (h:i<as.length) (h':i<args'.size),V.av args'[i] as[i]) (g3:∀ i (h:i<cs.length) (h':i<cs'.size),V.av cs'[i] cs[i]) :
 (fs'++args'++cs').size=(fs++as++cs).length∧∀ i (h:i<(fs++as++cs).length) (h':i<(fs'++args'++cs').size),V.av (fs'++args'++cs')[i] (fs++as++cs)[i]:=by
 refine⟨by simp;omega,fun i p q=>?_⟩;simp only [YY] at p;simp only [abb] at q
 by_cases e1:i<fs.length
 ·rw [Z1 (by simp;omega),Z1 (by omega),ZB (by simp;omega),ZB e1];exact g1 _ _ _
 ·by_cases e2:i<fs.length+as.length
  ·rw [Z1 (by simp;omega),abL (by omega),ZB (by simp;omega),ZI (by omega)];have:=g2 (i - fs.length) (by omega) (by omega);simp only [h1];exact this
  ·rw [abL (by simp;omega),ZI (by simp;omega)];have:=g3 (i - (fs.length+as.length)) (by omega) (by omega);simp only [abb,YY,h1,h2];exact this
theorem G5{cs:List AV}(h:aE c F β s a w) (ho:o.op=.call cl) (hcal:cl.callee=.value fo) (hfo:s.val c.G fo=fv)
 (ht:cj fv=some (f,fs,cs)) (hf:aT c.P f=true) {K:Act→World→Prop}{Q:Exit→Act→World→Prop}
 (hK:∀ vs:Array Value,vs.size=(fs++cl.args.toList.map (s.val c.G)++cs).length→(∀ i (h:i<(fs++cl.args.toList.map (s.val c.G)++cs).length) (h':i<vs.size),(Vw.mk F β s.lv w).av vs[i] (fs++cl.args.toList.map (s.val c.G)++cs)[i]) →
  Calls c.P f vs w fun e w'=>∃ v,e=.returned v∧K (a.put o.dst v) w'):o.wp c.P a w K Q:=by
 obtain⟨fs',cs',h1,h2,h3,h4,h5⟩:=lA (hfo ▸ h.val fo) ht;have hv:=pe (V:=Vw.mk F β s.lv w) (args':=cl.args.map a.eval) (as:=cl.args.toList.map (s.val c.G)) h2 (by simp) h3 h4 (fun i p q=>by simp only [abq,sr,Zw];exact h.val _) h5;have hc:=hK _ hv.1 hv.2
 have hr:(execOp a.eval o).run c.P w=.ok (.enter f (fs'++cl.args.map a.eval++cs')) w:=by
  simp only [execOp,ho,resolve,hcal,h1,Deferred.ofValue,cK,Zi,rP,invoke];rw [iN hf]
 unfold Oper.wp;rw [hr,Oper.upon_enter];refine hc.mono fun e w' he=>?_;obtain⟨v,rfl,hk⟩:=he;exact hk
theorem ru (k:Key):bn [] [] k=.hole:=by simp [bn]
theorem bM.LW{cs:List AV}{x:AV}(hd:∀ d,o.dst=some d→d<c.n) (ho:o.op=.call cl) (hcal:cl.callee=.value fo)
 (hfo:s.val c.G fo=fv) (ht:cj fv=some (f,fs,cs)) (hf:aT c.P f=true) (ha:jn s.lv (fs++cl.args.toList.map (s.val c.G)++cs)=some (us,ks)) (hc:aa c.P c.G f us x) (hx:x.flat=true) :
 bP c o s (s.put o.dst x):=by
 intro F β a w K Q h hK;refine G5 h ho hcal hfo ht hf fun vs hl hv=>?_;obtain⟨h1,h2⟩:=uc ha
 let Fz:Nat→Prop:=fun b=>F b∨∃ k∈ks,b=β k
 have hFz:∀ b,F b→Fz b:=fun b hb=>.inl hb
 have hFlt:∀ b,Fz b→b<w.heap.size:=by
  rintro b (hb|⟨k,hk,rfl⟩)
  ·exact (h.mh b hb).1
  ·obtain⟨own,fz,T,cs',e⟩:=qk ha k hk;exact h.rG e
 have hS:cG (cQ c.P c.G w Fz (fun _=>0) (bn [] [])) Fz (fun _=>0) (bn [] []) w:=by
  refine⟨fun k=>?_,fun k k' hk=>?_,fun _=>trivial,rfl,rfl,fun b hb=>⟨hFlt b hb,.inl hb⟩,fun _ hb=>hb,fun _ _ _=>rfl,aW _,fun g cs hg=>Rd.mono (gm hFz (fun _ _=>rfl)) (h.pK g cs hg),fun k _=>.inr ⟨rfl,LB.bl _⟩,fun _=>aW _,⟨rfl,rfl⟩⟩
  ·unfold Vw.bx;simp only [ru]
  ·simp only [ru] at hk;cases hk
 refine (hc Fz (fun _=>0) w vs hS (by omega) (fun i p q=>?_)).mono fun e w' he=>?_
 ·obtain⟨k,h3,h4⟩:=h2 i p (by omega);exact h.wu.fq hFz h3 (fun k' hk'=>.inr ⟨k',h4 k' hk',rfl⟩) (hv i (by omega) q)
 ·obtain⟨v,F',β',rfl,hS',hav⟩:=he;refine⟨v,rfl,hK F β _ _ (aE.AX ?_ hd (Vw.On hav hx))⟩
  have hold:∀ b,b<w.heap.size→w'.heap[b]?=w.heap[b]?:=by
   intro b hb;refine hS'.old b hb ?_;rintro⟨k,hk,_⟩;simp only [ru] at hk;cases hk
  exact h.step (hoo:=hS'.Et) (fun _ hb=>hb) (fun b hb=>hold b (h.mh b hb).1) (fun k=>LB.bl _) (fun _ _ _=>rfl) hS'.Ht
   (fun k hK=>by
    have hb:=h.bx k
    cases ek:s.lv k with
    | cells own fz T cs=>exact Vw.bp hb hK rfl rfl (hold _ (h.rG ek)) (fun _ h=>h)
    | map own es=>
     refine Vw.bp hb hK rfl rfl (hold _ (h.fO (by rw [ek];rfl))) (fun _ h=>h)
    | hole=>unfold Vw.bx;simp only [ek]
    | dead=>unfold Vw.bx;simp only [ek]
    | bk=>unfold Vw.bx;simp only [ek])
   h.inj (fun b hb=>.inl hb) hS'.ge (fun b hb _=>hold b (ZS hb h.ge))
end
end Go.Am
