/- Helpers: an abstract machine for Go functions, and walks of functions of the program. -/
import Derived.WalkKit
import Derived.Lib.Strings
import Derived.ChangeArms
import Derived.ReadAgain
import Derived.ChangeBears
import Derived.ChangeShapes
import Derived.ChangeOld
import Derived.OpenShut
import Derived.Handed
import Derived.RowKit
import Derived.ChangeFn
import Derived.LaidLaws

set_option linter.all false
set_option maxHeartbeats 8000000
set_option maxRecDepth 100000
namespace Go.Am
variable {T e T' t ft ty S:TypeId}{v z:Value}{o:Oper}{x y ix:Operand}{P:Program}{sz off len m cap:Nat}{own fz b:Bool}{n l h:Int}{α H:Type}{w W w' W':World}{F F' Fz:Nat->Prop}{i:TypeInfo}{f:FuncId}{a:Act}{op:BinOp}{lo hi:Option Operand}{cl:Call}{arr:Array Value}{fn:Fn}{k':IntKind}{parts:Array (Nat×Operand)}{ts:List TypeId}{name:String}
abbrev aeF:=@Bool.false_eq_true
abbrev aeO:=@Int.fdiv_eq_ediv_of_nonneg
abbrev Ju:=@Nat.le_trans
abbrev aeB:=@Nat.lt_of_lt_of_le
abbrev ae3:=@Array.getD_eq_getD_getElem?
abbrev agZ:=@Array.getElem?_setIfInBounds
abbrev bh:=@Nat.le_refl
abbrev ab5:=@List.getElem_map
abbrev afA:=@Array.getElem_toList
abbrev aft:=@Nat.not_lt_zero
abbrev ah:=@Option.some.injEq
abbrev mT:=@Sem.run_bind
abbrev sr:=@Result.andThen_ok
abbrev aer:=@Sem.run_pure
abbrev ae4:=@Addr.add_lit
abbrev adX:=@List.append_assoc
abbrev afj:=@List.getElem_append_right
abbrev af3:=@List.getElem_drop
abbrev aeI:=@Nat.add_zero
abbrev afJ:=@Array.length_toList
abbrev af4:=@List.getElem_toArray
abbrev M1:=@Prod.mk.injEq
abbrev rP:=@Bool.and_eq_true
abbrev aeJ:=@Option.map_some
abbrev aT:=@List.getElem_mem
abbrev afu:=@Option.map_none
abbrev afK:=@List.mem_of_mem_take
abbrev afv:=@List.mem_of_mem_drop
abbrev aa2:=@Nat.zero_le
abbrev ad7:=@Nat.add_mul
abbrev adJ:=@Nat.mul_le_mul_right
abbrev afk:=@Nat.sub_self
abbrev ae5:=@List.getElem_append_left
abbrev aem:=@Nat.mod_eq_of_lt
abbrev adZ:=@Nat.mod_lt
abbrev agJ:=@Array.getElem_map
abbrev adV:=@List.all_eq_true
abbrev ab0:=@List.length_map
abbrev aeP:=@List.getElem?_map
abbrev agn:=@List.getElem?_eq_none
abbrev ago:=@Nat.eq_zero_or_pos
abbrev af5:=@Nat.div_lt_of_lt_mul
abbrev afl:=@Nat.add_assoc
abbrev agp:=@List.getElem?_take
abbrev afL:=@List.getElem?_drop
abbrev agK:=@Array.getElem?_toList
abbrev afM:=@List.eq_nil_of_length_eq_zero
abbrev afc:=@Array.getElem_append_left
abbrev agq:=@World.size_drew
abbrev af6:=@Array.size_append
abbrev afN:=@List.size_toArray
abbrev aeC:=@Nat.zero_add
abbrev ad6:=@List.length_append
abbrev ag0:=@Array.getElem_append_right
abbrev aej:=@List.length_take
abbrev aeM:=@Nat.min_eq_left
abbrev agL:=@List.getElem_take
abbrev afO:=@List.foldl_cons
abbrev fy:=@List.getElem?_eq_getElem
abbrev adK:=@List.map_cons
abbrev ad8:=@List.cons.injEq
abbrev aek:=@Option.map_eq_some_iff
abbrev afm:=@List.length_drop
abbrev aeS:=@Nat.one_mul
abbrev afB:=@List.drop_drop
abbrev afP:=@Nat.add_comm
abbrev agr:=@World.cells?_some
abbrev adS:=@List.getD_eq_getElem?_getD
abbrev afw:=@List.getElem_of_mem
abbrev aed:=@List.map_map
abbrev ags:=@List.ext_getElem
abbrev afd:=@Array.getElem?_eq_getElem
abbrev aeW:=@Option.some.inj
abbrev aee:=@Bool.not_eq_true'
abbrev aeQ:=@List.getElem_cons_zero
abbrev afe:=@List.mem_singleton
abbrev af7:=@Array.empty_append
abbrev aeD:=@List.map_nil
abbrev aeR:=@List.map_append
abbrev afQ:=@List.drop_left'
abbrev aeX:=@List.cons_append
abbrev aeT:=@List.nil_append
abbrev aew:=@List.mem_cons_of_mem
abbrev aen:=@List.mem_cons_self
abbrev aeV:=@Bool.or_eq_true
abbrev aes:=@List.map_congr_left
abbrev agM:=@Array.getElem?_append_left
abbrev ae6:=@List.take_of_length_le
def wG:IntKind->Int
 |.i8=>-128|.i16=>-32768|.i32=>-2147483648|.i64=>-9223372036854775808|_=>0
def og:IntKind->Int
 |.i8=>127|.i16=>32767|.i32=>2147483647|.i64=>9223372036854775807
 |.u8=>255|.u16=>65535|.u32=>4294967295|.u64=>18446744073709551615
theorem IV(k:IntKind)(n:Int):k.wrap n=if k.signed=true/\n%2^k.bits >= 2^(k.bits-1)then n%2^k.bits-2^k.bits else n%2^k.bits:=by
 unfold IntKind.wrap;simp
theorem Ew(k:IntKind)(n:Int):wG k<=k.wrap n/\k.wrap n<=og k:=by
 rw[IV]
 cases k<;>simp only[IntKind.bits,IntKind.signed,wG,og,true_and,false_and,aeF,if_false,Nat.reduceSub]<;>first|omega|(split<;>omega)
theorem cj{k:IntKind}(h:wG k<=n/\n<=og k):k.wrap n=n:=by
 rw[IV]
 cases k<;>simp only[IntKind.bits,IntKind.signed,wG,og,true_and,false_and,aeF,if_false,Nat.reduceSub]at h ⊢<;>first|omega|(split<;>omega)
theorem oG{k:IntKind}:k.wrap n=n↔wG k<=n/\n<=og k:=
 ⟨λh=>h▸Ew k n,cj⟩
theorem wrap_wrap(k:IntKind)(n:Int):k.wrap (k.wrap n)=k.wrap n:=cj (Ew k n)
theorem lo_le(k:IntKind):wG k<=0:=by cases k<;>decide
theorem UJ(k:IntKind):0<=og k:=by cases k<;>decide
theorem LH{k:IntKind}{m:Int}(h:k.wrap m=m):k.wrap (m.tmod n)=m.tmod n:=by
 rw[oG]at h ⊢;have h1:=lo_le k;have h2:=UJ k;rcases Int.le_total 0 m with hm|hm
 ·have h3:=Int.tmod_nonneg n hm
  have h4:m.tmod n<=m:=by
   have e1:=Int.natAbs_tmod m n;have e2:=Nat.mod_le m.natAbs n.natAbs;omega
  omega
 ·have h3:m.tmod n<=0:=by
   have:=Int.tmod_nonneg n (a:=-m) (by omega);rw[Int.neg_tmod]at this;omega
  have h4:m<=m.tmod n:=by
   have e1:=Int.natAbs_tmod m n;have e2:=Nat.mod_le m.natAbs n.natAbs;omega
  omega
theorem L4{k:IntKind}{m:Int}{j:Nat}(h:k.wrap m=m):k.wrap (m.fdiv (2^j))=m.fdiv (2^j):=by
 rw[oG]at h ⊢;have h1:=lo_le k;have h2:=UJ k;have hp:(0:Int)<2^j:=Int.pow_pos (by decide);rw[aeO _ (by omega)];have h3:m/2^j*2^j<=m:=Int.ediv_mul_le m (by omega);have h4:m<(m/2^j+1)*2^j:=Int.lt_ediv_add_one_mul_self m hp;have h5:(1:Int)<=2^j:=by omega
 rcases Int.le_total 0 m with hm|hm
 ·have:0<=m/2^j:=Int.ediv_nonneg hm (by omega);have:m/2^j<=m:=Int.ediv_le_self _ hm;omega
 ·have h6:m/2^j<=0:=Int.ediv_nonpos_of_nonpos_of_neg hm hp |> λh=>h
  have h7:m<=m/2^j:=by
   by_cases hc:m<=m/2^j
   ·exact hc
   ·exfalso;have h8:m/2^j+1<=m:=by omega
    have h9:(m/2^j+1)*2^j<=(m/2^j+1)*1:=Int.mul_le_mul_of_nonpos_left (by omega) h5;omega
  omega
inductive DV where
 |bool (b:Bool)
 |int (k:IntKind) (n:Int)
 |str (s:List UInt8)
 |nilp
 |ptr (cs:List DV)
 |nilsl
 |sl (es:List (List DV))
 |agg (cs:List DV)
 |nilIface
 |iface (t:TypeId) (v:DV)
 |nilFunc
 |func (fn:Fn) (first caps:List DV)
 |nilmap
 deriving Inhabited
variable {d:DV}{es:List (List DV)}
abbrev Mem:=Addr->Value->Prop
variable {M M':Mem}
inductive Rd(M:Mem):Value->DV->Prop where
 |bool (b:Bool):Rd M (.bool b) (.bool b)
 |int (k:IntKind) (n:Int) (hw:k.wrap n=n):Rd M (.int k n) (.int k n)
 |str (s:ByteArray) (hl:s.data.toList.length<=9223372036854775807):Rd M (.string s) (.str s.data.toList)
 |nilp:Rd M (.pointer none) .nilp
 |ptr (b off:Nat) (vs:Nat->Value) (cs:List DV) (hm:∀i,i<cs.length->M ⟨b,off+i,none⟩ (vs i))
  (ho:∀i,i<cs.length->(vs i).oneCell'=true) (hr:∀i (h:i<cs.length),Rd M (vs i) cs[i]):Rd M (.pointer (some ⟨b,off,none⟩)) (.ptr cs)
 |nilsl:Rd M (.slice none 0 0) .nilsl
 |sl (b off cap sz:Nat) (es:List (List DV)) (vs:Nat->Nat->Value) (hl:∀e∈es,e.length=sz) (hc:es.length<=cap) (hb:es.length<=9223372036854775807)
  (hm:∀i,i<es.length->∀j,j<sz->M ⟨b,off+i*sz+j,none⟩ (vs i j))
  (ho:∀i,i<es.length->∀j,j<sz->(vs i j).oneCell'=true)
  (hr:∀i (hi:i<es.length) j (hj:j<es[i].length),Rd M (vs i j) es[i][j]):Rd M (.slice (some ⟨b,off,none⟩) es.length cap) (.sl es)
 |sl0 (a:Addr):Rd M (.slice (some a) 0 0) (.sl [])
 |agg (arr:Array Value) (cs:List DV) (hl:arr.size=cs.length) (ho:∀i (h:i<arr.size),arr[i].oneCell'=true)
  (hr:∀i (h:i<cs.length),Rd M (arr[i]'(by omega)) cs[i]):Rd M (.agg arr) (.agg cs)
 |nilIface:Rd M .nilIface .nilIface
 |iface (t:TypeId) (v:Value) (d:DV) (h:Rd M v d):Rd M (.iface t v) (.iface t d)
 |nilFunc:Rd M .nilFunc .nilFunc
 |func (fn:Fn) (fs cs:Array Value) (fd cd:List DV) (hf:fs.size=fd.length) (hc:cs.size=cd.length)
  (hrf:∀i (h:i<fd.length),Rd M (fs[i]'(by omega)) fd[i]) (hrc:∀i (h:i<cd.length),Rd M (cs[i]'(by omega)) cd[i]) :
  Rd M (.func fn fs cs) (.func fn fd cd)
 |nilmap:Rd M (.map none) .nilmap
theorem Rd.mono(hM:∀a v,M a v->M' a v)(h:Rd M v d):Rd M' v d:=by
 induction h with
 |bool b=>exact .bool b
 |int k n hw=>exact .int k n hw
 |str s hl=>exact .str s hl
 |nilp=>exact .nilp
 |ptr b off vs cs hm ho _ ih=>exact .ptr b off vs cs (λi h=>hM _ _ (hm i h)) ho ih
 |nilsl=>exact .nilsl
 |sl b off cap sz es vs hl hc hb hm ho _ ih=>exact .sl b off cap sz es vs hl hc hb (λi h j hj=>hM _ _ (hm i h j hj)) ho ih
 |sl0 a=>exact .sl0 a
 |agg arr cs hl ho _ ih=>exact .agg arr cs hl ho ih
 |nilIface=>exact .nilIface
 |iface t v d _ ih=>exact .iface t v d ih
 |nilFunc=>exact .nilFunc
 |func fn fs cs fd cd hf hc _ _ ih1 ih2=>exact .func fn fs cs fd cd hf hc ih1 ih2
 |nilmap=>exact .nilmap
def DV.one:DV->Bool
 |.agg _=>false
 |_=>true
theorem Rd.TM(h:Rd M v d):v.oneCell'=d.one:=by
 cases h<;>rfl
def m9(w:World)(F:Nat->Prop):Mem:=λa v=>F a.block/\w.cell? a=some v
abbrev Key:=Nat
variable {k κ:Key}{β β':Key->Nat}{g:Key->Key}{gi:Key->Option Key}{ks:List Key}
inductive jd where
 |d (x:DV)
 |ptr (k:Key) (off:Nat)
 |aH (k:Key) (off len sz:Nat)
 deriving Inhabited
inductive Ref where
 |d (x:DV)
 |ptr (k:Key) (off:Nat)
 |aH (k:Key) (off len sz:Nat)
 |agg (cs:List jd)
 |ifc (t:TypeId) (x:Ref)
 deriving Inhabited
variable {fr cr:List Ref}
inductive CV where
 |d (x:DV)
 |ptr (k:Key) (off:Nat)
 |aH (k:Key) (off len sz:Nat)
 |mapr (k:Key)
 |func (fn:Fn) (first caps:List Ref)
 |ifc (t:TypeId) (x:Ref)
 |junk
 |lsf (k:Key) (off len sz:Nat)
 deriving Inhabited
variable {cs xs zs cs':List CV}
inductive AV where
 |c (x:CV)
 |agg (cs:List CV)
 |tup (l:List AV)
 |undef
 |junk
 deriving Inhabited
variable {fs vals us:List AV}
inductive LB where
 |hole
 |dead
 |nils
 |cells (own fz:Bool) (T:TypeId) (cs:List CV)
 |map (own:Bool) (es:List (DV×AV))
 deriving Inhabited
variable {lv' lv L L':Key->LB}
structure aB where
 fr:Nat->AV
 lv:Key->LB
variable {s:aB}
def cz(w:World)(b:Nat):Nat:=
 match w.heap[b]? with
 |some (.cells arr _ _)=>arr.size
 |_=>0
structure Vw where
 F:Nat->Prop
 β:Key->Nat
 lv:Key->LB
 w:World
variable {V V':Vw}
def Vw.mem(V:Vw):Mem:=m9 V.w V.F
def Vw.dn(V:Vw)(v:Value)(k:Key)(off:Nat):Prop:=
 match V.lv k with
 |.hole|.nils|.map ..=>False
 |.dead=>True
 |.cells ..=>v=.pointer (some ⟨V.β k,off,none⟩)
def Vw.cx(V:Vw)(v:Value)(k:Key)(off len sz:Nat):Prop:=
 match V.lv k with
 |.hole|.map ..=>False
 |.dead=>True
 |.nils=>v=.slice none 0 0/\off=0/\len=0
 |.cells ..=>∃cap,v=.slice (some ⟨V.β k,off,none⟩) len cap/\len<=cap/\off+cap*sz<=cz V.w (V.β k)
def Vw.lM(V:Vw)(v:Value)(k:Key):Prop:=
 match V.lv k with
 |.map ..=>v=.map (some (V.β k))
 |.dead=>True
 |_=>False
def Vw.ng(V:Vw)(v:Value):jd->Prop
 |.d x=>Rd V.mem v x/\v.oneCell'=true
 |.ptr k off=>V.dn v k off/\v.oneCell'=true
 |.aH k off len sz=>V.cx v k off len sz/\v.oneCell'=true
def Vw.ref(V:Vw)(v:Value):Ref->Prop
 |.d x=>Rd V.mem v x
 |.ptr k off=>V.dn v k off/\v.oneCell'=true
 |.aH k off len sz=>V.cx v k off len sz/\v.oneCell'=true
 |.agg cs=>∃arr:Array Value,v=.agg arr/\arr.size=cs.length/\∀i (h:i<cs.length) (h':i<arr.size),V.ng arr[i] cs[i]
 |.ifc t x=>∃v',v=.iface t v'/\V.ref v' x
def Vw.cv(V:Vw)(v:Value):CV->Prop
 |.d x=>Rd V.mem v x/\v.oneCell'=true
 |.ptr k off=>V.dn v k off/\v.oneCell'=true
 |.aH k off len sz=>V.cx v k off len sz/\v.oneCell'=true
 |.mapr k=>V.lM v k/\v.oneCell'=true
 |.func fn first caps=>∃fs cs:Array Value,v=.func fn fs cs/\fs.size=first.length/\cs.size=caps.length /\
  (∀i (h:i<first.length) (h':i<fs.size),V.ref fs[i] first[i])/\(∀i (h:i<caps.length) (h':i<cs.size),V.ref cs[i] caps[i])
 |.ifc t x=>∃v',v=.iface t v'/\V.ref v' x
 |.junk=>v.oneCell'=true
 |.lsf k off len sz=>(V.cx v k off len sz/\v.oneCell'=true)/\∀a n cap,v=.slice a n cap->cap=n
def Vw.oq(V:Vw)(v:Value):AV->Prop
 |.c x=>V.cv v x
 |.agg cs=>∃arr:Array Value,v=.agg arr/\arr.size=cs.length/\∀i (h:i<cs.length) (h':i<arr.size),V.cv arr[i] cs[i]
 |.tup _=>False
 |.undef=>v=Go.undef
 |.junk=>True
def Vw.av(V:Vw)(v:Value):AV->Prop
 |.tup l=>∃arr:Array Value,v=.tuple arr/\arr.size=l.length/\∀i (h:i<l.length) (h':i<arr.size),V.oq arr[i] l[i]
 |x=>V.oq v x
theorem Vw.fN{x:CV}(h:V.cv v x):v.oneCell'=true:=by
 cases x with
 |d x=>exact h.2
 |ptr k off=>exact h.2
 |aH k off len sz=>exact h.2
 |mapr k=>exact h.2
 |func fn f c=>obtain⟨_,_,rfl,_⟩:=h;rfl
 |ifc t x=>obtain⟨_,rfl,_⟩:=h;rfl
 |junk=>exact h
 |lsf k off len sz=>exact h.1.2
structure Vw.Le(V V':Vw):Prop where
 F:∀b,V.F b->V'.F b
 mem:∀b,V.F b->V'.w.heap[b]?=V.w.heap[b]?
theorem gT(hF:∀b,F b->F' b)(hm:∀b,F b->w'.heap[b]?=w.heap[b]?):
 ∀a v,m9 w F a v->m9 w' F' a v:=by
 rintro a v ⟨h1,h2⟩;refine⟨hF _ h1,?_⟩;unfold World.cell? at *
 grind
structure Vw.iX(V V':Vw):Prop where
 F:∀b,V.F b->V'.F b
 mem:∀b,V.F b->V'.w.heap[b]?=V.w.heap[b]?
 ptr:∀v k off,V.dn v k off->V'.dn v k off
 aH:∀v k off len sz,V.cx v k off len sz->V'.cx v k off len sz
 map:∀v k,V.lM v k->V'.lM v k
theorem Vw.iX.ng(h:V.iX V'){x:jd}(hx:V.ng v x):V'.ng v x:=by
 cases x with
 |d x=>exact⟨Rd.mono (gT h.F h.mem) hx.1,hx.2⟩
 |ptr k off=>exact⟨h.ptr _ _ _ hx.1,hx.2⟩
 |aH k off len sz=>exact⟨h.aH _ _ _ _ _ hx.1,hx.2⟩
theorem Vw.iX.ref(h:V.iX V'){x:Ref}(hx:V.ref v x):V'.ref v x:=by
 induction x generalizing v with
 |d x=>exact Rd.mono (gT h.F h.mem) hx
 |ptr k off=>exact⟨h.ptr _ _ _ hx.1,hx.2⟩
 |aH k off len sz=>exact⟨h.aH _ _ _ _ _ hx.1,hx.2⟩
 |agg cs=>
  obtain⟨arr,rfl,h1,h2⟩:=hx;exact⟨arr,rfl,h1,λi a b=>h.ng (h2 i a b)⟩
 |ifc t x ih=>obtain⟨v',rfl,h1⟩:=hx;exact⟨v',rfl,ih h1⟩
theorem Vw.iX.cv(h:V.iX V'){x:CV}(hx:V.cv v x):V'.cv v x:=by
 cases x with
 |d x=>exact⟨Rd.mono (gT h.F h.mem) hx.1,hx.2⟩
 |ptr k off=>exact⟨h.ptr _ _ _ hx.1,hx.2⟩
 |aH k off len sz=>exact⟨h.aH _ _ _ _ _ hx.1,hx.2⟩
 |mapr k=>exact⟨h.map _ _ hx.1,hx.2⟩
 |func fn f c=>
  obtain⟨fs,cs,rfl,h1,h2,h3,h4⟩:=hx;exact⟨fs,cs,rfl,h1,h2,λi a b=>h.ref (h3 i a b),λi a b=>h.ref (h4 i a b)⟩
 |ifc t x=>
  obtain⟨v',rfl,h1⟩:=hx;exact⟨v',rfl,h.ref h1⟩
 |junk=>exact hx
 |lsf k off len sz=>exact⟨⟨h.aH _ _ _ _ _ hx.1.1,hx.1.2⟩,hx.2⟩
theorem Vw.iX.oq(h:V.iX V'){x:AV}(hx:V.oq v x):V'.oq v x:=by
 cases x with
 |c x=>exact h.cv (x:=x) hx
 |agg cs=>obtain⟨arr,rfl,h1,h2⟩:=hx;exact⟨arr,rfl,h1,λi a b=>h.cv (h2 i a b)⟩
 |tup l=>exact hx
 |undef=>exact hx
 |junk=>trivial
theorem Vw.iX.av(h:V.iX V'){x:AV}(hx:V.av v x):V'.av v x:=by
 cases x with
 |c x=>exact h.oq (x:=.c x) hx
 |agg cs=>exact h.oq (x:=.agg cs) hx
 |tup l=>obtain⟨arr,rfl,h1,h2⟩:=hx;exact⟨arr,rfl,h1,λi a b=>h.oq (h2 i a b)⟩
 |undef=>exact hx
 |junk=>trivial
def LB.sub:LB->LB->Prop
 |.hole,_=>True
 |_,.dead=>True
 |.nils,.nils=>True
 |.cells ..,.cells ..=>True
 |.map ..,.map ..=>True
 |_,_=>False
theorem Vw.jl(hF:∀b,V.F b->V'.F b)(hm:∀b,V.F b->V'.w.heap[b]?=V.w.heap[b]?)
 (hk:∀k,(V.lv k).sub (V'.lv k)) (hβ:∀k,V.lv k≠.hole->V'.lv k≠.dead->V'.β k=V.β k)
 (ha:∀b,cz V.w b<=cz V'.w b):V.iX V':=by
 refine⟨hF,hm,?_,?_,?_⟩
 ·intro v k off h;have h1:=hk k;have h2:=hβ k;unfold Vw.dn at *
  cases e:V.lv k<;>cases e':V'.lv k<;>simp[e,e',LB.sub]at h h1 h2 ⊢<;>(try rw[h2])<;>assumption
 ·intro v k off len sz h;have h1:=hk k;have h2:=hβ k;unfold Vw.cx at *
  cases e:V.lv k<;>cases e':V'.lv k<;>simp[e,e',LB.sub]at h h1 h2 ⊢<;>(try rw[h2])<;>(try assumption)
  grind
 ·intro v k h;have h1:=hk k;have h2:=hβ k;unfold Vw.lM at *
  cases e:V.lv k<;>cases e':V'.lv k<;>simp[e,e',LB.sub]at h h1 h2 ⊢<;>(try rw[h2])<;>assumption
structure Ctx where
 P:Program
 G:List (List DV)
 w0:World
 F0:Nat->Prop
 W0:Nat->Prop
 n:Nat
 iN:Key->LB
 β0:Key->Nat
 ds:List Deferred:=[]
variable {c:Ctx}
def eU(c:Ctx)(own:Bool)(b:Nat):Prop:=if own then c.w0.heap.size<=b else c.w0.heap.size<=b\/c.W0 b
def Vw.bK(V:Vw)(c:Ctx)(k:Key):Prop:=
 match V.lv k with
 |.cells own fz T cs=>∃arr:Array Value,V.w.heap[V.β k]?=some (.cells arr T (0,0))/\cs.length<=arr.size /\
  (∀i (h:i<cs.length) (h':i<arr.size),V.cv arr[i] cs[i])/\(if fz then V.F (V.β k)else ¬V.F (V.β k))/\eU c own (V.β k)
 |.map own es=>∃ents clock,V.w.heap[V.β k]?=some (.map ents clock)/\ents.size=es.length /\
  (∀i (h:i<es.length) (h':i<ents.size),Rd V.mem ents[i].key es[i].1/\V.oq ents[i].val es[i].2)/\¬V.F (V.β k)/\eU c own (V.β k)
 |_=>True
def LB.live:LB->Bool
 |.cells _ false _ _=>true
 |.map ..=>true
 |_=>false
structure aD(c:Ctx)(F:Nat->Prop)(β:Key->Nat)(s:aB)(a:Act)(w:World):Prop where
 bK:∀k,(Vw.mk F β s.lv w).bK c k
 inj:∀k k',(s.lv k).live=true->(s.lv k').live=true->β k=β k'->k=k'
 fr:∀t,(Vw.mk F β s.lv w).av (a.tmps.getD t undef) (s.fr t)
 size:a.tmps.size=c.n
 defers:a.defers=c.ds
 ox:∀b,F b->b<w.heap.size/\(c.F0 b\/c.w0.heap.size<=b)
 F0:∀b,c.F0 b->F b
 old:∀b,b<c.w0.heap.size->¬c.W0 b->w.heap[b]?=c.w0.heap[b]?
 ge:c.w0.heap.size<=w.heap.size
 qP:∀g cs,c.G[g]?=some cs->Rd (m9 w F) (.pointer (some ⟨g,0,none⟩)) (.ptr cs)
 keep:∀k,c.iN k≠.hole->s.lv k=.dead\/(β k=c.β0 k/\(c.iN k).sub (s.lv k))
 IQ:∀b,cz c.w0 b<=cz w b
 Ey:w.os=c.w0.os/\w.output=c.w0.output
theorem LB.Bd{x y z:LB}(h1:x.sub y)(h2:y.sub z)(hy:x≠.hole):x.sub z:=by
 cases x<;>cases y<;>cases z<;>simp[LB.sub]at h1 h2 hy ⊢
theorem LB.NK{x:LB}(h:x.sub .hole):x=.hole:=by
 cases x<;>simp[LB.sub]at h ⊢
theorem LB.Oh{x:LB}(h:LB.dead.sub x):x=.dead:=by
 cases x<;>simp[LB.sub]at h ⊢
theorem Vw.bJ(h:V.bK c k)(hK:V.iX V')(hl:V'.lv k=V.lv k)(hβ:V'.β k=V.β k)
 (hm:V'.w.heap[V.β k]?=V.w.heap[V.β k]?) (hF:(V.lv k).live=true->(V'.F (V.β k)->V.F (V.β k))):V'.bK c k:=by
 unfold Vw.bK at *
 rw[hl]
 cases e:V.lv k with
 |cells own fz T cs=>
  rw[e]at h hF;obtain⟨arr,h1,h2,h3,h4,h5⟩:=h;refine⟨arr,by grind,h2,λi a b=>hK.cv (h3 i a b),?_,by grind⟩;rw[hβ]
  cases fz with
  |true=>exact hK.F _ h4
  |false=>exact λhf=>h4 (hF rfl hf)
 |map own es=>
  rw[e]at h hF;obtain⟨ents,clock,h1,h2,h3,h4,h5⟩:=h;refine⟨ents,clock,by grind,h2,λi a b=>⟨Rd.mono (gT hK.F hK.mem) (h3 i a b).1,hK.oq (h3 i a b).2⟩,?_,by grind⟩;rw[hβ];exact λhf=>h4 (hF rfl hf)
 |hole=>trivial
 |dead=>trivial
 |nils=>trivial
theorem aD.step(h:aD c F β s a w)
 (hF:∀b,F b->F' b) (hm:∀b,F b->w'.heap[b]?=w.heap[b]?)
 (hk:∀k,(s.lv k).sub (lv' k)) (hβ:∀k,s.lv k≠.hole->lv' k≠.dead->β' k=β k) (ha:∀b,cz w b<=cz w' b)
 (hblk:∀k,(Vw.mk F β s.lv w).iX (Vw.mk F' β' lv' w')->(Vw.mk F' β' lv' w').bK c k)
 (hinj:∀k k',(lv' k).live=true->(lv' k').live=true->β' k=β' k'->k=k')
 (hFlt:∀b,F' b->F b\/(b<w'.heap.size/\c.w0.heap.size<=b)) (hsz:w.heap.size<=w'.heap.size)
 (hold:∀b,b<c.w0.heap.size->¬c.W0 b->w'.heap[b]?=w.heap[b]?)
 (hoo:w'.os=w.os/\w'.output=w.output:=by exact⟨rfl,rfl⟩):aD c F' β' ⟨s.fr,lv'⟩ a w':=by
 have hK:(Vw.mk F β s.lv w).iX (Vw.mk F' β' lv' w'):=Vw.jl hF hm hk hβ ha;refine⟨λk=>hblk k hK,hinj,λt=>hK.av (h.fr t),h.size,h.defers,?_,λb hb=>hF b (h.F0 b hb),?_,Ju h.ge hsz,?_,?_,λb=>Ju (h.IQ b) (ha b),⟨hoo.1.trans h.Ey.1,hoo.2.trans h.Ey.2⟩⟩
 ·intro b hb;rcases hFlt b hb with h1|⟨h1,h2⟩
  ·exact⟨aeB (h.ox b h1).1 hsz,(h.ox b h1).2⟩
  omega
 ·intro b h1 h2;rw[hold b h1 h2];exact h.old b h1 h2
 ·intro g cs hg;exact Rd.mono (gT hF hm) (h.qP g cs hg)
 ·intro k h0;rcases h.keep k h0 with h1|⟨h1,h2⟩
  ·left;have:=hk k;rw[h1]at this;exact LB.Oh this
  ·by_cases hd:lv' k=.dead
   ·grind
   ·right;have hnh:s.lv k≠.hole:=λe=>h0 (LB.NK (e▸h2))
    exact⟨(hβ k hnh hd).trans h1,LB.Bd h2 (hk k) h0⟩
def az(f:Nat->α)(k:Nat)(x:α):Nat->α:=λt=>if t=k then x else f t
theorem aA(f:Nat->α)(k:Nat)(x:α):az f k x k=x:=by simp[az]
theorem aE(f:Nat->α){k t:Nat}(x:α)(h:t≠k):az f k x t=f t:=by simp[az,h]
theorem OI(a:Act)(d t:Nat)(v:Value)(h:d<a.tmps.size):
 (a.put (some d) v).tmps.getD t undef=if t=d then v else a.tmps.getD t undef:=by
 simp only[Act.put,ae3,agZ]
 grind
theorem aD.put(h:aD c F β s a w){d:Nat}(hd:d<c.n){x:AV}
 (hv:(Vw.mk F β s.lv w).av v x):aD c F β ⟨az s.fr d x,s.lv⟩ (a.put (some d) v) w:=by
 refine⟨h.bK,h.inj,?_,by simp[Act.put,h.size],h.defers,h.ox,h.F0,h.old,h.ge,h.qP,h.keep,h.IQ,h.Ey⟩;intro t;rw[OI _ _ _ _ (by rw[h.size];exact hd)]
 by_cases e:t=d
 ·subst e;simp only[if_true];show(Vw.mk F β s.lv w).av v (az s.fr t x t);rw[aA];exact hv
 ·simp only[if_neg e];show(Vw.mk F β s.lv w).av _ (az s.fr d x t);rw[aE _ _ e];exact h.fr t
def aB.put(s:aB)(dst:Option Nat)(x:AV):aB:=
 match dst with
 |some d=>⟨az s.fr d x,s.lv⟩
 |none=>s
theorem aD.CS(h:aD c F β s a w){dst:Option Nat}(hd:∀d,dst=some d->d<c.n){x:AV}
 (hv:(Vw.mk F β s.lv w).av v x):aD c F β (s.put dst x) (a.put dst v) w:=by
 cases dst with
 |none=>exact h
 |some d=>exact h.put (hd d rfl) hv
theorem aD.heap(h:aD c F β s a w)(hw:w'.heap=w.heap)(hoo:w'.os=w.os/\w'.output=w.output:=by exact⟨rfl,rfl⟩):aD c F β s a w':=by
 have:∀b,cz w b<=cz w' b:=λb=>by simp[cz,hw]
 have hk:∀k,(s.lv k).sub (s.lv k):=λk=>by cases e:s.lv k<;>simp[LB.sub]
 refine h.step (F':=F) (β':=β) (lv':=s.lv) (λ_ h=>h) (λb _=>by rw[hw]) hk (λ_ _ _=>rfl) this
  (λk hK=>Vw.bJ (h.bK k) hK rfl rfl (by simp[hw]) (λ_ h=>h)) h.inj (λb h=>.inl h) (by grind) (λb _ _=>by rw[hw]) hoo
theorem LB.bE(x:LB):x.sub x:=by cases x<;>simp[LB.sub]
theorem heap_alloc(w:World)(o:Obj)(b:Nat):(w.alloc o).heap[b]?=if b=w.heap.size then some o else w.heap[b]?:=by
 simp only[World.alloc,Array.getElem?_push]
theorem kS(w:World)(o:Obj)(b:Nat):cz w b<=cz (w.alloc o) b:=by
 unfold cz;rw[heap_alloc]
 grind
theorem yG{b:Nat}{o:Obj}(h:w.heap[b]?=some o):b<w.heap.size:=
 (Array.getElem?_eq_some_iff.1 h).1
section
variable {c:Ctx}{F:Nat->Prop}{β:Key->Nat}{s:aB}{a:Act}{w:World}
theorem aD.iD(h:aD c F β s a w)(hl:(s.lv k).live=true):β k<w.heap.size:=by
 have hb:=h.bK k;unfold Vw.bK at hb
 cases e:s.lv k with
 |cells own fz T cs=>grind
 |map own es=>grind
 |hole=>simp[e,LB.live]at hl
 |dead=>simp[e,LB.live]at hl
 |nils=>simp[e,LB.live]at hl
theorem aD.ny(h:aD c F β s a w)(hl:(s.lv k).live=true):¬F (β k):=by
 have hb:=h.bK k;unfold Vw.bK at hb
 cases e:s.lv k with
 |cells own fz T cs=>
  simp only[e]at hb hl;obtain⟨arr,h1,h2,h3,h4,h5⟩:=hb
  cases fz with
  |true=>simp[LB.live]at hl
  |false=>exact h4
 |map own es=>grind
 |hole=>simp[e,LB.live]at hl
 |dead=>simp[e,LB.live]at hl
 |nils=>simp[e,LB.live]at hl
theorem aD.ga(h:aD c F β s a w)(hl:(s.lv k).live=true):c.w0.heap.size<=β k\/c.W0 (β k):=by
 have hb:=h.bK k;unfold Vw.bK at hb
 have key:∀own,eU c own (β k)->c.w0.heap.size<=β k\/c.W0 (β k):=by
  intro own ho;unfold eU at ho;cases own<;>simp at ho
  ·exact ho
  ·omega
 cases e:s.lv k with
 |cells own fz T cs=>grind
 |map own es=>grind
 |hole=>simp[e,LB.live]at hl
 |dead=>simp[e,LB.live]at hl
 |nils=>simp[e,LB.live]at hl
theorem aD.alloc(h:aD c F β s a w)(hκ:s.lv κ=.hole)(T:TypeId)(hl:cs.length<=arr.size)
 (hc:∀i (h:i<cs.length) (h':i<arr.size),(Vw.mk F β s.lv w).cv arr[i] cs[i]) :
 aD c F (az β κ w.heap.size) ⟨s.fr,az s.lv κ (.cells true false T cs)⟩ a (w.alloc (.cells arr T)):=by
 have hnew:∀b,F b->b≠w.heap.size:=λb hb e=>by have:=(h.ox b hb).1;omega
 refine h.step (λ_ h=>h) (λb hb=>by rw[heap_alloc,if_neg (hnew b hb)]) ?_ ?_ (kS w _) ?_ ?_ (λb h=>.inl h) (by simp) ?_
 ·intro k
  by_cases e:k=κ
  ·subst e;rw[hκ];simp[LB.sub]
  ·rw[aE _ _ e];exact LB.bE _
 ·intro k hk _;have e:k≠κ:=λe=>hk (e▸hκ)
  exact aE _ _ e
 ·intro k hK
  by_cases e:k=κ
  ·subst e;simp only[Vw.bK,aA];refine⟨arr,by rw[heap_alloc,if_pos rfl],hl,λi x y=>hK.cv (hc i x y),?_,h.ge⟩
   grind
  ·have hb:=h.bK k
   by_cases hcl:∃own fz T' cs',s.lv k=.cells own fz T' cs'
   ·obtain⟨own,fz,T',cs',ek⟩:=hcl;refine Vw.bJ hb hK (aE _ _ e) (aE _ _ e) ?_ (λ_ h=>h);unfold Vw.bK at hb;simp only[ek]at hb;obtain⟨arr',h1,_⟩:=hb;have:=yG h1;show(w.alloc _).heap[β k]?=_;rw[heap_alloc,if_neg (by omega)]
   ·by_cases hml:∃own es,s.lv k=.map own es
    ·obtain⟨own,es,ek⟩:=hml;refine Vw.bJ hb hK (aE _ _ e) (aE _ _ e) ?_ (λ_ h=>h);unfold Vw.bK at hb;simp only[ek]at hb;obtain⟨x,y,h1,_⟩:=hb;have:=yG h1;show(w.alloc _).heap[β k]?=_;rw[heap_alloc,if_neg (by omega)]
    ·unfold Vw.bK;simp only[aE _ _ e]
     grind
 ·intro k k' hk hk' he
  by_cases e:k=κ<;>by_cases e':k'=κ
  ·rw[e,e']
  ·subst e;rw[aE _ _ e']at hk';rw[aA,aE _ _ e']at he;have:=h.iD hk';omega
  ·subst e';rw[aE _ _ e]at hk;rw[aA,aE _ _ e]at he;have:=h.iD hk;omega
  ·rw[aE _ _ e]at hk he;rw[aE _ _ e']at hk' he;exact h.inj k k' hk hk' he
 ·intro b hb _;have:=h.ge;rw[heap_alloc,if_neg (by omega)]
theorem jt(w:World)(g:Nat)(old arr:Array Value)(T:TypeId)(fr:Nat×Nat)(hg:w.heap[g]?=some (.cells old T fr))(hs:arr.size=old.size)(b:Nat):
 cz (w.setRow g arr) b=cz w b:=by
 unfold cz
 by_cases e:b=g
 ·subst e;rw[setRow_heap w b old arr T fr hg,hg];exact hs
 ·rw[setRow_other w g b arr e]
theorem aD.setRow(h:aD c F β s a w)(hk:s.lv k=.cells own false T cs){old:Array Value}
 (hg:w.heap[β k]?=some (.cells old T (0,0))) (hs:arr.size=old.size) (hl:cs'.length<=arr.size)
 (hc:∀i (h:i<cs'.length) (h':i<arr.size),(Vw.mk F β s.lv w).cv arr[i] cs'[i]) :
 aD c F β ⟨s.fr,az s.lv k (.cells own false T cs')⟩ a (w.setRow (β k) arr):=by
 have hlive:(s.lv k).live=true:=by rw[hk];rfl
 have hnF:=h.ny hlive
 have hsub:∀k',(s.lv k').sub (az s.lv k (.cells own false T cs') k'):=by
  intro k'
  by_cases e:k'=k
  ·subst e;rw[hk,aA];simp[LB.sub]
  ·rw[aE _ _ e];exact LB.bE _
 refine h.step (λ_ h=>h) (λb hb=>setRow_other _ _ _ _ (λe=>hnF (e▸hb))) hsub (λ_ _ _=>rfl)
  (λb=>by rw[jt w (β k) old arr T (0,0) hg hs b];simp) ?_ ?_ (λb h=>.inl h) (by simp) ?_
 ·intro k' hK
  by_cases e:k'=k
  ·subst e;have hb:=h.bK k';unfold Vw.bK at hb ⊢;simp only[hk]at hb;simp only[aA];obtain⟨arr',h1,h2,h3,h4,h5⟩:=hb;exact⟨arr,setRow_heap w _ old arr T (0,0) hg,hl,λi x y=>hK.cv (hc i x y),h4,h5⟩
  ·have hne:(s.lv k').live=true->β k'≠β k:=λhl' he=>e (h.inj _ _ hl' hlive he)
   have hb:=h.bK k'
   by_cases hlk:(s.lv k').live=true
   ·exact Vw.bJ hb hK (aE _ _ e) rfl (setRow_other _ _ _ _ (hne hlk)) (λ_ h=>h)
   ·cases ek:s.lv k' with
    |cells own' fz T' cs''=>
     cases fz with
     |false=>rw[ek]at hlk;exact absurd rfl hlk
     |true=>
      refine Vw.bJ hb hK (aE _ _ e) rfl (setRow_other _ _ _ _ ?_) (λ_ h=>h);unfold Vw.bK at hb;grind
    |map own es=>rw[ek]at hlk;exact absurd rfl hlk
    |hole=>unfold Vw.bK;simp only[aE _ _ e,ek]
    |dead=>unfold Vw.bK;simp only[aE _ _ e,ek]
    |nils=>unfold Vw.bK;simp only[aE _ _ e,ek]
 ·intro k1 k2 h1 h2 he
  have g:∀k',(az s.lv k (.cells own false T cs') k').live=true->(s.lv k').live=true:=by
   intro k' hk'
   by_cases e:k'=k
   ·grind
   ·rwa[aE _ _ e]at hk'
  exact h.inj k1 k2 (g _ h1) (g _ h2) he
 ·intro b hb hW;refine setRow_other _ _ _ _ (λe=>?_);rcases h.ga hlive with h1|h1
  ·omega
  grind
theorem aD.kill(h:aD c F β s a w)(k:Key):aD c F β ⟨s.fr,az s.lv k .dead⟩ a w:=by
 refine h.step (λ_ h=>h) (λ_ _=>rfl) ?_ (λ_ _ _=>rfl) (λ_=>bh _) ?_ ?_ (λb h=>.inl h) (bh _) (λ_ _ _=>rfl)
 ·intro k'
  by_cases e:k'=k
  ·subst e;rw[aA];cases s.lv k'<;>simp[LB.sub]
  ·rw[aE _ _ e];exact LB.bE _
 ·intro k' hK
  by_cases e:k'=k
  ·subst e;unfold Vw.bK;simp only[aA]
  ·exact Vw.bJ (h.bK k') hK (aE _ _ e) rfl rfl (λ_ h=>h)
 ·intro k1 k2 h1 h2 he
  have g:∀k',(az s.lv k .dead k').live=true->(s.lv k').live=true:=by
   intro k' hk'
   by_cases e:k'=k
   ·subst e;rw[aA]at hk';simp[LB.live]at hk'
   ·rwa[aE _ _ e]at hk'
  exact h.inj k1 k2 (g _ h1) (g _ h2) he
theorem aD.move(h:aD c F β s a w)(hk:s.lv k=.cells own false T cs)(hκ:s.lv κ=.hole)
 (hg:w.heap[β k]?=some (.cells arr T (0,0))) (hl:cs'.length<=arr.size)
 (hc:∀i (h:i<cs'.length) (h':i<arr.size),(Vw.mk F β s.lv w).cv arr[i] cs'[i]) :
 aD c F (az β κ (β k)) ⟨s.fr,az (az s.lv k .dead) κ (.cells own false T cs')⟩ a w:=by
 have hlive:(s.lv k).live=true:=by rw[hk];rfl
 have hkκ:k≠κ:=λe=>by grind
 refine h.step (λ_ h=>h) (λ_ _=>rfl) ?_ ?_ (λ_=>bh _) ?_ ?_ (λb h=>.inl h) (bh _) (λ_ _ _=>rfl)
 ·intro k'
  by_cases e:k'=κ
  ·subst e;rw[hκ];simp[LB.sub]
  ·rw[aE _ _ e]
   by_cases e':k'=k
   ·subst e';rw[aA,hk];simp[LB.sub]
   ·rw[aE _ _ e'];exact LB.bE _
 ·intro k' hk' _;have e:k'≠κ:=λe=>hk' (e▸hκ)
  exact aE _ _ e
 ·intro k' hK
  by_cases e:k'=κ
  ·subst e;have hb:=h.bK k;unfold Vw.bK at hb ⊢;simp only[hk]at hb;simp only[aA];obtain⟨arr',h1,h2,h3,h4,h5⟩:=hb;exact⟨arr,hg,hl,λi x y=>hK.cv (hc i x y),h4,h5⟩
  ·by_cases e':k'=k
   ·subst e';unfold Vw.bK;simp only[aE _ _ e,aA]
   ·exact Vw.bJ (h.bK k') hK (by show az (az s.lv k .dead) κ _ k'=s.lv k';rw[aE _ _ e,aE _ _ e']) (aE _ _ e) rfl (λ_ h=>h)
 ·have g:∀k',k'≠κ->(az (az s.lv k .dead) κ (.cells own false T cs') k').live=true->(s.lv k').live=true/\k'≠k:=by
   intro k' e hk';rw[aE _ _ e]at hk'
   by_cases e':k'=k
   ·subst e';rw[aA]at hk';simp[LB.live]at hk'
   ·rw[aE _ _ e']at hk';grind
  intro k1 k2 h1 h2 he
  by_cases e1:k1=κ<;>by_cases e2:k2=κ
  ·rw[e1,e2]
  ·have:=g k2 e2 h2;rw[e1,aA,aE _ _ e2]at he;exact absurd (h.inj _ _ hlive this.1 he).symm this.2
  ·have:=g k1 e1 h1;rw[e2,aA,aE _ _ e1]at he;exact absurd (h.inj _ _ this.1 hlive he) this.2
  ·rw[aE _ _ e1,aE _ _ e2]at he;exact h.inj _ _ (g k1 e1 h1).1 (g k2 e2 h2).1 he
theorem aD.freeze(h:aD c F β s a w)(hk:s.lv k=.cells true false T cs):
 aD c (λb=>F b\/b=β k) β ⟨s.fr,az s.lv k (.cells true true T cs)⟩ a w:=by
 have hlive:(s.lv k).live=true:=by rw[hk];rfl
 have hlt:=h.iD hlive;have hb0:=h.bK k;unfold Vw.bK at hb0;simp only[hk]at hb0;obtain⟨arr,h1,h2,h3,h4,h5⟩:=hb0
 have g:∀k',(az s.lv k (.cells true true T cs) k').live=true->(s.lv k').live=true/\k'≠k:=by
  intro k' hk'
  by_cases e':k'=k
  ·subst e';rw[aA]at hk';simp[LB.live]at hk'
  ·rw[aE _ _ e']at hk';grind
 refine h.step (λ_ h=>.inl h) (λ_ _=>rfl) ?_ (λ_ _ _=>rfl) (λ_=>bh _) ?_ ?_ ?_ (bh _) (λ_ _ _=>rfl)
 ·intro k'
  by_cases e:k'=k
  ·subst e;rw[aA,hk];simp[LB.sub]
  ·rw[aE _ _ e];exact LB.bE _
 ·intro k' hK
  by_cases e:k'=k
  ·subst e;unfold Vw.bK;simp only[aA];exact⟨arr,h1,h2,λi x y=>hK.cv (h3 i x y),by simp,h5⟩
  ·refine Vw.bJ (h.bK k') hK (aE _ _ e) rfl rfl (λhl hf=>?_);rcases hf with hf|hf
   ·exact hf
   ·exact absurd (h.inj _ _ hl hlive hf) e
 ·intro k1 k2 a1 a2 he;exact h.inj _ _ (g _ a1).1 (g _ a2).1 he
 ·intro b hb;rcases hb with hb|hb
  ·grind
  ·subst hb;exact .inr ⟨hlt,by simpa[eU]using h5⟩
end
def Hs:Value->CV
 |.bool b=>.d (.bool b)
 |.int k n=>if k.wrap n=n then .d (.int k n)else .junk
 |.string s=>if s.data.toList.length<=9223372036854775807 then .d (.str s.data.toList)else .junk
 |.pointer none=>.d .nilp
 |.slice none 0 0=>.d .nilsl
 |.nilIface=>.d .nilIface
 |.nilFunc=>.d .nilFunc
 |.map none=>.d .nilmap
 |_=>.junk
def uu(v:Value):AV:=
 match v with
 |.agg arr=>if arr.toList.all (·.oneCell')then .agg (arr.toList.map Hs)else .junk
 |.tuple _=>.junk
 |v=>.c (Hs v)
def aB.val(G:List (List DV))(s:aB):Operand->AV
 |.tmp t=>s.fr t
 |.const v=>uu v
 |.global g=>match G[g]? with|some cs=>.c (.d (.ptr cs))|none=>.junk
 |.func f=>.c (.d (.func (.func f) [] []))
theorem OJ(V:Vw)(v:Value)(h:v.oneCell'=true):V.cv v (Hs v):=by
 unfold Hs;split
 case h_1 b=>exact⟨.bool b,rfl⟩
 case h_2 k n=>split
               ·rename_i hw;exact⟨.int k n hw,rfl⟩
               rfl
 case h_3 s=>split
             ·rename_i hl;exact⟨.str s hl,rfl⟩
             rfl
 case h_4=>exact⟨.nilp,rfl⟩
 case h_5=>exact⟨.nilsl,rfl⟩
 case h_6=>exact⟨.nilIface,rfl⟩
 case h_7=>exact⟨.nilFunc,rfl⟩
 case h_8=>exact⟨.nilmap,rfl⟩
 case h_9=>exact h
theorem vI(V:Vw)(v:Value):V.av v (uu v):=by
 unfold uu;split
 case h_1 arr=>
  split
  ·rename_i h
   refine⟨arr,rfl,by simp,λi x y=>?_⟩;simp only[ab5,afA];refine OJ V _ ?_
   grind
  ·trivial
 case h_2=>trivial
 case h_3 h1 h2=>
  refine OJ V v ?_
  cases v<;>first|rfl|exact absurd rfl (h1 _)|grind
section
variable {c:Ctx}{F:Nat->Prop}{β:Key->Nat}{s:aB}{a:Act}{w:World}
theorem aD.val(h:aD c F β s a w)(x:Operand):(Vw.mk F β s.lv w).av (a.eval x) (s.val c.G x):=by
 cases x with
 |tmp t=>exact h.fr t
 |const v=>exact vI _ v
 |global g=>
  simp only[aB.val];split
  ·rename_i cs hg;exact⟨h.qP g cs hg,rfl⟩
  ·trivial
 |func f=>exact⟨.func _ _ _ _ _ rfl rfl (λi h=>absurd h (aft i)) (λi h=>absurd h (aft i)),rfl⟩
def bT(c:Ctx)(o:Oper)(s s':aB):Prop:=
 ∀(F:Nat->Prop) (β:Key->Nat) (a:Act) (w:World) (K:Act->World->Prop) (Q:Exit->Act->World->Prop),aD c F β s a w ->
  (∀F' β' a' w',aD c F' β' s' a' w'->K a' w')->o.wp c.P a w K Q
theorem bT.ef{x:AV}(hd:∀d,o.dst=some d->d<c.n)
 (h:∀F β a w,aD c F β s a w->∃v F' β' w',(execOp a.eval o).run c.P w=.ok (.value v) w'/\aD c F' β' ⟨s.fr,lv'⟩ a w'/\(Vw.mk F' β' lv' w').av v x) :
 bT c o s (aB.put ⟨s.fr,lv'⟩ o.dst x):=by
 intro F β a w K Q hs hK;obtain⟨v,F',β',w',hr,hs',hv⟩:=h F β a w hs;unfold Oper.wp;rw[hr,Oper.upon_value];exact hK F' β' _ _ (hs'.CS hd hv)
theorem bT.aX{x:AV}(hd:∀d,o.dst=some d->d<c.n)
 (h:∀F β a w,aD c F β s a w->∃v,(execOp a.eval o).run c.P w=.ok (.value v) w/\(Vw.mk F β s.lv w).av v x) :
 bT c o s (s.put o.dst x):=
 bT.ef (lv':=s.lv) hd λF β a w hs=>let ⟨v,h1,h2⟩:=h F β a w hs;⟨v,F,β,w,h1,hs,h2⟩
theorem nX(V:Vw):V.av undef .undef:=rfl
theorem bT.J6(hd:∀d,o.dst=some d->d<c.n)
 (h:∀F β a w,aD c F β s a w->∃F' β' w',(execOp a.eval o).run c.P w=.ok .skip w'/\aD c F' β' ⟨s.fr,lv'⟩ a w') :
 bT c o s (aB.put ⟨s.fr,lv'⟩ o.dst .undef):=by
 intro F β a w K Q hs hK;obtain⟨F',β',w',hr,hs'⟩:=h F β a w hs;unfold Oper.wp;rw[hr,Oper.upon_skip];exact hK F' β' _ _ (hs'.CS hd (nX _))
theorem FL(hd:∀d,o.dst=some d->d<c.n)(ho:o.op=.move x\/o.op=.assign x):bT c o s (s.put o.dst (s.val c.G x)):=
 bT.aX hd λF β a w hs=>⟨a.eval x,by rcases ho with ho|ho<;>simp[execOp,ho],hs.val x⟩
theorem FC{t:Operand}(hd:∀d,o.dst=some d->d<c.n)(ho:o.op=.pick t x y)(ht:s.val c.G t=.c (.d (.bool b))):
 bT c o s (s.put o.dst (if b then s.val c.G x else s.val c.G y)):=
 bT.aX hd λF β a w hs=>by
  have h1:=hs.val t;rw[ht]at h1;obtain⟨h1,_⟩:=h1;generalize he:a.eval t=v at h1
  cases h1
  cases b with
  |true=>exact⟨a.eval x,by simp[execOp,ho,he,asBool],by simpa using hs.val x⟩
  |false=>exact⟨a.eval y,by simp[execOp,ho,he,asBool],by simpa using hs.val y⟩
theorem Vw.sw(h:V.av v (.c (.d (.bool b)))):v=.bool b:=by
 obtain⟨h,_⟩:=h;cases h;rfl
theorem Vw.eV{k:IntKind}(h:V.av v (.c (.d (.int k n)))):v=.int k n:=by
 obtain⟨h,_⟩:=h;cases h;rfl
theorem Vw.kB{l:List UInt8}(h:V.av v (.c (.d (.str l)))):v=.string ⟨l.toArray⟩:=by
 obtain⟨h,_⟩:=h;cases h;rfl
theorem Vw.mI(V:Vw)(k:IntKind)(n:Int)(hw:k.wrap n=n):V.av (.int k n) (.c (.d (.int k n))):=⟨.int k n hw,rfl⟩
theorem Vw.tQ{k:IntKind}(h:V.av v (.c (.d (.int k n)))):k.wrap n=n:=by
 obtain⟨h,_⟩:=h;cases h;omega
theorem Vw.CW{l:List UInt8}(h:V.av v (.c (.d (.str l)))):l.length<=9223372036854775807:=by
 obtain⟨h,_⟩:=h;cases h;omega
theorem Vw.ob(V:Vw)(b:Bool):V.av (.bool b) (.c (.d (.bool b))):=⟨.bool b,rfl⟩
theorem Vw.oY(V:Vw)(l:List UInt8)(hl:l.length<=9223372036854775807):V.av (.string ⟨l.toArray⟩) (.c (.d (.str l))):=⟨by have:=Rd.str (M:=V.mem) ⟨l.toArray⟩ (by omega);omega,rfl⟩
def lQ(op:BinOp)(k:IntKind)(x y:Int):Option DV:=
 match op with
 |.add=>some (.int k (k.wrap (x+y)))
 |.sub=>some (.int k (k.wrap (x-y)))
 |.mul=>some (.int k (k.wrap (x*y)))
 |.quo=>some (.int k (k.wrap (x.tdiv y)))
 |.rem=>some (.int k (x.tmod y))
 |.and=>some (.int k (k.wrap (BitVec.ofInt k.bits x&&&BitVec.ofInt k.bits y).toNat))
 |.or=>some (.int k (k.wrap (BitVec.ofInt k.bits x |||BitVec.ofInt k.bits y).toNat))
 |.xor=>some (.int k (k.wrap (BitVec.ofInt k.bits x ^^^ BitVec.ofInt k.bits y).toNat))
 |.andNot=>some (.int k (k.wrap (BitVec.ofInt k.bits x &&& ~~~BitVec.ofInt k.bits y).toNat))
 |.eql=>some (.bool (x == y))
 |.neq=>some (.bool (x != y))
 |.lss=>some (.bool (decide (x<y)))
 |.leq=>some (.bool (decide (x<=y)))
 |.gtr=>some (.bool (decide (y<x)))
 |.geq=>some (.bool (decide (y<=x)))
 |_=>none
def fF(op:BinOp)(y:Int):Prop:=
 match op with
 |.quo|.rem=>y≠0
 |_=>True
def shI(op:BinOp)(k:IntKind)(x y:Int):Option DV:=
 match op with
 |.shl=>some (.int k (k.wrap (x*2^(min y.toNat k.bits))))
 |.shr=>some (.int k (x.fdiv (2^(min y.toNat k.bits))))
 |_=>none
def DV.fZ:DV->Value
 |.bool b=>.bool b
 |.int k n=>.int k n
 |.str l=>.string ⟨l.toArray⟩
 |_=>undef
def DV.pK:DV->Bool
 |.bool _|.int ..|.str _=>true
 |_=>false
def DV.rng:DV->Prop
 |.int k n=>k.wrap n=n
 |.str l=>l.length<=9223372036854775807
 |_=>True
theorem Vw.JV(V:Vw)(h:d.pK=true)(hr:d.rng):V.av d.fZ (.c (.d d)):=by
 cases d<;>simp[DV.pK]at h
 ·exact V.ob _
 ·exact V.mI _ _ hr
 ·exact V.oY _ hr
theorem NA{k:IntKind}{m:Int}(hr:lQ op k m n=some d)(hok:fF op n)(P:Program)(T:TypeId)(x y:Operand)(w:World):
 (do eqGuard op T x y (.int k m) (.int k n);binOp op T (.int k m) (.int k n):Sem Value).run P w=.ok d.fZ w:=by
 cases op<;>simp only[lQ,ah,reduceCtorEq]at hr<;>subst hr<;>simp only[fF]at hok<;>
  simp only[eqGuard,binOp,ne_eq,not_true_eq_false,if_false,if_true,Bool.not_true,Bool.not_false]<;>
  first
   |rfl
   |(simp only[Op.intDiv,if_neg hok];rfl)
theorem Mb{k:IntKind}{m:Int}(hr:lQ op k m n=some d):d.pK=true:=by
 cases op<;>simp only[lQ,ah,reduceCtorEq]at hr<;>subst hr<;>rfl
theorem MV{k:IntKind}{m:Int}(hr:lQ op k m n=some d)(hm:k.wrap m=m):d.rng:=by
 cases op<;>simp only[lQ,ah,reduceCtorEq]at hr<;>subst hr<;>first|exact wrap_wrap _ _|exact LH hm|trivial
theorem OC{k:IntKind}{m:Int}(hd:∀d,o.dst=some d->d<c.n)(ho:o.op=.binOp op T x y T')
 (hx:s.val c.G x=.c (.d (.int k m))) (hy:s.val c.G y=.c (.d (.int k n))) (hr:lQ op k m n=some d) (hok:fF op n) :
 bT c o s (s.put o.dst (.c (.d d))):=
 bT.aX hd λF β a w hs=>by
  have h1:=Vw.eV (hx▸hs.val x);have h1':=Vw.tQ (hx▸hs.val x);have h2:=Vw.eV (hy▸hs.val y);refine⟨d.fZ,?_,Vw.JV _ (Mb hr) (MV hr h1')⟩;simp only[execOp,ho,h1,h2];rw[mT,NA hr hok];rfl
theorem JE{k:IntKind}{m:Int}(hd:∀d,o.dst=some d->d<c.n)(ho:o.op=.binOp op T x y T')
 (hx:s.val c.G x=.c (.d (.int k m))) (hy:s.val c.G y=.c (.d (.int k' n))) (hr:shI op k m n=some d) (hok:0<=n) :
 bT c o s (s.put o.dst (.c (.d d))):=
 bT.aX hd λF β a w hs=>by
  have h1:=Vw.eV (hx▸hs.val x);have h1':=Vw.tQ (hx▸hs.val x);have h2:=Vw.eV (hy▸hs.val y);have h3:¬n<0:=by omega
  cases op<;>simp only[shI,ah,reduceCtorEq]at hr<;>subst hr
  ·exact⟨.int k (k.wrap (m*2^(min n.toNat k.bits))),by simp[execOp,ho,h1,h2,eqGuard,binOp,Op.shift,h3],⟨.int _ _ (wrap_wrap _ _),rfl⟩⟩
  ·exact⟨.int k (m.fdiv (2^(min n.toNat k.bits))),by simp[execOp,ho,h1,h2,eqGuard,binOp,Op.shift,h3],⟨.int _ _ (L4 h1'),rfl⟩⟩
def Ly(op:BinOp)(x y:List UInt8):Option DV:=
 match op with
 |.add=>some (.str (x++y))
 |.eql=>some (.bool (x == y))
 |.neq=>some (.bool (!(x == y)))
 |.lss=>some (.bool (Op.bytesLess x y))
 |.leq=>some (.bool (Op.bytesLess x y ||x == y))
 |.gtr=>some (.bool (!(Op.bytesLess x y ||x == y)))
 |.geq=>some (.bool (!Op.bytesLess x y))
 |_=>none
def oN(op:BinOp)(x y:List UInt8):Prop:=
 match op with
 |.add=>x.length+y.length<=9223372036854775807
 |_=>True
theorem toList_mk(l:List UInt8):(ByteArray.mk l.toArray).toList=l:=by
 simp
theorem Qe{m n:List UInt8}(hd:∀d,o.dst=some d->d<c.n)(ho:o.op=.binOp op T x y T')
 (hx:s.val c.G x=.c (.d (.str m))) (hy:s.val c.G y=.c (.d (.str n))) (hr:Ly op m n=some d) (hok:oN op m n) :
 bT c o s (s.put o.dst (.c (.d d))):=
 bT.aX hd λF β a w hs=>by
  have h1:=Vw.kB (hx▸hs.val x);have h2:=Vw.kB (hy▸hs.val y)
  cases op<;>simp only[Ly,ah,reduceCtorEq]at hr<;>subst hr<;>simp only[oN]at hok
  case add=>
   refine⟨.string ⟨(m++n).toArray⟩,?_,Vw.oY _ _ (by grind)⟩
   have h3:¬((((ByteArray.mk m.toArray).size+(ByteArray.mk n.toArray).size:Nat):Int) > IntKind.i64.max):=by
    rw[IntKind.max_i64];simp[ByteArray.size];omega
   have h4:(ByteArray.mk m.toArray++ByteArray.mk n.toArray)=ByteArray.mk (m++n).toArray:=by
    apply ByteArray.ext;simp
   simp only[execOp,ho,h1,h2,eqGuard,binOp,Op.stringOp,if_neg h3,h4];rfl
  all_goals
   refine⟨DV.fZ (.bool _),?_,Vw.JV (d:=.bool _) _ rfl trivial⟩;simp only[execOp,ho,h1,h2,eqGuard,binOp,Op.stringOp,toList_mk];rfl
end
def jf(P:Program)(t:TypeId):Nat:=match P.info? t with|some i=>i.size|none=>0
def eF(P:Program)(t:TypeId):Option Bool:=
 match P.underlying t,P.info? t with
 |some (.struct _),some _|some (.array _ _),some _=>some true
 |some _,some _=>some false
 |_,_=>none
def jn(P:Program)(t:TypeId)(f:Nat):Option (Nat×TypeId):=
 match P.underlying t with
 |some (.struct fs)=>
  match fs[f]? with
  |some fd=>if (P.info? fd.type).isSome&&jf P fd.type != 0 then some (fd.offset,fd.type)else none
  |none=>none
 |_=>none
def eW(P:Program)(t:TypeId):Option (TypeId×Nat):=
 match P.underlying t with
 |some (.slice e)=>if (P.info? e).isSome then some (e,jf P e)else none
 |_=>none
def Ag(P:Program)(t:TypeId):Option (Nat×TypeId×Nat):=
 match P.underlying t with
 |some (.array n e)=>if (P.info? e).isSome then some (n,e,jf P e)else none
 |_=>none
theorem run_sizeOf(h:(P.info? t).isSome=true)(w:World):(sizeOf t).run P w=.ok (jf P t) w:=by
 obtain⟨i,hi⟩:=Option.isSome_iff_exists.1 h;simp[sizeOf,typeInfo,jf,hi]
theorem m6(h:eF P t=some b)(w:World):(isAgg t).run P w=.ok b w:=by
 unfold eF at h;unfold isAgg;split at h
 ·rename_i h1 h2;simp at h;subst h;simp[mT,run_underlying h1]
 ·rename_i h1 h2;simp at h;subst h;simp[mT,run_underlying h1]
 ·rename_i d i hns hna h1 h2
  simp at h;subst h;simp only[mT,run_underlying h1,sr];rfl
 grind
def AV.cells:AV->Option (List CV)
 |.c x=>some [x]
 |.agg cs=>some cs
 |_=>none
theorem Vw.kU{x:AV}(h:V.av v x)(hc:x.cells=some cs):
 v.cells.size=cs.length/\∀i (h:i<cs.length) (h':i<v.cells.size),V.cv v.cells[i] cs[i]:=by
 cases x with
 |c x=>
  simp only[AV.cells,ah]at hc;subst hc;have ho:=Vw.fN (V:=V) h;have hv:v.cells=#[v]:=by cases v<;>simp[Value.oneCell']at ho<;>rfl
  refine⟨by grind,λi a b=>?_⟩;have:i=0:=by simp at a;exact a
  subst this;simp only[hv];exact h
 |agg l=>
  simp only[AV.cells,ah]at hc;subst hc;obtain⟨arr,rfl,h1,h2⟩:=h;exact⟨h1,h2⟩
 |tup l=>simp[AV.cells]at hc
 |undef=>simp[AV.cells]at hc
 |junk=>simp[AV.cells]at hc
section
variable {c:Ctx}{F:Nat->Prop}{β:Key->Nat}{s:aB}{a:Act}{w:World}
theorem Ap{w:World}{ad:Addr}(h:w.cell? ad=some v):(load ad).run P w=.ok v w:=by
 simp_all
theorem eP{w:World}{b o:Nat}{fr:Nat×Nat}(h:w.heap[b]?=some (.cells arr T fr))(ho:o<arr.size):
 w.cell? ⟨b,o,none⟩=some arr[o]:=by
 rw[cell_of_row w b o arr T fr h];simp[ho]
def gA(P:Program)(T:TypeId)(cs:List CV):Option AV:=
 match eF P T with
 |some true=>if jf P T<=cs.length then some (.agg (cs.take (jf P T)))else none
 |some false=>match cs with|x::_=>some (.c x)|[]=>none
 |none=>none
theorem vT(h:eF P t=some b):(P.info? t).isSome=true:=by
 unfold eF at h
 grind
theorem rX{x:AV}(V:Vw){b o:Nat}(hl:gA P T cs=some x)(vs:Nat->Value)
 (hm:∀i,i<cs.length->V.w.cell? ⟨b,o+i,none⟩=some (vs i)) (hr:∀i (h:i<cs.length),V.cv (vs i) cs[i]) :
 ∃v,(Instr.loadAt T (.pointer (some ⟨b,o,none⟩))).run P V.w=.ok v V.w/\V.av v x:=by
 unfold gA at hl;split at hl
 ·rename_i hag
  split at hl
  ·rename_i hsz
   simp only[ah]at hl;subst hl;refine⟨.agg ((List.range (jf P T)).map vs).toArray,?_,?_⟩
   ·simp only[Instr.loadAt,Instr.sureAddr,loadVar,mT,aer,sr,m6 hag,if_true,run_sizeOf (vT hag)];rw[run_loadCells V.w ⟨b,o,none⟩ (jf P T) vs (λj hj=>by rw[ae4];grind)];simp
   ·refine⟨_,rfl,by simp;omega,λi h h'=>?_⟩
    grind
  grind
 ·rename_i hag
  split at hl
  ·rename_i y rest
   simp only[ah]at hl;subst hl;refine⟨vs 0,?_,hr 0 (by simp)⟩;simp only[Instr.loadAt,Instr.sureAddr,loadVar,mT,aer,sr,m6 hag];exact Ap (hm 0 (by simp))
  grind
 grind
theorem HC{cs:List DV}{y:AV}(hd:∀d,o.dst=some d->d<c.n)(ho:o.op=.load T x)
 (hx:s.val c.G x=.c (.d (.ptr cs))) (hl:gA c.P T (cs.map CV.d)=some y):bT c o s (s.put o.dst y):=
 bT.aX hd λF β a w hs=>by
  have h1:=hx▸hs.val x;obtain⟨h1,_⟩:=h1;generalize he:a.eval x=v at h1
  cases h1 with
  |ptr b off vs _ hm hone hr=>
   obtain⟨v,h2,h3⟩:=rX (P:=c.P) (T:=T) (Vw.mk F β s.lv w) (b:=b) (o:=off) hl vs (λi hi=>(hm i (by grind)).2)
    (λi hi=>by simp only[ab5];exact⟨hr i (by grind),hone i (by grind)⟩)
   exact⟨v,by simp[execOp,ho,he,h2],h3⟩
theorem HU{y:AV}(hd:∀d,o.dst=some d->d<c.n)(ho:o.op=.load T x)
 (hx:s.val c.G x=.c (.ptr k off)) (hk:s.lv k=.cells own fz T' cs) (hl:gA c.P T (cs.drop off)=some y):bT c o s (s.put o.dst y):=
 bT.aX hd λF β a w hs=>by
  have h1:=hx▸hs.val x;obtain⟨h1,_⟩:=h1;simp only[Vw.dn,hk]at h1;have hb:=hs.bK k;unfold Vw.bK at hb;simp only[hk]at hb;obtain⟨arr,h2,h3,h4,_⟩:=hb
  obtain⟨v,h5,h6⟩:=rX (P:=c.P) (T:=T) (Vw.mk F β s.lv w) (b:=β k) (o:=off) hl (λi=>arr.getD (off+i) undef)
   (λi hi=>by
    have hi':off+i<arr.size:=by simp at hi;omega
    rw[eP h2 hi'];simp_all)
   (λi hi=>by
    have hi':off+i<arr.size:=by simp at hi;omega
    simp_all)
  exact⟨v,by simp[execOp,ho,h1,h5],h6⟩
def ai(cs:List α)(off:Nat)(xs:List α):List α:=cs.take off++xs++cs.drop (off+xs.length)
theorem c9(cs:List α)(off:Nat)(xs:List α)(h:off+xs.length<=cs.length):(ai cs off xs).length=cs.length:=by
 simp[ai];omega
theorem eO(cs:List α)(off:Nat)(xs:List α)(h:off+xs.length<=cs.length)(i:Nat)(hi:i<(ai cs off xs).length):
 (ai cs off xs)[i]=if h1:off<=i/\i<off+xs.length then xs[i-off]else cs[i]'(by rw[c9 _ _ _ h]at hi;exact hi):=by
 have hi':=hi;rw[c9 _ _ _ h]at hi';have hto:(cs.take off).length=off:=by simp;omega
 by_cases h1:i<off
 ·rw[dif_neg (by omega)];simp only[ai,adX]
  grind
 ·by_cases h2:i<off+xs.length
  ·rw[dif_pos ⟨by omega,h2⟩];simp only[ai,adX]
   grind
  ·rw[dif_neg (by omega)];simp only[ai,adX];rw[afj (by omega),afj (by omega),af3]
   grind
theorem KU(hd:∀d,o.dst=some d->d<c.n)(ho:o.op=.store T x y)
 (hx:s.val c.G x=.c (.ptr k off)) (hk:s.lv k=.cells own false T' cs) (hy:(s.val c.G y).cells=some xs) (hi:(c.P.info? T).isSome=true)
 (hsz:xs.length=jf c.P T) (hoff:off+xs.length<=cs.length) :
 bT c o s (aB.put ⟨s.fr,az s.lv k (.cells own false T' (ai cs off xs))⟩ o.dst .undef):=
 bT.J6 hd λF β a w hs=>by
  have h1:=hx▸hs.val x;obtain⟨h1,_⟩:=h1;simp only[Vw.dn,hk]at h1;have hb:=hs.bK k;unfold Vw.bK at hb;simp only[hk]at hb;obtain⟨arr,h2,h3,h4,_⟩:=hb;obtain⟨h5,h6⟩:=Vw.kU (hs.val y) hy;obtain⟨v,hv⟩:∃v,a.eval y=v:=⟨_,rfl⟩
  rw[hv]at h5 h6
  have hone:∀u∈v.cells.toList,u.oneCell'=true:=by
   intro u hu;obtain⟨i,hi1,rfl⟩:=List.mem_iff_getElem.1 hu;have:=h6 i (by grind) (by omega);exact Vw.fN this
  have hl5:v.cells.toList.length=xs.length:=by simpa using h5
  have hst:=run_storeCells_at c.P (β k) off T' v.cells.toList 0 arr w h2 (by omega) hone;simp only[aeI]at hst;have hset:arr.toList.take off++v.cells.toList++arr.toList.drop (off+v.cells.toList.length)=ai arr.toList off v.cells.toList:=rfl;have hle:off+v.cells.toList.length<=arr.toList.length:=by simp only[afJ];omega
  refine⟨F,β,_,?_,hs.setRow (arr:=(ai arr.toList off v.cells.toList).toArray) hk h2 (by grind) (by rw[c9 _ _ _ hoff];grind) ?_⟩
  ·simp only[execOp,ho,h1,hv,Instr.storeAt,Instr.sureAddr,storeVar,mT,aer,sr,run_sizeOf hi]
   simp_all
  ·intro i p q;simp only[af4];rw[eO _ _ _ hle i (by omega),eO _ _ _ hoff i p]
   grind
theorem RN(hd:∀d,o.dst=some d->d<c.n)(ho:o.op=.box T x)
 (hκ:s.lv κ=.hole) (hx:(s.val c.G x).cells=some xs) :
 bT c o s (aB.put ⟨s.fr,az s.lv κ (.cells true false T xs)⟩ o.dst (.c (.ptr κ 0))):=
 bT.ef hd λF β a w hs=>by
  obtain⟨h5,h6⟩:=Vw.kU (hs.val x) hx;refine⟨.pointer (some ⟨w.heap.size,0,none⟩),F,az β κ w.heap.size,w.alloc (.cells (a.eval x).cells T),?_,hs.alloc hκ T (by omega) h6,?_⟩
  ·simp[execOp,ho,Instr.box,newVar,newRow]
  ·refine⟨?_,rfl⟩;simp[Vw.dn,aA]
theorem Lb(hd:∀d,o.dst=some d->d<c.n)(ho:o.op=.alloc T)
 (hκ:s.lv κ=.hole) (hz:(c.P.info? T).bind (·.zero)=some z) (hx:(uu z).cells=some xs) :
 bT c o s (aB.put ⟨s.fr,az s.lv κ (.cells true false T xs)⟩ o.dst (.c (.ptr κ 0))):=
 bT.ef hd λF β a w hs=>by
  obtain⟨i,hi,hz⟩:=Option.bind_eq_some_iff.1 hz;obtain⟨h5,h6⟩:=Vw.kU (vI (Vw.mk F β s.lv w) z) hx;refine⟨.pointer (some ⟨w.heap.size,0,none⟩),F,az β κ w.heap.size,w.alloc (.cells z.cells T),?_,hs.alloc hκ T (by omega) h6,?_⟩
  ·simp[execOp,ho,Instr.alloc,zeroValue,typeInfo,hi,hz,newVar,newRow]
  ·refine⟨?_,rfl⟩;simp[Vw.dn,aA]
end
section
variable {c:Ctx}{F:Nat->Prop}{β:Key->Nat}{s:aB}{a:Act}{w:World}
theorem Rd.F4{cs:List DV}(h:Rd M v (.ptr cs))(n:Nat)(hn:n<=cs.length):
 ∃b o,v=.pointer (some ⟨b,o,none⟩)/\Rd M (.pointer (some ⟨b,o+n,none⟩)) (.ptr (cs.drop n)):=by
 cases h with
 |ptr b off vs _ hm ho hr=>
  refine⟨b,off,rfl,.ptr b (off+n) (λi=>vs (n+i)) _ (λi hi=>?_) (λi hi=>ho _ (by grind)) (λi hi=>?_)⟩
  ·grind
  grind
theorem v7{f:Nat}(h:jn P T f=some (off,ft))(b o:Nat)(w:World):
 (Instr.fieldAt T (.pointer (some ⟨b,o,none⟩)) f).run P w=.ok (.pointer (some ⟨b,o+off,none⟩)) w:=by
 unfold jn at h;split at h
 ·rename_i fs hu
  split at h
  ·rename_i fd hf
   split at h
   ·rename_i hc
    simp only[ah,M1]at h;obtain⟨rfl,rfl⟩:=h;rw[rP,bne_iff_ne]at hc;simp only[Instr.fieldAt,mT,run_underlying hu,sr,hf,Instr.sureAddr,aer,fieldPlace,run_sizeOf hc.1,if_neg hc.2];rw[ae4]
   grind
  grind
 grind
theorem wR{f:Nat}{cs:List DV}(hd:∀d,o.dst=some d->d<c.n)(ho:o.op=.fieldAddr T x f)
 (hx:s.val c.G x=.c (.d (.ptr cs))) (hf:jn c.P T f=some (off,ft)) (hoff:off<=cs.length):bT c o s (s.put o.dst (.c (.d (.ptr (cs.drop off))))):=
 bT.aX hd λF β a w hs=>by
  have h1:=hx▸hs.val x;obtain⟨h1,_⟩:=h1;obtain⟨b,o',h2,h3⟩:=Rd.F4 h1 off hoff;exact⟨_,by simp only[execOp,ho,h2,mT,v7 hf,sr];rfl,h3,rfl⟩
theorem wV{f n:Nat}(hd:∀d,o.dst=some d->d<c.n)(ho:o.op=.fieldAddr T x f)
 (hx:s.val c.G x=.c (.ptr k n)) (hk:s.lv k=.cells own fz T' cs) (hf:jn c.P T f=some (off,ft)):bT c o s (s.put o.dst (.c (.ptr k (n+off)))):=
 bT.aX hd λF β a w hs=>by
  have h1:=hx▸hs.val x;obtain⟨h1,_⟩:=h1;simp only[Vw.dn,hk]at h1;refine⟨_,by simp only[execOp,ho,h1,mT,v7 hf,sr];rfl,?_,rfl⟩;simp only[Vw.dn,hk]
theorem tE{y:CV}(hd:∀d,o.dst=some d->d<c.n)(ho:o.op=.nilCheck x)(hx:s.val c.G x=.c y)
 (hy:∀F β a w,aD c F β s a w->∃ad,a.eval x=.pointer (some ad)):bT c o s (s.put o.dst (.c y)):=
 bT.aX hd λF β a w hs=>by
  obtain⟨ad,h⟩:=hy F β a w hs;exact⟨.pointer (some ad),by simp[execOp,ho,h],by rw[<-h,<-hx];exact hs.val x⟩
theorem zU{cs:List DV}(hd:∀d,o.dst=some d->d<c.n)(ho:o.op=.nilCheck x)(hx:s.val c.G x=.c (.d (.ptr cs))):
 bT c o s (s.put o.dst (.c (.d (.ptr cs)))):=
 tE hd ho hx λF β a w hs=>by
  have h1:=hx▸hs.val x;obtain⟨h1,_⟩:=h1;generalize a.eval x=v at h1
  cases h1;simp
theorem yw{n:Nat}(hd:∀d,o.dst=some d->d<c.n)(ho:o.op=.nilCheck x)
 (hx:s.val c.G x=.c (.ptr k n)) (hk:s.lv k=.cells own fz T' cs):bT c o s (s.put o.dst (.c (.ptr k n))):=
 tE hd ho hx λF β a w hs=>by
  have h1:=hx▸hs.val x;obtain⟨h1,_⟩:=h1;simp only[Vw.dn,hk]at h1
  grind
theorem yO{fs cs:List DV}(hd:∀d,o.dst=some d->d<c.n)(ho:o.op=.nilCheck x)
 (hx:s.val c.G x=.c (.d (.func fn fs cs))) (hn:∀m,fn≠.method m):bT c o s (s.put o.dst (.c (.d (.func fn fs cs)))):=
 bT.aX hd λF β a w hs=>by
  have h0:=hs.val x;have h1:=hx▸h0;obtain⟨h1,_⟩:=h1;obtain⟨v,he⟩:∃v,a.eval x=v:=⟨_,rfl⟩
  rw[he]at h1;refine⟨v,?_,by grind⟩
  cases h1 with
  |func _ fs cs _ _ _ _ _ _=>cases fn<;>simp[execOp,ho,he]<;>exact absurd rfl (hn _)
theorem wS{fs cs:List Ref}(hd:∀d,o.dst=some d->d<c.n)(ho:o.op=.nilCheck x)
 (hx:s.val c.G x=.c (.func fn fs cs)) (hn:∀m,fn≠.method m):bT c o s (s.put o.dst (.c (.func fn fs cs))):=
 bT.aX hd λF β a w hs=>by
  have h0:=hs.val x;have h1:=hx▸h0;obtain⟨fs',cs',he,_⟩:=h1;refine⟨_,?_,by rw[<-hx];exact h0⟩;rw[he]
  cases fn<;>simp[execOp,ho,he]<;>exact absurd rfl (hn _)
theorem FB{i:Nat}{l:List AV}{y:AV}(hd:∀d,o.dst=some d->d<c.n)(ho:o.op=.extract x i)
 (hx:s.val c.G x=.tup l) (hi:l[i]?=some y) (hy:∀l',y≠.tup l'):bT c o s (s.put o.dst y):=
 bT.aX hd λF β a w hs=>by
  have h1:=hx▸hs.val x;obtain⟨arr,h2,h3,h4⟩:=h1;obtain⟨hlt,rfl⟩:=List.getElem?_eq_some_iff.1 hi;have hlt':i<arr.size:=by omega
  refine⟨arr[i],by simp[execOp,ho,h2,Instr.extract,hlt'],?_⟩;have:=h4 i hlt hlt'
  cases e:l[i]with
  |tup l'=>grind
  |c x=>rw[e]at this;exact this
  |agg x=>rw[e]at this;exact this
  |undef=>rw[e]at this;exact this
  |junk=>trivial
def ou(P:Program)(T:TypeId)(cs:List CV)(off:Nat):Option AV:=
 match eF P T with
 |some true=>if off+jf P T<=cs.length then some (.agg ((cs.drop off).take (jf P T)))else none
 |some false=>(cs[off]?).map .c
 |none=>none
theorem tH{y:AV}(V:Vw)(h:ou P T cs off=some y)(arr:Array Value)(hs:arr.size=cs.length)
 (hr:∀i (h:i<cs.length) (h':i<arr.size),V.cv arr[i] cs[i]):∃v,(part T arr off).run P V.w=.ok v V.w/\V.av v y:=by
 unfold ou at h;split at h
 ·rename_i hag
  split at h
  ·rename_i hsz
   simp only[ah]at h;subst h;refine⟨.agg (arr.extract off (off+jf P T)),by simp[part,mT,m6 hag,run_sizeOf (vT hag)],_,rfl,by simp;omega,λi p q=>?_⟩
   grind
  grind
 ·rename_i hag
  cases e:cs[off]? with
  |none=>grind
  |some x=>
   rw[e]at h;simp only[aeJ,ah]at h;subst h;obtain⟨hlt,rfl⟩:=List.getElem?_eq_some_iff.1 e;have hlt':off<arr.size:=by omega
   exact⟨arr[off],by simp[part,mT,m6 hag,hlt'],hr _ _ _⟩
 grind
theorem L3{f:Nat}{y:AV}(hd:∀d,o.dst=some d->d<c.n)(ho:o.op=.field T x f)
 (hx:s.val c.G x=.agg cs) (hf:jn c.P T f=some (off,ft)) (hp:ou c.P ft cs off=some y):bT c o s (s.put o.dst y):=
 bT.aX hd λF β a w hs=>by
  have h1:=hx▸hs.val x;obtain⟨arr,h2,h3,h4⟩:=h1;obtain⟨v,h5,h6⟩:=tH (Vw.mk F β s.lv w) hp arr h3 h4;refine⟨v,?_,h6⟩;unfold jn at hf;split at hf
  ·rename_i fs hu
   split at hf
   ·rename_i fd hfd
    split at hf
    ·simp only[ah,M1]at hf;obtain⟨rfl,rfl⟩:=hf;simp only[execOp,ho,h2,Instr.field,mT,run_underlying hu,sr,hfd,asAgg,aer,h5]
    grind
   grind
  grind
end
section
variable {c:Ctx}{F:Nat->Prop}{β:Key->Nat}{s:aB}{a:Act}{w:World}
theorem cN(h:eW P T=some (e,sz)):P.underlying T=some (.slice e)/\(P.info? e).isSome=true/\jf P e=sz:=by
 unfold eW at h
 grind
theorem yL{n:Nat}(h:Ag P T=some (n,e,sz)):P.underlying T=some (.array n e)/\(P.info? e).isSome=true/\jf P e=sz:=by
 unfold Ag at h
 grind
theorem run_indexAt_slice(h:eW P T=some (e,sz))(b o len cap:Nat)(k:IntKind)(n:Int)(h0:0<=n)(h1:n<len)(w:World):
 (Instr.indexAt T (.slice (some ⟨b,o,none⟩) len cap) (.int k n)).run P w=.ok (.pointer (some ⟨b,o+n.toNat*sz,none⟩)) w:=by
 obtain⟨hu,hi,hs⟩:=cN h;simp[Instr.indexAt,asIntOf,run_underlying hu,h0,h1,run_sizeOf hi,hs,ae4]
theorem run_indexAt_array(h:Ag P T=some (len,e,sz))(b o:Nat)(k:IntKind)(n:Int)(h0:0<=n)(h1:n<len)(w:World):
 (Instr.indexAt T (.pointer (some ⟨b,o,none⟩)) (.int k n)).run P w=.ok (.pointer (some ⟨b,o+n.toNat*sz,none⟩)) w:=by
 obtain⟨hu,hi,hs⟩:=yL h;simp[Instr.indexAt,asIntOf,run_underlying hu,Instr.sureAddr,h0,h1,run_sizeOf hi,hs,ae4]
theorem Rd.Cr(h:Rd M v (.sl es)):(∃b o cap,v=.slice (some ⟨b,o,none⟩) es.length cap/\es.length<=cap /\
 ∀i (hi:i<es.length),Rd M (.pointer (some ⟨b,o+i*es[i].length,none⟩)) (.ptr es[i]))\/∃a,v=.slice (some a) 0 0/\es=[]:=by
 cases h with
 |sl b off cap sz _ vs hl hc hb hm ho hr=>
  refine .inl ⟨b,off,cap,rfl,hc,λi hi=>?_⟩;have hlen:es[i].length=sz:=hl _ (aT hi);exact .ptr b _ (vs i) _ (λj hj=>by grind) (λj hj=>ho i hi j (by omega)) (λj hj=>hr i hi j hj)
 |sl0 a=>exact .inr ⟨a,rfl,rfl⟩
theorem wT{k:IntKind}{cs:List DV}(hd:∀d,o.dst=some d->d<c.n)(ho:o.op=.indexAddr T x ix)
 (hx:s.val c.G x=.c (.d (.sl es))) (hi:s.val c.G ix=.c (.d (.int k n))) (hT:eW c.P T=some (e,sz)) (h0:0<=n) (hcs:es[n.toNat]?=some cs) (hsz:cs.length=sz) :
 bT c o s (s.put o.dst (.c (.d (.ptr cs)))):=
 bT.aX hd λF β a w hs=>by
  have h1:=hx▸hs.val x;obtain⟨h1,_⟩:=h1;have h2:=Vw.eV (hi▸hs.val ix);obtain⟨hlt,rfl⟩:=List.getElem?_eq_some_iff.1 hcs
  obtain⟨b,o',cap,h3,h4,h5⟩:∃b o cap,a.eval x=.slice (some ⟨b,o,none⟩) es.length cap/\es.length<=cap/\∀i (hi:i<es.length),Rd (Vw.mk F β s.lv w).mem (.pointer (some ⟨b,o+i*es[i].length,none⟩)) (.ptr es[i]):=by
   rcases h1.Cr with h1|⟨_,_,rfl⟩
   ·exact h1
   ·cases hlt
  have h6:=h5 n.toNat hlt;rw[hsz]at h6;have hb:n<(es.length:Int):=by omega
  exact⟨_,by simp only[execOp,ho,h2,h3,mT,run_indexAt_slice hT _ _ _ _ _ _ h0 hb,sr];rfl,h6,rfl⟩
theorem wM{k:IntKind}(hd:∀d,o.dst=some d->d<c.n)(ho:o.op=.indexAddr T x ix)
 (hx:s.val c.G x=.c (.aH κ off len sz)) (hk:s.lv κ=.cells own fz T' cs) (hi:s.val c.G ix=.c (.d (.int k n))) (hT:eW c.P T=some (e,sz)) (h0:0<=n) (h1':n<len) :
 bT c o s (s.put o.dst (.c (.ptr κ (off+n.toNat*sz)))):=
 bT.aX hd λF β a w hs=>by
  have h1:=hx▸hs.val x;obtain⟨h1,_⟩:=h1;simp only[Vw.cx,hk]at h1;obtain⟨cap,h3,_⟩:=h1;have h2:=Vw.eV (hi▸hs.val ix);refine⟨_,by simp only[execOp,ho,h2,h3,mT,run_indexAt_slice hT _ _ _ _ _ _ h0 h1',sr];rfl,?_,rfl⟩;simp only[Vw.dn,hk]
theorem u7{cs:List DV}{k:IntKind}(hd:∀d,o.dst=some d->d<c.n)(ho:o.op=.indexAddr T x ix)
 (hx:s.val c.G x=.c (.d (.ptr cs))) (hi:s.val c.G ix=.c (.d (.int k n))) (hT:Ag c.P T=some (len,e,sz)) (h0:0<=n) (h1':n<len) (hl:n.toNat*sz<=cs.length) :
 bT c o s (s.put o.dst (.c (.d (.ptr (cs.drop (n.toNat*sz)))))):=
 bT.aX hd λF β a w hs=>by
  have h1:=hx▸hs.val x;obtain⟨h1,_⟩:=h1;have h2:=Vw.eV (hi▸hs.val ix);obtain⟨b,o',h3,h4⟩:=Rd.F4 h1 (n.toNat*sz) hl;exact⟨_,by simp only[execOp,ho,h2,h3,mT,run_indexAt_array hT _ _ _ _ h0 h1',sr];rfl,h4,rfl⟩
theorem vE{k:IntKind}(hd:∀d,o.dst=some d->d<c.n)(ho:o.op=.indexAddr T x ix)
 (hx:s.val c.G x=.c (.ptr κ off)) (hk:s.lv κ=.cells own fz T' cs) (hi:s.val c.G ix=.c (.d (.int k n))) (hT:Ag c.P T=some (len,e,sz)) (h0:0<=n) (h1':n<len) :
 bT c o s (s.put o.dst (.c (.ptr κ (off+n.toNat*sz)))):=
 bT.aX hd λF β a w hs=>by
  have h1:=hx▸hs.val x;obtain⟨h1,_⟩:=h1;simp only[Vw.dn,hk]at h1;have h2:=Vw.eV (hi▸hs.val ix);refine⟨_,by simp only[execOp,ho,h1,h2,mT,run_indexAt_array hT _ _ _ _ h0 h1',sr];rfl,?_,rfl⟩;simp only[Vw.dn,hk]
theorem An{l:List UInt8}{k:IntKind}{b:UInt8}(hd:∀d,o.dst=some d->d<c.n)(ho:o.op=.index T x ix)
 (hx:s.val c.G x=.c (.d (.str l))) (hi:s.val c.G ix=.c (.d (.int k n))) (hT:c.P.underlying T=some .string) (h0:0<=n) (hb:l[n.toNat]?=some b) :
 bT c o s (s.put o.dst (.c (.d (.int .u8 b.toNat)))):=
 bT.aX hd λF β a w hs=>by
  have h1:=Vw.kB (hx▸hs.val x);have h2:=Vw.eV (hi▸hs.val ix);obtain⟨hlt,rfl⟩:=List.getElem?_eq_some_iff.1 hb;refine⟨.int .u8 (l[n.toNat]).toNat,?_,Vw.mI _ _ _ (cj ⟨by simp only[wG];omega,by have:=(l[n.toNat]).toNat_lt;simp only[og];omega⟩)⟩
  have h3:(ByteArray.mk l.toArray)[n.toNat]?=some l[n.toNat]:=by
   have:n.toNat<(ByteArray.mk l.toArray).size:=by simpa[ByteArray.size]using hlt
   rw[getElem?_pos (ByteArray.mk l.toArray) n.toNat this];rfl
  simp only[execOp,ho,h1,h2,Instr.index,mT,asIntOf,aer,sr,run_underlying hT,if_pos h0,h3]
theorem Aq{k:IntKind}{y:AV}(hd:∀d,o.dst=some d->d<c.n)(ho:o.op=.index T x ix)
 (hx:s.val c.G x=.agg cs) (hi:s.val c.G ix=.c (.d (.int k n))) (hT:Ag c.P T=some (len,e,sz)) (h0:0<=n) (h1':n<len) (hp:ou c.P e cs (n.toNat*sz)=some y) :
 bT c o s (s.put o.dst y):=
 bT.aX hd λF β a w hs=>by
  have h1:=hx▸hs.val x;obtain⟨arr,h2,h3,h4⟩:=h1;have h5:=Vw.eV (hi▸hs.val ix);obtain⟨hu,hin,hsz⟩:=yL hT;obtain⟨v,h6,h7⟩:=tH (Vw.mk F β s.lv w) hp arr h3 h4;refine⟨v,?_,h7⟩;simp only[execOp,ho,h2,h5,Instr.index,mT,asIntOf,aer,sr,run_underlying hu,if_pos (And.intro h0 h1'),run_sizeOf hin,hsz,h6]
def ec:Option AV->Int->Option Int
 |none,n=>some n
 |some (.c (.d (.int _ m))),_=>some m
 |_,_=>none
theorem eG{k:IntKind}{y:Nat}{code:BoundsCode}(h0:0<=n)(h1:n<=y)(w:World):
 (Instr.sliceBound (.int k n) y code).run P w=.ok n.toNat w:=by
 simp[Instr.sliceBound,asIntOf,h0,h1]
theorem fW{isSlice:Bool}{lo hi:Option Value}
 (hlo:lo=none/\l=0\/∃k,lo=some (.int k l)) (hhi:hi=none/\h=len\/∃k,hi=some (.int k h)) (h0:0<=l) (h1:l<=h) (h2:h<=cap) (w:World) :
 (Instr.sliceBounds isSlice len cap lo hi none).run P w=.ok (l.toNat,h.toNat,cap) w:=by
 rcases hlo with⟨rfl,rfl⟩|⟨k,rfl⟩<;>rcases hhi with⟨rfl,rfl⟩|⟨k',rfl⟩<;>
  simp[Instr.sliceBounds]
 ·rw[eG (by omega) h2];simp
 ·rw[eG h0 h1];simp
 ·rw[eG (by omega) h2];simp only[sr];rw[eG h0 (by omega)];simp
theorem ju{a:Act}{val:Operand->AV}(hval:∀x,V.av (a.eval x) (val x))(h:ec (lo.map val) n=some l):
 lo.map a.eval=none/\l=n\/∃k,lo.map a.eval=some (.int k l):=by
 cases lo with
 |none=>simp[ec]at h;grind
 |some x=>
  right;simp only[aeJ]at h ⊢;have hv:=hval x;unfold ec at h;split at h
  ·grind
  ·rename_i k m e
   simp only[ah]at e h;subst h;rw[e]at hv;exact⟨k,by rw[Vw.eV hv]⟩
  grind
theorem extract_mk(bs:List UInt8)(a b:Nat):(ByteArray.mk bs.toArray).extract a b=⟨((bs.take b).drop a).toArray⟩:=by
 apply ByteArray.ext;apply Array.toList_inj.1;have:=Lib.extract_data (ByteArray.mk bs.toArray) a b;rw[this];simp[List.drop_take]
theorem Al{bs:List UInt8}(hd:∀d,o.dst=some d->d<c.n)(ho:o.op=.slice T x lo hi none)
 (hx:s.val c.G x=.c (.d (.str bs))) (hT:c.P.underlying T=some .string) (hlo:ec (lo.map (s.val c.G)) 0=some l) (hhi:ec (hi.map (s.val c.G)) bs.length=some h)
 (h0:0<=l) (h1:l<=h) (h2:h<=bs.length):bT c o s (s.put o.dst (.c (.d (.str ((bs.take h.toNat).drop l.toNat))))):=
 bT.aX hd λF β a w hs=>by
  have e1:=Vw.kB (hx▸hs.val x);have e1':=Vw.CW (hx▸hs.val x);have b1:=ju hs.val hlo;have b2:=ju hs.val hhi;refine⟨.string ⟨((bs.take h.toNat).drop l.toNat).toArray⟩,?_,Vw.oY _ _ (by simp;omega)⟩;have hsize:(ByteArray.mk bs.toArray).size=bs.length:=by simp[ByteArray.size]
  simp only[execOp,ho,e1,Instr.sliceAt,mT,run_underlying hT,sr,Instr.slice,afu,Option.isSome_none,aeF,if_false];rw[fW (l:=l) (h:=h) (by omega) (by grind) h0 h1 (by omega)];simp only[sr,aer,extract_mk]
theorem Rd.CU{b o:Nat}(h:Rd M (.slice (some ⟨b,o,none⟩) len cap) (.sl es))(hsz:∀e∈es,e.length=sz)
 {l h':Nat}(h1:l<=h') (h2:h'<=es.length) (b':Nat) (o':Nat) (hb:l<h'->b'=b/\o'=o+l*sz) (cap':Nat) (hc:h' - l<=cap') :
 Rd M (.slice (some ⟨b',o',none⟩) (h' - l) cap') (.sl ((es.take h').drop l)):=by
 cases h with
 |sl _ _ _ sz' _ vs hl hcap hbig hm ho hr=>
  have hlen:((es.take h').drop l).length=h' - l:=by simp;omega
  have key:=Rd.sl (M:=M) b' o' cap' sz ((es.take h').drop l) (λi j=>vs (l+i) j) (λe he=>hsz e (afK (afv he))) (by omega) (by omega) ?_ ?_ ?_
  ·rwa[hlen]at key
  ·grind
  ·grind
  grind
 |sl0 a=>
  have e1:l=0:=by simp at h2;omega
  have e2:h'=0:=by simpa using h2
  subst e1 e2;exact Rd.sl b' o' cap' sz [] (λ_ _=>undef) (λ_ h=>by cases h) (aa2 _) (aa2 _) (λi h=>by cases h) (λi h=>by cases h) (λi h=>by cases h)
theorem vH(h:eW P T=some (e,sz)){a:Addr}{lo hi:Option Value}(hlo:lo=none/\(0:Int)=0\/∃k,lo=some (.int k 0))(hhi:hi=none/\(0:Int)=((0:Nat):Int)\/∃k,hi=some (.int k 0))(w:World):
 (Instr.sliceAt T (.slice (some a) 0 0) lo hi none).run P w=.ok (.slice (some a) 0 0) w:=by
 obtain⟨hu,hi',hs⟩:=cN h;simp only[Instr.sliceAt,mT,run_underlying hu,sr,Instr.slice];rw[fW hlo hhi (Int.le_refl _) (Int.le_refl _) (by simp)];simp only[sr,run_sizeOf hi',hs,aer,aeJ]
 grind
theorem iP(h:eW P T=some (e,sz)){b o:Nat}{lo hi:Option Value}{hh:Int}
 (hlo:lo=none/\l=0\/∃k,lo=some (.int k l)) (hhi:hi=none/\hh=len\/∃k,hi=some (.int k hh)) (h0:0<=l) (h1:l<=hh) (h2:hh<=cap) (w:World) :
 (Instr.sliceAt T (.slice (some ⟨b,o,none⟩) len cap) lo hi none).run P w=.ok (.slice (some (if cap=l.toNat then⟨b,o,none⟩ else⟨b,o+l.toNat*sz,none⟩)) (hh.toNat-l.toNat) (cap-l.toNat)) w:=by
 obtain⟨hu,hi',hs⟩:=cN h;simp only[Instr.sliceAt,mT,run_underlying hu,sr,Instr.slice];rw[fW hlo hhi h0 h1 h2];simp only[sr,run_sizeOf hi',hs,aer,aeJ,ae4]
 grind
theorem Gu(hd:∀d,o.dst=some d->d<c.n)(ho:o.op=.slice T x lo hi none)
 (hx:s.val c.G x=.c (.d (.sl es))) (hT:eW c.P T=some (e,sz)) (hes:∀e∈es,e.length=sz) (hlo:ec (lo.map (s.val c.G)) 0=some l) (hhi:ec (hi.map (s.val c.G)) es.length=some h)
 (h0:0<=l) (h1:l<=h) (h2:h<=es.length):bT c o s (s.put o.dst (.c (.d (.sl ((es.take h.toNat).drop l.toNat))))):=
 bT.aX hd λF β a w hs=>by
  have e1:=hx▸hs.val x;obtain⟨e1,_⟩:=e1;have b1:=ju hs.val hlo;have b2:=ju hs.val hhi;rcases e1.Cr with⟨b,o',cap,h3,h4,_⟩|⟨ad,h3,rfl⟩
  rotate_left
  ·have e2:h=0:=by simp at h2;omega
   have e3:l=0:=by omega
   subst e2 e3;exact⟨_,by simp only[execOp,ho,h3,mT,afu,vH hT b1 b2,sr];rfl,.sl0 ad,rfl⟩
  rw[h3]at e1;have hr:=iP (b:=b) (o:=o') (cap:=cap) hT b1 b2 h0 h1 (by omega) w;refine⟨_,by simp only[execOp,ho,h3,mT,afu,hr,sr];rfl,?_,rfl⟩
  by_cases hcap:cap=l.toNat
  ·simp only[if_pos hcap];exact Rd.CU e1 hes (by omega) (by omega) _ _ (λhlt=>by omega) _ (by omega)
  ·simp only[if_neg hcap];exact Rd.CU e1 hes (by omega) (by omega) _ _ (λ_=>⟨rfl,rfl⟩) _ (by omega)
theorem DJ(hd:∀d,o.dst=some d->d<c.n)(ho:o.op=.slice T x lo hi none)
 (hx:s.val c.G x=.c (.aH κ off len sz)) (hk:s.lv κ=.cells own fz T' cs) (hT:eW c.P T=some (e,sz)) (hlo:ec (lo.map (s.val c.G)) 0=some l) (hhi:ec (hi.map (s.val c.G)) len=some h)
 (h0:0<=l) (h1:l<=h) (h2:h<=len) (h3:l<h\/l=0):bT c o s (s.put o.dst (.c (.aH κ (off+l.toNat*sz) (h.toNat-l.toNat) sz))):=
 bT.aX hd λF β a w hs=>by
  have e1:=hx▸hs.val x;obtain⟨e1,_⟩:=e1;simp only[Vw.cx,hk]at e1;obtain⟨cap,e2,e3,e4⟩:=e1;have b1:=ju hs.val hlo;have b2:=ju hs.val hhi;have hr:=iP (b:=β κ) (o:=off) (cap:=cap) hT b1 b2 h0 h1 (by omega) w;refine⟨_,by simp only[execOp,ho,e2,mT,afu,hr,sr];rfl,?_,rfl⟩;simp only[Vw.cx,hk];refine⟨cap-l.toNat,?_,by omega,?_⟩
  ·grind
  ·have:cap*sz=l.toNat*sz+(cap-l.toNat)*sz:=by rw[<-ad7];congr 1;omega
   omega
theorem Ga{z:Operand}{k1 k2:IntKind}(hd:∀d,o.dst=some d->d<c.n)(ho:o.op=.slice T x none (some y) (some z))
 (hx:s.val c.G x=.c (.aH κ off len sz)) (hk:s.lv κ=.cells own fz T' cs) (hT:eW c.P T=some (e,sz)) (hy:s.val c.G y=.c (.d (.int k1 h))) (hz:s.val c.G z=.c (.d (.int k2 h)))
 (h0:0<=h) (h2:h<=len):bT c o s (s.put o.dst (.c (.lsf κ off h.toNat sz))):=
 bT.aX hd λF β a w hs=>by
  have e1:=hx▸hs.val x;obtain⟨e1,_⟩:=e1;simp only[Vw.cx,hk]at e1;obtain⟨cap,e2,e3,e4⟩:=e1;have ey:a.eval y=.int k1 h:=Vw.eV (hy▸hs.val y);have ez:a.eval z=.int k2 h:=Vw.eV (hz▸hs.val z);obtain⟨hu,hi',hss⟩:=cN hT
  have hr:(Instr.sliceAt T (.slice (some ⟨β κ,off,none⟩) len cap) none (some (.int k1 h)) (some (.int k2 h))).run c.P w=.ok (.slice (some ⟨β κ,off,none⟩) h.toNat h.toNat) w:=by
   simp only[Instr.sliceAt,mT,run_underlying hu,sr,Instr.slice,Instr.sliceBounds];rw[eG h0 (by omega)];simp only[sr];rw[eG h0 (by omega)];simp[run_sizeOf hi',ae4]
  refine⟨_,by simp only[execOp,ho,e2,ey,ez,mT,afu,aeJ,hr,sr];rfl,⟨?_,rfl⟩,λ_ _ _ h=>by cases h;rfl⟩;simp only[Vw.cx,hk];refine⟨h.toNat,rfl,bh _,?_⟩;have:h.toNat*sz<=cap*sz:=adJ _ (by omega);show off+h.toNat*sz<=cz w (β κ);omega
theorem Cz(hd:∀d,o.dst=some d->d<c.n)(ho:o.op=.slice T x lo hi none)
 (hx:s.val c.G x=.c (.aH κ off len sz)) (hk:s.lv κ=.cells own fz T' cs) (hT:eW c.P T=some (e,sz)) (hlo:ec (lo.map (s.val c.G)) 0=some l) (hhi:ec (hi.map (s.val c.G)) len=some h)
 (h0:0<=l) (h1:l=h) (h2:h<=len):bT c o s (s.put o.dst (.c (.d (.sl [])))):=
 bT.aX hd λF β a w hs=>by
  have e1:=hx▸hs.val x;obtain⟨e1,_⟩:=e1;simp only[Vw.cx,hk]at e1;obtain⟨cap,e2,e3,e4⟩:=e1;have b1:=ju hs.val hlo;have b2:=ju hs.val hhi;have hr:=iP (b:=β κ) (o:=off) (cap:=cap) hT b1 b2 h0 (by omega) (by omega) w;refine⟨_,by simp only[execOp,ho,e2,mT,afu,hr,sr];rfl,?_,rfl⟩;subst h1;rw[afk]
  have key:∀ad:Addr,ad.spot=none->Rd (Vw.mk F β s.lv w).mem (.slice (some ad) 0 (cap-l.toNat)) (.sl []):=by
   intro ad hsp;obtain⟨b,o',sp⟩:=ad;simp only at hsp;subst hsp;exact Rd.sl b o' _ 0 [] (λ_ _=>undef) (λ_ h=>by cases h) (aa2 _) (aa2 _) (λi h=>by cases h) (λi h=>by cases h) (λi h=>by cases h)
  grind
theorem Ao(hd:∀d,o.dst=some d->d<c.n)(ho:o.op=.slice T x lo hi none)
 (hx:s.val c.G x=.c (.d .nilsl)) (hT:eW c.P T=some (e,sz)) (hlo:ec (lo.map (s.val c.G)) 0=some l) (hhi:ec (hi.map (s.val c.G)) 0=some h)
 (h0:l=0) (h1:h=0):bT c o s (s.put o.dst (.c (.d .nilsl))):=
 bT.aX hd λF β a w hs=>by
  have e1:=hx▸hs.val x;obtain⟨e1,_⟩:=e1;obtain⟨v,hv⟩:∃v,a.eval x=v:=⟨_,rfl⟩
  rw[hv]at e1;have b1:=ju hs.val hlo;have b2:=ju hs.val hhi;obtain⟨hu,hi',hsz⟩:=cN hT;subst h0 h1
  cases e1
  refine⟨.slice none 0 0,?_,.nilsl,rfl⟩;simp only[execOp,ho,hv,afu,Instr.sliceAt,mT,run_underlying hu,sr,Instr.slice];rw[fW (l:=0) (h:=0) b1 b2 (by omega) (by omega) (by omega)];simp[run_sizeOf hi']
end
def ja(n:Nat)(zs:List CV):List CV:=(List.replicate n zs).flatten
theorem FK(n:Nat)(z:CV):ja n [z]=List.replicate n z:=by
 unfold ja;simp
theorem pL(n:Nat)(zs:List CV):(ja n zs).length=n*zs.length:=by
 simp[ja]
theorem Gi(n:Nat)(zs:List CV):∀(i:Nat) (h:i<(ja n zs).length) (h':i%zs.length<zs.length),(ja n zs)[i]=zs[i%zs.length]:=by
 induction n with
 |zero=>intro i h;simp[ja]at h
 |succ n ih=>
  intro i h h';have e:ja (n+1) zs=zs++ja n zs:=by simp[ja,List.replicate_succ]
  simp only[e]
  by_cases hi:i<zs.length
  ·rw[ae5 hi];congr 1;exact(aem hi).symm
  ·have hi':zs.length<=i:=by omega
   rw[afj hi']
   have h2:(i-zs.length)%zs.length=i%zs.length:=by
    conv=>rhs;rw[<-Nat.sub_add_cancel hi',Nat.add_mod_right]
   grind
section
variable {c:Ctx}{F:Nat->Prop}{β:Key->Nat}{s:aB}{a:Act}{w:World}
theorem O0{k:IntKind}{m:Int}(hd:∀d,o.dst=some d->d<c.n)(ho:o.op=.makeSlice T x y)
 (hκ:s.lv κ=.hole) (hx:s.val c.G x=.c (.d (.int k l))) (hy:s.val c.G y=.c (.d (.int k' m))) (hT:eW c.P T=some (e,sz)) (hi:c.P.info? e=some i) (hz:i.zero=some z) (hzs:(uu z).cells=some zs) (hlen:zs.length=sz)
 (hpos:0<sz) (h0:0<=l) (h1:l<=m) (hb:(i.bytes:Int)*m<=281474976710656) (h63:m<=9223372036854775807) :
 bT c o s (aB.put ⟨s.fr,az s.lv κ (.cells true false e (ja l.toNat zs))⟩ o.dst (.c (.aH κ 0 l.toNat sz))):=
 bT.ef hd λF β a w hs=>by
  have h2:=Vw.eV (hx▸hs.val x);have h3:=Vw.eV (hy▸hs.val y);obtain⟨hu,hie,hsz⟩:=cN hT;have hsize:i.size=sz:=by rw[<-hsz];simp[jf,hi]
  have hr:=run_make (P:=c.P) w T e i z hu hi hz k k' l m h0 h1 hb h63;obtain⟨h5,h6⟩:=Vw.kU (vI (Vw.mk F β s.lv w) z) hzs;have hlm:l.toNat*sz<=m.toNat*sz:=adJ _ (by omega);refine⟨_,F,az β κ w.heap.size,_,by simp only[execOp,ho,h2,h3,mT,hr,sr];rfl,?_,?_,rfl⟩
  ·refine hs.alloc hκ e ?_ ?_
   ·rw[pL,size_madeCells,hlen,hsize];exact hlm
   ·intro j hj hj';have hm:j%zs.length<zs.length:=adZ _ (by omega);rw[Gi _ _ _ hj hm];have hsz':z.cells.size=zs.length:=h5;simp only[madeCells,agJ,Array.getElem_range]
    grind
  ·simp only[Vw.cx,aA];refine⟨m.toNat,rfl,by omega,?_⟩;simp only[cz,heap_alloc,if_true,size_madeCells,hsize];omega
def cP(P:Program)(T:TypeId):Bool:=match P.underlying T with|some .string=>true|_=>false
theorem gb(h:cP P T=true):P.underlying T=some .string:=by
 unfold cP at h
 grind
def jA(P:Program)(T:TypeId)(lv:Key->LB):AV->Option Int
 |.c (.d (.str l))=>if cP P T then some l.length else none
 |.c (.d (.sl es))=>if (eW P T).isSome then some es.length else none
 |.c (.d .nilsl)=>if (eW P T).isSome then some 0 else none
 |.c (.aH k _ len _)=>if (eW P T).isSome then(match lv k with|.cells ..|.nils=>some len|_=>none)else none
 |_=>none
def oo(x:AV)(n:Int):Prop:=
 match x with
 |.c (.aH ..)=>n<=9223372036854775807
 |_=>True
theorem Vw.HW(h:V.av v (.c (.d (.sl es)))):es.length<=9223372036854775807:=by
 obtain⟨h,_⟩:=h;cases h
 ·omega
 ·simp
theorem MB{x:AV}(hv:V.av v x)(hn:jA P T V.lv x=some n)(hok:oo x n):0<=n/\n<=9223372036854775807:=by
 unfold jA at hn;split at hn
 ·split at hn
  ·simp only[ah]at hn;subst hn;have:=Vw.CW hv;omega
  grind
 ·split at hn
  ·simp only[ah]at hn;subst hn;have:=Vw.HW hv;omega
  grind
 ·grind
 ·simp only[oo]at hok
  grind
 grind
theorem TH(hd:∀d,o.dst=some d->d<c.n)(ho:o.op=.call { callee:=.builtin .len,args:=#[x],argTypes:=#[T] })
 (hn:jA c.P T s.lv (s.val c.G x)=some n) (hok:oo (s.val c.G x) n):bT c o s (s.put o.dst (.c (.d (.int .i64 n)))):=
 bT.aX hd λF β a w hs=>by
  have hv:=hs.val x;refine⟨.int .i64 n,?_,Vw.mI _ _ _ (cj (by have:=MB hv hn hok;simp only[wG,og];omega))⟩
  have key:(Builtin.len_ #[T] o.type #[a.eval x]).run c.P w=.ok (goInt n) w:=by
   unfold jA at hn;split at hn
   ·rename_i l e
    split at hn
    ·rename_i hT
     have hT':=gb hT;simp only[ah]at hn;subst hn;rw[e]at hv;rw[Vw.kB hv];simp[Builtin.len_,run_underlying hT'];rfl
    grind
   ·rename_i es e
    split at hn
    ·rename_i hT
     obtain⟨⟨e',sz⟩,hT⟩:=Option.isSome_iff_exists.1 hT;obtain⟨hu,_,_⟩:=cN hT;simp only[ah]at hn;subst hn;rw[e]at hv;rcases hv.1.Cr with⟨b,o',cap,h3,_⟩|⟨ad,h3,rfl⟩
     ·rw[h3];simp[Builtin.len_,run_underlying hu]
     ·rw[h3];simp[Builtin.len_,run_underlying hu]
    grind
   ·rename_i e
    split at hn
    ·rename_i hT
     obtain⟨⟨e',sz⟩,hT⟩:=Option.isSome_iff_exists.1 hT;obtain⟨hu,_,_⟩:=cN hT;simp only[ah]at hn;subst hn;rw[e]at hv;obtain⟨v,hv'⟩:∃v,a.eval x=v:=⟨_,rfl⟩
     rw[hv']at hv ⊢;obtain⟨hv,_⟩:=hv
     cases hv
     simp[Builtin.len_,run_underlying hu]
    grind
   ·rename_i k off len sz' e
    split at hn
    ·rename_i hT
     obtain⟨⟨e',sz⟩,hT⟩:=Option.isSome_iff_exists.1 hT;obtain⟨hu,_,_⟩:=cN hT;rw[e]at hv;obtain⟨hv,_⟩:=hv;simp only[Vw.cx]at hv;split at hn
     ·rename_i ek
      simp only[ah]at hn;subst hn;simp only[ek]at hv;obtain⟨cap,h3,_⟩:=hv;rw[h3];simp[Builtin.len_,run_underlying hu]
     ·rename_i ek
      simp only[ah]at hn;subst hn;simp only[ek]at hv;obtain⟨h3,_,h4⟩:=hv;rw[h3,h4];simp[Builtin.len_,run_underlying hu]
     grind
    grind
   ·cases hn
  simp[execOp,ho,resolve,invoke,builtin,key,goInt]
def fc(lv:Key->LB)(sz:Nat):AV->Option (Nat×List CV)
 |.c (.d (.sl es))=>if es.all (·.length == sz)then some (es.length,es.flatten.map .d)else none
 |.c (.d .nilsl)=>some (0,[])
 |.c (.aH k off len sz')=>match lv k with
  |.cells _ _ _ cs=>if sz'=sz/\off+len*sz<=cs.length then some (len,(cs.drop off).take (len*sz))else none
  |.nils=>some (0,[])
  |_=>none
 |_=>none
theorem wk{α:Type}:∀(es:List (List α)) (sz:Nat) (_:∀e∈es,e.length=sz) (i j:Nat) (hi:i<es.length) (_hj:j<sz) (h':j<es[i].length),
 ∃h:i*sz+j<es.flatten.length,es.flatten[i*sz+j]=es[i][j]
 |[],_,_,i,_,hi,_,_=>by simp at hi
 |e::es,sz,hl,0,j,hi,hj,h'=>by
  grind
 |e::es,sz,hl,i+1,j,hi,hj,h'=>by
  have he:e.length=sz:=hl e (by simp);obtain⟨h1,h2⟩:=wk es sz (λe he=>hl e (by simp[he])) i j (by grind) hj (by grind)
  grind
theorem Gw(es:List (List α))(sz:Nat)(hl:∀e∈es,e.length=sz):es.flatten.length=es.length*sz:=by
 induction es with
 |nil=>simp
 |cons e es ih=>
  grind
theorem aD.src(hs:aD c F β s a w)(h:fc s.lv sz (s.val c.G x)=some (m,xs)):
 xs.length=m*sz/\∃ao cap,a.eval x=.slice ao m cap/\(ao=none->m=0)/\(∀ad,ao=some ad->0<m->ad.spot=none) /\
  ∃vs:List Value,vs.length=xs.length/\(∀ad,ao=some ad->∀j u,vs[j]?=some u->w.cell? (ad.add j)=some u) /\
   ∀i (h:i<xs.length) (h':i<vs.length),(Vw.mk F β s.lv w).cv vs[i] xs[i]:=by
 have hv:=hs.val x;unfold fc at h;split at h
 ·rename_i es e
  split at h
  ·rename_i hall
   simp only[ah,M1]at h;obtain⟨rfl,rfl⟩:=h;rw[e]at hv
   have hsz:∀e∈es,e.length=sz:=by
    intro e he;rw[adV]at hall;simpa using hall e he
   have hlen:=Gw es sz hsz;obtain⟨hv,_⟩:=hv;obtain⟨v,hv'⟩:∃v,a.eval x=v:=⟨_,rfl⟩
   rw[hv']at hv;have hlen':(es.flatten.map CV.d).length=es.length*sz:=by rw[ab0,hlen]
   refine⟨hlen',?_⟩
   cases hv with
   |sl b off cap sz' _ vs hl hc hbig hm hone hr=>
    refine⟨some ⟨b,off,none⟩,cap,hv',by simp,by simp,(List.range (es.length*sz)).map (λn=>vs (n/sz) (n%sz)),by grind,?_,?_⟩
    ·rintro ad ⟨⟩ j u hu;rw[aeP]at hu
     have hj:j<es.length*sz:=by
      rcases Nat.lt_or_ge j (es.length*sz)with h|h
      ·exact h
      ·rw[agn (by simpa using h)]at hu;cases hu
     rw[List.getElem?_range hj]at hu;simp only[aeJ,ah]at hu;subst hu
     have hszp:0<sz:=by rcases ago sz with h|h;· rw [h] at hj;simp at hj
                        ·exact h
     have hi:j/sz<es.length:=af5 (by grind);have hs':sz'=sz:=by rw[<-hl _ (aT hi),hsz _ (aT hi)]
     have:=(hm (j/sz) hi (j%sz) (by rw[hs'];exact adZ _ hszp)).2;rw[hs']at this;rw[ae4];have hj2:off+j/sz*sz+j%sz=off+j:=by rw[afl,Nat.div_add_mod']
     grind
    ·intro i p q;simp only[ab5,List.getElem_range];have hj:i<es.length*sz:=by rwa[hlen']at p
     have hszp:0<sz:=by rcases ago sz with h|h;· rw [h] at hj;simp at hj
                        ·exact h
     have hi:i/sz<es.length:=af5 (by grind);have hjm:i%sz<sz:=adZ _ hszp;have hs':sz'=sz:=by rw[<-hl _ (aT hi),hsz _ (aT hi)]
     have hin:i%sz<es[i/sz].length:=by rw[hsz _ (aT hi)];exact hjm
     obtain⟨h1,h2⟩:=wk es sz hsz (i/sz) (i%sz) hi hjm hin;have h3:i/sz*sz+i%sz=i:=Nat.div_add_mod' i sz;simp only[h3]at h2;rw[h2];exact⟨hr _ hi _ hin,hone _ hi _ (by omega)⟩
   |sl0 ad=>
    exact⟨some ad,0,hv',by simp,by simp,[],by simp,by rintro ad ⟨⟩ j u hu;simp at hu,by intro i p;simp at p⟩
  grind
 ·rename_i e
  simp only[ah,M1]at h;obtain⟨rfl,rfl⟩:=h;rw[e]at hv;obtain⟨hv,_⟩:=hv;obtain⟨v,hv'⟩:∃v,a.eval x=v:=⟨_,rfl⟩
  rw[hv']at hv
  cases hv
  simp_all
 ·rename_i k off len sz' e
  rw[e]at hv;obtain⟨hv,_⟩:=hv;simp only[Vw.cx]at hv;split at h
  ·rename_i own fz T cs ek
   simp only[ek]at hv;split at h
   ·rename_i hc
    obtain⟨rfl,hc⟩:=hc;simp only[ah,M1]at h;obtain⟨rfl,rfl⟩:=h;obtain⟨cap,h3,h4,h5⟩:=hv;have hb:=hs.bK k;unfold Vw.bK at hb;simp only[ek]at hb;obtain⟨arr,h6,h7,h8,_⟩:=hb;refine⟨by simp;omega,some ⟨β k,off,none⟩,cap,h3,by simp,by simp,(arr.toList.drop off).take (len*sz'),by simp;omega,?_,?_⟩
    ·rintro ad ⟨⟩ j u hu;rw[agp]at hu;split at hu
     ·rw[afL,agK]at hu;rw[ae4,cell_of_row w _ _ _ _ _ h6];exact hu
     grind
    grind
   grind
  ·rename_i ek
   simp only[ek]at hv;simp only[ah,M1]at h;obtain⟨rfl,rfl⟩:=h
   simp_all
  grind
 grind
end
section
variable {c:Ctx}{F:Nat->Prop}{β:Key->Nat}{s:aB}{a:Act}{w:World}
theorem aD.pn(hs:aD c F β s a w)(hκ:s.lv κ=.hole)(hT:eW c.P T=some (e,sz))
 (hi:c.P.info? e=some i) (hz:i.zero=some z)(hx:fc s.lv sz (s.val c.G x)=some (m,xs)) (hzs:z.cells.size=sz) (h63:m<=9223372036854775807) (hb:m*i.bytes<=140737488355328) :
 ∃v F' β' w',(Builtin.append_ #[T,T] ty #[.slice none 0 0,a.eval x]).run c.P w=.ok v w' /\
  aD c F' β' ⟨s.fr,az s.lv κ (if m=0 then .nils else .cells true false e xs)⟩ a w' /\
  (Vw.mk F' β' (az s.lv κ (if m=0 then .nils else .cells true false e xs)) w').cv v (.aH κ 0 m sz):=by
 obtain⟨hu,hie,hsz⟩:=cN hT;have hsize:i.size=sz:=by rw[<-hsz];simp[jf,hi]
 obtain⟨hlen,ao,cap,h1,h2,h3,vs,h4,h5,h6⟩:=hs.src hx
 by_cases hm:m=0
 ·subst hm
  have hn:aD c F β ⟨s.fr,az s.lv κ .nils⟩ a w:=by
   refine hs.step (λ_ h=>h) (λ_ _=>rfl) ?_ (λ_ _ _=>rfl) (λ_=>bh _) ?_ ?_ (λb h=>.inl h) (bh _) (λ_ _ _=>rfl)
   ·intro k
    by_cases e:k=κ
    ·subst e;rw[hκ];simp[LB.sub]
    ·rw[aE _ _ e];exact LB.bE _
   ·intro k hK
    by_cases e:k=κ
    ·subst e;unfold Vw.bK;simp only[aA]
    ·exact Vw.bJ (hs.bK k) hK (aE _ _ e) rfl rfl (λ_ h=>h)
   ·intro k1 k2 g1 g2 he
    have g:∀k',(az s.lv κ .nils k').live=true->(s.lv k').live=true:=by
     intro k' hk'
     by_cases e:k'=κ
     ·subst e;rw[aA]at hk';simp[LB.live]at hk'
     ·rwa[aE _ _ e]at hk'
    exact hs.inj _ _ (g _ g1) (g _ g2) he
  refine⟨.slice none 0 0,F,β,w,?_,by simpa using hn,?_⟩
  ·rw[h1];have hvs:vs=[]:=afM (by omega);subst hvs
   have hf:(Builtin.firstCells i.size 0 (.slice ao 0 cap)).run c.P w=.ok #[] w:=by
    cases ao with
    |none=>rfl
    |some ad=>simp[Builtin.firstCells,loadCells,loadCellsFrom]
   simp[Builtin.append_,run_underlying hu,sizeOf,typeInfo,hi,Builtin.lenOf,hf]
  ·simp[Vw.cv,Vw.cx,aA,Value.oneCell']
 ·cases ao with
  |none=>grind
  |some ad=>
   have hl':vs.length=m*i.size:=by rw[h4,hlen,hsize]
   have hr:=run_append_nil (P:=c.P) w T ty e i z hu hi hz ad m cap vs hl' (h5 ad rfl) (by omega) (by omega) (by omega);have hd:aD c F β s a w.drew:=hs.heap rfl
   have hal:=hd.alloc hκ (arr:=vs.toArray++Builtin.zeroCells z.cells (grownCap w m 0 e-m)) e (cs:=xs) (by simp;omega) (λj p q=>by
    have hj:j<vs.length:=by omega
    have:(vs.toArray++Builtin.zeroCells z.cells (grownCap w m 0 e-m))[j]=vs[j]:=by
     rw[afc (by simpa using hj)];simp
    rw[this];exact(Vw.jl (V:=Vw.mk F β s.lv w) (V':=Vw.mk F β s.lv w.drew) (λ_ h=>h) (λ_ _=>rfl) (λ_=>LB.bE _) (λ_ _ _=>rfl) (λ_=>bh _)).cv (h6 j p hj))
   refine⟨_,F,az β κ w.heap.size,_,by rw[h1];exact hr,by simpa[hm]using hal,?_⟩;simp only[hm,if_false,Vw.cv,Vw.cx,aA];refine⟨⟨_,rfl,?_,?_⟩,rfl⟩
   ·exact grownCap_ge w m 0 e
   ·have hge:=grownCap_ge w m 0 e;simp only[cz,heap_alloc,agq,if_true,af6,afN,size_zeroCells,hl',hsize,hzs];rw[<-ad7]
    grind
theorem B9(f:Nat->α)(i:Nat)(x y:α):az (az f i x) i y=az f i y:=by
 funext t;unfold az;grind
theorem AR{f:Nat->α}{k:Nat}{x:α}:az f k x k=x:=by simp[az]
theorem aD.om(h:aD c F β s a w)(own:Bool)(hk:s.lv k=.cells true false T cs):
 aD c F β ⟨s.fr,az s.lv k (.cells own false T cs)⟩ a w:=by
 have hlive:(s.lv k).live=true:=by rw[hk];rfl
 refine h.step (λ_ h=>h) (λ_ _=>rfl) ?_ (λ_ _ _=>rfl) (λ_=>bh _) ?_ ?_ (λb h=>.inl h) (bh _) (λ_ _ _=>rfl)
 ·intro k'
  by_cases e:k'=k
  ·subst e;rw[aA,hk];simp[LB.sub]
  ·rw[aE _ _ e];exact LB.bE _
 ·intro k' hK
  by_cases e:k'=k
  ·subst e;have hb:=h.bK k';unfold Vw.bK at hb ⊢;simp only[hk]at hb;simp only[aA];obtain⟨arr,h1,h2,h3,h4,h5⟩:=hb;refine⟨arr,h1,h2,λi p q=>hK.cv (h3 i p q),h4,?_⟩;unfold eU at h5 ⊢
   grind
  ·exact Vw.bJ (h.bK k') hK (aE _ _ e) rfl rfl (λ_ h=>h)
 ·intro k1 k2 h1 h2 he
  have g:∀k',(az s.lv k (.cells own false T cs) k').live=true->(s.lv k').live=true:=by
   intro k' hk'
   by_cases e:k'=k
   ·grind
   ·rwa[aE _ _ e]at hk'
  exact h.inj k1 k2 (g _ h1) (g _ h2) he
theorem aD.zb(hs:aD c F β s a w){n:Nat}(hκ:s.lv κ=.hole)(hT:eW c.P T=some (e,sz))
 (hi:c.P.info? e=some i) (hz:i.zero=some z)(hy:s.val c.G y=.c (.aH k 0 n sz)) (hk:s.lv k=.cells own false e cs) (hfull:cs.length=n*sz)
 (hx:fc s.lv sz (s.val c.G x)=some (m,xs)) (hzs:z.cells.size=sz) (h63:n+m<=9223372036854775807) (hb:(n+m)*i.bytes<=140737488355328) :
 ∃v F' β' w',(Builtin.append_ #[T,T] ty #[a.eval y,a.eval x]).run c.P w=.ok v w' /\
  aD c F' β' ⟨s.fr,az (az s.lv k .dead) κ (.cells own false e (cs++xs))⟩ a w' /\
  (Vw.mk F' β' (az (az s.lv k .dead) κ (.cells own false e (cs++xs))) w').cv v (.aH κ 0 (n+m) sz):=by
 obtain⟨hu,hie,hsz⟩:=cN hT;have hsize:i.size=sz:=by rw[<-hsz];simp[jf,hi]
 obtain⟨hlen,ao,cap',h1,h2,h3,vs,h4,h5,h6⟩:=hs.src hx;have hkκ:k≠κ:=λe=>by grind
 have hv:=hy▸hs.val y;obtain⟨hv,_⟩:=hv;simp only[Vw.cx,hk]at hv;obtain⟨cap,DE,UI,hv3⟩:=hv;have hbk:=hs.bK k;unfold Vw.bK at hbk;simp only[hk]at hbk;obtain⟨arr,g1,g2,g3,g4,g5⟩:=hbk;have has:cz w (β k)=arr.size:=by simp[cz,g1]
 rw[has]at hv3;simp only[aeC]at hv3
 have hsrc:∃ad:Addr,(Builtin.append_ #[T,T] ty #[a.eval y,a.eval x]).run c.P w=(Builtin.append_ #[T,T] ty #[.slice (some ⟨β k,0,none⟩) n cap,.slice (some ad) m cap']).run c.P w /\
  (∀j u,vs[j]?=some u->w.cell? (ad.add j)=some u):=by
  cases ao with
  |some ad=>grind
  |none=>
   have hm:=h2 rfl;subst hm;have hvs:vs=[]:=afM (by omega);subst hvs;refine⟨⟨0,0,none⟩,?_,by simp⟩;rw[DE,h1];simp[Builtin.append_,run_underlying hu,sizeOf,typeInfo,hi,Builtin.lenOf,Builtin.firstCells,loadCells,loadCellsFrom,UI]
 obtain⟨ad,hsrc,hnews⟩:=hsrc;rw[hsrc];have hl':vs.length=m*i.size:=by rw[h4,hlen,hsize]
 have hone:∀u∈vs,u.oneCell'=true:=by
  intro u hu;obtain⟨j,hj,rfl⟩:=List.mem_iff_getElem.1 hu;exact Vw.fN (h6 j (by omega) hj)
 by_cases hroom:n+m<=cap
 ·have hcap:(n+m)*sz<=cap*sz:=adJ _ hroom;have hnm:(n+m)*sz=n*sz+m*sz:=ad7 _ _ _;have hr:=run_append_room (P:=c.P) w T ty e i hu hi (β k) n cap arr g1 ad m cap' vs hl' hnews hone hroom (by grind);rw[hsize]at hr;have hseg:arr.toList.take (n*sz)++vs++arr.toList.drop (n*sz+vs.length)=ai arr.toList (n*sz) vs:=rfl;rw[hseg]at hr;have hle:n*sz+vs.length<=arr.toList.length:=by rw[hl',hsize];simp;omega
  have hset:=hs.setRow (arr:=(ai arr.toList (n*sz) vs).toArray) hk g1 (cs':=cs) (by grind) (by grind) (λj p q=>by
   grind)
  have hsame:az s.lv k (.cells own false e cs)=s.lv:=by
   funext t;unfold az;split
   ·grind
   ·rfl
  rw[hsame]at hset
  have hK:(Vw.mk F β s.lv w).iX (Vw.mk F β s.lv (w.setRow (β k) (ai arr.toList (n*sz) vs).toArray)):=
   Vw.jl (λ_ h=>h) (λb hb=>setRow_other _ _ _ _ (λe=>by
    grind)) (λ_=>LB.bE _) (λ_ _ _=>rfl) (λb=>by rw[jt w (β k) arr _ e (0,0) g1 (by grind) b];simp)
  have hmv:=hset.move (k:=k) (κ:=κ) hk hκ (cs':=cs++xs) (arr:=(ai arr.toList (n*sz) vs).toArray) (setRow_heap w _ arr _ e (0,0) g1) (by grind) (λj p q=>by
   simp only[af4];rw[eO _ _ _ hle j (by omega)]
   by_cases hj:j<n*sz
   ·rw[dif_neg (by omega),ae5 (by omega)];simp only[afA];exact hK.cv (g3 _ _ _)
   ·rw[dif_pos ⟨by omega,by grind⟩,afj (by omega)];simp only[hfull];exact hK.cv (h6 _ _ _))
  refine⟨_,_,_,_,hr,hmv,⟨?_,rfl⟩⟩;simp only[Vw.cx,aA];refine⟨cap,rfl,hroom,?_⟩;rw[jt w (β k) arr _ e (0,0) g1 (by grind)];omega
 ·have holds:∀j u,(arr.toList.take (n*sz))[j]?=some u->w.cell? ((⟨β k,0,none⟩:Addr).add j)=some u:=by
   intro j u hu;rw[agp]at hu;split at hu
   ·rw[agK]at hu;rw[ae4,cell_of_row w _ _ _ _ _ g1,aeC];exact hu
   ·cases hu
  have hn:n*sz<=arr.size:=by omega
  have hr:=run_append_grow (P:=c.P) w T ty e i z hu hi hz ⟨β k,0,none⟩ n cap (arr.toList.take (n*sz)) (by grind) holds ad m cap' vs hl' hnews (by omega) (by omega) (growslice_fits (by omega) hb);have hd:aD c F β s a w.drew:=hs.heap rfl;have hK:(Vw.mk F β s.lv w).iX (Vw.mk F β s.lv w.drew):=Vw.jl (λ_ h=>h) (λ_ _=>rfl) (λ_=>LB.bE _) (λ_ _ _=>rfl) (λ_=>bh _)
  have hal:=(hd.kill k).alloc (κ:=κ) (by show az s.lv k .dead κ=_;rw[aE _ _ (Ne.symm hkκ)];exact hκ) (arr:=((arr.toList.take (n*sz)).toArray++vs.toArray++Builtin.zeroCells z.cells (grownCap w (n+m) cap e-(n+m)))) e (cs:=cs++xs)
   (by simp;omega) (λj p q=>by
    have hK2:(Vw.mk F β s.lv w).iX (Vw.mk F β (az s.lv k .dead) w.drew):=Vw.jl (λ_ h=>h) (λ_ _=>rfl) (λt=>by
     by_cases e:t=k
     ·subst e;show LB.sub (s.lv t) (az s.lv t .dead t);rw[aA];cases s.lv t<;>simp[LB.sub]
     ·show LB.sub (s.lv t) (az s.lv k .dead t);rw[aE _ _ e];exact LB.bE _) (λ_ _ _=>rfl) (λ_=>bh _)
    simp only[ad6]at p;have hto:(arr.toList.take (n*sz)).length=n*sz:=by simp;omega
    by_cases hj:j<n*sz
    ·have e1:((arr.toList.take (n*sz)).toArray++vs.toArray++Builtin.zeroCells z.cells (grownCap w (n+m) cap e-(n+m)))[j]=arr[j]'(by omega):=by
      rw[afc (by simp;omega),afc (by simp;omega)];simp
     rw[e1,ae5 (by omega)];exact hK2.cv (g3 _ _ _)
    ·have e1:((arr.toList.take (n*sz)).toArray++vs.toArray++Builtin.zeroCells z.cells (grownCap w (n+m) cap e-(n+m)))[j]=vs[j-n*sz]'(by omega):=by
      rw[afc (by simp;omega),ag0 (by simp;omega)];simp[hto]
     rw[e1,afj (by omega)];simp only[hfull];exact hK2.cv (h6 _ _ _))
  have hun:=hal.om (k:=κ) own AR;rw[B9]at hun;refine⟨_,_,_,_,hr,hun,⟨?_,rfl⟩⟩;simp only[Vw.cx,aA];refine⟨_,rfl,grownCap_ge w (n+m) cap e,?_⟩;have hge:=grownCap_ge w (n+m) cap e;simp only[cz,heap_alloc,agq,if_true,af6,afN,size_zeroCells,hl',hsize,hzs,aej,afJ];rw[aeM hn,<-ad7,<-ad7]
  grind
theorem aD.Dx(hs:aD c F β s a w){n:Nat}(hκ:s.lv κ=.hole)(hT:eW c.P T=some (e,sz))
 (hi:c.P.info? e=some i) (hz:i.zero=some z)(hy:s.val c.G y=.c (.lsf k off n sz)) (hk:s.lv k=.cells own fz T' cs) (hfull:off+n*sz<=cs.length)
 (hx:fc s.lv sz (s.val c.G x)=some (m,xs)) (hm0:m≠0) (hzs:z.cells.size=sz) (h63:n+m<=9223372036854775807) (hb:(n+m)*i.bytes<=140737488355328) :
 ∃v F' β' w',(Builtin.append_ #[T,T] ty #[a.eval y,a.eval x]).run c.P w=.ok v w' /\
  aD c F' β' ⟨s.fr,az s.lv κ (.cells true false e ((cs.drop off).take (n*sz)++xs))⟩ a w' /\
  (Vw.mk F' β' (az s.lv κ (.cells true false e ((cs.drop off).take (n*sz)++xs))) w').cv v (.aH κ 0 (n+m) sz):=by
 obtain⟨hu,hie,hsz⟩:=cN hT;have hsize:i.size=sz:=by rw[<-hsz];simp[jf,hi]
 obtain⟨hlen,ao,cap',h1,h2,h3,vs,h4,h5,h6⟩:=hs.src hx;have hv:=hy▸hs.val y;obtain⟨⟨hv,_⟩,hcn⟩:=hv;simp only[Vw.cx,hk]at hv;obtain⟨cap,DE,UI,hv3⟩:=hv;have hcn:=hcn _ _ _ DE;subst hcn;have hbk:=hs.bK k;unfold Vw.bK at hbk;simp only[hk]at hbk;obtain⟨arr,g1,g2,g3,g4,g5⟩:=hbk;have has:cz w (β k)=arr.size:=by simp[cz,g1]
 rw[has]at hv3
 have hsrc:∃ad:Addr,(Builtin.append_ #[T,T] ty #[a.eval y,a.eval x]).run c.P w=(Builtin.append_ #[T,T] ty #[.slice (some ⟨β k,off,none⟩) cap cap,.slice (some ad) m cap']).run c.P w /\
  (∀j u,vs[j]?=some u->w.cell? (ad.add j)=some u):=by
  cases ao with
  |some ad=>grind
  |none=>exact absurd (h2 rfl) hm0
 obtain⟨ad,hsrc,hnews⟩:=hsrc;rw[hsrc];have hl':vs.length=m*i.size:=by rw[h4,hlen,hsize]
 have holds:∀j u,((arr.toList.drop off).take (cap*sz))[j]?=some u->w.cell? ((⟨β k,off,none⟩:Addr).add j)=some u:=by
  intro j u hu;rw[agp]at hu;split at hu
  ·rw[afL,agK]at hu;rw[ae4,cell_of_row w _ _ _ _ _ g1];exact hu
  ·cases hu
 have hr:=run_append_grow (P:=c.P) w T ty e i z hu hi hz ⟨β k,off,none⟩ cap cap ((arr.toList.drop off).take (cap*sz)) (by simp;rw[hsize];omega) holds ad m cap' vs hl' hnews (by omega) (by omega) (growslice_fits (by omega) hb);have hd:aD c F β s a w.drew:=hs.heap rfl;have hto:((arr.toList.drop off).take (cap*sz)).length=cap*sz:=by simp;omega
 have htc:((cs.drop off).take (cap*sz)).length=cap*sz:=by simp;omega
 have hK2:(Vw.mk F β s.lv w).iX (Vw.mk F β s.lv w.drew):=Vw.jl (λ_ h=>h) (λ_ _=>rfl) (λ_=>LB.bE _) (λ_ _ _=>rfl) (λ_=>bh _)
 have hal:=hd.alloc (κ:=κ) hκ (arr:=(((arr.toList.drop off).take (cap*sz)).toArray++vs.toArray++Builtin.zeroCells z.cells (grownCap w (cap+m) cap e-(cap+m)))) e (cs:=(cs.drop off).take (cap*sz)++xs)
  (by simp only[ad6,htc,af6,afN,hto];omega) (λj p q=>by
   simp only[ad6]at p
   by_cases hj:j<cap*sz
   ·have e1:(((arr.toList.drop off).take (cap*sz)).toArray++vs.toArray++Builtin.zeroCells z.cells (grownCap w (cap+m) cap e-(cap+m)))[j]=arr[off+j]'(by omega):=by
     rw[afc (by simp;omega),afc (by simp;omega)];simp
    rw[e1,ae5 (by omega)];simp only[agL,af3];exact hK2.cv (g3 _ _ _)
   ·have e1:(((arr.toList.drop off).take (cap*sz)).toArray++vs.toArray++Builtin.zeroCells z.cells (grownCap w (cap+m) cap e-(cap+m)))[j]=vs[j-cap*sz]'(by omega):=by
     rw[afc (by simp;omega),ag0 (by simp;omega)];simp[hto]
    rw[e1,afj (by omega)];simp only[htc];exact hK2.cv (h6 _ _ _))
 refine⟨_,_,_,_,hr,hal,⟨?_,rfl⟩⟩;simp only[Vw.cx,aA];refine⟨_,rfl,grownCap_ge w (cap+m) cap e,?_⟩;have hge:=grownCap_ge w (cap+m) cap e;simp only[cz,heap_alloc,agq,if_true,af6,afN,size_zeroCells,hl',hsize,hzs,hto];rw[<-ad7,<-ad7]
 grind
theorem De{n:Nat}(hd:∀d,o.dst=some d->d<c.n)
 (ho:o.op=.call { callee:=.builtin .append,args:=#[y,x],argTypes:=#[T,T] }) (hκ:s.lv κ=.hole) (hT:eW c.P T=some (e,sz))
 (hi:c.P.info? e=some i) (hz:i.zero=some z) (hy:s.val c.G y=.c (.lsf k off n sz)) (hk:s.lv k=.cells own fz T' cs) (hfull:off+n*sz<=cs.length)
 (hx:fc s.lv sz (s.val c.G x)=some (m,xs)) (hm0:m≠0) (hzs:z.cells.size=sz) (h63:n+m<=9223372036854775807) (hb:(n+m)*i.bytes<=140737488355328) :
 bT c o s (aB.put ⟨s.fr,az s.lv κ (.cells true false e ((cs.drop off).take (n*sz)++xs))⟩ o.dst (.c (.aH κ 0 (n+m) sz))):=
 bT.ef hd λF β a w hs=>by
  obtain⟨v,F',β',w',h1,h2,h3⟩:=hs.Dx (ty:=o.type) hκ hT hi hz hy hk hfull hx hm0 hzs h63 hb;exact⟨v,F',β',w',by simp[execOp,ho,resolve,invoke,builtin,h1],h2,h3⟩
theorem zc(hd:∀d,o.dst=some d->d<c.n)
 (ho:o.op=.call { callee:=.builtin .append,args:=#[y,x],argTypes:=#[T,T] }) (hκ:s.lv κ=.hole) (hy:s.val c.G y=.c (.d .nilsl)) (hT:eW c.P T=some (e,sz))
 (hi:c.P.info? e=some i) (hz:i.zero=some z) (hx:fc s.lv sz (s.val c.G x)=some (m,xs)) (hzs:z.cells.size=sz) (h63:m<=9223372036854775807) (hb:m*i.bytes<=140737488355328) :
 bT c o s (aB.put ⟨s.fr,az s.lv κ (if m=0 then .nils else .cells true false e xs)⟩ o.dst (.c (.aH κ 0 m sz))):=
 bT.ef hd λF β a w hs=>by
  obtain⟨v,F',β',w',h1,h2,h3⟩:=hs.pn (ty:=o.type) hκ hT hi hz hx hzs h63 hb;refine⟨v,F',β',w',?_,h2,h3⟩;have hv:=hy▸hs.val y;obtain⟨hv,_⟩:=hv;obtain⟨u,hu⟩:∃u,a.eval y=u:=⟨_,rfl⟩
  rw[hu]at hv
  cases hv
  simp[execOp,ho,resolve,invoke,builtin,hu,h1]
theorem ze{n:Nat}(hd:∀d,o.dst=some d->d<c.n)
 (ho:o.op=.call { callee:=.builtin .append,args:=#[y,x],argTypes:=#[T,T] }) (hκ:s.lv κ=.hole) (hT:eW c.P T=some (e,sz))
 (hi:c.P.info? e=some i) (hz:i.zero=some z) (hy:s.val c.G y=.c (.aH k 0 n sz)) (hk:s.lv k=.cells own false e cs) (hfull:cs.length=n*sz)
 (hx:fc s.lv sz (s.val c.G x)=some (m,xs)) (hzs:z.cells.size=sz) (h63:n+m<=9223372036854775807) (hb:(n+m)*i.bytes<=140737488355328) :
 bT c o s (aB.put ⟨s.fr,az (az s.lv k .dead) κ (.cells own false e (cs++xs))⟩ o.dst (.c (.aH κ 0 (n+m) sz))):=
 bT.ef hd λF β a w hs=>by
  obtain⟨v,F',β',w',h1,h2,h3⟩:=hs.zb (ty:=o.type) hκ hT hi hz hy hk hfull hx hzs h63 hb;exact⟨v,F',β',w',by simp[execOp,ho,resolve,invoke,builtin,h1],h2,h3⟩
theorem wN(hd:∀d,o.dst=some d->d<c.n)
 (ho:o.op=.call { callee:=.builtin .append,args:=#[y,x],argTypes:=#[T,T] }) (hκ:s.lv κ=.hole) (hT:eW c.P T=some (e,sz))
 (hi:c.P.info? e=some i) (hz:i.zero=some z) (hy:s.val c.G y=.c (.aH k 0 0 sz)) (hk:s.lv k=.nils)
 (hx:fc s.lv sz (s.val c.G x)=some (m,xs)) (hzs:z.cells.size=sz) (h63:m<=9223372036854775807) (hb:m*i.bytes<=140737488355328) :
 bT c o s (aB.put ⟨s.fr,az s.lv κ (if m=0 then .nils else .cells true false e xs)⟩ o.dst (.c (.aH κ 0 m sz))):=
 bT.ef hd λF β a w hs=>by
  obtain⟨v,F',β',w',h1,h2,h3⟩:=hs.pn (ty:=o.type) hκ hT hi hz hx hzs h63 hb;refine⟨v,F',β',w',?_,h2,h3⟩;have hv:=hy▸hs.val y;obtain⟨hv,_⟩:=hv;simp only[Vw.cx,hk]at hv;simp[execOp,ho,resolve,invoke,builtin,hv.1,h1]
end
section
variable {c:Ctx}{F:Nat->Prop}{β:Key->Nat}{s:aB}{a:Act}{w:World}
theorem Fl{α:Type}(off:Nat):∀(vs:List α) (n:Nat) (cells:Array α) (i:Nat),
 ((vs.zipIdx n).foldl (λcs (p:α×Nat)=>cs.setIfInBounds (off+p.2) p.1) cells)[i]? =
  if off+n<=i/\i<off+n+vs.length/\i<cells.size then vs[i-(off+n)]? else cells[i]?
 |[],n,cells,i=>by
  rw[if_neg (by simp;omega)];rfl
 |v::vs,n,cells,i=>by
  rw[List.zipIdx_cons,afO,Fl off vs (n+1)]
  grind
theorem Fc(off:Nat)(vs cells:Array α)(h:off+vs.size<=cells.size):
 vs.zipIdx.foldl (λcs (p:α×Nat)=>cs.setIfInBounds (off+p.2) p.1) cells=(ai cells.toList off vs.toList).toArray:=by
 apply Array.ext_getElem?;intro i;rw[<-Array.foldl_toList,Array.toList_zipIdx,Fl];have hle:off+vs.toList.length<=cells.toList.length:=by simpa using h
 have hlen:=c9 cells.toList off vs.toList hle
 have hR:(ai cells.toList off vs.toList).toArray[i]?=if off<=i/\i<off+vs.size/\i<cells.size then vs.toList[i-off]? else cells[i]?:=by
  rw[List.getElem?_toArray]
  by_cases hi:i<cells.size
  ·have hi':i<(ai cells.toList off vs.toList).length:=by rw[hlen];simpa using hi
   rw[fy hi',eO _ _ _ hle]
   grind
  ·grind
 grind
def kE(place:Nat->Option (Nat×Nat))(cells:List CV):List (Nat×AV)->Option (List CV)
 |[]=>some cells
 |(i,v)::rest=>
  match place i,v.cells with
  |some (off,size),some cs=>if cs.length=size/\off+size<=cells.length then kE place (ai cells off cs) rest else none
  |_,_=>none
theorem CE{V:Vw}{place:Nat->Option (Nat×Nat)}:∀{parts:List (Nat×AV)}{vparts:List (Nat×Value)}{cells cells':List CV}{arr:Array Value},
 kE place cells parts=some cells'->vparts.map (·.1)=parts.map (·.1)->(∀i (h:i<parts.length) (h':i<vparts.length),V.av vparts[i].2 parts[i].2) ->
 arr.size=cells.length->(∀i (h:i<cells.length) (h':i<arr.size),V.cv arr[i] cells[i]) ->
 ∃arr',Instr.fill place arr vparts=some arr'/\arr'.size=cells'.length/\(∀i (h:i<cells'.length) (h':i<arr'.size),V.cv arr'[i] cells'[i])
 |[],vparts,cells,cells',arr,h,hi,_,h1,h2=>by
  simp only[kE,ah]at h;subst h
  cases vparts with
  |nil=>exact⟨arr,rfl,h1,h2⟩
  |cons x y=>simp at hi
 |(i,v)::rest,[],cells,cells',arr,h,hi,_,h1,h2=>by simp at hi
 |(i,v)::rest,(j,u)::vrest,cells,cells',arr,h,hi,hv,h1,h2=>by
  simp only[kE]at h;split at h
  ·rename_i off size cs hp hcs
   split at h
   ·rename_i hc
    simp only[adK,ad8]at hi;obtain⟨rfl,hi⟩:=hi;have hu:V.av u v:=hv 0 (by simp) (by simp);obtain⟨h3,h4⟩:=Vw.kU hu hcs;have hle:off+cs.length<=cells.length:=by omega
    have hle':off+u.cells.toList.length<=arr.toList.length:=by simp;omega
    have hf:Instr.fill place arr ((j,u)::vrest)=Instr.fill place (ai arr.toList off u.cells.toList).toArray vrest:=by
     simp only[Instr.fill,hp];rw[if_neg (by simp;omega),<-Fc off u.cells arr (by omega)]
    rw[hf];refine CE h hi (λk p q=>hv (k+1) (by grind) (by grind)) ?_ ?_
    ·rw[c9 _ _ _ hle];simp[c9 _ _ _ hle',h1]
    ·intro k p q;simp only[af4];rw[eO _ _ _ hle' k (by omega),eO _ _ _ hle k p]
     grind
   grind
  grind
def tJ(P:Program)(t:TypeId):Option (Nat->Option (Nat×Nat)):=
 match P.underlying t with
 |some (.array _ e)=>match P.info? e with|some ie=>some (λi=>some (i*ie.size,ie.size))|none=>none
 |some (.struct fields)=>match fields.toList.mapM (λf=>(P.info? f.type).map λi=>(f.offset,i.size))with
  |some places=>some (places.toArray[·]?)
  |none=>none
 |_=>none
theorem KW{place:Nat->Option (Nat×Nat)}(hd:∀d,o.dst=some d->d<c.n)(ho:o.op=.build T parts)
 (hz:(c.P.info? T).bind (·.zero)=some z) (hzs:(uu z).cells=some zs) (hp:tJ c.P T=some place)
 (hf:kE place zs (parts.toList.map λp=>(p.1,s.val c.G p.2))=some cs):bT c o s (s.put o.dst (.agg cs)):=
 bT.aX hd λF β a w hs=>by
  obtain⟨it,hit,hz⟩:=Option.bind_eq_some_iff.1 hz;obtain⟨h1,h2⟩:=Vw.kU (vI (Vw.mk F β s.lv w) z) hzs;obtain⟨arr,h3,h4,h5⟩:=CE (V:=Vw.mk F β s.lv w) (vparts:=parts.toList.map λp=>(p.1,a.eval p.2)) hf (by simp) (λi p q=>by simp only[ab5];exact hs.val _) h1 h2;refine⟨.agg arr,?_,arr,rfl,h4,h5⟩
  have hb:c.P.built T (parts.map λ(i,x)=>(i,a.eval x)).toList=some arr:=by
   unfold Program.built;unfold tJ at hp;have e1:(parts.map λ(i,x)=>(i,a.eval x)).toList=parts.toList.map λp=>(p.1,a.eval p.2):=by simp
   rw[e1]
   cases hu:c.P.underlying T with
   |none=>grind
   |some d=>
    grind
  simp only[execOp,ho,mT,run_build w T _ arr hb,sr];rfl
theorem yP{n:Nat}(hd:∀d,o.dst=some d->d<c.n)(ho:o.op=.buildSlice T n parts)
 (hκ:s.lv κ=.hole) (hT:eW c.P T=some (e,sz)) (hz:(c.P.info? e).bind (·.zero)=some z) (hzs:(uu z).cells=some zs) (hsz:zs.length=sz) (hpos:0<sz) (hn:n*sz<=16777216)
 (hf:kE (λi=>some (i*sz,sz)) (ja n zs) (parts.toList.map λp=>(p.1,s.val c.G p.2))=some cs) :
 bT c o s (aB.put ⟨s.fr,az s.lv κ (.cells true false e cs)⟩ o.dst (.c (.aH κ 0 n sz))):=
 bT.ef hd λF β a w hs=>by
  obtain⟨it,hit,hz⟩:=Option.bind_eq_some_iff.1 hz;obtain⟨hu,hie,hsz'⟩:=cN hT;obtain⟨h1,h2⟩:=Vw.kU (vI (Vw.mk F β s.lv w) z) hzs;have hzl:z.cells.size=sz:=by omega
  obtain⟨arr,h3,h4,h5⟩:=CE (V:=Vw.mk F β s.lv w) (vparts:=parts.toList.map λp=>(p.1,a.eval p.2)) (arr:=(Array.range (n*sz)).map (z.cells[· % z.cells.size]!)) hf (by simp) (λi p q=>by simp only[ab5];exact hs.val _)
   (by rw[pL,hsz];simp) (λj p q=>by
    have hm:j%zs.length<zs.length:=adZ _ (by omega);rw[Gi _ _ _ p hm]
    grind)
  have hcl:cs.length=n*sz:=by
   have:∀(parts:List (Nat×AV)) (cells cells':List CV),kE (λi=>some (i*sz,sz)) cells parts=some cells'->cells'.length=cells.length:=by
    intro parts
    induction parts with
    |nil=>intro cells cells' h;simp only[kE,ah]at h;rw[h]
    |cons p rest ih=>
     intro cells cells' h;obtain⟨i,v⟩:=p;simp only[kE]at h;split at h
     ·rename_i off size cs' hp hcs
      split at h
      ·rename_i hc
       rw[ih _ _ h,c9 _ _ _ (by omega)]
      grind
     grind
   rw[this _ _ _ hf,pL,hsz]
  refine⟨.slice (some ⟨w.heap.size,0,none⟩) n n,F,az β κ w.heap.size,w.alloc (.cells arr e),?_,hs.alloc hκ e (by omega) h5,⟨?_,rfl⟩⟩
  ·have e1:(parts.map λ(i,x)=>(i,a.eval x)).toList=parts.toList.map λp=>(p.1,a.eval p.2):=by simp
   have hni:¬(n*sz > 2^24):=by omega
   have harr:Instr.fill (λi=>some (i*sz,sz)) ((Array.range (n*sz)).map ((if n*sz=0 then #[]else z.cells)[· % (if n*sz=0 then(#[]:Array Value)else z.cells).size]!)) (parts.toList.map λp=>(p.1,a.eval p.2))=some arr:=by
    by_cases h0:n*sz=0
    ·rw[h0]at h3 ⊢;simp only[Array.range_zero',Array.map_empty]at h3 ⊢;exact h3
    ·rw[if_neg h0];exact h3
   by_cases h0:n*sz=0
   ·simp only[if_pos h0]at harr;simp only[execOp,ho,Instr.buildSlice,mT,run_underlying hu,sr,run_sizeOf hie,hsz',if_neg hni,if_pos h0,aer,e1];rw[harr];rfl
   ·simp only[if_neg h0]at harr;have hzv:(zeroValue e).run c.P w=.ok z w:=by simp[zeroValue,typeInfo,hit,hz]
    simp only[execOp,ho,Instr.buildSlice,mT,run_underlying hu,sr,run_sizeOf hie,hsz',if_neg hni,if_neg h0,aer,hzv,e1];rw[harr];rfl
  ·simp only[Vw.cx,aA];refine⟨n,rfl,bh _,?_⟩;simp only[cz,heap_alloc,if_true];omega
end
section
variable {c:Ctx}{F:Nat->Prop}{β:Key->Nat}{s:aB}{a:Act}{w:World}
def unA(op:UnOp)(d:DV):Option DV:=
 match op,d with
 |.not,.bool b=>some (.bool !b)
 |.neg,.int k n=>some (.int k (k.wrap (0-n)))
 |_,_=>none
theorem NL{op:UnOp}{d':DV}(hd:∀d,o.dst=some d->d<c.n)(ho:o.op=.unOp op T x)
 (hx:s.val c.G x=.c (.d d)) (hr:unA op d=some d'):bT c o s (s.put o.dst (.c (.d d'))):=
 bT.aX hd λF β a w hs=>by
  have h1:=hx▸hs.val x;unfold unA at hr;split at hr
  ·simp only[ah]at hr;subst hr;exact⟨_,by simp only[execOp,ho,Vw.sw h1,Op.unary];rfl,Vw.ob _ _⟩
  ·simp only[ah]at hr;subst hr;exact⟨_,by simp only[execOp,ho,Vw.eV h1,Op.unary,Op.intArith];rfl,Vw.mI _ _ _ (wrap_wrap _ _)⟩
  grind
def ru(P:Program)(T:TypeId):Option IntKind:=match P.underlying T with|some (.int k)=>some k|_=>none
theorem A5{k:IntKind}(h:ru P T=some k):P.underlying T=some (.int k):=by
 unfold ru at h
 grind
theorem CY{k:IntKind}(hd:∀d,o.dst=some d->d<c.n)(ho:o.op=.convert S T x)
 (hx:s.val c.G x=.c (.d (.int k n))) (hS:(ru c.P S).isSome=true) (hT:ru c.P T=some k'):bT c o s (s.put o.dst (.c (.d (.int k' (k'.wrap n))))):=
 bT.aX hd λF β a w hs=>by
  have h1:=Vw.eV (hx▸hs.val x);obtain⟨ks,hS⟩:=Option.isSome_iff_exists.1 hS;refine⟨.int k' (k'.wrap n),?_,Vw.mI _ _ _ (wrap_wrap _ _)⟩;simp only[execOp,ho,h1,convert,mT,run_underlying (A5 hS),run_underlying (A5 hT),sr,Conv.intToInt];rfl
theorem B4{l:List UInt8}(hd:∀d,o.dst=some d->d<c.n)(ho:o.op=.convert S T x)
 (hx:s.val c.G x=.c (.d (.str l))) (hS:cP c.P S=true) (hT:cP c.P T=true):bT c o s (s.put o.dst (.c (.d (.str l)))):=
 bT.aX hd λF β a w hs=>by
  have h1:=Vw.kB (hx▸hs.val x);refine⟨.string ⟨l.toArray⟩,?_,Vw.oY _ _ (Vw.CW (hx▸hs.val x))⟩;simp only[execOp,ho,h1,convert,mT,run_underlying (gb hS),run_underlying (gb hT),sr];rfl
def tn:List CV->Option (List DV)
 |[]=>some []
 |.d x::r=>(tn r).map (x::·)
 |_=>none
theorem A0:∀{cs:List CV}{ds:List DV},tn cs=some ds->cs=ds.map CV.d
 |[],ds,h=>by simp only[tn,ah]at h;grind
 |.d x::r,ds,h=>by
  simp only[tn]at h
  cases e:tn r with
  |none=>grind
  |some l=>rw[e]at h;simp only[aeJ,ah]at h;subst h;rw[A0 e];rfl
 |.ptr ..::r,ds,h=>by cases h
 |.aH ..::r,ds,h=>by cases h
 |.mapr ..::r,ds,h=>by cases h
 |.lsf ..::r,ds,h=>by cases h
 |.func ..::r,ds,h=>by cases h
 |.junk::r,ds,h=>by cases h
 |.ifc ..::r,ds,h=>by cases h
def oh:AV->Option DV
 |.c (.d x)=>some x
 |.agg cs=>(tn cs).map .agg
 |_=>none
theorem Vw.deep{x:AV}(h:V.av v x)(hd:oh x=some d):Rd V.mem v d:=by
 cases x with
 |c y=>
  cases y<;>simp only[oh,ah,reduceCtorEq]at hd
  subst hd;exact h.1
 |agg cs=>
  simp only[oh]at hd
  cases e:tn cs with
  |none=>grind
  |some ds=>
   rw[e]at hd;simp only[aeJ,ah]at hd;subst hd;have:=A0 e;subst this;obtain⟨arr,rfl,h1,h2⟩:=h;simp only[ab0]at h1;refine .agg arr ds h1 (λi hi=>Vw.fN (h2 i (by simp;omega) hi)) (λi hi=>?_);have:=h2 i (by grind) (by omega);simp only[ab5]at this;exact this.1
 |tup l=>cases hd
 |undef=>cases hd
 |junk=>cases hd
theorem DW(hd:∀d,o.dst=some d->d<c.n)(ho:o.op=.makeInterface T x)
 (hx:oh (s.val c.G x)=some d) (hT:c.P.concrete T=true):bT c o s (s.put o.dst (.c (.d (.iface T d)))):=
 bT.aX hd λF β a w hs=>by
  have h1:=Vw.deep (hs.val x) hx;exact⟨.iface T (a.eval x),by simp only[execOp,ho,mT,run_makeInterface w T _ hT,sr];rfl,.iface _ _ _ h1,rfl⟩
def ng:CV->Option jd
 |.d x=>some (.d x)
 |.ptr k o=>some (.ptr k o)
 |.aH k o l z=>some (.aH k o l z)
 |_=>none
def EI:List CV->Option (List jd)
 |[]=>some []
 |x::r=>match ng x,EI r with|some y,some l=>some (y::l)|_,_=>none
theorem Vw.SO{x:CV}{r:jd}(h:V.cv v x)(hr:Am.ng x=some r):V.ng v r:=by
 cases x<;>simp only[Am.ng,ah,reduceCtorEq]at hr
 all_goals subst hr
 all_goals exact h
theorem Bk:∀{xs:List CV}{rs:List jd},EI xs=some rs->rs.length=xs.length/\∀i (h:i<rs.length) (h':i<xs.length),ng xs[i]=some rs[i]
 |[],rs,h=>by simp only[EI,ah]at h;grind
 |x::xs,rs,h=>by
  simp only[EI]at h;split at h
  ·rename_i y l hy hl
   simp only[ah]at h;subst h;obtain⟨h1,h2⟩:=Bk hl
   grind
  grind
def yf:AV->Option Ref
 |.c (.d x)=>some (.d x)
 |.c (.ptr k o)=>some (.ptr k o)
 |.c (.aH k o l z)=>some (.aH k o l z)
 |.c (.ifc t x)=>some (.ifc t x)
 |.agg cs=>match tn cs with|some l=>some (.d (.agg l))|none=>(EI cs).map .agg
 |_=>none
theorem Vw.yf{x:AV}{r:Ref}(h:V.av v x)(hr:Am.yf x=some r):V.ref v r:=by
 cases x with
 |c y=>
  cases y<;>simp only[Am.yf,ah,reduceCtorEq]at hr
  all_goals subst hr
  ·exact h.1
  ·exact h
  ·exact h
  ·exact h
 |agg cs=>
  simp only[Am.yf]at hr
  cases e:tn cs with
  |none=>
   rw[e]at hr;simp only[aek]at hr;obtain⟨rs,h1,rfl⟩:=hr;obtain⟨arr,rfl,h2,h3⟩:=h;obtain⟨h4,h5⟩:=Bk h1;exact⟨arr,rfl,by omega,λi p q=>Vw.SO (h3 i (by omega) q) (h5 i p (by omega))⟩
  |some ds=>
   rw[e]at hr;simp only[ah]at hr;subst hr;exact Vw.deep (x:=.agg cs) h (by simp[oh,e])
 |tup l=>cases hr
 |undef=>cases hr
 |junk=>cases hr
def uL:List AV->Option (List Ref)
 |[]=>some []
 |x::r=>match yf x,uL r with|some y,some l=>some (y::l)|_,_=>none
theorem yW{V:Vw}:∀{vs:List Value}{xs:List AV}{rs:List Ref},uL xs=some rs->vs.length=xs.length ->
 (∀i (h:i<xs.length) (h':i<vs.length),V.av vs[i] xs[i])->rs.length=vs.length/\∀i (h:i<rs.length) (h':i<vs.length),V.ref vs[i] rs[i]
 |[],[],rs,h,_,_=>by simp only[uL,ah]at h;grind
 |[],x::xs,rs,_,hl,_=>by simp at hl
 |v::vs,[],rs,_,hl,_=>by simp at hl
 |v::vs,x::xs,rs,h,hl,hv=>by
  simp only[uL]at h;split at h
  ·rename_i y l hy hl'
   simp only[ah]at h;subst h;obtain⟨h1,h2⟩:=yW hl' (by grind) (λi p q=>hv (i+1) (by grind) (by grind));refine⟨by simp[h1],λi p q=>?_⟩
   cases i with
   |zero=>exact Vw.yf (hv 0 (by simp) (by simp)) hy
   |succ i=>grind
  grind
def jh:List Ref->Option (List DV)
 |[]=>some []
 |.d x::r=>(jh r).map (x::·)
 |_=>none
theorem nQ:∀{rs:List Ref}{ds:List DV},jh rs=some ds->rs=ds.map Ref.d
 |[],ds,h=>by simp only[jh,ah]at h;grind
 |.d x::r,ds,h=>by
  simp only[jh]at h
  cases e:jh r with
  |none=>grind
  |some l=>rw[e]at h;simp only[aeJ,ah]at h;subst h;rw[nQ e];rfl
 |.ptr ..::r,ds,h=>by cases h
 |.aH ..::r,ds,h=>by cases h
 |.agg ..::r,ds,h=>by cases h
 |.ifc ..::r,ds,h=>by cases h
def AF(fn:Fn)(fs cs:List Ref):CV:=
 match jh fs,jh cs with
 |some fd,some cd=>.d (.func fn fd cd)
 |_,_=>.func fn fs cs
theorem Vw.AF{fs cs:Array Value}(h1:fs.size=fr.length)(h2:cs.size=cr.length)
 (h3:∀i (h:i<fr.length) (h':i<fs.size),V.ref fs[i] fr[i]) (h4:∀i (h:i<cr.length) (h':i<cs.size),V.ref cs[i] cr[i]) :
 V.cv (.func fn fs cs) (Am.AF fn fr cr):=by
 unfold Am.AF;split
 ·rename_i fd cd hf hc
  have:=nQ hf;subst this;have:=nQ hc;subst this;simp only[ab0]at h1 h2;refine⟨.func fn fs cs fd cd h1 h2 (λi hi=>?_) (λi hi=>?_),rfl⟩
  ·have:=h3 i (by grind) (by omega);simp only[ab5]at this;exact this
  ·have:=h4 i (by grind) (by omega);simp only[ab5]at this;exact this
 ·exact⟨fs,cs,rfl,h1,h2,h3,h4⟩
theorem Hh{first caps:Array Operand}(hd:∀d,o.dst=some d->d<c.n)(ho:o.op=.makeFunc fn first caps)
 (hf:uL (first.toList.map (s.val c.G))=some fr) (hc:uL (caps.toList.map (s.val c.G))=some cr):bT c o s (s.put o.dst (.c (AF fn fr cr))):=
 bT.aX hd λF β a w hs=>by
  obtain⟨h1,h2⟩:=yW (V:=Vw.mk F β s.lv w) (vs:=first.toList.map a.eval) hf (by simp) (λi p q=>by simp only[ab5];exact hs.val _);obtain⟨h3,h4⟩:=yW (V:=Vw.mk F β s.lv w) (vs:=caps.toList.map a.eval) hc (by simp) (λi p q=>by simp only[ab5];exact hs.val _);refine⟨.func fn (first.map a.eval) (caps.map a.eval),by simp[execOp,ho,Instr.makeFunc],?_⟩;refine Vw.AF (by grind) (by grind) (λi p q=>?_) (λi p q=>?_)
  ·grind
  grind
def KI(P:Program):Nat->TypeId->AV->AV->Option Bool
 |0,_,_,_=>none
 |d+1,t,x,y=>
  match P.underlying t,x,y with
  |some .bool,.c (.d (.bool a)),.c (.d (.bool b))=>some (a == b)
  |some (.int _),.c (.d (.int k a)),.c (.d (.int k' b))=>if k=k' then some (a == b)else none
  |some .string,.c (.d (.str a)),.c (.d (.str b))=>some (a == b)
  |some (.pointer _),.c (.d .nilp),.c (.d .nilp)=>some true
  |some (.pointer _),.c (.d .nilp),.c (.d (.ptr _))=>some false
  |some (.pointer _),.c (.d (.ptr _)),.c (.d .nilp)=>some false
  |some (.slice _),.c (.d .nilsl),.c (.d .nilsl)=>some true
  |some (.slice _),.c (.d .nilsl),.c (.d (.sl _))=>some false
  |some (.slice _),.c (.d (.sl _)),.c (.d .nilsl)=>some false
  |some (.interface _),.c (.d .nilIface),.c (.d (.iface _ _))=>some false
  |some (.interface _),.c (.d (.iface _ _)),.c (.d .nilIface)=>some false
  |some (.struct fields),.agg xs,.agg ys=>if P.stoodInHeld t then none else
   fields.toList.foldr (λf r=>if f.name ≠ "_" then(match ou P f.type xs f.offset,ou P f.type ys f.offset with
    |some u,some v=>match KI P d f.type u v,r with|some b,some r=>some (b&&r)|_,_=>none
    |_,_=>none)else r) (some true)
  |_,_,_=>none
theorem Cm{P:Program}(V:Vw):∀(d:Nat) (t:TypeId) (x y:AV) (b:Bool),KI P d t x y=some b->∀(u v:Value),V.av u x->V.av v y->∀n,d<=n ->
 (Op.equalIn n t u v).run P V.w=.ok b V.w
 |0,_,_,_,_,h=>by cases h
 |d+1,t,x,y,b,h=>by
  intro u v hu hv n hn;obtain⟨m,rfl⟩:∃m,n=m+1:=⟨n-1,by omega⟩
  unfold KI at h;split at h
  ·rename_i hT
   simp only[ah]at h;subst h;rw[Vw.sw hu,Vw.sw hv];exact run_equalIn_bool' V.w m t _ _ hT
  ·rename_i hT
   split at h
   ·rename_i hk;subst hk
    simp only[ah]at h;subst h;rw[Vw.eV hu,Vw.eV hv];exact run_equalIn_int V.w m t _ _ _ _ hT
   grind
  ·rename_i hT
   simp only[ah]at h;subst h;rw[Vw.kB hu,Vw.kB hv,run_equalIn_string V.w m t _ _ hT,toList_mk,toList_mk]
  ·rename_i hT;simp only[ah]at h;subst h
   obtain⟨hu,_⟩:=hu;obtain⟨hv,_⟩:=hv;cases hu<;>cases hv<;>simp[Op.equalIn,run_underlying hT]
  ·rename_i hT;simp only[ah]at h;subst h
   obtain⟨hu,_⟩:=hu;obtain⟨hv,_⟩:=hv;cases hu<;>cases hv<;>simp[Op.equalIn,run_underlying hT]
  ·rename_i hT;simp only[ah]at h;subst h
   obtain⟨hu,_⟩:=hu;obtain⟨hv,_⟩:=hv;cases hu<;>cases hv<;>simp[Op.equalIn,run_underlying hT]
  ·rename_i hT;simp only[ah]at h;subst h
   obtain⟨hu,_⟩:=hu;obtain⟨hv,_⟩:=hv;cases hu<;>cases hv<;>simp[Op.equalIn,run_underlying hT]
  ·rename_i hT;simp only[ah]at h;subst h
   obtain⟨hu,_⟩:=hu;obtain⟨hv,_⟩:=hv;cases hu<;>cases hv<;>simp[Op.equalIn,run_underlying hT]
  ·rename_i hT;simp only[ah]at h;subst h
   obtain⟨hu,_⟩:=hu;obtain⟨hv,_⟩:=hv;cases hu<;>cases hv<;>simp[Op.equalIn,run_underlying hT]
  ·rename_i hT;simp only[ah]at h;subst h
   obtain⟨hu,_⟩:=hu;obtain⟨hv,_⟩:=hv;cases hu<;>cases hv<;>simp[Op.equalIn,run_underlying hT]
  ·rename_i hT;simp only[ah]at h;subst h
   obtain⟨hu,_⟩:=hu;obtain⟨hv,_⟩:=hv;cases hu<;>cases hv<;>simp[Op.equalIn,run_underlying hT]
  ·rename_i fields xs ys hT
   split at h
   ·cases h
   ·rename_i hst
    obtain⟨ax,rfl,hx1,hx2⟩:=hu;obtain⟨ay,rfl,hy1,hy2⟩:=hv;have hfo:P.fieldsOf t=fields:=by simp[Program.fieldsOf,hT]
    rw[run_equalIn_struct V.w m t ax ay (by grind) (by grind),hfo];clear hT hfo;generalize fields.toList=fs at h
    induction fs generalizing b with
    |nil=>simp only[List.foldr_nil,ah]at h;subst h;rfl
    |cons f fs ih=>
     simp only[List.foldr_cons]at h;simp only[Op.eqFields];split at h
     ·rename_i hnm
      rw[if_pos hnm];split at h
      ·rename_i p q hp hq
       split at h
       ·rename_i b1 r1 he hr
        simp only[ah]at h;subst h;obtain⟨v1,e1,e2⟩:=tH V hp ax hx1 hx2;obtain⟨v2,e3,e4⟩:=tH V hq ay hy1 hy2;have e5:=Cm V d f.type p q b1 he v1 v2 e2 e4 m (by omega);simp only[mT,e1,e3,e5,sr]
        cases b1 with
        |false=>simp
        |true=>grind
       grind
      grind
     grind
  grind
theorem MK{T0:TypeId}{n:Nat}(hd:∀d,o.dst=some d->d<c.n)(ho:o.op=.call { callee:=.builtin .copy,args:=#[y,x],argTypes:=#[T,T'] })
 (hy:s.val c.G y=.c (.aH k off n 1)) (hk:s.lv k=.cells own false T0 cs) (hT:eW c.P T=some (e,1)) (hx:fc s.lv 1 (s.val c.G x)=some (m,xs)) (hm:0<m) (hoff:off+min m n<=cs.length) (hn:n<=9223372036854775807) :
 bT c o s (aB.put ⟨s.fr,az s.lv k (.cells own false T0 (ai cs off (xs.take (min m n))))⟩ o.dst (.c (.d (.int .i64 ((min m n:Nat):Int))))):=
 bT.ef hd λF β a w hs=>by
  have h1:=hy▸hs.val y;obtain⟨h1,_⟩:=h1;simp only[Vw.cx,hk]at h1;obtain⟨cap,h1,_,_⟩:=h1;have hb:=hs.bK k;unfold Vw.bK at hb;simp only[hk]at hb;obtain⟨arr,h2,h3,h4,_⟩:=hb;obtain⟨hu,hie,hsz⟩:=cN hT;obtain⟨hl,ao,scap,hsx,hnone,hspot,vs,hvl,hvc,hvr⟩:=hs.src hx
  cases ao with
  |none=>grind
  |some ad=>
   have hlen:(vs.take (min m n)).length=min m n:=by rw[aej,hvl,hl];omega
   have hone:∀v∈vs.take (min m n),v.oneCell'=true:=by
    intro v hv;obtain⟨i,hi,rfl⟩:=List.mem_iff_getElem.1 (afK hv);exact Vw.fN (hvr i (by omega) hi)
   have hs1:(c.P.info? e).map (·.size)=some 1:=by
    obtain⟨i,hi⟩:=Option.isSome_iff_exists.1 hie;rw[hi];simp[jf,hi]at hsz;simp[hsz]
   have hrun:=run_copy_row c.P w T T' o.type e (β k) off n cap ad m scap arr T0 (vs.take (min m n)) hu hs1 h2 hlen
    (λj v hj=>hvc ad rfl j v (by grind)) (by omega) hone
   have hset:arr.toList.take off++vs.take (min m n)++arr.toList.drop (off+(vs.take (min m n)).length)=ai arr.toList off (vs.take (min m n)):=rfl;have hle:off+(vs.take (min m n)).length<=arr.toList.length:=by rw[hlen,afJ];omega
   have hxl:(xs.take (min m n)).length=min m n:=by rw[aej,hl];omega
   have hle2:off+(xs.take (min m n)).length<=cs.length:=by rw[hxl];omega
   refine⟨.int .i64 ((min m n:Nat):Int),F,β,_,?_,hs.setRow (arr:=(ai arr.toList off (vs.take (min m n))).toArray) hk h2 (by grind) (by rw[c9 _ _ _ hle2];grind) ?_,?_⟩
   ·rw[hlen]at hrun;simp[execOp,ho,resolve,invoke,builtin,h1,hsx,hrun,goInt,ai,hlen]
   ·intro i p q;simp only[af4];rw[eO _ _ _ hle i (by omega),eO _ _ _ hle2 i p]
    grind
   ·exact Vw.mI _ _ _ (cj (by simp only[wG,og];omega))
end
def jd.bY(g:Key->Key):jd->jd
 |.d x=>.d x
 |.ptr k o=>.ptr (g k) o
 |.aH k o l z=>.aH (g k) o l z
def Ref.bY(g:Key->Key):Ref->Ref
 |.d x=>.d x
 |.ptr k o=>.ptr (g k) o
 |.aH k o l z=>.aH (g k) o l z
 |.agg cs=>.agg (cs.map (jd.bY g))
 |.ifc t x=>.ifc t (x.bY g)
def CV.bY(g:Key->Key):CV->CV
 |.d x=>.d x
 |.ptr k o=>.ptr (g k) o
 |.aH k o l z=>.aH (g k) o l z
 |.mapr k=>.mapr (g k)
 |.lsf k o l z=>.lsf (g k) o l z
 |.func fn f c=>.func fn (f.map (Ref.bY g)) (c.map (Ref.bY g))
 |.ifc t x=>.ifc t (x.bY g)
 |.junk=>.junk
def AV.mD(g:Key->Key):AV->AV
 |.c x=>.c (x.bY g)
 |.agg cs=>.agg (cs.map (CV.bY g))
 |.tup _=>.junk
 |.undef=>.undef
 |.junk=>.junk
def AV.bY(g:Key->Key):AV->AV
 |.tup l=>.tup (l.map (AV.mD g))
 |x=>x.mD g
def LB.Ay(x y:LB):Prop:=
 match x,y with
 |.hole,.hole=>True
 |_,.dead=>x≠.hole
 |.nils,.nils=>True
 |.cells ..,.cells ..=>True
 |.map ..,.map ..=>True
 |_,_=>False
structure Vw.Ren(V V2:Vw)(g:Key->Key):Prop where
 F:V2.F=V.F
 w:V2.w=V.w
 β:∀k,V2.lv k≠.hole->V2.β k=V.β (g k)
 Ay:∀k,(V.lv (g k)).Ay (V2.lv k)
section
variable {V V2:Vw}{g:Key->Key}
theorem Vw.Ren.mem(h:V.Ren V2 g):V2.mem=V.mem:=by
 unfold Vw.mem;rw[h.F,h.w]
theorem Vw.Ren.ptr(h:V.Ren V2 g)(hv:V.dn v (g k) off):V2.dn v k off:=by
 have h1:=h.Ay k;have h2:=h.β k;unfold Vw.dn at *
 cases e:V.lv (g k)<;>cases e':V2.lv k<;>simp[e,e',LB.Ay]at h1 h2 hv ⊢<;>(try rw[h2])<;>assumption
theorem Vw.Ren.aH(h:V.Ren V2 g)(hv:V.cx v (g k) off len sz):V2.cx v k off len sz:=by
 have h1:=h.Ay k;have h2:=h.β k;unfold Vw.cx at *
 rw[h.w]
 cases e:V.lv (g k)<;>cases e':V2.lv k<;>simp[e,e',LB.Ay]at h1 h2 hv ⊢<;>(try rw[h2])<;>assumption
theorem Vw.Ren.map(h:V.Ren V2 g)(hv:V.lM v (g k)):V2.lM v k:=by
 have h1:=h.Ay k;have h2:=h.β k;unfold Vw.lM at *
 cases e:V.lv (g k)<;>cases e':V2.lv k<;>simp[e,e',LB.Ay]at h1 h2 hv ⊢<;>(try rw[h2])<;>assumption
theorem Vw.Ren.ng(h:V.Ren V2 g){x:jd}(hv:V.ng v (x.bY g)):V2.ng v x:=by
 cases x with
 |d x=>exact⟨by rw[h.mem];exact hv.1,hv.2⟩
 |ptr k off=>exact⟨h.ptr hv.1,hv.2⟩
 |aH k off len sz=>exact⟨h.aH hv.1,hv.2⟩
theorem Vw.Ren.ref(h:V.Ren V2 g){x:Ref}(hv:V.ref v (x.bY g)):V2.ref v x:=by
 induction x generalizing v with
 |d x=>show Rd V2.mem v x;rw[h.mem];exact hv
 |ptr k off=>exact⟨h.ptr hv.1,hv.2⟩
 |aH k off len sz=>exact⟨h.aH hv.1,hv.2⟩
 |agg cs=>
  obtain⟨arr,rfl,h1,h2⟩:=hv;refine⟨arr,rfl,by grind,λi a b=>?_⟩;have:=h2 i (by omega) b;simp only[ab5]at this;exact h.ng this
 |ifc t x ih=>obtain⟨v',rfl,h1⟩:=hv;exact⟨v',rfl,ih h1⟩
theorem Vw.Ren.cv(h:V.Ren V2 g){x:CV}(hv:V.cv v (x.bY g)):V2.cv v x:=by
 cases x with
 |d x=>exact⟨by rw[h.mem];exact hv.1,hv.2⟩
 |ptr k off=>exact⟨h.ptr hv.1,hv.2⟩
 |aH k off len sz=>exact⟨h.aH hv.1,hv.2⟩
 |mapr k=>exact⟨h.map hv.1,hv.2⟩
 |lsf k off len sz=>exact⟨⟨h.aH hv.1.1,hv.1.2⟩,hv.2⟩
 |func fn f c=>
  obtain⟨fs,cs,rfl,h1,h2,h3,h4⟩:=hv;simp only[ab0]at h1 h2;refine⟨fs,cs,rfl,h1,h2,λi a b=>h.ref ?_,λi a b=>h.ref ?_⟩
  ·grind
  grind
 |ifc t x=>
  obtain⟨v',rfl,h1⟩:=hv;exact⟨v',rfl,h.ref h1⟩
 |junk=>exact hv
theorem Vw.Ren.oq(h:V.Ren V2 g){x:AV}(hv:V.oq v (x.mD g)):V2.oq v x\/∃l,x=.tup l:=by
 cases x with
 |c x=>exact .inl (h.cv (x:=x) hv)
 |agg cs=>
  obtain⟨arr,rfl,h1,h2⟩:=hv;simp only[ab0]at h1;refine .inl ⟨arr,rfl,h1,λi a b=>h.cv ?_⟩
  grind
 |tup l=>simp
 |undef=>exact .inl hv
 |junk=>exact .inl trivial
def AV.bX:AV->Bool
 |.tup l=>l.all λx=>match x with|.tup _=>false|_=>true
 |_=>true
theorem Vw.Ren.av(h:V.Ren V2 g){x:AV}(hx:x.bX=true)(hv:V.av v (x.bY g)):V2.av v x:=by
 cases x with
 |tup l=>
  obtain⟨arr,rfl,h1,h2⟩:=hv;simp only[ab0]at h1;refine⟨arr,rfl,h1,λi a b=>?_⟩;have h3:=h2 i (by grind) b;simp only[ab5]at h3;rcases h.oq h3 with h4|⟨l',h4⟩
  ·exact h4
  ·simp only[AV.bX,adV]at hx;have:=hx _ (aT a)
   grind
 |c x=>
  rcases h.oq (x:=.c x) hv with h|⟨l,h⟩
  ·exact h
  grind
 |agg cs=>
  rcases h.oq (x:=.agg cs) hv with h|⟨l,h⟩
  ·exact h
  grind
 |undef=>exact hv
 |junk=>trivial
end
def LB.bY(g:Key->Key):LB->LB
 |.cells own fz T cs=>.cells own fz T (cs.map (CV.bY g))
 |.map own es=>.map own (es.map λp=>(p.1,p.2.mD g))
 |x=>x
def LB.as(x y:LB)(g:Key->Key):Prop:=
 match y with
 |.hole=>x=.hole
 |.dead=>x≠.hole
 |.nils=>x=.nils
 |.cells own fz T cs=>∃own' cs',x=.cells own' fz T cs'/\cs'=cs.map (CV.bY g)/\(own=true->own'=true)
 |.map own es=>∃own' es',x=.map own' es'/\es'=es.map (λp=>(p.1,p.2.mD g))/\(own=true->own'=true)/\∀p∈es,∀l,p.2≠.tup l
theorem LB.xZ{x y:LB}(h:x.as y g):x.Ay y:=by
 cases y<;>cases x<;>simp[LB.as,LB.Ay]at h ⊢
theorem rZ{own':Bool}{b:Nat}(h:eU c own' b)(hw:own=true->own'=true):eU c own b:=by
 unfold eU at *
 grind
structure fD(c:Ctx)(s s2:aB)(g:Key->Key):Prop where
 as:∀k,(s.lv (g k)).as (s2.lv k) g
 inj:∀k k',(s2.lv k).live=true->(s2.lv k').live=true->g k=g k'->k=k'
 fr:∀t,s2.fr t=.junk\/((s2.fr t).bX=true/\s.fr t=(s2.fr t).bY g)
 keep:∀k,c.iN k≠.hole->s2.lv k=.dead\/g k=k
theorem aD.coarse{s2:aB}(h:aD c F β s a w)(hc:fD c s s2 g):
 aD c F (λk=>β (g k)) s2 a w:=by
 have hR:(Vw.mk F β s.lv w).Ren (Vw.mk F (λk=>β (g k)) s2.lv w) g:=⟨rfl,rfl,λ_ _=>rfl,λk=>LB.xZ (hc.as k)⟩
 have hlive:∀k,(s2.lv k).live=true->(s.lv (g k)).live=true:=by
  intro k hk;have:=hc.as k
  cases e:s2.lv k with
  |cells own fz T cs=>
   rw[e]at this hk;obtain⟨own',cs',h1,_⟩:=this
   cases fz with
   |false=>rw[h1];rfl
   |true=>cases hk
  |map own es=>rw[e]at this;obtain⟨own',es',h1,_⟩:=this;rw[h1];rfl
  |hole=>rw[e]at hk;cases hk
  |dead=>rw[e]at hk;cases hk
  |nils=>rw[e]at hk;cases hk
 refine⟨?_,?_,?_,h.size,h.defers,h.ox,h.F0,h.old,h.ge,h.qP,?_,h.IQ,h.Ey⟩
 ·intro k;have hb:=h.bK (g k);have ha:=hc.as k;unfold Vw.bK at hb ⊢
  cases e:s2.lv k with
  |cells own fz T cs=>
   rw[e]at ha;obtain⟨own',cs',h1,h2,h3⟩:=ha;simp only[h1]at hb;obtain⟨arr,b1,b2,b3,b4,b5⟩:=hb;subst h2;simp only[e];refine⟨arr,b1,by grind,λi p q=>hR.cv ?_,b4,rZ b5 h3⟩
   grind
  |map own es=>
   rw[e]at ha;obtain⟨own',es',h1,h2,h3,h4⟩:=ha;simp only[h1]at hb;obtain⟨ents,clock,b1,b2,b3,b4,b5⟩:=hb;subst h2;simp only[ab0]at b2;simp only[e];refine⟨ents,clock,b1,b2,λi p q=>?_,b4,rZ b5 h3⟩;have:=b3 i (by grind) q;simp only[ab5]at this;refine⟨this.1,?_⟩;rcases hR.oq this.2 with h5|⟨l,h5⟩
   ·exact h5
   grind
  |hole=>grind
  |dead=>grind
  |nils=>grind
 ·intro k k' h1 h2 he;exact hc.inj k k' h1 h2 (h.inj _ _ (hlive k h1) (hlive k' h2) he)
 ·intro t;rcases hc.fr t with h1|⟨h1,h2⟩
  ·rw[h1];trivial
  ·exact hR.av h1 (h2▸h.fr t)
 ·intro k h0;rcases hc.keep k h0 with h1|h1
  ·grind
  ·have ha:=hc.as k;rw[h1]at ha;rcases h.keep k h0 with h2|⟨h2,h3⟩
   ·left;rw[h2]at ha
    cases e:s2.lv k<;>rw[e]at ha<;>simp[LB.as]at ha ⊢
   ·by_cases hd:s2.lv k=.dead
    ·grind
    ·right;refine⟨by grind,?_⟩;have hk:=LB.xZ ha;refine LB.Bd h3 ?_ h0
     cases e:s2.lv k<;>cases e':s.lv k<;>rw[e,e']at hk<;>simp[LB.Ay,LB.sub]at hk ⊢
def bL(σ ν:List LB):Key->LB:=λk=>if k<1000 then σ.getD k .hole else ν.getD (k-1000) .hole
def dW(P:Program)(G:List (List DV))(w:World)(F:Nat->Prop)(β:Key->Nat)(lv:Key->LB):Ctx:=
 ⟨P,G,w,F,λb=>∃k,(lv k).live=true/\β k=b,0,lv,β,[]⟩
def di(c:Ctx)(F:Nat->Prop)(β:Key->Nat)(lv:Key->LB)(w:World):Prop:=
 aD { c with n:=0,ds:=[] } F β ⟨λ_=>.junk,lv⟩ ⟨#[],[]⟩ w
theorem aD.uD(h:aD c F β s a w):di c F β s.lv w:=
 ⟨h.bK,h.inj,λ_=>trivial,rfl,rfl,h.ox,h.F0,h.old,h.ge,h.qP,h.keep,h.IQ,h.Ey⟩
theorem di.with(h:di c F β lv w){fr:Nat->AV}(h1:a.tmps.size=c.n)(h2:a.defers=c.ds)
 (h3:∀t,(Vw.mk F β lv w).av (a.tmps.getD t undef) (fr t)):aD c F β ⟨fr,lv⟩ a w:=
 ⟨h.bK,h.inj,h3,h1,h2,h.ox,h.F0,h.old,h.ge,h.qP,h.keep,h.IQ,h.Ey⟩
inductive Out where
 |ret (x:AV) (σ ν:List LB)
 |uR (d:DV)
def LB.VT(x:LB):LB:=match x with|.hole=>.hole|_=>.dead
def acr(P:Program)(G:List (List DV))(σ:List LB)(F:Nat->Prop)(β:Key->Nat)(w:World)(o:Out)(e:Ending)(w':World):Prop:=
 match o with
 |.ret x σ' ν=>∃v F' β',e=.returned v/\di (dW P G w F β (bL σ [])) F' β' (bL σ' ν) w'/\(Vw.mk F' β' (bL σ' ν) w').av v x
 |.uR d=>∃v F' β',e=.panicked [{ v:=v,recovered:=false }]/\di (dW P G w F β (bL σ [])) F' β' (λk=>(bL σ [] k).VT) w'/\Rd (m9 w' F') v d
def aI(P:Program)(G:List (List DV))(f:FuncId)(args:List AV)(σ:List LB)(o:Out):Prop:=
 ∀(F:Nat->Prop) (β:Key->Nat) (w:World) (vs:Array Value),di (dW P G w F β (bL σ [])) F β (bL σ []) w->vs.size=args.length ->
  (∀i (h:i<args.length) (h':i<vs.size),(Vw.mk F β (bL σ []) w).av vs[i] args[i])->Calls P f vs w (acr P G σ F β w o)
def aa(P:Program)(G:List (List DV))(f:FuncId)(args:List AV)(x:AV):Prop:=aI P G f args [] (.ret x [] [])
def chunk(sz n:Nat)(l:List α):List (List α):=(List.range n).map λi=>(l.drop (i*sz)).take sz
def iY(f:CV->Option (DV×List Key)):List CV->Option (List DV×List Key)
 |[]=>some ([],[])
 |x::r=>match f x,iY f r with
  |some (d,k),some (l,ks)=>some (d::l,k++ks)
  |_,_=>none
def gu(lv:Key->LB):Nat->CV->Option (DV×List Key)
 |_,.d x=>some (x,[])
 |n+1,.ptr k off=>match lv k with
  |.cells _ _ _ cs=>if off<=cs.length then(iY (gu lv n) (cs.drop off)).map λp=>(.ptr p.1,k::p.2)else none
  |_=>none
 |n+1,.aH k off len sz=>match lv k with
  |.cells _ _ _ cs=>if off+len*sz<=cs.length/\len<=9223372036854775807 then(iY (gu lv n) ((cs.drop off).take (len*sz))).map λp=>(.sl (chunk sz len p.1),k::p.2)else none
  |.nils=>some (.nilsl,[])
  |_=>none
 |_,_=>none
theorem qf{f:CV->Option (DV×List Key)}:∀{cs:List CV}{l:List DV}{ks:List Key},iY f cs=some (l,ks)->l.length=cs.length /\
 ∀i (h:i<l.length) (h':i<cs.length),∃k,f cs[i]=some (l[i],k)/\∀x∈k,x∈ks
 |[],l,ks,h=>by simp only[iY,ah,M1]at h;grind
 |x::r,l,ks,h=>by
  simp only[iY]at h;split at h
  ·rename_i d k l' ks' h1 h2
   simp only[ah,M1]at h;obtain⟨rfl,rfl⟩:=h;obtain⟨h3,h4⟩:=qf h2;refine⟨by simp[h3],λi p q=>?_⟩
   cases i with
   |zero=>grind
   |succ i=>
    obtain⟨k',h5,h6⟩:=h4 i (by grind) (by grind)
    grind
  grind
section
variable {c:Ctx}{F:Nat->Prop}{β:Key->Nat}{s:aB}{a:Act}{w:World}
theorem di.gu(h:di c F β s.lv w)(hF:∀b,F b->Fz b):∀(n:Nat) (x:CV) (d:DV) (ks:List Key) (v:Value),Am.gu s.lv n x=some (d,ks)->(∀k∈ks,Fz (β k)) ->
 (Vw.mk F β s.lv w).cv v x->Rd (m9 w Fz) v d
 |n,.d x,d,ks,v,ht,hk,hv=>by
  simp only[Am.gu,ah,M1]at ht;obtain⟨rfl,rfl⟩:=ht;exact Rd.mono (gT hF (λ_ _=>rfl)) hv.1
 |n+1,.ptr k off,d,ks,v,ht,hk,hv=>by
  simp only[Am.gu]at ht;split at ht
  ·rename_i own fz T cs e
   split at ht
   ·rename_i hoff
    rw[aek]at ht;obtain⟨⟨l,ks'⟩,ht,he⟩:=ht;simp only[M1]at he;obtain⟨rfl,rfl⟩:=he;obtain⟨h1,h2⟩:=qf ht;have hb:=h.bK k;unfold Vw.bK at hb;simp only[e]at hb;obtain⟨arr,b1,b2,b3,_⟩:=hb;obtain⟨hv,_⟩:=hv;simp only[Vw.dn,e]at hv;subst hv;simp only[afm]at h1;refine .ptr (β k) off (λi=>arr.getD (off+i) undef) l (λi hi=>⟨hk k (by simp),?_⟩) (λi hi=>?_) (λi hi=>?_)
    ·have hi':off+i<arr.size:=by omega
     rw[eP b1 hi'];simp_all
    ·have hi':off+i<arr.size:=by omega
     simp only[Array.getD,hi',dite_true];exact Vw.fN (b3 (off+i) (by omega) hi')
    ·have hi':off+i<arr.size:=by omega
     obtain⟨k',h3,h4⟩:=h2 i hi (by simp;omega);simp only[Array.getD,hi',dite_true];simp only[af3]at h3;exact di.gu h hF n _ _ _ _ h3 (λx hx=>hk x (by grind)) (b3 (off+i) (by omega) hi')
   grind
  grind
 |n+1,.aH k off len sz,d,ks,v,ht,hk,hv=>by
  simp only[Am.gu]at ht;split at ht
  ·rename_i own fz T cs e
   split at ht
   ·rename_i hoff
    rw[aek]at ht;obtain⟨⟨l,ks'⟩,ht,he⟩:=ht;simp only[M1]at he;obtain⟨rfl,rfl⟩:=he;obtain⟨h1,h2⟩:=qf ht;have hb:=h.bK k;unfold Vw.bK at hb;simp only[e]at hb;obtain⟨arr,b1,b2,b3,_⟩:=hb;obtain⟨hv,_⟩:=hv;simp only[Vw.cx,e]at hv;obtain⟨cap,rfl,hcap,_⟩:=hv;have hl:l.length=len*sz:=by rw[h1];simp;omega
    have hcl:(chunk sz len l).length=len:=by simp[chunk]
    have hce:∀i (hi:i<(chunk sz len l).length),(chunk sz len l)[i]=(l.drop (i*sz)).take sz:=by intro i hi;simp[chunk]
    have hsz:∀i,i<len->i*sz+sz<=len*sz:=by
     intro i hi;have:(i+1)*sz<=len*sz:=adJ _ hi
     rwa[ad7,aeS]at this
    have key:=Rd.sl (M:=m9 w Fz) (β k) off cap sz (chunk sz len l) (λi j=>arr.getD (off+i*sz+j) undef) ?_ (by omega) (by omega) ?_ ?_ ?_
    ·rwa[hcl]at key
    ·intro x hx;obtain⟨i,hi,rfl⟩:=List.mem_iff_getElem.1 hx
     grind
    ·intro i hi j hj;rw[hcl]at hi;have:=hsz i hi;have hi':off+i*sz+j<arr.size:=by omega
     refine⟨hk k (by simp),?_⟩;rw[eP b1 hi'];simp[Array.getD,hi']
    ·intro i hi j hj;rw[hcl]at hi;have:=hsz i hi;have hi':off+i*sz+j<arr.size:=by omega
     simp only[Array.getD,hi',dite_true];exact Vw.fN (b3 _ (by omega) hi')
    ·intro i hi j hj;have hi2:=hi;rw[hcl]at hi2;have h5:=hsz i hi2;simp only[hce]at hj ⊢;have hj':j<sz:=by simp at hj;omega
     have hi':off+i*sz+j<arr.size:=by omega
     simp only[Array.getD,hi',dite_true,agL,af3];obtain⟨k',h3,h4⟩:=h2 (i*sz+j) (by omega) (by simp;omega);simp only[agL,af3]at h3;have h6:=b3 (off+i*sz+j) (by omega) hi';have e2:off+i*sz+j=off+(i*sz+j):=by omega
     simp only[e2]at h6 ⊢;exact di.gu h hF n _ _ _ _ h3 (λx hx=>hk x (by grind)) h6
   grind
  ·rename_i e
   simp only[ah,M1]at ht;obtain⟨rfl,rfl⟩:=ht;obtain⟨hv,_⟩:=hv;simp only[Vw.cx,e]at hv;rw[hv.1];exact .nilsl
  grind
 |0,.ptr ..,_,_,_,ht,_,_=>by cases ht
 |0,.aH ..,_,_,_,ht,_,_=>by cases ht
 |n,.mapr _,_,_,_,ht,_,_=>by cases n<;>cases ht
 |n,.lsf ..,_,_,_,ht,_,_=>by cases n<;>cases ht
 |n,.func ..,_,_,_,ht,_,_=>by cases n<;>cases ht
 |n,.ifc ..,_,_,_,ht,_,_=>by cases n<;>cases ht
 |n,.junk,_,_,_,ht,_,_=>by cases n<;>cases ht
end
def gq(M:Mem)(cs:List Value)(l:List DV):Prop:=
 cs.length=l.length/\∀i (h:i<cs.length) (h':i<l.length),Rd M cs[i] l[i]/\(cs[i]).oneCell'=true
theorem gq.nil:gq M [] []:=⟨rfl,λi h=>by cases h⟩
theorem gq.one(h:Rd M v d)(ho:v.oneCell'=true):gq M [v] [d]:=
 ⟨rfl,λi h1 h2=>by
  grind⟩
theorem gq.app{a b:List Value}{l m:List DV}(h1:gq M a l)(h2:gq M b m):gq M (a++b) (l++m):=by
 refine⟨by simp[h1.1,h2.1],λi h h'=>?_⟩
 by_cases e:i<a.length
 ·rw[ae5 e,ae5 (h1.1▸e)];exact h1.2 i e (h1.1▸e)
 ·have e1:a.length<=i:=Nat.le_of_not_lt e;rw[afj e1,afj (h1.1▸e1)];have:=h2.2 (i-a.length) (by grind) (by have:=h1.1;grind);simpa[h1.1]using this
theorem gq.Sr:∀(ss:List Nat) (cs:List Value) (ls:List (List DV)),ls.length=ss.length->cs.length=ss.sum ->
 (∀i (h:i<ss.length) (h':i<ls.length),gq M ((cs.drop (ss.take i).sum).take ss[i]) ls[i])->gq M cs ls.flatten
 |[],cs,ls,h1,h2,_=>by
  cases ls with
  |nil=>simp at h2;subst h2;exact gq.nil
  |cons _ _=>cases h1
 |s::ss,cs,ls,h1,h2,h3=>by
  cases ls with
  |nil=>cases h1
  |cons l ls=>
   have h0:gq M (cs.take s) l:=h3 0 (by simp) (by simp)
   have hr:gq M (cs.drop s) ls.flatten:=by
    refine gq.Sr ss (cs.drop s) ls (by grind) (by grind) λi h h'=>?_;have:=h3 (i+1) (by grind) (by grind);simpa[List.take_succ_cons,afB,afP]using this
   have:=h0.app hr
   simp_all
theorem iW{α:Type}:∀(n:Nat) (p:Nat->α->Prop),(∀i,i<n->∃x,p i x)->∃l:List α,l.length=n/\∀i (h:i<l.length),p i l[i]
 |0,_,_=>⟨[],rfl,λi h=>by cases h⟩
 |n+1,p,h=>by
  obtain⟨x,hx⟩:=h 0 (by omega);obtain⟨l,hl,hp⟩:=iW n (λi=>p (i+1)) (λi hi=>h (i+1) (by omega));refine⟨x::l,by simp[hl],λi hi=>?_⟩
  grind
def sU(P:Program):Bool->Nat->TypeId->Bool
 |_,0,_=>false
 |s,n+1,t=>match P.underlying t with
  |some .bool=>true
  |some (.int _)=>true
  |some .string=>true
  |some (.slice e)=>s&&sU P false n e
  |some (.struct fs)=>fs.toList.all λf=>sU P s n f.type
  |some (.array _ e)=>sU P s n e
  |_=>false
def mR(P:Program):Nat->TypeId->List DV->Prop
 |0,_,_=>False
 |n+1,t,l=>match P.underlying t with
  |some .bool=>∃b,l=[.bool b]
  |some (.int k)=>∃i,l=[.int k i]
  |some .string=>∃s,l=[.str s]
  |some (.slice e)=>l=[.nilsl]\/∃es,l=[.sl es]/\∀x∈es,mR P n e x
  |some (.struct fs)=>∃ls:List (List DV),ls.length=fs.size/\l=ls.flatten/\∀i (h:i<fs.size) (h':i<ls.length),mR P n fs[i].type ls[i]
  |some (.array m e)=>∃ls:List (List DV),ls.length=m/\l=ls.flatten/\∀x∈ls,mR P n e x
  |_=>False
mutual
def UQ{H:Type}:DataW H->List DV
 |.lit (.bool b)=>[.bool b]
 |.lit (.int k n)=>[.int k n]
 |.lit (.string s)=>[.str s]
 |.agg ps=>TK ps
 |_=>[]
def TK{H:Type}:List (DataW H)->List DV
 |[]=>[]
 |d::r=>UQ d++TK r
end
theorem Dk{H:Type}:∀l:List (DataW H),TK l=(l.map UQ).flatten
 |[]=>rfl
 |d::r=>by simp[TK,Dk r]
theorem xI{a:Addr}(h:w.cell? a=some v):a.block<w.heap.size:=by
 unfold World.cell? at h
 grind
abbrev allM(w:World):Mem:=m9 w (λb=>b<w.heap.size)
theorem wf_wrap{k:IntKind}(h:(Lit.int k n).wf=true):k.wrap n=n:=by
 refine cj ?_;simp only[Lit.wf,rP,decide_eq_true_eq]at h
 cases k<;>(simp[IntKind.min,IntKind.max,IntKind.signed,IntKind.bits,wG,og]at h ⊢;omega)
theorem pX{H:Type}{enc:TypeId×Value->H}{P:Program}{w:World}{base:Nat}{spare:Nat->Bool}{held:Bool}{T:TypeId->Prop}(K:Kids P T):
 ∀(n:Nat) (s:Bool) (t:TypeId) (fuel:Nat) (cs:List Value) (x:DataW H×List MemPlace),T t->sU P s n t=true ->
  (s=true->∀(i:Nat) (a:Addr) (len cap:Nat),cs[i]?=some (.slice (some a) len cap)->a.spot=none) ->
  DataW.trod enc P w base spare held fuel t cs=some x->∃l,mR P n t l/\gq (allM w) cs l/\(s=false->l=UQ x.1)
 |0,_,_,_,_,_,_,h,_,_=>by simp[sU]at h
 |n+1,s,t,fuel,cs,x,hT,hp,hs,h=>by
  unfold sU at hp;split at hp
  ·rename_i hu
   obtain⟨b,rfl,rfl⟩:=DataW.trod_bool hu h;exact⟨[.bool b],by simp[mR,hu],gq.one (.bool b) rfl,λ_=>rfl⟩
  ·rename_i k hu
   obtain⟨i,rfl,rfl,hw⟩:=DataW.trod_int hu h;exact⟨[.int k i],by simp[mR,hu],gq.one (.int k i (wf_wrap hw)) rfl,λ_=>rfl⟩
  ·rename_i hu
   obtain⟨b,rfl,rfl,hl⟩:=DataW.trod_string hu h;refine⟨[.str b.data.toList],by simp[mR,hu],gq.one (.str b ?_) rfl,λ_=>rfl⟩;have e:b.data.toList.length=b.size:=by simp
   rw[e];simp only[maxLen]at hl;omega
  ·rename_i e hu
   simp only[rP]at hp;obtain⟨rfl,hp⟩:=hp;rcases DataW.trod_slice hu h with⟨rfl,rfl⟩|⟨a,len,cap,elems,rest,m,rfl,rfl,rfl,hb,hlc,hcm,hel,hget,_,_⟩
   ·exact⟨[.nilsl],by simp[mR,hu],gq.one .nilsl rfl,λh=>by cases h⟩
   ·have hsp:=hs rfl 0 a len cap rfl;obtain⟨b,off,sp⟩:=a;simp only at hsp;subst hsp
    obtain⟨l,hl,hq⟩:=iW (α:=List Value×List DV) len (λi q=>w.cells? base (Addr.add ⟨b,off,none⟩ (i*P.cellsOf e)) (P.cellsOf e)=some q.1/\mR P n e q.2/\gq (allM w) q.1 q.2) (by
     intro i hi;have h1:=hget i hi;rw[fy (by omega)]at h1;obtain⟨c,hc,ht⟩:=Option.bind_eq_some_iff.1 h1;obtain⟨l,h2,h3,_⟩:=pX K n false e m c _ (K.slice hT hu) hp (λh=>by cases h) ht;exact⟨(c,l),hc,h2,h3⟩)
    subst hl;have hlen:∀i (h:i<l.length),(l[i].1).length=P.cellsOf e:=λi h=>(agr (hq i h).1).2.1
    have hcell:∀i (h:i<l.length) j (hj:j<P.cellsOf e),w.cell? ⟨b,off+i*P.cellsOf e+j,none⟩=some ((l[i].1).getD j undef):=by
     intro i h j hj;have h1:=(agr (hq i h).1).2.2 j hj
     have h2:(Addr.add (Addr.add ⟨b,off,none⟩ (i*P.cellsOf e)) j)=⟨b,off+i*P.cellsOf e+j,none⟩:=by
      unfold Addr.add;split<;>split<;>simp_all
     rw[h2]at h1;rw[h1,adS,fy (by grind)];rfl
    have hR:=Rd.sl (M:=allM w) b off cap (P.cellsOf e) (l.map (·.2)) (λi j=>(l.getD i ([],[])).1.getD j undef)
     (by
      intro x hx;obtain⟨q,hq',rfl⟩:=List.mem_map.1 hx;obtain⟨i,hi,rfl⟩:=afw hq';rw[<-(hq i hi).2.2.1,hlen i hi])
     (by grind) (by simp only[maxLen]at hcm;grind)
     (by
      intro i hi j hj;have hi':i<l.length:=by simpa using hi
      have:=hcell i hi' j hj;refine⟨xI this,?_⟩
      grind)
     (by
      intro i hi j hj;have hi':i<l.length:=by simpa using hi
      have hj':j<(l[i].1).length:=by rw[hlen i hi'];exact hj
      have:=((hq i hi').2.2.2 j hj' (by rw[<-(hq i hi').2.2.1];exact hj')).2
      grind)
     (by
      intro i hi j hj;have hi':i<l.length:=by simpa using hi
      have hj2:j<(l[i].2).length:=by simpa using hj
      have hj':j<(l[i].1).length:=by rw[(hq i hi').2.2.1];exact hj2
      have:=((hq i hi').2.2.2 j hj' hj2).1
      grind)
    refine⟨[.sl (l.map (·.2))],?_,gq.one ?_ rfl,λh=>by cases h⟩
    ·simp only[mR,hu];refine .inr ⟨_,rfl,λx hx=>?_⟩;obtain⟨q,hq',rfl⟩:=List.mem_map.1 hx;obtain⟨i,hi,rfl⟩:=afw hq'
     grind
    grind
  ·rename_i fs hu
   obtain⟨xs,m,rfl,rfl,hlen,hxs,hget⟩:=DataW.trod_struct hu h;obtain⟨k1,k2,k3⟩:=K.struct hT hu
   have hstep:∀i,i<fs.size->∃l,∀(hi:i<fs.size) (hx:i<xs.length),mR P n fs[i].type l/\gq (allM w) ((cs.drop fs[i].offset).take (P.cellsOf fs[i].type)) l/\(s=false->l=UQ xs[i].1):=by
    intro i hi;have h1:=hget i fs[i] (by simp[hi]);rw[fy (by omega)]at h1;have hm:fs[i]∈fs.toList:=by simp
    obtain⟨l,h2,h3,h4⟩:=pX K n s fs[i].type m _ _ (k1 _ hm) (List.all_eq_true.1 hp _ hm) (by
     grind) h1
    exact⟨l,λ_ _=>⟨h2,h3,h4⟩⟩
   obtain⟨ls,hl,hq⟩:=iW fs.size _ hstep;refine⟨ls.flatten,?_,?_,λhf=>?_⟩
   ·simp only[mR,hu]
    grind
   ·refine gq.Sr (fs.toList.map λf=>P.cellsOf f.type) cs ls (by simp[hl]) (by omega) λi h h'=>?_;have hi:i<fs.size:=by simpa using h
    have h3:=(hq i h' hi (by omega)).2.1;have ho:=k3 i fs[i] (by simp[hi])
    simp_all
   ·simp only[UQ,Dk,aed];congr 1;refine ags (by simp;omega) λi h1 h2=>?_
    grind
  ·rename_i m e hu
   obtain⟨xs,f,rfl,rfl,hlen,hxs,hget⟩:=DataW.trod_array hu h;obtain⟨k1,k2⟩:=K.array hT hu
   have hstep:∀i,i<m->∃l,∀(hx:i<xs.length),mR P n e l/\gq (allM w) ((cs.drop (i*P.cellsOf e)).take (P.cellsOf e)) l/\(s=false->l=UQ xs[i].1):=by
    intro i hi;have h1:=hget i hi;rw[fy (by omega)]at h1
    obtain⟨l,h2,h3,h4⟩:=pX K n s e f _ _ k1 hp (by
     grind) h1
    exact⟨l,λ_=>⟨h2,h3,h4⟩⟩
   obtain⟨ls,hl,hq⟩:=iW m _ hstep;refine⟨ls.flatten,?_,?_,λhf=>?_⟩
   ·simp only[mR,hu];refine⟨ls,hl,rfl,λx hx=>?_⟩;obtain⟨i,hi,rfl⟩:=afw hx
    grind
   ·refine gq.Sr (List.replicate m (P.cellsOf e)) cs ls (by simp[hl]) (by simp_all) λi h h'=>?_;have h3:=(hq i h' (by omega)).2.1;have hm:min i m=i:=by simp at h;omega
    simp_all
   ·simp only[UQ,Dk,aed];congr 1;refine ags (by simp;omega) λi h1 h2=>?_
    grind
  grind
structure Kept(W W':World):Prop where
 old:∀b,b<W.heap.size->W'.heap[b]?=W.heap[b]?
 os:W'.os=W.os
 out:W'.output=W.output
theorem Kept.but(h:Kept W W')(may:MemPlace->Prop):W.keptBut W' may:=by
 refine⟨h.os,h.out,λi hi=>?_⟩;rw[h.old i hi]
 grind
theorem Kept.sameAt(h:Kept W W'){p:MemPlace}(hp:p.block<W.heap.size):W.sameAt W' p:=by
 cases p with
 |cell b off=>simp only[World.sameAt,World.cell?];rw[h.old b hp]
 |map b=>exact h.old b hp
theorem rJ{H:Type}{enc:TypeId×Value->H}{P:Program}{w w':World}{base:Nat}{spare:Nat->Bool}{held:Bool}:
 ∀{ts:List TypeId}{vs:List Value}{ds:List (DataW H)}{ps:List MemPlace},DataW.TrodAll enc P w base spare held ts vs ds ps->(∀p∈ps,w.sameAt w' p)->DataW.TrodAll enc P w' base spare held ts vs ds ps
 |[],[],[],_,h,_=>h
 |_::_,_::_,_::_,_,⟨p,q,⟨n,h1⟩,h2,e⟩,hs=>
  ⟨p,q,⟨n,DataW.trod_carry n _ _ _ h1 (λx hx=>hs x (by grind))⟩,rJ h2 (λx hx=>hs x (by grind)),e⟩
theorem Kept.args{enc:TypeId×Value->H}{T:TypeId->Prop}(K:Kids P T)(hz:∀t e,T t->P.underlying t=some (.slice e)->0<P.cellsOf e)
 (h:Kept W W'){vs:List Value}{ds:List (DataW H)}{ps:List MemPlace}(hT:∀t∈ts,T t) (hr:DataW.TrodAll enc P W 0 (λ_=>true) true ts vs ds ps) :
 DataW.TrodAll enc P W' 0 (λb=>decide (b<W.heap.size)) true ts vs ds ps:=by
 have hlt:=DataW.TrodAll.lt hr;refine rJ (DataW.TrodAll.respare K hz hT hr (λp hp=>by grind)) (λp hp=>h.sameAt (hlt p hp))
theorem OE{enc:TypeId×Value->H}{f:Func}{s:ChangeSpec}{apart fresh handsOn:Bool}{args:Array Value}{ds gs:List (DataW H)}{before:List MemPlace}
 {T:TypeId->Prop}{tb:TypeId}(K:Kids P T) (hz:∀t e,T t->P.underlying t=some (.slice e)->0<P.cellsOf e) (hT:∀t∈f.params.toList,T t)
 (hv:s.vars=[]) (hr:f.resultTypes=#[tb]) (hb:P.underlying tb=some .bool)
 (hW:DataW.Whole enc P f.params.toList s.vars apart W args.toList ds gs before) (hs:s.fn H (ds++gs)={ results:=[.lit (.bool true)],args:=ds }) (h:Kept W W') :
 s.post enc P f apart fresh handsOn false W args (.bool true) W':=by
 have hW':=hW;obtain⟨p,q,hA,hV,rfl,hfz,hnd⟩:=hW;refine⟨ds,gs,p++q,[],p,[],hW',?_,?_,?_,h.but _,λh=>by cases h⟩
 ·rw[hs,hr];exact⟨[],[],⟨1,by simp[DataW.trod,Value.cells,hb]⟩,rfl,rfl⟩
 ·rw[hs];exact h.args K hz hT hA
 ·rw[hs,hv];rfl
theorem tN{P:Program}{W:World}:∀{l:List (String×DataW Unit)}{ps:List MemPlace},DataW.LaidVars P W l ps->∀x∈l,
 ∃g t cs fuel p,P.globalNamed x.1=some g/\(P.globals[g]?).map (·.type)=some t/\W.var? P x.1=some cs/\DataW.trod (λ_=>()) P W 0 (λ_=>true) false fuel t cs.toList=some (x.2,p)
 |[],_,_,x,hx=>by cases hx
 |(n,d)::r,ps,h,x,hx=>by
  obtain⟨g,t,cs,fuel,p,q,h1,h2,h3,h4,h5,_⟩:=h;rcases List.mem_cons.1 hx with rfl|hx
  ·grind
  ·exact tN h5 x hx
theorem P1{n:String}{g:Nat}{cs:Array Value}{l:List DV}(hg:P.globalNamed n=some g)(hc:W.var? P n=some cs)
 (hR:gq (allM W) cs.toList l):Rd (allM W) (.pointer (some ⟨g,0,none⟩)) (.ptr l):=by
 have hl:cs.size=l.length:=by simpa using hR.1
 refine .ptr g 0 (λi=>cs.toList.getD i undef) l (λi hi=>?_) (λi hi=>?_) (λi hi=>?_)
 ·have:=World.var?_cell hg hc i;rw[afd (by omega)]at this;rw[aeC];refine⟨xI this,?_⟩
  grind
 ·have:=(hR.2 i (by simp;omega) hi).2
  grind
 ·have:=(hR.2 i (by simp;omega) hi).1
  grind
theorem PB{G:List (List DV)}(hC:aa P G f us (.c (.d (.bool b)))){vs:Array Value}
 (hG:∀g cs,G[g]?=some cs->Rd (allM W) (.pointer (some ⟨g,0,none⟩)) (.ptr cs)) (hl:vs.size=us.length)
 (hv:∀i (h:i<us.length) (h':i<vs.size),(Vw.mk (λb=>b<W.heap.size) (λ_=>0) (bL [] []) W).av vs[i] us[i]) :
 Calls P f vs W λe W'=>e=.returned (.bool b)/\Kept W W':=by
 refine(hC (λb=>b<W.heap.size) (λ_=>0) W vs ?_ hl hv).mono λe W' h=>?_
 ·refine⟨λk=>?_,λk k' hk=>?_,λ_=>trivial,rfl,rfl,λb hb=>⟨hb,.inl hb⟩,λ_ hb=>hb,λ_ _ _=>rfl,bh _,hG,λk hk=>.inr ⟨rfl,LB.bE _⟩,λ_=>bh _,⟨rfl,rfl⟩⟩
  ·have:bL [] [] k=.hole:=by unfold bL;split<;>rfl
   unfold Vw.bK;grind
  ·have:bL [] [] k=.hole:=by unfold bL;split<;>rfl
   simp only[this]at hk;cases hk
 ·obtain⟨v,F',β',rfl,hS,hx⟩:=h;have hx':Rd (m9 W' F') v (.bool b)/\v.oneCell'=true:=hx;refine⟨?_,⟨λi hi=>hS.old i hi ?_,hS.Ey.1,hS.Ey.2⟩⟩
  ·cases hx'.1;rfl
  ·rintro⟨k,hk,_⟩;have:bL [] [] k=.hole:=by unfold bL;split<;>rfl
   simp only[this]at hk;cases hk
theorem wB{r:Reach}{base:Nat}{u:TypeId}{a:Addr}(h:Cell.okWide P w r base u (.slice (some a) len cap)):a.spot=none:=by
 unfold Cell.okWide at h;split at h<;>rename_i e<;>first|cases e|skip
 all_goals unfold Cell.ok at h
 all_goals split at h<;>rename_i e2<;>first|cases e2|grind|skip
 all_goals exact h.2.2.2.1
theorem G2(h:W.ShapedOpen P){g:Nat}{zero:Array Value}{k:IntKind}(hg:g<P.globals.size)
 (hr:((begin P (λ_ _=>0) default).world.heap[g]?).bind Obj.row?=some (zero,t)) (hz:zero.size=1) (hb:P.buildable t=true) (ht:P.cellTypes P.depth t=some [t]) (hu:P.underlying t=some (.int k)) :
 ∃m,W.cell? ⟨g,0,none⟩=some (.int k m)/\k.wrap m=m:=by
 obtain⟨cs,h1,h2,h3⟩:=h.1 g zero t hg hr;obtain⟨ts,e1,_,e3⟩:=h3 hb;rw[ht]at e1;obtain rfl:=aeW e1;have h0:cs[0]?=some (cs[0]'(by omega)):=afd _;obtain⟨u,e4,e5⟩:=e3 0 _ h0;have e6:u=t:=by simpa using e4.symm
 subst e6;have hc:W.cell? ⟨g,0,none⟩=some (cs[0]'(by omega)):=by simp[World.cell?,h1,h0]
 unfold Cell.ok at e5;rw[hu]at e5;split at e5<;>rename_i x y<;>first|cases x|skip
 all_goals first|(cases e5;done)|skip
 all_goals
  rename_i hv
  rw[y]at hc;obtain⟨rfl,hk⟩:=e5;refine⟨_,hc,wf_wrap ?_⟩;simpa[Lit.wf,IntKind.has]using hk
structure Vw.Up(V V2:Vw)(g:Key->Key):Prop where
 F:V2.F=V.F
 w:V2.w=V.w
 Ay:∀k,V.lv k≠.hole->(V.lv k).Ay (V2.lv (g k))
 β:∀k,V.lv k≠.hole->V2.β (g k)=V.β k
section
variable {V V2:Vw}{g:Key->Key}
theorem Vw.Up.mem(h:V.Up V2 g):V2.mem=V.mem:=by
 unfold Vw.mem;rw[h.F,h.w]
theorem Vw.Up.ptr(h:V.Up V2 g)(hv:V.dn v k off):V2.dn v (g k) off:=by
 have h1:=h.Ay k;have h2:=h.β k;unfold Vw.dn at *
 cases e:V.lv k<;>cases e':V2.lv (g k)<;>simp[e,e',LB.Ay]at h1 h2 hv ⊢<;>(try rw[h2])<;>assumption
theorem Vw.Up.aH(h:V.Up V2 g)(hv:V.cx v k off len sz):V2.cx v (g k) off len sz:=by
 have h1:=h.Ay k;have h2:=h.β k;unfold Vw.cx at *
 rw[h.w]
 cases e:V.lv k<;>cases e':V2.lv (g k)<;>simp[e,e',LB.Ay]at h1 h2 hv ⊢<;>(try rw[h2])<;>assumption
theorem Vw.Up.map(h:V.Up V2 g)(hv:V.lM v k):V2.lM v (g k):=by
 have h1:=h.Ay k;have h2:=h.β k;unfold Vw.lM at *
 cases e:V.lv k<;>cases e':V2.lv (g k)<;>simp[e,e',LB.Ay]at h1 h2 hv ⊢<;>(try rw[h2])<;>assumption
theorem Vw.Up.ng(h:V.Up V2 g){x:jd}(hv:V.ng v x):V2.ng v (x.bY g):=by
 cases x with
 |d x=>exact⟨by rw[h.mem];exact hv.1,hv.2⟩
 |ptr k off=>exact⟨h.ptr hv.1,hv.2⟩
 |aH k off len sz=>exact⟨h.aH hv.1,hv.2⟩
theorem Vw.Up.ref(h:V.Up V2 g){x:Ref}(hv:V.ref v x):V2.ref v (x.bY g):=by
 induction x generalizing v with
 |d x=>show Rd V2.mem v x;rw[h.mem];exact hv
 |ptr k off=>exact⟨h.ptr hv.1,hv.2⟩
 |aH k off len sz=>exact⟨h.aH hv.1,hv.2⟩
 |agg cs=>
  obtain⟨arr,rfl,h1,h2⟩:=hv;exact⟨arr,rfl,by grind,λi a b=>by simp only[ab5];exact h.ng (h2 i (by omega) b)⟩
 |ifc t x ih=>obtain⟨v',rfl,h1⟩:=hv;exact⟨v',rfl,ih h1⟩
theorem Vw.Up.cv(h:V.Up V2 g){x:CV}(hv:V.cv v x):V2.cv v (x.bY g):=by
 cases x with
 |d x=>exact⟨by rw[h.mem];exact hv.1,hv.2⟩
 |ptr k off=>exact⟨h.ptr hv.1,hv.2⟩
 |aH k off len sz=>exact⟨h.aH hv.1,hv.2⟩
 |mapr k=>exact⟨h.map hv.1,hv.2⟩
 |lsf k off len sz=>exact⟨⟨h.aH hv.1.1,hv.1.2⟩,hv.2⟩
 |func fn f c=>
  obtain⟨fs,cs,rfl,h1,h2,h3,h4⟩:=hv;refine⟨fs,cs,rfl,by grind,by grind,λi a b=>?_,λi a b=>?_⟩
  ·simp only[ab5];exact h.ref (h3 i (by omega) b)
  ·simp only[ab5];exact h.ref (h4 i (by omega) b)
 |ifc t x=>
  obtain⟨v',rfl,h1⟩:=hv;exact⟨v',rfl,h.ref h1⟩
 |junk=>exact hv
theorem Vw.Up.oq(h:V.Up V2 g){x:AV}(hv:V.oq v x):V2.oq v (x.mD g):=by
 cases x with
 |c x=>exact h.cv (x:=x) hv
 |agg cs=>
  obtain⟨arr,rfl,h1,h2⟩:=hv;exact⟨arr,rfl,by grind,λi a b=>by simp only[ab5];exact h.cv (h2 i (by omega) b)⟩
 |tup l=>exact hv.elim
 |undef=>exact hv
 |junk=>trivial
theorem Vw.Up.av(h:V.Up V2 g){x:AV}(hv:V.av v x):V2.av v (x.bY g):=by
 cases x with
 |c x=>exact h.cv (x:=x) hv
 |agg cs=>exact h.oq (x:=.agg cs) hv
 |tup l=>
  obtain⟨arr,rfl,h1,h2⟩:=hv;exact⟨arr,rfl,by grind,λi a b=>by simp only[ab5];exact h.oq (h2 i (by omega) b)⟩
 |undef=>exact hv
 |junk=>trivial
end
def LB.pass:LB->Bool
 |.cells own fz _ _=>!own&&!fz
 |.map own _=>!own
 |.dead=>false
 |_=>true
def LB.LN:LB->Bool
 |.cells own ..=>own
 |.map own _=>own
 |_=>true
def LB.fix(b:Bool):LB->LB
 |.cells own fz T cs=>.cells (own ||b) fz T cs
 |.map own es=>.map (own ||b) es
 |x=>x
theorem LB.MF(b:Bool)(x:LB):(x.fix b).live=x.live:=by
 cases x with
 |cells own fz T cs=>cases fz<;>rfl
 |_=>rfl
theorem LB.PV(g:Key->Key)(x:LB):(x.bY g).live=x.live:=by
 cases x with
 |cells own fz T cs=>cases fz<;>rfl
 |_=>rfl
section
variable {c:Ctx}{F:Nat->Prop}{β:Key->Nat}{s:aB}{a:Act}{w:World}
structure wE(s:aB)(g:Key->Key)(gi:Key->Option Key)(L L':Key->LB)(own:Bool):Prop where
 pass:∀k,(L k).pass=true
 as:∀k,(s.lv (g k)).as (L k) g
 YX:∀k' k,gi k'=some k->g k=k'/\L' k≠.hole
 X2:∀k,L' k≠.hole->gi (g k)=some k
 stay:∀k,L k≠.hole->L' k≠.hole
 own:own=true->∀k,(L k).live=true->(s.lv (g k)).LN=true
theorem wE.live(hB:wE s g gi L L' own)(hk:(L k).live=true):(s.lv (g k)).live=true:=by
 have:=hB.as k
 cases e:L k with
 |cells own fz T cs=>
  rw[e]at this hk;obtain⟨own',cs',h1,_⟩:=this
  cases fz with
  |false=>rw[h1];rfl
  |true=>cases hk
 |map own es=>rw[e]at this;obtain⟨own',es',h1,_⟩:=this;rw[h1];rfl
 |hole=>rw[e]at hk;cases hk
 |dead=>rw[e]at hk;cases hk
 |nils=>rw[e]at hk;cases hk
theorem wE.inj{g:Key->Key}{gi:Key->Option Key}{L L':Key->LB}{own:Bool}(hB:wE s g gi L L' own){k k':Key}(h1:L k≠.hole)(h2:L k'≠.hole)(h:g k=g k'):k=k':=by
 have e1:=hB.X2 k (hB.stay k h1);have e2:=hB.X2 k' (hB.stay k' h2)
 grind
theorem ji{x:LB}(h:x.live=true):x≠.hole:=λe=>by rw[e]at h;cases h
theorem wE.bY(hB:wE s g gi L L' own):
 (Vw.mk F β s.lv w).Ren (Vw.mk F (λk=>β (g k)) L w) g:=⟨rfl,rfl,λ_ _=>rfl,λk=>LB.xZ (hB.as k)⟩
theorem aD.enter(h:aD c F β s a w)(hB:wE s g gi L L' own):
 di (dW c.P c.G w F (λk=>β (g k)) L) F (λk=>β (g k)) L w:=by
 have hR:=hB.bY (F:=F) (β:=β) (w:=w);refine⟨?_,?_,λ_=>trivial,rfl,rfl,λb hb=>⟨(h.ox b hb).1,.inl hb⟩,λ_ hb=>hb,λ_ _ _=>rfl,bh _,h.qP,λk _=>.inr ⟨rfl,LB.bE _⟩,λ_=>bh _,⟨rfl,rfl⟩⟩
 ·intro k;have hb:=h.bK (g k);have ha:=hB.as k;have hp:=hB.pass k;unfold Vw.bK at hb ⊢
  cases e:L k with
  |cells own fz T cs=>
   rw[e]at ha hp;simp only[LB.pass,rP,aee]at hp;obtain⟨own',cs',h1,h2,h3⟩:=ha;simp only[h1]at hb;obtain⟨arr,b1,b2,b3,b4,b5⟩:=hb;subst h2;simp only[e];refine⟨arr,b1,by grind,λi p q=>hR.cv ?_,b4,?_⟩
   ·grind
   ·rw[hp.1];simp only[eU,aeF,if_false];exact .inr ⟨k,by rw[e,hp.2];rfl,rfl⟩
  |map own es=>
   rw[e]at ha hp;simp only[LB.pass,aee]at hp;obtain⟨own',es',h1,h2,h3,h4⟩:=ha;simp only[h1]at hb;obtain⟨ents,clock,b1,b2,b3,b4,b5⟩:=hb;subst h2;simp only[ab0]at b2;simp only[e];refine⟨ents,clock,b1,b2,λi p q=>?_,b4,?_⟩
   ·have:=b3 i (by grind) q;simp only[ab5]at this;refine⟨this.1,?_⟩;rcases hR.oq this.2 with h5|⟨l,h5⟩
    ·exact h5
    grind
   ·rw[hp];simp only[eU,aeF,if_false];exact .inr ⟨k,by rw[e];rfl,rfl⟩
  |hole=>grind
  |dead=>grind
  |nils=>grind
 ·intro k k' h1 h2 he;exact hB.inj (ji h1) (ji h2) (h.inj _ _ (hB.live h1) (hB.live h2) he)
def fQ(s:aB)(g:Key->Key)(gi:Key->Option Key)(L':Key->LB)(own:Bool):Key->LB:=
 λk'=>match gi k' with|some k=>((L' k).bY g).fix own|none=>s.lv k'
def iF(β β':Key->Nat)(gi:Key->Option Key):Key->Nat:=
 λk'=>match gi k' with|some k=>β' k|none=>β k'
theorem wE.up(hB:wE s g gi L L' own)(F':Nat->Prop)(β':Key->Nat)(w':World):
 (Vw.mk F' β' L' w').Up (Vw.mk F' (iF β β' gi) (fQ s g gi L' own) w') g:=by
 refine⟨rfl,rfl,λk hk=>?_,λk hk=>?_⟩
 ·simp only at hk;simp only[fQ,hB.X2 k hk]
  cases e:L' k<;>simp[e,LB.bY,LB.fix,LB.Ay]at hk ⊢
 ·simp only at hk;simp only[iF,hB.X2 k hk]
theorem aD.back(h:aD c F β s a w)(hB:wE s g gi L L' own)
 (hx:di (dW c.P c.G w F (λk=>β (g k)) L) F' β' L' w'):aD c F' (iF β β' gi) ⟨s.fr,fQ s g gi L' own⟩ a w':=by
 have hF:∀b,F b->F' b:=hx.F0
 have hW:∀b,(∃k,(L k).live=true/\β (g k)=b)->¬F b:=by
  rintro b ⟨k,hk,rfl⟩;exact h.ny (hB.live hk)
 have hold:∀b,b<w.heap.size->¬(∃k,(L k).live=true/\β (g k)=b)->w'.heap[b]?=w.heap[b]?:=hx.old;have hm:∀b,F b->w'.heap[b]?=w.heap[b]?:=λb hb=>hold b (h.ox b hb).1 (λhw=>hW b hw hb)
 have hUp:=hB.up (β:=β) F' β' w';have hkeep:∀k,L k≠.hole->L' k=.dead\/(β' k=β (g k)/\(L k).sub (L' k)):=hx.keep;refine h.step (hoo:=hx.Ey) hF hm ?_ ?_ hx.IQ ?_ ?_ ?_ hx.ge ?_
 ·intro k';simp only[fQ];split
  ·rename_i k e
   obtain⟨rfl,hk⟩:=hB.YX _ _ e
   by_cases h0:L k=.hole
   ·have:=hB.as k;rw[h0]at this;have hh:s.lv (g k)=.hole:=this;rw[hh];simp[LB.sub]
   ·have ha:=LB.xZ (hB.as k);rcases hkeep k h0 with hd|⟨_,hs⟩
    ·rw[hd];cases s.lv (g k)<;>simp[LB.bY,LB.fix,LB.sub]
    ·cases e1:s.lv (g k)<;>cases e2:L k<;>cases e3:L' k<;>simp[e1,e2,e3,LB.Ay,LB.sub,LB.bY,LB.fix]at ha hs h0 hk ⊢
     all_goals (have:=hB.pass k;rw[e2]at this;cases this)
  ·exact LB.bE _
 ·intro k' hh hd;simp only[fQ]at hd;simp only[iF];split
  ·rename_i k e
   rw[e]at hd;obtain⟨rfl,hk⟩:=hB.YX _ _ e
   have h0:L k≠.hole:=λh0=>by
    have:=hB.as k;rw[h0]at this;exact hh this
   rcases hkeep k h0 with hd'|⟨h1,_⟩
   ·have hd2:((L' k).bY g).fix own≠.dead:=hd;rw[hd']at hd2;exact absurd rfl hd2
   omega
  ·rfl
 ·intro k' hK
  cases e:gi k' with
  |some k=>
   obtain⟨rfl,hk⟩:=hB.YX _ _ e;have hb:=hx.bK k
   have hownk:∀o:Bool,eU (dW c.P c.G w F (λk=>β (g k)) L) o (β' k)->eU c (o ||own) (β' k):=by
    intro o ho;have hge:=h.ge;unfold eU at ho ⊢
    cases o with
    |true=>simp only[if_true]at ho;simp only[Bool.true_or,if_true];exact Ju hge ho
    |false=>
     simp only[aeF,if_false]at ho;simp only[Bool.false_or];rcases ho with ho|⟨j,hj,hj2⟩
     ·cases own
      ·exact .inl (Ju hge ho)
      ·exact Ju hge ho
     ·have hl:=hB.live hj
      cases hw:own with
      |false=>simp only[aeF,if_false];rw[<-hj2];exact h.ga hl
      |true=>
       simp only[if_true];have ho':=hB.own hw j hj;have hb':=h.bK (g j);unfold Vw.bK at hb';rw[<-hj2]
       cases e1:s.lv (g j)with
       |cells o fz T cs=>
        rw[e1]at ho';simp only[e1]at hb';obtain⟨x,p1,p2,p3,p4,p5⟩:=hb';simp only[LB.LN]at ho';rw[ho']at p5;simpa[eU]using p5
       |map o es=>
        rw[e1]at ho';simp only[e1]at hb';obtain⟨x,y,p1,p2,p3,p4,p5⟩:=hb';simp only[LB.LN]at ho';rw[ho']at p5;simpa[eU]using p5
       |hole=>rw[e1]at hl;cases hl
       |dead=>rw[e1]at hl;cases hl
       |nils=>rw[e1]at hl;cases hl
   unfold Vw.bK at hb ⊢;simp only[fQ,iF,e]
   cases e':L' k with
   |cells o fz T cs=>
    simp only[e']at hb;obtain⟨arr,b1,b2,b3,b4,b5⟩:=hb;simp only[LB.bY,LB.fix];refine⟨arr,b1,by grind,λi p q=>?_,b4,hownk o b5⟩;simp only[ab5];exact hUp.cv (b3 i (by grind) q)
   |map o es=>
    simp only[e']at hb;obtain⟨ents,clock,b1,b2,b3,b4,b5⟩:=hb;simp only[LB.bY,LB.fix];refine⟨ents,clock,b1,by grind,λi p q=>?_,b4,hownk o b5⟩;simp only[ab5];have:=b3 i (by omega) q;exact⟨by have h5:=this.1;exact h5,hUp.oq this.2⟩
   |hole=>grind
   |dead=>simp[LB.bY,LB.fix]
   |nils=>simp[LB.bY,LB.fix]
  |none=>
   have hl:(Vw.mk F' (iF β β' gi) (fQ s g gi L' own) w').lv k'=(Vw.mk F β s.lv w).lv k':=by simp only[fQ,e]
   have hβe:(Vw.mk F' (iF β β' gi) (fQ s g gi L' own) w').β k'=(Vw.mk F β s.lv w).β k':=by simp only[iF,e]
   have hnW:(s.lv k').live=true->¬∃k,(L k).live=true/\β (g k)=β k':=by
    rintro hlv ⟨k,hk,he⟩;have:=h.inj _ _ (hB.live hk) hlv he;rw[<-this,hB.X2 k (hB.stay k (ji hk))]at e
    cases e
   have hb:=h.bK k'
   by_cases hlv:(s.lv k').live=true
   ·refine Vw.bJ hb hK hl hβe (hold _ (h.iD hlv) (hnW hlv)) (λ_ hf=>?_);rcases(hx.ox _ hf).2 with h1|h1
    ·exact h1
    ·have:w.heap.size<=β k':=h1;have:=h.iD hlv;omega
   ·cases ek:s.lv k' with
    |cells o fz T cs=>
     cases fz with
     |false=>rw[ek]at hlv;exact absurd rfl hlv
     |true=>
      have hFk:F (β k'):=by
       unfold Vw.bK at hb;simp only[ek]at hb;obtain⟨x,p1,p2,p3,p4,p5⟩:=hb;exact p4
      refine Vw.bJ hb hK hl hβe (hm _ hFk) (λhlv'=>absurd hlv' hlv)
    |map o es=>rw[ek]at hlv;exact absurd rfl hlv
    |hole=>unfold Vw.bK;grind
    |dead=>unfold Vw.bK;grind
    |nils=>unfold Vw.bK;grind
 ·intro k1 k2 h1 h2 he
  have side:∀k',(fQ s g gi L' own k').live=true->gi k'=none->(s.lv k').live=true:=by
   intro k' hk' e;simp only[fQ,e]at hk';exact hk'
  have bord:∀k' k,(fQ s g gi L' own k').live=true->gi k'=some k->(L' k).live=true:=by
   intro k' k hk' e;simp only[fQ,e,LB.MF,LB.PV]at hk';exact hk'
  have apart:∀k' k,gi k'=none->(s.lv k').live=true->(L' k).live=true->β' k≠β k':=by
   intro k' k e hk' hk heq;have hbo:=aD.ga hx hk;rcases hbo with h3|⟨j,hj,hj2⟩
   ·have h3':w.heap.size<=β' k:=h3;have:=h.iD hk';omega
   ·have:=h.inj _ _ (hB.live hj) hk' (hj2.trans heq);rw[<-this,hB.X2 j (hB.stay j (ji hj))]at e
    cases e
  cases e1:gi k1 with
  |none=>
   cases e2:gi k2 with
   |none=>
    simp only[iF,e1,e2]at he;exact h.inj _ _ (side _ h1 e1) (side _ h2 e2) he
   |some j2=>
    simp only[iF,e1,e2]at he
    grind
  |some j1=>
   cases e2:gi k2 with
   |none=>
    simp only[iF,e1,e2]at he
    grind
   |some j2=>
    simp only[iF,e1,e2]at he;have:=hx.inj _ _ (bord _ _ h1 e1) (bord _ _ h2 e2) he;rw[<-(hB.YX _ _ e1).1,<-(hB.YX _ _ e2).1,this]
 ·intro b hb;rcases(hx.ox b hb).2 with h1|h1
  ·exact .inl h1
  ·have h1':w.heap.size<=b:=h1;have:=h.ge;exact .inr ⟨(hx.ox b hb).1,by omega⟩
 ·intro b hb hnW;have hlt:b<w.heap.size:=aeB hb h.ge;refine hold b hlt ?_;rintro⟨k,hk,rfl⟩;rcases h.ga (hB.live hk)with h1|h1
  ·omega
  grind
end
def bI(P:Program)(T:TypeId):Option (List CV):=((P.info? T).bind (·.zero)).bind λz=>(uu z).cells
theorem l5(h:bI P T=some xs):∃z,(P.info? T).bind (·.zero)=some z/\(uu z).cells=some xs:=
 Option.bind_eq_some_iff.1 h
def bU(P:Program)(T:TypeId):Option Nat:=
 match P.info? T with
 |some i=>match i.zero with
  |some z=>if z.cells.size=i.size then some i.bytes else none
  |none=>none
 |none=>none
theorem wv{n:Nat}(h:bU P T=some n):∃i z,P.info? T=some i/\i.zero=some z/\z.cells.size=i.size/\i.bytes=n:=by
 unfold bU at h
 grind
def GR(lo hi:Option Operand)(rest:List AV):Option (Option AV×Option AV):=
 match lo,hi,rest with
 |none,none,[]=>some (none,none)
 |some _,none,[x]=>some (some x,none)
 |none,some _,[y]=>some (none,some y)
 |some _,some _,[x,y]=>some (some x,some y)
 |_,_,_=>none
def nw:AV->Bool
 |.c (.d (.bool _))|.agg _|.c (.d .nilp)|.c (.d (.ptr _))|.c (.d .nilsl)|.c (.d (.sl _))|.c (.d .nilIface)|.c (.d (.iface ..))=>true
 |_=>false
def keyOf:AV->List Key
 |.c (.aH k ..)=>[k]
 |_=>[]
abbrev cG:=AV×List (Key×LB)×List Key×Prop
variable {r:cG}
def aO(P:Program)(op:BinOp)(T:TypeId)(x y:AV):Option cG:=
 match x,y with
 |.c (.d (.int k m)),.c (.d (.int k' n))=>
  match op with
  |.shl|.shr=>match shI op k m n with|some d=>some (.c (.d d),[],[],0<=n)|none=>none
  |_=>if k=k' then(match lQ op k m n with|some d=>some (.c (.d d),[],[],fF op n)|none=>none)else none
 |.c (.d (.str m)),.c (.d (.str n))=>match Ly op m n with|some d=>some (.c (.d d),[],[],oN op m n)|none=>none
 |x,y=>
  match op with
  |.eql=>if P.eqGuardType P.depth T || !nw x then none else match KI P 20 T x y with|some b=>some (.c (.d (.bool b)),[],[],True)|none=>none
  |.neq=>if P.eqGuardType P.depth T || !nw x then none else match KI P 20 T x y with|some b=>some (.c (.d (.bool (!b))),[],[],True)|none=>none
  |_=>none
def aF(P:Program)(T:TypeId)(lv:Key->LB):AV->Option cG
 |.c (.d (.ptr cs))=>match gA P T (cs.map CV.d)with|some y=>some (y,[],[],True)|none=>none
 |.c (.ptr k off)=>match lv k with
  |.cells _ _ _ cs=>match gA P T (cs.drop off)with|some y=>some (y,[],[k],True)|none=>none
  |_=>none
 |_=>none
def aK(P:Program)(T:TypeId)(lv:Key->LB)(x y:AV):Option cG:=
 match x with
 |.c (.ptr k off)=>match lv k with
  |.cells own false T' cs=>match y.cells with
   |some xs=>if (P.info? T).isSome&&xs.length == jf P T then some (.undef,[(k,.cells own false T' (ai cs off xs))],[],off+xs.length<=cs.length)else none
   |none=>none
  |_=>none
 |_=>none
def gV(lv:Key->LB):AV->Option cG
 |.c (.d (.ptr cs))=>some (.c (.d (.ptr cs)),[],[],True)
 |.c (.ptr k n)=>match lv k with|.cells ..=>some (.c (.ptr k n),[],[k],True)|_=>none
 |.c (.d (.func (.func f) fs cs))=>some (.c (.d (.func (.func f) fs cs)),[],[],True)
 |.c (.func (.func f) fs cs)=>some (.c (.func (.func f) fs cs),[],[],True)
 |_=>none
def bW(P:Program)(T:TypeId)(f:Nat)(lv:Key->LB):AV->Option cG
 |.c (.d (.ptr cs))=>match jn P T f with|some (off,_)=>some (.c (.d (.ptr (cs.drop off))),[],[],off<=cs.length)|none=>none
 |.c (.ptr k n)=>match lv k,jn P T f with|.cells ..,some (off,_)=>some (.c (.ptr k (n+off)),[],[k],True)|_,_=>none
 |_=>none
def aq(P:Program)(T:TypeId)(lv:Key->LB)(x i:AV):Option cG:=
 match i with
 |.c (.d (.int _ n))=>
  match x with
  |.c (.d (.sl es))=>match eW P T with
   |some (_,sz)=>some (.c (.d (.ptr (es.getD n.toNat []))),[],[],0<=n/\n<es.length/\(es.getD n.toNat []).length=sz)
   |none=>none
  |.c (.aH k off len sz)=>match lv k,eW P T with
   |.cells ..,some (_,sz')=>if sz=sz' then some (.c (.ptr k (off+n.toNat*sz)),[],[k],0<=n/\n<len)else none
   |_,_=>none
  |.c (.d (.ptr cs))=>match Ag P T with
   |some (len,_,sz)=>some (.c (.d (.ptr (cs.drop (n.toNat*sz)))),[],[],0<=n/\n<len/\n.toNat*sz<=cs.length)
   |none=>none
  |.c (.ptr k off)=>match lv k,Ag P T with
   |.cells ..,some (len,_,sz)=>some (.c (.ptr k (off+n.toNat*sz)),[],[k],0<=n/\n<len)
   |_,_=>none
  |_=>none
 |_=>none
def gh(P:Program)(T:TypeId)(x i:AV):Option cG:=
 match i with
 |.c (.d (.int _ n))=>
  match x with
  |.c (.d (.str l))=>if cP P T then some (.c (.d (.int .u8 (l.getD n.toNat 0).toNat)),[],[],0<=n/\n<l.length)else none
  |.agg cs=>match Ag P T with
   |some (len,e,sz)=>match ou P e cs (n.toNat*sz)with|some y=>some (y,[],[],0<=n/\n<len)|none=>none
   |none=>none
  |_=>none
 |_=>none
def bG(P:Program)(T:TypeId)(lv:Key->LB)(x:AV)(lo hi:Option AV):Option cG:=
 match x with
 |.c (.d (.str bs))=>if cP P T then(match ec lo 0,ec hi bs.length with
  |some l,some h=>some (.c (.d (.str ((bs.take h.toNat).drop l.toNat))),[],[],0<=l/\l<=h/\h<=bs.length)
  |_,_=>none)else none
 |.c (.d (.sl es))=>match eW P T with
  |some (_,sz)=>match ec lo 0,ec hi es.length with
   |some l,some h=>some (.c (.d (.sl ((es.take h.toNat).drop l.toNat))),[],[],0<=l/\l<=h/\h<=es.length/\∀e∈es,e.length=sz)
   |_,_=>none
  |none=>none
 |.c (.d .nilsl)=>match eW P T with
  |some _=>match ec lo 0,ec hi 0 with
   |some l,some h=>some (.c (.d .nilsl),[],[],l=0/\h=0)
   |_,_=>none
  |none=>none
 |.c (.aH k off len sz)=>match lv k,eW P T with
  |.cells ..,some (_,sz')=>if sz=sz' then(match ec lo 0,ec hi len with
   |some l,some h=>some (.c (.aH k (off+l.toNat*sz) (h.toNat-l.toNat) sz),[],[k],0<=l/\l<=h/\h<=len/\(l<h\/l=0))
   |_,_=>none)else none
  |_,_=>none
 |_=>none
def gN(P:Program)(T:TypeId)(lv:Key->LB)(κ:Key)(x y:AV):Option cG:=
 match x,y with
 |.c (.d (.int _ l)),.c (.d (.int _ m))=>match eW P T,lv κ with
  |some (e,sz),.hole=>match bI P e,bU P e with
   |some zs,some b=>if zs.length=sz/\0<sz then some (.c (.aH κ 0 l.toNat sz),[(κ,.cells true false e (ja l.toNat zs))],[],0<=l/\l<=m/\(b:Int)*m<=281474976710656/\m<=9223372036854775807)else none
   |_,_=>none
  |_,_=>none
 |_,_=>none
def eo(P:Program)(T:TypeId)(lv:Key->LB)(κ:Key)(y x:AV):Option cG:=
 match eW P T,lv κ with
 |some (e,sz),.hole=>match bU P e,fc lv sz x with
  |some b,some (m,xs)=>
   match y with
   |.c (.d .nilsl)=>some (.c (.aH κ 0 m sz),[(κ,if m=0 then .nils else .cells true false e xs)],keyOf x,m<=9223372036854775807/\m*b<=140737488355328)
   |.c (.aH k off n sz')=>match lv k with
    |.nils=>if off=0/\n=0/\sz'=sz then some (.c (.aH κ 0 m sz),[(κ,if m=0 then .nils else .cells true false e xs)],k::keyOf x,m<=9223372036854775807/\m*b<=140737488355328)else none
    |.cells own false e' cs=>if off=0/\sz'=sz/\e'=e then
     some (.c (.aH κ 0 (n+m) sz),[(k,.dead),(κ,.cells own false e (cs++xs))],keyOf x,cs.length=n*sz/\n+m<=9223372036854775807/\(n+m)*b<=140737488355328)else none
    |_=>none
   |_=>none
  |_,_=>none
 |_,_=>none
def ak(P:Program)(T:TypeId)(n:Nat)(ixs:List Nat)(lv:Key->LB)(κ:Key)(vals:List AV):Option cG:=
 match eW P T,lv κ with
 |some (e,sz),.hole=>match bI P e with
  |some zs=>if zs.length=sz/\0<sz/\n*sz<=16777216/\ixs.length=vals.length then(match kE (λi=>some (i*sz,sz)) (ja n zs) (ixs.zip vals)with
   |some cs=>some (.c (.aH κ 0 n sz),[(κ,.cells true false e cs)],[],True)
   |none=>none)else none
  |none=>none
 |_,_=>none
def iw(P:Program)(T:TypeId)(lv:Key->LB)(y x:AV):Option cG:=
 match y,eW P T with
 |.c (.aH k off n sz),some (_,sz')=>if sz=1/\sz'=1 then(match lv k,fc lv 1 x with
  |.cells own false T' cs,some (m,xs)=>some (.c (.d (.int .i64 ((min m n:Nat):Int))),[(k,.cells own false T' (ai cs off (xs.take (min m n))))],keyOf x,0<m/\off+min m n<=cs.length/\n<=9223372036854775807)
  |_,_=>none)else none
 |_,_=>none
def dF:List AV->Option (IntKind×List Int)
 |[.c (.d (.int k n))]=>some (k,[n])
 |.c (.d (.int k n))::r=>match dF r with|some (k',l)=>if k=k' then some (k,n::l)else none|none=>none
 |_=>none
def lC(P:Program)(cl:Call)(vals:List AV)(lv:Key->LB)(κ:Key):Option cG:=
 match cl.callee with
 |.builtin .len=>match cl.args.toList,cl.argTypes.toList,vals with
  |[_],[T],[x]=>match jA P T lv x with
   |some n=>some (.c (.d (.int .i64 n)),[],keyOf x,oo x n)
   |none=>none
  |_,_,_=>none
 |.builtin .append=>match cl.args.toList,cl.argTypes.toList,vals with
  |[_,_],[T,T'],[y,x]=>if T=T' then eo P T lv κ y x else none
  |_,_,_=>none
 |.builtin .copy=>match cl.args.toList,cl.argTypes.toList,vals with
  |[_,_],[T,_],[y,x]=>iw P T lv y x
  |_,_,_=>none
 |.builtin .max=>match dF vals with
  |some (k,n::l)=>some (.c (.d (.int k (l.foldl (λa b=>if b > a then b else a) n))),[],[],True)
  |_=>none
 |.builtin .min=>match dF vals with
  |some (k,n::l)=>some (.c (.d (.int k (l.foldl (λa b=>if b<a then b else a) n))),[],[],True)
  |_=>none
 |_=>none
def dA(P:Program)(op:Op)(vals:List AV)(lv:Key->LB)(κ:Key):Option cG:=
 match op,vals with
 |.move _,[x]|.assign _,[x]=>some (x,[],[],True)
 |.pick _ _ _,[t,x,y]=>match t with|.c (.d (.bool true))=>some (x,[],[],True)|.c (.d (.bool false))=>some (y,[],[],True)|_=>none
 |.alloc T,[]=>match bI P T,lv κ with|some xs,.hole=>some (.c (.ptr κ 0),[(κ,.cells true false T xs)],[],True)|_,_=>none
 |.box T _,[x]=>match x.cells,lv κ with|some xs,.hole=>some (.c (.ptr κ 0),[(κ,.cells true false T xs)],[],True)|_,_=>none
 |.build T parts,vals=>match bI P T,tJ P T with
  |some zs,some place=>if parts.size=vals.length then(match kE place zs ((parts.toList.map (·.1)).zip vals)with|some cs=>some (.agg cs,[],[],True)|none=>none)else none
  |_,_=>none
 |.buildSlice T n parts,vals=>ak P T n (parts.toList.map (·.1)) lv κ vals
 |.load T _,[x]=>aF P T lv x
 |.store T _ _,[x,y]=>aK P T lv x y
 |.nilCheck _,[x]=>gV lv x
 |.binOp op T _ _ _,[x,y]=>aO P op T x y
 |.unOp op _ _,[x]=>match x with|.c (.d d)=>(match unA op d with|some d'=>some (.c (.d d'),[],[],True)|none=>none)|_=>none
 |.convert S T _,[x]=>match x with
  |.c (.d (.int _ n))=>match ru P S,ru P T with|some _,some k'=>some (.c (.d (.int k' (k'.wrap n))),[],[],True)|_,_=>none
  |.c (.d (.str l))=>if cP P S&&cP P T then some (.c (.d (.str l)),[],[],True)else none
  |_=>none
 |.makeInterface T _,[x]=>match oh x with|some d=>if P.concrete T then some (.c (.d (.iface T d)),[],[],True)else none|none=>none
 |.makeFunc fn first caps,vals=>if vals.length=first.size+caps.size then(match uL (vals.take first.size),uL (vals.drop first.size)with
  |some fr,some cr=>some (.c (AF fn fr cr),[],[],True)
  |_,_=>none)else none
 |.makeSlice T _ _,[x,y]=>gN P T lv κ x y
 |.slice T _ lo hi none,x::rest=>match GR lo hi rest with|some (l,h)=>bG P T lv x l h|none=>none
 |.fieldAddr T _ f,[x]=>bW P T f lv x
 |.field T _ f,[x]=>match x with|.agg cs=>(match jn P T f with|some (off,ft)=>(match ou P ft cs off with|some y=>some (y,[],[],True)|none=>none)|none=>none)|_=>none
 |.indexAddr T _ _,[x,i]=>aq P T lv x i
 |.index T _ _,[x,i]=>gh P T x i
 |.extract _ i,[x]=>match x with|.tup l=>(match l[i]? with|some (.tup _)=>none|some y=>some (y,[],[],True)|none=>none)|_=>none
 |.call cl,vals=>lC P cl vals lv κ
 |_,_=>none
def bg(lv:Key->LB)(us:List (Key×LB)):Key->LB:=us.foldl (λf p=>az f p.1 p.2) lv
section
variable {c:Ctx}{s:aB}{o:Oper}
theorem ya{x:Option α}(h:(x.isSome&&b)=true):x.isSome=true/\b=true:=by grind
theorem S8{d:Nat}(h:KI P d T (.c (.d .nilIface)) (.c (.d .nilIface))=some b):False:=by
 cases d with
 |zero=>cases h
 |succ d=>unfold KI at h;grind
theorem zM{p q:AV}{u:Value}{d:Nat}(hu:V.av u p)(hv:V.av v q)(he:KI P d T p q=some b)(hp:nw p=true)
 (hg:P.eqGuardType P.depth T=false) (hr:(Op.equalIn 10000 T u v).run P V.w=.ok b V.w) :
 (do eqGuard .eql T x y u v;binOp .eql T u v:Sem Value).run P V.w=.ok (.bool b) V.w/\(do eqGuard .neq T x y u v;binOp .neq T u v:Sem Value).run P V.w=.ok (.bool (!b)) V.w:=by
 have hq:(Op.equal T u v).run P V.w=.ok b V.w:=hr
 have key:∀op,op=.eql\/op=.neq->(eqGuard op T x y u v).run P V.w=.ok () V.w:=by
  intro op hop
  have hne:¬(u=.nilIface/\v=.nilIface):=by
   rintro⟨rfl,rfl⟩
   have e1:p=.c (.d .nilIface):=by
    cases p with
    | c z=>cases z <;> simp [nw] at hp
           rename_i z;cases z<;>simp at hp<;>(obtain⟨hu,_⟩:=hu;cases hu);rfl
    |agg cs=>obtain⟨arr,h,_⟩:=hu;cases h
    |tup l=>cases hp
    |undef=>cases hp
    |junk=>cases hp
   subst e1
   have e2:q=.c (.d .nilIface):=by
    cases d with
    |zero=>cases he
    |succ d=>
     unfold KI at he;split at he<;>first|(simp at *;done)|skip
     all_goals (first|(rename_i h1 h2 h3;simp_all;done)|skip)
     all_goals (obtain⟨hv,_⟩:=hv;cases hv)
   subst e2;exact S8 he
  unfold eqGuard;rcases hop with rfl|rfl<;>simp only[Bool.not_true,aeF,if_false]<;>split<;>first|(exfalso;exact hne ⟨rfl,rfl⟩)|(simp[hg];done)|rfl
 have hb:binOp .eql T u v=(do pure (.bool (<-Op.equal T u v)))/\binOp .neq T u v=(do pure (.bool (!(<-Op.equal T u v)))):=by
  cases p with
  |c z=>
   cases z<;>simp[nw]at hp
   rename_i z
   cases z<;>simp at hp<;>(obtain⟨hu,_⟩:=hu;cases hu)<;>exact⟨rfl,rfl⟩
  |agg cs=>obtain⟨arr,rfl,_⟩:=hu;exact⟨rfl,rfl⟩
  |tup l=>cases hp
  |undef=>cases hp
  |junk=>cases hp
 simp_all
theorem Tu{κ:cG}(hd:∀d,o.dst=some d->d<c.n)(ho:o.op=.binOp op T x y T')
 (h:aO c.P op T (s.val c.G x) (s.val c.G y)=some κ) (hvc:κ.2.2.2):bT c o s (aB.put ⟨s.fr,bg s.lv κ.2.1⟩ o.dst κ.1):=by
 have hst:(⟨s.fr,s.lv⟩:aB)=s:=rfl;unfold aO at h;split at h
 ·rename_i k m k' n hx hy
  split at h
  ·split at h
   ·simp only[ah]at h;subst h;exact JE hd ho hx hy (by assumption) hvc
   grind
  ·split at h
   ·simp only[ah]at h;subst h;exact JE hd ho hx hy (by assumption) hvc
   grind
  ·split at h
   ·rename_i hk;subst hk
    split at h
    ·simp only[ah]at h;subst h;exact OC hd ho hx hy (by assumption) hvc
    grind
   grind
 ·rename_i m n hx hy
  split at h
  ·simp only[ah]at h;subst h;exact Qe hd ho hx hy (by assumption) hvc
  grind
 ·split at h
  ·split at h
   ·cases h
   ·rename_i hg
    split at h
    ·rename_i b hb
     simp only[ah]at h;subst h;refine bT.aX hd λF β a w hs=>⟨.bool b,?_,Vw.ob _ _⟩
     have hr:=Cm (Vw.mk F β s.lv w) 20 T _ _ b hb _ _ (hs.val x) (hs.val y) 10000 (by omega);have:=(zM (x:=x) (y:=y) (hs.val x) (hs.val y) hb (by grind) (by grind) hr).1;simp only[execOp,ho];rw[mT,this];rfl
    grind
  ·split at h
   ·cases h
   ·rename_i hg
    split at h
    ·rename_i b hb
     simp only[ah]at h;subst h;refine bT.aX hd λF β a w hs=>⟨.bool (!b),?_,Vw.ob _ _⟩
     have hr:=Cm (Vw.mk F β s.lv w) 20 T _ _ b hb _ _ (hs.val x) (hs.val y) 10000 (by omega);have:=(zM (x:=x) (y:=y) (hs.val x) (hs.val y) hb (by grind) (by grind) hr).2;simp only[execOp,ho];rw[mT,this];rfl
    grind
  grind
theorem Jg{ρ:Operand->AV}{l h:Option AV}(hb:GR lo hi ((lo.toArray++hi.toArray).toList.map ρ)=some (l,h)):l=lo.map ρ/\h=hi.map ρ:=by
 cases lo<;>cases hi<;>simp[GR]at hb ⊢<;>(obtain⟨rfl,rfl⟩:=hb;simp)
theorem eB{β:Type}{f:α->β}{x:α}{y:β}(h:[x].map f=[y]):f x=y:=by grind
theorem nu{b:Callee}{xs:List Operand}(h1:cl.callee=b)(h2:cl.args.toList=xs)(h3:cl.argTypes.toList=ts):
 cl={ callee:=b,args:=xs.toArray,argTypes:=ts.toArray }:=by
 cases cl;simp only at h1 h2 h3;subst h1 h2 h3;simp
theorem pI{V:Vw}:∀{vals:List AV}{k:IntKind}{l:List Int}{vs:List Value},dF vals=some (k,l)->vs.length=vals.length->(∀i (h:i<vs.length) (h':i<vals.length),V.av vs[i] vals[i]) ->
 vs=l.map (Value.int k)
 |[],_,_,_,h,_,_=>by cases h
 |[x],k,l,vs,h,hl,hv=>by
  match vs,hl with
  |[v],_=>
   have h0:=hv 0 (by simp) (by simp);unfold dF at h;split at h
   ·rename_i e
    simp only[ad8,and_true]at e;simp only[ah,M1]at h;obtain⟨rfl,rfl⟩:=h;simp only[aeQ,e]at h0;rw[Vw.eV h0];rfl
   ·grind
   grind
 |x::y::r,k,l,vs,h,hl,hv=>by
  match vs,hl with
  |v::vr,hl=>
   have h0:=hv 0 (by simp) (by simp);unfold dF at h;split at h
   ·grind
   ·rename_i hne e
    simp only[ad8]at e;obtain⟨rfl,rfl⟩:=e;split at h
    ·rename_i k' l' hr
     split at h
     ·rename_i hk;subst hk
      simp only[ah,M1]at h;obtain⟨rfl,rfl⟩:=h;simp only[aeQ]at h0;rw[Vw.eV h0,pI hr (by grind) (λi p q=>hv (i+1) (by grind) (by grind))];rfl
     grind
    grind
   grind
theorem rV{V:Vw}:∀{vals:List AV}{k:IntKind}{l:List Int}{vs:List Value},dF vals=some (k,l)->vs.length=vals.length->(∀i (h:i<vs.length) (h':i<vals.length),V.av vs[i] vals[i]) ->
 ∀m∈l,k.wrap m=m
 |[],_,_,_,h,_,_=>by cases h
 |[x],k,l,vs,h,hl,hv=>by
  match vs,hl with
  |[v],_=>
   have h0:=hv 0 (by simp) (by simp);unfold dF at h;split at h
   ·rename_i e
    simp only[ad8,and_true]at e;simp only[ah,M1]at h;obtain⟨rfl,rfl⟩:=h;simp only[aeQ,e]at h0;simp only[afe];rintro m rfl;exact Vw.tQ h0
   ·grind
   grind
 |x::y::r,k,l,vs,h,hl,hv=>by
  match vs,hl with
  |v::vr,hl=>
   have h0:=hv 0 (by simp) (by simp);unfold dF at h;split at h
   ·grind
   ·rename_i hne e
    simp only[ad8]at e;obtain⟨rfl,rfl⟩:=e;split at h
    ·rename_i k' l' hr
     split at h
     ·rename_i hk;subst hk
      simp only[ah,M1]at h;obtain⟨rfl,rfl⟩:=h;simp only[aeQ]at h0;intro m hm;rcases List.mem_cons.1 hm with rfl|hm
      ·exact Vw.tQ h0
      ·exact rV hr (by grind) (λi p q=>hv (i+1) (by grind) (by grind)) m hm
     grind
    grind
   grind
theorem sP{f:Int->Int->Int}(hf:∀a b,f a b=a\/f a b=b):∀(l:List Int) (n:Int),l.foldl f n∈n::l
 |[],n=>by simp
 |x::l,n=>by
  have h:=sP hf l (f n x)
  grind
theorem x8{P:Program}{k:IntKind}(w:World):∀(l:List Int) (n:Int),((l.map (Value.int k)).foldlM Builtin.max2 (.int k n)).run P w=.ok (.int k (l.foldl (λa b=>if b > a then b else a) n)) w
 |[],n=>rfl
 |x::l,n=>by
  simp only[adK,List.foldlM_cons,afO,mT];have:(Builtin.max2 (.int k n) (.int k x)).run P w=.ok (.int k (if x > n then x else n)) w:=rfl;rw[this,sr];exact x8 w l _
theorem x9{P:Program}{k:IntKind}(w:World):∀(l:List Int) (n:Int),((l.map (Value.int k)).foldlM Builtin.min2 (.int k n)).run P w=.ok (.int k (l.foldl (λa b=>if b<a then b else a) n)) w
 |[],n=>rfl
 |x::l,n=>by
  simp only[adK,List.foldlM_cons,afO,mT];have:(Builtin.min2 (.int k n) (.int k x)).run P w=.ok (.int k (if x<n then x else n)) w:=rfl;rw[this,sr];exact x9 w l _
theorem Lp(hd:∀d,o.dst=some d->d<c.n)(ho:o.op=.call cl)(hv:(Op.call cl).operands.toList.map (s.val c.G)=vals)
 (h:lC c.P cl vals s.lv κ=some r) (hvc:r.2.2.2):bT c o s (aB.put ⟨s.fr,bg s.lv r.2.1⟩ o.dst r.1):=by
 unfold lC at h;split at h
 ·rename_i hcal
  split at h
  ·rename_i a0 T x ha ht
   have hcl:=nu hcal ha ht;subst hcl;have h1:s.val c.G a0=x:=by simpa[Op.operands,Call.operands]using hv
   split at h
   ·simp only[ah]at h;subst h;exact TH hd ho (by grind) (by grind)
   grind
  ·cases h
 ·rename_i hcal
  split at h
  ·rename_i a0 a1 T T' y x ha ht
   have hcl:=nu hcal ha ht;subst hcl;have h12:s.val c.G a0=y/\s.val c.G a1=x:=by simpa[Op.operands,Call.operands]using hv
   obtain⟨h1,h2⟩:=h12;split at h
   ·rename_i hTT;subst hTT
    unfold eo at h;split at h
    ·rename_i e sz hT hk
     split at h
     ·rename_i b m xs hb hx
      obtain⟨i,z,hi,hz1,hz2,hz3⟩:=wv hb;obtain⟨hu,hie,hsz⟩:=cN hT;have hsize:z.cells.size=sz:=by rw[hz2,<-hsz];simp[jf,hi]
      split at h
      ·simp only[ah]at h;subst h;exact zc hd ho hk h1 hT hi hz1 (by grind) hsize hvc.1 (by grind)
      ·split at h
       ·split at h
        ·rename_i hc
         obtain⟨rfl,rfl,rfl⟩:=hc;simp only[ah]at h;subst h;exact wN hd ho hk hT hi hz1 h1 (by assumption) (by grind) hsize hvc.1 (by grind)
        grind
       ·split at h
        ·rename_i hc
         obtain⟨rfl,rfl,rfl⟩:=hc;simp only[ah]at h;subst h;exact ze hd ho hk hT hi hz1 h1 (by assumption) hvc.1 (by grind) hsize hvc.2.1 (by grind)
        grind
       grind
      grind
     grind
    grind
   grind
  ·cases h
 ·rename_i hcal
  split at h
  ·rename_i a0 a1 T T' y x ha ht
   have hcl:=nu hcal ha ht;subst hcl;have h12:s.val c.G a0=y/\s.val c.G a1=x:=by simpa[Op.operands,Call.operands]using hv
   obtain⟨h1,h2⟩:=h12;unfold iw at h;split at h
   ·rename_i k off n sz e sz' hT
    split at h
    ·rename_i hsz
     obtain⟨rfl,rfl⟩:=hsz;split at h
     ·rename_i own T0 cs m xs hk hx
      simp only[ah]at h;subst h;obtain⟨g1,g2,g3⟩:=hvc;exact MK hd ho h1 hk hT (by grind) g1 g2 g3
     grind
    grind
   grind
  ·cases h
 ·rename_i hcal
  split at h
  ·rename_i k n l hi
   simp only[ah]at h;subst h;refine bT.aX hd λF β a w hs=>?_
   have hall:(cl.args.toList.map a.eval).length=vals.length/\∀i (h:i<(cl.args.toList.map a.eval).length) (h':i<vals.length),(Vw.mk F β s.lv w).av (cl.args.toList.map a.eval)[i] vals[i]:=by
    refine⟨?_,?_⟩
    ·rw[<-hv];simp[Op.operands,Call.operands,hcal]
    ·intro i p q;subst hv;simp only[Op.operands,Call.operands,hcal,af7,ab5]at q ⊢;exact hs.val _
   have hargs:cl.args.toList.map a.eval=(n::l).map (Value.int k):=pI (V:=Vw.mk F β s.lv w) hi hall.1 hall.2;have hrng:=rV (V:=Vw.mk F β s.lv w) hi hall.1 hall.2 _ (sP (f:=λa b=>if b > a then b else a) (λa b=>by by_cases h:b > a<;>simp[h]) l n);refine⟨.int k (l.foldl (λa b=>if b > a then b else a) n),?_,Vw.mI _ _ _ hrng⟩
   have hm:(Builtin.max_ cl.argTypes o.type (cl.args.map a.eval)).run c.P w=.ok (.int k (l.foldl (λa b=>if b > a then b else a) n)) w:=by
    simp only[Builtin.max_,Array.toList_map,hargs,adK];exact x8 w l n
   simp[execOp,ho,resolve,hcal,invoke,builtin,hm]
  ·cases h
 ·rename_i hcal
  split at h
  ·rename_i k n l hi
   simp only[ah]at h;subst h;refine bT.aX hd λF β a w hs=>?_
   have hall:(cl.args.toList.map a.eval).length=vals.length/\∀i (h:i<(cl.args.toList.map a.eval).length) (h':i<vals.length),(Vw.mk F β s.lv w).av (cl.args.toList.map a.eval)[i] vals[i]:=by
    refine⟨?_,?_⟩
    ·rw[<-hv];simp[Op.operands,Call.operands,hcal]
    ·intro i p q;subst hv;simp only[Op.operands,Call.operands,hcal,af7,ab5]at q ⊢;exact hs.val _
   have hargs:cl.args.toList.map a.eval=(n::l).map (Value.int k):=pI (V:=Vw.mk F β s.lv w) hi hall.1 hall.2;have hrng:=rV (V:=Vw.mk F β s.lv w) hi hall.1 hall.2 _ (sP (f:=λa b=>if b<a then b else a) (λa b=>by by_cases h:b<a<;>simp[h]) l n);refine⟨.int k (l.foldl (λa b=>if b<a then b else a) n),?_,Vw.mI _ _ _ hrng⟩
   have hm:(Builtin.min_ cl.argTypes o.type (cl.args.map a.eval)).run c.P w=.ok (.int k (l.foldl (λa b=>if b<a then b else a) n)) w:=by
    simp only[Builtin.min_,Array.toList_map,hargs,adK];exact x9 w l n
   simp[execOp,ho,resolve,hcal,invoke,builtin,hm]
  ·cases h
 ·cases h
theorem Bv{op:Op}(hd:∀d,o.dst=some d->d<c.n)(ho:o.op=op)(hv:op.operands.toList.map (s.val c.G)=vals)
 (h:dA c.P op vals s.lv κ=some r) (hvc:r.2.2.2):bT c o s (aB.put ⟨s.fr,bg s.lv r.2.1⟩ o.dst r.1):=by
 unfold dA at h;split at h
 ·
  simp only[ah]at h;subst h;have:=eB hv;subst this;exact FL hd (.inl ho)
 ·simp only[ah]at h;subst h;have:=eB hv;subst this;exact FL hd (.inr ho)
 ·
  simp only[Op.operands,adK,aeD,ad8,and_true]at hv;obtain⟨h1,h2,h3⟩:=hv;split at h
  ·simp only[ah]at h;subst h;subst h2;exact FC hd ho h1
  ·simp only[ah]at h;subst h;subst h3;exact FC hd ho h1
  ·cases h
 ·
  split at h
  ·rename_i xs hz hk
   simp only[ah]at h;subst h;obtain⟨z,hz1,hz2⟩:=l5 hz;exact Lb hd ho hk hz1 hz2
  ·cases h
 ·
  have h1:=eB hv;split at h
  ·rename_i xs hx hk
   simp only[ah]at h;subst h;exact RN hd ho hk (by grind)
  grind
 ·
  split at h
  ·rename_i zs place hz hp
   split at h
   ·split at h
    ·rename_i cs hf
     simp only[ah]at h;subst h;obtain⟨z,hz1,hz2⟩:=l5 hz;refine KW hd ho hz1 hz2 hp ?_;rw[<-hf];congr 1;rw[<-hv];simp only[Op.operands,aed]
     grind
    ·cases h
   ·cases h
  ·cases h
 ·
  unfold ak at h;split at h
  ·rename_i e sz hT hk
   split at h
   ·rename_i zs hz
    split at h
    ·rename_i hc
     split at h
     ·rename_i cs hf
      simp only[ah]at h;subst h;obtain⟨z,hz1,hz2⟩:=l5 hz;refine yP hd ho hk hT hz1 hz2 hc.1 hc.2.1 hc.2.2.1 ?_;rw[<-hf];congr 1;rw[<-hv];simp only[Op.operands,aed]
      grind
     ·cases h
    ·cases h
   ·cases h
  ·cases h
 ·
  have h1:=eB hv;unfold aF at h;split at h
  ·split at h
   ·simp only[ah]at h;subst h;exact HC hd ho h1 (by assumption)
   grind
  ·split at h
   ·split at h
    ·simp only[ah]at h;subst h;exact HU hd ho h1 (by assumption) (by assumption)
    grind
   grind
  grind
 ·
  simp only[Op.operands,adK,aeD,ad8,and_true]at hv;obtain⟨h1,h2⟩:=hv;unfold aK at h;split at h
  ·split at h
   ·split at h
    ·split at h
     ·rename_i hc
      simp only[ah]at h;subst h;obtain⟨h3,h4⟩:=ya hc;exact KU hd ho h1 (by assumption) (by grind) h3 (by grind) hvc
     ·cases h
    ·cases h
   ·cases h
  ·cases h
 ·
  have h1:=eB hv;unfold gV at h;split at h
  ·simp only[ah]at h;subst h;exact zU hd ho h1
  ·split at h
   ·simp only[ah]at h;subst h;exact yw hd ho h1 (by assumption)
   grind
  ·simp only[ah]at h;subst h;exact yO hd ho h1 (λm e=>by cases e)
  ·simp only[ah]at h;subst h;exact wS hd ho h1 (λm e=>by cases e)
  grind
 ·
  simp only[Op.operands,adK,aeD,ad8,and_true]at hv;obtain⟨h1,h2⟩:=hv;subst h1 h2;exact Tu hd ho h hvc
 ·
  have h1:=eB hv;split at h
  ·split at h
   ·simp only[ah]at h;subst h;exact NL hd ho h1 (by assumption)
   grind
  grind
 ·
  have h1:=eB hv;split at h
  ·split at h
   ·rename_i e1 e2
    simp only[ah]at h;subst h;exact CY hd ho h1 (by grind) e2
   grind
  ·split at h
   ·rename_i hc
    simp only[ah]at h;subst h;simp only[rP]at hc;exact B4 hd ho h1 hc.1 hc.2
   grind
  grind
 ·
  have h1:=eB hv;split at h
  ·split at h
   ·simp only[ah]at h;subst h;exact DW hd ho (by grind) (by assumption)
   grind
  grind
 ·
  split at h
  ·rename_i hl
   split at h
   ·rename_i fr cr e1 e2
    simp only[ah]at h;subst h;simp only[Op.operands,Array.toList_append,aeR]at hv;subst hv;rw[List.take_left' (by simp)]at e1;rw[afQ (by simp)]at e2;exact Hh hd ho e1 e2
   ·cases h
  ·cases h
 ·
  simp only[Op.operands,adK,aeD,ad8,and_true]at hv;obtain⟨h1,h2⟩:=hv;unfold gN at h;split at h
  ·split at h
   ·rename_i e sz hT hk
    split at h
    ·rename_i zs b hz hb
     split at h
     ·rename_i hc
      simp only[ah]at h;subst h;obtain⟨i,z,hi,hz1,hz2,hz3⟩:=wv hb;obtain⟨z',hz4,hz5⟩:=l5 hz;rw[hi]at hz4;simp only[Option.bind_some]at hz4;rw[hz1]at hz4;cases hz4;obtain⟨v1,v2,v3,v4⟩:=hvc;exact O0 hd ho hk h1 h2 hT hi hz1 hz5 hc.1 hc.2 v1 v2 (by grind) v4
     ·cases h
    ·cases h
   ·cases h
  ·cases h
 ·
  rename_i T x lo hi v rest
  simp only[Op.operands,Option.toArray_none,Array.append_empty,Array.append_assoc,Array.toList_append,aeR,adK,aeX,aeT,ad8]at hv;obtain⟨h1,h2⟩:=hv;split at h
  ·rename_i l hh hb
   rw[<-h2,<-aeR,<-Array.toList_append]at hb;obtain⟨rfl,rfl⟩:=Jg hb;unfold bG at h;split at h
   ·split at h
    ·rename_i hs
     split at h
     ·simp only[ah]at h;subst h;obtain⟨v1,v2,v3⟩:=hvc;exact Al hd ho h1 (gb hs) (by assumption) (by assumption) v1 v2 v3
     ·cases h
    ·cases h
   ·split at h
    ·rename_i hT
     split at h
     ·simp only[ah]at h;subst h;obtain⟨v1,v2,v3,v4⟩:=hvc;exact Gu hd ho h1 hT v4 (by assumption) (by assumption) v1 v2 v3
     ·cases h
    ·cases h
   ·split at h
    ·rename_i hT
     split at h
     ·simp only[ah]at h;subst h;exact Ao hd ho h1 hT (by assumption) (by assumption) hvc.1 hvc.2
     ·cases h
    ·cases h
   ·split at h
    ·rename_i hk hT
     split at h
     ·rename_i hsz;subst hsz
      split at h
      ·simp only[ah]at h;subst h;obtain⟨v1,v2,v3,v4⟩:=hvc;exact DJ hd ho h1 hk hT (by assumption) (by assumption) v1 v2 v3 v4
      ·cases h
     ·cases h
    ·cases h
   ·cases h
  ·cases h
 ·
  have h1:=eB hv;unfold bW at h;split at h
  ·split at h
   ·simp only[ah]at h;subst h;exact wR hd ho h1 (by assumption) hvc
   grind
  ·split at h
   ·simp only[ah]at h;subst h;exact wV hd ho h1 (by assumption) (by assumption)
   grind
  grind
 ·
  have h1:=eB hv;split at h
  ·split at h
   ·split at h
    ·simp only[ah]at h;subst h;exact L3 hd ho h1 (by assumption) (by assumption)
    grind
   grind
  grind
 ·
  simp only[Op.operands,adK,aeD,ad8,and_true]at hv;obtain⟨h1,h2⟩:=hv;unfold aq at h;split at h
  ·split at h
   ·rename_i es _
    split at h
    ·simp only[ah]at h;subst h;obtain⟨v1,v2,v3⟩:=hvc;refine wT hd ho h1 h2 (by assumption) v1 ?_ v3
     grind
    ·cases h
   ·split at h
    ·split at h
     ·rename_i hsz;subst hsz
      simp only[ah]at h;subst h;exact wM hd ho h1 (by assumption) h2 (by assumption) hvc.1 hvc.2
     ·cases h
    ·cases h
   ·split at h
    ·simp only[ah]at h;subst h;exact u7 hd ho h1 h2 (by assumption) hvc.1 hvc.2.1 hvc.2.2
    ·cases h
   ·split at h
    ·simp only[ah]at h;subst h;exact vE hd ho h1 (by assumption) h2 (by assumption) hvc.1 hvc.2
    ·cases h
   ·cases h
  ·cases h
 ·
  simp only[Op.operands,adK,aeD,ad8,and_true]at hv;obtain⟨h1,h2⟩:=hv;unfold gh at h;split at h
  ·split at h
   ·split at h
    ·rename_i hs
     simp only[ah]at h;subst h;refine An hd ho h1 h2 (gb hs) hvc.1 ?_
     grind
    ·cases h
   ·split at h
    ·split at h
     ·simp only[ah]at h;subst h;exact Aq hd ho h1 h2 (by assumption) hvc.1 hvc.2 (by assumption)
     ·cases h
    ·cases h
   ·cases h
  ·cases h
 ·
  have h1:=eB hv;split at h
  ·split at h
   ·cases h
   ·rename_i y hnt hy
    simp only[ah]at h;subst h;exact FB hd ho h1 hy (λl' e=>hnt l' e)
   grind
  grind
 ·
  rename_i cl vals'
  exact Lp hd ho hv h hvc
 ·cases h
def Agree(lv lv':Key->LB)(us:List (Key×LB))(rds:List Key):Prop:=(∀k∈rds,lv' k=lv k)/\∀p∈us,lv' p.1=lv p.1
theorem lI{x:AV}{r:Nat×List CV}(h:fc lv sz x=some r)(hk:∀k∈keyOf x,lv' k=lv k):fc lv' sz x=some r:=by
 rw[<-h];unfold fc;split<;>first|rfl|skip;rw[hk _ (by simp[keyOf])]
theorem Il{x:AV}{r:Int}(h:jA P T lv x=some r)(hk:∀k∈keyOf x,lv' k=lv k):jA P T lv' x=some r:=by
 rw[<-h];unfold jA;split<;>first|rfl|skip;rw[hk _ (by simp[keyOf])]
theorem zS{x:AV}(h:aF P T lv x=some r)(ha:Agree lv lv' r.2.1 r.2.2.1):aF P T lv' x=some r:=by
 have h0:=h;unfold aF at h ⊢;split at h
 ·exact h
 ·split at h
  ·rename_i e
   split at h
   ·rename_i e2
    simp only[ah]at h;subst h;have:=ha.1 _ (List.mem_singleton.2 rfl)
    grind
   grind
  grind
 omega
theorem wU{x y:AV}(h:aK P T lv x y=some r)(ha:Agree lv lv' r.2.1 r.2.2.1):aK P T lv' x y=some r:=by
 unfold aK at h ⊢;split at h
 ·split at h
  ·rename_i e
   split at h
   ·rename_i e2
    split at h
    ·rename_i e3
     simp only[ah]at h;subst h;have:=ha.2 _ (List.mem_singleton.2 rfl)
     grind
    grind
   grind
  grind
 omega
theorem Aw{x:AV}(h:gV lv x=some r)(ha:Agree lv lv' r.2.1 r.2.2.1):gV lv' x=some r:=by
 unfold gV at h ⊢;split at h
 ·exact h
 ·split at h
  ·rename_i e
   simp only[ah]at h;subst h;have:=ha.1 _ (List.mem_singleton.2 rfl)
   grind
  grind
 ·exact h
 ·exact h
 omega
theorem qz{f:Nat}{x:AV}(h:bW P T f lv x=some r)(ha:Agree lv lv' r.2.1 r.2.2.1):bW P T f lv' x=some r:=by
 unfold bW at h ⊢;split at h
 ·exact h
 ·split at h
  ·rename_i e e2
   simp only[ah]at h;subst h;have:=ha.1 _ (List.mem_singleton.2 rfl)
   grind
  grind
 omega
theorem rB{x i:AV}(h:aq P T lv x i=some r)(ha:Agree lv lv' r.2.1 r.2.2.1):aq P T lv' x i=some r:=by
 unfold aq at h ⊢;split at h
 ·split at h
  ·exact h
  ·split at h
   ·rename_i e e2
    split at h
    ·rename_i e3
     simp only[ah]at h;subst h;have:=ha.1 _ (List.mem_singleton.2 rfl)
     grind
    grind
   grind
  ·exact h
  ·split at h
   ·rename_i e e2
    simp only[ah]at h;subst h;have:=ha.1 _ (List.mem_singleton.2 rfl)
    grind
   grind
  omega
 omega
theorem wI{x:AV}{lo hi:Option AV}(h:bG P T lv x lo hi=some r)(ha:Agree lv lv' r.2.1 r.2.2.1):bG P T lv' x lo hi=some r:=by
 unfold bG at h ⊢;split at h
 ·exact h
 ·exact h
 ·exact h
 ·split at h
  ·rename_i e e2
   split at h
   ·rename_i e3
    split at h
    ·rename_i e4 e5
     simp only[ah]at h;subst h;have:=ha.1 _ (List.mem_singleton.2 rfl)
     grind
    grind
   grind
  grind
 omega
theorem zT{x y:AV}(h:gN P T lv κ x y=some r)(ha:Agree lv lv' r.2.1 r.2.2.1):gN P T lv' κ x y=some r:=by
 unfold gN at h ⊢;split at h
 ·split at h
  ·rename_i e e2
   split at h
   ·rename_i e3 e4
    split at h
    ·rename_i e5
     simp only[ah]at h;subst h;have:=ha.2 _ (List.mem_singleton.2 rfl)
     grind
    grind
   grind
  grind
 omega
theorem o7{n:Nat}{ixs:List Nat}(h:ak P T n ixs lv κ vals=some r)(ha:Agree lv lv' r.2.1 r.2.2.1):ak P T n ixs lv' κ vals=some r:=by
 unfold ak at h ⊢;split at h
 ·rename_i e e2
  split at h
  ·rename_i e3
   split at h
   ·rename_i e4
    split at h
    ·rename_i e5
     simp only[ah]at h;subst h;have:=ha.2 _ (List.mem_singleton.2 rfl)
     grind
    grind
   grind
  grind
 grind
theorem uY{y x:AV}(h:eo P T lv κ y x=some r)(ha:Agree lv lv' r.2.1 r.2.2.1):eo P T lv' κ y x=some r:=by
 unfold eo at h ⊢;split at h
 ·rename_i e e2
  split at h
  ·rename_i e3 e4
   split at h
   ·simp only[ah]at h;subst h;have h1:=ha.2 _ (List.mem_singleton.2 rfl);simp only at h1;have h2:=lI e4 (λk hk=>ha.1 k hk)
    grind
   ·split at h
    ·rename_i e5
     split at h
     ·rename_i e6
      simp only[ah]at h;subst h;have h1:=ha.2 _ (List.mem_singleton.2 rfl);simp only at h1;have h2:=lI e4 (λk hk=>ha.1 k (aew _ hk));have h3:=ha.1 _ (aen)
      grind
     grind
    ·rename_i e5
     split at h
     ·rename_i e6
      simp only[ah]at h;subst h;have h1:=ha.2 _ (aew _ (List.mem_singleton.2 rfl));simp only at h1;have h2:=lI e4 (λk hk=>ha.1 k hk);have h3:=ha.2 _ (aen)
      grind
     grind
    grind
   grind
  grind
 grind
theorem yh{y x:AV}(h:iw P T lv y x=some r)(ha:Agree lv lv' r.2.1 r.2.2.1):iw P T lv' y x=some r:=by
 unfold iw at h ⊢;split at h
 ·rename_i k off n sz e sz' hT
  split at h
  ·rename_i hsz
   split at h
   ·rename_i own T0 cs m xs hk hx
    simp only[ah]at h;subst h;have h1:=ha.2 _ (List.mem_singleton.2 rfl);simp only at h1;have h2:=lI hx ha.1
    grind
   grind
  grind
 omega
theorem Gk(h:lC P cl vals lv κ=some r)(ha:Agree lv lv' r.2.1 r.2.2.1):lC P cl vals lv' κ=some r:=by
 unfold lC at h ⊢;split at h
 ·split at h
  ·split at h
   ·rename_i e
    simp only[ah]at h;subst h;rw[Il e ha.1]
   grind
  omega
 ·split at h
  ·split at h
   ·rename_i e;exact(by rw[if_pos e];exact uY h ha)
   grind
  omega
 ·split at h
  ·exact yh h ha
  omega
 ·exact h
 ·exact h
 omega
theorem oZ{op:Op}(h:dA P op vals lv κ=some r)(ha:Agree lv lv' r.2.1 r.2.2.1):dA P op vals lv' κ=some r:=by
 unfold dA at h ⊢;split at h
 ·exact h
 ·exact h
 ·exact h
 ·split at h
  ·rename_i e e2
   simp only[ah]at h;subst h;have:=ha.2 _ (List.mem_singleton.2 rfl)
   grind
  grind
 ·split at h
  ·rename_i e e2
   simp only[ah]at h;subst h;have:=ha.2 _ (List.mem_singleton.2 rfl)
   grind
  grind
 ·exact h
 ·exact o7 h ha
 ·exact zS h ha
 ·exact wU h ha
 ·exact Aw h ha
 ·exact h
 ·exact h
 ·exact h
 ·exact h
 ·exact h
 ·exact zT h ha
 ·split at h
  ·exact wI h ha
  omega
 ·exact qz h ha
 ·exact h
 ·exact rB h ha
 ·exact h
 ·exact h
 ·exact Gk h ha
 omega
end
def QZ:DV->AV
 |.agg l=>.agg (l.map .d)
 |x=>.c (.d x)
def jd.cv:jd->CV
 |.d x=>.d x
 |.ptr k o=>.ptr k o
 |.aH k o l z=>.aH k o l z
theorem Vw.Sw{x:jd}(h:V.ng v x):V.cv v x.cv:=by
 cases x<;>exact h
def wj:Ref->AV
 |.d x=>QZ x
 |.ptr k o=>.c (.ptr k o)
 |.aH k o l z=>.c (.aH k o l z)
 |.agg cs=>.agg (cs.map jd.cv)
 |.ifc t x=>.c (.ifc t x)
theorem Vw.QZ(h:Rd V.mem v d):V.av v (Am.QZ d):=by
 cases d with
 |agg l=>
  cases h with
  |agg arr cs hl ho hr=>
   refine⟨arr,rfl,by grind,λi p q=>?_⟩;simp only[ab5];exact⟨hr i (by omega),ho i q⟩
 |_=>exact⟨h,by rw[Rd.TM h];rfl⟩
theorem Vw.wj{r:Ref}(h:V.ref v r):V.av v (Am.wj r):=by
 cases r with
 |d x=>exact V.QZ h
 |ptr k o=>exact h
 |aH k o l z=>exact h
 |agg cs=>
  obtain⟨arr,rfl,h1,h2⟩:=h;exact⟨arr,rfl,by grind,λi a b=>by simp only[ab5];exact V.Sw (h2 i (by omega) b)⟩
 |ifc t x=>exact h
def jW:AV->Option (FuncId×List AV×List AV)
 |.c (.d (.func (.func f) fs cs))=>some (f,fs.map QZ,cs.map QZ)
 |.c (.func (.func f) fs cs)=>some (f,fs.map wj,cs.map wj)
 |_=>none
def aJ(P:Program)(f:FuncId):Bool:=
 match P.funcs[f]? with
 |some fn=>fn.body.isSome&&fn.name != "runtime.NumGoroutine"
 |none=>false
theorem nE(h:aJ P f=true)(args:Array Value)(w:World):(callFunc f args).run P w=.ok (.enter f args) w:=by
 unfold aJ at h;unfold callFunc;split at h
 ·rename_i fn hf
  simp only[rP,bne_iff_ne]at h;simp only[mT,run_program,sr,hf];have h1:(fn.name == "runtime.NumGoroutine")=false:=by simpa using h.2
  have h2:fn.body.isNone=false:=by
   cases e:fn.body with
   |none=>rw[e]at h;simp at h
   |some b=>rfl
  rw[h1,h2];rfl
 grind
theorem FD{fv:Value}{x:AV}{cs:List AV}(h:V.av fv x)(ht:jW x=some (f,fs,cs)):
 ∃fs' cs':Array Value,fv=.func (.func f) fs' cs'/\fs'.size=fs.length/\cs'.size=cs.length/\(∀i (h:i<fs.length) (h':i<fs'.size),V.av fs'[i] fs[i])/\(∀i (h:i<cs.length) (h':i<cs'.size),V.av cs'[i] cs[i]):=by
 unfold jW at ht;split at ht
 ·simp only[ah,M1]at ht;obtain⟨rfl,rfl,rfl⟩:=ht;obtain⟨h,_⟩:=h
  cases h with
  |func _ fs' cs' fd cd hf hc hrf hrc=>
   refine⟨fs',cs',rfl,by grind,by grind,λi p q=>?_,λi p q=>?_⟩
   ·simp only[ab5];exact V.QZ (hrf i (by omega))
   ·simp only[ab5];exact V.QZ (hrc i (by omega))
 ·simp only[ah,M1]at ht;obtain⟨rfl,rfl,rfl⟩:=ht;obtain⟨fs',cs',rfl,h1,h2,h3,h4⟩:=h;refine⟨fs',cs',rfl,by grind,by grind,λi p q=>?_,λi p q=>?_⟩
  ·simp only[ab5];exact V.wj (h3 i (by omega) q)
  ·simp only[ab5];exact V.wj (h4 i (by omega) q)
 grind
def WO:TypeDesc->Bool
 |.pointer _=>true
 |_=>false
def y8(P:Program)(t:TypeId)(name:String):Option FuncId:=
 (P.info? t).bind λi=>(P.underlying t).bind λd=>(i.methods.find? (·.name == name)).bind λm=>m.func.bind λp=>
  if WO d ||p.2 || !m.path.isEmpty then none else some p.1
theorem HM(h:y8 P t name=some f)(n:Nat)(v:Value)(w:World):(method (n+1) t v name).run P w=.ok (f,v) w:=by
 unfold y8 at h;obtain⟨i,hi,h⟩:=Option.bind_eq_some_iff.1 h;obtain⟨d,hd,h⟩:=Option.bind_eq_some_iff.1 h;obtain⟨m,hm,h⟩:=Option.bind_eq_some_iff.1 h;obtain⟨⟨g,b⟩,hf,h⟩:=Option.bind_eq_some_iff.1 h;split at h
 ·cases h
 rename_i hc
 cases h
 simp only[aeV,aee,not_or,Bool.not_eq_true,Bool.not_eq_false]at hc;obtain⟨⟨h1,rfl⟩,h2⟩:=hc;have hp':m.path.toList=[]:=by simpa using h2
 unfold method;simp only[mT,typeInfo,run_program,sr,hi,aer,hm,hp',follow,hf,receiverAt,run_underlying hd]
 cases d<;>first|(cases h1;done)|simp[Place.get]
def Hw(P:Program)(name:String):AV->Option (FuncId×List AV×List AV)
 |.c (.d (.iface t d))=>(y8 P t name).map λf=>(f,[QZ d],[])
 |.c (.ifc t x)=>(y8 P t name).map λf=>(f,[wj x],[])
 |_=>none
def nR(P:Program)(val:Operand->AV):Callee->Option (FuncId×List AV×List AV)
 |.value fo=>jW (val fo)
 |.invoke x n=>Hw P n (val x)
 |.builtin _=>none
theorem yC{val val':Operand->AV}(h:∀y∈(Op.call cl).operands.toList,val y=val' y):nR P val cl.callee=nR P val' cl.callee/\cl.args.toList.map val=cl.args.toList.map val':=by
 have ha:∀y∈cl.args.toList,val y=val' y:=λy hy=>h y (by
  cases hc:cl.callee<;>simp only[Op.operands,Call.operands,hc]<;>simp at hy ⊢<;>simp[hy])
 refine⟨?_,aes ha⟩
 cases hc:cl.callee with
 |builtin b=>rfl
 |value x=>simp only[nR,h x (by simp[Op.operands,Call.operands,hc])]
 |invoke x n=>simp only[nR,h x (by simp[Op.operands,Call.operands,hc])]
theorem HQ{rv:Value}{x:AV}{cs:List AV}(h:V.av rv x)(ht:Hw P name x=some (f,fs,cs)):
 ∃t v y,rv=.iface t v/\y8 P t name=some f/\fs=[y]/\cs=[]/\V.av v y:=by
 unfold Hw at ht;split at ht
 ·rename_i t d
  simp only[aek,M1]at ht;obtain⟨g,hg,rfl,rfl,rfl⟩:=ht;obtain⟨h,_⟩:=h
  cases h with
  |iface _ v' _ hr=>exact⟨t,v',_,rfl,hg,rfl,rfl,V.QZ hr⟩
 ·rename_i t y
  simp only[aek,M1]at ht;obtain⟨g,hg,rfl,rfl,rfl⟩:=ht;obtain⟨v',rfl,h1⟩:=h;exact⟨t,v',_,rfl,hg,rfl,rfl,V.wj h1⟩
 ·cases ht
def CV.flat:CV->Bool
 |.d x=>x.pK
 |_=>false
def AV.JL:AV->Bool
 |.c x=>x.flat
 |.agg cs=>cs.all CV.flat
 |_=>false
def AV.flat:AV->Bool
 |.tup l=>l.all AV.JL
 |x=>x.JL
theorem Rd.fZ(h:Rd M v d)(hd:d.pK=true):Rd M' v d:=by
 cases h<;>simp[DV.pK]at hd
 ·exact .bool _
 ·exact .int _ _ (by assumption)
 ·exact .str _ (by assumption)
theorem Vw.C1{x:CV}(h:V.cv v x)(hx:x.flat=true):V'.cv v x:=by
 cases x<;>simp[CV.flat]at hx
 exact⟨Rd.fZ h.1 hx,h.2⟩
theorem Vw.E9{x:AV}(h:V.oq v x)(hx:x.JL=true):V'.oq v x:=by
 cases x with
 |c x=>exact Vw.C1 (x:=x) h hx
 |agg cs=>
  obtain⟨arr,rfl,h1,h2⟩:=h;simp only[AV.JL,adV]at hx;exact⟨arr,rfl,h1,λi p q=>Vw.C1 (h2 i p q) (hx _ (aT p))⟩
 |tup l=>cases hx
 |undef=>cases hx
 |junk=>cases hx
theorem Vw.Ro{x:AV}(h:V.av v x)(hx:x.flat=true):V'.av v x:=by
 cases x with
 |c x=>exact Vw.C1 (x:=x) h hx
 |agg cs=>exact Vw.E9 (x:=.agg cs) h hx
 |tup l=>
  obtain⟨arr,rfl,h1,h2⟩:=h;simp only[AV.flat,adV]at hx;exact⟨arr,rfl,h1,λi p q=>Vw.E9 (h2 i p q) (hx _ (aT p))⟩
 |undef=>cases hx
 |junk=>cases hx
def eZ(lv:Key->LB):AV->Option (AV×List Key)
 |.c x=>(gu lv 8 x).map λp=>(.c (.d p.1),p.2)
 |.agg cs=>(iY (gu lv 8) cs).map λp=>(.agg (p.1.map .d),p.2)
 |_=>none
def j9(lv:Key->LB):List AV->Option (List AV×List Key)
 |[]=>some ([],[])
 |x::r=>match eZ lv x,j9 lv r with
  |some (y,k),some (l,ks)=>some (y::l,k++ks)
  |_,_=>none
theorem di.eZ(h:di c F β s.lv w)(hF:∀b,F b->Fz b){x y:AV}(ht:Am.eZ s.lv x=some (y,ks))
 (hk:∀k∈ks,Fz (β k)) (hv:(Vw.mk F β s.lv w).av v x):(Vw.mk Fz β' lv' w).av v y:=by
 cases x with
 |c x=>
  simp only[Am.eZ,aek]at ht;obtain⟨⟨d,ks'⟩,ht,he⟩:=ht;simp only[M1]at he;obtain⟨rfl,rfl⟩:=he;exact⟨h.gu hF 8 x d ks' v ht hk hv,Vw.fN (x:=x) hv⟩
 |agg cs=>
  simp only[Am.eZ,aek]at ht;obtain⟨⟨l,ks'⟩,ht,he⟩:=ht;simp only[M1]at he;obtain⟨rfl,rfl⟩:=he;obtain⟨h1,h2⟩:=qf ht;obtain⟨arr,rfl,h3,h4⟩:=hv;refine⟨arr,rfl,by simp;omega,λi p q=>?_⟩;simp only[ab0]at p;simp only[ab5];obtain⟨k',h5,h6⟩:=h2 i p (by omega);exact⟨h.gu hF 8 _ _ _ _ h5 (λk hk'=>hk k (h6 k hk')) (h4 i (by omega) q),Vw.fN (h4 i (by omega) q)⟩
 |tup l=>cases ht
 |undef=>cases ht
 |junk=>cases ht
theorem vh{lv:Key->LB}:∀{xs ys:List AV}{ks:List Key},j9 lv xs=some (ys,ks)->ys.length=xs.length /\
 ∀i (h:i<ys.length) (h':i<xs.length),∃k,eZ lv xs[i]=some (ys[i],k)/\∀x∈k,x∈ks
 |[],ys,ks,h=>by simp only[j9,ah,M1]at h;grind
 |x::r,ys,ks,h=>by
  simp only[j9]at h;split at h
  ·rename_i d k l' ks' h1 h2
   simp only[ah,M1]at h;obtain⟨rfl,rfl⟩:=h;obtain⟨h3,h4⟩:=vh h2;refine⟨by simp[h3],λi p q=>?_⟩
   cases i with
   |zero=>grind
   |succ i=>
    obtain⟨k',h5,h6⟩:=h4 i (by grind) (by grind)
    grind
  grind
def aQ(sel nk:List Key)(kh:Key):Key->Key:=λk=>if k<1000 then sel.getD k kh else nk.getD (k-1000) kh
def sW(sel nk:List Key):Key->Option Key:=λk'=>
 match sel.idxOf? k' with
 |some j=>some j
 |none=>match nk.idxOf? k' with
  |some j=>some (1000+j)
  |none=>none
def Yi(lv:Key->LB)(g:Key->Key)(a u:AV):Prop:=
 (u.bX=true/\a=u.bY g)\/∃ks,eZ lv a=some (u,ks)/\∀k∈ks,∃own T cs,lv k=.cells own true T cs
def fM(Z:List (Key×TypeId×List CV)):List (Key×LB):=Z.map λz=>(z.1,.cells true true z.2.1 z.2.2)
def cF(g:Key->Key)(own:Bool)(ks:List Key)(bs:List LB):List (Key×LB):=List.zipWith (λk b=>(k,(b.bY g).fix own)) ks bs
def jb(lv:Key->LB):Nat->CV->List Key
 |n+1,.ptr k _=>k::(match lv k with|.cells _ _ _ cs=>cs.flatMap (jb lv n)|_=>[])
 |n+1,.aH k _ _ _=>k::(match lv k with|.cells _ _ _ cs=>cs.flatMap (jb lv n)|_=>[])
 |_,_=>[]
def wm(lv:Key->LB):AV->List Key
 |.c x=>jb lv 8 x
 |.agg cs=>cs.flatMap (jb lv 8)
 |_=>[]
inductive b7(c:Ctx)(f:FuncId)(as:List AV)(lv:Key->LB):AV->List (Key×LB)->List Key->Prop where
 |flat (us:List AV) (ks rds:List Key) (x:AV) (ha:j9 lv as=some (us,ks)) (hc:aa c.P c.G f us x) (hx:x.flat=true) (hr:∀a∈as,∀k∈wm lv a,k∈rds):b7 c f as lv x [] rds
 |gen (us:List AV) (Z:List (Key×TypeId×List CV)) (sel nk:List Key) (kh:Key) (σ σ' ν:List LB) (x:AV) (own:Bool) (rds:List Key)
  (hZ:∀z∈Z,lv z.1=.cells true false z.2.1 z.2.2) (hZn:(Z.map (·.1)).Nodup) (hn:(sel++nk).Nodup) (hZs:∀z∈Z,z.1 ∉ sel++nk) (hkh:kh ∉ sel++nk) (hkZ:∀z∈Z,z.1≠kh)
  (hl1:sel.length=σ.length) (hl2:σ'.length=σ.length) (hl3:nk.length=ν.length) (hb:σ.length<=1000)
  (hsel:∀i (h:i<sel.length) (h':i<σ.length),(lv sel[i]).as σ[i] (aQ sel nk kh)) (hnk:∀k∈nk,lv k=.hole) (hh:lv kh=.hole)
  (hpass:∀b∈σ,b.pass=true) (hnh:∀b,b∈σ++σ'++ν->b≠.hole) (hown:own=true->∀k∈sel,(lv k).LN=true)
  (hlen:us.length=as.length) (hargs:∀i (h:i<as.length) (h':i<us.length),Yi (bg lv (fM Z)) (aQ sel nk kh) as[i] us[i])
  (hrd:∀a∈as,∀k∈wm (bg lv (fM Z)) a,k∈rds\/k∈Z.map (·.1)) (hrh:kh∈rds)
  (hc:aI c.P c.G f us σ (.ret x σ' ν)) :
  b7 c f as lv (x.bY (aQ sel nk kh)) (fM Z++cF (aQ sel nk kh) own sel σ'++cF (aQ sel nk kh) own nk ν) rds
theorem oc{f:CV->Option (DV×List Key)}{p:Key->Prop}(hf:∀x d ks,f x=some (d,ks)->∀k∈ks,p k):∀{cs:List CV}{l:List DV}{ks:List Key},iY f cs=some (l,ks)->∀k∈ks,p k
 |[],l,ks,h=>by simp only[iY,ah,M1]at h;grind
 |x::r,l,ks,h=>by
  simp only[iY]at h;split at h
  ·rename_i d k l' ks' h1 h2
   simp only[ah,M1]at h;obtain⟨rfl,rfl⟩:=h;intro y hy;rcases List.mem_append.1 hy with h|h
   ·grind
   ·exact oc hf h2 y h
  grind
theorem pS{lv:Key->LB}:∀(n:Nat) (x:CV) (d:DV) (ks:List Key),gu lv n x=some (d,ks)->∀k∈ks,∃own fz T cs,lv k=.cells own fz T cs
 |n,.d x,d,ks,h=>by simp only[gu,ah,M1]at h;grind
 |n+1,.ptr k off,d,ks,h=>by
  simp only[gu]at h;split at h
  ·rename_i own fz T cs e
   split at h
   ·rw[aek]at h;obtain⟨⟨l,ks'⟩,ht,he⟩:=h;simp only[M1]at he;obtain⟨rfl,rfl⟩:=he;intro y hy;rcases List.mem_cons.1 hy with rfl|hy
    ·grind
    ·exact oc (pS n) ht y hy
   grind
  grind
 |n+1,.aH k off len sz,d,ks,h=>by
  simp only[gu]at h;split at h
  ·rename_i own fz T cs e
   split at h
   ·rw[aek]at h;obtain⟨⟨l,ks'⟩,ht,he⟩:=h;simp only[M1]at he;obtain⟨rfl,rfl⟩:=he;intro y hy;rcases List.mem_cons.1 hy with rfl|hy
    ·grind
    ·exact oc (pS n) ht y hy
   grind
  ·grind
  grind
 |0,.ptr ..,_,_,h=>by cases h
 |0,.aH ..,_,_,h=>by cases h
 |n,.mapr _,_,_,h=>by cases n<;>cases h
 |n,.lsf ..,_,_,h=>by cases n<;>cases h
 |n,.func ..,_,_,h=>by cases n<;>cases h
 |n,.ifc ..,_,_,h=>by cases n<;>cases h
 |n,.junk,_,_,h=>by cases n<;>cases h
theorem u9{x y:AV}(h:eZ lv x=some (y,ks)):∀k∈ks,∃own fz T cs,lv k=.cells own fz T cs:=by
 cases x with
 |c x=>
  simp only[eZ,aek]at h;obtain⟨⟨d,ks'⟩,ht,he⟩:=h;simp only[M1]at he;obtain⟨rfl,rfl⟩:=he;exact pS _ _ _ _ ht
 |agg cs=>
  simp only[eZ,aek]at h;obtain⟨⟨l,ks'⟩,ht,he⟩:=h;simp only[M1]at he;obtain⟨rfl,rfl⟩:=he;exact oc (pS _) ht
 |tup l=>cases h
 |undef=>cases h
 |junk=>cases h
theorem rW{lv:Key->LB}:∀{xs ys:List AV}{ks:List Key},j9 lv xs=some (ys,ks)->∀k∈ks,∃own fz T cs,lv k=.cells own fz T cs
 |[],ys,ks,h=>by simp only[j9,ah,M1]at h;grind
 |x::r,ys,ks,h=>by
  simp only[j9]at h;split at h
  ·rename_i d k l' ks' h1 h2
   simp only[ah,M1]at h;obtain⟨rfl,rfl⟩:=h;intro y hy;rcases List.mem_append.1 hy with h|h
   ·exact u9 h1 y h
   ·exact rW h2 y h
  grind
section
variable {c:Ctx}{F:Nat->Prop}{β:Key->Nat}{s:aB}{a:Act}{w:World}
theorem aD.um(h:aD c F β s a w)(hk:s.lv k=.cells own fz T cs):β k<w.heap.size:=by
 have hb:=h.bK k;unfold Vw.bK at hb;grind
theorem AS{fs' args' cs':Array Value}{as cs:List AV}(h1:fs'.size=fs.length)(h2:args'.size=as.length)(h3:cs'.size=cs.length)
 (g1:∀i (h:i<fs.length) (h':i<fs'.size),V.av fs'[i] fs[i]) (g2:∀i (h:i<as.length) (h':i<args'.size),V.av args'[i] as[i]) (g3:∀i (h:i<cs.length) (h':i<cs'.size),V.av cs'[i] cs[i]) :
 (fs'++args'++cs').size=(fs++as++cs).length/\∀i (h:i<(fs++as++cs).length) (h':i<(fs'++args'++cs').size),V.av (fs'++args'++cs')[i] (fs++as++cs)[i]:=by
 grind
theorem Es{cs:List AV}(h:aD c F β s a w)(ho:o.op=.call cl)(ht:nR c.P (s.val c.G) cl.callee=some (f,fs,cs))(hf:aJ c.P f=true):
 ∃vs:Array Value,(execOp a.eval o).run c.P w=.ok (.enter f vs) w/\vs.size=(fs++cl.args.toList.map (s.val c.G)++cs).length /\
  ∀i (h:i<(fs++cl.args.toList.map (s.val c.G)++cs).length) (h':i<vs.size),(Vw.mk F β s.lv w).av vs[i] (fs++cl.args.toList.map (s.val c.G)++cs)[i]:=by
 cases hcal:cl.callee with
 |builtin b=>rw[hcal]at ht;cases ht
 |value fo=>
  rw[hcal]at ht;obtain⟨fs',cs',h1,h2,h3,h4,h5⟩:=FD (h.val fo) ht;have hv:=AS (V:=Vw.mk F β s.lv w) (args':=cl.args.map a.eval) (as:=cl.args.toList.map (s.val c.G)) h2 (by simp) h3 h4 (λi p q=>by simp only[agJ,ab5,afA];exact h.val _) h5;refine⟨_,?_,hv⟩;simp only[execOp,ho,resolve,hcal,h1,Deferred.ofValue,mT,aer,sr,invoke];rw[nE hf]
 |invoke x n=>
  rw[hcal]at ht;obtain⟨t,v,y,h1,h2,rfl,rfl,h3⟩:=HQ (h.val x) ht
  have hv:=AS (V:=Vw.mk F β s.lv w) (fs':=#[v]) (cs':=#[]) (fs:=[y]) (cs:=[]) (args':=cl.args.map a.eval) (as:=cl.args.toList.map (s.val c.G)) rfl (by simp) rfl
   (fun i p q=>by have p':i<1:=p
                  have:i=0:=by omega
                  subst this;exact h3) (λi p q=>by simp only[agJ,ab5,afA];exact h.val _) (λi p q=>by cases p)
  refine⟨_,?_,hv⟩;have h0:(#[Value.iface t v]++cl.args.map a.eval)[0]?=some (Value.iface t v):=by rw[agM (by show 0<1;decide)];rfl
  have h4:(#[Value.iface t v]++cl.args.map a.eval).extract 1 (#[Value.iface t v]++cl.args.map a.eval).size=cl.args.map a.eval:=by
   apply Array.ext';simp;exact ae6 (by simp)
  simp only[execOp,ho,resolve,hcal,h1,mT,aer,sr,invoke,h0,h4,callMethod,run_program];rw[show c.P.types.size+Made.depth=(c.P.types.size+(Made.depth-1))+1 from rfl,HM h2];simp only[sr];rw[nE hf];simp
theorem Jd{cs:List AV}(h:aD c F β s a w)(ho:o.op=.call cl)
 (ht:nR c.P (s.val c.G) cl.callee=some (f,fs,cs)) (hf:aJ c.P f=true) {K:Act->World->Prop}{Q:Exit->Act->World->Prop}
 (hK:∀vs:Array Value,vs.size=(fs++cl.args.toList.map (s.val c.G)++cs).length->(∀i (h:i<(fs++cl.args.toList.map (s.val c.G)++cs).length) (h':i<vs.size),(Vw.mk F β s.lv w).av vs[i] (fs++cl.args.toList.map (s.val c.G)++cs)[i]) ->
  Calls c.P f vs w λe w'=>∃v,e=.returned v/\K (a.put o.dst v) w'):o.wp c.P a w K Q:=by
 obtain⟨vs,hr,h1,h2⟩:=Es h ho ht hf;have hc:=hK _ h1 h2;unfold Oper.wp;rw[hr,Oper.upon_enter];refine hc.mono λe w' he=>?_;obtain⟨v,rfl,hk⟩:=he;exact hk
theorem tT(k:Key):bL [] [] k=.hole:=by simp[bL]
theorem b7.OW{cs:List AV}{x:AV}(hd:∀d,o.dst=some d->d<c.n)(ho:o.op=.call cl)
 (ht:nR c.P (s.val c.G) cl.callee=some (f,fs,cs)) (hf:aJ c.P f=true) (ha:j9 s.lv (fs++cl.args.toList.map (s.val c.G)++cs)=some (us,ks)) (hc:aa c.P c.G f us x) (hx:x.flat=true) :
 bT c o s (s.put o.dst x):=by
 intro F β a w K Q h hK;refine Jd h ho ht hf λvs hl hv=>?_;obtain⟨h1,h2⟩:=vh ha
 let Fz:Nat->Prop:=λb=>F b\/∃k∈ks,b=β k
 have hFz:∀b,F b->Fz b:=λb hb=>.inl hb
 have hFlt:∀b,Fz b->b<w.heap.size:=by
  rintro b (hb|⟨k,hk,rfl⟩)
  ·exact(h.ox b hb).1
  ·obtain⟨own,fz,T,cs',e⟩:=rW ha k hk;exact h.um e
 have hS:di (dW c.P c.G w Fz (λ_=>0) (bL [] [])) Fz (λ_=>0) (bL [] []) w:=by
  refine⟨λk=>?_,λk k' hk=>?_,λ_=>trivial,rfl,rfl,λb hb=>⟨hFlt b hb,.inl hb⟩,λ_ hb=>hb,λ_ _ _=>rfl,bh _,λg cs hg=>Rd.mono (gT hFz (λ_ _=>rfl)) (h.qP g cs hg),λk _=>.inr ⟨rfl,LB.bE _⟩,λ_=>bh _,⟨rfl,rfl⟩⟩
  ·unfold Vw.bK;simp only[tT]
  ·simp only[tT]at hk;cases hk
 refine(hc Fz (λ_=>0) w vs hS (by omega) (λi p q=>?_)).mono λe w' he=>?_
 ·obtain⟨k,h3,h4⟩:=h2 i p (by omega);exact h.uD.eZ hFz h3 (λk' hk'=>.inr ⟨k',h4 k' hk',rfl⟩) (hv i (by omega) q)
 ·obtain⟨v,F',β',rfl,hS',hav⟩:=he;refine⟨v,rfl,hK F β _ _ (aD.CS ?_ hd (Vw.Ro hav hx))⟩
  have hold:∀b,b<w.heap.size->w'.heap[b]?=w.heap[b]?:=by
   intro b hb;refine hS'.old b hb ?_;rintro⟨k,hk,_⟩;simp only[tT]at hk;cases hk
  exact h.step (hoo:=hS'.Ey) (λ_ hb=>hb) (λb hb=>hold b (h.ox b hb).1) (λk=>LB.bE _) (λ_ _ _=>rfl) hS'.IQ
   (λk hK=>by
    have hb:=h.bK k
    cases ek:s.lv k with
    |cells own fz T cs=>exact Vw.bJ hb hK rfl rfl (hold _ (h.um ek)) (λ_ h=>h)
    |map own es=>
     refine Vw.bJ hb hK rfl rfl (hold _ (h.iD (by rw[ek];rfl))) (λ_ h=>h)
    |hole=>unfold Vw.bK;simp only[ek]
    |dead=>unfold Vw.bK;simp only[ek]
    |nils=>unfold Vw.bK;simp only[ek])
   h.inj (λb hb=>.inl hb) hS'.ge (λb hb _=>hold b (aeB hb h.ge))
end
end Go.Am
