/- Helpers. -/
import Derived.Test.YtldhlnmnfokbeaaGreatDoorTn00
import Derived.OrdersIn
import Derived.LoopNIn
import Derived.RangeFuncCalls
import Derived.KernelRfl
import Derived.Scope
import Derived.RangeFuncLeaves
import Derived.RangeFuncRecord
import Derived.Lib.AppendStr
import Derived.Lib.UnsafeStr
import Derived.Lib.ConvBytes

set_option linter.all false
set_option maxHeartbeats 8000000
set_option maxRecDepth 100000
open Go.IntKind
namespace Go.Am
variable {x y z:AV}{s s0 s':aJ}{f:FuncId}{κ i t id j m u:Nat}{T T' S ty:TypeId}{c:Ctx}{a1 a2 a3 vc a4 a5 a6:Prop}{xs args xs':List AV}{lv:Key->LB}{r:Option Nat}{G:List (List DV)}{P:Program}{ops:Array Oper}{fn:Func}{o:Oper}{K:AV->List (Key×LB)->List Key->Nat->Prop}{w:World}{rds:List Key}{n:Int}{b:Bool}{code:Code}{a:Act}{us:List (Key×LB)}{F:Nat->Prop}{β:Key->Nat}{l:List (Nat×AV)}{os:List Oper}{ts:Array TypeId}{k:Key}{L:Nat->Bool}{v:Value}{α:Type}{d:Option Tmp}{gd:List (Option Tmp)}{V:Vw}{σ:List LB}{fr:Nat->AV}{op:BinOp}{h:Operand}{k':IntKind}{pos:String}{af:Array Edge}{parts:Array (Nat×Operand)}
abbrev ae0:=@Array.getElem?_eq_getElem
abbrev aga:=@Option.getD_some
abbrev afe:=@List.drop_drop
abbrev agb:=@Array.getElem?_replicate
abbrev aeq:=@List.length_cons
abbrev ab6:=@List.getD_eq_getElem?_getD
abbrev aet:=@List.mem_of_getElem?
abbrev ae1:=@List.all_cons
abbrev agH:=@Array.getElem?_append_right
abbrev ae2:=@Nat.le_of_ble_eq_true
abbrev adk:=@Nat.pow_succ
abbrev adI:=@Nat.mul_le_mul_left
abbrev afX:=@List.take_append_drop
abbrev adP:=@List.drop_eq_getElem_cons
abbrev aeQ:=@List.drop_eq_nil_of_le
abbrev adJ:=@Nat.mul_pos
abbrev agc:=@Nat.add_mul_mod_self_left
abbrev afD:=@Nat.div_lt_self
abbrev aeR:=@Nat.lt_of_le_of_lt
abbrev agd:=@Nat.pow_lt_pow_iff_right
abbrev adQ:=@Nat.mul_assoc
abbrev adZ:=@Nat.mul_add
abbrev aex:=@List.length_singleton
abbrev age:=@List.ext_getElem
abbrev aeu:=@Nat.mul_one
abbrev ady:=@List.drop_zero
abbrev agx:=@BitVec.toNat_ofNat
abbrev agy:=@BitVec.ofInt_natCast
abbrev agz:=@List.set_append_left
abbrev agA:=@List.replicate_succ'
abbrev agf:=@Nat.add_mul_div_left
abbrev ae9:=@Nat.div_eq_of_lt
abbrev aed:=@Nat.mul_comm
abbrev ad5:=@List.append_nil
abbrev ae3:=@Nat.mul_le_mul
abbrev agI:=@Nat.lt_of_mul_lt_mul_right
abbrev afY:=@Nat.le_div_iff_mul_le
abbrev ad0:=@Classical.byContradiction
abbrev afn:=@Nat.div_lt_iff_lt_mul
def wg(r:Option Nat):Fence:={ Fence.wide with round:=r }
theorem Gb{n:Nat}{args:Array Value}{R:Ending->World->Prop}(h:Calls P f args w R):CallsIn (wg r) n P f args w R:=
 (callsIn_wide (n:=n)).2 h
theorem Iu{n:Nat}{row:String}{args:Array Value}{R:Value->World->Prop}(h:Rows P row args w R):RowsIn (wg r) n P row args w R:=
 λc cs _=>let ⟨v,w',hr,hs⟩:=h c cs;⟨v,w',hr,stepsIn_wide.2 hs⟩
theorem F5{n:Nat}{K:Act->World->Prop}{Q:Exit->Act->World->Prop}(hd:∀c,o.op≠.defer c)(h:o.wp P a w K Q):
 o.wpIn (wg r) n P a w K Q:=by
 refine⟨λ_ _=>trivial,?_⟩;rw[Oper.semAt_eq _ _ _ hd];unfold Oper.wp at h;generalize (execOp a.eval o).run P w=res at*
 have hdep:∀m:Nat,(wg r).depth.isSome=true->1<=m:=λm h=>by simp[wg,Fence.wide]at h
 cases res with
 |ok x w'=>
  cases x<;>simp only[Oper.upon]at h<;>simp only[Oper.uponIn]<;>first|exact h|exact⟨hdep _,Gb h⟩|exact⟨hdep _,Iu h⟩|exact h.elim
 |halt x w'=>cases x<;>simp only[Oper.upon]at h<;>simp only[Oper.uponIn]<;>first|exact h|exact h.elim
def jb(ops:Array Oper)(g:Option (Nat×Bool))(fr:Nat->AV):Option Bool:=
 match g with
 |none=>some true
 |some (j,want)=>match (ops[j]?).bind (·.dst)with
  |some d=>match fr d with
   |.c (.d (.bool b))=>some (b==want)
   |.undef=>some false
   |_=>none
  |none=>none
section
variable {c:Ctx}{F:Nat->Prop}{β:Key->Nat}{s:aJ}{a:Act}{w:World}{ops:Array Oper}
theorem qw(h:aR c F β s a w)(hw:jb ops o.guard s.fr=some b):Region.wanted o (yielded ops a.tmps)=b:=by
 unfold jb at hw;unfold Region.wanted;split at hw
 ·grind
 ·rename_i j want hg
  rw[hg];simp only;split at hw
  ·rename_i d hd
   have hv:=h.fr d;unfold yielded;rw[hd];simp only[Option.bind_some];split at hw
   ·rename_i b' hb
    rw[hb]at hv;have hv':=Vw.A8 hv;simp only[aj]at hw;subst hw
    have hq:a.tmps[d]?=some (.bool b'):=by
     cases e:a.tmps[d]? with
     |none=>rw[aeK,e]at hv';cases hv'
     |some v=>simp_all
    grind
   ·rename_i hb
    rw[hb]at hv;simp only[aj]at hw;subst hw;have hv':a.tmps.getD d undef=undef:=hv
    cases e:a.tmps[d]? with
    |none=>rfl
    |some v=>
     rw[aeK,e]at hv';simp at hv';subst hv';rfl
   grind
  grind
end
structure Fx where
 x:AV
 us:List (Key×LB)
 rds:List Key
variable {e e':Fx}{es:List Fx}
def Fx.app(e:Fx)(dst:Option Nat)(s:aJ):aJ:=aJ.put ⟨s.fr,b8 s.lv e.us⟩ dst e.x
def dh(c:Ctx)(r:Option Nat)(ops:Array Oper)(o:Oper)(s0:aJ)(e:Fx):Prop:=
 ∀s:aJ,(∀t∈o.looksAt ops,s.fr t=s0.fr t)->Agree s0.lv s.lv e.us e.rds ->
  ∀F β a w K Q,aR c F β s a w->(∀F' β' a' w',aR c F' β' (e.app o.dst s) a' w'->K a' w') ->
   if Region.wanted o (yielded ops a.tmps)then o.wpIn (wg r) 0 c.P a w K Q else K (a.put o.dst undef) w
theorem val_congr{x:Operand}(h:∀t,x=.tmp t->s.fr t=s0.fr t):s.val G x=s0.val G x:=by
 cases x with
 |tmp t=>exact h t rfl
 |_=>rfl
theorem IY(h:∀t∈o.looksAt ops,s.fr t=s0.fr t):∀x∈o.op.operands.toList,s.val G x=s0.val G x:=by
 intro x hx;refine val_congr λt ht=>h t ?_;subst ht;exact agw _ (List.mem_filterMap.2 ⟨.tmp t,hx,rfl⟩)
theorem A9(h:∀t∈o.looksAt ops,s.fr t=s0.fr t):jb ops o.guard s.fr=jb ops o.guard s0.fr:=by
 unfold jb
 cases hg:o.guard with
 |none=>rfl
 |some p=>
  obtain⟨j,want⟩:=p;simp only
  cases hd:(ops[j]?).bind (·.dst)with
  |none=>rfl
  |some d=>
   simp only;rw[h d (List.mem_append_right _ (by rw[hg];simp[hd]))]
section
variable {c:Ctx}{r:Option Nat}{ops:Array Oper}{o:Oper}{s0:aJ}
theorem dh.skip(hd:∀d,o.dst=some d->d<c.n)(hw:jb ops o.guard s0.fr=some false):dh c r ops o s0 ⟨.undef,[],[]⟩:=by
 intro s h1 _ F β a w K Q h hK;rw[qw h ((A9 h1).trans hw)];simp only[aey,if_false];exact hK F β _ _ (h.IE hd (zQ _))
theorem dh.qP(hw:jb ops o.guard s0.fr=some true)(hdf:∀cl,o.op≠.defer cl)
 (hs:∀s:aJ,(∀x∈o.op.operands.toList,s.val c.G x=s0.val c.G x)->Agree s0.lv s.lv e.us e.rds->di c o s (e.app o.dst s)):dh c r ops o s0 e:=by
 intro s h1 h2 F β a w K Q h hK;rw[qw h ((A9 h1).trans hw)];simp only[if_true];exact F5 hdf (hs s (IY h1) h2 F β a w K Q h hK)
theorem dh.plain{κ:Key}(hd:∀d,o.dst=some d->d<c.n)(hw:jb ops o.guard s0.fr=some true)
 (h:dg c.P o.op (o.op.operands.toList.map (s0.val c.G)) s0.lv κ=some (x,us,rds,vc)) (hvc:vc):dh c r ops o s0 ⟨x,us,rds⟩:=by
 refine dh.qP hw (λcl hcl=>?_) (λs h1 h2=>?_)
 ·rw[hcl]at h;simp[dg]at h
 ·have hl:=FF h (show Agree s0.lv s.lv us rds from h2);exact LQ hd rfl (aen h1) hl hvc
end
theorem zm:∀{f g:Key->LB}{k:Key},k∈us.map (·.1)->b8 f us k=b8 g us k:=by
 induction us with
 |nil=>simp
 |cons p us ih=>
  intro f g k h;rw[rQ,rQ]
  by_cases hk:k∈us.map (·.1)
  ·exact ih hk
  ·rw[eZ hk,eZ hk];simp only[adi,aZ]at h;rcases h with h|h
   ·rw[h,aI,aI]
   grind
theorem qz(e:Fx)(dst:Option Nat)(s:aJ)(t:Nat):(e.app dst s).fr t=if dst=some t then e.x else s.fr t:=by
 cases dst with
 |none=>rfl
 |some d=>
  simp only[Fx.app,aJ.put,aj]
  by_cases h:d=t
  ·subst h;rfl
  ·rw[bt _ _ (λe=>h e.symm)];simp[h]
theorem A6(e:Fx)(dst:Option Nat)(s:aJ):(e.app dst s).lv=b8 s.lv e.us:=by
 cases dst<;>rfl
def cJ(ops:Array Oper)(es:List Fx)(s0:aJ)(L:Nat->Bool):Nat->aJ
 |0=>s0
 |m+1=>match ops[m]?,es[m]? with
  |some o,some e=>if L m then e.app o.dst (cJ ops es s0 L m)else cJ ops es s0 L m
  |_,_=>cJ ops es s0 L m
inductive Bm(ops:Array Oper):Nat->Nat->Prop where
 |one {i j:Nat}{o:Oper}{ed:Edge}(ho:ops[j]?=some o) (he:ed∈o.after) (hb:Region.binds .any ed=true) (hi:ed.on=i):Bm ops i j
 |more {i j:Nat}{o:Oper}{ed:Edge}(ho:ops[j]?=some o) (he:ed∈o.after) (hb:Region.binds .any ed=true) (hi:Bm ops i ed.on):Bm ops i j
section
variable {ops:Array Oper}{es:List Fx}{s0:aJ}{L:Nat->Bool}
theorem kZ{L L':Nat->Bool}:∀{m:Nat},(∀j,j<m->L j=L' j)->cJ ops es s0 L m=cJ ops es s0 L' m
 |0,_=>rfl
 |m+1,h=>by
  have ih:=kZ (m:=m) (λj hj=>h j zd);simp only[cJ,ih,h m zd]
theorem J0{i t:Nat}(h:∀j o,ops[j]?=some o->o.dst=some t->(j<i↔L j=true)):∀m,(cJ ops es s0 L m).fr t=(cJ ops es s0 (λ_=>true) (min m i)).fr t
 |0=>by simp[cJ]
 |m+1=>by
  have ih:=J0 h m
  by_cases hm:m<i
  ·have e1:min (m+1) i=min m i+1:=by omega
   have e2:min m i=m:=zd
   rw[e1,e2];rw[e2]at ih;simp only[cJ]
   cases ho:ops[m]? with
   |none=>exact ih
   |some o=>
    cases he:es[m]? with
    |none=>exact ih
    |some e=>
     simp only[if_true]
     by_cases hd:o.dst=some t
     ·rw[(h m o ho hd).1 hm];simp only[if_true,qz,hd]
     ·by_cases hL:L m=true
      ·simp only[hL,if_true,qz,hd,if_false];exact ih
      ·simp only[hL,qz,hd,if_false];exact ih
  ·have e1:min (m+1) i=min m i:=by omega
   rw[e1,<-ih];simp only[cJ]
   cases ho:ops[m]? with
   |none=>rfl
   |some o=>
    cases he:es[m]? with
    |none=>rfl
    |some e=>
     simp only
     by_cases hL:L m=true
     ·have hd:o.dst≠some t:=λhd=>hm ((h m o ho hd).2 hL)
      simp only[hL,if_true,qz,hd,if_false]
     grind
theorem Fs{n:Nat}(ho:ops[i]?=some o)(he:es[i]?=some e)(hi:i<n)(hL:L i=false)
 (hlt:∀j o',i<j->ops[j]?=some o'->L j=true->o.dst=some t->o'.dst≠some t) :
 (e.app o.dst (cJ ops es s0 L n)).fr t=(cJ ops es s0 (λj=>L j ||j==i) n).fr t:=by
 have below:∀m,m<=i->cJ ops es s0 (λj=>L j ||j==i) m=cJ ops es s0 L m:=λm hm=>
  kZ fun j hj=>by have:(j == i)=false:=by simp;omega
                  grind
 have h1:∀m,i<m->(e.app o.dst (cJ ops es s0 L m)).fr t=(cJ ops es s0 (λj=>L j ||j==i) m).fr t:=by
  intro m
  induction m with
  |zero=>simp
  |succ m ih=>
   intro hm
   by_cases hmi:m=i
   ·subst hmi;simp only[cJ,ho,he,hL,aey,if_false,beq_self_eq_true,Bool.or_true,if_true]
    grind
   ·have ih:=ih zd;have hne:(m==i)=false:=by simpa using hmi
    simp only[cJ]
    cases ho':ops[m]? with
    |none=>exact ih
    |some o'=>
     cases he':es[m]? with
     |none=>exact ih
     |some e'=>
      simp only[hne,Bool.or_false]
      by_cases hLm:L m=true
      ·simp only[hLm,if_true];rw[qz,qz,qz];rw[qz]at ih
       grind
      grind
 grind
theorem FE{n:Nat}(ho:ops[i]?=some o)(he:es[i]?=some e)(hi:i<n)(hL:L i=false)
 (hlt:∀(j:Nat) e',i<j->es[j]?=some e'->L j=true->k∈e.us.map (·.1)->k∉e'.us.map (·.1)) :
 (e.app o.dst (cJ ops es s0 L n)).lv k=(cJ ops es s0 (λj=>L j ||j==i) n).lv k:=by
 have below:∀m,m<=i->cJ ops es s0 (λj=>L j ||j==i) m=cJ ops es s0 L m:=λm hm=>
  kZ fun j hj=>by have:(j == i)=false:=by simp;omega
                  grind
 have h1:∀m,i<m->(e.app o.dst (cJ ops es s0 L m)).lv k=(cJ ops es s0 (λj=>L j ||j==i) m).lv k:=by
  intro m
  induction m with
  |zero=>simp
  |succ m ih=>
   intro hm
   by_cases hmi:m=i
   ·subst hmi;simp only[cJ,ho,he,hL,aey,if_false,beq_self_eq_true,Bool.or_true,if_true]
    grind
   ·have ih:=ih zd;have hne:(m==i)=false:=by simpa using hmi
    simp only[cJ]
    cases ho':ops[m]? with
    |none=>exact ih
    |some o'=>
     cases he':es[m]? with
     |none=>exact ih
     |some e'=>
      simp only[hne,Bool.or_false]
      by_cases hLm:L m=true
      ·simp only[hLm,if_true];rw[A6,A6,A6];rw[A6]at ih
       by_cases hd:k∈e.us.map (·.1)
       ·have hd':=hlt m e' zd he' hLm hd;rw[eZ hd',<-ih];exact zm hd
       ·rw[eZ hd];rw[eZ hd]at ih
        by_cases hd':k∈e'.us.map (·.1)
        ·exact zm hd'
        ·rw[eZ hd',eZ hd'];exact ih
      grind
 grind
end
def Y2(ops:Array Oper)(o o':Oper)(e e':Fx):Prop:=
 o.apart ops o'=true/\(∀k∈e.us.map (·.1),k∉e'.us.map (·.1)/\k∉e'.rds)/\∀k∈e'.us.map (·.1),k∉e.rds
def cnt(p:Nat->Bool):Nat->Nat
 |0=>0
 |n+1=>cnt p n+(if p n then 1 else 0)
theorem wL{p q:Nat->Bool}:∀{n:Nat},(∀i,i<n->p i=q i)->cnt p n=cnt q n
 |0,_=>rfl
 |n+1,h=>by simp only[cnt,wL (n:=n) (λi hi=>h i zd),h n zd]
theorem JU{p:Nat->Bool}{i:Nat}(h:p i=false):∀{n:Nat},i<n->cnt (λj=>p j ||j==i) n=cnt p n+1
 |0,hi=>absurd hi zd
 |n+1,hi=>by
  by_cases e:n=i
  ·subst e
   have h0:∀j,j<n->(p j ||j==n)=p j:=λj hj=>by
    have h1:(j==n)=false:=yv
    simp[h1]
   have:=wL h0;simp only[cnt,this,h];simp
  ·have hne:(n==i)=false:=by simpa using e
   simp only[cnt,JU h (n:=n) zd,hne,Bool.or_false];omega
theorem Pf(p:Nat->Bool):∀n,cnt p n<=n
 |0=>bf _
 |n+1=>by have:=Pf p n;simp only[cnt];grind
theorem Kf{p:Nat->Bool}:∀{n:Nat},n<=cnt p n->∀i,i<n->p i=true
 |0,_,i,hi=>absurd hi zd
 |n+1,h,i,hi=>by
  have h1:=Pf p n;simp only[cnt]at h
  by_cases hp:p n=true
  ·rw[if_pos hp]at h
   by_cases e:i=n
   ·grind
   ·exact Kf (n:=n) zd i zd
  grind
theorem mem_ready{listed:Array Bool}:i∈Region.ready .any ops listed ↔
 i<ops.size/\listed.getD i true=false/\∃o,ops[i]?=some o/\∀ed∈o.after,Region.binds .any ed=true->listed.getD ed.on false=true:=by
 unfold Region.ready;simp only[List.mem_filter,List.mem_range,adS,aeM];refine and_congr_right λhi=>and_congr_right λ_=>?_;have ho:ops[i]?=some ops[i]:=ae0 hi;rw[ho];simp only[ad2,aga,Array.all_eq_true',aeY,aeM,aj,exists_eq_left']
 grind
def VR(ops:Array Oper)(o o':Oper)(e e':Fx):Prop:=
 o.apart ops o'=true/\∀k∈e.us.map (·.1),k∉e'.us.map (·.1)
def QM(c:Ctx)(r:Option Nat)(ops:Array Oper)(o:Oper)(s0:aJ)(e:Fx)(ok:(Key->LB)->Prop):Prop:=
 ∀s:aJ,(∀t∈o.looksAt ops,s.fr t=s0.fr t)->ok s.lv ->
  ∀F β a w K Q,aR c F β s a w->(∀F' β' a' w',aR c F' β' (e.app o.dst s) a' w'->K a' w') ->
   if Region.wanted o (yielded ops a.tmps)then o.wpIn (wg r) 0 c.P a w K Q else K (a.put o.dst undef) w
section
variable {c:Ctx}{r:Option Nat}{ops:Array Oper}{es:List Fx}{s0:aJ}
theorem D4(ok:Nat->(Key->LB)->Prop)(hlen:es.length=ops.size)
 (hE:∀(i:Nat) o e,ops[i]?=some o->es[i]?=some e->QM c r ops o (cJ ops es s0 (λ_=>true) i) e (ok i))
 (hback:∀(i:Nat) o,ops[i]?=some o->∀ed∈o.after,Region.binds .any ed=true->ed.on<i)
 (hind:∀(i j:Nat) o o' e e',i<j->ops[i]?=some o->ops[j]?=some o'->es[i]?=some e->es[j]?=some e'->Bm ops i j\/VR ops o o' e e')
 (hok:∀(L:Nat->Bool) (i:Nat),i<ops.size->L i=false->(∀j,Bm ops j i->L j=true)->(∀i j,Bm ops i j->L j=true->L i=true)->ok i (cJ ops es s0 L ops.size).lv)
 {Q:Exit->Act->World->Prop}(hQ:∀F' β' a' w',aR c F' β' (cJ ops es s0 (λ_=>true) ops.size) a' w'->Q .normal a' w') :
 ∀(fuel:Nat) (listed:Array Bool),listed.size=ops.size ->
  (∀(j:Nat) o,ops[j]?=some o->listed.getD j false=true->∀ed∈o.after,Region.binds .any ed=true->listed.getD ed.on false=true) ->
  ops.size<=fuel+cnt (λj=>listed.getD j false) ops.size ->
  ∀F β a w,aR c F β (cJ ops es s0 (λj=>listed.getD j false) ops.size) a w->wpAnyIn (wg r) 0 c.P .any ops Q fuel listed a w:=by
 intro fuel
 have hall:∀(listed:Array Bool),(∀i,i<ops.size->listed.getD i false=true)->∀F β a w,aR c F β (cJ ops es s0 (λj=>listed.getD j false) ops.size) a w->Q .normal a w:=by
  intro listed hl F β a w h;rw[kZ (L':=λ_=>true) hl]at h;exact hQ _ _ _ _ h
 induction fuel with
 |zero=>
  intro listed hsz hcl hcnt F β a w h;have hl:=Kf (p:=λj=>listed.getD j false) (n:=ops.size) zd;refine⟨?_,hall listed hl F β a w h⟩;rw[List.eq_nil_iff_forall_not_mem];intro i hi;obtain⟨h1,h2,_⟩:=mem_ready.1 hi
  grind
 |succ fuel ih=>
  intro listed hsz hcl hcnt F β a w h
  have hanc:∀i j,Bm ops i j->listed.getD j false=true->listed.getD i false=true:=by
   intro i j ha
   induction ha with
   |one ho he hb hi=>grind
   |more ho he hb _ ih=>grind
  refine⟨λhnil=>?_,λi hi=>?_⟩
  ·refine hall listed (λi hi=>?_) F β a w h
   induction i using Nat.strongRecOn with
   |_ i ihi=>
    cases hL:listed.getD i false with
    |true=>rfl
    |false=>
     exfalso
     have:i∈Region.ready .any ops listed:=by
      refine mem_ready.2 ⟨hi,?_,ops[i],ae0 hi,λed hed hb=>?_⟩
      ·grind
      ·grind
     grind
  ·obtain⟨hi1,hi2,o,ho,hpre⟩:=mem_ready.1 hi;have h4:i<listed.size:=by omega
   have hLi:listed.getD i false=false:=by simp[Array.getD,h4]at hi2⊢;exact hi2
   obtain⟨e,he⟩:∃e,es[i]?=some e:=⟨es[i]' zd,fy zd⟩
   have hes:∀j o',ops[j]?=some o'->∃e',es[j]?=some e':=λj o' h'=>by
    have:j<ops.size:=(Array.getElem?_eq_some_iff.1 h').1;exact⟨es[j]' zd,fy zd⟩
   have hos:∀(j:Nat) e',es[j]?=some e'->∃o',ops[j]?=some o':=λj e' h'=>by
    grind
   have hancR:∀j,Bm ops j i->listed.getD j false=true:=by
    intro j ha
    cases ha with
    |one ho' he' hb hj=>
     grind
    |more ho' he' hb hj=>
     grind
   have key:=hE i o e ho he (cJ ops es s0 (λj=>listed.getD j false) ops.size) (λt ht=>?_) ?_ F β a w
    (wpAnyIn (wg r) 0 c.P .any ops Q fuel (listed.setIfInBounds i true)) Q h (λF' β' a' w' h'=>?_)
   ·unfold wpOpIn;rw[ho];simp only;split at key
    ·grind
    ·rename_i hw;rw[if_neg hw];exact⟨λ_ _=>trivial,key⟩
   ·rw[J0 (i:=i) (λj o' ho' hd=>?_) ops.size,Nat.min_eq_right zd];obtain⟨e',he'⟩:=hes j o' ho';constructor
    ·intro hji;rcases hind j i o' o e' e hji ho' ho he' he with ha|ha
     ·grind
     ·exact absurd ht ((Oper.apart_spec ha.1).1 t hd)
    ·intro hj;rcases Nat.lt_trichotomy j i with hlt|heq|hgt
     ·exact hlt
     ·grind
     ·rcases hind i j o o' e e' hgt ho ho' he he' with ha|ha
      ·grind
      ·exact absurd ht ((Oper.apart_spec ha.1).2.2 t hd)
   ·grind
   ·have hset:∀j,(listed.setIfInBounds i true).getD j false=(listed.getD j false ||j==i):=by
     intro j;simp only[aeK,Array.getElem?_setIfInBounds]
     by_cases hj:i=j
     ·grind
     ·grind
    refine ih (listed.setIfInBounds i true) (by simp[hsz]) (λj o' ho' hj ed hed hb=>?_) ?_ F' β' a' w' ?_
    ·grind
    ·rw[wL (q:=λj=>listed.getD j false ||j==i) (λj _=>hset j),JU (p:=λj=>listed.getD j false) hLi hi1];omega
    ·rw[kZ (L':=λj=>listed.getD j false ||j==i) (λj _=>hset j)]
     have hst:e.app o.dst (cJ ops es s0 (λj=>listed.getD j false) ops.size)=cJ ops es s0 (λj=>listed.getD j false ||j==i) ops.size:=by
      have e1:(e.app o.dst (cJ ops es s0 (λj=>listed.getD j false) ops.size)).fr=(cJ ops es s0 (λj=>listed.getD j false ||j==i) ops.size).fr:=by
       funext t;refine Fs ho he hi1 hLi (λj o' hij ho' hj hd=>?_);obtain⟨e',he'⟩:=hes j o' ho';rcases hind i j o o' e e' hij ho ho' he he' with ha|ha
       ·grind
       ·exact(Oper.apart_spec ha.1).2.1 t hd
      have e2:(e.app o.dst (cJ ops es s0 (λj=>listed.getD j false) ops.size)).lv=(cJ ops es s0 (λj=>listed.getD j false ||j==i) ops.size).lv:=by
       funext k;refine FE ho he hi1 hLi (λj e' hij he' hj hd=>?_);obtain⟨o',ho'⟩:=hos j e' he';rcases hind i j o o' e e' hij ho ho' he he' with ha|ha
       ·grind
       ·exact ha.2 k hd
      cases h1:e.app o.dst (cJ ops es s0 (λj=>listed.getD j false) ops.size)
      cases h2:cJ ops es s0 (λj=>listed.getD j false ||j==i) ops.size
      rw[h1,h2]at e1 e2;simp only at e1 e2;rw[e1,e2]
     grind
end
section
variable {ops:Array Oper}{es:List Fx}{s0:aJ}
theorem Mb(ho:ops[m]?=some o)(he:es[m]?=some e):
 cJ ops es s0 L (m+1)=if L m then e.app o.dst (cJ ops es s0 L m)else cJ ops es s0 L m:=by
 simp only[cJ,ho,he]
theorem pP(hlen:es.length=ops.size)(hm:m<ops.size):
 ∃e,es[m]?=some e/\(cJ ops es s0 L (m+1)).lv k=if L m=true then b8 (cJ ops es s0 L m).lv e.us k else(cJ ops es s0 L m).lv k:=by
 have ho:ops[m]?=some ops[m]:=ae0 hm;have he:es[m]?=some (es[m]' zd):=fy zd;refine⟨_,he,?_⟩;rw[Mb ho he]
 cases L m<;>simp[A6]
theorem DO(hlen:es.length=ops.size)(hi:i<ops.size)(hLi:L i=false)(h1:∀j,Bm ops j i->L j=true)(h2:∀i j,Bm ops i j->L j=true->L i=true):
 (cJ ops es s0 L ops.size).lv k=(cJ ops es s0 (λ_=>true) i).lv k \/
 (∃j e,i<j/\es[j]?=some e/\¬Bm ops i j/\k∈e.us.map (·.1)/\(cJ ops es s0 L ops.size).lv k=b8 (λ_=>.hole) e.us k) \/
 (∃j e,j<i/\es[j]?=some e/\¬Bm ops j i/\k∈e.us.map (·.1)/\(cJ ops es s0 L ops.size).lv k=(cJ ops es s0 (λ_=>true) j).lv k):=by
 have hA:∀m,m<=i->((cJ ops es s0 L m).lv k=(cJ ops es s0 (λ_=>true) m).lv k \/
  ∃j e,j<i/\es[j]?=some e/\¬Bm ops j i/\k∈e.us.map (·.1)/\(cJ ops es s0 L m).lv k=(cJ ops es s0 (λ_=>true) j).lv k):=by
  intro m
  induction m with
  |zero=>intro _;exact .inl rfl
  |succ m ih=>
   intro hm;obtain⟨e,he,e1⟩:=pP (ops:=ops) (s0:=s0) (L:=L) (k:=k) hlen (zd:m<ops.size);obtain⟨e',he',e2⟩:=pP (ops:=ops) (s0:=s0) (L:=λ_=>true) (k:=k) hlen (zd:m<ops.size);rw[he]at he';simp only[aj]at he';subst he';simp only[if_true]at e2;rw[e1,e2]
   by_cases hk:k∈e.us.map (·.1)
   ·cases hL:L m with
    |true=>simp only[if_true];exact .inl (zm hk)
    |false=>
     grind
   ·rw[eZ hk,eZ hk]
    grind
 have hB:∀m,i<=m->m<=ops.size->((cJ ops es s0 L m).lv k=(cJ ops es s0 L i).lv k \/
  ∃j e,i<j/\es[j]?=some e/\¬Bm ops i j/\k∈e.us.map (·.1)/\(cJ ops es s0 L m).lv k=b8 (λ_=>.hole) e.us k):=by
  intro m
  induction m with
  |zero=>grind
  |succ m ih=>
   intro hm hms
   by_cases hmi:i=m+1
   ·grind
   obtain⟨e,he,e1⟩:=pP (ops:=ops) (s0:=s0) (L:=L) (k:=k) hlen (zd:m<ops.size);rw[e1]
   cases hL:L m with
   |false=>grind
   |true=>
    simp only[if_true]
    by_cases hk:k∈e.us.map (·.1)
    ·refine .inr ⟨m,e,?_,he,λha=>?_,hk,zm hk⟩
     ·grind
     grind
    ·rw[eZ hk];grind
 grind
end
structure Fw where
 e:Fx
 lv:Key->LB
 all:Bool
 soft:Key->LB->Bool
variable {fs:List Fw}
def Fw.ok(f:Fw)(lv:Key->LB):Prop:=
 (f.all=true/\lv=f.lv)\/(f.all=false/\(Agree f.lv lv f.e.us f.e.rds\/(f.e.us=[]/\∃k,f.e.rds=[k]/\f.soft k (lv k)=true)))
def Fw.apart(f g:Fw):Prop:=
 (f.all=true->g.e.us=[])/\(g.all=true->f.e.us=[]) /\
 (∀k∈f.e.us.map (·.1),k∉g.e.us.map (·.1)) /\
 (∀k∈f.e.us.map (·.1),k∉g.e.rds\/(g.e.us=[]/\g.e.rds=[k]/\g.soft k (f.lv k)=true)) /\
 (∀k∈g.e.us.map (·.1),k∉f.e.rds\/(f.e.us=[]/\f.e.rds=[k]/\f.soft k (b8 (λ_=>.hole) g.e.us k)=true))
theorem XY(hlen:fs.length=ops.size)
 (hlv:∀(i:Nat) f,fs[i]?=some f->f.lv=(cJ ops (fs.map (·.e)) s0 (λ_=>true) i).lv)
 (hind:∀(i j:Nat) f g,i<j->fs[i]?=some f->fs[j]?=some g->Bm ops i j\/f.apart g) :
 ∀(L:Nat->Bool) (i:Nat) (f:Fw),fs[i]?=some f->L i=false->(∀j,Bm ops j i->L j=true)->(∀i j,Bm ops i j->L j=true->L i=true) ->
  f.ok (cJ ops (fs.map (·.e)) s0 L ops.size).lv:=by
 intro L i f hf hLi h1 h2;have hi:i<ops.size:=by have:=(List.getElem?_eq_some_iff.1 hf).1;omega
 have hlen':(fs.map (·.e)).length=ops.size:=by simpa using hlen
 have hver:=λk=>DO (s0:=s0) (k:=k) hlen' hi hLi h1 h2
 rw[<-hlv i f hf]at hver
 have hget:∀(j:Nat) (e:Fx),(fs.map (·.e))[j]?=some e->∃g:Fw,fs[j]?=some g/\g.e=e:=by
  intro j e h;rw[aez,adY]at h;exact h
 cases hall:f.all with
 |true=>
  left;refine⟨hall,funext λk=>?_⟩;rcases hver k with h|⟨j,e,q1,q2,q3,q4,q5⟩|⟨j,e,q1,q2,q3,q4,q5⟩
  ·exact h
  ·obtain⟨g,hg,rfl⟩:=hget j e q2;rcases hind i j f g q1 hf hg with ha|ha
   ·grind
   ·rw[ha.1 hall]at q4;cases q4
  ·obtain⟨g,hg,rfl⟩:=hget j e q2;rcases hind j i g f q1 hg hf with ha|ha
   ·grind
   ·rw[ha.2.1 hall]at q4;cases q4
 |false=>
 right;refine⟨hall,?_⟩
 by_cases hs:f.e.us=[]/\∃k,f.e.rds=[k]
 ·obtain⟨hu,k,hk⟩:=hs;rcases hver k with h|⟨j,e,q1,q2,q3,q4,q5⟩|⟨j,e,q1,q2,q3,q4,q5⟩
  ·left;refine⟨λk' hk'=>?_,λp hp=>by grind⟩
   grind
  all_goals (right;refine⟨hu,k,hk,?_⟩)
  ·obtain⟨g,hg,rfl⟩:=hget j e q2;rw[q5];rcases hind i j f g q1 hf hg with ha|ha
   ·grind
   ·rcases ha.2.2.2.2 k q4 with h|h
    ·grind
    grind
  ·obtain⟨g,hg,rfl⟩:=hget j e q2;rw[q5,<-hlv j g hg];rcases hind j i g f q1 hg hf with ha|ha
   ·grind
   ·rcases ha.2.2.2.1 k q4 with h|h
    ·grind
    grind
 ·left;have hno:∀k,¬(f.e.us=[]/\f.e.rds=[k]):=λk h=>hs ⟨h.1,k,h.2⟩
  have key:∀k,(k∈f.e.rds\/k∈f.e.us.map (·.1))->(cJ ops (fs.map (·.e)) s0 L ops.size).lv k=f.lv k:=by
   intro k hk;rcases hver k with h|⟨j,e,q1,q2,q3,q4,q5⟩|⟨j,e,q1,q2,q3,q4,q5⟩
   ·exact h
   ·obtain⟨g,hg,rfl⟩:=hget j e q2;exfalso;rcases hind i j f g q1 hf hg with ha|ha
    ·exact q3 ha
    ·rcases hk with hk|hk
     ·rcases ha.2.2.2.2 k q4 with h|h
      ·exact h hk
      grind
     ·exact ha.2.2.1 k hk q4
   ·obtain⟨g,hg,rfl⟩:=hget j e q2;exfalso;rcases hind j i g f q1 hg hf with ha|ha
    ·exact q3 ha
    ·rcases hk with hk|hk
     ·rcases ha.2.2.2.1 k q4 with h|h
      ·exact h hk
      grind
     ·exact ha.2.2.1 k q4 hk
  exact⟨λk hk=>key k (.inl hk),λp hp=>key p.1 (.inr (List.mem_map_of_mem hp))⟩
def l5(c:Ctx)(r:Option Nat)(ops:Array Oper):List Oper->List Fw->aJ->aJ->Prop
 |[],[],s,s'=>s'=s
 |o::os,f::fs,s,s'=>QM c r ops o s f.e f.ok/\f.lv=s.lv/\l5 c r ops os fs (f.e.app o.dst s) s'
 |_,_,_,_=>False
section
variable {c:Ctx}{r:Option Nat}{ops:Array Oper}
theorem l5.len:∀{os:List Oper}{es:List Fw}{s s':aJ},l5 c r ops os es s s'->es.length=os.length
 |[],[],_,_,_=>rfl
 |_::_,_::_,_,_,h=>by simp[l5.len h.2.2]
 |[],_::_,_,_,h=>h.elim
 |_::_,[],_,_,h=>h.elim
theorem l5.at{fs:List Fw}{s0:aJ}:∀{os:List Oper}{rs:List Fw}{s':aJ}(n:Nat),ops.toList.drop n=os->fs.drop n=rs->l5 c r ops os rs (cJ ops (fs.map (·.e)) s0 (λ_=>true) n) s' ->
 s'=cJ ops (fs.map (·.e)) s0 (λ_=>true) (n+os.length)/\∀(i:Nat) o f,n<=i->ops[i]?=some o->fs[i]?=some f->QM c r ops o (cJ ops (fs.map (·.e)) s0 (λ_=>true) i) f.e f.ok/\f.lv=(cJ ops (fs.map (·.e)) s0 (λ_=>true) i).lv
 |[],[],s',n,h1,h2,h=>by
  refine⟨h,λi o e hi ho he=>?_⟩;have h3:fs.length<=n:=List.drop_eq_nil_iff.1 h2
  grind
 |o::os,e::rs,s',n,h1,h2,h=>by
  have ho:ops[n]?=some o:=by
   have:(ops.toList.drop n)[0]?=some o:=by rw[h1];rfl
   rw[afx]at this;simpa using this
  have he:fs[n]?=some e:=by
   have:(fs.drop n)[0]?=some e:=by rw[h2];rfl
   rw[afx]at this;simpa using this
  have hst:cJ ops (fs.map (·.e)) s0 (λ_=>true) (n+1)=e.e.app o.dst (cJ ops (fs.map (·.e)) s0 (λ_=>true) n):=by
   simp only[cJ,ho,aez,he,ad2,if_true]
  obtain⟨h3,h4⟩:=l5.at (fs:=fs) (s0:=s0) (os:=os) (rs:=rs) (s':=s') (n+1) fp (by rw[<-afe,h2];rfl) (by rw[hst];exact h.2.2);refine⟨yn,λi o' e' hi ho' he'=>?_⟩
  by_cases e1:i=n
  ·subst e1;rw[ho]at ho';rw[he]at he';simp only[aj]at ho' he';subst ho';subst he';exact⟨h.1,h.2.1⟩
  grind
 |[],_::_,_,_,_,_,h=>h.elim
 |_::_,[],_,_,_,_,h=>h.elim
theorem l5.draw{Q:Exit->Act->World->Prop}(hm:c.P.follows .mixedOrders=true)(h:l5 c r ops ops.toList fs s s')
 (hback:∀(i:Nat) o,ops[i]?=some o->∀ed∈o.after,Region.binds .any ed=true->ed.on<i)
 (hind:∀(i j:Nat) o o' f g,i<j->ops[i]?=some o->ops[j]?=some o'->fs[i]?=some f->fs[j]?=some g->Bm ops i j\/(o.apart ops o'=true/\f.apart g))
 (hQ:∀F' β' a' w',aR c F' β' s' a' w'->Q .normal a' w')(hs:aR c F β s a w):(Code.region id ops true).wpIn (wg r) 0 c.P Q a w:=by
 have hlen:fs.length=ops.size:=by rw[h.len];simp
 obtain⟨h3,h4⟩:=l5.at (fs:=fs) (s0:=s) 0 rfl rfl h;refine wpIn_region_any hm ?_
 have hget:∀(j:Nat) (e:Fx),(fs.map (·.e))[j]?=some e->∃g:Fw,fs[j]?=some g/\g.e=e:=by
  intro j e h;rw[aez,adY]at h;exact h
 have hos:∀(j:Nat) f,fs[j]?=some f->∃o',ops[j]?=some o':=λj e' h'=>by
  have:j<fs.length:=(List.getElem?_eq_some_iff.1 h').1
  simp_all
 refine D4 (es:=fs.map (·.e)) (s0:=s) (λi lv=>∀f,fs[i]?=some f->f.ok lv) yn (λi o e ho he=>?_) hback (λi j o o' e e' hij ho ho' he he'=>?_) (λL i hi hLi h1 h2 f hf=>?_)
  (λF' β' a' w' h'=>hQ F' β' a' w' ?_) ops.size _ zp (λj o ho hj=>?_) zd F β a _ ?_
 ·obtain⟨f,hf,rfl⟩:=hget i e he;intro s1 g1 g2;exact(h4 i o f (ab5 _) ho hf).1 s1 g1 (g2 f hf)
 ·obtain⟨f,hf,rfl⟩:=hget i e he;obtain⟨g,hg,rfl⟩:=hget j e' he';rcases hind i j o o' f g hij ho ho' hf hg with ha|⟨ha,hb⟩
  ·grind
  ·exact .inr ⟨ha,hb.2.2.1⟩
 ·refine XY hlen (λi f hf=>?_) (λi j f g hij hf hg=>?_) L i f hf hLi h1 h2
  ·grind
  ·obtain⟨o,ho⟩:=hos i f hf
   grind
 ·rw[h3];simpa using h'
 ·have hf:(Array.replicate ops.size false).getD j false=false:=by
   simp only[aeK,agb];split<;>rfl
  grind
 ·have hf:∀j,(Array.replicate ops.size false).getD j false=false:=λj=>by
   simp only[aeK,agb];grind
  have:cJ ops (fs.map (·.e)) s (λj=>(Array.replicate ops.size false).getD j false) ops.size=s:=by
   rw[kZ (L':=λ_=>false) (λj _=>hf j)]
   have:∀m,cJ ops (fs.map (·.e)) s (λ_=>false) m=s:=by
    intro m
    induction m with
    |zero=>rfl
    |succ m ih=>simp only[cJ,ih,aey,if_false];grind
   exact this _
  rw[this];exact hs.heap rfl
end
def KO(acc:List Nat)(o:Oper):Nat:=o.after.toList.foldl (λm e=>if Region.binds .any e then m |||(2^e.on |||acc.getD e.on 0)else m) 0
def oH:List Oper->List Nat->List Nat
 |[],acc=>acc
 |o::r,acc=>oH r (acc++[KO acc o])
theorem zW{acc:List Nat}{i:Nat}:∀(l:List Edge) (m:Nat),(l.foldl (λm e=>if Region.binds .any e then m |||(2^e.on |||acc.getD e.on 0)else m) m).testBit i=true ->
 m.testBit i=true\/∃e∈l,Region.binds .any e=true/\(e.on=i\/(acc.getD e.on 0).testBit i=true)
 |[],m,h=>.inl h
 |e::l,m,h=>by
  rcases zW l _ h with h1|⟨e',h1,h2⟩
  ·grind
  grind
theorem mV{ops:Array Oper}:∀(os:List Oper) (acc:List Nat),ops.toList=ops.toList.take acc.length++os ->
 (∀i j,(acc.getD j 0).testBit i=true->Bm ops i j)->∀i j,((oH os acc).getD j 0).testBit i=true->Bm ops i j
 |[],acc,_,h=>h
 |o::os,acc,hl,h=>by
  have hlen:acc.length<ops.toList.length:=by
   have h1:=congrArg List.length hl;simp only[adl,acM,aeq]at h1;omega
  have ho:ops[acc.length]?=some o:=by
   have h1:ops.toList[acc.length]?=(ops.toList.take acc.length++o::os)[acc.length]?:=by rw[<-hl]
   rw[List.getElem?_append_right yv]at h1;simp only[acM]at h1;rw[show acc.length-min acc.length ops.toList.length=0 by omega]at h1;simpa using h1
  refine mV os _ ?_ (λi j hb=>?_)
  ·grind
  ·by_cases hj:j<acc.length
   ·grind
   ·by_cases hj2:j=acc.length
    ·subst hj2;rw[ab6,List.getElem?_append_right (bf _)]at hb;simp only[Nat.sub_self,List.getElem?_cons_zero,aga]at hb;unfold KO at hb;rcases zW _ _ hb with h1|⟨e,h1,h2,h3⟩
     ·simp at h1
     ·have he:e∈o.after:=by simpa using h1
      rcases h3 with h3|h3
      ·exact .one ho he h2 h3
      ·exact .more ho he h2 (h _ _ h3)
    grind
def Kz:Nat->List Oper->Bool
 |_,[]=>true
 |i,o::r=>o.after.toList.all (λe=>!Region.binds .any e ||decide (e.on<i))&&Kz (i+1) r
theorem xW{ops:Array Oper}:∀(os:List Oper) (n:Nat),ops.toList.drop n=os->Kz n os=true ->
 ∀(i:Nat) o,n<=i->ops[i]?=some o->∀ed∈o.after,Region.binds .any ed=true->ed.on<i
 |[],n,hl,_=>by
  intro i o hi ho;have h1:ops.toList.length<=n:=List.drop_eq_nil_iff.1 hl
  grind
 |o::os,n,hl,hb=>by
  simp only[Kz,adS]at hb;intro i o' hi ho ed hed hbd
  by_cases e:i=n
  ·subst e;have h1:(ops.toList.drop i)[0]?=some o:=by rw[hl];rfl
   grind
  ·refine xW os (n+1) ?_ hb.2 i o' zd ho ed hed hbd;rw[<-afe,hl];rfl
def kN(ops:Array Oper):Bool:=
 let ms:=oH ops.toList []
 Kz 0 ops.toList&&(List.range ops.size).all λj=>(List.range j).all λi=>
  (ms.getD j 0).testBit i ||(match ops[i]?,ops[j]? with|some o,some o'=>o.apart ops o'|_,_=>true)
def wU(e e':Fx):Bool:=
 e.us.all (λp=>!(e'.us.any λq=>q.1==p.1)&&!e'.rds.contains p.1)&&e'.us.all (λp=>!e.rds.contains p.1)
def idle(e:Fx):Bool:=e.us.isEmpty&&e.rds.isEmpty
def CP(ops:Array Oper)(es:List Fx):Bool:=
 let ms:=oH ops.toList []
 (List.range es.length).all λj=>match es[j]? with
  |some e'=>idle e' ||(List.range j).all λi=>match es[i]? with
   |some e=>idle e ||(ms.getD j 0).testBit i ||wU e e'
   |none=>true
  |none=>true
theorem DJ(h:wU e e'=true):(∀k∈e.us.map (·.1),k∉e'.us.map (·.1)/\k∉e'.rds)/\∀k∈e'.us.map (·.1),k∉e.rds:=by
 simp only[wU,adS,adG,aeM,List.any_eq_false,beq_iff_eq,List.contains_eq_mem,decide_eq_false_iff_not]at h
 grind
theorem At(h:idle e=true\/idle e'=true):(∀k∈e.us.map (·.1),k∉e'.us.map (·.1)/\k∉e'.rds)/\∀k∈e'.us.map (·.1),k∉e.rds:=by
 simp only[idle,adS,List.isEmpty_iff]at h
 grind
theorem tv(hlen:es.length=ops.size)(hs:kN ops=true)(hd:CP ops es=true):
 (∀(i:Nat) o,ops[i]?=some o->∀ed∈o.after,Region.binds .any ed=true->ed.on<i) /\
 (∀(i j:Nat) o o' e e',i<j->ops[i]?=some o->ops[j]?=some o'->es[i]?=some e->es[j]?=some e'->Bm ops i j\/Y2 ops o o' e e'):=by
 simp only[kN,adS,adG,List.mem_range]at hs;refine⟨λi o=>xW ops.toList 0 rfl hs.1 i o (ab5 _),λi j o o' e e' hij ho ho' he he'=>?_⟩;have hj:j<ops.size:=(Array.getElem?_eq_some_iff.1 ho').1;have hm:=mV (ops:=ops) ops.toList [] zp (λi j h=>by simp at h) i j;have h1:=hs.2 j hj i hij;rw[ho,ho']at h1;simp only[aeY]at h1;simp only[CP,adG,List.mem_range]at hd;have h2:=hd j zd;rw[he']at h2;simp only[aeY,adG,List.mem_range]at h2;rcases h1 with h1|h1
 ·grind
 ·rcases h2 with h2|h2
  ·exact .inr ⟨h1,At (.inr h2)⟩
  ·have h3:=h2 i hij;rw[he]at h3;simp only[aeY]at h3;rcases h3 with(h3|h3)|h3
   ·exact .inr ⟨h1,At (.inl h3)⟩
   ·grind
   ·exact .inr ⟨h1,DJ h3⟩
def jr(c:Ctx)(r:Option Nat)(ops:Array Oper):List Oper->List Fx->aJ->aJ->Prop
 |[],[],s,s'=>s'=s
 |o::os,e::es,s,s'=>dh c r ops o s e/\jr c r ops os es (e.app o.dst s) s'
 |_,_,_,_=>False
section
variable {c:Ctx}{r:Option Nat}{ops:Array Oper}
theorem jr.opers{Q:Exit->Act->World->Prop}:∀{os:List Oper}{es:List Fx}{s s':aJ}(n:Nat),ops.toList.drop n=os->jr c r ops os es s s' ->
 (∀F' β' a' w',aR c F' β' s' a' w'->Q .normal a' w')->∀F β a w,aR c F β s a w->wpOpsIn (wg r) 0 c.P ops Q (List.range' n os.length) a w
 |[],[],s,s',n,_,h,hQ=>λF β a w hs=>by
  have h:s'=s:=h;subst h;exact hQ F β a w hs
 |o::os,e::es,s,s',n,h1,h,hQ=>λF β a w hs=>by
  have ho:ops[n]?=some o:=by
   have:(ops.toList.drop n)[0]?=some o:=by rw[h1];rfl
   rw[afx]at this;simpa using this
  have ih:=jr.opers (os:=os) (es:=es) (n+1) fp h.2 hQ;have key:=h.1 s (λ_ _=>rfl) ⟨λ_ _=>rfl,λ_ _=>rfl⟩ F β a w (wpOpsIn (wg r) 0 c.P ops Q (List.range' (n+1) os.length)) Q hs (λF' β' a' w' h'=>ih F' β' a' w' h');simp only[aeq,List.range'_succ];rw[wpOpsIn_cons];unfold wpOpIn;rw[ho];simp only;split at key
  ·grind
  ·rename_i hw;rw[if_neg hw];exact⟨λ_ _=>trivial,key⟩
 |[],_::_,_,_,_,_,h,_=>h.elim
 |_::_,[],_,_,_,_,h,_=>h.elim
theorem jr.region{Q:Exit->Act->World->Prop}(h:jr c r ops ops.toList es s s')
 (hQ:∀F' β' a' w',aR c F' β' s' a' w'->Q .normal a' w')(hs:aR c F β s a w):(Code.region id ops false).wpIn (wg r) 0 c.P Q a w:=by
 refine wpIn_region ?_;have:=jr.opers 0 rfl h hQ F β a w hs;rw[List.range_eq_range']
 grind
theorem jr.toW:∀{os:List Oper}{es:List Fx}{s s':aJ},jr c r ops os es s s'->∃fs:List Fw,fs.map (·.e)=es/\(∀f∈fs,f.all=false)/\l5 c r ops os fs s s'
 |[],[],_,_,h=>⟨[],rfl,zp,h⟩
 |_::_,e::_,s,_,h=>by
  obtain⟨fs,h1,h2,h3⟩:=jr.toW h.2;refine⟨⟨e,s.lv,false,λ_ _=>false⟩::fs,by simp[h1],lm,λs1 g1 g2=>h.1 s1 g1 ?_,rfl,h3⟩;rcases g2 with⟨g,_⟩|⟨_,g|⟨_,_,_,g⟩⟩
  ·cases g
  ·exact g
  ·cases g
 |[],_::_,_,_,h=>h.elim
 |_::_,[],_,_,h=>h.elim
theorem jr.draw{Q:Exit->Act->World->Prop}(hm:c.P.follows .mixedOrders=true)(h:jr c r ops ops.toList es s s')(h1:kN ops=true)(h2:CP ops es=true)
 (hQ:∀F' β' a' w',aR c F' β' s' a' w'->Q .normal a' w')(hs:aR c F β s a w):(Code.region id ops true).wpIn (wg r) 0 c.P Q a w:=by
 obtain⟨fs,rfl,h3,h4⟩:=h.toW;obtain⟨h5,h6⟩:=tv (by rw[sC,h4.len];simp) h1 h2;refine h4.draw hm h5 (λi j o o' f g hij ho ho' hf hg=>?_) hQ hs;rcases h6 i j o o' f.e g.e hij ho ho' dE po with h|⟨a1,a2,a3⟩
 ·exact .inl h
 ·have e1:=h3 f (aet hf);have e2:=h3 g (aet hg);exact .inr ⟨a1,λe=>(by rw[e1]at e;cases e),λe=>(by rw[e2]at e;cases e),λk hk=>(a2 k hk).1,λk hk=>.inl (a2 k hk).2,λk hk=>.inl (a3 k hk)⟩
end
section
variable {c:Ctx}{r:Option Nat}{ops:Array Oper}{o:Oper}{s0:aJ}
theorem dh.call{cl:Call}{fs cs:List AV}(hd:∀d,o.dst=some d->d<c.n)(hw:jb ops o.guard s0.fr=some true)
 (ho:o.op=.call cl) (ht:xm c.P (s0.val c.G) cl.callee=some (f,fs,cs)) (hf:aE c.P f=true)
 (he:dS c f (fs++cl.args.toList.map (s0.val c.G)++cs) s0.lv x us rds):dh c r ops o s0 ⟨x,us,rds⟩:=by
 refine dh.qP hw (λcl' h=>by rw[ho]at h;cases h) (λs h1 h2=>?_);obtain⟨e1,e2⟩:=Jk (P:=c.P) (cl:=cl) (val:=s.val c.G) (val':=s0.val c.G) (λy hy=>h1 y (by rw[ho];exact hy));refine dS.sim (rds:=rds) hd ho (by rw[e1];exact ht) hf ?_;rw[e2];exact he.local h2
end
def je(c:Ctx)(o:Oper)(s:aJ)(κ:Nat)(K:AV->List (Key×LB)->List Key->Nat->Prop):Prop:=
 match o.op with
 |.call cl=>match cl.callee with
  |.builtin _=>match dg c.P o.op (o.op.operands.toList.map (s.val c.G)) s.lv κ with
   |some (x,us,rds,vc)=>vc/\K x us rds (match us with|[]=>κ|_=>κ+1)
   |none=>False
  |_=>match xm c.P (s.val c.G) cl.callee with
   |some (f,fs,cs)=>aE c.P f=true/\∃x us rds κ',dS c f (fs++cl.args.toList.map (s.val c.G)++cs) s.lv x us rds/\K x us rds κ'
   |none=>False
 |op=>match dg c.P op (op.operands.toList.map (s.val c.G)) s.lv κ with
  |some (x,us,rds,vc)=>vc/\K x us rds (match us with|[]=>κ|_=>κ+1)
  |none=>False
theorem E6{o':Oper}(h:o.op=o'.op):je c o s κ K=je c o' s κ K:=by
 unfold je;rw[h]
def iR(c:Ctx)(ops:Array Oper):List Oper->aJ->Nat->List Fx->(aJ->Nat->List Fx->Prop)->Prop
 |[],s,κ,acc,K=>K s κ acc
 |o::os,s,κ,acc,K=>match jb ops o.guard s.fr with
  |some true=>je c o s κ λx us rds κ'=>iR c ops os (aJ.put ⟨s.fr,b8 s.lv us⟩ o.dst x) κ' (⟨x,us,rds⟩::acc) K
  |some false=>iR c ops os (s.put o.dst .undef) κ (⟨.undef,[],[]⟩::acc) K
  |none=>False
def dW(n:Nat)(os:List Oper):Bool:=os.all λo=>match o.dst with|some d=>decide (d<n)|none=>true
section
variable {c:Ctx}{r:Option Nat}{ops:Array Oper}
theorem je.Qo(hd:∀d,o.dst=some d->d<c.n)(hw:jb ops o.guard s.fr=some true)(h:je c o s κ K):
 ∃x us rds κ',dh c r ops o s ⟨x,us,rds⟩/\K x us rds κ':=by
 have plain:(match dg c.P o.op (o.op.operands.toList.map (s.val c.G)) s.lv κ with
  |some (x,us,rds,vc)=>vc/\K x us rds (match us with|[]=>κ|_=>κ+1)
  |none=>False)->∃x us rds κ',dh c r ops o s ⟨x,us,rds⟩/\K x us rds κ':=by
  intro h;split at h
  ·rename_i x us rds vc hs
   exact⟨x,us,rds,_,dh.plain hd hw hs h.1,h.2⟩
  ·exact h.elim
 unfold je at h;split at h
 ·rename_i cl ho
  split at h
  ·rw[ho]at h plain;exact plain h
  ·split at h
   ·rename_i f fs cs ht
    obtain⟨hf,x,us,rds,κ',he,hK⟩:=h;exact⟨x,us,rds,κ',dh.call hd hw ho ht hf he,hK⟩
   ·exact h.elim
 ·exact plain h
theorem iR.chain{K:aJ->Nat->List Fx->Prop}:∀{os:List Oper}{s:aJ}{κ:Nat}{acc:List Fx},dW c.n os=true->iR c ops os s κ acc K ->
 ∃es s' κ',jr c r ops os es s s'/\K s' κ' (es.reverse++acc)
 |[],s,κ,_,_,h=>⟨[],s,κ,rfl,h⟩
 |o::os,s,κ,acc,hd,h=>by
  simp only[dW,ae1,adS]at hd;have hdo:∀d,o.dst=some d->d<c.n:=λd e=>by grind
  simp only[iR]at h;split at h
  ·rename_i hw
   obtain⟨x,us,rds,κ',he,hK⟩:=je.Qo (r:=r) hdo hw h;obtain⟨es,s',κ'',h1,h2⟩:=iR.chain hd.2 hK;exact⟨⟨x,us,rds⟩::es,s',κ'',⟨he,h1⟩,yn⟩
  ·rename_i hw
   obtain⟨es,s',κ'',h1,h2⟩:=iR.chain hd.2 h;exact⟨⟨.undef,[],[]⟩::es,s',κ'',⟨dh.skip hdo hw,h1⟩,yn⟩
  grind
end
inductive Ex where
 |normal
 |exit (id:Nat)
 |goto (l:Nat)
 |ret
 |panic (d:DV)
variable {Q:Ex->aJ->Nat->Prop}
def Yo(x:Ex)(e:Exit)(F:Nat->Prop)(w:World):Prop:=
 match x with
 |.normal=>e=.normal
 |.exit id=>e=.exit id
 |.goto l=>e=.goto l
 |.ret=>e=.ret
 |.panic d=>∃v,e=.panic [{ v:=v,recovered:=false }]/\Rd (yT w F) v d
def Post(c:Ctx)(Q:Ex->aJ->Nat->Prop):Exit->Act->World->Prop:=λe a w=>∃x s κ F β,Q x s κ/\aR c F β s a w/\Yo x e F w
def AW(c:Ctx)(r:Option Nat)(code:Code)(s:aJ)(κ:Nat)(Q:Ex->aJ->Nat->Prop):Prop:=
 ∀F β a w,aR c F β s a w->code.wpIn (wg r) 0 c.P (Post c Q) a w
def nH(K:aJ->Nat->Prop)(Q:Ex->aJ->Nat->Prop):Ex->aJ->Nat->Prop
 |.normal,s,κ=>K s κ
 |e,s,κ=>Q e s κ
def og(id:Nat)(Q:Ex->aJ->Nat->Prop):Ex->aJ->Nat->Prop
 |.exit id',s,κ=>if id'=id then Q .normal s κ else Q (.exit id') s κ
 |e,s,κ=>Q e s κ
section
variable {c:Ctx}{r:Option Nat}{s:aJ}{κ:Nat}{Q:Ex->aJ->Nat->Prop}
theorem AW.region(hd:dW c.n ops.toList=true)(h:iR c ops ops.toList s κ [] λs' κ' _=>Q .normal s' κ'):AW c r (.region id ops false) s κ Q:=by
 intro F β a w hs;obtain⟨es,s',κ',h1,h2⟩:=iR.chain (r:=r) hd h;exact h1.region (λF' β' a' w' h'=>⟨.normal,s',κ',F',β',h2,h',rfl⟩) hs
theorem AW.draw(hm:c.P.follows .mixedOrders=true)(hst:kN ops=true)(hd:dW c.n ops.toList=true)
 (h:iR c ops ops.toList s κ [] λs' κ' acc=>CP ops acc.reverse=true/\Q .normal s' κ'):AW c r (.region id ops true) s κ Q:=by
 intro F β a w hs;obtain⟨es,s',κ',h1,h2,h3⟩:=iR.chain (r:=r) hd h;exact h1.draw hm hst yn (λF' β' a' w' h'=>⟨.normal,s',κ',F',β',h3,h',rfl⟩) hs
theorem aan(h:Q .normal s κ):AW c r .skip s κ Q:=λF β _ _ hs=>wpIn_skip ⟨.normal,s,κ,F,β,h,hs,rfl⟩
theorem AW.label{l:Nat}(h:Q .normal s κ):AW c r (.label l) s κ Q:=λF β _ _ hs=>wpIn_label ⟨.normal,s,κ,F,β,h,hs,rfl⟩
theorem aaR(h:Q (.exit id) s κ):AW c r (.exit id) s κ Q:=λF β _ _ hs=>wpIn_exit ⟨.exit id,s,κ,F,β,h,hs,rfl⟩
theorem aal(h:Q .ret s κ):AW c r .ret s κ Q:=λF β _ _ hs=>wpIn_ret ⟨.ret,s,κ,F,β,h,hs,rfl⟩
theorem AW.seq{x y:Code}{K:aJ->Nat->Prop}(h:AW c r x s κ (nH K Q))(hK:∀s κ,K s κ->AW c r y s κ Q):AW c r (.seq x y) s κ Q:=by
 intro F β a w hs;refine wpIn_seq (wpIn_mono (h F β a w hs) λe a' w' hp=>?_);obtain⟨e',s',κ',F',β',hq,hs',he⟩:=hp
 cases e' with
 |normal=>cases he;exact hK s' κ' hq F' β' a' w' hs'
 |exit id=>cases he;exact⟨.exit id,s',κ',F',β',hq,hs',rfl⟩
 |goto l=>cases he;exact⟨.goto l,s',κ',F',β',hq,hs',rfl⟩
 |ret=>cases he;exact⟨.ret,s',κ',F',β',hq,hs',rfl⟩
 |panic d=>obtain⟨v,rfl,hv⟩:=he;exact⟨.panic d,s',κ',F',β',hq,hs',v,rfl,hv⟩
theorem AW.mono{x:Code}{Q':Ex->aJ->Nat->Prop}(h:AW c r x s κ Q)(hq:∀e s κ,Q e s κ->Q' e s κ):AW c r x s κ Q':=λF β a w hs=>
 wpIn_mono (h F β a w hs) λ_ _ _ ⟨e',s',κ',F',β',h1,h2,h3⟩=>⟨e',s',κ',F',β',hq _ _ _ h1,h2,h3⟩
theorem abR{o:Operand}{x y:Code}(hb:s.val c.G o=.c (.d (.bool b)))(h:AW c r (if b then x else y) s κ Q):AW c r (.cond o x y) s κ Q:=by
 intro F β a w hs;have h1:=hs.val o;rw[hb]at h1;exact wpIn_cond (Vw.A8 h1) (h F β a w hs)
theorem aaw{x:Code}(h:AW c r x s κ (og id Q)):AW c r (.block id x) s κ Q:=by
 intro F β a w hs;refine wpIn_block (wpIn_mono (h F β a w hs) λe a' w' hp=>?_);obtain⟨e',s',κ',F',β',hq,hs',he⟩:=hp
 cases e' with
 |normal=>cases he;exact⟨.normal,s',κ',F',β',hq,hs',rfl⟩
 |exit id'=>
  cases he
  simp only[og]at hq;simp only[Exit.inBlock];split
  ·rename_i hid;rw[if_pos hid]at hq;exact⟨.normal,s',κ',F',β',hq,hs',rfl⟩
  ·rename_i hid;rw[if_neg hid]at hq;exact⟨.exit id',s',κ',F',β',hq,hs',rfl⟩
 |goto l=>cases he;exact⟨.goto l,s',κ',F',β',hq,hs',rfl⟩
 |ret=>cases he;exact⟨.ret,s',κ',F',β',hq,hs',rfl⟩
 |panic d=>obtain⟨v,rfl,hv⟩:=he;exact⟨.panic d,s',κ',F',β',hq,hs',v,rfl,hv⟩
theorem AW.coarse{x:Code}{s2:aJ}{κ2:Nat}{g:Key->Key}(hc:gX c s s2 g)(h:AW c r x s2 κ2 Q):AW c r x s κ Q:=
 λF β a w hs=>h F _ a w (hs.coarse hc)
end
def mj(P:Program)(s:aJ):ResultVar->Option AV
 |.tmp t=>some (s.fr t)
 |.cell a T=>match s.fr a with
  |.c (.ptr k off)=>match s.lv k with|.cells _ _ _ cs=>iq P T (cs.drop off)|_=>none
  |_=>none
def kH(P:Program)(s:aJ):List ResultVar->Option (List AV)
 |[]=>some []
 |x::l=>match mj P s x,kH P s l with|some y,some r=>some (y::r)|_,_=>none
def AV.eK:AV->Bool
 |.tup _=>false
 |_=>true
def fq(P:Program)(s:aJ)(l:List ResultVar):Option AV:=
 match kH P s l with
 |some [x]=>some x
 |some r=>if r.all AV.eK then some (.tup r)else none
 |none=>none
theorem Vw.Vq(h:V.av v x)(hx:x.eK=true):V.wj v x:=by
 cases x with
 |tup l=>cases hx
 |_=>exact h
def IL(tmps:Array Value):ResultVar->Sem Value
 |.tmp t=>pure (tmps.getD t undef)
 |.cell a t=>do loadVar t (<-asAddr (tmps.getD a undef))
theorem I2(fn:Func)(tmps:Array Value):results fn tmps=(do let vs <-fn.results.mapM (IL tmps);pure (if h:vs.size=1 then vs[0]else .tuple vs)):=by
 rfl
section
variable {c:Ctx}{F:Nat->Prop}{β:Key->Nat}{s:aJ}{a:Act}{w:World}
theorem OZ(h:aR c F β s a w){x:ResultVar}(hr:mj c.P s x=some y):
 ∃v,(IL a.tmps x).run c.P w=.ok v w/\(Vw.mk F β s.lv w).av v y:=by
 cases x with
 |tmp t=>
  simp only[mj,aj]at hr;subst hr;exact⟨a.tmps.getD t undef,rfl,h.fr t⟩
 |cell b T=>
  simp only[mj]at hr;split at hr
  ·rename_i k off he
   split at hr
   ·rename_i own fz T' cs hk
    have h1:=h.fr b;rw[he]at h1;obtain⟨h1,_⟩:=h1;simp only[Vw.ff,hk]at h1;have hb:=h.dj k;unfold Vw.dj at hb;simp only[hk]at hb;obtain⟨arr,h2,h3,h4,_⟩:=hb
    obtain⟨v,h5,h6⟩:=ua (P:=c.P) (T:=T) (Vw.mk F β s.lv w) (b:=β k) (o:=off) hr (λi=>arr.getD (off+i) undef)
     (λi hi=>by
      have hi':off+i<arr.size:=kx
      rw[gz h2 hi'];simp_all)
     (λi hi=>by
      have hi':off+i<arr.size:=kx
      simp_all)
    refine⟨v,?_,h6⟩;simp only[Instr.loadAt,Instr.sureAddr,cy,ad6,nZ]at h5;show(do loadVar T (<-asAddr (a.tmps.getD b undef)):Sem Value).run c.P w=.ok v w;rw[h1];simp only[asAddr,cy,ad6,nZ];exact h5
   grind
  grind
theorem ER(h:aR c F β s a w):∀{l:List ResultVar}{ys:List AV},kH c.P s l=some ys ->
 ∃vs:List Value,(l.mapM (IL a.tmps)).run c.P w=.ok vs w/\vs.length=ys.length /\
  ∀i (h:i<ys.length) (h':i<vs.length),(Vw.mk F β s.lv w).av vs[i] ys[i]
 |[],ys,hr=>by simp only[kH,aj]at hr;simp_all
 |x::l,ys,hr=>by
  simp only[kH]at hr;split at hr
  ·rename_i y r' h1 h2
   simp only[aj]at hr;subst hr;obtain⟨v,h3,h4⟩:=OZ h h1;obtain⟨vs,h5,h6,h7⟩:=ER h h2;refine⟨v::vs,?_,by simp[h6],λi p q=>?_⟩
   ·simp_all
   grind
  grind
theorem vG(h:aR c F β s a w)(hr:fq c.P s fn.results.toList=some y):∃v,(results fn a.tmps).run c.P w=.ok v w/\(Vw.mk F β s.lv w).av v y:=by
 unfold fq at hr
 have key:∀ys,kH c.P s fn.results.toList=some ys->∃vs:Array Value,(results fn a.tmps).run c.P w=.ok (if h:vs.size=1 then vs[0]else .tuple vs) w/\vs.size=ys.length /\
  ∀i (h:i<ys.length) (h':i<vs.size),(Vw.mk F β s.lv w).av vs[i] ys[i]:=by
  intro ys hys;obtain⟨vs,h1,h2,h3⟩:=ER h hys;refine⟨vs.toArray,?_,zd,λi p q=>by grind⟩;rw[I2,cy,Array.mapM_eq_mapM_toList,map_eq_pure_bind,cy,h1];rfl
 split at hr
 ·grind
 ·rename_i ys hne hys
  split at hr
  ·rename_i hall
   simp only[aj]at hr;subst hr;obtain⟨vs,h1,h2,h3⟩:=key _ hys
   have h2':vs.size≠1:=λe=>by
    rw[e]at h2
    match ys,h2,hne with
    |[x],_,hne=>exact hne x rfl
   rw[dif_neg h2']at h1;rw[adG]at hall;exact⟨_,h1,vs,rfl,h2,λi p q=>Vw.Vq (h3 i p q) (hall _ (cn p))⟩
  grind
 grind
end
def Fin(c:Ctx)(fn:Func)(x:AV)(σ' ν:List LB):Ex->aJ->Nat->Prop
 |.normal,s,_|.ret,s,_=>∃s2 g,gX c s s2 g/\s2.lv=cY σ' ν/\fq c.P s2 fn.results.toList=some x
 |_,_,_=>False
theorem A2{vs:Array Value}{K:Ending->World->Prop}
 (hf:P.funcs[f]?=some fn) (hb:fn.body=some code) (hl:args.length<=fn.ntmps) (hS:fF (fY P G w F β lv) F β lv w) (hvl:vs.size=args.length) (hv:∀i (h:i<args.length) (h':i<vs.size),(Vw.mk F β lv w).av vs[i] args[i])
 (h:AW { fY P G w F β lv with n:=fn.ntmps } none code ⟨λt=>args.getD t .undef,lv⟩ κ Q) (hQ:∀e s κ,Q e s κ->e=.normal\/e=.ret)
 (fin:∀e s κ F' β' a w',Q e s κ->aR { fY P G w F β lv with n:=fn.ntmps } F' β' s a w'->a.defers=[]/\∃v,(results fn a.tmps).run P w'=.ok v w'/\K (.returned v) w'):Calls P f vs w K:=by
 refine calls_of_wp hf hb ?_
 let c:Ctx:={ fY P G w F β lv with n:=fn.ntmps }
 have hS':fF c F β lv w:=hS
 let a:Act:={ tmps:=vs++Array.replicate (fn.ntmps-vs.size) undef,defers:=[] }
 have hst:aR c F β ⟨λt=>args.getD t .undef,lv⟩ a w:=by
  refine hS'.with ?_ rfl (λt=>?_)
  ·grind
  ·show(Vw.mk F β lv w).av ((vs++Array.replicate (fn.ntmps-vs.size) undef).getD t undef) (args.getD t .undef)
   by_cases ht:t<args.length
   ·have h1:args.getD t .undef=args[t]:=iy ht
    have h2:(vs++Array.replicate (fn.ntmps-vs.size) undef).getD t undef=vs[t]' zd:=by
     rw[aeK,agu zd,ae0 zd];rfl
    grind
   ·have h1:args.getD t .undef=.undef:=nN ht
    have h2:(vs++Array.replicate (fn.ntmps-vs.size) undef).getD t undef=undef:=by
     rw[aeK,agH zd,agb];split<;>rfl
    rw[h1,h2];rfl
 have hw:=(wpIn_wide (n:=0)).1 (h F β a w hst);refine wp_mono hw λe a' w' hp=>?_;obtain⟨e',s',κ',F',β',hq,hs',he⟩:=hp;rcases hQ e' s' κ' hq with rfl|rfl
 ·cases he;exact fin _ _ _ _ _ _ _ hq hs'
 ·cases he;exact fin _ _ _ _ _ _ _ hq hs'
theorem aQ.pW{σ' ν:List LB}(hf:P.funcs[f]?=some fn)(hb:fn.body=some code)(hl:args.length<=fn.ntmps)
 (h:∀c:Ctx,c.P=P->c.G=G->c.n=fn.ntmps->c.jd=cY σ []->AW c none code ⟨λt=>args.getD t .undef,cY σ []⟩ 1000 (Fin c fn x σ' ν)):aQ P G f args σ (.ret x σ' ν):=by
 intro F β w vs hS hvl hv;refine A2 hf hb hl hS hvl hv (h _ rfl rfl rfl rfl) (λe s κ hq=>by cases e<;>first|exact .inl rfl|exact .inr rfl|exact hq.elim) λe s' κ F' β' a' w' hq hs'=>?_;obtain⟨s2,g,h1,h2,h3⟩:∃s2 g,gX _ s' s2 g/\s2.lv=cY σ' ν/\fq P s2 fn.results.toList=some x:=by cases e<;>first|exact hq|exact hq.elim
 have hs2:=hs'.coarse h1;obtain⟨v,h4,h5⟩:=vG hs2 h3;refine⟨hs'.defers,v,h4,v,F',λk=>β' (g k),rfl,?_,?_⟩
 ·have:=hs2.ux;rw[h2]at this;exact this
 grind
theorem AW.seq'{x y:Code}(h:AW c r x s κ (nH (λs κ=>AW c r y s κ Q) Q)):AW c r (.seq x y) s κ Q:=
 AW.seq h λ_ _ h=>h
theorem Ref.qf:∀(x:Ref),x.dA (λk=>k)=x
 |.d _=>rfl
 |.ptr ..=>rfl
 |.aO ..=>rfl
 |.agg cs=>by
  simp only[Ref.dA];congr 1;have:∀x∈cs,qd.dA (λk=>k) x=x:=λx _=>by cases x<;>rfl
  simpa using aen this
 |.ifc t x=>by simp only[Ref.dA,Ref.qf x]
theorem CV.qf(x:CV):x.dA (λk=>k)=x:=by
 cases x with
 |func fn f c=>
  simp only[CV.dA]
  have h:∀l:List Ref,l.map (Ref.dA λk=>k)=l:=λl=>by
   have:∀x∈l,Ref.dA (λk=>k) x=x:=λx _=>Ref.qf x
   simpa using aen this
  rw[h,h]
 |ifc t x=>simp only[CV.dA,Ref.qf]
 |_=>rfl
theorem As(l:List CV):l.map (CV.dA λk=>k)=l:=by
 have:∀x∈l,CV.dA (λk=>k) x=x:=λx _=>CV.qf x
 simpa using aen this
theorem AV.zi(h:x.eK=true):x.sX (λk=>k)=x:=by
 cases x with
 |c x=>simp only[AV.sX,CV.qf]
 |agg cs=>simp only[AV.sX,As]
 |tup l=>cases h
 |undef=>rfl
 |junk=>rfl
theorem AV.qf(h:x.cG=true):x.dA (λk=>k)=x:=by
 cases x with
 |c x=>exact AV.zi (x:=.c x) rfl
 |agg cs=>exact AV.zi (x:=.agg cs) rfl
 |tup l=>
  simp only[AV.cG,adG]at h;simp only[AV.dA];congr 1;have:∀x∈l,AV.sX (λk=>k) x=x:=λx hx=>AV.zi (by have:=h x hx;cases x<;>simp_all [AV.eK])
  simpa using aen this
 |undef=>rfl
 |junk=>rfl
theorem LB.WW{x:LB}(hm:∀own es,x=.map own es->∀p∈es,∀l,p.2≠.tup l):x.as x (λk=>k):=by
 cases x with
 |cells own fz T cs=>exact⟨own,cs,rfl,(As cs).symm,λh=>h⟩
 |map own es=>
  refine⟨own,es,rfl,?_,λh=>h,λp hp l=>hm own es rfl p hp l⟩
  have:∀p∈es,(λp:DV×AV=>(p.1,p.2.sX λk=>k)) p=p:=λp hp=>by
   have:=AV.zi (x:=p.2) (by have:=hm own es rfl p hp;cases e:p.2<;>simp_all [AV.eK])
   grind
  simpa using (aen this).symm
 |hole=>rfl
 |dead=>intro h;cases h
 |nils=>rfl
def aT:List (Nat×AV)->Nat->AV
 |[],_=>.junk
 |p::l,t=>if t=p.1 then p.2 else aT l t
theorem mS{P:Nat->AV->Prop}(h:∀p∈l,P p.1 p.2)(t:Nat):aT l t=.junk\/P t (aT l t):=by
 induction l with
 |nil=>exact .inl rfl
 |cons p l ih=>
  simp only[aT]
  grind
theorem gX.slots(hl:∀p∈l,p.2.cG=true/\s.fr p.1=p.2)(hm:∀k own es,s.lv k=.map own es->∀p∈es,∀l,p.2≠.tup l):
 gX c s ⟨aT l,s.lv⟩ (λk=>k):=by
 refine⟨λk=>LB.WW (hm k),λk k' _ _ h=>h,λt=>?_,λk _=>.inr rfl⟩;rcases mS (P:=λt x=>x.cG=true/\s.fr t=x) hl t with h|⟨h1,h2⟩
 ·grind
 ·exact .inr ⟨h1,by rw[AV.qf h1];exact h2⟩
def CV.pure:CV->Bool
 |.d _=>true
 |_=>false
def AV.rE:AV->Bool
 |.c x=>x.pure
 |.agg cs=>cs.all CV.pure
 |.undef=>true
 |.junk=>true
 |_=>false
def AV.pure:AV->Bool
 |.tup l=>l.all AV.rE
 |x=>x.rE
theorem CV.bV{x:CV}(h:x.pure=true)(g:Key->Key):x.dA g=x:=by cases x<;>simp_all [CV.pure,CV.dA]
theorem AV.wu(h:x.rE=true)(g:Key->Key):x.sX g=x:=by
 cases x with
 |c x=>simp only[AV.sX,CV.bV h]
 |agg cs=>
  simp only[AV.rE,adG]at h;simp only[AV.sX];congr 1;have:∀x∈cs,CV.dA g x=x:=λx hx=>CV.bV (h x hx) g
  simpa using aen this
 |tup l=>cases h
 |undef=>rfl
 |junk=>rfl
theorem AV.bV(h:x.pure=true)(g:Key->Key):x.dA g=x:=by
 cases x with
 |c x=>exact AV.wu (x:=.c x) h g
 |agg cs=>exact AV.wu (x:=.agg cs) h g
 |tup l=>
  simp only[AV.pure,adG]at h;simp only[AV.dA];congr 1;have:∀x∈l,AV.sX g x=x:=λx hx=>AV.wu (h x hx) g
  simpa using aen this
 |undef=>rfl
 |junk=>rfl
theorem AV.fu(h:x.pure=true):x.cG=true:=by
 cases x with
 |tup l=>
  simp only[AV.pure,adG]at h;simp only[AV.cG,adG];intro x hx;have:=h x hx
  cases x<;>simp_all [AV.rE]
 |_=>rfl
theorem gX.blind(hl:∀p∈l,p.2.pure=true/\s.fr p.1=p.2)(kh:Key)(hh:s.lv kh=.hole)(h0:∀k,c.jd k=.hole):
 gX c s ⟨aT l,λ_=>.hole⟩ (λ_=>kh):=by
 refine⟨λk=>hh,λk k' h=>(by cases h),λt=>?_,λk h=>absurd (h0 k) h⟩;rcases mS (P:=λt x=>x.pure=true/\s.fr t=x) hl t with h|⟨h1,h2⟩
 ·grind
 ·exact .inr ⟨AV.fu h1,rk⟩
theorem mK:cY [] []=λ_=>LB.hole:=funext λk=>uY k
def aD(c:Ctx)(fn:Func)(x:AV):Ex->aJ->Nat->Prop
 |.normal,s,_|.ret,s,_=>∃l kh,(∀p∈l,p.2.pure=true/\s.fr p.1=p.2)/\s.lv kh=.hole/\fq c.P ⟨aT l,λ_=>.hole⟩ fn.results.toList=some x
 |_,_,_=>False
theorem aa.Nh(hf:P.funcs[f]?=some fn)(hb:fn.body=some code)(hl:args.length<=fn.ntmps)
 (h:∀c:Ctx,c.P=P->c.G=G->c.n=fn.ntmps->c.jd=(λ_=>.hole)->AW c none code ⟨λt=>args.getD t .undef,λ_=>.hole⟩ 0 (aD c fn x)):aa P G f args x:=by
 refine aQ.pW hf hb hl λc h1 h2 h3 h4=>?_;rw[mK]at h4⊢;refine(AW.mono (λF β a w hs=>h c h1 h2 h3 h4 F β a w hs) λe s κ hq=>?_:AW c none code _ 1000 _)
 have fin:(∃l kh,(∀p∈l,p.2.pure=true/\s.fr p.1=p.2)/\s.lv kh=.hole/\fq c.P ⟨aT l,λ_=>.hole⟩ fn.results.toList=some x) ->
  ∃s2 g,gX c s s2 g/\s2.lv=cY [] []/\fq c.P s2 fn.results.toList=some x:=by
  rintro⟨l,kh,g1,g2,g3⟩;exact⟨⟨aT l,λ_=>.hole⟩,λ_=>kh,gX.blind g1 kh g2 (λk=>by rw[h4]),by rw[mK],g3⟩
 cases e with
 |normal=>exact fin hq
 |ret=>exact fin hq
 |exit id=>exact hq.elim
 |goto l=>exact hq.elim
 |panic d=>exact hq.elim
theorem aa.pW(hf:P.funcs[f]?=some fn)(hb:fn.body=some code)(hl:args.length<=fn.ntmps)
 (h:∀c:Ctx,c.P=P->c.G=G->c.n=fn.ntmps->AW c none code ⟨λt=>args.getD t .undef,λ_=>.hole⟩ 0 (aD c fn x)):aa P G f args x:=
 aa.Nh hf hb hl λc h1 h2 h3 _=>h c h1 h2 h3
def qc(r:Option dn)(κ:Nat)(K:AV->List (Key×LB)->List Key->Nat->Prop):Prop:=
 match r with
 |some (x,us,rds,vc)=>vc/\K x us rds (match us with|[]=>κ|_=>κ+1)
 |none=>False
@[simp↓]theorem ZB:qc (some (x,[],rds,vc)) κ K=(vc/\K x [] rds κ):=rfl
@[simp↓]theorem Xy{p:Key×LB}:qc (some (x,p::us,rds,vc)) κ K=(vc/\K x (p::us) rds (κ+1)):=rfl
@[simp↓]theorem YR:qc none κ K=False:=rfl
@[congr]theorem Wf{r r':Option dn}(h:∀_:Unit,r=r'):qc r κ K=qc r' κ K:=by rw[h ()]
def o9(w:Option Bool)(a b:Unit->Prop):Prop:=match w with|some true=>a ()|some false=>b ()|none=>False
@[simp↓]theorem Zi{a b:Unit->Prop}:o9 (some true) a b=a ():=rfl
@[simp↓]theorem X0{a b:Unit->Prop}:o9 (some false) a b=b ():=rfl
@[congr]theorem Sw{w w':Option Bool}{a b:Unit->Prop}(h:∀_:Unit,w=w'):o9 w a b=o9 w' a b:=by rw[h ()]
def qL(o:Option Tmp)(f:Tmp->Prop):Prop:=match o with|some t=>f t|none=>False
@[simp↓]theorem Yd{t:Tmp}{f:Tmp->Prop}:qL (some t) f=f t:=rfl
@[congr]theorem Qu{o o':Option Tmp}{f:Tmp->Prop}(h:∀_:Unit,o=o'):qL o f=qL o' f:=by rw[h ()]
def rH(c:Ctx)(ops:Array Oper)(os:List Oper)(s:aJ)(κ:Nat)(K:aJ->Nat->Prop):Prop:=iR c ops os s κ [] λs κ _=>K s κ
theorem oE{c:Ctx}{ops:Array Oper}{K:aJ->Nat->Prop}:∀{os:List Oper}{s:aJ}{κ:Nat}{acc acc':List Fx},iR c ops os s κ acc (λs κ _=>K s κ)=iR c ops os s κ acc' (λs κ _=>K s κ)
 |[],s,κ,_,_=>rfl
 |o::os,s,κ,acc,acc'=>by
  simp only[iR];split
  ·congr 1;funext x us rds κ';exact oE
  ·exact oE
  ·rfl
section
variable {c:Ctx}{ops:Array Oper}{s:aJ}{κ:Nat}{d:Option Tmp}{ty:TypeId}{pos:String}{af:Array Edge}{K:AV->List (Key×LB)->List Key->Nat->Prop}
@[simp↓]theorem V5{K:aJ->Nat->Prop}:rH c ops [] s κ K=K s κ:=rfl
@[simp↓]theorem I9{o:Op}{K:aJ->Nat->Prop}:rH c ops (⟨d,o,ty,pos,af,none⟩::os) s κ K =
 je c ⟨d,o,ty,pos,af,none⟩ s κ λx us _ κ'=>rH c ops os (aJ.put ⟨s.fr,b8 s.lv us⟩ d x) κ' K:=by
 simp only[rH,iR,jb];congr 1;funext x us rds κ';exact oE
def uZ(x:AV)(want:Bool):Option Bool:=
 match x with
 |.c (.d (.bool b))=>some (b==want)
 |.undef=>some false
 |_=>none
@[simp↓]theorem GJ{o:Op}{w:Bool}{K:aJ->Nat->Prop}:rH c ops (⟨d,o,ty,pos,af,some (j,w)⟩::os) s κ K =
 qL ((ops[j]?).bind (·.dst)) λt=>o9 (uZ (s.fr t) w)
  (λ_=>je c ⟨d,o,ty,pos,af,some (j,w)⟩ s κ λx us _ κ'=>rH c ops os (aJ.put ⟨s.fr,b8 s.lv us⟩ d x) κ' K)
  (λ_=>rH c ops os (s.put d .undef) κ K):=by
 simp only[rH,iR,jb,qL,o9]
 cases hj:(ops[j]?).bind (·.dst)with
 |none=>rfl
 |some t=>
  simp only[uZ]
  cases e:s.fr t with
  |c x=>
   cases x with
   |d x=>cases x with
    |bool b=>
     simp only
     cases b<;>cases w<;>simp only[BEq.rfl,Bool.beq_eq_decide_eq,decide_false,reduceCtorEq]<;>first|(congr 1;funext x us rds κ';exact oE)|exact oE
    |_=>rfl
   |_=>rfl
  |undef=>simp only;exact oE
  |_=>rfl
@[simp]theorem V9:b8 lv []=lv:=rfl
@[simp]theorem Xg{p:Key×LB}:b8 lv [p]=aM lv p.1 p.2:=rfl
theorem UF{f:Nat->α}{k:Nat}{x:α}:aM f k x t=if t=k then x else f t:=rfl
@[simp]theorem Y7{s:aJ}:s.put none x=s:=rfl
@[simp]theorem Zc:aJ.put ⟨fr,lv⟩ (some t) x=⟨aM fr t x,lv⟩:=rfl
@[simp]theorem aay:s.val G (.tmp t)=s.fr t:=rfl
@[simp]theorem Wo:s.val G (.const v)=yL v:=rfl
@[simp]theorem Ze:s.val G (.func f)=.c (.d (.func (.func f) [] [])):=rfl
@[simp]theorem U1{g:Nat}:s.val G (.global g)=match G[g]? with|some cs=>.c (.d (.ptr cs))|none=>.junk:=rfl
@[simp]theorem X4:yL (.bool b)=.c (.d (.bool b)):=rfl
theorem yY{k:IntKind}(h:k.wrap n=n):yL (.int k n)=.c (.d (.int k n)):=by simp only[yL,IW,h,if_true]
@[simp]theorem Zy(h1:-9223372036854775808<=n)(h2:n<=9223372036854775807):yL (.int .i64 n)=.c (.d (.int .i64 n)):=yY (eG ⟨h1,h2⟩)
@[simp]theorem acV(h1:0<=n)(h2:n<=255):yL (.int .u8 n)=.c (.d (.int .u8 n)):=yY (eG ⟨h1,h2⟩)
@[simp]theorem ZD(h1:0<=n)(h2:n<=4294967295):yL (.int .u32 n)=.c (.d (.int .u32 n)):=yY (eG ⟨h1,h2⟩)
@[simp]theorem aaf(h1:0<=n)(h2:n<=18446744073709551615):yL (.int .u64 n)=.c (.d (.int .u64 n)):=yY (eG ⟨h1,h2⟩)
@[simp]theorem aaA{b:ByteArray}(h:b.data.toList.length<=9223372036854775807):yL (.string b)=.c (.d (.str b.data.toList)):=by simp only[yL,IW,h,if_true]
@[simp]theorem Xz:yL (.pointer none)=.c (.d .nilp):=rfl
@[simp]theorem Wt:yL (.slice none 0 0)=.c (.d .nilsl):=rfl
@[simp]theorem YL:yL .nilIface=.c (.d .nilIface):=rfl
@[simp]theorem XT:yL .nilFunc=.c (.d .nilFunc):=rfl
@[simp]theorem YF:yL (.map none)=.c (.d .nilmap):=rfl
@[simp]theorem aab{a:Array Value}:yL (.agg a)=if a.toList.all (·.oneCell')then .agg (a.toList.map IW)else .junk:=rfl
variable {g:Option (Nat×Bool)}
@[simp↓]theorem m7{x:Operand}:je c ⟨d,.move x,ty,pos,af,g⟩ s κ K=K (s.val c.G x) [] [] κ:=by simp[je,dg,Op.operands]
@[simp↓]theorem Bh{x:Operand}:je c ⟨d,.assign x,ty,pos,af,g⟩ s κ K=K (s.val c.G x) [] [] κ:=by simp[je,dg,Op.operands]
def Fj(t x y:AV):Option dn:=match t with|.c (.d (.bool true))=>some (x,[],[],True)|.c (.d (.bool false))=>some (y,[],[],True)|_=>none
@[simp]theorem Zn:Fj (.c (.d (.bool true))) x y=some (x,[],[],True):=rfl
@[simp]theorem Z6:Fj (.c (.d (.bool false))) x y=some (y,[],[],True):=rfl
@[simp↓]theorem YT{t x y:Operand}:je c ⟨d,.pick t x y,ty,pos,af,g⟩ s κ K=qc (Fj (s.val c.G t) (s.val c.G x) (s.val c.G y)) κ K:=xr
def Dq(P:Program)(T:TypeId)(lv:Key->LB)(κ:Key):Option dn:=match dI P T,lv κ with|some xs,.hole=>some (.c (.ptr κ 0),[(κ,.cells true false T xs)],[],True)|_,_=>none
@[simp↓]theorem WI:je c ⟨d,.alloc T,ty,pos,af,g⟩ s κ K=qc (Dq c.P T s.lv κ) κ K:=xr
def SI(T:TypeId)(x:AV)(lv:Key->LB)(κ:Key):Option dn:=match x.cells,lv κ with|some xs,.hole=>some (.c (.ptr κ 0),[(κ,.cells true false T xs)],[],True)|_,_=>none
@[simp↓]theorem ZN{x:Operand}:je c ⟨d,.box T x,ty,pos,af,g⟩ s κ K=qc (SI T (s.val c.G x) s.lv κ) κ K:=xr
@[simp↓]theorem XM{x:Operand}:je c ⟨d,.load T x,ty,pos,af,g⟩ s κ K=qc (aA c.P T s.lv (s.val c.G x)) κ K:=xr
@[simp↓]theorem WA{x y:Operand}:je c ⟨d,.store T x y,ty,pos,af,g⟩ s κ K=qc (aG c.P T s.lv (s.val c.G x) (s.val c.G y)) κ K:=xr
@[simp↓]theorem ZC{x:Operand}:je c ⟨d,.nilCheck x,ty,pos,af,g⟩ s κ K=qc (j8 s.lv (s.val c.G x)) κ K:=xr
@[simp↓]theorem Z8{x y:Operand}:je c ⟨d,.binOp op T x y T',ty,pos,af,g⟩ s κ K=qc (aU c.P op T (s.val c.G x) (s.val c.G y)) κ K:=xr
def OP(op:UnOp)(x:AV):Option dn:=match x with|.c (.d d)=>(match Zr op d with|some d'=>some (.c (.d d'),[],[],True)|none=>none)|_=>none
@[simp↓]theorem acI{op:UnOp}{x:Operand}:je c ⟨d,.unOp op T x,ty,pos,af,g⟩ s κ K=qc (OP op (s.val c.G x)) κ K:=xr
@[simp]theorem Y5:OP .not (.c (.d (.bool b)))=some (.c (.d (.bool !b)),[],[],True):=rfl
@[simp]theorem XU{k:IntKind}:OP .neg (.c (.d (.int k n)))=some (.c (.d (.int k (k.wrap (0-n)))),[],[],True):=rfl
def KG(P:Program)(S T:TypeId)(x:AV):Option dn:=match x with
 |.c (.d (.int _ n))=>match vz P S,vz P T with|some _,some k'=>some (.c (.d (.int k' (k'.wrap n))),[],[],True)|_,_=>none
 |.c (.d (.str l))=>if lX P S&&lX P T then some (.c (.d (.str l)),[],[],True)else none
 |_=>none
@[simp↓]theorem YC{x:Operand}:je c ⟨d,.convert S T x,ty,pos,af,g⟩ s κ K=qc (KG c.P S T (s.val c.G x)) κ K:=xr
@[simp↓]theorem Qq{f:Nat}{x:Operand}:je c ⟨d,.fieldAddr T x f,ty,pos,af,g⟩ s κ K=qc (dJ c.P T f s.lv (s.val c.G x)) κ K:=xr
def EJ(P:Program)(T:TypeId)(f:Nat)(x:AV):Option dn:=match x with|.agg cs=>(match eH P T f with|some (off,ft)=>(match tq P ft cs off with|some y=>some (y,[],[],True)|none=>none)|none=>none)|_=>none
@[simp↓]theorem Ww{f:Nat}{x:Operand}:je c ⟨d,.field T x f,ty,pos,af,g⟩ s κ K=qc (EJ c.P T f (s.val c.G x)) κ K:=xr
@[simp↓]theorem Qr{x i:Operand}:je c ⟨d,.indexAddr T x i,ty,pos,af,g⟩ s κ K=qc (aq c.P T s.lv (s.val c.G x) (s.val c.G i)) κ K:=xr
@[simp↓]theorem WJ{x i:Operand}:je c ⟨d,.index T x i,ty,pos,af,g⟩ s κ K=qc (jO c.P T (s.val c.G x) (s.val c.G i)) κ K:=xr
def xY(i:Nat)(x:AV):Option dn:=match x with|.tup l=>(match l[i]? with|some (.tup _)=>none|some y=>some (y,[],[],True)|none=>none)|_=>none
@[simp↓]theorem aaa{x:Operand}:je c ⟨d,.extract x i,ty,pos,af,g⟩ s κ K=qc (xY i (s.val c.G x)) κ K:=xr
def SV(P:Program)(T:TypeId)(x:AV):Option dn:=match qH x with|some d=>if P.concrete T then some (.c (.d (.iface T d)),[],[],True)else none|none=>none
@[simp↓]theorem Zs{x:Operand}:je c ⟨d,.makeInterface T x,ty,pos,af,g⟩ s κ K=qc (SV c.P T (s.val c.G x)) κ K:=xr
@[simp↓]theorem ZK{x y:Operand}:je c ⟨d,.makeSlice T x y,ty,pos,af,g⟩ s κ K=qc (jX c.P T s.lv κ (s.val c.G x) (s.val c.G y)) κ K:=xr
@[simp↓]theorem TH{x:Operand}:je c ⟨d,.slice T x none none none,ty,pos,af,g⟩ s κ K=qc (ct c.P T s.lv (s.val c.G x) none none) κ K:=xr
@[simp↓]theorem Te{x l:Operand}:je c ⟨d,.slice T x (some l) none none,ty,pos,af,g⟩ s κ K=qc (ct c.P T s.lv (s.val c.G x) (some (s.val c.G l)) none) κ K:=xr
@[simp↓]theorem TJ{x:Operand}:je c ⟨d,.slice T x none (some h) none,ty,pos,af,g⟩ s κ K=qc (ct c.P T s.lv (s.val c.G x) none (some (s.val c.G h))) κ K:=xr
@[simp↓]theorem TN{x l:Operand}:je c ⟨d,.slice T x (some l) (some h) none,ty,pos,af,g⟩ s κ K=qc (ct c.P T s.lv (s.val c.G x) (some (s.val c.G l)) (some (s.val c.G h))) κ K:=xr
@[simp↓]theorem VM{x y:Operand}:je c ⟨d,.call { callee:=.builtin .append,args:=#[x,y],argTypes:=#[T,T'] },ty,pos,af,g⟩ s κ K=qc (if T=T' then iC c.P T s.lv κ (s.val c.G x) (s.val c.G y)else none) κ K:=by
 rfl
def GF(c:Ctx)(tgt:Option (FuncId×List AV×List AV))(xs:List AV)(lv:Key->LB)(K:AV->List (Key×LB)->List Key->Nat->Prop):Prop:=
 match tgt with
 |some (f,fs,cs)=>aE c.P f=true/\∃x us rds κ',dS c f (fs++xs++cs) lv x us rds/\K x us rds κ'
 |none=>False
@[simp↓]theorem Yr{fo:Operand}{xs:Array Operand}:je c ⟨d,.call { callee:=.value fo,args:=xs,argTypes:=ts },ty,pos,af,g⟩ s κ K=GF c (mu (s.val c.G fo)) (xs.toList.map (s.val c.G)) s.lv K:=rfl
def ag(c:Ctx)(f:FuncId)(xs:List AV)(lv:Key->LB)(K:AV->List (Key×LB)->List Key->Nat->Prop):Prop:=∃x us rds κ',dS c f xs lv x us rds/\K x us rds κ'
@[congr]theorem Sa(h:∀_:Unit,xs=xs'):ag c f xs lv K=ag c f xs' lv K:=by rw[h ()]
@[simp]theorem UC:GF c (some (f,[],[])) xs lv K=(aE c.P f=true/\ag c f xs lv K):=by simp[GF,ag]
@[simp]theorem Rh:mu (.c (.d (.func (.func f) [] [])))=some (f,[],[]):=rfl
@[congr]theorem Th{t t':Option (FuncId×List AV×List AV)}(h:∀_:Unit,t=t')(h':∀_:Unit,xs=xs'):GF c t xs lv K=GF c t' xs' lv K:=yk
end
theorem AW.Sf(hd:dW c.n ops.toList=true)(h:rH c ops ops.toList s κ λs' κ'=>Q .normal s' κ'):AW c r (.region id ops false) s κ Q:=
 AW.region hd h
@[simp↓]theorem ZF{K:aJ->Nat->Prop}:nH K Q .normal s κ=K s κ:=rfl
@[simp↓]theorem ZS{K:aJ->Nat->Prop}:nH K Q (.exit i) s κ=Q (.exit i) s κ:=rfl
@[simp↓]theorem ZV{K:aJ->Nat->Prop}:nH K Q .ret s κ=Q .ret s κ:=rfl
@[simp↓]theorem WT:og i Q .normal s κ=Q .normal s κ:=rfl
@[simp↓]theorem YA:og i Q (.exit j) s κ=if j=i then Q .normal s κ else Q (.exit j) s κ:=rfl
@[simp↓]theorem Xs:og i Q .ret s κ=Q .ret s κ:=rfl
@[simp]theorem ZR{x:DV}:vL (.c (.d x)) n=True:=rfl
@[simp]theorem Zt{w:Bool}:uZ (.c (.d (.bool b))) w=some (b==w):=rfl
@[simp]theorem aak{w:Bool}:uZ .undef w=some false:=rfl
def Le(c:Ctx)(s s2:aJ):Prop:=∃g,gX c s s2 g
theorem Le.slots(l:List (Nat×AV))(hl:∀p∈l,p.2.cG=true/\fr p.1=p.2)(hm:∀k own es,lv k=.map own es->∀p∈es,∀l,p.2≠.tup l):
 Le c ⟨fr,lv⟩ ⟨aT l,lv⟩:=⟨_,gX.slots (s:=⟨fr,lv⟩) hl hm⟩
theorem aac{x y:Code}(h:∀K:aJ->Nat->Prop,(∀s κ,AW c r y s κ Q->K s κ)->AW c r x s κ (nH K Q)):AW c r (.seq x y) s κ Q:=
 AW.seq' (h _ λ_ _ h=>h)
theorem J8[DecidableEq α](m n:α):(m==n)=decide (m=n):=by
 by_cases h:m=n<;>simp[h]
section
variable {P:Program}{T:TypeId}{k:IntKind}{m n:Int}
@[simp]theorem ab7:aU P .add T (.c (.d (.int k m))) (.c (.d (.int k n)))=some (.c (.d (.int k (k.wrap (m+n)))),[],[],True):=ul
@[simp]theorem acr:aU P .sub T (.c (.d (.int k m))) (.c (.d (.int k n)))=some (.c (.d (.int k (k.wrap (m-n)))),[],[],True):=ul
@[simp]theorem acf:aU P .mul T (.c (.d (.int k m))) (.c (.d (.int k n)))=some (.c (.d (.int k (k.wrap (m*n)))),[],[],True):=ul
@[simp]theorem abf:aU P .quo T (.c (.d (.int k m))) (.c (.d (.int k n)))=some (.c (.d (.int k (k.wrap (m.tdiv n)))),[],[],n≠0):=ul
@[simp]theorem aa0:aU P .rem T (.c (.d (.int k m))) (.c (.d (.int k n)))=some (.c (.d (.int k (m.tmod n))),[],[],n≠0):=ul
theorem TW:aU P .and T (.c (.d (.int k m))) (.c (.d (.int k n)))=some (.c (.d (.int k (k.wrap (BitVec.ofInt k.bits m&&&BitVec.ofInt k.bits n).toNat))),[],[],True):=ul
theorem X8:aU P .or T (.c (.d (.int k m))) (.c (.d (.int k n)))=some (.c (.d (.int k (k.wrap (BitVec.ofInt k.bits m |||BitVec.ofInt k.bits n).toNat))),[],[],True):=ul
@[simp]theorem aaQ:aU P .eql T (.c (.d (.int k m))) (.c (.d (.int k n)))=some (.c (.d (.bool (decide (m=n)))),[],[],True):=by simp[aU,om,jl,J8]
@[simp]theorem acO:aU P .neq T (.c (.d (.int k m))) (.c (.d (.int k n)))=some (.c (.d (.bool (!decide (m=n)))),[],[],True):=by simp[aU,om,jl,bne,J8]
@[simp]theorem abH:aU P .lss T (.c (.d (.int k m))) (.c (.d (.int k n)))=some (.c (.d (.bool (decide (m<n)))),[],[],True):=ul
@[simp]theorem acH:aU P .leq T (.c (.d (.int k m))) (.c (.d (.int k n)))=some (.c (.d (.bool (decide (m<=n)))),[],[],True):=ul
@[simp]theorem acW:aU P .gtr T (.c (.d (.int k m))) (.c (.d (.int k n)))=some (.c (.d (.bool (decide (n<m)))),[],[],True):=ul
@[simp]theorem abU:aU P .geq T (.c (.d (.int k m))) (.c (.d (.int k n)))=some (.c (.d (.bool (decide (n<=m)))),[],[],True):=ul
@[simp]theorem Pt:aU P .shl T (.c (.d (.int k m))) (.c (.d (.int k' n)))=some (.c (.d (.int k (k.wrap (m*2^(min n.toNat k.bits))))),[],[],0<=n):=xr
@[simp]theorem acL:aU P .shr T (.c (.d (.int k m))) (.c (.d (.int k' n)))=some (.c (.d (.int k (m.fdiv (2^(min n.toNat k.bits))))),[],[],0<=n):=xr
end
theorem aQ.nc{o:Out}{φ:Prop}(i:Nat)(hi:i<args.length)(hφ:∀(V:Vw) v,V.av v args[i]->φ)(k:φ->aQ P G f args σ o):aQ P G f args σ o:=
 λF β w vs hS hl hv=>k (hφ _ _ (hv i hi zd)) F β w vs hS hl hv
def W(l:List Nat):List (List DV):=l.map λ(x:Nat)=>[DV.int .u32 (x:Int)]
def uW(l:List Nat):AV:=.c (.d (.sl (W l)))
@[simp]theorem X9(l:List Nat):(W l).length=l.length:=by simp[W]
@[simp]theorem adj:W []=[]:=rfl
@[simp]theorem ado(l m:List Nat):W (l++m)=W l++W m:=by simp[W]
@[simp]theorem acA(x:Nat)(l:List Nat):W (x::l)=[DV.int .u32 (x:Int)]::W l:=rfl
theorem WU(l:List Nat):∀e∈W l,e.length=1:=by
 intro e he;simp only[W,aeA]at he;grind
theorem M7{l:List Nat}(h:V.av v (uW l)):l.length<=9223372036854775807/\∀x∈l,x<=4294967295:=by
 have h1:=Vw.Ii h;rw[X9]at h1;refine⟨h1,λx hx=>?_⟩;obtain⟨h,_⟩:=h;generalize hW:W l=es at h
 cases h with
 |sl0 _=>cases l with|nil=>cases hx|cons a l=>cases hW
 |sl b off cap sz _ vs hl hc hb hm ho hr=>
  subst hW;obtain⟨i,hi,rfl⟩:=List.mem_iff_getElem.1 hx;have h2:=hr i yk 0 (by simp[W]);simp only[W,rP,aeC]at h2
  have h3:u32.wrap (l[i]:Int)=(l[i]:Int):=by
   generalize vs i 0=u at h2
   cases h2;assumption
  rw[qK]at h3;simp only[rM]at h3;omega
structure Bk where
 dst:Option Tmp
 op:Op
 g:Option (Option Tmp×Bool)
def Gs(gd:List (Option Tmp))(o:Oper):Bk:=⟨o.dst,o.op,match o.guard with|none=>none|some (j,w)=>some ((gd[j]?).join,w)⟩
def l9(gd:List (Option Tmp)):List Oper->List Bk
 |[]=>[]
 |o::os=>Gs gd o::l9 gd os
def hO(ops:Array Oper):List Bk:=l9 (ops.toList.map (·.dst)) ops.toList
def br(c:Ctx):List Bk->aJ->Nat->(aJ->Nat->Prop)->Prop
 |[],s,κ,K=>K s κ
 |p::ps,s,κ,K=>match p.g with
  |none=>je c ⟨none,p.op,0, "",#[],none⟩ s κ λx us _ κ'=>br c ps (aJ.put ⟨s.fr,b8 s.lv us⟩ p.dst x) κ' K
  |some (t,w)=>qL t λt=>o9 (uZ (s.fr t) w)
   (λ_=>je c ⟨none,p.op,0, "",#[],none⟩ s κ λx us _ κ'=>br c ps (aJ.put ⟨s.fr,b8 s.lv us⟩ p.dst x) κ' K)
   (λ_=>br c ps (s.put p.dst .undef) κ K)
theorem NL:((ops.toList.map (·.dst))[j]?).join=(ops[j]?).bind (·.dst):=by
 grind
theorem oG{c:Ctx}{ops:Array Oper}{K:aJ->Nat->Prop}:∀{os:List Oper}{s:aJ}{κ:Nat},br c (l9 (ops.toList.map (·.dst)) os) s κ K=rH c ops os s κ K
 |[],s,κ=>rfl
 | ⟨d,o,ty,pos,af,none⟩::os,s,κ=>by
  rw[I9];simp only[l9,Gs,br];rw[E6 (o:=⟨none,o,0, "",#[],none⟩) (o':=⟨d,o,ty,pos,af,none⟩) rfl];congr 1;funext x us rds κ';exact oG
 | ⟨d,o,ty,pos,af,some (j,w)⟩::os,s,κ=>by
  rw[GJ];simp only[l9,Gs,br,NL];congr 1;funext t;congr 1
  ·funext _;rw[E6 (o:=⟨none,o,0, "",#[],none⟩) (o':=⟨d,o,ty,pos,af,some (j,w)⟩) rfl];congr 1;funext x us rds κ';exact oG
  ·funext _;exact oG
theorem abq(hd:dW c.n ops.toList=true)(h:br c (hO ops) s κ λs' κ'=>Q .normal s' κ'):AW c r (.region id ops false) s κ Q:=
 AW.Sf hd (by rw[<-oG];exact h)
section
variable {c:Ctx}{s:aJ}{κ:Nat}{K:aJ->Nat->Prop}
@[simp↓]theorem WG:br c [] s κ K=K s κ:=rfl
theorem jI{o:Op}{ps:List Bk}:br c (⟨d,o,none⟩::ps) s κ K =
 je c ⟨none,o,0, "",#[],none⟩ s κ λx us _ κ'=>br c ps (aJ.put ⟨s.fr,b8 s.lv us⟩ d x) κ' K:=rfl
theorem Pz{l:List Oper}:hO l.toArray=l9 (l.map (·.dst)) l:=rfl
theorem Mt:l9 gd []=[]:=rfl
theorem Iy{o:Op}:l9 gd (⟨d,o,ty,pos,af,none⟩::os)=⟨d,o,none⟩::l9 gd os:=rfl
theorem HB{o:Op}{w:Bool}:l9 gd (⟨d,o,ty,pos,af,some (j,w)⟩::os)=⟨d,o,some ((gd[j]?).join,w)⟩::l9 gd os:=rfl
end
theorem dX(h:x.pure=true):ql lv x=[]:=by
 cases x with
 |c x=>cases x<;>simp_all [AV.pure,AV.rE,CV.pure,ql,jB]
 |agg cs=>
  simp only[AV.pure,AV.rE,adG]at h;simp only[ql,List.flatMap_eq_nil_iff];intro x hx;have:=h x hx
  cases x<;>simp_all [CV.pure,jB]
 |_=>rfl
theorem dS.pure(hc:aa c.P c.G f xs x)(hx:x.pure=true)(hxs:∀a∈xs,a.pure=true)(kh:Key)(hh:lv kh=.hole):dS c f xs lv x [] [kh]:=by
 have key:=dS.gen (c:=c) (f:=f) (as:=xs) (lv:=lv) xs [] [] [] kh [] [] [] x false [kh] (λz hz=>by cases hz) zp zp (λz hz=>by cases hz) zp (λz hz=>by cases hz) rfl rfl rfl zp
  (λi h=>absurd h (aer i)) (λk hk=>by cases hk) hh (λb hb=>by cases hb) (λb hb=>by cases hb) (λh=>by cases h) rfl
  (λi p q=>.inl ⟨AV.fu (hxs _ (cn q)),(AV.bV (hxs _ (cn q)) _).symm⟩) (λa ha k hk=>by rw[dX (hxs a ha)]at hk;cases hk) zp hc
 rw[AV.bV hx]at key;exact key
theorem ag.pure(κ:Nat)(kh:Key)(hc:aa c.P c.G f xs x)(hx:x.pure=true)(hxs:∀a∈xs,a.pure=true)(hh:lv kh=.hole)
 (hK:K x [] [kh] κ):ag c f xs lv K:=⟨x,[],[kh],κ,dS.pure hc hx hxs kh hh,hK⟩
theorem ag.MD{us:List AV}(κ:Nat)(kh:Key)(k:Key)(T:TypeId)(cs:List CV)(rds:List Key)
 (hc:aa c.P c.G f us x) (hx:x.pure=true) (hk:lv k=.cells true false T cs) (hh:lv kh=.hole) (hkh:kh≠k) (hlen:us.length=xs.length)
 (hxs:∀i (h:i<xs.length) (h':i<us.length),(us[i].pure=true/\xs[i]=us[i])\/fO (aM lv k (.cells true true T cs)) xs[i]=some (us[i],[k]))
 (hrd:∀a∈xs,∀j∈ql (aM lv k (.cells true true T cs)) a,j∈rds\/j=k) (hrh:kh∈rds)
 (hK:K x [(k,.cells true true T cs)] rds κ):ag c f xs lv K:=by
 have key:=dS.gen (c:=c) (f:=f) (as:=xs) (lv:=lv) us [(k,T,cs)] [] [] kh [] [] [] x false rds (λz hz=>by grind) zp zp (λz hz=>by simp) zp (λz hz=>by grind) rfl rfl rfl zp
  (λi h=>absurd h (aer i)) (λk hk=>by cases hk) hh (λb hb=>by cases hb) (λb hb=>by cases hb) (λh=>by cases h) hlen
  (λi p q=>?_) (λa ha j hj=>?_) hrh hc
 ·rw[AV.bV hx]at key;exact⟨x,_,rds,κ,key,hK⟩
 ·rcases hxs i p q with⟨h1,h2⟩|h1
  ·exact .inl ⟨AV.fu h1,rk⟩
  ·refine .inr ⟨[k],h1,λj hj=>?_⟩;simp only[aeH]at hj;subst hj;exact⟨true,T,cs,by simp[hJ,b8,aI]⟩
 ·rcases hrd a ha j hj with h|h
  ·grind
  grind
def eU(c:Ctx)(ps:List Bk)(d:Option Tmp)(s:aJ)(κ:Nat)(K:aJ->Nat->Prop)(r:Option dn):Prop:=
 qc r κ λx us _ κ'=>br c ps (aJ.put ⟨s.fr,b8 s.lv us⟩ d x) κ' K
def HL(c:Ctx)(o:Op)(ps:List Bk)(d:Option Tmp)(s:aJ)(κ:Nat)(K:aJ->Nat->Prop)(w:Option Bool):Prop:=
 match w with
 |some true=>br c (⟨d,o,none⟩::ps) s κ K
 |some false=>br c ps (s.put d .undef) κ K
 |none=>False
def eL(c:Ctx)(f:FuncId)(xs:List AV)(ps:List Bk)(d:Option Tmp)(s:aJ)(κ:Nat)(K:aJ->Nat->Prop):Prop:=
 ag c f xs s.lv λx us _ κ'=>br c ps (aJ.put ⟨s.fr,b8 s.lv us⟩ d x) κ' K
def AR(c:Ctx)(tgt:Option (FuncId×List AV×List AV))(xs:List AV)(ps:List Bk)(d:Option Tmp)(s:aJ)(κ:Nat)(K:aJ->Nat->Prop):Prop:=
 match tgt with
 |some (f,fs,cs)=>aE c.P f=true/\eL c f (fs++xs++cs) ps d s κ K
 |none=>False
attribute [simp] Pz Mt Iy HB UF
@[simp]theorem TK:aT [] t=.junk:=rfl
@[simp]theorem SW{p:Nat×AV}:aT (p::l) t=if t=p.1 then p.2 else aT l t:=rfl
section
variable {c:Ctx}{ps:List Bk}{d:Option Tmp}{s:aJ}{κ:Nat}{K:aJ->Nat->Prop}{T:TypeId}{x y z:Operand}
@[simp]theorem Wp{v:AV}:eU c ps d s κ K (some (v,[],rds,vc))=(vc/\br c ps (s.put d v) κ K):=propext ⟨id,id⟩
@[simp]theorem V7{v:AV}{p:Key×LB}:eU c ps d s κ K (some (v,[p],rds,vc))=(vc/\br c ps (aJ.put ⟨s.fr,aM s.lv p.1 p.2⟩ d v) (κ+1) K):=propext ⟨id,id⟩
@[simp]theorem WE{v:AV}{p q:Key×LB}:eU c ps d s κ K (some (v,[p,q],rds,vc))=(vc/\br c ps (aJ.put ⟨s.fr,aM (aM s.lv p.1 p.2) q.1 q.2⟩ d v) (κ+1) K):=propext ⟨id,id⟩
@[simp]theorem XA{o:Op}:HL c o ps d s κ K (some true)=br c (⟨d,o,none⟩::ps) s κ K:=propext ⟨id,id⟩
@[simp]theorem XL{o:Op}:HL c o ps d s κ K (some false)=br c ps (s.put d .undef) κ K:=propext ⟨id,id⟩
@[simp]theorem T4:AR c (some (f,[],[])) xs ps d s κ K=(aE c.P f=true/\eL c f xs ps d s κ K):=by simp[AR]
@[simp]theorem XB{o:Op}{t:Tmp}{w:Bool}:br c (⟨d,o,some (some t,w)⟩::ps) s κ K=HL c o ps d s κ K (uZ (s.fr t) w):=propext ⟨id,id⟩
@[simp]theorem Zx:br c (⟨d,.move x,none⟩::ps) s κ K=br c ps (s.put d (s.val c.G x)) κ K:=by rw[jI,m7];rfl
@[simp]theorem WK:br c (⟨d,.assign x,none⟩::ps) s κ K=br c ps (s.put d (s.val c.G x)) κ K:=by rw[jI,Bh];rfl
@[simp]theorem Zp:br c (⟨d,.pick x y z,none⟩::ps) s κ K=eU c ps d s κ K (Fj (s.val c.G x) (s.val c.G y) (s.val c.G z)):=xr
@[simp]theorem Zj:br c (⟨d,.alloc T,none⟩::ps) s κ K=eU c ps d s κ K (Dq c.P T s.lv κ):=xr
@[simp]theorem Yf{f:Nat}:br c (⟨d,.field T x f,none⟩::ps) s κ K=eU c ps d s κ K (EJ c.P T f (s.val c.G x)):=xr
@[simp]theorem SB:br c (⟨d,.indexAddr T x y,none⟩::ps) s κ K=eU c ps d s κ K (aq c.P T s.lv (s.val c.G x) (s.val c.G y)):=xr
@[simp]theorem W4:br c (⟨d,.index T x y,none⟩::ps) s κ K=eU c ps d s κ K (jO c.P T (s.val c.G x) (s.val c.G y)):=xr
@[simp]theorem abB:br c (⟨d,.extract x i,none⟩::ps) s κ K=eU c ps d s κ K (xY i (s.val c.G x)):=xr
@[simp]theorem abJ:br c (⟨d,.makeInterface T x,none⟩::ps) s κ K=eU c ps d s κ K (SV c.P T (s.val c.G x)):=xr
@[simp]theorem abd:br c (⟨d,.makeSlice T x y,none⟩::ps) s κ K=eU c ps d s κ K (jX c.P T s.lv κ (s.val c.G x) (s.val c.G y)):=xr
@[simp]theorem VQ:br c (⟨d,.slice T x none none none,none⟩::ps) s κ K=eU c ps d s κ K (ct c.P T s.lv (s.val c.G x) none none):=xr
@[simp]theorem Ul:br c (⟨d,.slice T x (some y) none none,none⟩::ps) s κ K=eU c ps d s κ K (ct c.P T s.lv (s.val c.G x) (some (s.val c.G y)) none):=xr
@[simp]theorem Vf:br c (⟨d,.slice T x none (some y) none,none⟩::ps) s κ K=eU c ps d s κ K (ct c.P T s.lv (s.val c.G x) none (some (s.val c.G y))):=xr
@[simp]theorem VY:br c (⟨d,.slice T x (some y) (some z) none,none⟩::ps) s κ K=eU c ps d s κ K (ct c.P T s.lv (s.val c.G x) (some (s.val c.G y)) (some (s.val c.G z))):=xr
def eT(P:Program)(T:TypeId)(lv:Key->LB)(x:AV):Option dn:=match jU P T lv x with|some n=>some (.c (.d (.int .i64 n)),[],keyOf x,vL x n)|none=>none
@[simp]theorem acG:br c (⟨d,.call { callee:=.builtin .len,args:=#[x],argTypes:=#[T] },none⟩::ps) s κ K=eU c ps d s κ K (eT c.P T s.lv (s.val c.G x)):=xr
@[simp]theorem We:br c (⟨d,.call { callee:=.builtin .append,args:=#[x,y],argTypes:=#[T,T'] },none⟩::ps) s κ K=eU c ps d s κ K (if T=T' then iC c.P T s.lv κ (s.val c.G x) (s.val c.G y)else none):=xr
@[simp]theorem aaC{xs:Array Operand}:br c (⟨d,.call { callee:=.value x,args:=xs,argTypes:=ts },none⟩::ps) s κ K=AR c (mu (s.val c.G x)) (xs.toList.map (s.val c.G)) ps d s κ K:=by
 rfl
@[simp]theorem acT:br c (⟨d,.binOp op T x y T',none⟩::ps) s κ K=eU c ps d s κ K (aU c.P op T (s.val c.G x) (s.val c.G y)):=xr
@[simp]theorem adE{op:UnOp}:br c (⟨d,.unOp op T x,none⟩::ps) s κ K=eU c ps d s κ K (OP op (s.val c.G x)):=xr
@[simp]theorem aaz:br c (⟨d,.load T x,none⟩::ps) s κ K=eU c ps d s κ K (aA c.P T s.lv (s.val c.G x)):=xr
@[simp]theorem XP:br c (⟨d,.store T x y,none⟩::ps) s κ K=eU c ps d s κ K (aG c.P T s.lv (s.val c.G x) (s.val c.G y)):=xr
@[simp]theorem acY:br c (⟨d,.box T x,none⟩::ps) s κ K=eU c ps d s κ K (SI T (s.val c.G x) s.lv κ):=xr
@[simp]theorem aaX:br c (⟨d,.nilCheck x,none⟩::ps) s κ K=eU c ps d s κ K (j8 s.lv (s.val c.G x)):=xr
@[simp]theorem ZM:br c (⟨d,.convert S T x,none⟩::ps) s κ K=eU c ps d s κ K (KG c.P S T (s.val c.G x)):=xr
@[simp]theorem Sj{f:Nat}:br c (⟨d,.fieldAddr T x f,none⟩::ps) s κ K=eU c ps d s κ K (dJ c.P T f s.lv (s.val c.G x)):=xr
def bM(P:Program)(T:TypeId)(ixs:List Nat)(vals:List AV):Option dn:=match dI P T,y7 P T with
 |some zs,some place=>if ixs.length=vals.length then(match ic place zs (ixs.zip vals)with|some cs=>some (.agg cs,[],[],True)|none=>none)else none
 |_,_=>none
@[simp]theorem XO:br c (⟨d,.build T parts,none⟩::ps) s κ K=eU c ps d s κ K (bM c.P T (parts.toList.map (·.1)) (parts.toList.map λp=>s.val c.G p.2)):=by
 rw[jI];simp only[je,dg,Op.operands,eU,qc,bM,adT,sC,afv];rfl
@[simp]theorem Qm{n:Nat}:br c (⟨d,.buildSlice T n parts,none⟩::ps) s κ K=eU c ps d s κ K (aB c.P T n (parts.toList.map (·.1)) s.lv κ (parts.toList.map λp=>s.val c.G p.2)):=by
 rw[jI];simp only[je,dg,Op.operands,eU,qc,adT];rfl
@[simp]theorem aas:br c (⟨d,.call { callee:=.builtin .copy,args:=#[x,y],argTypes:=#[T,T'] },none⟩::ps) s κ K=eU c ps d s κ K (m6 c.P T s.lv (s.val c.G x) (s.val c.G y)):=by
 rfl
@[simp]theorem aa3{xs:Array Operand}:br c (⟨d,.call { callee:=.builtin .max,args:=xs,argTypes:=ts },none⟩::ps) s κ K=eU c ps d s κ K (match eN (xs.toList.map (s.val c.G))with
 |some (k,n::l)=>some (.c (.d (.int k (l.foldl (λa b=>if b > a then b else a) n))),[],[],True)
 |_=>none):=by
 rw[jI];simp only[je,dg,tc,Op.operands,Call.operands,eU,qc,af8];rfl
@[simp]theorem ach{xs:Array Operand}:br c (⟨d,.call { callee:=.builtin .min,args:=xs,argTypes:=ts },none⟩::ps) s κ K=eU c ps d s κ K (match eN (xs.toList.map (s.val c.G))with
 |some (k,n::l)=>some (.c (.d (.int k (l.foldl (λa b=>if b<a then b else a) n))),[],[],True)
 |_=>none):=by
 rw[jI];simp only[je,dg,tc,Op.operands,Call.operands,eU,qc,af8];rfl
end
section
variable {P:Program}{T:TypeId}{lv:Key->LB}{es:List (List DV)}{cs:List DV}{k:IntKind}{n:Int}{κ:Key}{off len sz:Nat}{lo hi:Option AV}{bs:List UInt8}
@[simp]theorem adD:aq P T lv (.c (.d (.sl es))) (.c (.d (.int k n)))=(match fU P T with
 |some (_,sz)=>some (.c (.d (.ptr (es.getD n.toNat []))),[],[],0<=n/\n<es.length/\(es.getD n.toNat []).length=sz)
 |none=>none):=rfl
@[simp]theorem abv:aq P T lv (.c (.aO κ off len sz)) (.c (.d (.int k n)))=(match lv κ,fU P T with
 |.cells ..,some (_,sz')=>if sz=sz' then some (.c (.ptr κ (off+n.toNat*sz)),[],[κ],0<=n/\n<len)else none
 |_,_=>none):=rfl
@[simp]theorem ad1:aq P T lv (.c (.d (.ptr cs))) (.c (.d (.int k n)))=(match wW P T with
 |some (len,_,sz)=>some (.c (.d (.ptr (cs.drop (n.toNat*sz)))),[],[],0<=n/\n<len/\n.toNat*sz<=cs.length)
 |none=>none):=rfl
@[simp]theorem ab2:aq P T lv (.c (.ptr κ off)) (.c (.d (.int k n)))=(match lv κ,wW P T with
 |.cells ..,some (len,_,sz)=>some (.c (.ptr κ (off+n.toNat*sz)),[],[κ],0<=n/\n<len)
 |_,_=>none):=rfl
@[simp]theorem acj:ct P T lv (.c (.d (.str bs))) lo hi=if lX P T then(match fW lo 0,fW hi bs.length with
 |some l,some h=>some (.c (.d (.str ((bs.take h.toNat).drop l.toNat))),[],[],0<=l/\l<=h/\h<=bs.length)
 |_,_=>none)else none:=rfl
@[simp]theorem adL:ct P T lv (.c (.d (.sl es))) lo hi=(match fU P T with
 |some (_,sz)=>match fW lo 0,fW hi es.length with
  |some l,some h=>some (.c (.d (.sl ((es.take h.toNat).drop l.toNat))),[],[],0<=l/\l<=h/\h<=es.length/\∀e∈es,e.length=sz)
  |_,_=>none
 |none=>none):=rfl
@[simp]theorem aco:ct P T lv (.c (.d .nilsl)) lo hi=(match fU P T with
 |some _=>match fW lo 0,fW hi 0 with
  |some l,some h=>some (.c (.d .nilsl),[],[],l=0/\h=0)
  |_,_=>none
 |none=>none):=rfl
@[simp]theorem adb:ct P T lv (.c (.aO κ off len sz)) lo hi=(match lv κ,fU P T with
 |.cells ..,some (_,sz')=>if sz=sz' then(match fW lo 0,fW hi len with
  |some l,some h=>some (.c (.aO κ (off+l.toNat*sz) (h.toNat-l.toNat) sz),[],[κ],0<=l/\l<=h/\h<=len/\(l<h\/l=0))
  |_,_=>none)else none
 |_,_=>none):=rfl
end
attribute [simp] aA aG j8 dJ jO fW jX iC aB Dq SI EJ KG SV tq AV.cells
@[simp]theorem Wm{x:CV}{r:List CV}(h:fV P T=some false):iq P T (x::r)=some (.c x):=by simp[iq,h]
@[simp]theorem Mw{cs:List CV}(h:fV P T=some true):iq P T cs=if lM P T<=cs.length then some (.agg (cs.take (lM P T)))else none:=by simp[iq,h]
theorem aD.tmp(hr:fn.results=#[.tmp t])(kh:Key)(hx:s.fr t=x)(hp:x.pure=true)(hh:s.lv kh=.hole)(hn:x.eK=true):aD c fn x .ret s κ:=by
 refine⟨[(t,x)],kh,yn,hh,?_⟩;rw[hr];simp[fq,kH,mj,aT]
theorem aD.YU(hr:fn.results=#[.tmp t,.tmp u])(kh:Key)(hx:s.fr t=x)(hy:s.fr u=y)(hp:x.pure=true)(hq:y.pure=true)(hh:s.lv kh=.hole)(hn:x.eK=true)(hm:y.eK=true)(htu:t≠u):aD c fn (.tup [x,y]) .ret s κ:=by
 refine⟨[(t,x),(u,y)],kh,yn,hh,?_⟩;rw[hr];have:¬u=t:=λh=>htu h.symm
 simp[fq,kH,mj,aT,this,hn,hm]
theorem aaY{x:Code}(st:α->aJ)(kk:Nat)(I:α->Prop)(μ:α->Nat)(a0:α)(hs:Le c s (st a0))(h0:I a0)
 (hr:∀a,I a->AW c r x (st a) kk (nH (λs' _=>∃a',Le c s' (st a')/\I a'/\μ a'<μ a) Q)):AW c r (.loop x) s κ Q:=by
 have key:∀n a,I a->μ a<=n->∀F β ac w,aR c F β (st a) ac w->Code.roundsIn (wg r) 0 c.P x (Post c Q) (n+1) ac w:=by
  intro n
  induction n with
  |zero=>
   intro a hI hn F β ac w hs;rw[roundsIn_succ];refine wpIn_mono (hr a hI F β ac w hs) λe a' w' hp=>?_;obtain⟨e',s',κ',F',β',hq,hs',he⟩:=hp
   cases e' with
   |normal=>simp_all
   |exit id=>cases he;exact⟨.exit id,s',κ',F',β',hq,hs',rfl⟩
   |goto l=>cases he;exact⟨.goto l,s',κ',F',β',hq,hs',rfl⟩
   |ret=>cases he;exact⟨.ret,s',κ',F',β',hq,hs',rfl⟩
   |panic d=>obtain⟨v,rfl,hv⟩:=he;exact⟨.panic d,s',κ',F',β',hq,hs',v,rfl,hv⟩
  |succ n ih=>
   intro a hI hn F β ac w hs;rw[roundsIn_succ];refine wpIn_mono (hr a hI F β ac w hs) λe a' w' hp=>?_;obtain⟨e',s',κ',F',β',hq,hs',he⟩:=hp
   cases e' with
   |normal=>
    cases he
    obtain⟨a2,⟨g,h1⟩,h2,h3⟩:=hq;exact ih a2 h2 zd F' _ a' w' (hs'.coarse h1)
   |exit id=>cases he;exact⟨.exit id,s',κ',F',β',hq,hs',rfl⟩
   |goto l=>cases he;exact⟨.goto l,s',κ',F',β',hq,hs',rfl⟩
   |ret=>cases he;exact⟨.ret,s',κ',F',β',hq,hs',rfl⟩
   |panic d=>obtain⟨v,rfl,hv⟩:=he;exact⟨.panic d,s',κ',F',β',hq,hs',v,rfl,hv⟩
 obtain⟨g,hg⟩:=hs;refine AW.coarse (κ2:=0) hg λF β ac w hst=>?_;exact wpIn_loop_rounds _ (key (μ a0) a0 h0 (bf _) F β ac w hst)
@[simp]theorem aad(h:x.eK=true):xY 0 (.tup [x,y])=some (x,[],[],True):=by
 cases x<;>first|rfl|cases h
@[simp]theorem ZU(h:y.eK=true):xY 1 (.tup [x,y])=some (y,[],[],True):=by
 cases y<;>first|rfl|cases h
@[simp]theorem aag(h:x.eK=true):xY 0 (.tup [x,y,z])=some (x,[],[],True):=by
 cases x<;>first|rfl|cases h
@[simp]theorem Z0(h:y.eK=true):xY 1 (.tup [x,y,z])=some (y,[],[],True):=by
 cases y<;>first|rfl|cases h
@[simp]theorem Z2(h:z.eK=true):xY 2 (.tup [x,y,z])=some (z,[],[],True):=by
 cases z<;>first|rfl|cases h
@[simp]theorem aaj{x:CV}:(AV.c x).eK=true:=by cases x<;>rfl
@[simp]theorem V8{x:List CV}:(AV.agg x).eK=true:=by cases x<;>rfl
theorem ag.p(κ:Nat)(kh:Key)(hc:aa c.P c.G f xs x)(hK:K x [] [kh] κ)(hx:x.pure=true:=by first|(simp;done)|rfl)(hxs:∀a∈xs,a.pure=true:=by simp)(hh:lv kh=.hole:=by first|rfl|simp):ag c f xs lv K:=ag.pure κ kh hc hx hxs hh hK
theorem aaB{o:Operand}{x y:Code}(hb:s.val c.G o=.c (.d (.bool true)))(h:AW c r x s κ Q):AW c r (.cond o x y) s κ Q:=abR (b:=true) hb h
theorem aaD{o:Operand}{x y:Code}(hb:s.val c.G o=.c (.d (.bool false)))(h:AW c r y s κ Q):AW c r (.cond o x y) s κ Q:=abR (b:=false) hb h
theorem aaE{o:Operand}{x y:Code}(h:AW c r x s κ Q)(hb:s.val c.G o=.c (.d (.bool true)):=by simp<;>omega):AW c r (.cond o x y) s κ Q:=abR (b:=true) hb h
theorem aax{o:Operand}{x y:Code}(h:AW c r y s κ Q)(hb:s.val c.G o=.c (.d (.bool false)):=by simp<;>omega):AW c r (.cond o x y) s κ Q:=abR (b:=false) hb h
theorem az{a b:Prop}(h:b)(g:a:=by omega):a/\b:=⟨g,h⟩
structure Ev where
 w:World
 F:Nat->Prop
 W:Nat->Prop
 q:Key->LB
 b:Key->Nat
 d:List Deferred
theorem aa.en(hf:P.funcs[f]?=some fn)(hb:fn.body=some code)
 (h:∀z:Ev,AW ⟨P,G,z.w,z.F,z.W,fn.ntmps,z.q,z.b,z.d⟩ none code ⟨λt=>args.getD t .undef,λ_=>.hole⟩ 0 (aD ⟨P,G,z.w,z.F,z.W,fn.ntmps,z.q,z.b,z.d⟩ fn x)) (hl:Nat.ble args.length fn.ntmps=true:=by kernel_rfl):aa P G f args x:=
 aa.pW hf hb (ae2 hl) λ⟨_,_,w,F,W,_,q,b,d⟩ h1 h2 h3=>by cases h1;cases h2;cases h3;exact h ⟨w,F,W,q,b,d⟩
section
variable {c:Ctx}{r:Option Nat}{s s':aJ}{κ κ':Nat}{Q:Ex->aJ->Nat->Prop}{id:Nat}{ops:Array Oper}{y:Code}
theorem aaq(h:Q .ret s 0):AW c r .ret s κ Q:=aal (κ:=0) h
theorem aD.rt(hr:fn.results=#[.tmp t])(kh:Key)(hx:s.fr t=x)(hp:x.pure=true:=by first|rfl|simp)(hh:s.lv kh=.hole:=by first|rfl|simp)(hn:x.eK=true:=by first|rfl|simp):aD c fn x .ret s 0:=aD.tmp hr kh hx hp hh hn
theorem aai(h:br c (hO ops) s κ λs' κ'=>Q .normal s' κ')(hd:dW c.n ops.toList=true:=by exact rfl):AW c r (.region id ops false) s κ Q:=abq hd h
theorem aaF(h:∀K:aJ->Nat->Prop,(∀s κ,AW c r y s κ Q->K s κ)->br c (hO ops) s κ K)(hd:dW c.n ops.toList=true:=by exact rfl):AW c r (.seq (.region id ops false) y) s κ Q:=
 aac λK hK=>abq hd (h K hK)
theorem aah(h:AW c r y s' κ' Q)(hd:dW c.n ops.toList=true:=by exact rfl)(hr:∀K:aJ->Nat->Prop,K s' κ'->br c (hO ops) s κ K:=by intro K k;simp;(repeat refine az ?_);exact k):AW c r (.seq (.region id ops false) y) s κ Q:=
 aac λK hK=>abq hd (hr K (hK _ _ h))
theorem abS(h:Q .normal s' κ')(hd:dW c.n ops.toList=true:=by exact rfl)(hr:∀K:aJ->Nat->Prop,K s' κ'->br c (hO ops) s κ K:=by intro K k;simp;(repeat refine az ?_);exact k):AW c r (.region id ops false) s κ Q:=
 abq hd (hr (λs κ=>Q .normal s κ) h)
theorem abi(κ1:Nat)(hc:aa c.P c.G f xs x)(h:AW c r y s' κ' Q)(hd:dW c.n ops.toList=true:=by exact rfl)(hr:∀κ2,κ2=κ1->aa c.P c.G f xs x->∀K:aJ->Nat->Prop,K s' κ'->br c (hO ops) s κ K:=by intro κ2 e hc K k;simp;refine ag.p κ2 9 hc ?_;subst e;simp;(repeat refine az ?_);exact k):AW c r (.seq (.region id ops false) y) s κ Q:=
 aac λK hK=>abq hd (hr κ1 rfl hc K (hK _ _ h))
theorem acq(κ1:Nat)(hc:aa c.P c.G f xs x)(h:Q .normal s' κ')(hd:dW c.n ops.toList=true:=by exact rfl)(hr:∀κ2,κ2=κ1->aa c.P c.G f xs x->∀K:aJ->Nat->Prop,K s' κ'->br c (hO ops) s κ K:=by intro κ2 e hc K k;simp;refine ag.p κ2 9 hc ?_;subst e;simp;(repeat refine az ?_);exact k):AW c r (.region id ops false) s κ Q:=
 abq hd (hr κ1 rfl hc (λs κ=>Q .normal s κ) h)
theorem aaN(e1:a1)(h:AW c r y s' κ' Q)(hd:dW c.n ops.toList=true:=by exact rfl)(hr:a1->∀K:aJ->Nat->Prop,K s' κ'->br c (hO ops) s κ K:=by intro e1 K k;simp[e1];(repeat refine az ?_);exact k):AW c r (.seq (.region id ops false) y) s κ Q:=
 aac λK hK=>abq hd (hr e1 K (hK _ _ h))
theorem aby(e1:a1)(h:Q .normal s' κ')(hd:dW c.n ops.toList=true:=by exact rfl)(hr:a1->∀K:aJ->Nat->Prop,K s' κ'->br c (hO ops) s κ K:=by intro e1 K k;simp[e1];(repeat refine az ?_);exact k):AW c r (.region id ops false) s κ Q:=
 abq hd (hr e1 (λs κ=>Q .normal s κ) h)
theorem abx(κ1:Nat)(hc:aa c.P c.G f xs x)(e1:a1)(h:AW c r y s' κ' Q)(hd:dW c.n ops.toList=true:=by exact rfl)(hr:∀κ2,κ2=κ1->a1->aa c.P c.G f xs x->∀K:aJ->Nat->Prop,K s' κ'->br c (hO ops) s κ K:=by intro κ2 e e1 hc K k;simp[e1];refine ag.p κ2 9 hc ?_;subst e;simp[e1];(repeat refine az ?_);exact k):AW c r (.seq (.region id ops false) y) s κ Q:=
 aac λK hK=>abq hd (hr κ1 rfl e1 hc K (hK _ _ h))
theorem abI(κ1:Nat)(hc:aa c.P c.G f xs x)(e1:a1)(h:Q .normal s' κ')(hd:dW c.n ops.toList=true:=by exact rfl)(hr:∀κ2,κ2=κ1->a1->aa c.P c.G f xs x->∀K:aJ->Nat->Prop,K s' κ'->br c (hO ops) s κ K:=by intro κ2 e e1 hc K k;simp[e1];refine ag.p κ2 9 hc ?_;subst e;simp[e1];(repeat refine az ?_);exact k):AW c r (.region id ops false) s κ Q:=
 abq hd (hr κ1 rfl e1 hc (λs κ=>Q .normal s κ) h)
theorem abk(e1:a1)(e2:a2)(h:AW c r y s' κ' Q)(hd:dW c.n ops.toList=true:=by exact rfl)(hr:a1->a2->∀K:aJ->Nat->Prop,K s' κ'->br c (hO ops) s κ K:=by intro e1 e2 K k;simp[e1,e2];(repeat refine az ?_);exact k):AW c r (.seq (.region id ops false) y) s κ Q:=
 aac λK hK=>abq hd (hr e1 e2 K (hK _ _ h))
theorem abG(e1:a1)(e2:a2)(h:Q .normal s' κ')(hd:dW c.n ops.toList=true:=by exact rfl)(hr:a1->a2->∀K:aJ->Nat->Prop,K s' κ'->br c (hO ops) s κ K:=by intro e1 e2 K k;simp[e1,e2];(repeat refine az ?_);exact k):AW c r (.region id ops false) s κ Q:=
 abq hd (hr e1 e2 (λs κ=>Q .normal s κ) h)
theorem AW.c2(κ1:Nat)(hc:aa c.P c.G f xs x)(e1:a1)(e2:a2)(h:AW c r y s' κ' Q)(hd:dW c.n ops.toList=true:=by exact rfl)(hr:∀κ2,κ2=κ1->a1->a2->aa c.P c.G f xs x->∀K:aJ->Nat->Prop,K s' κ'->br c (hO ops) s κ K:=by intro κ2 e e1 e2 hc K k;simp[e1,e2];refine ag.p κ2 9 hc ?_;subst e;simp[e1,e2];(repeat refine az ?_);exact k):AW c r (.seq (.region id ops false) y) s κ Q:=
 aac λK hK=>abq hd (hr κ1 rfl e1 e2 hc K (hK _ _ h))
theorem acp(κ1:Nat)(hc:aa c.P c.G f xs x)(e1:a1)(e2:a2)(h:Q .normal s' κ')(hd:dW c.n ops.toList=true:=by exact rfl)(hr:∀κ2,κ2=κ1->a1->a2->aa c.P c.G f xs x->∀K:aJ->Nat->Prop,K s' κ'->br c (hO ops) s κ K:=by intro κ2 e e1 e2 hc K k;simp[e1,e2];refine ag.p κ2 9 hc ?_;subst e;simp[e1,e2];(repeat refine az ?_);exact k):AW c r (.region id ops false) s κ Q:=
 abq hd (hr κ1 rfl e1 e2 hc (λs κ=>Q .normal s κ) h)
theorem abN(e1:a1)(e2:a2)(e3:a3)(h:AW c r y s' κ' Q)(hd:dW c.n ops.toList=true:=by exact rfl)(hr:a1->a2->a3->∀K:aJ->Nat->Prop,K s' κ'->br c (hO ops) s κ K:=by intro e1 e2 e3 K k;simp[e1,e2,e3];(repeat refine az ?_);exact k):AW c r (.seq (.region id ops false) y) s κ Q:=
 aac λK hK=>abq hd (hr e1 e2 e3 K (hK _ _ h))
theorem acm(e1:a1)(e2:a2)(e3:a3)(h:Q .normal s' κ')(hd:dW c.n ops.toList=true:=by exact rfl)(hr:a1->a2->a3->∀K:aJ->Nat->Prop,K s' κ'->br c (hO ops) s κ K:=by intro e1 e2 e3 K k;simp[e1,e2,e3];(repeat refine az ?_);exact k):AW c r (.region id ops false) s κ Q:=
 abq hd (hr e1 e2 e3 (λs κ=>Q .normal s κ) h)
theorem AW.c3(κ1:Nat)(hc:aa c.P c.G f xs x)(e1:a1)(e2:a2)(e3:a3)(h:AW c r y s' κ' Q)(hd:dW c.n ops.toList=true:=by exact rfl)(hr:∀κ2,κ2=κ1->a1->a2->a3->aa c.P c.G f xs x->∀K:aJ->Nat->Prop,K s' κ'->br c (hO ops) s κ K:=by intro κ2 e e1 e2 e3 hc K k;simp[e1,e2,e3];refine ag.p κ2 9 hc ?_;subst e;simp[e1,e2,e3];(repeat refine az ?_);exact k):AW c r (.seq (.region id ops false) y) s κ Q:=
 aac λK hK=>abq hd (hr κ1 rfl e1 e2 e3 hc K (hK _ _ h))
theorem acw(e1:a1)(e2:a2)(e3:a3)(e4:a4)(h:AW c r y s' κ' Q)(hd:dW c.n ops.toList=true:=by exact rfl)(hr:a1->a2->a3->a4->∀K:aJ->Nat->Prop,K s' κ'->br c (hO ops) s κ K:=by intro e1 e2 e3 e4 K k;simp[e1,e2,e3,e4];(repeat refine az ?_);exact k):AW c r (.seq (.region id ops false) y) s κ Q:=
 aac λK hK=>abq hd (hr e1 e2 e3 e4 K (hK _ _ h))
theorem AW.l4(e1:a1)(e2:a2)(e3:a3)(e4:a4)(h:Q .normal s' κ')(hd:dW c.n ops.toList=true:=by exact rfl)(hr:a1->a2->a3->a4->∀K:aJ->Nat->Prop,K s' κ'->br c (hO ops) s κ K:=by intro e1 e2 e3 e4 K k;simp[e1,e2,e3,e4];(repeat refine az ?_);exact k):AW c r (.region id ops false) s κ Q:=
 abq hd (hr e1 e2 e3 e4 (λs κ=>Q .normal s κ) h)
theorem AW.c4(κ1:Nat)(hc:aa c.P c.G f xs x)(e1:a1)(e2:a2)(e3:a3)(e4:a4)(h:AW c r y s' κ' Q)(hd:dW c.n ops.toList=true:=by exact rfl)(hr:∀κ2,κ2=κ1->a1->a2->a3->a4->aa c.P c.G f xs x->∀K:aJ->Nat->Prop,K s' κ'->br c (hO ops) s κ K:=by intro κ2 e e1 e2 e3 e4 hc K k;simp[e1,e2,e3,e4];refine ag.p κ2 9 hc ?_;subst e;simp[e1,e2,e3,e4];(repeat refine az ?_);exact k):AW c r (.seq (.region id ops false) y) s κ Q:=
 aac λK hK=>abq hd (hr κ1 rfl e1 e2 e3 e4 hc K (hK _ _ h))
theorem AW.f5(e1:a1)(e2:a2)(e3:a3)(e4:a4)(e5:a5)(h:AW c r y s' κ' Q)(hd:dW c.n ops.toList=true:=by exact rfl)(hr:a1->a2->a3->a4->a5->∀K:aJ->Nat->Prop,K s' κ'->br c (hO ops) s κ K:=by intro e1 e2 e3 e4 e5 K k;simp[e1,e2,e3,e4,e5];(repeat refine az ?_);exact k):AW c r (.seq (.region id ops false) y) s κ Q:=
 aac λK hK=>abq hd (hr e1 e2 e3 e4 e5 K (hK _ _ h))
theorem AW.f6(e1:a1)(e2:a2)(e3:a3)(e4:a4)(e5:a5)(e6:a6)(h:AW c r y s' κ' Q)(hd:dW c.n ops.toList=true:=by exact rfl)(hr:a1->a2->a3->a4->a5->a6->∀K:aJ->Nat->Prop,K s' κ'->br c (hO ops) s κ K:=by intro e1 e2 e3 e4 e5 e6 K k;simp[e1,e2,e3,e4,e5,e6];(repeat refine az ?_);exact k):AW c r (.seq (.region id ops false) y) s κ Q:=
 aac λK hK=>abq hd (hr e1 e2 e3 e4 e5 e6 K (hK _ _ h))
theorem AW.f7{a7:Prop}(e1:a1)(e2:a2)(e3:a3)(e4:a4)(e5:a5)(e6:a6)(e7:a7)(h:AW c r y s' κ' Q)(hd:dW c.n ops.toList=true:=by exact rfl)(hr:a1->a2->a3->a4->a5->a6->a7->∀K:aJ->Nat->Prop,K s' κ'->br c (hO ops) s κ K:=by intro e1 e2 e3 e4 e5 e6 e7 K k;simp[e1,e2,e3,e4,e5,e6,e7];(repeat refine az ?_);exact k):AW c r (.seq (.region id ops false) y) s κ Q:=
 aac λK hK=>abq hd (hr e1 e2 e3 e4 e5 e6 e7 K (hK _ _ h))
theorem aD.t2{y:AV}(hr:fn.results=#[.tmp t,.tmp u])(kh:Key)(hx:s.fr t=x:=by simp)(hy:s.fr u=y:=by simp)(hp:x.pure=true:=by first|rfl|simp)(hq:y.pure=true:=by first|rfl|simp)(hh:s.lv kh=.hole:=by first|rfl|simp)(hn:x.eK=true:=by first|rfl|simp)(hm:y.eK=true:=by first|rfl|simp)(htu:t≠u:=by decide):aD c fn (.tup [x,y]) .ret s 0:=
 aD.YU hr kh hx hy hp hq hh hn hm htu
end
end Go.Am
namespace Go.Am.N
variable {B n i m d x:Nat}{l:List Nat}
def val(B:Nat):List Nat->Nat
 |[]=>0
 |d::l=>d+B*val B l
def ok(B:Nat)(l:List Nat):Prop:=∀d∈l,d<B
@[simp]theorem uz(B:Nat):val B []=0:=rfl
@[simp]theorem cB(B d:Nat)(l:List Nat):val B (d::l)=d+B*val B l:=rfl
theorem kX(B:Nat)(a b:List Nat):val B (a++b)=val B a+B^a.length*val B b:=by
 induction a with
 |nil=>simp
 |cons d a ih=>
  simp only[afB,cB,ih,aeq,adk]
  grind
theorem sN(B n:Nat):val B (List.replicate n 0)=0:=by
 induction n with
 |zero=>rfl
 |succ n ih=>simp[List.replicate_succ,ih]
theorem dM(B:Nat):ok B []:=λd h=>by cases h
theorem b6:ok B (d::l)↔d<B/\ok B l:=by simp[ok]
theorem dD{a b:List Nat}:ok B (a++b)↔ok B a/\ok B b:=by
 simp only[ok,afW]
 grind
theorem vH(hB:0<B)(n:Nat):ok B (List.replicate n 0):=λd hd=>by grind
theorem n7(h:ok B l)(n:Nat):ok B (l.take n):=λd hd=>h d (afw hd)
theorem Di(h:ok B l)(n:Nat):ok B (l.drop n):=λd hd=>h d (afj hd)
theorem I4(h:ok B l)(n:Nat)(hx:x<B):ok B (l.set n x):=λd hd=>by
 rcases List.mem_or_eq_of_mem_set hd with h1|h1
 ·exact h d h1
 omega
theorem iu{B:Nat}:∀{l:List Nat},ok B l->val B l<B^l.length
 |[],_=>by simp
 |d::l,h=>by
  rw[b6]at h;have h1:=iu h.2;simp only[cB,aeq,adk];have h2:B*(val B l+1)<=B*B^l.length:=adI _ h1
  grind
theorem bU(h:i<l.length):val B (l.take (i+1))=val B (l.take i)+B^i*l[i]:=by
 rw[List.take_succ_eq_append_getElem h,kX,acM,aea zd];simp
theorem cV(l:List Nat)(i:Nat)(h:i<=l.length):val B l=val B (l.take i)+B^i*val B (l.drop i):=by
 conv=>lhs;rw[<-afX i l,kX,acM,aea h]
theorem eF(h:i<l.length):val B (l.drop i)=l[i]+B*val B (l.drop (i+1)):=by
 rw[adP h,cB]
theorem ig(h:l.length<=i):val B (l.drop i)=0:=by
 rw[aeQ h];rfl
theorem aX(h:l.length<=i):val B (l.take i)=val B l:=by
 rw[aeE h]
def can(B:Nat)(l:List Nat):Prop:=ok B l/\∀x,l.getLast?=some x->x≠0
def fc(l:List Nat):List Nat:=(l.reverse.dropWhile (·=0)).reverse
@[simp]theorem WL:fc []=[]:=rfl
theorem jM(l:List Nat):fc (l++[0])=fc l:=by simp[fc]
theorem kT(h:x≠0):fc (l++[x])=l++[x]:=by simp[fc,h]
theorem vl{p:List Nat->Prop}(h0:p [])(h1:∀l x,p l->p (l++[x]))(l:List Nat):p l:=by
 have key:∀l:List Nat,p l.reverse:=by
  intro l
  induction l with
  |nil=>exact h0
  |cons x l ih=>grind
 rw[<-List.reverse_reverse l];grind
theorem Qi(B:Nat)(l:List Nat):val B (fc l)=val B l:=by
 induction l using vl with
 |h0=>rfl
 |h1 l x ih=>
  by_cases h:x=0
  ·subst h;rw[jM,ih,kX];simp
  ·rw[kT h]
theorem O8(l:List Nat):(fc l).length<=l.length:=by
 induction l using vl with
 |h0=>simp
 |h1 l x ih=>
  by_cases h:x=0
  ·subst h;rw[jM];grind
  ·rw[kT h];simp
theorem CR(h:ok B l):ok B (fc l):=by
 induction l using vl with
 |h0=>exact h
 |h1 l x ih=>
  by_cases e:x=0
  ·subst e;rw[jM];exact ih (dD.1 h).1
  ·rw[kT e];exact h
theorem NG(h:ok B l):can B (fc l):=by
 refine⟨CR h,?_⟩;clear h
 induction l using vl with
 |h0=>simp
 |h1 l x ih=>
  by_cases e:x=0
  ·subst e;rw[jM];exact ih
  ·rw[kT e];grind
theorem Bp(h:can B (d::l)):can B l:=by
 refine⟨(b6.1 h.1).2,λx hx=>h.2 x ?_⟩
 grind
theorem jC(h:can B l)(h0:l≠[]):0<val B l:=by
 induction l with
 |nil=>grind
 |cons d l ih=>
  simp only[cB]
  by_cases hl:l=[]
  ·subst hl;have:=h.2 d rfl;omega
  ·have h1:=ih (Bp h) hl
   have h2:0<B:=by
    have:=(b6.1 h.1).1;omega
   have:=adJ h2 h1;omega
theorem Gk(h:can B l)(h0:val B l=0):l=[]:=by
 by_cases e:l=[]
 ·exact e
 ·have:=jC h e;omega
theorem Kk{B:Nat}:∀{a b:List Nat},can B a->can B b->val B a=val B b->a=b
 |[],b,_,hb,h=>(Gk hb h.symm).symm
 |a,[],ha,_,h=>Gk ha h
 |d::a,e::b,ha,hb,h=>by
  simp only[cB]at h;have hd:=(b6.1 ha.1).1;have he:=(b6.1 hb.1).1
  have h1:d=e:=by
   have:=congrArg (· % B) h;simp only[agc,ad4 hd,ad4 he]at this;exact this
  subst h1;have h2:B*val B a=B*val B b:=zd
  have h3:=Nat.eq_of_mul_eq_mul_left (zd:0<B) h2;rw[Kk (Bp ha) (Bp hb) h3]
def Gv(B:Nat):Nat->Nat->List Nat
 |0,_=>[]
 |f+1,n=>if n=0 then[]else n%B::Gv B f (n/B)
def aL(B n:Nat):List Nat:=Gv B n n
theorem Au{B:Nat}(hB:2<=B):∀{f n:Nat},n<=f->val B (Gv B f n)=n
 |0,n,h=>by simp[Gv];omega
 |f+1,n,h=>by
  simp only[Gv];split
  ·simp_all
  ·rename_i e
   have h1:n/B<n:=afD zd zd;rw[cB,Au hB zd];exact Nat.mod_add_div n B
theorem EW{B:Nat}(hB:2<=B):∀{f n:Nat},n<=f->can B (Gv B f n)
 |0,n,h=>⟨dM B,λx hx=>by cases hx⟩
 |f+1,n,h=>by
  simp only[Gv];split
  ·exact⟨dM B,λx hx=>by cases hx⟩
  ·rename_i e
   have h1:n/B<n:=afD zd zd;have h2:=EW hB (f:=f) (n:=n/B) zd;refine⟨b6.2 ⟨adx _ zd,h2.1⟩,λx hx=>?_⟩
   cases e2:Gv B f (n/B)with
   |nil=>
    rw[e2]at hx;simp at hx;subst hx;have h3:=Au hB (f:=f) (n:=n/B) zd;rw[e2]at h3;simp at h3;have h4:=Nat.mod_add_div n B
    grind
   |cons d l=>
    rw[e2,List.getLast?_cons_cons]at hx;exact h2.2 x yn
theorem bE(hB:2<=B)(n:Nat):val B (aL B n)=n:=Au hB (bf _)
theorem bO(hB:2<=B)(n:Nat):can B (aL B n):=EW hB (bf _)
theorem iT(hB:2<=B)(h:can B l)(hv:val B l=n):l=aL B n:=
 Kk h (bO hB n) (by rw[hv,bE hB])
theorem fQ(hB:2<=B)(h:ok B l)(hv:val B l=n):fc l=aL B n:=
 iT hB (NG h) (by rw[Qi,hv])
@[simp]theorem Zg(B:Nat):aL B 0=[]:=rfl
theorem cL(hB:2<=B):aL B n=[]↔n=0:=
 ⟨λh=>by rw[<-bE hB n,h];rfl,λh=>by rw[h];rfl⟩
theorem oe(hB:2<=B):n<B^(aL B n).length:=by
 have:=iu (bO hB n).1
 rwa[bE hB]at this
theorem Vy(hB:2<=B)(h:n≠0):B^((aL B n).length-1)<=n:=by
 have hc:=bO hB n;have hv:=bE hB n;have hn:aL B n≠[]:=λe=>h ((cL hB).1 e)
 have hlen:0<(aL B n).length:=List.length_pos_iff.2 hn;have hlast:(aL B n).length-1<(aL B n).length:=zd
 have h1:=cV (B:=B) (aL B n) ((aL B n).length-1) zd;rw[eF hlast,hv]at h1;have h2:(aL B n)[(aL B n).length-1]≠0:=hc.2 _ yn
 have h3:B^((aL B n).length-1)*1<=B^((aL B n).length-1)*((aL B n)[(aL B n).length-1]+B*val B ((aL B n).drop ((aL B n).length-1+1))):=
  adI _ zd
 omega
theorem cE(hB:2<=B)(h:n<B^m):(aL B n).length<=m:=by
 by_cases e:n=0
 ·simp_all
 ·have h1:=Vy hB e;have h2:B^((aL B n).length-1)<B^m:=aeR h1 h;have:=(agd (zd:1<B)).1 h2;omega
theorem LY(hB:2<=B)(h0:n≠0)(h:n<B):aL B n=[n]:=
 (iT hB ⟨b6.2 ⟨h,dM B⟩,λx hx=>by grind⟩ zp).symm
theorem eE(hB:2<=B)(h:m<=n):(aL B m).length<=(aL B n).length:=
 cE hB (aeR h (oe hB))
theorem Lf(hB:2<=B)(h:(aL B m).length<(aL B n).length):m<n:=by
 by_cases e:m<n
 ·exact e
 ·have:=eE hB (Nat.le_of_not_lt e);omega
end Go.Am.N
namespace Go.Am.N
def ry(B i m:Nat):B^i*(m%B)+B^(i+1)*(m/B)=B^i*m:=by
 rw[adk,adQ,<-adZ,Nat.mod_add_div]
def gU(B:Nat)(l:List Nat)(x:Nat):val B (l++[x])=val B l+B^l.length*x:=by
 rw[kX];simp
def o8(B:Nat)(l:List Nat)(m:Nat):val B (l++[m%B])+B^(l.length+1)*(m/B)=val B l+B^l.length*m:=by
 rw[gU,afk,ry]
def yW{B:Nat}:∀{l:List Nat}{i:Nat}(h:i<l.length) (x:Nat),val B (l.set i x)+B^i*l[i]=val B l+B^i*x
 |d::l,0,h,x=>by simp;omega
 |d::l,i+1,h,x=>by
  have ih:=yW (B:=B) (l:=l) (i:=i) yn x;simp only[List.set_cons_succ,cB,List.getElem_cons_succ,adk]
  grind
end Go.Am.N
namespace Go.Am
open N
variable {T e:TypeId}{k k':IntKind}{P:Program}{lv:Key->LB}{o:Option (List Nat)}{i off len sz:Nat}{n:Int}{l:List Nat}
def dK(k:IntKind)(l:List Nat):List (List DV):=l.map λ(x:Nat)=>[DV.int k (x:Int)]
def nK(k:IntKind):Option (List Nat)->AV
 |none=>.c (.d .nilsl)
 |some l=>.c (.d (.sl (dK k l)))
def dO(o:Option (List Nat)):List Nat:=o.getD []
@[simp]theorem aS(l:List Nat):dO (some l)=l:=rfl
@[simp]theorem Z3:dO none=[]:=rfl
@[simp]theorem Z1(k:IntKind)(o:Option (List Nat)):(nK k o).pure=true:=by cases o<;>rfl
@[simp]theorem Yq(k:IntKind)(o:Option (List Nat)):(nK k o).eK=true:=by cases o<;>rfl
@[simp]theorem XX(k:IntKind)(o:Option (List Nat)):(nK k o).cG=true:=by cases o<;>rfl
@[simp]theorem acN(k:IntKind)(o:Option (List Nat))(g:Key->Key):(nK k o).dA g=nK k o:=by cases o<;>rfl
theorem jD{V:Vw}{v:Value}(h:V.av v (nK k o)):(dO o).length<=9223372036854775807/\∀x∈dO o,(x:Int)<=rM k:=by
 cases o with
 |none=>simp
 |some l=>
  have h1:=Vw.Ii h;simp only[dK,sC]at h1;refine⟨h1,λx hx=>?_⟩;obtain⟨h,_⟩:=h;generalize hW:dK k l=es at h
  cases h with
  |sl0 _=>cases l with|nil=>cases hx|cons a l=>cases hW
  |sl b off cap sz _ vs hl hc hb hm ho hr=>
   subst hW;obtain⟨i,hi,rfl⟩:=List.mem_iff_getElem.1 hx;simp only[aS]at hi;have h2:=hr i (by simpa[dK]using hi) 0 (by simp[dK]);simp only[dK,rP,aeC]at h2
   have h3:k.wrap (l[i]:Int)=(l[i]:Int):=by
    generalize vs i 0=u at h2
    cases h2;assumption
   rw[qK]at h3
   simp_all
theorem sH{z:Nat}(h:fU P T=some (e,z)):eT P T lv (nK k o)=some (.c (.d (.int .i64 (dO o).length)),[],[],True):=by
 cases o<;>simp[eT,jU,nK,h,dK,keyOf,vL]
theorem P8(h:fU P T=some (e,1))(hi:i<(dO o).length):
 aq P T lv (nK k o) (.c (.d (.int k' (i:Int))))=some (.c (.d (.ptr [DV.int k ((dO o)[i]:Int)])),[],[],True):=by
 cases o with
 |none=>cases hi
 |some l=>
  simp only[aS]at hi;have h1:(dK k l)[i]?.getD []=[DV.int k (l[i]:Int)]:=by simp[dK,hi]
  have h2:(i:Int)<(l.length:Int):=zd
  simp[nK,aq,h,h1]
  grind
@[simp]theorem Nj(h:(fU P T).isSome=true):eT P T lv (nK k o)=some (.c (.d (.int .i64 (dO o).length)),[],[],True):=by
 obtain⟨⟨e,z⟩,h⟩:=Option.isSome_iff_exists.1 h;exact sH h
@[simp]theorem jh(h:(fU P T).map (·.2)=some 1)(hi:i<(dO o).length):
 aq P T lv (nK k o) (.c (.d (.int k' (i:Int))))=some (.c (.d (.ptr [DV.int k ((dO o)[i]:Int)])),[],[],True):=by
 obtain⟨⟨e,z⟩,h,rfl⟩:=Option.map_eq_some_iff.1 h;exact P8 h hi
@[simp]theorem Zl{k:Key}(h:(fU P T).isSome=true):eT P T lv (.c (.aO k off len sz))=(match lv k with|.cells ..|.nils=>some (.c (.d (.int .i64 len)),[],[k],vL (.c (.aO k off len sz)) len)|_=>none):=by
 simp only[eT,jU,h,if_true]
 cases lv k<;>rfl
@[simp]theorem WO{k:Key}:vL (.c (.aO k off len sz)) n=(n<=9223372036854775807):=rfl
@[simp]theorem Yz{l:List UInt8}(h:lX P T=true):eT P T lv (.c (.d (.str l)))=some (.c (.d (.int .i64 l.length)),[],[],True):=by
 simp[eT,jU,h,keyOf]
attribute [simp] FG
def wK(k:IntKind)(l:List Nat):List CV:=l.map λ(x:Nat)=>CV.d (.int k (x:Int))
@[simp]theorem PN(k:IntKind)(l:List Nat):(wK k l).length=l.length:=px
theorem jj(k:IntKind)(n:Nat):List.replicate n (CV.d (.int k 0))=wK k (List.replicate n 0):=px
theorem iU(k:IntKind)(h:i<l.length)(x:Nat):ai (wK k l) i [CV.d (.int k (x:Int))]=wK k (l.set i x):=by
 simp only[ai,wK,aex];rw[List.set_eq_take_append_cons_drop,if_pos h];simp
theorem S6(ha:fV P T=some false)(k:IntKind)(h:i<l.length):iq P T ((wK k l).drop i)=some (.c (.d (.int k (l[i]:Int)))):=by
 have:(wK k l).drop i=CV.d (.int k (l[i]:Int))::(wK k l).drop (i+1):=by
  rw[adP yk];simp[wK]
 simp_all
attribute [simp] S6
theorem A4{lv:Key->LB}{n:Nat}{k:IntKind}:∀(l:List Nat),ji (fX lv n) (wK k l)=some (l.map λ(x:Nat)=>DV.int k (x:Int),[])
 |[]=>rfl
 |x::l=>by
  have ih:=A4 (lv:=lv) (n:=n) (k:=k) l;simp only[wK,adi,ji]at ih⊢;rw[ih]
  cases n<;>rfl
theorem rY{α:Type}:∀(l:List α),chunk 1 l.length l=l.map λx=>[x]
 |l=>by
  apply age
  ·simp[chunk]
  ·intro i h1 h2;simp[chunk]at h1 h2⊢;rw[adP zd];rfl
theorem Dl{κ:Key}{own fz:Bool}(h:lv κ=.cells own fz T (wK k l))(hl:l.length<=9223372036854775807):fO lv (.c (.aO κ 0 l.length 1))=some (nK k (some l),[κ]):=by
 have h1:(wK k l).take l.length=wK k l:=aeE zp;simp only[fO,fX,h,PN,aeu,aej,bf,hl,and_self,if_true,ady,h1,A4,ad2];have h2:=rY (l.map λ(x:Nat)=>DV.int k (x:Int));rw[sC]at h2;rw[h2];simp[nK,dK]
theorem bP(h1:-9223372036854775808<=n)(h2:n<=9223372036854775807):i64.wrap n=n:=eG ⟨h1,h2⟩
theorem fB(h1:0<=n)(h2:n<=18446744073709551615):u64.wrap n=n:=eG ⟨h1,h2⟩
theorem lR(h1:0<=n)(h2:n<=4294967295):u32.wrap n=n:=eG ⟨h1,h2⟩
theorem tf(n:Int):u32.wrap n=n%4294967296:=xr
theorem Cj(n:Int):u64.wrap n=n%18446744073709551616:=xr
theorem eL.sY{c:Ctx}{f:FuncId}{ps:List Bk}{d:Option Tmp}{s:aJ}{κ:Nat}{K:aJ->Nat->Prop}(κ':Nat)(kh:Key)(κb:Key){x:AV}(hk:s.lv κb=.cells true false T (wK k l))(hl:l.length<=9223372036854775807)
 (hc:aa c.P c.G f [nK k (some l)] x) (hx:x.pure=true) (hh:s.lv kh=.hole) (hkh:kh≠κb) (hK:br c ps (aJ.put ⟨s.fr,aM s.lv κb (.cells true true T (wK k l))⟩ d x) κ' K):eL c f [.c (.aO κb 0 l.length 1)] ps d s κ K:=by
 refine ag.MD κ' kh κb T (wK k l) [kh] hc hx hk hh hkh rfl (λi p q=>?_) (λa ha j hj=>?_) zp hK
 ·have hi:i=0:=by simp at p;omega
  subst hi;right;exact Dl (aI _ _ _) hl
 ·simp only[aeH]at ha;subst ha;simp only[ql,jB,aZ,aI]at hj;rcases hj with rfl|hj
  ·simp
  ·simp only[aeO]at hj;obtain⟨y,hy,hj⟩:=hj;simp only[wK,aeA]at hy;obtain⟨z,_,rfl⟩:=hy
   cases hj
end Go.Am
namespace Go.Am
open N
variable {lv lv':Key->LB}{c:Ctx}{fr:Nat->AV}
attribute [simp] DY
@[simp]theorem ZI(x:CV):(AV.c x).cG=true:=rfl
@[simp]theorem Ws(x:List CV):(AV.agg x).cG=true:=rfl
@[simp]theorem Z9(x:DV):(AV.c (.d x)).pure=true:=rfl
theorem abP{r:Option Nat}{s:aJ}{κ:Nat}{Q:Ex->aJ->Nat->Prop}{x:Code}(κ':Nat)(h:AW c r x s κ' Q):AW c r x s κ Q:=h
def nt(lv:Key->LB):Prop:=∀k own es,lv k≠.map own es
@[simp]theorem bG:nt (λ_=>.hole):=λk own es h=>by cases h
@[simp]theorem BV(h:nt lv)(k:Key)(own fz:Bool)(T:TypeId)(cs:List CV):nt (aM lv k (.cells own fz T cs)):=λk' o es h'=>by
 unfold aM at h';split at h'
 ·cases h'
 ·exact h _ _ _ h'
@[simp]theorem qx(h:nt lv)(k:Key):nt (aM lv k .dead):=λk' o es h'=>by
 unfold aM at h';split at h'
 ·cases h'
 ·exact h _ _ _ h'
theorem Le.mk'(l:List (Nat×AV))(he:lv=lv')(hm:nt lv)(hl:∀p∈l,p.2.cG=true/\fr p.1=p.2):Le c ⟨fr,lv⟩ ⟨aT l,lv'⟩:=by
 subst he;exact Le.slots l hl (λk own es h=>absurd h (hm k own es))
theorem Le.fJ(l:List (Nat×AV))(he:lv=lv':=by first|rfl|simp)(hl:∀p∈l,p.2.cG=true/\fr p.1=p.2:=by simp)(hm:nt lv:=by repeat (first|exact bG|refine BV ?_ _ _ _ _ _|(refine qx ?_ _)|(refine noMap_blS ?_ _ _ _)|(refine noMap_upd_nils ?_ _)|simp)):Le c ⟨fr,lv⟩ ⟨aT l,lv'⟩:=Le.mk' l he hm hl
theorem mM(pre:List Nat)(m x:Nat):(pre++List.replicate (m+1) 0).set pre.length x=(pre++[x])++List.replicate m 0:=by
 grind
end Go.Am
namespace Go.Am
variable {P:Program}{T:TypeId}{k:IntKind}{m n:Int}
def OC(k:IntKind)(m n:Int):Int:=k.wrap (BitVec.ofInt k.bits m |||BitVec.ofInt k.bits n).toNat
def acK(k:IntKind)(m n:Int):Int:=k.wrap (BitVec.ofInt k.bits m&&&BitVec.ofInt k.bits n).toNat
@[simp]theorem acy:aU P .or T (.c (.d (.int k m))) (.c (.d (.int k n)))=some (.c (.d (.int k (OC k m n))),[],[],True):=X8
@[simp]theorem aap:aU P .and T (.c (.d (.int k m))) (.c (.d (.int k n)))=some (.c (.d (.int k (acK k m n))),[],[],True):=TW
theorem VI(m n:Nat)(hm:m<18446744073709551616)(hn:n<18446744073709551616):OC .u64 (m:Int) (n:Int)=((m |||n:Nat):Int):=by
 have h2:(BitVec.ofNat 64 m |||BitVec.ofNat 64 n).toNat=m |||n:=by
  rw[BitVec.toNat_or,agx,agx,ad4 hm,ad4 hn]
 have h3:m |||n<18446744073709551616:=Nat.or_lt_two_pow (n:=64) hm hn;show u64.wrap (((BitVec.ofInt 64 (m:Int) |||BitVec.ofInt 64 (n:Int)).toNat:Nat):Int)=_;rw[agy,agy,h2];generalize m |||n=q at h3;exact fB zd zd
theorem EV(k:IntKind)(m n:Int):OC k m n=OC k n m:=by unfold OC;grind
theorem vn{m y:Nat}(hm:m<4294967296)(hy:y<4294967296):OC .u64 ((m*4294967296:Nat):Int) (y:Int)=((m*4294967296+y:Nat):Int):=by
 rw[VI _ _ zd zd];congr 1;have:=Nat.shiftLeft_add_eq_or_of_lt (i:=32) (b:=y) zd m;rw[Nat.shiftLeft_eq]at this
 grind
theorem sF(qs:List Nat)(k x:Nat):(List.replicate (k+1) 0++qs).set k x=List.replicate k 0++(x::qs):=by
 rw[agz _ _ zp,agA,List.set_append_right _ _ zp];simp
end Go.Am
namespace Go.Am
def VU(m n:Nat)(hm:m<4294967296)(hn:n<4294967296):OC .u32 (m:Int) (n:Int)=((m |||n:Nat):Int):=by
 have h2:(BitVec.ofNat 32 m |||BitVec.ofNat 32 n).toNat=m |||n:=by
  rw[BitVec.toNat_or,agx,agx,ad4 hm,ad4 hn]
 have h3:m |||n<4294967296:=Nat.or_lt_two_pow (n:=32) hm hn;show u32.wrap (((BitVec.ofInt 32 (m:Int) |||BitVec.ofInt 32 (n:Int)).toNat:Nat):Int)=_;rw[agy,agy,h2];generalize m |||n=q at h3;exact lR zd zd
def N7{t y s:Nat}(ht:t<2^s)(h:y*2^s+t<4294967296):OC .u32 (t:Int) ((y*2^s:Nat):Int)=((y*2^s+t:Nat):Int):=by
 rw[EV,VU _ _ zd zd];congr 1;have:=Nat.shiftLeft_add_eq_or_of_lt (i:=s) (b:=t) ht y;rw[Nat.shiftLeft_eq]at this;omega
end Go.Am
namespace Go.Am
variable {x:Nat}{lo pre r:List Nat}
theorem oL{P:Program}{T:TypeId}(ha:fV P T=some false)(k:IntKind){l:List Nat}{i:Nat}(h:l[i]?=some x):iq P T ((wK k l).drop i)=some (.c (.d (.int k (x:Int)))):=by
 obtain⟨hi,rfl⟩:=List.getElem?_eq_some_iff.1 h
 simp_all
theorem J2(hi:List Nat):(lo++(pre++x::r)++hi)[lo.length+pre.length]?=some x:=by
 simp
theorem zu(hi:List Nat)(d:Nat):(lo++(pre++x::r)++hi).set (lo.length+pre.length) d=lo++((pre++[d])++r)++hi:=by
 simp
end Go.Am
namespace Go.Am
variable {x i:AV}{c:Ctx}{ops:Array Oper}{s:aJ}{κ:Nat}{o:Oper}{K:AV->List (Key×LB)->List Key->Nat->Prop}
def mw:Op->Bool
 |.move _|.assign _|.pick ..|.build ..|.load ..|.nilCheck _|.binOp ..|.unOp ..|.convert ..|.makeInterface ..|.slice ..|.fieldAddr ..|.field ..|.indexAddr ..|.index ..|.extract ..=>true
 |.call cl=>match cl.callee with|.builtin .len|.builtin .max|.builtin .min=>true|_=>false
 |_=>false
section
variable {P:Program}{T:TypeId}{lv:Key->LB}{κ:Key}{v:AV}{us:List (Key×LB)}{rds:List Key}{vc:Prop}
theorem X1{op:BinOp}{y:AV}(h:aU P op T x y=some (v,us,rds,vc)):us=[]:=by
 unfold aU at h;grind
theorem UT(h:aA P T lv x=some (v,us,rds,vc)):us=[]:=by
 unfold aA at h;grind
theorem Yn(h:j8 lv x=some (v,us,rds,vc)):us=[]:=by
 unfold j8 at h;grind
theorem ac3{f:Nat}(h:dJ P T f lv x=some (v,us,rds,vc)):us=[]:=by
 unfold dJ at h;grind
theorem ade(h:aq P T lv x i=some (v,us,rds,vc)):us=[]:=by
 unfold aq at h;grind
theorem abe(h:jO P T x i=some (v,us,rds,vc)):us=[]:=by
 unfold jO at h;grind
theorem acd{lo hi:Option AV}(h:ct P T lv x lo hi=some (v,us,rds,vc)):us=[]:=by
 unfold ct at h;grind
theorem EN{op:Op}{vals:List AV}(hq:mw op=true)(h:dg P op vals lv κ=some (v,us,rds,vc)):us=[]:=by
 unfold dg at h;split at h
 all_goals first
  |exact X1 h
  |exact UT h
  |exact Yn h
  |exact ac3 h
  |exact ade h
  |exact abe h
  |(cases hq;done)
  |(split at h;(exact acd h);(grind))
  |((repeat' split at h)<;>first|(cases h;done)|(simp only[aj,rK]at h;exact h.2.1.symm))
  |skip
 ·rename_i cl vals'
  unfold tc at h;simp only[mw]at hq
  grind
end
theorem je.quiet(hq:mw o.op=true)(h:je c o s κ K):je c o s κ λx us rds κ'=>us=[]/\K x us rds κ':=by
 have plain:(match dg c.P o.op (o.op.operands.toList.map (s.val c.G)) s.lv κ with
  |some (x,us,rds,vc)=>vc/\K x us rds (match us with|[]=>κ|_=>κ+1)
  |none=>False)->(match dg c.P o.op (o.op.operands.toList.map (s.val c.G)) s.lv κ with
  |some (x,us,rds,vc)=>vc/\(us=[]/\K x us rds (match us with|[]=>κ|_=>κ+1))
  |none=>False):=by
  intro h;split at h
  ·rename_i x us rds vc hs
   exact⟨h.1,EN hq hs,h.2⟩
  ·omega
 unfold je at h⊢;split at h
 ·rename_i cl ho
  split at h
  ·exact plain h
  ·rename_i hne
   exfalso;rw[ho]at hq
   cases hcal:cl.callee with
   |builtin b=>exact hne b hcal
   |_=>simp only[mw,hcal]at hq;cases hq
 ·exact plain h
theorem je.mono{K':AV->List (Key×LB)->List Key->Nat->Prop}(h:je c o s κ K)(hK:∀x us rds κ',K x us rds κ'->K' x us rds κ'):je c o s κ K':=by
 unfold je at h⊢;split at h
 ·split at h
  ·split at h
   ·exact⟨h.1,hK _ _ _ _ h.2⟩
   ·exact h.elim
  ·split at h
   ·obtain⟨h1,x,us,rds,κ',h2,h3⟩:=h;exact⟨h1,x,us,rds,κ',h2,hK _ _ _ _ h3⟩
   ·exact h.elim
 ·split at h
  ·exact⟨h.1,hK _ _ _ _ h.2⟩
  ·exact h.elim
theorem iR.mono{K K':aJ->Nat->List Fx->Prop}:∀{os:List Oper}{s:aJ}{κ:Nat}{acc:List Fx},iR c ops os s κ acc K->(∀s κ acc,K s κ acc->K' s κ acc)->iR c ops os s κ acc K'
 |[],s,κ,acc,h,hK=>hK _ _ _ h
 |o::os,s,κ,acc,h,hK=>by
  simp only[iR]at h⊢;split at h
  ·exact je.mono h λx us rds κ' h3=>iR.mono h3 hK
  ·exact iR.mono h hK
  omega
theorem iR.quiet{K:aJ->Nat->Prop}:∀{os:List Oper}{s:aJ}{κ:Nat}{acc:List Fx},os.all (λo=>mw o.op)=true->(∀e∈acc,e.us=[])->iR c ops os s κ acc (λs κ _=>K s κ) ->
 iR c ops os s κ acc (λs κ acc=>(∀e∈acc,e.us=[])/\K s κ)
 |[],s,κ,acc,_,ha,h=>⟨ha,h⟩
 |o::os,s,κ,acc,hq,ha,h=>by
  simp only[ae1,adS]at hq;simp only[iR]at h⊢;split at h
  ·rename_i hw
   have h2:=je.quiet hq.1 h;refine je.mono h2 λx us rds κ' h3=>?_;obtain⟨rfl,h4⟩:=h3
   exact iR.quiet hq.2 (λe he=>by
    grind) h4
  ·exact iR.quiet hq.2 (λe he=>by
    grind) h
  omega
theorem Hx{es:List Fx}(h:∀e∈es,e.us=[]):CP ops es=true:=by
 simp only[CP,adG];intro j _;split
 ·rename_i e' he'
  rw[aeY];right;rw[adG];intro i _;split
  ·rename_i e he
   rw[aeY];right;simp[wU,h e (aet he),h e' (aet he')]
  ·rfl
 ·rfl
theorem abT{r:Option Nat}{Q:Ex->aJ->Nat->Prop}{id:Nat}(hm:c.P.follows .mixedOrders=true)(hst:kN ops=true)(hd:dW c.n ops.toList=true)(hq:ops.toList.all (λo=>mw o.op)=true)
 (h:br c (hO ops) s κ λs' κ'=>Q .normal s' κ'):AW c r (.region id ops true) s κ Q:=by
 refine AW.draw hm hst hd ?_;have h1:rH c ops ops.toList s κ λs' κ'=>Q .normal s' κ':=by rw[<-oG];exact h
 have h2:=iR.quiet hq (λe he=>by cases he) h1;refine iR.mono h2 λs' κ' acc h3=>⟨Hx λe he=>h3.1 e (List.mem_reverse.1 he),h3.2⟩
end Go.Am
namespace Go.Am.N
variable {m n B:Nat}{a b:List Nat}
theorem sI{j:Nat}(ha:ok B a)(h1:j<a.length)(h2:j<b.length)(hd:a.drop (j+1)=b.drop (j+1))(h:a[j]<b[j]):val B a<val B b:=by
 have e1:=cV (B:=B) a j zd;have e2:=cV (B:=B) b j zd;rw[eF h1]at e1;rw[eF h2,<-hd]at e2;have h3:=iu (n7 ha j);rw[acM,aea zd]at h3;have h4:B^j*(a[j]+B*val B (a.drop (j+1))+1)<=B^j*(b[j]+B*val B (a.drop (j+1))):=adI _ zd
 grind
theorem nF(hB:2<=B)(ha:can B a)(hb:can B b)(h:a.length<b.length):val B a<val B b:=by
 have e1:=iT hB ha rfl;have e2:=iT hB hb rfl;rw[e1,e2]at h;exact Lf hB h
def eO(m n:Nat):Int:=if m<n then -1 else if n<m then 1 else 0
theorem lq(h:m<n):eO m n = -1:=by simp[eO,h]
theorem mz(h:n<m):eO m n=1:=by simp[eO,h];omega
theorem o5(h:m=n):eO m n=0:=by simp[eO,h]
end Go.Am.N
namespace Go.Am.N
def jo(B:Nat):Nat->Nat->List Nat
 |0,_=>[]
 |L+1,n=>n%B::jo B L (n/B)
def sM{B:Nat}:∀{l:List Nat}{n:Nat},ok B l->val B l=n->l=jo B l.length n
 |[],n,_,_=>rfl
 |d::l,n,h,hv=>by
  have hd:=(b6.1 h).1;have h1:n%B=d:=by rw[<-hv,cB,agc,ad4 hd]
  have h2:n/B=val B l:=by rw[<-hv,cB,agf _ _ zd,ae9 hd,aej]
  simp only[aeq,jo,h1,h2];rw[<-sM (b6.1 h).2 rfl]
def rG(B:Nat):∀(L n:Nat),(jo B L n).length=L
 |0,_=>rfl
 |L+1,n=>by simp[jo,rG B L]
def vA{B:Nat}(hB:0<B):∀(L n:Nat),ok B (jo B L n)
 |0,_=>dM B
 |L+1,n=>b6.2 ⟨adx _ hB,vA hB L _⟩
def oz{B:Nat}:∀(L n:Nat),val B (jo B L n)=n%B^L
 |0,n=>by simp[jo,Nat.mod_one]
 |L+1,n=>by
  rw[jo,cB,oz L,adk,aed (B^L) B,Nat.mod_mul]
end Go.Am.N
namespace Go.Am
variable {s:aJ}{κ:Nat}{Q:Ex->aJ->Nat->Prop}{c:Ctx}{x:AV}{fn:Func}{b' b:LB}{f:FuncId}{T:TypeId}{own:Bool}{cs:List CV}{P:Program}{G:List (List DV)}{code:Code}{args:List AV}
def zf(Q:Ex->aJ->Nat->Prop):Ex->aJ->Nat->Prop
 |.goto _,_,_=>False
 |e,s,κ=>Q e s κ
@[simp]theorem Wn:zf Q .normal s κ=Q .normal s κ:=rfl
@[simp]theorem Wg{i:Nat}:zf Q (.exit i) s κ=Q (.exit i) s κ:=rfl
@[simp]theorem WN:zf Q .ret s κ=Q .ret s κ:=rfl
theorem AW.scope{x:Code}(h:AW c none x s κ (zf Q)):AW c none (.scope x) s κ Q:=by
 intro F β a w hs;have h1:=(wpIn_wide (n:=0)).1 (h F β a w hs);refine(wpIn_wide (n:=0)).2 (wp_scope_straight (wp_mono h1 λe a' w' hp=>?_));obtain⟨x,s',κ',F',β',hq,hs',he⟩:=hp
 cases x with
 |normal=>cases he;exact⟨.normal,s',κ',F',β',hq,hs',rfl⟩
 |exit id=>cases he;exact⟨.exit id,s',κ',F',β',hq,hs',rfl⟩
 |goto l=>exact hq.elim
 |ret=>cases he;exact⟨.ret,s',κ',F',β',hq,hs',rfl⟩
 |panic d=>obtain⟨v,rfl,hv⟩:=he;exact⟨.panic d,s',κ',F',β',hq,hs',v,rfl,hv⟩
theorem uE(b:LB):cY [b] []=aM (λ_=>.hole) 0 b:=by
 funext k
 by_cases h:k=0
 ·subst h;rfl
 ·rw[bt _ _ h];unfold cY
  grind
theorem LB.bV{fz:Bool}(h:∀x∈cs,x.pure=true)(g:Key->Key):(LB.cells own fz T cs).dA g=.cells own fz T cs:=by
 simp only[LB.dA]
 have:cs.map (CV.dA g)=cs:=by
  conv=>rhs;rw[<-List.map_id cs]
  exact aen λx hx=>CV.bV (h x hx) g
 rw[this]
def VB(κb:Key)(x u:AV):Prop:=
 (u.pure=true/\x=u)\/(∃off len sz,u=.c (.aO 0 off len sz)/\x=.c (.aO κb off len sz))\/(∃off,u=.c (.ptr 0 off)/\x=.c (.ptr κb off))
theorem eL.Jp{xs us:List AV}{ps:List Bk}{d:Option Tmp}{K:aJ->Nat->Prop}(κ':Nat)(kh κb:Key){cs':List CV}
 (hk:s.lv κb=.cells own false T cs) (hcs:∀x∈cs,x.pure=true) (hcs':∀x∈cs',x.pure=true)
 (hc:aQ c.P c.G f us [.cells false false T cs] (.ret x [.cells false false T cs'] [])) (hx:x.pure=true) (hlen:us.length=xs.length)
 (ha:∀i (h:i<xs.length) (h':i<us.length),VB κb xs[i] us[i]) (hh:s.lv kh=.hole) (hkh:kh≠κb)
 (hK:br c ps (aJ.put ⟨s.fr,aM s.lv κb (.cells own false T cs')⟩ d x) κ' K):eL c f xs ps d s κ K:=by
 have g0:aY [κb] [] kh 0=κb:=rfl
 have key:=dS.gen (c:=c) (f:=f) (as:=xs) (lv:=s.lv) us [] [κb] [] kh [.cells false false T cs] [.cells false false T cs'] [] x own [kh,κb] (λz hz=>by cases hz) zp zp (λz hz=>by cases hz) yn (λz hz=>by cases hz) rfl rfl rfl zp
  (λi h h'=>by
   have hi:i=0:=by simp at h;omega
   subst hi;show(s.lv κb).as (.cells false false T cs) _;rw[hk];refine⟨own,cs,rfl,?_,λe=>by cases e⟩
   conv=>lhs;rw[<-List.map_id cs]
   exact aen λx hx=>(CV.bV (hcs x hx) _).symm) (λk hk=>by cases hk) hh (λb hb=>by simp at hb;subst hb;rfl) (λb hb=>by grind) (λho k hk'=>by
    simp at hk';subst hk';rw[hk];exact ho) hlen
  (λi p q=>by
   left;rcases ha i p q with⟨h1,h2⟩|⟨off,len,sz,h1,h2⟩|⟨off,h1,h2⟩
   ·exact⟨AV.fu h1,rk⟩
   ·rw[h1,h2];exact⟨rfl,rfl⟩
   ·rw[h1,h2];exact⟨rfl,rfl⟩) (λa ha' j hj=>by
   obtain⟨i,hi,rfl⟩:=List.mem_iff_getElem.1 ha';left
   have hrd:∀n,∀j∈(match s.lv κb with|.cells _ _ _ cs=>cs.flatMap (jB s.lv n)|_=>[]),j∈([]:List Key):=by
    intro n j hj;rw[hk]at hj;simp only[aeO]at hj;obtain⟨y,hy,hj⟩:=hj;have:=hcs y hy
    cases y<;>simp_all [CV.pure]
    cases n<;>cases hj
   rcases ha i hi zd with⟨h1,h2⟩|⟨off,len,sz,h1,h2⟩|⟨off,h1,h2⟩
   ·rw[h2,dX h1]at hj;cases hj
   ·rw[h2]at hj;simp only[ql,jB,hJ,ael,b8,List.foldl_nil,aZ]at hj;rcases hj with rfl|hj
    ·simp
    ·exact absurd (hrd 7 j hj) zp
   ·rw[h2]at hj;simp only[ql,jB,hJ,ael,b8,List.foldl_nil,aZ]at hj;rcases hj with rfl|hj
    ·simp
    ·exact absurd (hrd 7 j hj) zp) zp hc
 rw[AV.bV hx]at key;refine⟨x,_,_,κ',key,?_⟩
 have e:b8 s.lv (hJ []++cM (aY [κb] [] kh) own [κb] [.cells false false T cs']++cM (aY [κb] [] kh) own [] [])=aM s.lv κb (.cells own false T cs'):=by
  simp only[hJ,cM,ael,aew,agv,List.zipWith_nil_left,ad5,LB.bV hcs',LB.fix,b8,afU,List.foldl_nil,Bool.false_or,List.zipWith_nil_right]
 show br c ps (aJ.put ⟨s.fr,b8 s.lv _⟩ d x) κ' K;rw[e];exact hK
def Ab(c:Ctx)(fn:Func)(x:AV)(b':LB):Ex->aJ->Nat->Prop
 |.normal,s,_|.ret,s,_=>∃l,(∀p∈l,p.2.cG=true/\s.fr p.1=p.2)/\nt s.lv/\s.lv=aM (λ_=>.hole) 0 b'/\fq c.P ⟨aT l,s.lv⟩ fn.results.toList=some x
 |_,_,_=>False
theorem aQ.Uu(hf:P.funcs[f]?=some fn)(hb:fn.body=some code)(hl:args.length<=fn.ntmps)
 (h:∀c:Ctx,c.P=P->c.G=G->c.n=fn.ntmps->AW c none code ⟨λt=>args.getD t .undef,aM (λ_=>.hole) 0 b⟩ 1000 (Ab c fn x b')):aQ P G f args [b] (.ret x [b'] []):=by
 refine aQ.pW hf hb hl λc h1 h2 h3 h4=>?_;rw[uE]at h4⊢;refine AW.mono (h c h1 h2 h3) λe s κ hq=>?_
 have fin:(∃l,(∀p∈l,p.2.cG=true/\s.fr p.1=p.2)/\nt s.lv/\s.lv=aM (λ_=>.hole) 0 b'/\fq c.P ⟨aT l,s.lv⟩ fn.results.toList=some x)->∃s2 g,gX c s s2 g/\s2.lv=cY [b'] []/\fq c.P s2 fn.results.toList=some x:=by
  rintro⟨l,g1,g2,g3,g4⟩;exact⟨⟨aT l,s.lv⟩,λk=>k,gX.slots g1 (λk own es h=>absurd h (g2 k own es)),by rw[uE];exact g3,g4⟩
 cases e with
 |normal=>exact fin hq
 |ret=>exact fin hq
 |exit id=>exact hq.elim
 |goto l=>exact hq.elim
 |panic d=>exact hq.elim
theorem aQ.en1(hf:P.funcs[f]?=some fn)(hb:fn.body=some code)
 (h:∀z:Ev,AW ⟨P,G,z.w,z.F,z.W,fn.ntmps,z.q,z.b,z.d⟩ none code ⟨λt=>args.getD t .undef,aM (λ_=>.hole) 0 b⟩ 1000 (Ab ⟨P,G,z.w,z.F,z.W,fn.ntmps,z.q,z.b,z.d⟩ fn x b')) (hl:Nat.ble args.length fn.ntmps=true:=by kernel_rfl):aQ P G f args [b] (.ret x [b'] []):=
 aQ.Uu hf hb (ae2 hl) λ⟨_,_,w,F,W,_,q,b,d⟩ h1 h2 h3=>by cases h1;cases h2;cases h3;exact h ⟨w,F,W,q,b,d⟩
theorem Ab.tmp{t:Nat}(hr:fn.results=#[.tmp t])(hx:s.fr t=x)(hf:x.cG=true)(hm:nt s.lv)(hl:s.lv=aM (λ_=>.hole) 0 b'):Ab c fn x b' .ret s κ:=by
 refine⟨[(t,x)],yn,hm,hl,?_⟩;rw[hr];simp[fq,kH,mj,aT]
theorem Ab.none{e:Ex}(he:e=.normal\/e=.ret)(hr:fn.results=#[])(hm:nt s.lv)(hl:s.lv=aM (λ_=>.hole) 0 b'):Ab c fn (.tup []) b' e s κ:=by
 have:∃l:List (Nat×AV),(∀p∈l,p.2.cG=true/\s.fr p.1=p.2)/\nt s.lv/\s.lv=aM (λ_=>.hole) 0 b'/\fq c.P ⟨aT l,s.lv⟩ fn.results.toList=some (.tup []):=
  ⟨[],zp,hm,hl,by rw[hr];rfl⟩
 rcases he with rfl|rfl<;>exact this
end Go.Am
namespace Go.Am.N
variable {g o:Nat}
section
variable {B V W v1 v2 Vl u2 Wl top E qt:Nat}
structure TB(B E V W v1 v2 Vl top u2 Wl:Nat):Prop where
 hV:V=(v1*B+v2)*E+Vl
 hW:W=(top*B+u2)*E+Wl
 Wb:Vl<E
 X3:Wl<E
 Wj:v2<B
 hu2:u2<B
 hlt:W<B*V
 EM:0<v1
 hB:0<B
variable (h:TB B E V W v1 v2 Vl top u2 Wl)
include h
theorem TB.E0:0<E:=by have:=h.Wb;omega
theorem TB.V0:0<V:=by
 have h1:1*1<=(v1*B+v2)*E:=ae3 (by have:=adJ h.EM h.hB;omega) h.E0;have:=h.hV;omega
theorem TB.U6:top<B*(v1+1):=by
 have h1:top*B*E<=W:=by rw[h.hW,adn];omega
 have h2:V<(v1+1)*B*E:=by
  have e1:(v1+1)*B*E=(v1*B+B)*E:=by rw[adn,aes]
  have e2:(v1*B+v2+1)*E<=(v1*B+B)*E:=adh _ (by have:=h.Wj;omega);rw[adn _ 1,aes]at e2;have:=h.hV;have:=h.Wb;omega
 have h3:B*V<B*((v1+1)*B*E):=Nat.mul_lt_mul_of_pos_left h2 h.hB
 have h4:top*(B*E)<B*(v1+1)*(B*E):=by
  have e1:B*((v1+1)*B*E)=B*(v1+1)*(B*E):=by simp only[adQ]
  rw[<-e1,<-adQ];have:=h.hlt;omega
 exact agI h4
theorem TB.first(hq:qt*V<=W):qt<=top/v1:=by
 rw[afY h.EM];have h1:qt*((v1*B)*E)<=qt*V:=adI _ (by rw[h.hV,adn (v1*B)];omega)
 have h2:W<(top+1)*(B*E):=by
  have e1:(top*B+u2+1)*E<=(top*B+B)*E:=adh _ (by have:=h.hu2;omega);rw[adn _ 1,aes]at e1;have e2:(top+1)*(B*E)=(top*B+B)*E:=by rw[adn,adn,aes,adQ]
  have:=h.hW;have:=h.X3;omega
 have h3:qt*v1*(B*E)<(top+1)*(B*E):=by
  have e1:qt*((v1*B)*E)=qt*v1*(B*E):=by simp only[adQ]
  rw[<-e1];omega
 have:=agI h3;omega
theorem TB.over(hq:qt*V<=W)(hg:g*v1+o=top)(ht:o*B+u2<g*v2):qt<g:=by
 apply ad0;intro hn;have h1:g*V<=qt*V:=adh _ zd;have h2:g*((v1*B+v2)*E)<=g*V:=adI _ (by rw[h.hV];omega)
 have h3:(top*B+u2+1)*E<=g*(v1*B+v2)*E:=by
  refine adh _ ?_;have e1:g*(v1*B+v2)=g*v1*B+g*v2:=by rw[adZ,adQ]
  have e2:top*B=g*v1*B+o*B:=by rw[<-hg,adn]
  omega
 rw[adQ]at h3;rw[adn _ 1,aes]at h3;have:=h.hW;have:=h.X3;omega
theorem TB.near(hq:W<(qt+1)*V)(hg:g*v1+o=top)(hgB:g<B)(ht:g*v2<=o*B+u2):g<=qt+1:=by
 apply ad0;intro hn;have h1:(qt+1+1)*V<=g*V:=adh _ zd;rw[adn (qt+1),aes]at h1;have h2:g*V=g*(v1*B+v2)*E+g*Vl:=by rw[h.hV,adZ,adQ]
 have h3:g*(v1*B+v2)*E<=(top*B+u2)*E:=by
  refine adh _ ?_;have e1:g*(v1*B+v2)=g*v1*B+g*v2:=by rw[adZ,adQ]
  have e2:top*B=g*v1*B+o*B:=by rw[<-hg,adn]
  omega
 have h4:g*Vl<=B*E:=ae3 zd (by have:=h.Wb;omega)
 have h5:B*E<=V:=by
  have:1*B*E<=(v1*B+v2)*E:=adh _ (by have:=adh B h.EM;omega);rw[aes]at this;have:=h.hV;omega
 have:=h.hW;omega
end
theorem AE{B:Nat}:∀{L n:Nat},n<B^L->jo B (L+1) n=jo B L n++[0]
 |0,n,h=>by
  have:n=0:=by simp at h;exact h
  subst this;rfl
 |L+1,n,h=>by
  have h2:n/B<B^L:=by
   rcases af5 B with rfl|hB
   ·simp at h
   ·rw[afn hB];grind
  rw[jo,AE h2];rfl
theorem RS{B:Nat}{l:List Nat}(h:ok B l):jo B l.length (val B l)=l:=(sM h rfl).symm
end Go.Am.N
namespace Go.Am
variable {o:Op}{c:Ctx}{s:aJ}{κ f:Nat}{v:AV}{rds:List Key}{vc:Prop}{T':TypeId}{xs:Array Operand}{ts:Array TypeId}{parts:Array (Nat×Operand)}
theorem je.op{o o':Oper}{K:AV->List (Key×LB)->List Key->Nat->Prop}(ho:o'.op=o.op)(h:je c o s κ K):je c o' s κ K:=by
 unfold je at*;grind
abbrev p9:=List Key×List Key
def bx(c:Ctx):List Bk->aJ->Nat->List p9->(aJ->Nat->List p9->Prop)->Prop
 |[],s,κ,acc,K=>K s κ acc
 |p::ps,s,κ,acc,K=>match p.g with
  |none=>je c ⟨none,p.op,0, "",#[],none⟩ s κ λx us rds κ'=>bx c ps (aJ.put ⟨s.fr,b8 s.lv us⟩ p.dst x) κ' ((us.map (·.1),rds)::acc) K
  |some (t,w)=>qL t λt=>o9 (uZ (s.fr t) w)
   (λ_=>je c ⟨none,p.op,0, "",#[],none⟩ s κ λx us rds κ'=>bx c ps (aJ.put ⟨s.fr,b8 s.lv us⟩ p.dst x) κ' ((us.map (·.1),rds)::acc) K)
   (λ_=>bx c ps (s.put p.dst .undef) κ (([],[])::acc) K)
def qh(e:Fx):p9:=(e.us.map (·.1),e.rds)
theorem k8{c:Ctx}{ops:Array Oper}{K:aJ->Nat->List p9->Prop}:∀{os:List Oper}{s:aJ}{κ:Nat}{acc:List Fx},bx c (l9 (ops.toList.map (·.dst)) os) s κ (acc.map qh) K->iR c ops os s κ acc (λs κ acc=>K s κ (acc.map qh))
 |[],s,κ,acc,h=>h
 | ⟨d,o,ty,pos,af,none⟩::os,s,κ,acc,h=>by
  simp only[l9,Gs,bx]at h;simp only[iR,jb];refine je.mono (je.op (o:=⟨none,o,0, "",#[],none⟩) rfl h) λx us rds κ' h2=>?_;exact k8 (acc:=⟨x,us,rds⟩::acc) h2
 | ⟨d,o,ty,pos,af,some (j,w)⟩::os,s,κ,acc,h=>by
  simp only[l9,Gs,bx,NL,qL,o9]at h;simp only[iR,jb];split at h
  ·rename_i t ht
   (try rw[ht];simp only)
   unfold uZ at h;split at h
   ·rename_i hw
    split at hw
    ·rename_i b he
     (try rw[he];simp only[aj]at hw;simp only[hw])
     refine je.mono (je.op (o:=⟨none,o,0, "",#[],none⟩) rfl h) λx us rds κ' h2=>?_;exact k8 (acc:=⟨x,us,rds⟩::acc) h2
    ·cases hw
    grind
   ·rename_i hw
    split at hw
    ·rename_i b he
     (try rw[he];simp only[aj]at hw;simp only[hw])
     exact k8 (acc:=⟨.undef,[],[]⟩::acc) h
    ·rename_i he
     (try rw[he])
     exact k8 (acc:=⟨.undef,[],[]⟩::acc) h
    grind
   grind
  grind
def UA(e e':p9):Bool:=e.1.all (λp=>!(e'.1.any λq=>q==p)&&!e'.2.contains p)&&e'.1.all (λp=>!e.2.contains p)
def ym(ops:Array Oper)(es:List p9):Bool:=
 let ms:=oH ops.toList []
 (List.range es.length).all λj=>match es[j]? with
  |some e'=>(e'.1.isEmpty&&e'.2.isEmpty) ||(List.range j).all λi=>match es[i]? with
   |some e=>(e.1.isEmpty&&e.2.isEmpty) ||(ms.getD j 0).testBit i ||UA e e'
   |none=>true
  |none=>true
theorem LV(e e':Fx):wU e e'=UA (qh e) (qh e'):=by
 simp only[wU,UA,qh,List.all_map,List.any_map];rfl
theorem CN(ops:Array Oper)(es:List Fx):CP ops es=ym ops (es.map qh):=by
 have h1:∀e:Fx,idle e=((qh e).1.isEmpty&&(qh e).2.isEmpty):=λe=>by simp[idle,qh]
 simp only[CP,ym,sC,aez];congr 1;funext j
 cases hj:es[j]? with
 |none=>rfl
 |some e'=>
  simp only[ad2,h1];congr 2;funext i
  cases hi:es[i]? with
  |none=>rfl
  |some e=>simp only[ad2,LV]
theorem aaT{r:Option Nat}{Q:Ex->aJ->Nat->Prop}{id:Nat}{ops:Array Oper}(hm:c.P.follows .mixedOrders=true)(hst:kN ops=true)(hd:dW c.n ops.toList=true)
 (h:bx c (hO ops) s κ [] λs' κ' acc=>ym ops acc.reverse=true/\Q .normal s' κ'):AW c r (.region id ops true) s κ Q:=by
 refine AW.draw hm hst hd ?_;have h1:=k8 (acc:=[]) h;refine iR.mono h1 λs' κ' acc h2=>⟨?_,h2.2⟩
 rw[CN,List.map_reverse];grind
def dQ(c:Ctx)(ps:List Bk)(d:Option Tmp)(s:aJ)(κ:Nat)(acc:List p9)(K:aJ->Nat->List p9->Prop)(r:Option dn):Prop:=
 qc r κ λx us rds κ'=>bx c ps (aJ.put ⟨s.fr,b8 s.lv us⟩ d x) κ' ((us.map (·.1),rds)::acc) K
def DM(c:Ctx)(o:Op)(ps:List Bk)(d:Option Tmp)(s:aJ)(κ:Nat)(acc:List p9)(K:aJ->Nat->List p9->Prop)(w:Option Bool):Prop:=
 match w with
 |some true=>bx c (⟨d,o,none⟩::ps) s κ acc K
 |some false=>bx c ps (s.put d .undef) κ (([],[])::acc) K
 |none=>False
def gw(c:Ctx)(f:FuncId)(xs:List AV)(ps:List Bk)(d:Option Tmp)(s:aJ)(κ:Nat)(acc:List p9)(K:aJ->Nat->List p9->Prop):Prop:=
 ag c f xs s.lv λx us rds κ'=>bx c ps (aJ.put ⟨s.fr,b8 s.lv us⟩ d x) κ' ((us.map (·.1),rds)::acc) K
def xd(c:Ctx)(tgt:Option (FuncId×List AV×List AV))(xs:List AV)(ps:List Bk)(d:Option Tmp)(s:aJ)(κ:Nat)(acc:List p9)(K:aJ->Nat->List p9->Prop):Prop:=
 match tgt with
 |some (f,fs,cs)=>aE c.P f=true/\gw c f (fs++xs++cs) ps d s κ acc K
 |none=>False
section
variable {c:Ctx}{ps:List Bk}{d:Option Tmp}{s:aJ}{κ:Nat}{acc:List p9}{K:aJ->Nat->List p9->Prop}{T:TypeId}{x y z:Operand}
theorem jQ:bx c (⟨d,o,none⟩::ps) s κ acc K =
 je c ⟨none,o,0, "",#[],none⟩ s κ λx us rds κ'=>bx c ps (aJ.put ⟨s.fr,b8 s.lv us⟩ d x) κ' ((us.map (·.1),rds)::acc) K:=rfl
@[simp]theorem Vr:bx c [] s κ acc K=K s κ acc:=propext ⟨id,id⟩
@[simp]theorem Uv:dQ c ps d s κ acc K (some (v,[],rds,vc))=(vc/\bx c ps (s.put d v) κ (([],rds)::acc) K):=propext ⟨id,id⟩
@[simp]theorem VJ{p:Key×LB}:dQ c ps d s κ acc K (some (v,[p],rds,vc))=(vc/\bx c ps (aJ.put ⟨s.fr,aM s.lv p.1 p.2⟩ d v) (κ+1) (([p.1],rds)::acc) K):=propext ⟨id,id⟩
@[simp]theorem Wz:DM c o ps d s κ acc K (some true)=bx c (⟨d,o,none⟩::ps) s κ acc K:=propext ⟨id,id⟩
@[simp]theorem Wc:DM c o ps d s κ acc K (some false)=bx c ps (s.put d .undef) κ (([],[])::acc) K:=propext ⟨id,id⟩
@[simp]theorem Tx{f:FuncId}{xs:List AV}:xd c (some (f,[],[])) xs ps d s κ acc K=(aE c.P f=true/\gw c f xs ps d s κ acc K):=by simp[xd]
@[simp]theorem YW{t:Tmp}{w:Bool}:bx c (⟨d,o,some (some t,w)⟩::ps) s κ acc K=DM c o ps d s κ acc K (uZ (s.fr t) w):=propext ⟨id,id⟩
@[simp]theorem aae:bx c (⟨d,.move x,none⟩::ps) s κ acc K=bx c ps (s.put d (s.val c.G x)) κ (([],[])::acc) K:=by rw[jQ,m7];rfl
@[simp]theorem WC:bx c (⟨d,.assign x,none⟩::ps) s κ acc K=bx c ps (s.put d (s.val c.G x)) κ (([],[])::acc) K:=by rw[jQ,Bh];rfl
@[simp]theorem ZP:bx c (⟨d,.pick x y z,none⟩::ps) s κ acc K=dQ c ps d s κ acc K (Fj (s.val c.G x) (s.val c.G y) (s.val c.G z)):=xr
@[simp]theorem W9:bx c (⟨d,.alloc T,none⟩::ps) s κ acc K=dQ c ps d s κ acc K (Dq c.P T s.lv κ):=xr
@[simp]theorem YV:bx c (⟨d,.field T x f,none⟩::ps) s κ acc K=dQ c ps d s κ acc K (EJ c.P T f (s.val c.G x)):=xr
@[simp]theorem Q9:bx c (⟨d,.indexAddr T x y,none⟩::ps) s κ acc K=dQ c ps d s κ acc K (aq c.P T s.lv (s.val c.G x) (s.val c.G y)):=xr
@[simp]theorem Xp:bx c (⟨d,.index T x y,none⟩::ps) s κ acc K=dQ c ps d s κ acc K (jO c.P T (s.val c.G x) (s.val c.G y)):=xr
@[simp]theorem aa2{i:Nat}:bx c (⟨d,.extract x i,none⟩::ps) s κ acc K=dQ c ps d s κ acc K (xY i (s.val c.G x)):=xr
@[simp]theorem abr:bx c (⟨d,.makeInterface T x,none⟩::ps) s κ acc K=dQ c ps d s κ acc K (SV c.P T (s.val c.G x)):=xr
@[simp]theorem abz:bx c (⟨d,.makeSlice T x y,none⟩::ps) s κ acc K=dQ c ps d s κ acc K (jX c.P T s.lv κ (s.val c.G x) (s.val c.G y)):=xr
@[simp]theorem VF:bx c (⟨d,.slice T x none none none,none⟩::ps) s κ acc K=dQ c ps d s κ acc K (ct c.P T s.lv (s.val c.G x) none none):=xr
@[simp]theorem Ug:bx c (⟨d,.slice T x (some y) none none,none⟩::ps) s κ acc K=dQ c ps d s κ acc K (ct c.P T s.lv (s.val c.G x) (some (s.val c.G y)) none):=xr
@[simp]theorem Va:bx c (⟨d,.slice T x none (some y) none,none⟩::ps) s κ acc K=dQ c ps d s κ acc K (ct c.P T s.lv (s.val c.G x) none (some (s.val c.G y))):=xr
@[simp]theorem TY:bx c (⟨d,.slice T x (some y) (some z) none,none⟩::ps) s κ acc K=dQ c ps d s κ acc K (ct c.P T s.lv (s.val c.G x) (some (s.val c.G y)) (some (s.val c.G z))):=xr
@[simp]theorem abE:bx c (⟨d,.call { callee:=.builtin .len,args:=#[x],argTypes:=#[T] },none⟩::ps) s κ acc K=dQ c ps d s κ acc K (eT c.P T s.lv (s.val c.G x)):=xr
@[simp]theorem Wa:bx c (⟨d,.call { callee:=.builtin .append,args:=#[x,y],argTypes:=#[T,T'] },none⟩::ps) s κ acc K=dQ c ps d s κ acc K (if T=T' then iC c.P T s.lv κ (s.val c.G x) (s.val c.G y)else none):=xr
@[simp]theorem ZY:bx c (⟨d,.call { callee:=.value x,args:=xs,argTypes:=ts },none⟩::ps) s κ acc K=xd c (mu (s.val c.G x)) (xs.toList.map (s.val c.G)) ps d s κ acc K:=by
 rfl
@[simp]theorem ac4{op:BinOp}:bx c (⟨d,.binOp op T x y T',none⟩::ps) s κ acc K=dQ c ps d s κ acc K (aU c.P op T (s.val c.G x) (s.val c.G y)):=xr
@[simp]theorem adz{op:UnOp}:bx c (⟨d,.unOp op T x,none⟩::ps) s κ acc K=dQ c ps d s κ acc K (OP op (s.val c.G x)):=xr
@[simp]theorem ZJ:bx c (⟨d,.load T x,none⟩::ps) s κ acc K=dQ c ps d s κ acc K (aA c.P T s.lv (s.val c.G x)):=xr
@[simp]theorem Y6:bx c (⟨d,.store T x y,none⟩::ps) s κ acc K=dQ c ps d s κ acc K (aG c.P T s.lv (s.val c.G x) (s.val c.G y)):=xr
@[simp]theorem abp:bx c (⟨d,.box T x,none⟩::ps) s κ acc K=dQ c ps d s κ acc K (SI T (s.val c.G x) s.lv κ):=xr
@[simp]theorem Qh:bx c (⟨d,.nilCheck x,none⟩::ps) s κ acc K=dQ c ps d s κ acc K (j8 s.lv (s.val c.G x)):=xr
@[simp]theorem ZQ{S:TypeId}:bx c (⟨d,.convert S T x,none⟩::ps) s κ acc K=dQ c ps d s κ acc K (KG c.P S T (s.val c.G x)):=xr
@[simp]theorem So:bx c (⟨d,.fieldAddr T x f,none⟩::ps) s κ acc K=dQ c ps d s κ acc K (dJ c.P T f s.lv (s.val c.G x)):=xr
@[simp]theorem WR:bx c (⟨d,.build T parts,none⟩::ps) s κ acc K=dQ c ps d s κ acc K (bM c.P T (parts.toList.map (·.1)) (parts.toList.map λp=>s.val c.G p.2)):=by
 rw[jQ];simp only[je,dg,Op.operands,dQ,qc,bM,adT,sC,afv];rfl
@[simp]theorem Qs{n:Nat}:bx c (⟨d,.buildSlice T n parts,none⟩::ps) s κ acc K=dQ c ps d s κ acc K (aB c.P T n (parts.toList.map (·.1)) s.lv κ (parts.toList.map λp=>s.val c.G p.2)):=by
 rw[jQ];simp only[je,dg,Op.operands,dQ,qc,adT];rfl
@[simp]theorem ac6:bx c (⟨d,.call { callee:=.builtin .max,args:=xs,argTypes:=ts },none⟩::ps) s κ acc K=dQ c ps d s κ acc K (match eN (xs.toList.map (s.val c.G))with
 |some (k,n::l)=>some (.c (.d (.int k (l.foldl (λa b=>if b > a then b else a) n))),[],[],True)
 |_=>none):=by
 rw[jQ];simp only[je,dg,tc,Op.operands,Call.operands,dQ,qc,af8];rfl
end
end Go.Am
namespace Go.Am
open N
variable {a1 a2:Prop}{f:FuncId}{T:TypeId}{o:Oper}{P:Program}{s:aJ}{κ:Nat}{x y:Operand}{b:Bool}{V:Vw}{lv' lv:Key->LB}{cl:Call}{fs cs:List AV}{Q:Exit->Act->World->Prop}{G:List (List DV)}{u v:Value}
theorem gw.sY{c:Ctx}{ps:List Bk}{d:Option Tmp}{acc:List p9}{K:aJ->Nat->List p9->Prop}(κ':Nat)(kh:Key)(κb:Key){k:IntKind}{l:List Nat}{x:AV}(n:Nat)(hn:n<=l.length)(hk:s.lv κb=.cells true false T (wK k l))(hl:l.length<=9223372036854775807)
 (hc:aa c.P c.G f [nK k (some (l.take n))] x) (hx:x.pure=true) (hh:s.lv kh=.hole) (hkh:kh≠κb) (hK:bx c ps (aJ.put ⟨s.fr,aM s.lv κb (.cells true true T (wK k l))⟩ d x) κ' (([κb],[kh])::acc) K):gw c f [.c (.aO κb 0 n 1)] ps d s κ acc K:=by
 refine ag.MD κ' kh κb T (wK k l) [kh] hc hx hk hh hkh rfl (λi p q=>?_) (λa ha j hj=>?_) zp hK
 ·have hi:i=0:=by simp at p;omega
  subst hi;right;have h1:(wK k l).take n=wK k (l.take n):=by simp[wK,List.map_take]
  have hln:(l.take n).length=n:=db
  simp only[aeC,fO,fX,aI,PN,aeu,aej,ady,h1,A4,ad2];rw[if_pos ⟨hn,zd⟩];have h2:=rY ((l.take n).map λ(x:Nat)=>DV.int k (x:Int));rw[sC,hln]at h2;simp only[ad2,h2];simp[nK,dK];rfl
 ·simp only[aeH]at ha;subst ha;simp only[ql,jB,aZ,aI]at hj;rcases hj with rfl|hj
  ·simp
  ·simp only[aeO]at hj;obtain⟨y,hy,hj⟩:=hj;simp only[wK,aeA]at hy;obtain⟨z,_,rfl⟩:=hy
   cases hj
section
variable {c:Ctx}{r:Option Nat}{s s':aJ}{κ κ':Nat}{Q:Ex->aJ->Nat->Prop}{id:Nat}{ops:Array Oper}{y:Code}
theorem AW.dl0(hm:c.P.follows .mixedOrders=true)(h:Q .normal s' κ')(hst:kN ops=true:=by kernel_rfl)(hd:dW c.n ops.toList=true:=by exact rfl)(hr:∀K:aJ->Nat->Prop,K s' κ'->bx c (hO ops) s κ [] λs' κ' acc=>ym ops acc.reverse=true/\K s' κ':=by intro K k;simp;(repeat refine az ?_);refine⟨zt,?_⟩;(repeat refine az ?_);exact k):AW c r (.region id ops true) s κ Q:=
 aaT hm hst hd (hr (λs κ=>Q .normal s κ) h)
theorem AW.d1(hm:c.P.follows .mixedOrders=true)(e1:a1)(h:AW c r y s' κ' Q)(hst:kN ops=true:=by kernel_rfl)(hd:dW c.n ops.toList=true:=by exact rfl)(hr:a1->∀K:aJ->Nat->Prop,K s' κ'->bx c (hO ops) s κ [] λs' κ' acc=>ym ops acc.reverse=true/\K s' κ':=by intro e1 K k;simp[e1];(repeat refine az ?_);refine⟨zt,?_⟩;(repeat refine az ?_);exact k):AW c r (.seq (.region id ops true) y) s κ Q:=
 aac λK hK=>aaT hm hst hd (hr e1 K (hK _ _ h))
theorem AW.e1{a1:Prop}(hm:c.P.follows .mixedOrders=true)(e1:a1)(h:AW c r y s' κ' Q)(hst:kN ops=true:=by kernel_rfl)(hd:dW c.n ops.toList=true:=by exact rfl)(hq:ops.toList.all (λo=>mw o.op)=true:=by exact rfl)(hr:a1->∀K:aJ->Nat->Prop,K s' κ'->br c (hO ops) s κ K:=by intro e1 K k;simp[e1];(repeat refine az ?_);exact k):AW c r (.seq (.region id ops true) y) s κ Q:=
 aac λK hK=>abT hm hst hd hq (hr e1 K (hK _ _ h))
theorem AW.d2(hm:c.P.follows .mixedOrders=true)(e1:a1)(e2:a2)(h:AW c r y s' κ' Q)(hst:kN ops=true:=by kernel_rfl)(hd:dW c.n ops.toList=true:=by exact rfl)(hr:a1->a2->∀K:aJ->Nat->Prop,K s' κ'->bx c (hO ops) s κ [] λs' κ' acc=>ym ops acc.reverse=true/\K s' κ':=by intro e1 e2 K k;simp[e1,e2];(repeat refine az ?_);refine⟨zt,?_⟩;(repeat refine az ?_);exact k):AW c r (.seq (.region id ops true) y) s κ Q:=
 aac λK hK=>aaT hm hst hd (hr e1 e2 K (hK _ _ h))
theorem AW.dl2(hm:c.P.follows .mixedOrders=true)(e1:a1)(e2:a2)(h:Q .normal s' κ')(hst:kN ops=true:=by kernel_rfl)(hd:dW c.n ops.toList=true:=by exact rfl)(hr:a1->a2->∀K:aJ->Nat->Prop,K s' κ'->bx c (hO ops) s κ [] λs' κ' acc=>ym ops acc.reverse=true/\K s' κ':=by intro e1 e2 K k;simp[e1,e2];(repeat refine az ?_);refine⟨zt,?_⟩;(repeat refine az ?_);exact k):AW c r (.region id ops true) s κ Q:=
 aaT hm hst hd (hr e1 e2 (λs κ=>Q .normal s κ) h)
theorem AW.el2(hm:c.P.follows .mixedOrders=true)(e1:a1)(e2:a2)(h:Q .normal s' κ')(hst:kN ops=true:=by kernel_rfl)(hd:dW c.n ops.toList=true:=by exact rfl)(hq:ops.toList.all (λo=>mw o.op)=true:=by exact rfl)(hr:a1->a2->∀K:aJ->Nat->Prop,K s' κ'->br c (hO ops) s κ K:=by intro e1 e2 K k;simp[e1,e2];(repeat refine az ?_);exact k):AW c r (.region id ops true) s κ Q:=
 abT hm hst hd hq (hr e1 e2 (λs κ=>Q .normal s κ) h)
theorem AW.el3{a3:Prop}(hm:c.P.follows .mixedOrders=true)(e1:a1)(e2:a2)(e3:a3)(h:Q .normal s' κ')(hst:kN ops=true:=by kernel_rfl)(hd:dW c.n ops.toList=true:=by exact rfl)(hq:ops.toList.all (λo=>mw o.op)=true:=by exact rfl)(hr:a1->a2->a3->∀K:aJ->Nat->Prop,K s' κ'->br c (hO ops) s κ K:=by intro e1 e2 e3 K k;simp[e1,e2,e3];(repeat refine az ?_);exact k):AW c r (.region id ops true) s κ Q:=
 abT hm hst hd hq (hr e1 e2 e3 (λs κ=>Q .normal s κ) h)
end
def LB.okB:LB->Bool
 |.cells own fz _ _=>!own&&!fz
 |.map own _=>!own
 |_=>true
def nj(lv:Key->LB):Prop:=∀k,(lv k).okB=true
inductive Sg where
 |ret (x:AV) (lv:Key->LB)
 |pan (d:DV) (lv:Key->LB)
def XD(P:Program)(G:List (List DV))(lv:Key->LB)(F:Nat->Prop)(β:Key->Nat)(w:World)(o:Sg)(e:Ending)(w':World):Prop:=
 match o with
 |.ret x lv'=>∃v F' β',e=.returned v/\fF (fY P G w F β lv) F' β' lv' w'/\(Vw.mk F' β' lv' w').av v x
 |.pan d lv'=>∃v F' β',e=.panicked [{ v:=v,recovered:=false }]/\fF (fY P G w F β lv) F' β' lv' w'/\Rd (yT w' F') v d
def kL(P:Program)(G:List (List DV))(f:FuncId)(args:List AV)(lv:Key->LB)(o:Sg):Prop:=
 ∀(F:Nat->Prop) (β:Key->Nat) (w:World) (vs:Array Value),fF (fY P G w F β lv) F β lv w->vs.size=args.length ->
  (∀i (h:i<args.length) (h':i<vs.size),(Vw.mk F β lv w).av vs[i] args[i])->Calls P f vs w (XD P G lv F β w o)
section
variable {c:Ctx}{F:Nat->Prop}{β:Key->Nat}{s:aJ}{a:Act}{w:World}
theorem aR.Dv(h:aR c F β s a w)(ho:nj s.lv):fF (fY c.P c.G w F β s.lv) F β s.lv w:=by
 refine⟨?_,h.inj,λ_=>trivial,rfl,rfl,λb hb=>⟨(h.tC b hb).1,.inl hb⟩,λ_ hb=>hb,λ_ _ _=>rfl,bf _,h.uX,λk _=>.inr ⟨rfl,LB.cF _⟩,λ_=>bf _,⟨rfl,rfl⟩⟩;intro k;have hb:=h.dj k;have hp:=ho k;unfold Vw.dj at hb ⊢
 cases e:s.lv k with
 |cells own fz T cs=>
  rw[e]at hp;simp only[LB.okB,adS,aeM]at hp;simp only[e]at hb⊢;obtain⟨arr,b1,b2,b3,b4,b5⟩:=hb;refine⟨arr,b1,b2,b3,b4,?_⟩;rw[hp.1];simp only[iM,aey,if_false];exact .inr ⟨k,by rw[e,hp.2];rfl,rfl⟩
 |map own es=>
  rw[e]at hp;simp only[LB.okB,aeM]at hp;simp only[e]at hb⊢;obtain⟨ents,clock,b1,b2,b3,b4,b5⟩:=hb;refine⟨ents,clock,b1,b2,b3,b4,?_⟩;rw[hp];simp only[iM,aey,if_false];exact .inr ⟨k,ti,rfl⟩
 |hole=>grind
 |dead=>grind
 |nils=>grind
theorem Vw.JO{c c':Ctx}{k:Key}(h:∀o,iM c o (V.β k)->iM c' o (V.β k))(hb:V.dj c k):V.dj c' k:=by
 unfold Vw.dj at*
 grind
theorem aR.KE(h:aR c F β s a w){F':Nat->Prop}{β':Key->Nat}{w':World}
 (hx:fF (fY c.P c.G w F β s.lv) F' β' lv' w'):aR c F' β' ⟨s.fr,lv'⟩ a w':=by
 have hF:∀b,F b->F' b:=hx.F0;have hold:∀b,b<w.heap.size->¬(∃k,(s.lv k).live=true/\β k=b)->w'.heap[b]?=w.heap[b]?:=hx.old;have hkeep:∀k,s.lv k≠.hole->lv' k=.dead\/(β' k=β k/\(s.lv k).sub (lv' k)):=hx.keep;have hge:=h.ge;refine h.step (hoo:=hx.Hs) hF ?_ ?_ ?_ hx.Ls ?_ hx.inj ?_ hx.ge ?_
 ·intro b hb;refine hold b (h.tC b hb).1 ?_;rintro⟨k,hk,rfl⟩;exact h.vp hk hb
 ·intro k
  by_cases h0:s.lv k=.hole
  ·rw[h0];simp[LB.sub]
  ·rcases hkeep k h0 with hd|⟨_,hs⟩
   ·rw[hd];cases s.lv k<;>simp[LB.sub]
   omega
 ·grind
 ·intro k _;refine Vw.JO ?_ (hx.dj k);intro o ho;unfold iM at ho⊢;have ho':if o=true then w.heap.size<=β' k else w.heap.size<=β' k\/∃j,(s.lv j).live=true/\β j=β' k:=ho
  cases o with
  |true=>grind
  |false=>
   simp only[aey,if_false]at ho'⊢;rcases ho' with h1|⟨j,hj,hj2⟩
   ·omega
   ·have:=h.jk hj
    grind
 ·intro b hb;rcases(hx.tC b hb).2 with h1|h1
  ·exact .inl h1
  ·have h1':w.heap.size<=b:=h1;exact .inr ⟨(hx.tC b hb).1,HQ hge h1'⟩
 ·intro b hb hnW;refine hold b (adA hb hge) ?_;rintro⟨k,hk,rfl⟩;rcases h.jk hk with h1|h1
  ·omega
  grind
theorem NA(h:aR c F β s a w)(ho:o.op=.call cl)(ht:xm c.P (s.val c.G) cl.callee=some (f,fs,cs))(hf:aE c.P f=true){K:Act->World->Prop}
 (hK:∀vs:Array Value,vs.size=(fs++cl.args.toList.map (s.val c.G)++cs).length->(∀i (h:i<(fs++cl.args.toList.map (s.val c.G)++cs).length) (h':i<vs.size),(Vw.mk F β s.lv w).av vs[i] (fs++cl.args.toList.map (s.val c.G)++cs)[i]) ->
  Calls c.P f vs w λe w'=>(∃v,e=.returned v/\K (a.put o.dst v) w')\/∃ch,e=.panicked ch/\Q (.panic ch) a w'):o.wp c.P a w K Q:=by
 obtain⟨vs,hr,h1,h2⟩:=GZ h ho ht hf;have hc:=hK _ h1 h2;unfold Oper.wp;rw[hr,Oper.upon_enter];refine hc.mono λe w' he=>?_;rcases he with⟨v,rfl,hk⟩|⟨ch,rfl,hk⟩<;>exact hk
theorem kL.sim{x:AV}(hd:∀d,o.dst=some d->d<c.n)(ho:o.op=.call cl)(ht:xm c.P (s.val c.G) cl.callee=some (f,fs,cs))(hf:aE c.P f=true)(hok:nj s.lv)(hc:kL c.P c.G f (fs++cl.args.toList.map (s.val c.G)++cs) s.lv (.ret x lv')):
 di c o s (aJ.put ⟨s.fr,lv'⟩ o.dst x):=by
 intro F β a w K Q h hK;refine NA h ho ht hf λvs hl hv=>?_;refine(hc F β w vs (h.Dv hok) hl hv).mono λe w' he=>?_;obtain⟨v,F',β',rfl,hS,hav⟩:=he;exact .inl ⟨v,rfl,hK _ _ _ _ (aR.IE (h.KE hS) hd hav)⟩
end
def R7(c:Ctx)(fn:Func):Sg->Ex->aJ->Nat->Prop
 |.ret x lv',.normal,s,_|.ret x lv',.ret,s,_=>fq c.P s fn.results.toList=some x/\s.lv=lv'
 |.pan d lv',.panic d',s,_=>d'=d/\s.lv=lv'
 |_,_,_,_=>False
theorem kL.pW{fn:Func}{code:Code}{args:List AV}{o:Sg}(hf:P.funcs[f]?=some fn)(hb:fn.body=some code)(hl:args.length<=fn.ntmps)
 (h:∀c:Ctx,c.P=P->c.G=G->c.n=fn.ntmps->c.jd=lv->AW c none code ⟨λt=>args.getD t .undef,lv⟩ κ (R7 c fn o)):kL P G f args lv o:=by
 intro F β w vs hS hvl hv;refine calls_of_wp hf hb ?_
 let c:Ctx:={ fY P G w F β lv with n:=fn.ntmps }
 have hS':fF c F β lv w:=hS
 let a:Act:={ tmps:=vs++Array.replicate (fn.ntmps-vs.size) undef,defers:=[] }
 have hst:aR c F β ⟨λt=>args.getD t .undef,lv⟩ a w:=by
  refine hS'.with ?_ rfl (λt=>?_)
  ·grind
  ·show(Vw.mk F β lv w).av ((vs++Array.replicate (fn.ntmps-vs.size) undef).getD t undef) (args.getD t .undef)
   by_cases ht:t<args.length
   ·have h1:args.getD t .undef=args[t]:=iy ht
    have h2:(vs++Array.replicate (fn.ntmps-vs.size) undef).getD t undef=vs[t]' zd:=by
     rw[aeK,agu zd,ae0 zd];rfl
    grind
   ·have h1:args.getD t .undef=.undef:=nN ht
    have h2:(vs++Array.replicate (fn.ntmps-vs.size) undef).getD t undef=undef:=by
     rw[aeK,agH zd,agb];split<;>rfl
    rw[h1,h2];rfl
 have hw:=(wpIn_wide (n:=0)).1 (h c rfl rfl rfl rfl F β a w hst);refine wp_mono hw λe a' w' hp=>?_;obtain⟨e',s',κ',F',β',hq,hs',he⟩:=hp
 cases o with
 |ret x lv'=>
  have fin:fq c.P s' fn.results.toList=some x/\s'.lv=lv'->a'.defers=[]/\∃v,(results fn a'.tmps).run P w'=.ok v w'/\XD P G lv F β w (.ret x lv') (.returned v) w':=by
   rintro⟨h0,h1⟩;obtain⟨v,h4,h5⟩:=vG hs' h0;subst h1;exact⟨hs'.defers,v,h4,v,F',β',rfl,hs'.ux,h5⟩
  cases e' with
  |normal=>cases he;exact fin hq
  |ret=>cases he;exact fin hq
  |exit id=>exact hq.elim
  |goto l=>exact hq.elim
  |panic d=>exact hq.elim
 |pan d lv'=>
  cases e' with
  |normal=>exact hq.elim
  |ret=>exact hq.elim
  |exit id=>exact hq.elim
  |goto l=>exact hq.elim
  |panic d'=>
   obtain⟨rfl,h1⟩:=hq;subst h1;obtain⟨v,rfl,hr⟩:=he;exact⟨hs'.defers,v,F',β',rfl,hs'.ux,hr⟩
section
variable {c:Ctx}{r:Option Nat}{ops:Array Oper}
def iN(c:Ctx)(r:Option Nat)(ops:Array Oper)(o:Oper)(s s1:aJ):Prop:=
 ∀F β a w K Q,aR c F β s a w->(∀F' β' a' w',aR c F' β' s1 a' w'->K a' w') ->
  if Region.wanted o (yielded ops a.tmps)then o.wpIn (wg r) 0 c.P a w K Q else K (a.put o.dst undef) w
theorem iN.OQ{e:Fx}(h:dh c r ops o s e):iN c r ops o s (e.app o.dst s):=
 λF β a w K Q hs hK=>h s (λ_ _=>rfl) ⟨λ_ _=>rfl,λ_ _=>rfl⟩ F β a w K Q hs hK
def tR(c:Ctx)(r:Option Nat)(ops:Array Oper):List Oper->aJ->aJ->Prop
 |[],s,s'=>s'=s
 |o::os,s,s'=>∃s1,iN c r ops o s s1/\tR c r ops os s1 s'
theorem tR.opers:∀{os:List Oper}{s s':aJ}(n:Nat),ops.toList.drop n=os->tR c r ops os s s' ->
 (∀F' β' a' w',aR c F' β' s' a' w'->Q .normal a' w')->∀F β a w,aR c F β s a w->wpOpsIn (wg r) 0 c.P ops Q (List.range' n os.length) a w
 |[],s,s',n,_,h,hQ=>λF β a w hs=>by
  have h:s'=s:=h;subst h;exact hQ F β a w hs
 |o::os,s,s',n,h1,h,hQ=>λF β a w hs=>by
  obtain⟨s1,h2,h3⟩:=h
  have ho:ops[n]?=some o:=by
   have:(ops.toList.drop n)[0]?=some o:=by rw[h1];rfl
   rw[afx]at this;simpa using this
  have ih:=tR.opers (os:=os) (n+1) fp h3 hQ;have key:=h2 F β a w (wpOpsIn (wg r) 0 c.P ops Q (List.range' (n+1) os.length)) Q hs (λF' β' a' w' h'=>ih F' β' a' w' h');simp only[aeq,List.range'_succ];rw[wpOpsIn_cons];unfold wpOpIn;rw[ho];simp only;split at key
  ·grind
  ·rename_i hw;rw[if_neg hw];exact⟨λ_ _=>trivial,key⟩
theorem AW.J1{s':aJ}{Q:Ex->aJ->Nat->Prop}{id:Nat}(h:tR c r ops ops.toList s s')(hQ:Q .normal s' κ):AW c r (.region id ops false) s κ Q:=by
 intro F β a w hs;refine wpIn_region ?_;have:=tR.opers (Q:=Post c Q) 0 rfl h (λF' β' a' w' h'=>⟨.normal,s',κ,F',β',hQ,h',rfl⟩) F β a w hs;rw[List.range_eq_range']
 grind
end
theorem fF.enter{F:Nat->Prop}{β:Key->Nat}{w:World}(hS:fF (fY P G w F β lv) F β lv w){n:Nat}{fr:Nat->AV}{a:Act}(h1:a.tmps.size=n)(h2:a.defers=[])
 (h3:∀t,(Vw.mk F β lv w).av (a.tmps.getD t undef) (fr t)):aR { fY P G w F β lv with n:=n } F β ⟨fr,lv⟩ a w:=
 fF.with (c:={ fY P G w F β lv with n:=n }) hS h1 h2 h3
section
variable {c:Ctx}{F:Nat->Prop}{β:Key->Nat}{s:aJ}{a:Act}{w:World}
def vS(lv:Key->LB):AV->Option Bool
 |.c (.ptr k _)=>match lv k with|.cells ..=>some false|_=>none
 |.c (.aO k _ _ _)=>match lv k with|.cells ..=>some false|.nils=>some true|_=>none
 |.c (.mapr k)=>match lv k with|.map ..=>some false|_=>none
 |.c (.d .nilmap)=>some true
 |.c (.func ..)=>some false
 |.c (.d (.func ..))=>some false
 |.c (.d .nilFunc)=>some true
 |.c (.ifc ..)=>some false
 |_=>none
def JY:AV->AV->Bool
 |.c (.ptr ..),.c (.d .nilp)=>true
 |.c (.aO ..),.c (.d .nilsl)=>true
 |.c (.mapr _),.c (.d .nilmap)=>true
 |.c (.d .nilmap),.c (.d .nilmap)=>true
 |.c (.func ..),.c (.d .nilFunc)=>true
 |.c (.d (.func ..)),.c (.d .nilFunc)=>true
 |.c (.d .nilFunc),.c (.d .nilFunc)=>true
 |.c (.ifc ..),.c (.d .nilIface)=>true
 |_,_=>false
def Ap(P:Program)(T:TypeId):AV->Bool
 |.c (.ptr ..)=>match P.underlying T with|some (.pointer _)=>true|_=>false
 |.c (.aO ..)=>match P.underlying T with|some (.slice _)=>true|_=>false
 |.c (.mapr _)|.c (.d .nilmap)=>match P.underlying T with|some (.map _ _)=>true|_=>false
 |.c (.func ..)|.c (.d (.func ..))|.c (.d .nilFunc)=>match P.underlying T with|some (.func _ _ _)=>true|_=>false
 |.c (.ifc ..)=>match P.underlying T with|some (.interface _)=>true|_=>false
 |_=>false
def Ui:AV->List Key
 |.c (.ptr k _)=>[k]
 |.c (.aO k ..)=>[k]
 |.c (.mapr k)=>[k]
 |_=>[]
theorem pG{w:World}(hE:∀m,(Op.equalIn (m+1) T u v).run P w=.ok b w)
 (h1:binOp .eql T u v=(do pure (.bool (<-Op.equal T u v)))) (h2:binOp .neq T u v=(do pure (.bool (!(<-Op.equal T u v))))) (h3:eqGuard .eql T x y u v=pure ()) (h4:eqGuard .neq T x y u v=pure ()) :
 (do eqGuard .eql T x y u v;binOp .eql T u v:Sem Value).run P w=.ok (.bool b) w/\(do eqGuard .neq T x y u v;binOp .neq T u v:Sem Value).run P w=.ok (.bool (!b)) w:=by
 have hq:(Op.equal T u v).run P w=.ok b w:=hE 9999
 simp_all
theorem Mo{p q:AV}(hu:V.av u p)(hv:V.av v q)(hn:vS V.lv p=some b)(hq:JY p q=true)(hT:Ap P T p=true):
 (do eqGuard .eql T x y u v;binOp .eql T u v:Sem Value).run P V.w=.ok (.bool b) V.w/\(do eqGuard .neq T x y u v;binOp .neq T u v:Sem Value).run P V.w=.ok (.bool (!b)) V.w:=by
 unfold JY at hq;split at hq
 case h_1 k o=>
  simp only[vS]at hn;split at hn
  ·rename_i e
   simp only[aj]at hn;subst hn;obtain⟨hu,_⟩:=hu;simp only[Vw.ff,e]at hu;obtain⟨hv,_⟩:=hv
   cases hv
   subst hu;simp only[Ap]at hT;split at hT
   ·rename_i e hT'
    exact pG (λm=>by simp[Op.equalIn,run_underlying hT']) rfl rfl rfl rfl
   grind
  grind
 case h_2 k o l z=>
  simp only[vS]at hn;obtain⟨hv,_⟩:=hv
  cases hv
  obtain⟨hu,_⟩:=hu;simp only[Ap]at hT;split at hT
  ·rename_i e hT'
   split at hn
   ·rename_i e
    simp only[aj]at hn;subst hn;simp only[Vw.cT,e]at hu;obtain⟨cap,rfl,_⟩:=hu;exact pG (λm=>by simp[Op.equalIn,run_underlying hT']) rfl rfl rfl rfl
   ·rename_i e
    simp only[aj]at hn;subst hn;simp only[Vw.cT,e]at hu;rw[hu.1];exact pG (λm=>by simp[Op.equalIn,run_underlying hT']) rfl rfl rfl rfl
   grind
  grind
 case h_3 k=>
  simp only[vS]at hn;split at hn
  ·rename_i e
   simp only[aj]at hn;subst hn;obtain⟨hu,_⟩:=hu;simp only[Vw.qJ,e]at hu;obtain⟨hv,_⟩:=hv
   cases hv
   subst hu;simp only[Ap]at hT;split at hT
   ·rename_i e hT'
    exact pG (λm=>by simp[Op.equalIn,run_underlying hT']) rfl rfl rfl rfl
   grind
  grind
 case h_4=>
  simp only[vS,aj]at hn;subst hn;obtain⟨hu,_⟩:=hu;cases hu;obtain⟨hv,_⟩:=hv;cases hv;simp only[Ap]at hT;split at hT
  ·rename_i e hT'
   exact pG (λm=>by simp[Op.equalIn,run_underlying hT']) rfl rfl rfl rfl
  grind
 case h_5 fn f cs=>
  simp only[vS,aj]at hn;subst hn;obtain⟨_,_,rfl,_⟩:=hu;obtain⟨hv,_⟩:=hv;cases hv;simp only[Ap]at hT;split at hT
  ·rename_i e hT'
   exact pG (λm=>by simp[Op.equalIn,run_underlying hT']) rfl rfl rfl rfl
  grind
 case h_6 fn f cs=>
  simp only[vS,aj]at hn;subst hn;obtain⟨hu,_⟩:=hu;cases hu;obtain⟨hv,_⟩:=hv;cases hv;simp only[Ap]at hT;split at hT
  ·rename_i e hT'
   exact pG (λm=>by simp[Op.equalIn,run_underlying hT']) rfl rfl rfl rfl
  grind
 case h_7=>
  simp only[vS,aj]at hn;subst hn;obtain⟨hu,_⟩:=hu;cases hu;obtain⟨hv,_⟩:=hv;cases hv;simp only[Ap]at hT;split at hT
  ·rename_i e hT'
   exact pG (λm=>by simp[Op.equalIn,run_underlying hT']) rfl rfl rfl rfl
  grind
 case h_8 t r=>
  simp only[vS,aj]at hn;subst hn;obtain⟨_,rfl,_⟩:=hu;obtain⟨hv,_⟩:=hv;cases hv;simp only[Ap]at hT;split at hT
  ·rename_i e hT'
   exact pG (λm=>by simp[Op.equalIn,run_underlying hT']) rfl rfl rfl rfl
  grind
 grind
theorem Ca{op:BinOp}{T':TypeId}(hd:∀d,o.dst=some d->d<c.n)(ho:o.op=.binOp op T x y T')(hop:op=.eql\/op=.neq)
 (hn:vS s.lv (s.val c.G x)=some b) (hq:JY (s.val c.G x) (s.val c.G y)=true) (hT:Ap c.P T (s.val c.G x)=true) :
 di c o s (s.put o.dst (.c (.d (.bool (if op=.eql then b else !b))))):=
 di.bA hd λF β a w hs=>by
  have h:=Mo (V:=Vw.mk F β s.lv w) (P:=c.P) (T:=T) (x:=x) (y:=y) (hs.val x) (hs.val y) hn hq hT;rcases hop with rfl|rfl
  ·exact⟨.bool b,by simp only[execOp,ho];have:=h.1;simp only[cy]at this⊢;simp_all,Vw.o7 _ _⟩
  ·exact⟨.bool (!b),by simp only[execOp,ho];have:=h.2;simp only[cy]at this⊢;simp_all,Vw.o7 _ _⟩
end
end Go.Am
namespace Go.Am
open Go.Lib
variable {T e T' ty pt it:TypeId}{o:Oper}{x:Operand}{κ k:Key}{n sz off:Nat}{own fz:Bool}{cs:List CV}{y:AV}{l:List UInt8}{i:TypeInfo}{z:Value}{vals:List AV}{P:Program}{lo hi:Option Operand}{h:Int}{op:Op}
def bJ(l:List UInt8):List CV:=l.map λb=>.d (.int .u8 (b.toNat:Int))
theorem eD(l:List UInt8):(bJ l).length=l.length:=by simp[bJ]
theorem Uh(b:UInt8):u8.wrap (b.toNat:Int)=(b.toNat:Int):=by
 refine eG ?_;have:=UInt8.toNat_lt b;simp only[BB,rM];omega
section
variable {c:Ctx}{F:Nat->Prop}{β:Key->Nat}{s:aJ}{a:Act}{w:World}
theorem RW(V:Vw)(b:UInt8):V.cv (.int .u8 (b.toNat:Int)) (.d (.int .u8 (b.toNat:Int))):=⟨.int _ _ (Uh b),rfl⟩
theorem FV(l:List UInt8):strCells ⟨l.toArray⟩=l.map λb=>Value.int .u8 (b.toNat:Int):=by
 rfl
theorem zZ(V:Vw)(l:List UInt8):∀i (h:i<(bJ l).length) (h':i<(strCells ⟨l.toArray⟩).length),V.cv (strCells ⟨l.toArray⟩)[i] (bJ l)[i]:=by
 intro i h h';simp only[FV,bJ,rP];exact RW V _
theorem fT(l:List UInt8):(ByteArray.mk l.toArray).size=l.length:=xr
theorem aR.tO(hs:aR c F β s a w)(hκ:s.lv κ=.hole)(hT:fU c.P T=some (e,1))(hT':lX c.P T'=true)
 (hi:c.P.info? e=some i) (hz:i.zero=some z) (hzs:z.cells.size=1) (h63:l.length<=9223372036854775807) (hb:l.length*i.bytes<=140737488355328) :
 ∃v F' β' w',(Builtin.append_ #[T,T'] ty #[.slice none 0 0,.string ⟨l.toArray⟩]).run c.P w=.ok v w' /\
  aR c F' β' ⟨s.fr,aM s.lv κ (if l.length=0 then .nils else .cells true false e (bJ l))⟩ a w' /\
  (Vw.mk F' β' (aM s.lv κ (if l.length=0 then .nils else .cells true false e (bJ l))) w').cv v (.aO κ 0 l.length 1):=by
 obtain⟨hu,hie,hsz⟩:=eJ hT;have hsize:i.size=1:=t7
 have hstr:=jm hT';have hf:=run_firstCells_string (P:=c.P) w 1 ⟨l.toArray⟩;rw[fT]at hf
 by_cases hm:l.length=0
 ·have hl:l=[]:=afy hm;subst hl
  have hn:aR c F β ⟨s.fr,aM s.lv κ .nils⟩ a w:=by
   refine hs.step (λ_ h=>h) (λ_ _=>rfl) ?_ (λ_ _ _=>rfl) (λ_=>bf _) ?_ ?_ (λb h=>.inl h) (bf _) (λ_ _ _=>rfl)
   ·intro k
    by_cases e:k=κ
    ·subst e;rw[hκ];simp[LB.sub]
    ·rw[bt _ _ e];exact LB.cF _
   ·intro k hK
    by_cases e:k=κ
    ·subst e;unfold Vw.dj;simp only[aI]
    ·exact Vw.dR (hs.dj k) hK (bt _ _ e) rfl rfl (λ_ h=>h)
   ·intro k1 k2 g1 g2 he
    have g:∀k',(aM s.lv κ .nils k').live=true->(s.lv k').live=true:=by
     intro k' hk'
     by_cases e:k'=κ
     ·subst e;rw[aI]at hk';simp[LB.live]at hk'
     ·rwa[bt _ _ e]at hk'
    exact hs.inj _ _ (g _ g1) (g _ g2) he
  refine⟨.slice none 0 0,F,β,w,?_,io,?_⟩
  ·simp at hf;simp[Builtin.append_,run_underlying hu,run_underlying hstr,sizeOf,typeInfo,hi,hsize,Builtin.lenOf,hf,fT]
  ·simp[Vw.cv,Vw.cT,aI,Value.oneCell']
 ·have he:(Builtin.append_ #[T,T'] ty #[.slice none 0 0,.string ⟨l.toArray⟩]).run c.P w=(Builtin.append_ #[T,T'] ty #[.slice (some ⟨0,0,none⟩) 0 0,.string ⟨l.toArray⟩]).run c.P w:=by
   have h1:¬(9223372036854775807<(l.length:Int)):=zd
   have h2:=growslice_fits (old:=0) (zd:0<l.length) hb;simp[Builtin.append_,run_underlying hu,run_underlying hstr,sizeOf,typeInfo,hi,hsize,Builtin.lenOf,fT,hm,Builtin.firstCells,loadCells,loadCellsFrom,Nat.not_lt.2 h2]
  have hr:=run_append_grow_string (P:=c.P) w T T' ty e i z hu hstr hi hz ⟨0,0,none⟩ 0 0 [] zp zp ⟨l.toArray⟩ pB pB (by
   rw[fT];simpa using growslice_fits (old:=0) (zd:0<l.length) hb)
  rw[<-he]at hr;simp only[fT,aej]at hr;have hd:aR c F β s a w.drew:=hs.heap rfl;have hge:=grownCap_ge w l.length 0 e
  have hal:=hd.alloc hκ (arr:=([]:List Value).toArray++(strCells ⟨l.toArray⟩).toArray++Builtin.zeroCells z.cells (grownCap w l.length 0 e-l.length)) e (cs:=bJ l) (by simp[eD,strCells_length,fT]) (λj p q=>by
   have hj:j<(strCells ⟨l.toArray⟩).length:=by rw[strCells_length,fT];rw[eD]at p;exact p
   have:(([]:List Value).toArray++(strCells ⟨l.toArray⟩).toArray++Builtin.zeroCells z.cells (grownCap w l.length 0 e-l.length))[j]=(strCells ⟨l.toArray⟩)[j]:=by
    rw[aeX jp];simp
   rw[this];exact zZ _ _ _ _ _)
  refine⟨_,F,aM β κ w.heap.size,_,hr,by simpa[hm]using hal,?_⟩;simp only[hm,if_false,Vw.cv,Vw.cT,aI];refine⟨⟨_,rfl,hge,?_⟩,rfl⟩;simp only[dN,heap_alloc,af7,if_true,afT,afz,size_zeroCells,strCells_length,fT,hzs,List.length_nil];omega
theorem aR.tS(hs:aR c F β s a w)(hκ:s.lv κ=.hole)(hT:fU c.P T=some (e,1))(hT':lX c.P T'=true)
 (hi:c.P.info? e=some i) (hz:i.zero=some z) {y:Operand}(hy:s.val c.G y=.c (.aO k 0 n 1)) (hk:s.lv k=.cells own false e cs) (hfull:cs.length=n)
 (hzs:z.cells.size=1) (h63:n+l.length<=9223372036854775807) (hb:(n+l.length)*i.bytes<=140737488355328) :
 ∃v F' β' w',(Builtin.append_ #[T,T'] ty #[a.eval y,.string ⟨l.toArray⟩]).run c.P w=.ok v w' /\
  aR c F' β' ⟨s.fr,aM (aM s.lv k .dead) κ (.cells own false e (cs++bJ l))⟩ a w' /\
  (Vw.mk F' β' (aM (aM s.lv k .dead) κ (.cells own false e (cs++bJ l))) w').cv v (.aO κ 0 (n+l.length) 1):=by
 obtain⟨hu,hie,hsz⟩:=eJ hT;have hsize:i.size=1:=t7
 have hstr:=jm hT';have hkκ:k≠κ:=λe=>by grind
 have hv:=hy▸hs.val y;obtain⟨hv,_⟩:=hv;simp only[Vw.cT,hk]at hv;obtain⟨cap,EM,Wj,hv3⟩:=hv;have hbk:=hs.dj k;unfold Vw.dj at hbk;simp only[hk]at hbk;obtain⟨arr,g1,g2,g3,g4,g5⟩:=hbk;have has:dN w (β k)=arr.size:=by simp[dN,g1]
 rw[has]at hv3;simp only[aej,aeu]at hv3;rw[EM];have hvl:(strCells ⟨l.toArray⟩).length=l.length:=by rw[strCells_length,fT]
 have hbl:=eD l
 by_cases hroom:n+l.length<=cap
 ·have hr:=run_append_room_string (P:=c.P) w T T' ty e i hu hstr hi hsize (β k) n cap arr g1 ⟨l.toArray⟩ pB pB;rw[fT]at hr
  have hseg:arr.toList.take n++strCells ⟨l.toArray⟩++arr.toList.drop (n+l.length)=ai arr.toList n (strCells ⟨l.toArray⟩):=by
   unfold ai;rw[hvl]
  rw[hseg]at hr;have hle:n+(strCells ⟨l.toArray⟩).length<=arr.toList.length:=by rw[hvl];simp;omega
  have hset:=hs.setRow (arr:=(ai arr.toList n (strCells ⟨l.toArray⟩)).toArray) hk g1 (cs':=cs) yn yn (λj p q=>by
   grind)
  have hsame:aM s.lv k (.cells own false e cs)=s.lv:=by
   funext t;unfold aM;split
   ·grind
   ·rfl
  rw[hsame]at hset
  have hK:(Vw.mk F β s.lv w).jN (Vw.mk F β s.lv (w.setRow (β k) (ai arr.toList n (strCells ⟨l.toArray⟩)).toArray)):=
   Vw.j0 (λ_ h=>h) (λb hb=>setRow_other _ _ _ _ (λe=>by
    grind)) (λ_=>LB.cF _) (λ_ _ _=>rfl) (λb=>by rw[ku w (β k) arr _ e (0,0) g1 yn b];simp)
  have hmv:=hset.move (k:=k) (κ:=κ) hk hκ (cs':=cs++bJ l) (arr:=(ai arr.toList n (strCells ⟨l.toArray⟩)).toArray) (setRow_heap w _ arr _ e (0,0) g1) yn (λj p q=>by
   simp only[af4];rw[gF _ _ _ hle j zd]
   by_cases hj:j<n
   ·rw[dif_neg zd,aeF zd];simp only[afu];exact hK.cv (g3 _ _ _)
   ·rw[dif_pos ⟨zd,yn⟩,ae4 zd];simp only[hfull];exact zZ _ _ _ _ _)
  refine⟨_,_,_,_,hr,hmv,⟨?_,rfl⟩⟩;simp only[Vw.cT,aI];refine⟨cap,rfl,hroom,?_⟩;rw[ku w (β k) arr _ e (0,0) g1 yn];omega
 ·have holds:∀j u,(arr.toList.take n)[j]?=some u->w.cell? ((⟨β k,0,none⟩:Addr).add j)=some u:=by
   intro j u hu;rw[af6]at hu;split at hu
   ·rw[ags]at hu;rw[aeL,cell_of_row w _ _ _ _ _ g1,aej];exact hu
   ·cases hu
  have hn:n<=arr.size:=zd
  have hr:=run_append_grow_string (P:=c.P) w T T' ty e i z hu hstr hi hz ⟨β k,0,none⟩ n cap (arr.toList.take n) yn holds ⟨l.toArray⟩ pB pB (by rw[fT];exact growslice_fits zd hb);rw[fT]at hr;have hd:aR c F β s a w.drew:=hs.heap rfl
  have hal:=(hd.kill k).alloc (κ:=κ) ra (arr:=((arr.toList.take n).toArray++(strCells ⟨l.toArray⟩).toArray++Builtin.zeroCells z.cells (grownCap w (n+l.length) cap e-(n+l.length)))) e (cs:=cs++bJ l)
   yv (λj p q=>by
    have hK2:(Vw.mk F β s.lv w).jN (Vw.mk F β (aM s.lv k .dead) w.drew):=Vw.j0 (λ_ h=>h) (λ_ _=>rfl) (λt=>by
     by_cases e:t=k
     ·subst e;show LB.sub (s.lv t) (aM s.lv t .dead t);rw[aI];cases s.lv t<;>simp[LB.sub]
     ·show LB.sub (s.lv t) (aM s.lv k .dead t);rw[bt _ _ e];exact LB.cF _) (λ_ _ _=>rfl) (λ_=>bf _)
    simp only[adl]at p;have hto:(arr.toList.take n).length=n:=yv
    by_cases hj:j<n
    ·have e1:((arr.toList.take n).toArray++(strCells ⟨l.toArray⟩).toArray++Builtin.zeroCells z.cells (grownCap w (n+l.length) cap e-(n+l.length)))[j]=arr[j]' zd:=by
      rw[aeX yv,aeX yv];simp
     rw[e1,aeF zd];exact hK2.cv (g3 _ _ _)
    ·have e1:((arr.toList.take n).toArray++(strCells ⟨l.toArray⟩).toArray++Builtin.zeroCells z.cells (grownCap w (n+l.length) cap e-(n+l.length)))[j]=(strCells ⟨l.toArray⟩)[j-n]' zd:=by
      rw[aeX yv,agG yv];simp[hto]
     rw[e1,ae4 zd];simp only[hfull];exact zZ _ _ _ _ _)
  have hun:=hal.Jt (k:=κ) own B9;rw[DY]at hun;refine⟨_,_,_,_,hr,hun,⟨?_,rfl⟩⟩;simp only[Vw.cT,aI];refine⟨_,rfl,grownCap_ge w (n+l.length) cap e,?_⟩;have hge:=grownCap_ge w (n+l.length) cap e;simp only[dN,heap_alloc,af7,if_true,afT,afz,size_zeroCells,hvl,hzs,acM,afv];omega
end
section
variable {c:Ctx}{F:Nat->Prop}{β:Key->Nat}{s:aJ}{a:Act}{w:World}
theorem ny{y:Operand}(hd:∀d,o.dst=some d->d<c.n)
 (ho:o.op=.call { callee:=.builtin .append,args:=#[y,x],argTypes:=#[T,T'] }) (hκ:s.lv κ=.hole) (hy:s.val c.G y=.c (.d .nilsl)\/∃k,s.val c.G y=.c (.aO k 0 0 1)/\s.lv k=.nils) (hT:fU c.P T=some (e,1)) (hT':lX c.P T'=true)
 (hi:c.P.info? e=some i) (hz:i.zero=some z) (hx:s.val c.G x=.c (.d (.str l))) (hzs:z.cells.size=1) (h63:l.length<=9223372036854775807) (hb:l.length*i.bytes<=140737488355328) :
 di c o s (aJ.put ⟨s.fr,aM s.lv κ (if l.length=0 then .nils else .cells true false e (bJ l))⟩ o.dst (.c (.aO κ 0 l.length 1))):=
 di.gN hd λF β a w hs=>by
  obtain⟨v,F',β',w',h1,h2,h3⟩:=hs.tO (ty:=o.type) hκ hT hT' hi hz hzs h63 hb;refine⟨v,F',β',w',?_,h2,h3⟩;have hxv:=Vw.pY (hx▸hs.val x)
  have hu:a.eval y=.slice none 0 0:=by
   rcases hy with hy|⟨k,hy,hk⟩
   ·have hv:=hy▸hs.val y;obtain⟨hv,_⟩:=hv;obtain⟨u,hu⟩:∃u,a.eval y=u:=⟨_,rfl⟩
    rw[hu]at hv ⊢
    cases hv;rfl
   ·have hv:=hy▸hs.val y;obtain⟨hv,_⟩:=hv;simp only[Vw.cT,hk]at hv
    grind
  simp[execOp,ho,resolve,invoke,builtin,hu,hxv,h1]
theorem tZ{y:Operand}(hd:∀d,o.dst=some d->d<c.n)
 (ho:o.op=.call { callee:=.builtin .append,args:=#[y,x],argTypes:=#[T,T'] }) (hκ:s.lv κ=.hole) (hT:fU c.P T=some (e,1)) (hT':lX c.P T'=true)
 (hi:c.P.info? e=some i) (hz:i.zero=some z) (hy:s.val c.G y=.c (.aO k 0 n 1)) (hk:s.lv k=.cells own false e cs) (hfull:cs.length=n)
 (hx:s.val c.G x=.c (.d (.str l))) (hzs:z.cells.size=1) (h63:n+l.length<=9223372036854775807) (hb:(n+l.length)*i.bytes<=140737488355328) :
 di c o s (aJ.put ⟨s.fr,aM (aM s.lv k .dead) κ (.cells own false e (cs++bJ l))⟩ o.dst (.c (.aO κ 0 (n+l.length) 1))):=
 di.gN hd λF β a w hs=>by
  obtain⟨v,F',β',w',h1,h2,h3⟩:=hs.tS (ty:=o.type) (l:=l) hκ hT hT' hi hz hy hk hfull hzs h63 hb;have hxv:=Vw.pY (hx▸hs.val x);exact⟨v,F',β',w',by simp[execOp,ho,resolve,invoke,builtin,hxv,h1],h2,h3⟩
theorem Bw{len:Nat}{T0:TypeId}(hd:∀d,o.dst=some d->d<c.n)
 (ho:o.op=.call { callee:=.builtin .unsafeSliceData,args:=#[x],argTypes:=#[T] }) (hx:s.val c.G x=.c (.aO k off len sz)) (hk:s.lv k=.cells own fz T0 cs) (hlen:0<len) :
 di c o s (s.put o.dst (.c (.ptr k off))):=
 di.bA hd λF β a w hs=>by
  have hv:=hx▸hs.val x;obtain⟨hv,_⟩:=hv;simp only[Vw.cT,hk]at hv;obtain⟨cap,EM,Wj,hv3⟩:=hv;refine⟨.pointer (some ⟨β k,off,none⟩),?_,?_⟩
  ·have:=run_unsafeSliceData_row (P:=c.P) w #[T] o.type ⟨β k,off,none⟩ len cap zd;simp[execOp,ho,resolve,invoke,builtin,EM,this]
  ·exact⟨by simp only[Vw.ff,hk],rfl⟩
theorem nQ(hd:∀d,o.dst=some d->d<c.n)
 (ho:o.op=.call { callee:=.builtin .unsafeSliceData,args:=#[x],argTypes:=#[T] }) (hx:s.val c.G x=.c (.d .nilsl)\/∃k,s.val c.G x=.c (.aO k 0 0 1)/\s.lv k=.nils) :
 di c o s (s.put o.dst (.c (.d .nilp))):=
 di.bA hd λF β a w hs=>by
  have hu:a.eval x=.slice none 0 0:=by
   rcases hx with hy|⟨k,hy,hk⟩
   ·have hv:=hy▸hs.val x;obtain⟨hv,_⟩:=hv;obtain⟨u,hu⟩:∃u,a.eval x=u:=⟨_,rfl⟩
    rw[hu]at hv ⊢
    cases hv;rfl
   ·have hv:=hy▸hs.val x;obtain⟨hv,_⟩:=hv;simp only[Vw.cT,hk]at hv
    grind
  refine⟨.pointer none,?_,.nilp,rfl⟩;simp[execOp,ho,resolve,invoke,builtin,hu,run_unsafeSliceData_nil]
theorem qk{y:Operand}(hd:∀d,o.dst=some d->d<c.n)
 (ho:o.op=.call { callee:=.builtin .unsafeString,args:=#[x,y],argTypes:=#[pt,it] }) (hx:s.val c.G x=.c (.d .nilp)) (hy:s.val c.G y=.c (.d (.int .i64 0))) :
 di c o s (s.put o.dst (.c (.d (.str [])))):=
 di.bA hd λF β a w hs=>by
  have hv:=hx▸hs.val x;obtain⟨hv,_⟩:=hv;obtain⟨u,hu⟩:∃u,a.eval x=u:=⟨_,rfl⟩
  rw[hu]at hv;have hyv:=Vw.gR (hy▸hs.val y)
  cases hv
  refine⟨.string .empty,?_,?_⟩
  ·have:=run_unsafeString_none (P:=c.P) w pt it o.type none;simp[execOp,ho,resolve,invoke,builtin,hu,hyv,this]
  ·have:ByteArray.empty=⟨([]:List UInt8).toArray⟩:=rfl;rw[this];exact Vw.qC _ _ zp
def nT:List CV->Option (List UInt8)
 |[]=>some []
 |.d (.int .u8 n)::r=>match n with
  |.ofNat m=>if m<256 then(match nT r with|some l=>some (UInt8.ofNat m::l)|none=>none)else none
  |_=>none
 |_=>none
theorem Az:∀{cs:List CV}{l:List UInt8},nT cs=some l->cs=bJ l
 |[],l,h=>by simp only[nT,aj]at h;subst h;rfl
 |x::r,l,h=>by
  unfold nT at h;split at h
  ·grind
  ·rename_i n r' h0
   simp only[aep]at h0;obtain⟨rfl,rfl⟩:=h0;split at h
   ·rename_i m
    split at h
    ·rename_i hm
     split at h
     ·rename_i l' hl
      simp only[aj]at h;subst h;have:=Az hl;simp only[bJ,adi]at this⊢;rw[this];congr 3;have:(UInt8.ofNat m).toNat=m:=by simp[UInt8.toNat_ofNat'];omega
      grind
     grind
    grind
   grind
  grind
theorem aR.GY(h:aR c F β s a w)(hk:s.lv k=.cells own false T cs)(n:Nat):
 aR c F β ⟨s.fr,aM s.lv k .dead⟩ a (w.freeze ⟨β k,0,none⟩ n):=by
 have hlive:(s.lv k).live=true:=dC
 have hoth:∀b,b≠β k->(w.freeze ⟨β k,0,none⟩ n).heap[b]?=w.heap[b]?:=by
  intro b hb;unfold World.freeze;split
  ·rfl
  ·grind
 have hsz:(w.freeze ⟨β k,0,none⟩ n).heap.size=w.heap.size:=by
  unfold World.freeze;split<;>simp
 have has:∀b,dN w b=dN (w.freeze ⟨β k,0,none⟩ n) b:=by
  intro b
  by_cases e:b=β k
  ·subst e;unfold World.freeze;split
   ·rfl
   ·simp only[dN,Array.getElem?_modify,if_true]
    grind
  ·simp only[dN,hoth b e]
 refine h.step (hoo:=by unfold World.freeze;grind) (λ_ h=>h) (λb hb=>hoth b (λe=>h.vp hlive (e▸hb))) ?_ (λ_ _ _=>rfl) (λb=>Nat.le_of_eq (has b)) ?_ ?_ (λb h=>.inl h) (Nat.le_of_eq hsz.symm) ?_
 ·intro k'
  by_cases e:k'=k
  ·subst e;rw[aI];cases s.lv k'<;>simp[LB.sub]
  ·rw[bt _ _ e];exact LB.cF _
 ·intro k' hK
  by_cases e:k'=k
  ·subst e;unfold Vw.dj;simp only[aI]
  ·have hb:=h.dj k'
   by_cases hl:(s.lv k').live=true
   ·exact Vw.dR hb hK (bt _ _ e) rfl (hoth _ (λe'=>e (h.inj _ _ hl hlive e'))) (λ_ h=>h)
   ·cases ek:s.lv k' with
    |cells o fz T' cs'=>
     cases fz with
     |false=>rw[ek]at hl;exact absurd rfl hl
     |true=>
      have hF:F (β k'):=by unfold Vw.dj at hb;simp only[ek]at hb;obtain⟨_,_,_,_,h4,_⟩:=hb;exact h4
      exact Vw.dR hb hK (bt _ _ e) rfl (hoth _ (λe'=>h.vp hlive (e'▸hF))) (λ_ h=>h)
    |map o es=>rw[ek]at hl;exact absurd rfl hl
    |hole=>unfold Vw.dj;simp only[bt _ _ e,ek]
    |dead=>unfold Vw.dj;simp only[bt _ _ e,ek]
    |nils=>unfold Vw.dj;simp only[bt _ _ e,ek]
 ·intro k1 k2 a1 a2 he
  have g:∀k',(aM s.lv k .dead k').live=true->(s.lv k').live=true:=by
   intro k' hk'
   by_cases e:k'=k
   ·grind
   ·rwa[bt _ _ e]at hk'
  exact h.inj _ _ (g _ a1) (g _ a2) he
 ·intro b hb hnW;refine hoth b (λe=>?_);rcases h.jk hlive with h1|h1
  ·omega
  grind
theorem xu{y:Operand}(hd:∀d,o.dst=some d->d<c.n)
 (ho:o.op=.call { callee:=.builtin .unsafeString,args:=#[x,y],argTypes:=#[pt,it] }) (hx:s.val c.G x=.c (.ptr k 0)) (hk:s.lv k=.cells own false e cs) (hy:s.val c.G y=.c (.d (.int .i64 l.length)))
 (hp:c.P.underlying pt=some (.pointer e)) (hc:c.P.cellsOf e=1) (hl:cs.take l.length=bJ l) (h0:l≠[]) (h63:l.length<=9223372036854775807) :
 di c o s (aJ.put ⟨s.fr,aM s.lv k .dead⟩ o.dst (.c (.d (.str l)))):=
 di.gN hd λF β a w hs=>by
  have hv:=hx▸hs.val x;obtain⟨hv,_⟩:=hv;simp only[Vw.ff,hk]at hv;have hyv:=Vw.gR (hy▸hs.val y);have hb:=hs.dj k;unfold Vw.dj at hb;simp only[hk]at hb;obtain⟨arr,b1,b2,b3,b4,b5⟩:=hb
  have hll:l.length<=cs.length:=by
   have:=congrArg List.length hl;rw[acM,eD]at this;omega
  have hcell:∀j x,l[j]?=some x->w.cell? ((⟨β k,0,none⟩:Addr).add j)=some (.int .u8 x.toNat):=by
   intro j x hj;obtain⟨hj1,hj2⟩:=List.getElem?_eq_some_iff.1 hj
   have h1:cs[j]' zd=.d (.int .u8 (x.toNat:Int)):=by
    have h2:(cs.take l.length)[j]?=some (cs[j]' zd):=by
     rw[af6,if_pos hj1,fy zd]
    rw[hl,bJ,aez,hj]at h2;simpa using h2.symm
   have h3:=b3 j zd zd;rw[h1]at h3;have h4:=Vw.gR (V:=Vw.mk F β s.lv w) h3
   have h5:(⟨β k,0,none⟩:Addr).add j=⟨β k,j,none⟩:=by
    unfold Addr.add;by_cases e:j=0
    ·simp
    ·simp[e]
   rw[h5,gz b1 zd,h4]
  have hr:=run_unsafeString_row (P:=c.P) w pt it o.type e hp hc (β k) arr.size (by simp[World.shape?,b1]) l h0 zd h63 hcell;refine⟨.string ⟨l.toArray⟩,F,β,w.freeze ⟨β k,0,none⟩ l.length,?_,hs.GY hk l.length,Vw.qC _ _ h63⟩;simp[execOp,ho,resolve,invoke,builtin,hv,hyv,hr]
end
section
variable {c:Ctx}{F:Nat->Prop}{β:Key->Nat}{s:aJ}{a:Act}{w:World}
theorem kq(h:wW P T=some (n,e,sz)){b o:Nat}{lo hi:Option Value}{l hh:Int}
 (hlo:lo=none/\l=0\/∃k,lo=some (.int k l)) (hhi:hi=none/\hh=n\/∃k,hi=some (.int k hh)) (h0:0<=l) (h1:l<=hh) (h2:hh<=n) (w:World) :
 (Instr.sliceAt T (.pointer (some ⟨b,o,none⟩)) lo hi none).run P w=.ok (.slice (some (if n=l.toNat then⟨b,o,none⟩ else⟨b,o+l.toNat*sz,none⟩)) (hh.toNat-l.toNat) (n-l.toNat)) w:=by
 obtain⟨hu,hie,hsz⟩:=A5 h;have hr:=iI (P:=P) (isSlice:=false) (len:=n) (cap:=n) hlo hhi h0 h1 h2 w;simp only[Instr.sliceAt,cy,run_underlying hu,nZ,Instr.sureAddr,ad6,hr,run_sizeOf hie,hsz];congr 3;split
 ·rfl
 ·rw[aeL]
theorem Ew{l:Int}(hd:∀d,o.dst=some d->d<c.n)(ho:o.op=.slice T x lo hi none)
 (hx:s.val c.G x=.c (.ptr κ off)) (hk:s.lv κ=.cells own fz T' cs) (hT:wW c.P T=some (n,e,sz)) (hcs:off+n*sz<=cs.length) (hlo:fW (lo.map (s.val c.G)) 0=some l) (hhi:fW (hi.map (s.val c.G)) n=some h)
 (h0:0<=l) (h1:l<=h) (h2:h<=n) (h3:l<h\/l=0):di c o s (s.put o.dst (.c (.aO κ (off+l.toNat*sz) (h.toNat-l.toNat) sz))):=
 di.bA hd λF β a w hs=>by
  have hv:=hx▸hs.val x;obtain⟨hv,_⟩:=hv;simp only[Vw.ff,hk]at hv;have hr:=kq hT (b:=β κ) (o:=off) (jt (λx=>hs.val x) hlo) (jt (λx=>hs.val x) hhi) h0 h1 h2 w;refine⟨_,mf,?_,rfl⟩;simp only[Vw.cT,hk];have hb:=hs.dj κ;unfold Vw.dj at hb;simp only[hk]at hb;obtain⟨arr,b1,b2,_⟩:=hb;have has:dN w (β κ)=arr.size:=by simp[dN,b1]
  have e1:(if n=l.toNat then(⟨β κ,off,none⟩:Addr)else⟨β κ,off+l.toNat*sz,none⟩)=⟨β κ,off+l.toNat*sz,none⟩:=by
   split
   ·have:l.toNat=0:=by omega
    rw[this];simp
   ·rfl
  refine⟨n-l.toNat,by rw[e1],zd,?_⟩;show off+l.toNat*sz+(n-l.toNat)*sz<=dN w (β κ);rw[has];have:l.toNat*sz+(n-l.toNat)*sz=n*sz:=by rw[<-adn];congr 1;omega
  omega
theorem DA{cs:List DV}{l:Int}(hd:∀d,o.dst=some d->d<c.n)(ho:o.op=.slice T x lo hi none)
 (hx:s.val c.G x=.c (.d (.ptr cs))) (hT:wW c.P T=some (n,e,sz)) (hcs:n*sz<=cs.length) (hlo:fW (lo.map (s.val c.G)) 0=some l) (hhi:fW (hi.map (s.val c.G)) n=some h)
 (h0:0<=l) (h1:l<=h) (h2:h<=n) (h63:n<=9223372036854775807):di c o s (s.put o.dst (.c (.d (.sl (((chunk sz n cs).take h.toNat).drop l.toNat))))):=
 di.bA hd λF β a w hs=>by
  have hv:=hx▸hs.val x;obtain⟨hv,_⟩:=hv;obtain⟨u,hu⟩:∃u,a.eval x=u:=⟨_,rfl⟩
  rw[hu]at hv
  cases hv with
  |ptr b off vs _ hm ho' hr'=>
   have hr:=kq hT (b:=b) (o:=off) (jt (λx=>hs.val x) hlo) (jt (λx=>hs.val x) hhi) h0 h1 h2 w;refine⟨_,by simp only[execOp,ho,ae7,hu];simp[hr];rfl,?_,rfl⟩;have hcl:(chunk sz n cs).length=n:=by simp[chunk]
   have hsz:∀i,i<n->i*sz+sz<=n*sz:=by
    intro i hi;have:(i+1)*sz<=n*sz:=adh _ hi
    rwa[adn,aes]at this
   have key:=Rd.sl (M:=yT w F) b off n sz (chunk sz n cs) (λi j=>vs (i*sz+j)) (by
    intro e he;obtain⟨i,hi,rfl⟩:=List.mem_iff_getElem.1 he;rw[hcl]at hi;have:=hsz i hi;simp[chunk];omega) zd zd
    (by intro i hi j hj;rw[hcl]at hi;have:=hsz i hi;have:=hm (i*sz+j) zd;rw[<-afk]at this;exact this)
    yn
    (by
     intro i hi j hj;rw[hcl]at hi;have h5:=hsz i hi;have hj':j<sz:=by simp[chunk]at hj;omega
     have h6:=hr' (i*sz+j) zd;simp only[chunk,rP,ae8,agt,afR];exact h6)
   rw[hcl]at key
   have hall:∀e∈chunk sz n cs,e.length=sz:=by
    intro e he;obtain⟨i,hi,rfl⟩:=List.mem_iff_getElem.1 he;rw[hcl]at hi;have:=hsz i hi;simp[chunk];omega
   have e1:(if n=l.toNat then(⟨b,off,none⟩:Addr)else⟨b,off+l.toNat*sz,none⟩)=⟨b,if n=l.toNat then off else off+l.toNat*sz,none⟩:=by split<;>rfl
   rw[e1];refine Rd.EA (l:=l.toNat) (h':=h.toNat) key hall zd zd b _ ?_ (n-l.toNat) zd
   grind
theorem BI{r:Ref}(hd:∀d,o.dst=some d->d<c.n)(ho:o.op=.makeInterface T x)
 (hx:lZ (s.val c.G x)=some r) (hT:c.P.concrete T=true):di c o s (s.put o.dst (.c (.ifc T r))):=
 di.bA hd λF β a w hs=>by
  have hr:=Vw.lZ (hs.val x) hx;refine⟨.iface T (a.eval x),?_,?_⟩
  ·simp only[execOp,ho,cy,run_makeInterface w T _ hT,nZ];rfl
  ·exact⟨a.eval x,rfl,hr⟩
end
abbrev nP:=AV×List (Key×LB)×List Key
variable {r:nP}
def OE(P:Program)(op:BinOp)(T:TypeId)(lv:Key->LB)(x y:AV):Option nP:=
 match vS lv x with
 |some b=>if JY x y&&Ap P T x then(match op with|.eql=>some (.c (.d (.bool b)),[],Ui x)|.neq=>some (.c (.d (.bool !b)),[],Ui x)|_=>none)else none
 |none=>none
def pT(P:Program)(T:TypeId)(lv:Key->LB)(x:AV)(lo hi:Option AV):Option nP:=
 match x with
 |.c (.ptr k off)=>match lv k,wW P T with
  |.cells _ _ _ cs,some (n,_,sz)=>match fW lo 0,fW hi n with
   |some l,some h=>if off+n*sz<=cs.length/\0<=l/\l<=h/\h<=n/\(l<h\/l=0)then some (.c (.aO k (off+l.toNat*sz) (h.toNat-l.toNat) sz),[],[k])else none
   |_,_=>none
  |_,_=>none
 |.c (.d (.ptr cs))=>match wW P T with
  |some (n,_,sz)=>match fW lo 0,fW hi n with
   |some l,some h=>if n*sz<=cs.length/\0<=l/\l<=h/\h<=n/\n<=9223372036854775807 then some (.c (.d (.sl (((chunk sz n cs).take h.toNat).drop l.toNat))),[],[])else none
   |_,_=>none
  |none=>none
 |.c (.aO k _ len sz)=>match lv k,fU P T with
  |.cells ..,some (_,sz')=>if sz=sz' then(match fW lo 0,fW hi len with
   |some l,some h=>if 0<=l/\l=h/\h<=len then some (.c (.d (.sl [])),[],[k])else none
   |_,_=>none)else none
  |_,_=>none
 |_=>none
def ju(P:Program)(T T':TypeId)(lv:Key->LB)(κ:Key)(y x:AV):Option nP:=
 match x,lv κ with
 |.c (.d (.str l)),.hole=>if lX P T' then(match fU P T with
  |some (e,1)=>match P.info? e with
   |some i=>match i.zero with
    |some z=>if z.cells.size=1 then(match y with
     |.c (.d .nilsl)=>if l.length<=9223372036854775807/\l.length*i.bytes<=140737488355328 then some (.c (.aO κ 0 l.length 1),[(κ,if l.length=0 then .nils else .cells true false e (bJ l))],[])else none
     |.c (.aO k off n sz)=>match lv k with
      |.nils=>if off=0/\n=0/\sz=1/\l.length<=9223372036854775807/\l.length*i.bytes<=140737488355328 then some (.c (.aO κ 0 l.length 1),[(κ,if l.length=0 then .nils else .cells true false e (bJ l))],[k])else none
      |.cells own false e' cs=>if off=0/\sz=1/\e'=e/\cs.length=n/\n+l.length<=9223372036854775807/\(n+l.length)*i.bytes<=140737488355328 then some (.c (.aO κ 0 (n+l.length) 1),[(k,.dead),(κ,.cells own false e (cs++bJ l))],[])else none
      |_=>none
     |_=>none)else none
    |none=>none
   |none=>none
  |_=>none)else none
 |_,_=>none
def FC(P:Program)(T T':TypeId)(lv:Key->LB)(κ k:Key)(off n sz:Nat)(x:AV):Option nP:=
 match lv κ,fU P T with
 |.hole,some (e,sz')=>match P.info? e with
  |some i=>match i.zero with
   |some z=>match lv k,cC lv sz x with
    |.cells _ _ _ cs,some (m,xs)=>if T'=T/\sz'=sz/\z.cells.size=sz/\m≠0/\off+n*sz<=cs.length/\n+m<=9223372036854775807/\(n+m)*i.bytes<=140737488355328 then
     some (.c (.aO κ 0 (n+m) sz),[(κ,.cells true false e ((cs.drop off).take (n*sz)++xs))],k::keyOf x)else none
    |_,_=>none
   |none=>none
  |none=>none
 |_,_=>none
def MC(P:Program)(T T':TypeId)(lv:Key->LB)(κ:Key)(y x:AV):Option nP:=
 match y with
 |.c (.lsf k off n sz)=>FC P T T' lv κ k off n sz x
 |y=>ju P T T' lv κ y x
def uI(P:Program)(T:TypeId)(lv:Key->LB)(x h m:AV):Option nP:=
 match x,h,m with
 |.c (.aO k off n sz),.c (.d (.int _ a)),.c (.d (.int _ b))=>match lv k,fU P T with
  |.cells ..,some (_,sz')=>if sz'=sz/\b=a/\0<=a/\a<=n then some (.c (.lsf k off a.toNat sz),[],[k])else none
  |_,_=>none
 |_,_,_=>none
def A7(lv:Key->LB)(x:AV):Option nP:=
 match x with
 |.c (.d .nilsl)=>some (.c (.d .nilp),[],[])
 |.c (.aO k off len sz)=>match lv k with
  |.cells ..=>if 0<len then some (.c (.ptr k off),[],[k])else none
  |.nils=>if off=0/\len=0/\sz=1 then some (.c (.d .nilp),[],[k])else none
  |_=>none
 |_=>none
def pM(P:Program)(pt:TypeId)(lv:Key->LB)(x y:AV):Option nP:=
 match y with
 |.c (.d (.int .i64 n))=>match x with
  |.c (.d .nilp)=>if n=0 then some (.c (.d (.str [])),[],[])else none
  |.c (.ptr k 0)=>match lv k,P.underlying pt with
   |.cells _ false e cs,some (.pointer e')=>if e'=e/\P.cellsOf e=1/\0<n/\n<=9223372036854775807 then(match nT (cs.take n.toNat)with
    |some l=>if l.length=n.toNat then some (.c (.d (.str l)),[(k,.dead)],[])else none
    |none=>none)else none
   |_,_=>none
  |_=>none
 |_=>none
def FO(P:Program)(cl:Call)(vals:List AV)(lv:Key->LB)(κ:Key):Option nP:=
 match cl.callee,cl.args.toList,cl.argTypes.toList,vals with
 |.builtin .append,[_,_],[T,T'],[y,x]=>MC P T T' lv κ y x
 |.builtin .unsafeSliceData,[_],[_],[x]=>A7 lv x
 |.builtin .unsafeString,[_,_],[pt,_],[x,y]=>pM P pt lv x y
 |_,_,_,_=>none
def FY(P:Program)(x:AV):Option nP:=
 match x with
 |.c (.d (.func (.method n) (.iface t v::fs) cs))=>if (wH P t n).isSome then some (.c (.d (.func (.method n) (.iface t v::fs) cs)),[],[])else none
 |.c (.func (.method n) (.ifc t v::fs) cs)=>if (wH P t n).isSome then some (.c (.func (.method n) (.ifc t v::fs) cs),[],[])else none
 |.c (.func (.method n) (.d (.iface t v)::fs) cs)=>if (wH P t n).isSome then some (.c (.func (.method n) (.d (.iface t v)::fs) cs),[],[])else none
 |_=>none
theorem C6{t:TypeId}{name:String}(h:(wH P t name).isSome=true)(n:Nat)(v:Value)(w:World):(nilAhead (n+1) t v name).run P w=.ok (some false) w:=by
 obtain⟨f,h⟩:=Option.isSome_iff_exists.1 h;unfold wH at h;obtain⟨i,hi,h⟩:=Option.bind_eq_some_iff.1 h;obtain⟨d,hd,h⟩:=Option.bind_eq_some_iff.1 h;obtain⟨m,hm,h⟩:=Option.bind_eq_some_iff.1 h;obtain⟨⟨g,b⟩,hf,h⟩:=Option.bind_eq_some_iff.1 h;split at h
 ·cases h
 rename_i hc
 cases h
 simp only[aeY,aeM,not_or,Bool.not_eq_true,Bool.not_eq_false]at hc;obtain⟨⟨h1,rfl⟩,h2⟩:=hc;have hp':m.path.toList=[]:=lm
 unfold nilAhead;simp only[cy,typeInfo,run_program,nZ,hi,ad6,hm,hp',followBlind,hf,run_underlying hd]
 cases d<;>first|(cases h1;done)|simp
theorem P1{c:Ctx}{s:aJ}(hd:∀d,o.dst=some d->d<c.n)(ho:o.op=.nilCheck x)(hx:s.val c.G x=y)(h:FY c.P y=some r):di c o s (aJ.put ⟨s.fr,b8 s.lv r.2.1⟩ o.dst r.1):=by
 have key:(∀(V:Vw) (v:Value),V.av v y->∃n fs cs t u,v=.func (.method n) fs cs/\fs[0]?=some (.iface t u)/\(wH c.P t n).isSome=true)->di c o s (s.put o.dst y):=λhk=>
  di.bA hd λF β a w hs=>by
   have h0:=hs.val x;rw[hx]at h0;obtain⟨n,fs,cs,t,u,he,h1,h2⟩:=hk _ _ h0;refine⟨_,?_,h0⟩;simp[execOp,ho,he,h1,C6 h2,Made.depth]
 unfold FY at h;split at h
 ·rename_i n t v fs cs
  split at h
  ·rename_i hm
   cases h
   refine key λV w hv=>?_;obtain⟨hv,_⟩:=hv
   cases hv with
   |func _ fs' cs' _ _ hf _ hr _=>
    have h0:=hr 0 zp;have hs:0<fs'.size:=by rw[hf];simp
    generalize hz:fs'[0]=z at h0
    cases h0 with
    |iface _ u _ _=>exact⟨n,fs',cs',t,u,rfl,by rw[ae0 hs,hz],hm⟩
  ·cases h
 ·rename_i n t v fs cs
  split at h
  ·rename_i hm
   cases h
   refine key λV w hv=>?_;obtain⟨fs',cs',rfl,hf,_,hr,_⟩:=hv;have hs:0<fs'.size:=by rw[hf];simp
   obtain⟨u,hu,_⟩:=hr 0 zp hs;exact⟨n,fs',cs',t,u,rfl,by rw[ae0 hs,hu],hm⟩
  ·cases h
 ·rename_i n t v fs cs
  split at h
  ·rename_i hm
   cases h
   refine key λV w hv=>?_;obtain⟨fs',cs',rfl,hf,_,hr,_⟩:=hv;have hs:0<fs'.size:=by rw[hf];simp
   have h0:Rd V.mem fs'[0] (.iface t v):=hr 0 zp hs;generalize hz:fs'[0]=z at h0
   cases h0 with
   |iface _ u _ _=>exact⟨n,fs',cs',t,u,rfl,by rw[ae0 hs,hz],hm⟩
  ·cases h
 ·cases h
def ij(P:Program)(op:Op)(vals:List AV)(lv:Key->LB)(κ:Key):Option nP:=
 match op,vals with
 |.binOp op T _ _ _,[x,y]=>OE P op T lv x y
 |.makeInterface T _,[x]=>if P.concrete T then(match lZ x with|some r=>some (.c (.ifc T r),[],[])|none=>none)else none
 |.slice T _ lo hi none,x::rest=>match FX lo hi rest with|some (l,h)=>pT P T lv x l h|none=>none
 |.slice T _ none (some _) (some _),[x,h,m]=>uI P T lv x h m
 |.call cl,vals=>FO P cl vals lv κ
 |.nilCheck _,[x]=>FY P x
 |_,_=>none
section
variable {c:Ctx}{s:aJ}{o:Oper}
theorem Lm(hd:∀d,o.dst=some d->d<c.n)(ho:o.op=op)(hv:op.operands.toList.map (s.val c.G)=vals)
 (h:ij c.P op vals s.lv κ=some r):di c o s (aJ.put ⟨s.fr,b8 s.lv r.2.1⟩ o.dst r.1):=by
 unfold ij at h;split at h
 ·
  rename_i bop T x y T' a b
  simp only[Op.operands,adi,ael,aep,and_true]at hv;obtain⟨rfl,rfl⟩:=hv;unfold OE at h;split at h
  ·rename_i bb hn
   split at h
   ·rename_i hc
    simp only[adS]at hc;split at h
    ·simp only[aj]at h;subst h;exact Ca hd ho (.inl rfl) hn hc.1 hc.2
    ·simp only[aj]at h;subst h;exact Ca hd ho (.inr rfl) hn hc.1 hc.2
    ·cases h
   ·cases h
  ·cases h
 ·rename_i T x a
  simp only[Op.operands,adi,ael,aep,and_true]at hv;subst hv;split at h
  ·rename_i hT
   split at h
   ·rename_i v hvv
    simp only[aj]at h;subst h;exact BI hd ho hvv hT
   ·cases h
  ·cases h
 ·rename_i T x lo hi a rest
  have hop:(Op.slice T x lo hi none).operands.toList=x::(lo.toArray++hi.toArray).toList:=by
   simp[Op.operands]
  rw[hop]at hv;simp only[adi,aep]at hv;obtain⟨rfl,rfl⟩:=hv;split at h
  ·rename_i l hh hb
   obtain⟨rfl,rfl⟩:=Ke hb;unfold pT at h;split at h
   ·rename_i k off hx
    split at h
    ·rename_i own fz T0 cs n e sz hk hT
     split at h
     ·rename_i l h' hl hh
      split at h
      ·rename_i hc
       simp only[aj]at h;subst h;exact Ew hd ho hx hk hT hc.1 hl hh hc.2.1 hc.2.2.1 hc.2.2.2.1 hc.2.2.2.2
      grind
     grind
    grind
   ·rename_i cs hx
    split at h
    ·rename_i n e sz hT
     split at h
     ·rename_i l h' hl hh
      split at h
      ·rename_i hc
       simp only[aj]at h;subst h;exact DA hd ho hx hT hc.1 hl hh hc.2.1 hc.2.2.1 hc.2.2.2.1 hc.2.2.2.2
      grind
     grind
    grind
   ·rename_i k off len sz hx
    split at h
    ·rename_i own fz T0 cs e sz' hk hT
     split at h
     ·rename_i hsz
      subst hsz;split at h
      ·rename_i l h' hl hh
       split at h
       ·rename_i hc
        simp only[aj]at h;subst h;exact DQ hd ho hx hk hT hl hh hc.1 hc.2.1 hc.2.2
       grind
      grind
     grind
    grind
   grind
  grind
 ·rename_i T x hh mm a b cc
  have hop:(Op.slice T x none (some hh) (some mm)).operands.toList=[x,hh,mm]:=by
   simp[Op.operands]
  rw[hop]at hv;simp only[adi,ael,aep,and_true]at hv;obtain⟨rfl,rfl,rfl⟩:=hv;unfold uI at h;split at h
  ·rename_i k off n sz k1 a1 k2 b1 hx hy hz
   split at h
   ·rename_i e sz' hk hT
    split at h
    ·rename_i hc
     obtain⟨rfl,rfl,c3,c4⟩:=hc;simp only[aj]at h;subst h;exact GS hd ho hx hk hT hy hz c3 c4
    ·cases h
   ·cases h
  ·cases h
 ·rename_i cl vals
  unfold FO at h;split at h
  ·rename_i y0 x0 T T' y x h1 h2 h3
   have e:=r8 h1 h2 h3;subst e;simp only[Op.operands,Call.operands]at hv;simp at hv;obtain⟨rfl,rfl⟩:=hv;unfold MC at h;split at h
   ·rename_i k off n sz hy
    unfold FC at h;split at h
    ·rename_i e sz' hκ hT
     split at h
     ·rename_i i hi
      split at h
      ·rename_i z hz
       split at h
       ·rename_i cs m xs hk hx
        split at h
        ·rename_i hc
         obtain⟨rfl,rfl,c3,c4,c5,c6,c7⟩:=hc;simp only[aj]at h;subst h;exact CO hd ho hκ hT hi hz hy hk c5 hx c4 c3 c6 c7
        ·cases h
       ·cases h
      ·cases h
     ·cases h
    ·cases h
   unfold ju at h;split at h
   ·rename_i l hx hκ
    split at h
    ·rename_i hT'
     split at h
     ·rename_i e hT
      split at h
      ·rename_i i hi
       split at h
       ·rename_i z hz
        split at h
        ·rename_i hzs
         split at h
         ·rename_i hy
          split at h
          ·rename_i hc
           simp only[aj]at h;subst h;exact ny hd ho hκ (.inl hy) hT hT' hi hz hx hzs hc.1 hc.2
          grind
         ·rename_i k off n sz hy
          split at h
          ·rename_i hk
           split at h
           ·rename_i hc
            obtain⟨rfl,rfl,rfl,c1,c2⟩:=hc;simp only[aj]at h;subst h;exact ny hd ho hκ (.inr ⟨k,hy,hk⟩) hT hT' hi hz hx hzs c1 c2
           grind
          ·rename_i own e' cs hk
           split at h
           ·rename_i hc
            obtain⟨rfl,rfl,rfl,c1,c2,c3⟩:=hc;simp only[aj]at h;subst h;exact tZ hd ho hκ hT hT' hi hz hy hk c1 hx hzs c2 c3
           grind
          grind
         grind
        grind
       grind
      grind
     grind
    grind
   grind
  ·rename_i x0 T x h1 h2 h3
   have e:=r8 h1 h2 h3;subst e;simp only[Op.operands,Call.operands]at hv;simp at hv;subst hv;unfold A7 at h;split at h
   ·rename_i hx
    simp only[aj]at h;subst h;exact nQ hd ho (.inl hx)
   ·rename_i k off len sz hx
    split at h
    ·rename_i hk
     split at h
     ·rename_i hl
      simp only[aj]at h;subst h;exact Bw hd ho hx hk hl
     grind
    ·rename_i hk
     split at h
     ·rename_i hc
      obtain⟨rfl,rfl,rfl⟩:=hc;simp only[aj]at h;subst h;exact nQ hd ho (.inr ⟨k,hx,hk⟩)
     grind
    grind
   grind
  ·rename_i x0 y0 pt it x y h1 h2 h3
   have e:=r8 h1 h2 h3;subst e;simp only[Op.operands,Call.operands]at hv;simp at hv;obtain⟨rfl,rfl⟩:=hv;unfold pM at h;split at h
   ·rename_i n hy
    split at h
    ·rename_i hx
     split at h
     ·rename_i hn
      subst hn;simp only[aj]at h;subst h;exact qk hd ho hx hy
     grind
    ·rename_i k hx
     split at h
     ·rename_i own e cs e' hk hp
      split at h
      ·rename_i hc
       obtain⟨rfl,c1,c2,c3⟩:=hc;split at h
       ·rename_i l hl
        split at h
        ·rename_i hll
         simp only[aj]at h;subst h;have hn:n=(l.length:Int):=zd
         refine xu hd ho hx hk (by rw[hy,hn]) hp c1 (by rw[hll];exact Az hl) (λe=>?_) zd
         grind
        grind
       grind
      grind
     grind
    grind
   grind
  ·cases h
 ·rename_i x a
  simp only[Op.operands,adi,ael,aep,and_true]at hv;exact P1 hd ho hv h
 ·cases h
end
section
variable {P:Program}{T T':TypeId}{lv lv':Key->LB}{κ:Key}{r:nP}
theorem Bc{x:AV}{b:Bool}(h:vS lv x=some b)(hk:∀k∈Ui x,lv' k=lv k):vS lv' x=some b:=by
 unfold vS at h ⊢
 split at h<;>first
  |(rename_i k _;rw[hk k (List.mem_singleton.2 rfl)];exact h)
  |(rename_i k;rw[hk k (List.mem_singleton.2 rfl)];exact h)
  |(rename_i k _ _ _;rw[hk k (List.mem_singleton.2 rfl)];exact h)
  |exact h
  |cases h
theorem Ie{op:BinOp}{x:AV}(h:OE P op T lv x y=some r)(ha:Agree lv lv' r.2.1 r.2.2):OE P op T lv' x y=some r:=by
 unfold OE at h⊢;split at h
 ·rename_i b hn
  split at h
  ·rename_i hc
   split at h
   ·simp only[aj]at h;subst h;rw[Bc hn (λk hk=>ha.1 k hk)];grind
   ·simp only[aj]at h;subst h;rw[Bc hn (λk hk=>ha.1 k hk)];grind
   grind
  grind
 grind
theorem DG{x:AV}{lo hi:Option AV}(h:pT P T lv x lo hi=some r)(ha:Agree lv lv' r.2.1 r.2.2):pT P T lv' x lo hi=some r:=by
 unfold pT at h⊢;split at h
 ·rename_i k off
  have hr:r.2.2=[k]:=by
   split at h
   ·split at h
    ·split at h
     ·simp only[aj]at h;subst h;rfl
     ·cases h
    ·cases h
   ·cases h
  rw[ha.1 k yn];exact h
 ·exact h
 ·rename_i k off len sz
  have hr:r.2.2=[k]:=by
   split at h
   ·split at h
    ·split at h
     ·split at h
      ·simp only[aj]at h;subst h;rfl
      ·cases h
     ·cases h
    ·cases h
   ·cases h
  rw[ha.1 k yn];exact h
 omega
theorem qZ{x:AV}(h:ju P T T' lv κ y x=some r)(ha:Agree lv lv' r.2.1 r.2.2):ju P T T' lv' κ y x=some r:=by
 unfold ju at h⊢;split at h
 ·rename_i l hκ
  split at h
  ·rename_i hT'
   split at h
   ·rename_i e hT
    split at h
    ·rename_i i hi
     split at h
     ·rename_i z hz
      split at h
      ·rename_i hzs
       split at h
       ·split at h
        ·rename_i hc
         simp only[aj]at h;subst h;have h1:=ha.2 _ (List.mem_singleton.2 rfl)
         grind
        grind
       ·rename_i k off n sz
        split at h
        ·rename_i hk
         split at h
         ·rename_i hc
          simp only[aj]at h;subst h;have h1:=ha.2 _ (List.mem_singleton.2 rfl);have h2:=ha.1 k (List.mem_singleton.2 rfl)
          grind
         grind
        ·rename_i own e' cs hk
         split at h
         ·rename_i hc
          simp only[aj]at h;subst h;have h1:=ha.2 (κ,_) (afd _ (List.mem_singleton.2 rfl));have h2:=ha.2 (k,_) (afm ..)
          grind
         grind
        grind
       grind
      grind
     grind
    grind
   grind
  grind
 grind
theorem Gr{x:AV}(h:FC P T T' lv κ k off n sz x=some r)(ha:Agree lv lv' r.2.1 r.2.2):FC P T T' lv' κ k off n sz x=some r:=by
 unfold FC at h⊢;split at h
 ·rename_i e sz' hκ hT
  split at h
  ·rename_i i hi
   split at h
   ·rename_i z hz
    split at h
    ·rename_i cs m xs hk hx
     split at h
     ·rename_i hc
      simp only[aj]at h;subst h;have h1:=ha.2 _ (List.mem_singleton.2 rfl);have h2:=ha.1 k (afm ..);have h3:=m9 hx (λk hk=>ha.1 k (afd _ hk))
      grind
     grind
    grind
   grind
  grind
 grind
theorem Jc{x:AV}(h:MC P T T' lv κ y x=some r)(ha:Agree lv lv' r.2.1 r.2.2):MC P T T' lv' κ y x=some r:=by
 cases y with
 |c y=>cases y<;>simp only[MC]at h⊢<;>first|exact Gr h ha|exact qZ h ha
 |_=>simp only[MC]at h⊢;exact qZ h ha
theorem BA{x z:AV}(h:uI P T lv x y z=some r)(ha:Agree lv lv' r.2.1 r.2.2):uI P T lv' x y z=some r:=by
 unfold uI at h⊢;split at h
 ·rename_i k off n sz k1 a k2 b
  have hr:r.2.2=[k]:=by
   split at h
   ·split at h
    ·simp only[aj]at h;subst h;rfl
    ·cases h
   ·cases h
  rw[ha.1 k yn];exact h
 cases h
theorem G7{x:AV}(h:A7 lv x=some r)(ha:Agree lv lv' r.2.1 r.2.2):A7 lv' x=some r:=by
 unfold A7 at h⊢;split at h
 ·exact h
 ·rename_i k off len sz
  have hr:r.2.2=[k]:=by
   split at h
   ·split at h
    ·simp only[aj]at h;subst h;rfl
    ·cases h
   ·split at h
    ·simp only[aj]at h;subst h;rfl
    ·cases h
   ·cases h
  rw[ha.1 k yn];exact h
 omega
theorem BP{x:AV}(h:pM P T lv x y=some r)(ha:Agree lv lv' r.2.1 r.2.2):pM P T lv' x y=some r:=by
 unfold pM at h⊢;split at h
 ·rename_i n
  split at h
  ·exact h
  ·rename_i k
   have hr:r.2.1=[(k,.dead)]:=by
    split at h
    ·split at h
     ·split at h
      ·split at h
       ·simp only[aj]at h;subst h;rfl
       ·cases h
      ·cases h
     ·cases h
    ·cases h
   have:=ha.2 (k,.dead) yn
   grind
  omega
 omega
theorem E5{cl:Call}(h:FO P cl vals lv κ=some r)(ha:Agree lv lv' r.2.1 r.2.2):FO P cl vals lv' κ=some r:=by
 unfold FO at h⊢;split at h
 ·exact Jc h ha
 ·exact G7 h ha
 ·exact BP h ha
 omega
theorem EY(h:ij P op vals lv κ=some r)(ha:Agree lv lv' r.2.1 r.2.2):ij P op vals lv' κ=some r:=by
 unfold ij at h⊢;split at h
 ·exact Ie h ha
 ·exact h
 ·split at h
  ·rename_i l hh hb
   exact DG h ha
  omega
 ·exact BA h ha
 ·exact E5 h ha
 ·exact h
 omega
end
end Go.Am
namespace Go.Am
section
variable {p:Key->Bool}{i g:Key->Key}(hp:∀k,p k=true->g (i k)=k)
include hp
end
end Go.Am
namespace Go.Am
end Go.Am
