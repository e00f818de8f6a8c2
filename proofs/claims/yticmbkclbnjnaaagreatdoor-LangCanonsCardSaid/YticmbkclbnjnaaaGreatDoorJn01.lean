/- Helpers. -/
import Derived.Test.YticmbkclbnjnaaaGreatDoorJn00
import Derived.OrdersIn
import Derived.LoopNIn
import Derived.RangeFuncCalls
import Derived.Lib.AppendStr
import Derived.Lib.UnsafeStr
import Derived.Lib.ConvBytes
import Derived.WideKeyRuns

set_option linter.all false
set_option maxHeartbeats 8000000
set_option maxRecDepth 100000
noncomputable section
namespace Go.Am
variable {o:Oper}{f:FuncId}{x y fv:AV}{P:Program}{w:World}{Q:Exit->Act->World->Prop}{s s0 s':az}{ops:Array Oper}{id n i κ:Nat}{lv lv':Key->LB}{b:Bool}{G:List (List DV)}{us:List (Key×LB)}{cl:Call}{fo:Operand}{fs cs args:List AV}{fn:Func}{rds:List Key}{r:Option Nat}{a:Act}{F:Nat->Prop}{β:Key->Nat}{V:Vw}{v u:Value}{code:Code}{T:TypeId}{K:Act->World->Prop}{k:Key}
abbrev afC:=@List.flatMap_cons
abbrev aec:=@List.mem_flatMap
abbrev aem:=@List.mem_append
abbrev adI:=@List.map_congr_left
abbrev aeC:=@List.mem_range
abbrev aeQ:=@Option.getD_some
abbrev ad2:=@Bool.or_eq_true
abbrev ae6:=@Oper.apart_spec
abbrev afD:=@Nat.lt_trichotomy
abbrev adN:=@List.length_cons
abbrev afE:=@List.getElem?_append_right
abbrev ae7:=@List.getElem?_cons_zero
abbrev afm:=@List.range'_succ
abbrev aeR:=@Array.getElem?_replicate
abbrev aed:=@List.all_cons
abbrev afT:=@Array.getElem?_append_left
abbrev afU:=@Array.getElem?_append_right
abbrev ad3:=@Nat.mul_one
abbrev aeD:=@Nat.le_of_eq
abbrev adE:=@Nat.le_of_ble_eq_true
abbrev aen:=@Nat.eq_of_beq_eq_true
abbrev aeS:=@List.map_id
theorem me{f g:CV->Option (DV×List Key)}:∀{cs:List CV},(∀x∈cs,f x=g x)->fO f cs=fO g cs
 |[],_=>rfl
 |x::r,h=>by simp only[fO,h x (by simp),me (cs:=r) (λy hy=>h y (by simp[hy]))]
theorem jy{α β:Type}{f g:α->List β}:∀{l:List α},(∀x∈l,f x=g x)->l.flatMap f=l.flatMap g
 |[],_=>rfl
 |x::r,h=>by simp only[afC,h x (by simp),jy (l:=r) (λy hy=>h y (by simp[hy]))]
theorem oN{lv lv':Key->LB}:∀(n:Nat) (x:CV),(∀k∈kM lv n x,lv' k=lv k)->cP lv' n x=cP lv n x/\kM lv' n x=kM lv n x
 |n+1,.ptr k off,h=>by
  have h1:lv' k=lv k:=h k (by simp[kM]);simp only[cP,kM,h1]
  cases e:lv k with
  |cells own fz T cs=>
   have ih:∀x∈cs,cP lv' n x=cP lv n x/\kM lv' n x=kM lv n x:=λx hx=>oN n x λk' hk'=>h k' (by
    simp only[kM,e,fy,aec];grind)
   simp only;refine⟨?_,?_⟩
   ·rw[me (λx hx=>(ih x (aeK hx)).1)]
   ·congr 1;exact jy λx hx=>(ih x hx).2
  |_=>simp
 |n+1,.aE k off len sz,h=>by
  have h1:lv' k=lv k:=h k (by simp[kM]);simp only[cP,kM,h1]
  cases e:lv k with
  |cells own fz T cs=>
   have ih:∀x∈cs,cP lv' n x=cP lv n x/\kM lv' n x=kM lv n x:=λx hx=>oN n x λk' hk'=>h k' (by
    simp only[kM,e,fy,aec];grind)
   simp only;refine⟨?_,?_⟩
   ·rw[me (λx hx=>(ih x (aeK (aey hx))).1)]
   ·congr 1;exact jy λx hx=>(ih x hx).2
  |_=>simp
 |n,.d x,_=>by cases n<;>exact⟨rfl,rfl⟩
 |0,.ptr ..,_=>⟨rfl,rfl⟩
 |0,.aE ..,_=>⟨rfl,rfl⟩
 |n,.mapr _,_=>by cases n<;>exact⟨rfl,rfl⟩
 |n,.func ..,_=>by cases n<;>exact⟨rfl,rfl⟩
 |n,.ifc ..,_=>by cases n<;>exact⟨rfl,rfl⟩
 |n,.junk,_=>by cases n<;>exact⟨rfl,rfl⟩
theorem qM{f:CV->Option (DV×List Key)}{g:CV->List Key}:∀{cs:List CV}{l:List DV}{ks:List Key},(∀x∈cs,∀d ks,f x=some (d,ks)->∀k∈ks,k∈g x)->fO f cs=some (l,ks)->∀k∈ks,k∈cs.flatMap g
 |[],l,ks,_,h=>by simp only[fO,ah,rP]at h;grind
 |x::r,l,ks,hf,h=>by
  simp only[fO]at h;split at h
  ·rename_i d k l' ks' h1 h2
   simp only[ah,rP]at h;obtain⟨rfl,rfl⟩:=h;intro y hy;simp only[afC,aem];rcases List.mem_append.1 hy with h|h
   ·grind
   ·exact .inr (qM (λx hx=>hf x (by simp[hx])) h2 y h)
  grind
theorem uh{lv:Key->LB}:∀(n:Nat) (x:CV) (d:DV) (ks:List Key),cP lv n x=some (d,ks)->∀k∈ks,k∈kM lv n x
 |n,.d x,d,ks,h=>by simp only[cP,ah,rP]at h;grind
 |n+1,.ptr k off,d,ks,h=>by
  simp only[cP]at h;simp only[kM];split at h
  ·rename_i own fz T cs e
   split at h
   ·rw[ado]at h;obtain⟨⟨l,ks'⟩,ht,he⟩:=h;simp only[rP]at he;obtain⟨rfl,rfl⟩:=he;intro y hy;rcases List.mem_cons.1 hy with rfl|hy
    ·simp
    ·have:=qM (g:=kM lv n) (λx _ d ks hx=>uh n x d ks hx) ht y hy
     grind
   grind
  grind
 |n+1,.aE k off len sz,d,ks,h=>by
  simp only[cP]at h;simp only[kM];split at h
  ·rename_i own fz T cs e
   split at h
   ·rw[ado]at h;obtain⟨⟨l,ks'⟩,ht,he⟩:=h;simp only[rP]at he;obtain⟨rfl,rfl⟩:=he;intro y hy;rcases List.mem_cons.1 hy with rfl|hy
    ·simp
    ·have:=qM (g:=kM lv n) (λx _ d ks hx=>uh n x d ks hx) ht y hy
     grind
   grind
  ·grind
  grind
 |0,.ptr ..,_,_,h=>by cases h
 |0,.aE ..,_,_,h=>by cases h
 |n,.mapr _,_,_,h=>by cases n<;>cases h
 |n,.func ..,_,_,h=>by cases n<;>cases h
 |n,.ifc ..,_,_,h=>by cases n<;>cases h
 |n,.junk,_,_,h=>by cases n<;>cases h
theorem nV(h:∀k∈pz lv x,lv' k=lv k):fu lv' x=fu lv x/\pz lv' x=pz lv x:=by
 cases x with
 |c x=>obtain⟨h1,h2⟩:=oN 8 x h;exact⟨by simp only[fu,h1],h2⟩
 |agg cs=>
  have ih:∀x∈cs,cP lv' 8 x=cP lv 8 x/\kM lv' 8 x=kM lv 8 x:=λx hx=>oN 8 x λk hk=>h k (List.mem_flatMap.2 ⟨x,hx,hk⟩)
  exact⟨by simp only[fu,me (λx hx=>(ih x hx).1)],jy λx hx=>(ih x hx).2⟩
 |tup l=>exact⟨rfl,rfl⟩
 |undef=>exact⟨rfl,rfl⟩
 |junk=>exact⟨rfl,rfl⟩
theorem NW{ks:List Key}(h:fu lv x=some (y,ks)):∀k∈ks,k∈pz lv x:=by
 cases x with
 |c x=>
  simp only[fu,ado]at h;obtain⟨⟨d,ks'⟩,ht,he⟩:=h;simp only[rP]at he;obtain⟨rfl,rfl⟩:=he;exact uh _ _ _ _ ht
 |agg cs=>
  simp only[fu,ado]at h;obtain⟨⟨d,ks'⟩,ht,he⟩:=h;simp only[rP]at he;obtain⟨rfl,rfl⟩:=he;exact qM (λx _ d ks hx=>uh 8 x d ks hx) ht
 |tup l=>cases h
 |undef=>cases h
 |junk=>cases h
theorem xp{lv lv':Key->LB}:∀{xs:List AV},(∀a∈xs,∀k∈pz lv a,lv' k=lv k)->jj lv' xs=jj lv xs
 |[],_=>rfl
 |x::r,h=>by simp only[jj,(nV (h x (by simp))).1,xp (xs:=r) (λa ha=>h a (by simp[ha]))]
theorem cw.local{c:Ctx}{xs:List AV}(h:cw c f xs lv x us rds)(ha:Agree lv lv' us rds):cw c f xs lv' x us rds:=by
 obtain⟨ha1,ha2⟩:=ha
 cases h with
 |flat us' ks rds x hd hc hx hr=>
  have hl:∀a∈xs,∀k∈pz lv a,lv' k=lv k:=λa h k hk=>ha1 k (hr a h k hk)
  exact .flat us' ks rds x (by rw[xp hl];exact hd) hc hx (λa h k hk=>hr a h k (by rw[(nV (hl a h)).2]at hk;exact hk))
 |gen us Z sel nk kh σ σ' ν x own rds hZ hZn hn hZs hkh hkZ hl1 hl2 hl3 hb hsel hnk hh hpass hnh hown hlen hargs hrd hrh hc=>
  have hkeysZ:∀z∈Z,lv' z.1=lv z.1:=λz hz=>ha2 (z.1,.cells true true z.2.1 z.2.2) (by
   refine afB _ (afB _ ?_);simp only[fU,adX];grind)
  have hks:∀i (h:i<sel.length),lv' sel[i]=lv sel[i]:=λi h=>by
   have hm:sel[i]∈(cq (aG sel nk kh) own sel σ').map (·.1):=by rw[lF _ _ _ _ (by omega)];exact aZ h
   obtain⟨p,hp,e⟩:=List.mem_map.1 hm
   grind
  have hkn:∀k∈nk,lv' k=lv k:=λk hk=>by
   have hm:k∈(cq (aG sel nk kh) own nk ν).map (·.1):=by rw[lF _ _ _ _ (by omega)];exact hk
   obtain⟨p,hp,e⟩:=List.mem_map.1 hm
   grind
  have hfr:∀k,(k∈rds\/k∈Z.map (·.1))->bk lv' (fU Z) k=bk lv (fU Z) k:=by
   intro k hk
   by_cases hz:k∈(fU Z).map (·.1)
   ·obtain⟨p,hp,e⟩:=List.mem_map.1 hz;have hn':((fU Z).map (·.1)).Nodup:=by rw[nE];exact hZn
    obtain⟨k',b⟩:=p;simp only at e;subst e;rw[lB hn' hp,lB hn' hp]
   ·rw[cT hz,cT hz]
    grind
  have hla:∀a∈xs,∀k∈pz (bk lv (fU Z)) a,bk lv' (fU Z) k=bk lv (fU Z) k:=λa h k hk=>hfr k (hrd a h k hk)
  refine .gen us Z sel nk kh σ σ' ν x own rds (λz hz=>by grind) hZn hn hZs hkh hkZ hl1 hl2 hl3 hb (λi p q=>by grind)
   (λk hk=>by grind) (by grind) hpass hnh (λho k hk=>?_) hlen (λi p q=>?_) (λa h k hk=>?_) hrh hc
  ·obtain⟨i,hi,rfl⟩:=List.mem_iff_getElem.1 hk
   grind
  ·rcases hargs i p q with⟨g1,g2⟩|⟨ks,g1,g2⟩
   ·exact .inl ⟨g1,g2⟩
   ·refine .inr ⟨ks,by rw[(nV (hla _ (aZ p))).1];exact g1,λk hk=>?_⟩;rw[hla _ (aZ p) k (NW g1 k hk)]
    grind
  ·rw[(nV (hla a h)).2]at hk
   grind
def rM(r:Option Nat):Fence:={ Fence.wide with round:=r }
theorem Ft{args:Array Value}{R:Ending->World->Prop}(h:Calls P f args w R):CallsIn (rM r) n P f args w R:=
 (callsIn_wide (n:=n)).2 h
theorem HD{row:String}{args:Array Value}{R:Value->World->Prop}(h:Rows P row args w R):RowsIn (rM r) n P row args w R:=
 λc cs _=>let ⟨v,w',hr,hs⟩:=h c cs;⟨v,w',hr,stepsIn_wide.2 hs⟩
theorem uF(hd:∀c,o.op≠.defer c)(h:o.wp P a w K Q):
 o.wpIn (rM r) n P a w K Q:=by
 refine⟨λ_ _=>trivial,?_⟩;rw[Oper.semAt_eq _ _ _ hd];unfold Oper.wp at h;generalize (execOp a.eval o).run P w=res at*
 have hdep:∀m:Nat,(rM r).depth.isSome=true->1<=m:=λm h=>by simp[rM,Fence.wide]at h
 cases res with
 |ok x w'=>
  cases x<;>simp only[Oper.upon]at h<;>simp only[Oper.uponIn]<;>first|exact h|exact⟨hdep _,Ft h⟩|exact⟨hdep _,HD h⟩|exact h.elim
 |halt x w'=>cases x<;>simp only[Oper.upon]at h<;>simp only[Oper.uponIn]<;>first|exact h|exact h.elim
def eK(ops:Array Oper)(g:Option (Nat×Bool))(fr:Nat->AV):Option Bool:=
 match g with
 |none=>some true
 |some (j,want)=>match (ops[j]?).bind (·.dst)with
  |some d=>match fr d with
   |.c (.d (.bool b))=>some (b==want)
   |.undef=>some false
   |_=>none
  |none=>none
section
variable {c:Ctx}{F:Nat->Prop}{β:Key->Nat}{s:az}{a:Act}{w:World}{ops:Array Oper}
theorem hJ(h:aA c F β s a w)(hw:eK ops o.guard s.fr=some b):Region.wanted o (yielded ops a.tmps)=b:=by
 unfold eK at hw;unfold Region.wanted;split at hw
 ·grind
 ·rename_i j want hg
  rw[hg];simp only;split at hw
  ·rename_i d hd
   have hv:=h.fr d;unfold yielded;rw[hd];simp only[Option.bind_some];split at hw
   ·rename_i b' hb
    rw[hb]at hv;have hv':=Vw.sG hv;simp only[ah]at hw;subst hw
    have hq:a.tmps[d]?=some (.bool b'):=by
     cases e:a.tmps[d]? with
     |none=>rw[adZ,e]at hv';cases hv'
     |some v=>simp_all
    grind
   ·rename_i hb
    rw[hb]at hv;simp only[ah]at hw;subst hw;have hv':a.tmps.getD d undef=undef:=hv
    cases e:a.tmps[d]? with
    |none=>rfl
    |some v=>
     rw[adZ,e]at hv';simp at hv';subst hv';rfl
   grind
  grind
end
structure Fx where
 x:AV
 us:List (Key×LB)
 rds:List Key
variable {e e':Fx}{es:List Fx}
def Fx.app(e:Fx)(dst:Option Nat)(s:az):az:=az.put ⟨s.fr,bk s.lv e.us⟩ dst e.x
def cQ(c:Ctx)(r:Option Nat)(ops:Array Oper)(o:Oper)(s0:az)(e:Fx):Prop:=
 ∀s:az,(∀t∈o.looksAt ops,s.fr t=s0.fr t)->Agree s0.lv s.lv e.us e.rds ->
  ∀F β a w K Q,aA c F β s a w->(∀F' β' a' w',aA c F' β' (e.app o.dst s) a' w'->K a' w') ->
   if Region.wanted o (yielded ops a.tmps)then o.wpIn (rM r) 0 c.P a w K Q else K (a.put o.dst undef) w
theorem val_congr{x:Operand}(h:∀t,x=.tmp t->s.fr t=s0.fr t):s.val G x=s0.val G x:=by
 cases x with
 |tmp t=>exact h t rfl
 |_=>rfl
theorem Ar(h:∀t∈o.looksAt ops,s.fr t=s0.fr t):∀x∈o.op.operands.toList,s.val G x=s0.val G x:=by
 intro x hx;refine val_congr λt ht=>h t ?_;subst ht;exact afB _ (List.mem_filterMap.2 ⟨.tmp t,hx,rfl⟩)
theorem ou(h:∀t∈o.looksAt ops,s.fr t=s0.fr t):eK ops o.guard s.fr=eK ops o.guard s0.fr:=by
 unfold eK
 cases hg:o.guard with
 |none=>rfl
 |some p=>
  obtain⟨j,want⟩:=p;simp only
  cases hd:(ops[j]?).bind (·.dst)with
  |none=>rfl
  |some d=>
   simp only;rw[h d (List.mem_append_right _ (by rw[hg];simp[hd]))]
section
variable {c:Ctx}{r:Option Nat}{ops:Array Oper}{o:Oper}{s0:az}
theorem cQ.skip(hd:∀d,o.dst=some d->d<c.n)(hw:eK ops o.guard s0.fr=some false):cQ c r ops o s0 ⟨.undef,[],[]⟩:=by
 intro s h1 _ F β a w K Q h hK;rw[hJ h ((ou h1).trans hw)];simp only[adC,if_false];exact hK F β _ _ (h.D6 hd (oM _))
theorem cQ.qo(hw:eK ops o.guard s0.fr=some true)(hdf:∀cl,o.op≠.defer cl)
 (hs:∀s:az,(∀x∈o.op.operands.toList,s.val c.G x=s0.val c.G x)->Agree s0.lv s.lv e.us e.rds->cx c o s (e.app o.dst s)):cQ c r ops o s0 e:=by
 intro s h1 h2 F β a w K Q h hK;rw[hJ h ((ou h1).trans hw)];simp only[if_true];exact uF hdf (hs s (Ar h1) h2 F β a w K Q h hK)
theorem cQ.plain{κ:Key}{vc:Prop}(hd:∀d,o.dst=some d->d<c.n)(hw:eK ops o.guard s0.fr=some true)
 (h:cX c.P o.op (o.op.operands.toList.map (s0.val c.G)) s0.lv κ=some (x,us,rds,vc)) (hvc:vc):cQ c r ops o s0 ⟨x,us,rds⟩:=by
 refine cQ.qo hw (λcl hcl=>?_) (λs h1 h2=>?_)
 ·rw[hcl]at h;simp[cX]at h
 ·have hl:=pO h (show Agree s0.lv s.lv us rds from h2);exact B8 hd rfl (adI h1) hl hvc
end
theorem tF:∀{f g:Key->LB}{k:Key},k∈us.map (·.1)->bk f us k=bk g us k:=by
 induction us with
 |nil=>simp
 |cons p us ih=>
  intro f g k h;rw[rm,rm]
  by_cases hk:k∈us.map (·.1)
  ·exact ih hk
  ·rw[cT hk,cT hk];simp only[ac4,fy]at h;rcases h with h|h
   ·rw[h,aC,aC]
   grind
theorem qa(e:Fx)(dst:Option Nat)(s:az)(t:Nat):(e.app dst s).fr t=if dst=some t then e.x else s.fr t:=by
 cases dst with
 |none=>rfl
 |some d=>
  simp only[Fx.app,az.put,ah]
  by_cases h:d=t
  ·subst h;rfl
  ·rw[aF _ _ (λe=>h e.symm)];simp[h]
theorem oc(e:Fx)(dst:Option Nat)(s:az):(e.app dst s).lv=bk s.lv e.us:=by
 cases dst<;>rfl
def bw(ops:Array Oper)(es:List Fx)(s0:az)(L:Nat->Bool):Nat->az
 |0=>s0
 |m+1=>match ops[m]?,es[m]? with
  |some o,some e=>if L m then e.app o.dst (bw ops es s0 L m)else bw ops es s0 L m
  |_,_=>bw ops es s0 L m
inductive wT(ops:Array Oper):Nat->Nat->Prop where
 |one {i j:Nat}{o:Oper}{ed:Edge}(ho:ops[j]?=some o) (he:ed∈o.after) (hb:Region.binds .any ed=true) (hi:ed.on=i):wT ops i j
 |more {i j:Nat}{o:Oper}{ed:Edge}(ho:ops[j]?=some o) (he:ed∈o.after) (hb:Region.binds .any ed=true) (hi:wT ops i ed.on):wT ops i j
section
variable {ops:Array Oper}{es:List Fx}{s0:az}{L:Nat->Bool}
theorem fY{L L':Nat->Bool}:∀{m:Nat},(∀j,j<m->L j=L' j)->bw ops es s0 L m=bw ops es s0 L' m
 |0,_=>rfl
 |m+1,h=>by
  have ih:=fY (m:=m) (λj hj=>h j (by omega));simp only[bw,ih,h m (by omega)]
theorem DB{i t:Nat}(h:∀j o,ops[j]?=some o->o.dst=some t->(j<i↔L j=true)):∀m,(bw ops es s0 L m).fr t=(bw ops es s0 (λ_=>true) (min m i)).fr t
 |0=>by simp[bw]
 |m+1=>by
  have ih:=DB h m
  by_cases hm:m<i
  ·have e1:min (m+1) i=min m i+1:=by omega
   have e2:min m i=m:=by omega
   rw[e1,e2];rw[e2]at ih;simp only[bw]
   cases ho:ops[m]? with
   |none=>exact ih
   |some o=>
    cases he:es[m]? with
    |none=>exact ih
    |some e=>
     simp only[if_true]
     by_cases hd:o.dst=some t
     ·rw[(h m o ho hd).1 hm];simp only[if_true,qa,hd]
     ·by_cases hL:L m=true
      ·simp only[hL,if_true,qa,hd,if_false];exact ih
      ·simp only[hL,qa,hd,if_false];exact ih
  ·have e1:min (m+1) i=min m i:=by omega
   rw[e1,<-ih];simp only[bw]
   cases ho:ops[m]? with
   |none=>rfl
   |some o=>
    cases he:es[m]? with
    |none=>rfl
    |some e=>
     simp only
     by_cases hL:L m=true
     ·have hd:o.dst≠some t:=λhd=>hm ((h m o ho hd).2 hL)
      simp only[hL,if_true,qa,hd,if_false]
     grind
theorem Km{i:Nat}{k:Key}(h:∀(j:Nat) e,es[j]?=some e->k∈e.us.map (·.1)->(j<i↔L j=true)):∀m,(bw ops es s0 L m).lv k=(bw ops es s0 (λ_=>true) (min m i)).lv k
 |0=>by simp[bw]
 |m+1=>by
  have ih:=Km h m
  by_cases hm:m<i
  ·have e1:min (m+1) i=min m i+1:=by omega
   have e2:min m i=m:=by omega
   rw[e1,e2];rw[e2]at ih;simp only[bw]
   cases ho:ops[m]? with
   |none=>exact ih
   |some o=>
    cases he:es[m]? with
    |none=>exact ih
    |some e=>
     simp only[if_true]
     by_cases hd:k∈e.us.map (·.1)
     ·rw[(h m e he hd).1 hm];simp only[if_true,oc];exact tF hd
     ·by_cases hL:L m=true
      ·simp only[hL,if_true,oc,cT hd];exact ih
      ·simp only[hL,oc,cT hd];exact ih
  ·have e1:min (m+1) i=min m i:=by omega
   rw[e1,<-ih];simp only[bw]
   cases ho:ops[m]? with
   |none=>rfl
   |some o=>
    cases he:es[m]? with
    |none=>rfl
    |some e=>
     simp only
     by_cases hL:L m=true
     ·have hd:k∉e.us.map (·.1):=λhd=>hm ((h m e he hd).2 hL)
      simp only[hL,if_true,oc,cT hd]
     grind
theorem xe{t:Nat}(ho:ops[i]?=some o)(he:es[i]?=some e)(hi:i<n)(hL:L i=false)
 (hlt:∀j o',i<j->ops[j]?=some o'->L j=true->o.dst=some t->o'.dst≠some t) :
 (e.app o.dst (bw ops es s0 L n)).fr t=(bw ops es s0 (λj=>L j ||j==i) n).fr t:=by
 have below:∀m,m<=i->bw ops es s0 (λj=>L j ||j==i) m=bw ops es s0 L m:=λm hm=>
  fY fun j hj=>by have:(j == i)=false:=by simp;omega
                  grind
 have h1:∀m,i<m->(e.app o.dst (bw ops es s0 L m)).fr t=(bw ops es s0 (λj=>L j ||j==i) m).fr t:=by
  intro m
  induction m with
  |zero=>simp
  |succ m ih=>
   intro hm
   by_cases hmi:m=i
   ·subst hmi;simp only[bw,ho,he,hL,adC,if_false,beq_self_eq_true,Bool.or_true,if_true]
    grind
   ·have ih:=ih (by omega);have hne:(m==i)=false:=by simpa using hmi
    simp only[bw]
    cases ho':ops[m]? with
    |none=>exact ih
    |some o'=>
     cases he':es[m]? with
     |none=>exact ih
     |some e'=>
      simp only[hne,Bool.or_false]
      by_cases hLm:L m=true
      ·simp only[hLm,if_true];rw[qa,qa,qa];rw[qa]at ih
       grind
      grind
 grind
theorem xl(ho:ops[i]?=some o)(he:es[i]?=some e)(hi:i<n)(hL:L i=false)
 (hlt:∀(j:Nat) e',i<j->es[j]?=some e'->L j=true->k∈e.us.map (·.1)->k∉e'.us.map (·.1)) :
 (e.app o.dst (bw ops es s0 L n)).lv k=(bw ops es s0 (λj=>L j ||j==i) n).lv k:=by
 have below:∀m,m<=i->bw ops es s0 (λj=>L j ||j==i) m=bw ops es s0 L m:=λm hm=>
  fY fun j hj=>by have:(j == i)=false:=by simp;omega
                  grind
 have h1:∀m,i<m->(e.app o.dst (bw ops es s0 L m)).lv k=(bw ops es s0 (λj=>L j ||j==i) m).lv k:=by
  intro m
  induction m with
  |zero=>simp
  |succ m ih=>
   intro hm
   by_cases hmi:m=i
   ·subst hmi;simp only[bw,ho,he,hL,adC,if_false,beq_self_eq_true,Bool.or_true,if_true]
    grind
   ·have ih:=ih (by omega);have hne:(m==i)=false:=by simpa using hmi
    simp only[bw]
    cases ho':ops[m]? with
    |none=>exact ih
    |some o'=>
     cases he':es[m]? with
     |none=>exact ih
     |some e'=>
      simp only[hne,Bool.or_false]
      by_cases hLm:L m=true
      ·simp only[hLm,if_true];rw[oc,oc,oc];rw[oc]at ih
       by_cases hd:k∈e.us.map (·.1)
       ·have hd':=hlt m e' (by omega) he' hLm hd;rw[cT hd',<-ih];exact tF hd
       ·rw[cT hd];rw[cT hd]at ih
        by_cases hd':k∈e'.us.map (·.1)
        ·exact tF hd'
        ·rw[cT hd',cT hd'];exact ih
      grind
 grind
end
def S6(ops:Array Oper)(o o':Oper)(e e':Fx):Prop:=
 o.apart ops o'=true/\(∀k∈e.us.map (·.1),k∉e'.us.map (·.1)/\k∉e'.rds)/\∀k∈e'.us.map (·.1),k∉e.rds
def cnt(p:Nat->Bool):Nat->Nat
 |0=>0
 |n+1=>cnt p n+(if p n then 1 else 0)
theorem qZ{p q:Nat->Bool}:∀{n:Nat},(∀i,i<n->p i=q i)->cnt p n=cnt q n
 |0,_=>rfl
 |n+1,h=>by simp only[cnt,qZ (n:=n) (λi hi=>h i (by omega)),h n (by omega)]
theorem EH{p:Nat->Bool}{i:Nat}(h:p i=false):∀{n:Nat},i<n->cnt (λj=>p j ||j==i) n=cnt p n+1
 |0,hi=>absurd hi (by omega)
 |n+1,hi=>by
  by_cases e:n=i
  ·subst e
   have h0:∀j,j<n->(p j ||j==n)=p j:=λj hj=>by
    have h1:(j==n)=false:=by simp;omega
    simp[h1]
   have:=qZ h0;simp only[cnt,this,h];simp
  ·have hne:(n==i)=false:=by simpa using e
   simp only[cnt,EH h (n:=n) (by omega),hne,Bool.or_false];omega
theorem PI(p:Nat->Bool):∀n,cnt p n<=n
 |0=>aU _
 |n+1=>by have:=PI p n;simp only[cnt];grind
theorem El{p:Nat->Bool}:∀{n:Nat},n<=cnt p n->∀i,i<n->p i=true
 |0,_,i,hi=>absurd hi (by omega)
 |n+1,h,i,hi=>by
  have h1:=PI p n;simp only[cnt]at h
  by_cases hp:p n=true
  ·rw[if_pos hp]at h
   by_cases e:i=n
   ·grind
   ·exact El (n:=n) (by omega) i (by omega)
  grind
theorem mem_ready{listed:Array Bool}:i∈Region.ready .any ops listed ↔
 i<ops.size/\listed.getD i true=false/\∃o,ops[i]?=some o/\∀ed∈o.after,Region.binds .any ed=true->listed.getD ed.on false=true:=by
 unfold Region.ready;simp only[List.mem_filter,aeC,cy,ads];refine and_congr_right λhi=>and_congr_right λ_=>?_;have ho:ops[i]?=some ops[i]:=aeu hi;rw[ho];simp only[adm,aeQ,Array.all_eq_true',ad2,ads,ah,exists_eq_left']
 grind
section
variable {c:Ctx}{r:Option Nat}{ops:Array Oper}{es:List Fx}{s0:az}
theorem vE(hlen:es.length=ops.size)
 (hE:∀(i:Nat) o e,ops[i]?=some o->es[i]?=some e->cQ c r ops o (bw ops es s0 (λ_=>true) i) e)
 (hback:∀(i:Nat) o,ops[i]?=some o->∀ed∈o.after,Region.binds .any ed=true->ed.on<i)
 (hind:∀(i j:Nat) o o' e e',i<j->ops[i]?=some o->ops[j]?=some o'->es[i]?=some e->es[j]?=some e'->wT ops i j\/S6 ops o o' e e')(hQ:∀F' β' a' w',aA c F' β' (bw ops es s0 (λ_=>true) ops.size) a' w'->Q .normal a' w') :
 ∀(fuel:Nat) (listed:Array Bool),listed.size=ops.size ->
  (∀(j:Nat) o,ops[j]?=some o->listed.getD j false=true->∀ed∈o.after,Region.binds .any ed=true->listed.getD ed.on false=true) ->
  ops.size<=fuel+cnt (λj=>listed.getD j false) ops.size ->
  ∀F β a w,aA c F β (bw ops es s0 (λj=>listed.getD j false) ops.size) a w->wpAnyIn (rM r) 0 c.P .any ops Q fuel listed a w:=by
 intro fuel
 have hall:∀(listed:Array Bool),(∀i,i<ops.size->listed.getD i false=true)->∀F β a w,aA c F β (bw ops es s0 (λj=>listed.getD j false) ops.size) a w->Q .normal a w:=by
  intro listed hl F β a w h;rw[fY (L':=λ_=>true) hl]at h;exact hQ _ _ _ _ h
 induction fuel with
 |zero=>
  intro listed hsz hcl hcnt F β a w h;have hl:=El (p:=λj=>listed.getD j false) (n:=ops.size) (by omega);refine⟨?_,hall listed hl F β a w h⟩;rw[List.eq_nil_iff_forall_not_mem];intro i hi;obtain⟨h1,h2,_⟩:=mem_ready.1 hi
  grind
 |succ fuel ih=>
  intro listed hsz hcl hcnt F β a w h
  have hanc:∀i j,wT ops i j->listed.getD j false=true->listed.getD i false=true:=by
   intro i j ha
   induction ha with
   |one ho he hb hi=>grind
   |more ho he hb _ ih=>grind
  refine⟨λhnil=>?_,λi hi=>?_⟩
  ·refine hall listed (λi hi=>?_) F β a w h
   induction i using Nat.strongRecOn with
   |_ i ihi=>
    cases hL:listed.getD i false with
    |true=>rfl
    |false=>
     exfalso
     have:i∈Region.ready .any ops listed:=by
      refine mem_ready.2 ⟨hi,?_,ops[i],aeu hi,λed hed hb=>?_⟩
      ·grind
      ·grind
     grind
  ·obtain⟨hi1,hi2,o,ho,hpre⟩:=mem_ready.1 hi;have h4:i<listed.size:=by omega
   have hLi:listed.getD i false=false:=by simp[Array.getD,h4]at hi2⊢;exact hi2
   obtain⟨e,he⟩:∃e,es[i]?=some e:=⟨es[i]'(by omega),bp (by omega)⟩
   have hes:∀j o',ops[j]?=some o'->∃e',es[j]?=some e':=λj o' h'=>by
    have:j<ops.size:=(Array.getElem?_eq_some_iff.1 h').1;exact⟨es[j]'(by omega),bp (by omega)⟩
   have hos:∀(j:Nat) e',es[j]?=some e'->∃o',ops[j]?=some o':=λj e' h'=>by
    grind
   have hancR:∀j,wT ops j i->listed.getD j false=true:=by
    intro j ha
    cases ha with
    |one ho' he' hb hj=>
     grind
    |more ho' he' hb hj=>
     grind
   have key:=hE i o e ho he (bw ops es s0 (λj=>listed.getD j false) ops.size) (λt ht=>?_) ?_ F β a w
    (wpAnyIn (rM r) 0 c.P .any ops Q fuel (listed.setIfInBounds i true)) Q h (λF' β' a' w' h'=>?_)
   ·unfold wpOpIn;rw[ho];simp only;split at key
    ·grind
    ·rename_i hw;rw[if_neg hw];exact⟨λ_ _=>trivial,key⟩
   ·rw[DB (i:=i) (λj o' ho' hd=>?_) ops.size,Nat.min_eq_right (by omega)];obtain⟨e',he'⟩:=hes j o' ho';constructor
    ·intro hji;rcases hind j i o' o e' e hji ho' ho he' he with ha|ha
     ·grind
     ·exact absurd ht ((ae6 ha.1).1 t hd)
    ·intro hj;rcases afD j i with hlt|heq|hgt
     ·exact hlt
     ·grind
     ·rcases hind i j o o' e e' hgt ho ho' he he' with ha|ha
      ·grind
      ·exact absurd ht ((ae6 ha.1).2.2 t hd)
   ·have hk:∀k,(k∈e.rds\/k∈e.us.map (·.1))->(bw ops es s0 (λj=>listed.getD j false) ops.size).lv k=(bw ops es s0 (λ_=>true) i).lv k:=by
     intro k hk;rw[Km (i:=i) (λj e' he' hd=>?_) ops.size,Nat.min_eq_right (by omega)];obtain⟨o',ho'⟩:=hos j e' he';constructor
     ·intro hji;rcases hind j i o' o e' e hji ho' ho he' he with ha|ha
      ·grind
      ·rcases hk with hk|hk
       ·exact absurd hk (ha.2.1 k hd).2
       ·exact absurd hk (ha.2.1 k hd).1
     ·intro hj;rcases afD j i with hlt|heq|hgt
      ·exact hlt
      ·grind
      ·rcases hind i j o o' e e' hgt ho ho' he he' with ha|ha
       ·grind
       ·rcases hk with hk|hk
        ·exact absurd hk (ha.2.2 k hd)
        ·exact absurd hd (ha.2.1 k hk).1
    exact⟨λk h'=>hk k (.inl h'),λp h'=>hk p.1 (.inr (afA h'))⟩
   ·have hset:∀j,(listed.setIfInBounds i true).getD j false=(listed.getD j false ||j==i):=by
     intro j;simp only[adZ,afw]
     by_cases hj:i=j
     ·grind
     ·grind
    refine ih (listed.setIfInBounds i true) (by simp[hsz]) (λj o' ho' hj ed hed hb=>?_) ?_ F' β' a' w' ?_
    ·grind
    ·rw[qZ (q:=λj=>listed.getD j false ||j==i) (λj _=>hset j),EH (p:=λj=>listed.getD j false) hLi hi1];omega
    ·rw[fY (L':=λj=>listed.getD j false ||j==i) (λj _=>hset j)]
     have hst:e.app o.dst (bw ops es s0 (λj=>listed.getD j false) ops.size)=bw ops es s0 (λj=>listed.getD j false ||j==i) ops.size:=by
      have e1:(e.app o.dst (bw ops es s0 (λj=>listed.getD j false) ops.size)).fr=(bw ops es s0 (λj=>listed.getD j false ||j==i) ops.size).fr:=by
       funext t;refine xe ho he hi1 hLi (λj o' hij ho' hj hd=>?_);obtain⟨e',he'⟩:=hes j o' ho';rcases hind i j o o' e e' hij ho ho' he he' with ha|ha
       ·grind
       ·exact(ae6 ha.1).2.1 t hd
      have e2:(e.app o.dst (bw ops es s0 (λj=>listed.getD j false) ops.size)).lv=(bw ops es s0 (λj=>listed.getD j false ||j==i) ops.size).lv:=by
       funext k;refine xl ho he hi1 hLi (λj e' hij he' hj hd=>?_);obtain⟨o',ho'⟩:=hos j e' he';rcases hind i j o o' e e' hij ho ho' he he' with ha|ha
       ·grind
       ·exact(ha.2.1 k hd).1
      cases h1:e.app o.dst (bw ops es s0 (λj=>listed.getD j false) ops.size)
      cases h2:bw ops es s0 (λj=>listed.getD j false ||j==i) ops.size
      rw[h1,h2]at e1 e2;simp only at e1 e2;rw[e1,e2]
     grind
end
def KJ(acc:List Nat)(o:Oper):Nat:=o.after.toList.foldl (λm e=>if Region.binds .any e then m |||(2^e.on |||acc.getD e.on 0)else m) 0
def gY:List Oper->List Nat->List Nat
 |[],acc=>acc
 |o::r,acc=>gY r (acc++[KJ acc o])
theorem An{acc:List Nat}{i:Nat}:∀(l:List Edge) (m:Nat),(l.foldl (λm e=>if Region.binds .any e then m |||(2^e.on |||acc.getD e.on 0)else m) m).testBit i=true ->
 m.testBit i=true\/∃e∈l,Region.binds .any e=true/\(e.on=i\/(acc.getD e.on 0).testBit i=true)
 |[],m,h=>.inl h
 |e::l,m,h=>by
  rcases An l _ h with h1|⟨e',h1,h2⟩
  ·grind
  grind
theorem jw{ops:Array Oper}:∀(os:List Oper) (acc:List Nat),ops.toList=ops.toList.take acc.length++os ->
 (∀i j,(acc.getD j 0).testBit i=true->wT ops i j)->∀i j,((gY os acc).getD j 0).testBit i=true->wT ops i j
 |[],acc,_,h=>h
 |o::os,acc,hl,h=>by
  have hlen:acc.length<ops.toList.length:=by
   have h1:=congrArg List.length hl;simp only[ac8,ac7,adN]at h1;omega
  have ho:ops[acc.length]?=some o:=by
   have h1:ops.toList[acc.length]?=(ops.toList.take acc.length++o::os)[acc.length]?:=by rw[<-hl]
   rw[afE (by simp;omega)]at h1;simp only[ac7]at h1;rw[show acc.length-min acc.length ops.toList.length=0 by omega]at h1;simpa using h1
  refine jw os _ ?_ (λi j hb=>?_)
  ·grind
  ·by_cases hj:j<acc.length
   ·grind
   ·by_cases hj2:j=acc.length
    ·subst hj2;rw[ac2,afE (aU _)]at hb;simp only[aes,ae7,aeQ]at hb;unfold KJ at hb;rcases An _ _ hb with h1|⟨e,h1,h2,h3⟩
     ·simp at h1
     ·have he:e∈o.after:=by simpa using h1
      rcases h3 with h3|h3
      ·exact .one ho he h2 h3
      ·exact .more ho he h2 (h _ _ h3)
    grind
def Jw:Nat->List Oper->Bool
 |_,[]=>true
 |i,o::r=>o.after.toList.all (λe=>!Region.binds .any e ||decide (e.on<i))&&Jw (i+1) r
theorem qd{ops:Array Oper}:∀(os:List Oper) (n:Nat),ops.toList.drop n=os->Jw n os=true ->
 ∀(i:Nat) o,n<=i->ops[i]?=some o->∀ed∈o.after,Region.binds .any ed=true->ed.on<i
 |[],n,hl,_=>by
  intro i o hi ho;have h1:ops.toList.length<=n:=List.drop_eq_nil_iff.1 hl
  grind
 |o::os,n,hl,hb=>by
  simp only[Jw,cy]at hb;intro i o' hi ho ed hed hbd
  by_cases e:i=n
  ·subst e;have h1:(ops.toList.drop i)[0]?=some o:=by rw[hl];rfl
   grind
  ·refine qd os (n+1) ?_ hb.2 i o' (by omega) ho ed hed hbd;rw[<-aeb,hl];rfl
def iB(ops:Array Oper):Bool:=
 let ms:=gY ops.toList []
 Jw 0 ops.toList&&(List.range ops.size).all λj=>(List.range j).all λi=>
  (ms.getD j 0).testBit i ||(match ops[i]?,ops[j]? with|some o,some o'=>o.apart ops o'|_,_=>true)
def wL(e e':Fx):Bool:=
 e.us.all (λp=>!(e'.us.any λq=>q.1==p.1)&&!e'.rds.contains p.1)&&e'.us.all (λp=>!e.rds.contains p.1)
def idle(e:Fx):Bool:=e.us.isEmpty&&e.rds.isEmpty
def En(ops:Array Oper)(es:List Fx):Bool:=
 let ms:=gY ops.toList []
 (List.range es.length).all λj=>match es[j]? with
  |some e'=>idle e' ||(List.range j).all λi=>match es[i]? with
   |some e=>idle e ||(ms.getD j 0).testBit i ||wL e e'
   |none=>true
  |none=>true
theorem DS(h:wL e e'=true):(∀k∈e.us.map (·.1),k∉e'.us.map (·.1)/\k∉e'.rds)/\∀k∈e'.us.map (·.1),k∉e.rds:=by
 simp only[wL,cy,ab3,ads,List.any_eq_false,beq_iff_eq,List.contains_eq_mem,decide_eq_false_iff_not]at h
 grind
theorem AU(h:idle e=true\/idle e'=true):(∀k∈e.us.map (·.1),k∉e'.us.map (·.1)/\k∉e'.rds)/\∀k∈e'.us.map (·.1),k∉e.rds:=by
 simp only[idle,cy,List.isEmpty_iff]at h
 grind
theorem sj(hlen:es.length=ops.size)(hs:iB ops=true)(hd:En ops es=true):
 (∀(i:Nat) o,ops[i]?=some o->∀ed∈o.after,Region.binds .any ed=true->ed.on<i) /\
 (∀(i j:Nat) o o' e e',i<j->ops[i]?=some o->ops[j]?=some o'->es[i]?=some e->es[j]?=some e'->wT ops i j\/S6 ops o o' e e'):=by
 simp only[iB,cy,ab3,aeC]at hs;refine⟨λi o=>qd ops.toList 0 rfl hs.1 i o (ac1 _),λi j o o' e e' hij ho ho' he he'=>?_⟩;have hj:j<ops.size:=(Array.getElem?_eq_some_iff.1 ho').1;have hm:=jw (ops:=ops) ops.toList [] (by simp) (λi j h=>by simp at h) i j;have h1:=hs.2 j hj i hij;rw[ho,ho']at h1;simp only[ad2]at h1;simp only[En,ab3,aeC]at hd;have h2:=hd j (by omega);rw[he']at h2;simp only[ad2,ab3,aeC]at h2;rcases h1 with h1|h1
 ·grind
 ·rcases h2 with h2|h2
  ·exact .inr ⟨h1,AU (.inr h2)⟩
  ·have h3:=h2 i hij;rw[he]at h3;simp only[ad2]at h3;rcases h3 with(h3|h3)|h3
   ·exact .inr ⟨h1,AU (.inl h3)⟩
   ·grind
   ·exact .inr ⟨h1,DS h3⟩
def fQ(c:Ctx)(r:Option Nat)(ops:Array Oper):List Oper->List Fx->az->az->Prop
 |[],[],s,s'=>s'=s
 |o::os,e::es,s,s'=>cQ c r ops o s e/\fQ c r ops os es (e.app o.dst s) s'
 |_,_,_,_=>False
section
variable {c:Ctx}{r:Option Nat}{ops:Array Oper}
theorem fQ.len:∀{os:List Oper}{es:List Fx}{s s':az},fQ c r ops os es s s'->es.length=os.length
 |[],[],_,_,_=>rfl
 |_::_,_::_,_,_,h=>by simp[fQ.len h.2]
 |[],_::_,_,_,h=>h.elim
 |_::_,[],_,_,h=>h.elim
theorem fQ.at{es:List Fx}{s0:az}:∀{os:List Oper}{rs:List Fx}{s':az}(n:Nat),ops.toList.drop n=os->es.drop n=rs->fQ c r ops os rs (bw ops es s0 (λ_=>true) n) s' ->
 s'=bw ops es s0 (λ_=>true) (n+os.length)/\∀(i:Nat) o e,n<=i->ops[i]?=some o->es[i]?=some e->cQ c r ops o (bw ops es s0 (λ_=>true) i) e
 |[],[],s',n,h1,h2,h=>by
  refine⟨h,λi o e hi ho he=>?_⟩;have h3:es.length<=n:=List.drop_eq_nil_iff.1 h2
  grind
 |o::os,e::rs,s',n,h1,h2,h=>by
  have ho:ops[n]?=some o:=by
   have:(ops.toList.drop n)[0]?=some o:=by rw[h1];rfl
   rw[aeM]at this;simpa using this
  have he:es[n]?=some e:=by
   have:(es.drop n)[0]?=some e:=by rw[h2];rfl
   rw[aeM]at this;simpa using this
  have hst:bw ops es s0 (λ_=>true) (n+1)=e.app o.dst (bw ops es s0 (λ_=>true) n):=by
   simp only[bw,ho,he,if_true]
  obtain⟨h3,h4⟩:=fQ.at (es:=es) (s0:=s0) (os:=os) (rs:=rs) (s':=s') (n+1) (by rw[<-aeb,h1];rfl) (by rw[<-aeb,h2];rfl) (by rw[hst];exact h.2);refine⟨by grind,λi o' e' hi ho' he'=>?_⟩
  by_cases e1:i=n
  ·subst e1;rw[ho]at ho';rw[he]at he';simp only[ah]at ho' he';subst ho';subst he';exact h.1
  grind
 |[],_::_,_,_,_,_,h=>h.elim
 |_::_,[],_,_,_,_,h=>h.elim
theorem fQ.opers:∀{os:List Oper}{es:List Fx}{s s':az}(n:Nat),ops.toList.drop n=os->fQ c r ops os es s s' ->
 (∀F' β' a' w',aA c F' β' s' a' w'->Q .normal a' w')->∀F β a w,aA c F β s a w->wpOpsIn (rM r) 0 c.P ops Q (List.range' n os.length) a w
 |[],[],s,s',n,_,h,hQ=>λF β a w hs=>by
  have h:s'=s:=h;subst h;exact hQ F β a w hs
 |o::os,e::es,s,s',n,h1,h,hQ=>λF β a w hs=>by
  have ho:ops[n]?=some o:=by
   have:(ops.toList.drop n)[0]?=some o:=by rw[h1];rfl
   rw[aeM]at this;simpa using this
  have ih:=fQ.opers (os:=os) (es:=es) (n+1) (by rw[<-aeb,h1];rfl) h.2 hQ;have key:=h.1 s (λ_ _=>rfl) ⟨λ_ _=>rfl,λ_ _=>rfl⟩ F β a w (wpOpsIn (rM r) 0 c.P ops Q (List.range' (n+1) os.length)) Q hs (λF' β' a' w' h'=>ih F' β' a' w' h');simp only[adN,afm];rw[wpOpsIn_cons];unfold wpOpIn;rw[ho];simp only;split at key
  ·grind
  ·rename_i hw;rw[if_neg hw];exact⟨λ_ _=>trivial,key⟩
 |[],_::_,_,_,_,_,h,_=>h.elim
 |_::_,[],_,_,_,_,h,_=>h.elim
theorem fQ.region(h:fQ c r ops ops.toList es s s')
 (hQ:∀F' β' a' w',aA c F' β' s' a' w'->Q .normal a' w')(hs:aA c F β s a w):(Code.region id ops false).wpIn (rM r) 0 c.P Q a w:=by
 refine wpIn_region ?_;have:=fQ.opers 0 rfl h hQ F β a w hs;rw[List.range_eq_range']
 grind
theorem fQ.draw(hm:c.P.follows .mixedOrders=true)(h:fQ c r ops ops.toList es s s')(h1:iB ops=true)(h2:En ops es=true)
 (hQ:∀F' β' a' w',aA c F' β' s' a' w'->Q .normal a' w')(hs:aA c F β s a w):(Code.region id ops true).wpIn (rM r) 0 c.P Q a w:=by
 have hlen:es.length=ops.size:=by rw[h.len];simp
 obtain⟨h3,h4⟩:=fQ.at (es:=es) (s0:=s) 0 rfl rfl h;obtain⟨h5,h6⟩:=sj hlen h1 h2;refine wpIn_region_any hm ?_;refine vE (s0:=s) hlen (λi o e ho he=>h4 i o e (ac1 _) ho he) h5 h6 (λF' β' a' w' h'=>hQ F' β' a' w' ?_) ops.size _ (by simp) (λj o ho hj=>?_) (by omega) F β a _ ?_
 ·rw[h3];simpa using h'
 ·have hf:(Array.replicate ops.size false).getD j false=false:=by
   simp only[adZ,aeR];split<;>rfl
  grind
 ·have hf:∀j,(Array.replicate ops.size false).getD j false=false:=λj=>by
   simp only[adZ,aeR];grind
  have:bw ops es s (λj=>(Array.replicate ops.size false).getD j false) ops.size=s:=by
   rw[fY (L':=λ_=>false) (λj _=>hf j)]
   have:∀m,bw ops es s (λ_=>false) m=s:=by
    intro m
    induction m with
    |zero=>rfl
    |succ m ih=>simp only[bw,ih,adC,if_false];grind
   exact this _
  rw[this];exact hs.heap rfl
end
section
variable {c:Ctx}{r:Option Nat}{ops:Array Oper}{o:Oper}{s0:az}
theorem cQ.call(hd:∀d,o.dst=some d->d<c.n)(hw:eK ops o.guard s0.fr=some true)
 (ho:o.op=.call cl) (hcal:cl.callee=.value fo) (ht:cG (s0.val c.G fo)=some (f,fs,cs)) (hf:aH c.P f=true)
 (he:cw c f (fs++cl.args.toList.map (s0.val c.G)++cs) s0.lv x us rds):cQ c r ops o s0 ⟨x,us,rds⟩:=by
 refine cQ.qo hw (λcl' h=>by grind) (λs h1 h2=>?_);have hfo:s.val c.G fo=s0.val c.G fo:=h1 fo (by rw[ho];simp[Op.operands,Call.operands,hcal])
 have hargs:cl.args.toList.map (s.val c.G)=cl.args.toList.map (s0.val c.G):=adI λy hy=>h1 y (by
  rw[ho];simp only[Op.operands,Call.operands,hcal];grind)
 refine cw.U3 (rds:=rds) hd ho hcal rfl (by rw[hfo];exact ht) hf ?_;rw[hargs];exact he.local h2
end
def gJ(c:Ctx)(o:Oper)(s:az)(κ:Nat)(K:AV->List (Key×LB)->List Key->Nat->Prop):Prop:=
 match o.op with
 |.call cl=>match cl.callee with
  |.value fo=>match cG (s.val c.G fo)with
   |some (f,fs,cs)=>aH c.P f=true/\∃x us rds κ',cw c f (fs++cl.args.toList.map (s.val c.G)++cs) s.lv x us rds/\K x us rds κ'
   |none=>False
  |_=>match cX c.P o.op (o.op.operands.toList.map (s.val c.G)) s.lv κ with
   |some (x,us,rds,vc)=>vc/\K x us rds (match us with|[]=>κ|_=>κ+1)
   |none=>False
 |op=>match cX c.P op (op.operands.toList.map (s.val c.G)) s.lv κ with
  |some (x,us,rds,vc)=>vc/\K x us rds (match us with|[]=>κ|_=>κ+1)
  |none=>False
def gy(c:Ctx)(ops:Array Oper):List Oper->az->Nat->List Fx->(az->Nat->List Fx->Prop)->Prop
 |[],s,κ,acc,K=>K s κ acc
 |o::os,s,κ,acc,K=>match eK ops o.guard s.fr with
  |some true=>gJ c o s κ λx us rds κ'=>gy c ops os (az.put ⟨s.fr,bk s.lv us⟩ o.dst x) κ' (⟨x,us,rds⟩::acc) K
  |some false=>gy c ops os (s.put o.dst .undef) κ (⟨.undef,[],[]⟩::acc) K
  |none=>False
def cR(n:Nat)(os:List Oper):Bool:=os.all λo=>match o.dst with|some d=>decide (d<n)|none=>true
section
variable {c:Ctx}{r:Option Nat}{ops:Array Oper}
theorem gJ.Tv{K:AV->List (Key×LB)->List Key->Nat->Prop}(hd:∀d,o.dst=some d->d<c.n)(hw:eK ops o.guard s.fr=some true)(h:gJ c o s κ K):
 ∃x us rds κ',cQ c r ops o s ⟨x,us,rds⟩/\K x us rds κ':=by
 have plain:(match cX c.P o.op (o.op.operands.toList.map (s.val c.G)) s.lv κ with
  |some (x,us,rds,vc)=>vc/\K x us rds (match us with|[]=>κ|_=>κ+1)
  |none=>False)->∃x us rds κ',cQ c r ops o s ⟨x,us,rds⟩/\K x us rds κ':=by
  intro h;split at h
  ·rename_i x us rds vc hs
   exact⟨x,us,rds,_,cQ.plain hd hw hs h.1,h.2⟩
  ·grind
 unfold gJ at h;split at h
 ·rename_i cl ho
  split at h
  ·rename_i fo hcal
   split at h
   ·rename_i f fs cs ht
    obtain⟨hf,x,us,rds,κ',he,hK⟩:=h;exact⟨x,us,rds,κ',cQ.call hd hw ho hcal ht hf he,hK⟩
   grind
  grind
 grind
theorem gy.chain{K:az->Nat->List Fx->Prop}:∀{os:List Oper}{s:az}{κ:Nat}{acc:List Fx},cR c.n os=true->gy c ops os s κ acc K ->
 ∃es s' κ',fQ c r ops os es s s'/\K s' κ' (es.reverse++acc)
 |[],s,κ,_,_,h=>⟨[],s,κ,rfl,h⟩
 |o::os,s,κ,acc,hd,h=>by
  simp only[cR,aed,cy]at hd;have hdo:∀d,o.dst=some d->d<c.n:=λd e=>by grind
  simp only[gy]at h;split at h
  ·rename_i hw
   obtain⟨x,us,rds,κ',he,hK⟩:=gJ.Tv (r:=r) hdo hw h;obtain⟨es,s',κ'',h1,h2⟩:=gy.chain hd.2 hK;exact⟨⟨x,us,rds⟩::es,s',κ'',⟨he,h1⟩,by grind⟩
  ·rename_i hw
   obtain⟨es,s',κ'',h1,h2⟩:=gy.chain hd.2 h;exact⟨⟨.undef,[],[]⟩::es,s',κ'',⟨cQ.skip hdo hw,h1⟩,by grind⟩
  grind
end
inductive Ex where
 |normal
 |exit (id:Nat)
 |goto (l:Nat)
 |ret
 |panic (d:DV)
def Fi(x:Ex)(e:Exit)(F:Nat->Prop)(w:World):Prop:=
 match x with
 |.normal=>e=.normal
 |.exit id=>e=.exit id
 |.goto l=>e=.goto l
 |.ret=>e=.ret
 |.panic d=>∃v,e=.panic [{ v:=v,recovered:=false }]/\Rd (l7 w F) v d
def Post(c:Ctx)(Q:Ex->az->Nat->Prop):Exit->Act->World->Prop:=λe a w=>∃x s κ F β,Q x s κ/\aA c F β s a w/\Fi x e F w
def AW(c:Ctx)(r:Option Nat)(code:Code)(s:az)(κ:Nat)(Q:Ex->az->Nat->Prop):Prop:=
 ∀F β a w,aA c F β s a w->code.wpIn (rM r) 0 c.P (Post c Q) a w
def vk(K:az->Nat->Prop)(Q:Ex->az->Nat->Prop):Ex->az->Nat->Prop
 |.normal,s,κ=>K s κ
 |e,s,κ=>Q e s κ
def wg(id:Nat)(Q:Ex->az->Nat->Prop):Ex->az->Nat->Prop
 |.exit id',s,κ=>if id'=id then Q .normal s κ else Q (.exit id') s κ
 |e,s,κ=>Q e s κ
section
variable {c:Ctx}{r:Option Nat}{s:az}{κ:Nat}{Q:Ex->az->Nat->Prop}
theorem AW.region(hd:cR c.n ops.toList=true)(h:gy c ops ops.toList s κ [] λs' κ' _=>Q .normal s' κ'):AW c r (.region id ops false) s κ Q:=by
 intro F β a w hs;obtain⟨es,s',κ',h1,h2⟩:=gy.chain (r:=r) hd h;exact h1.region (λF' β' a' w' h'=>⟨.normal,s',κ',F',β',h2,h',rfl⟩) hs
theorem AW.draw(hm:c.P.follows .mixedOrders=true)(hst:iB ops=true)(hd:cR c.n ops.toList=true)
 (h:gy c ops ops.toList s κ [] λs' κ' acc=>En ops acc.reverse=true/\Q .normal s' κ'):AW c r (.region id ops true) s κ Q:=by
 intro F β a w hs;obtain⟨es,s',κ',h1,h2,h3⟩:=gy.chain (r:=r) hd h;exact h1.draw hm hst (by grind) (λF' β' a' w' h'=>⟨.normal,s',κ',F',β',h3,h',rfl⟩) hs
theorem aaE(h:Q .normal s κ):AW c r .skip s κ Q:=λF β _ _ hs=>wpIn_skip ⟨.normal,s,κ,F,β,h,hs,rfl⟩
theorem AW.label{l:Nat}(h:Q .normal s κ):AW c r (.label l) s κ Q:=λF β _ _ hs=>wpIn_label ⟨.normal,s,κ,F,β,h,hs,rfl⟩
theorem abX(h:Q (.exit id) s κ):AW c r (.exit id) s κ Q:=λF β _ _ hs=>wpIn_exit ⟨.exit id,s,κ,F,β,h,hs,rfl⟩
theorem acm(h:Q .ret s κ):AW c r .ret s κ Q:=λF β _ _ hs=>wpIn_ret ⟨.ret,s,κ,F,β,h,hs,rfl⟩
theorem AW.seq{x y:Code}{K:az->Nat->Prop}(h:AW c r x s κ (vk K Q))(hK:∀s κ,K s κ->AW c r y s κ Q):AW c r (.seq x y) s κ Q:=by
 intro F β a w hs;refine wpIn_seq (wpIn_mono (h F β a w hs) λe a' w' hp=>?_);obtain⟨e',s',κ',F',β',hq,hs',he⟩:=hp
 cases e' with
 |normal=>cases he;exact hK s' κ' hq F' β' a' w' hs'
 |exit id=>cases he;exact⟨.exit id,s',κ',F',β',hq,hs',rfl⟩
 |goto l=>cases he;exact⟨.goto l,s',κ',F',β',hq,hs',rfl⟩
 |ret=>cases he;exact⟨.ret,s',κ',F',β',hq,hs',rfl⟩
 |panic d=>obtain⟨v,rfl,hv⟩:=he;exact⟨.panic d,s',κ',F',β',hq,hs',v,rfl,hv⟩
theorem AW.mono{x:Code}{Q':Ex->az->Nat->Prop}(h:AW c r x s κ Q)(hq:∀e s κ,Q e s κ->Q' e s κ):AW c r x s κ Q':=λF β a w hs=>
 wpIn_mono (h F β a w hs) λ_ _ _ ⟨e',s',κ',F',β',h1,h2,h3⟩=>⟨e',s',κ',F',β',hq _ _ _ h1,h2,h3⟩
theorem adf{o:Operand}{x y:Code}(hb:s.val c.G o=.c (.d (.bool b)))(h:AW c r (if b then x else y) s κ Q):AW c r (.cond o x y) s κ Q:=by
 intro F β a w hs;have h1:=hs.val o;rw[hb]at h1;exact wpIn_cond (Vw.sG h1) (h F β a w hs)
theorem abd{x:Code}(h:AW c r x s κ (wg id Q)):AW c r (.block id x) s κ Q:=by
 intro F β a w hs;refine wpIn_block (wpIn_mono (h F β a w hs) λe a' w' hp=>?_);obtain⟨e',s',κ',F',β',hq,hs',he⟩:=hp
 cases e' with
 |normal=>cases he;exact⟨.normal,s',κ',F',β',hq,hs',rfl⟩
 |exit id'=>
  cases he
  simp only[wg]at hq;simp only[Exit.inBlock];split
  ·rename_i hid;rw[if_pos hid]at hq;exact⟨.normal,s',κ',F',β',hq,hs',rfl⟩
  ·rename_i hid;rw[if_neg hid]at hq;exact⟨.exit id',s',κ',F',β',hq,hs',rfl⟩
 |goto l=>cases he;exact⟨.goto l,s',κ',F',β',hq,hs',rfl⟩
 |ret=>cases he;exact⟨.ret,s',κ',F',β',hq,hs',rfl⟩
 |panic d=>obtain⟨v,rfl,hv⟩:=he;exact⟨.panic d,s',κ',F',β',hq,hs',v,rfl,hv⟩
theorem AW.coarse{x:Code}{s2:az}{κ2:Nat}{g:Key->Key}(hc:dQ c s s2 g)(h:AW c r x s2 κ2 Q):AW c r x s κ Q:=
 λF β a w hs=>h F _ a w (hs.coarse hc)
end
def pE(P:Program)(s:az):ResultVar->Option AV
 |.tmp t=>some (s.fr t)
 |.cell a T=>match s.fr a with
  |.c (.ptr k off)=>match s.lv k with|.cells _ _ _ cs=>fq P T (cs.drop off)|_=>none
  |_=>none
def l8(P:Program)(s:az):List ResultVar->Option (List AV)
 |[]=>some []
 |x::l=>match pE P s x,l8 P s l with|some y,some r=>some (y::r)|_,_=>none
def AV.cD:AV->Bool
 |.tup _=>false
 |_=>true
def eD(P:Program)(s:az)(l:List ResultVar):Option AV:=
 match l8 P s l with
 |some [x]=>some x
 |some r=>if r.all AV.cD then some (.tup r)else none
 |none=>none
theorem Vw.U9(h:V.av v x)(hx:x.cD=true):V.l5 v x:=by
 cases x with
 |tup l=>cases hx
 |_=>exact h
def It(tmps:Array Value):ResultVar->Sem Value
 |.tmp t=>pure (tmps.getD t undef)
 |.cell a t=>do loadVar t (<-asAddr (tmps.getD a undef))
theorem Iy(fn:Func)(tmps:Array Value):results fn tmps=(do let vs <-fn.results.mapM (It tmps);pure (if h:vs.size=1 then vs[0]else .tuple vs)):=by
 rfl
section
variable {c:Ctx}{F:Nat->Prop}{β:Key->Nat}{s:az}{a:Act}{w:World}
theorem O9(h:aA c F β s a w){x:ResultVar}(hr:pE c.P s x=some y):
 ∃v,(It a.tmps x).run c.P w=.ok v w/\(Vw.mk F β s.lv w).av v y:=by
 cases x with
 |tmp t=>
  simp only[pE,ah]at hr;subst hr;exact⟨a.tmps.getD t undef,rfl,h.fr t⟩
 |cell b T=>
  simp only[pE]at hr;split at hr
  ·rename_i k off he
   split at hr
   ·rename_i own fz T' cs hk
    have h1:=h.fr b;rw[he]at h1;obtain⟨h1,_⟩:=h1;simp only[Vw.dD,hk]at h1;have hb:=h.bU k;unfold Vw.bU at hb;simp only[hk]at hb;obtain⟨arr,h2,h3,h4,_⟩:=hb
    obtain⟨v,h5,h6⟩:=tj (P:=c.P) (T:=T) (Vw.mk F β s.lv w) (b:=β k) (o:=off) hr (λi=>arr.getD (off+i) undef)
     (λi hi=>by
      have hi':off+i<arr.size:=by simp at hi;omega
      rw[gu h2 hi'];simp_all)
     (λi hi=>by
      have hi':off+i<arr.size:=by simp at hi;omega
      simp_all)
    refine⟨v,?_,h6⟩;simp only[Instr.loadAt,Instr.sureAddr,cn,adG,iL]at h5;show(do loadVar T (<-asAddr (a.tmps.getD b undef)):Sem Value).run c.P w=.ok v w;rw[h1];simp only[asAddr,cn,adG,iL];exact h5
   grind
  grind
theorem GX(h:aA c F β s a w):∀{l:List ResultVar}{ys:List AV},l8 c.P s l=some ys ->
 ∃vs:List Value,(l.mapM (It a.tmps)).run c.P w=.ok vs w/\vs.length=ys.length /\
  ∀i (h:i<ys.length) (h':i<vs.length),(Vw.mk F β s.lv w).av vs[i] ys[i]
 |[],ys,hr=>by simp only[l8,ah]at hr;simp_all
 |x::l,ys,hr=>by
  simp only[l8]at hr;split at hr
  ·rename_i y r' h1 h2
   simp only[ah]at hr;subst hr;obtain⟨v,h3,h4⟩:=O9 h h1;obtain⟨vs,h5,h6,h7⟩:=GX h h2;refine⟨v::vs,?_,by simp[h6],λi p q=>?_⟩
   ·simp_all
   grind
  grind
theorem uC(h:aA c F β s a w)(hr:eD c.P s fn.results.toList=some y):∃v,(results fn a.tmps).run c.P w=.ok v w/\(Vw.mk F β s.lv w).av v y:=by
 unfold eD at hr
 have key:∀ys,l8 c.P s fn.results.toList=some ys->∃vs:Array Value,(results fn a.tmps).run c.P w=.ok (if h:vs.size=1 then vs[0]else .tuple vs) w/\vs.size=ys.length /\
  ∀i (h:i<ys.length) (h':i<vs.size),(Vw.mk F β s.lv w).av vs[i] ys[i]:=by
  intro ys hys;obtain⟨vs,h1,h2,h3⟩:=GX h hys;refine⟨vs.toArray,?_,by omega,λi p q=>by grind⟩;rw[Iy,cn,Array.mapM_eq_mapM_toList,map_eq_pure_bind,cn,h1];rfl
 split at hr
 ·grind
 ·rename_i ys hne hys
  split at hr
  ·rename_i hall
   simp only[ah]at hr;subst hr;obtain⟨vs,h1,h2,h3⟩:=key _ hys
   have h2':vs.size≠1:=λe=>by
    rw[e]at h2
    match ys,h2,hne with
    |[x],_,hne=>exact hne x rfl
   rw[dif_neg h2']at h1;rw[ab3]at hall;exact⟨_,h1,vs,rfl,h2,λi p q=>Vw.U9 (h3 i p q) (hall _ (aZ p))⟩
  grind
 grind
end
def Fin(c:Ctx)(fn:Func)(x:AV)(σ' ν:List LB):Ex->az->Nat->Prop
 |.normal,s,_|.ret,s,_=>∃s2 g,dQ c s s2 g/\s2.lv=bu σ' ν/\eD c.P s2 fn.results.toList=some x
 |_,_,_=>False
theorem yK{vs:Array Value}{Q:Ex->az->Nat->Prop}{K:Ending->World->Prop}
 (hf:P.funcs[f]?=some fn) (hb:fn.body=some code) (hl:args.length<=fn.ntmps) (hS:cY (de P G w F β lv) F β lv w) (hvl:vs.size=args.length) (hv:∀i (h:i<args.length) (h':i<vs.size),(Vw.mk F β lv w).av vs[i] args[i])
 (h:AW { de P G w F β lv with n:=fn.ntmps } none code ⟨λt=>args.getD t .undef,lv⟩ κ Q) (hQ:∀e s κ,Q e s κ->e=.normal\/e=.ret)
 (fin:∀e s κ F' β' a w',Q e s κ->aA { de P G w F β lv with n:=fn.ntmps } F' β' s a w'->a.defers=[]/\∃v,(results fn a.tmps).run P w'=.ok v w'/\K (.returned v) w'):Calls P f vs w K:=by
 refine calls_of_wp hf hb ?_
 let c:Ctx:={ de P G w F β lv with n:=fn.ntmps }
 have hS':cY c F β lv w:=hS
 let a:Act:={ tmps:=vs++Array.replicate (fn.ntmps-vs.size) undef,defers:=[] }
 have hst:aA c F β ⟨λt=>args.getD t .undef,lv⟩ a w:=by
  refine hS'.with ?_ rfl (λt=>?_)
  ·grind
  ·show(Vw.mk F β lv w).av ((vs++Array.replicate (fn.ntmps-vs.size) undef).getD t undef) (args.getD t .undef)
   by_cases ht:t<args.length
   ·have h1:args.getD t .undef=args[t]:=dW ht
    have h2:(vs++Array.replicate (fn.ntmps-vs.size) undef).getD t undef=vs[t]'(by omega):=by
     rw[adZ,afT (by omega),aeu (by omega)];rfl
    grind
   ·have h1:args.getD t .undef=.undef:=iy ht
    have h2:(vs++Array.replicate (fn.ntmps-vs.size) undef).getD t undef=undef:=by
     rw[adZ,afU (by omega),aeR];split<;>rfl
    rw[h1,h2];rfl
 have hw:=(wpIn_wide (n:=0)).1 (h F β a w hst);refine wp_mono hw λe a' w' hp=>?_;obtain⟨e',s',κ',F',β',hq,hs',he⟩:=hp;rcases hQ e' s' κ' hq with rfl|rfl
 ·cases he;exact fin _ _ _ _ _ _ _ hq hs'
 ·cases he;exact fin _ _ _ _ _ _ _ hq hs'
theorem aD.o9{σ σ' ν:List LB}(hf:P.funcs[f]?=some fn)(hb:fn.body=some code)(hl:args.length<=fn.ntmps)
 (h:∀c:Ctx,c.P=P->c.G=G->c.n=fn.ntmps->c.jd=bu σ []->AW c none code ⟨λt=>args.getD t .undef,bu σ []⟩ 1000 (Fin c fn x σ' ν)):aD P G f args σ (.ret x σ' ν):=by
 intro F β w vs hS hvl hv;refine yK hf hb hl hS hvl hv (h _ rfl rfl rfl rfl) (λe s κ hq=>by cases e<;>first|exact .inl rfl|exact .inr rfl|exact hq.elim) λe s' κ F' β' a' w' hq hs'=>?_;obtain⟨s2,g,h1,h2,h3⟩:∃s2 g,dQ _ s' s2 g/\s2.lv=bu σ' ν/\eD P s2 fn.results.toList=some x:=by cases e<;>first|exact hq|exact hq.elim
 have hs2:=hs'.coarse h1;obtain⟨v,h4,h5⟩:=uC hs2 h3;refine⟨hs'.defers,v,h4,v,F',λk=>β' (g k),rfl,?_,?_⟩
 ·have:=hs2.xN;rwa[h2]at this
 grind
def LB.okB:LB->Bool
 |.cells own fz _ _=>!own&&!fz
 |.map own _=>!own
 |_=>true
def dc(lv:Key->LB):Prop:=∀k,(lv k).okB=true
inductive Qb where
 |ret (x:AV) (lv:Key->LB)
 |vu (d:DV) (lv:Key->LB)
def Xh(P:Program)(G:List (List DV))(lv:Key->LB)(F:Nat->Prop)(β:Key->Nat)(w:World)(o:Qb)(e:Ending)(w':World):Prop:=
 match o with
 |.ret x lv'=>∃v F' β',e=.returned v/\cY (de P G w F β lv) F' β' lv' w'/\(Vw.mk F' β' lv' w').av v x
 |.vu d lv'=>∃v F' β',e=.panicked [{ v:=v,recovered:=false }]/\cY (de P G w F β lv) F' β' lv' w'/\Rd (l7 w' F') v d
def cu(P:Program)(G:List (List DV))(f:FuncId)(args:List AV)(lv:Key->LB)(o:Qb):Prop:=
 ∀(F:Nat->Prop) (β:Key->Nat) (w:World) (vs:Array Value),cY (de P G w F β lv) F β lv w->vs.size=args.length ->
  (∀i (h:i<args.length) (h':i<vs.size),(Vw.mk F β lv w).av vs[i] args[i])->Calls P f vs w (Xh P G lv F β w o)
section
variable {c:Ctx}{F:Nat->Prop}{β:Key->Nat}{s:az}{a:Act}{w:World}
theorem aA.wQ(h:aA c F β s a w)(ho:dc s.lv):cY (de c.P c.G w F β s.lv) F β s.lv w:=by
 refine⟨?_,h.inj,λ_=>trivial,rfl,rfl,λb hb=>⟨(h.nU b hb).1,.inl hb⟩,λ_ hb=>hb,λ_ _ _=>rfl,aU _,h.rO,λk _=>.inr ⟨rfl,LB.bG _⟩,λ_=>aU _,⟨rfl,rfl⟩⟩;intro k;have hb:=h.bU k;have hp:=ho k;unfold Vw.bU at hb ⊢
 cases e:s.lv k with
 |cells own fz T cs=>
  rw[e]at hp;simp only[LB.okB,cy,ads]at hp;simp only[e]at hb⊢;obtain⟨arr,b1,b2,b3,b4,b5⟩:=hb;refine⟨arr,b1,b2,b3,b4,?_⟩;rw[hp.1];simp only[fj,adC,if_false];exact .inr ⟨k,by rw[e,hp.2];rfl,rfl⟩
 |map own es=>
  rw[e]at hp;simp only[LB.okB,ads]at hp;simp only[e]at hb⊢;obtain⟨ents,clock,b1,b2,b3,b4,b5⟩:=hb;refine⟨ents,clock,b1,b2,b3,b4,?_⟩;rw[hp];simp only[fj,adC,if_false];exact .inr ⟨k,by rw[e];rfl,rfl⟩
 |hole=>grind
 |dead=>grind
 |bO=>grind
theorem Vw.Ki{c c':Ctx}(h:∀o,fj c o (V.β k)->fj c' o (V.β k))(hb:V.bU c k):V.bU c' k:=by
 unfold Vw.bU at*
 grind
theorem aA.CC(h:aA c F β s a w){F':Nat->Prop}{β':Key->Nat}{w':World}
 (hx:cY (de c.P c.G w F β s.lv) F' β' lv' w'):aA c F' β' ⟨s.fr,lv'⟩ a w':=by
 have hF:∀b,F b->F' b:=hx.F0;have hold:∀b,b<w.heap.size->¬(∃k,(s.lv k).live=true/\β k=b)->w'.heap[b]?=w.heap[b]?:=hx.old;have hkeep:∀k,s.lv k≠.hole->lv' k=.dead\/(β' k=β k/\(s.lv k).sub (lv' k)):=hx.keep;have hge:=h.ge;refine h.step (hoo:=hx.Gt) hF ?_ ?_ ?_ hx.J5 ?_ hx.inj ?_ hx.ge ?_
 ·intro b hb;refine hold b (h.nU b hb).1 ?_;rintro⟨k,hk,rfl⟩;exact h.nZ hk hb
 ·intro k
  by_cases h0:s.lv k=.hole
  ·rw[h0];simp[LB.sub]
  ·rcases hkeep k h0 with hd|⟨_,hs⟩
   ·rw[hd];cases s.lv k<;>simp[LB.sub]
   omega
 ·grind
 ·intro k _;refine Vw.Ki ?_ (hx.bU k);intro o ho;unfold fj at ho⊢;have ho':if o=true then w.heap.size<=β' k else w.heap.size<=β' k\/∃j,(s.lv j).live=true/\β j=β' k:=ho
  cases o with
  |true=>grind
  |false=>
   simp only[adC,if_false]at ho'⊢;rcases ho' with h1|⟨j,hj,hj2⟩
   ·omega
   ·have:=h.fJ hj
    grind
 ·intro b hb;rcases(hx.nU b hb).2 with h1|h1
  ·exact .inl h1
  ·have h1':w.heap.size<=b:=h1;exact .inr ⟨(hx.nU b hb).1,ab8 hge h1'⟩
 ·intro b hb hnW;refine hold b (adD hb hge) ?_;rintro⟨k,hk,rfl⟩;rcases h.fJ hk with h1|h1
  ·omega
  grind
def Vu(c:Ctx)(o:Oper)(s:az)(d:DV)(s':az):Prop:=
 ∀(F:Nat->Prop) (β:Key->Nat) (a:Act) (w:World) (K:Act->World->Prop) (Q:Exit->Act->World->Prop),aA c F β s a w ->
  (∀F' β' v a' w',aA c F' β' s' a' w'->Rd (l7 w' F') v d->Q (.panic [{ v:=v,recovered:=false }]) a' w')->o.wp c.P a w K Q
theorem FO(h:aA c F β s a w)(ho:o.op=.call cl)(hcal:cl.callee=.value fo)(hfo:s.val c.G fo=fv)
 (ht:cG fv=some (f,fs,cs)) (hf:aH c.P f=true)
 (hK:∀vs:Array Value,vs.size=(fs++cl.args.toList.map (s.val c.G)++cs).length->(∀i (h:i<(fs++cl.args.toList.map (s.val c.G)++cs).length) (h':i<vs.size),(Vw.mk F β s.lv w).av vs[i] (fs++cl.args.toList.map (s.val c.G)++cs)[i]) ->
  Calls c.P f vs w λe w'=>(∃v,e=.returned v/\K (a.put o.dst v) w')\/∃ch,e=.panicked ch/\Q (.panic ch) a w'):o.wp c.P a w K Q:=by
 obtain⟨fs',cs',h1,h2,h3,h4,h5⟩:=mE (hfo▸h.val fo) ht;have hv:=qK (V:=Vw.mk F β s.lv w) (args':=cl.args.map a.eval) (as:=cl.args.toList.map (s.val c.G)) h2 (by simp) h3 h4 (λi p q=>by simp only[afx,BH,aeq];exact h.val _) h5;have hc:=hK _ hv.1 hv.2
 have hr:(execOp a.eval o).run c.P w=.ok (.enter f (fs'++cl.args.map a.eval++cs')) w:=by
  simp only[execOp,ho,resolve,hcal,h1,Deferred.ofValue,cn,adG,iL,invoke];rw[kZ hf]
 unfold Oper.wp;rw[hr,Oper.upon_enter];refine hc.mono λe w' he=>?_
 grind
theorem cu.U3(hd:∀d,o.dst=some d->d<c.n)(ho:o.op=.call cl)(hcal:cl.callee=.value fo)
 (hfo:s.val c.G fo=fv) (ht:cG fv=some (f,fs,cs)) (hf:aH c.P f=true) (hok:dc s.lv) (hc:cu c.P c.G f (fs++cl.args.toList.map (s.val c.G)++cs) s.lv (.ret x lv')) :
 cx c o s (az.put ⟨s.fr,lv'⟩ o.dst x):=by
 intro F β a w K Q h hK;refine FO h ho hcal hfo ht hf λvs hl hv=>?_;refine(hc F β w vs (h.wQ hok) hl hv).mono λe w' he=>?_;obtain⟨v,F',β',rfl,hS,hav⟩:=he;exact .inl ⟨v,rfl,hK _ _ _ _ (aA.D6 (h.CC hS) hd hav)⟩
theorem cu.abJ{d:DV}(ho:o.op=.call cl)(hcal:cl.callee=.value fo)
 (hfo:s.val c.G fo=fv) (ht:cG fv=some (f,fs,cs)) (hf:aH c.P f=true) (hok:dc s.lv) (hc:cu c.P c.G f (fs++cl.args.toList.map (s.val c.G)++cs) s.lv (.vu d lv')) :
 Vu c o s d ⟨s.fr,lv'⟩:=by
 intro F β a w K Q h hK;refine FO h ho hcal hfo ht hf λvs hl hv=>?_;refine(hc F β w vs (h.wQ hok) hl hv).mono λe w' he=>?_;obtain⟨v,F',β',rfl,hS,hav⟩:=he;exact .inr ⟨_,rfl,hK _ _ v _ _ (h.CC hS) hav⟩
end
def aao(c:Ctx)(fn:Func):Qb->Ex->az->Nat->Prop
 |.ret x lv',.normal,s,_|.ret x lv',.ret,s,_=>eD c.P s fn.results.toList=some x/\s.lv=lv'
 |.vu d lv',.panic d',s,_=>d'=d/\s.lv=lv'
 |_,_,_,_=>False
theorem cu.o9{o:Qb}(hf:P.funcs[f]?=some fn)(hb:fn.body=some code)(hl:args.length<=fn.ntmps)
 (h:∀c:Ctx,c.P=P->c.G=G->c.n=fn.ntmps->c.jd=lv->AW c none code ⟨λt=>args.getD t .undef,lv⟩ κ (aao c fn o)):cu P G f args lv o:=by
 intro F β w vs hS hvl hv;refine calls_of_wp hf hb ?_
 let c:Ctx:={ de P G w F β lv with n:=fn.ntmps }
 have hS':cY c F β lv w:=hS
 let a:Act:={ tmps:=vs++Array.replicate (fn.ntmps-vs.size) undef,defers:=[] }
 have hst:aA c F β ⟨λt=>args.getD t .undef,lv⟩ a w:=by
  refine hS'.with ?_ rfl (λt=>?_)
  ·grind
  ·show(Vw.mk F β lv w).av ((vs++Array.replicate (fn.ntmps-vs.size) undef).getD t undef) (args.getD t .undef)
   by_cases ht:t<args.length
   ·have h1:args.getD t .undef=args[t]:=dW ht
    have h2:(vs++Array.replicate (fn.ntmps-vs.size) undef).getD t undef=vs[t]'(by omega):=by
     rw[adZ,afT (by omega),aeu (by omega)];rfl
    grind
   ·have h1:args.getD t .undef=.undef:=iy ht
    have h2:(vs++Array.replicate (fn.ntmps-vs.size) undef).getD t undef=undef:=by
     rw[adZ,afU (by omega),aeR];split<;>rfl
    rw[h1,h2];rfl
 have hw:=(wpIn_wide (n:=0)).1 (h c rfl rfl rfl rfl F β a w hst);refine wp_mono hw λe a' w' hp=>?_;obtain⟨e',s',κ',F',β',hq,hs',he⟩:=hp
 cases o with
 |ret x lv'=>
  have fin:eD c.P s' fn.results.toList=some x/\s'.lv=lv'->a'.defers=[]/\∃v,(results fn a'.tmps).run P w'=.ok v w'/\Xh P G lv F β w (.ret x lv') (.returned v) w':=by
   rintro⟨h0,h1⟩;obtain⟨v,h4,h5⟩:=uC hs' h0;subst h1;exact⟨hs'.defers,v,h4,v,F',β',rfl,hs'.xN,h5⟩
  cases e' with
  |normal=>cases he;exact fin hq
  |ret=>cases he;exact fin hq
  |exit id=>exact hq.elim
  |goto l=>exact hq.elim
  |panic d=>exact hq.elim
 |vu d lv'=>
  cases e' with
  |normal=>exact hq.elim
  |ret=>exact hq.elim
  |exit id=>exact hq.elim
  |goto l=>exact hq.elim
  |panic d'=>
   obtain⟨rfl,h1⟩:=hq;subst h1;obtain⟨v,rfl,hr⟩:=he;exact⟨hs'.defers,v,F',β',rfl,hs'.xN,hr⟩
section
variable {c:Ctx}{F:Nat->Prop}{β:Key->Nat}{s:az}{a:Act}{w:World}
def uI(lv:Key->LB):AV->Option Bool
 |.c (.ptr k _)=>match lv k with|.cells ..=>some false|_=>none
 |.c (.aE k _ _ _)=>match lv k with|.cells ..=>some false|.bO=>some true|_=>none
 |.c (.mapr k)=>match lv k with|.map ..=>some false|_=>none
 |.c (.d .nilmap)=>some true
 |.c (.func ..)=>some false
 |.c (.d (.func ..))=>some false
 |.c (.d .nilFunc)=>some true
 |.c (.ifc ..)=>some false
 |_=>none
def JQ:AV->AV->Bool
 |.c (.ptr ..),.c (.d .nilp)=>true
 |.c (.aE ..),.c (.d .nilsl)=>true
 |.c (.mapr _),.c (.d .nilmap)=>true
 |.c (.d .nilmap),.c (.d .nilmap)=>true
 |.c (.func ..),.c (.d .nilFunc)=>true
 |.c (.d (.func ..)),.c (.d .nilFunc)=>true
 |.c (.d .nilFunc),.c (.d .nilFunc)=>true
 |.c (.ifc ..),.c (.d .nilIface)=>true
 |_,_=>false
def A3(P:Program)(T:TypeId):AV->Bool
 |.c (.ptr ..)=>match P.underlying T with|some (.pointer _)=>true|_=>false
 |.c (.aE ..)=>match P.underlying T with|some (.slice _)=>true|_=>false
 |.c (.mapr _)|.c (.d .nilmap)=>match P.underlying T with|some (.map _ _)=>true|_=>false
 |.c (.func ..)|.c (.d (.func ..))|.c (.d .nilFunc)=>match P.underlying T with|some (.func _ _ _)=>true|_=>false
 |.c (.ifc ..)=>match P.underlying T with|some (.interface _)=>true|_=>false
 |_=>false
def UQ:AV->List Key
 |.c (.ptr k _)=>[k]
 |.c (.aE k ..)=>[k]
 |.c (.mapr k)=>[k]
 |_=>[]
theorem oq{w:World}{x y:Operand}(hE:∀m,(Op.equalIn (m+1) T u v).run P w=.ok b w)
 (h1:binOp .eql T u v=(do pure (.bool (<-Op.equal T u v)))) (h2:binOp .neq T u v=(do pure (.bool (!(<-Op.equal T u v))))) (h3:eqGuard .eql T x y u v=pure ()) (h4:eqGuard .neq T x y u v=pure ()) :
 (do eqGuard .eql T x y u v;binOp .eql T u v:Sem Value).run P w=.ok (.bool b) w/\(do eqGuard .neq T x y u v;binOp .neq T u v:Sem Value).run P w=.ok (.bool (!b)) w:=by
 have hq:(Op.equal T u v).run P w=.ok b w:=hE 9999
 simp_all
theorem KT{x y:Operand}{p q:AV}(hu:V.av u p)(hv:V.av v q)(hn:uI V.lv p=some b)(hq:JQ p q=true)(hT:A3 P T p=true):
 (do eqGuard .eql T x y u v;binOp .eql T u v:Sem Value).run P V.w=.ok (.bool b) V.w/\(do eqGuard .neq T x y u v;binOp .neq T u v:Sem Value).run P V.w=.ok (.bool (!b)) V.w:=by
 unfold JQ at hq;split at hq
 case h_1 k o=>
  simp only[uI]at hn;split at hn
  ·rename_i e
   simp only[ah]at hn;subst hn;obtain⟨hu,_⟩:=hu;simp only[Vw.dD,e]at hu;obtain⟨hv,_⟩:=hv
   cases hv
   subst hu;simp only[A3]at hT;split at hT
   ·rename_i e hT'
    exact oq (λm=>by simp[Op.equalIn,run_underlying hT']) rfl rfl rfl rfl
   grind
  grind
 case h_2 k o l z=>
  simp only[uI]at hn;obtain⟨hv,_⟩:=hv
  cases hv
  obtain⟨hu,_⟩:=hu;simp only[A3]at hT;split at hT
  ·rename_i e hT'
   split at hn
   ·rename_i e
    simp only[ah]at hn;subst hn;simp only[Vw.cN,e]at hu;obtain⟨cap,rfl,_⟩:=hu;exact oq (λm=>by simp[Op.equalIn,run_underlying hT']) rfl rfl rfl rfl
   ·rename_i e
    simp only[ah]at hn;subst hn;simp only[Vw.cN,e]at hu;rw[hu.1];exact oq (λm=>by simp[Op.equalIn,run_underlying hT']) rfl rfl rfl rfl
   grind
  grind
 case h_3 k=>
  simp only[uI]at hn;split at hn
  ·rename_i e
   simp only[ah]at hn;subst hn;obtain⟨hu,_⟩:=hu;simp only[Vw.lO,e]at hu;obtain⟨hv,_⟩:=hv
   cases hv
   subst hu;simp only[A3]at hT;split at hT
   ·rename_i e hT'
    exact oq (λm=>by simp[Op.equalIn,run_underlying hT']) rfl rfl rfl rfl
   grind
  grind
 case h_4=>
  simp only[uI,ah]at hn;subst hn;obtain⟨hu,_⟩:=hu;cases hu;obtain⟨hv,_⟩:=hv;cases hv;simp only[A3]at hT;split at hT
  ·rename_i e hT'
   exact oq (λm=>by simp[Op.equalIn,run_underlying hT']) rfl rfl rfl rfl
  grind
 case h_5 fn f cs=>
  simp only[uI,ah]at hn;subst hn;obtain⟨_,_,rfl,_⟩:=hu;obtain⟨hv,_⟩:=hv;cases hv;simp only[A3]at hT;split at hT
  ·rename_i e hT'
   exact oq (λm=>by simp[Op.equalIn,run_underlying hT']) rfl rfl rfl rfl
  grind
 case h_6 fn f cs=>
  simp only[uI,ah]at hn;subst hn;obtain⟨hu,_⟩:=hu;cases hu;obtain⟨hv,_⟩:=hv;cases hv;simp only[A3]at hT;split at hT
  ·rename_i e hT'
   exact oq (λm=>by simp[Op.equalIn,run_underlying hT']) rfl rfl rfl rfl
  grind
 case h_7=>
  simp only[uI,ah]at hn;subst hn;obtain⟨hu,_⟩:=hu;cases hu;obtain⟨hv,_⟩:=hv;cases hv;simp only[A3]at hT;split at hT
  ·rename_i e hT'
   exact oq (λm=>by simp[Op.equalIn,run_underlying hT']) rfl rfl rfl rfl
  grind
 case h_8 t r=>
  simp only[uI,ah]at hn;subst hn;obtain⟨_,rfl,_⟩:=hu;obtain⟨hv,_⟩:=hv;cases hv;simp only[A3]at hT;split at hT
  ·rename_i e hT'
   exact oq (λm=>by simp[Op.equalIn,run_underlying hT']) rfl rfl rfl rfl
  grind
 grind
theorem CD{op:BinOp}{T':TypeId}{x y:Operand}(hd:∀d,o.dst=some d->d<c.n)(ho:o.op=.binOp op T x y T')(hop:op=.eql\/op=.neq)
 (hn:uI s.lv (s.val c.G x)=some b) (hq:JQ (s.val c.G x) (s.val c.G y)=true) (hT:A3 c.P T (s.val c.G x)=true) :
 cx c o s (s.put o.dst (.c (.d (.bool (if op=.eql then b else !b))))):=
 cx.aV hd λF β a w hs=>by
  have h:=KT (V:=Vw.mk F β s.lv w) (P:=c.P) (T:=T) (x:=x) (y:=y) (hs.val x) (hs.val y) hn hq hT;rcases hop with rfl|rfl
  ·exact⟨.bool b,by simp only[execOp,ho];have:=h.1;simp only[cn]at this⊢;simp_all,Vw.od _ _⟩
  ·exact⟨.bool (!b),by simp only[execOp,ho];have:=h.2;simp only[cn]at this⊢;simp_all,Vw.od _ _⟩
end
end Go.Am
namespace Go.Am
open Go.Lib
variable {T e T' ty pt it kT eT:TypeId}{d:DV}{o:Oper}{x y m kx:Operand}{own ok b fz:Bool}{κ k:Key}{l:List UInt8}{cs:List CV}{v z:Value}{es:List (DV×AV)}{n sz off:Nat}{i:TypeInfo}{V:Vw}{P:Program}{vals:List AV}{ds:List DV}{lo hi:Option Operand}{h:Int}{op:Op}
def ff(l:List UInt8):List CV:=l.map λb=>.d (.int .u8 (b.toNat:Int))
theorem ki(l:List UInt8):(ff l).length=l.length:=by simp[ff]
theorem Oz(b:UInt8):IntKind.u8.wrap (b.toNat:Int)=(b.toNat:Int):=by
 refine c6 ?_;have:=UInt8.toNat_lt b;simp only[Cf,rR];omega
section
variable {c:Ctx}{F:Nat->Prop}{β:Key->Nat}{s:az}{a:Act}{w:World}
theorem Rc(V:Vw)(b:UInt8):V.cv (.int .u8 (b.toNat:Int)) (.d (.int .u8 (b.toNat:Int))):=⟨.int _ _ (Oz b),rfl⟩
theorem E7(l:List UInt8):strCells ⟨l.toArray⟩=l.map λb=>Value.int .u8 (b.toNat:Int):=by
 rfl
theorem zf(V:Vw)(l:List UInt8):∀i (h:i<(ff l).length) (h':i<(strCells ⟨l.toArray⟩).length),V.cv (strCells ⟨l.toArray⟩)[i] (ff l)[i]:=by
 intro i h h';simp only[E7,ff,BH];exact Rc V _
theorem dA(l:List UInt8):(ByteArray.mk l.toArray).size=l.length:=by rfl
theorem aA.s6(hs:aA c F β s a w)(hκ:s.lv κ=.hole)(hT:fk c.P T=some (e,1))(hT':cA c.P T'=true)
 (hi:c.P.info? e=some i) (hz:i.zero=some z) (hzs:z.cells.size=1) (h63:l.length<=9223372036854775807) (hb:l.length*i.bytes<=140737488355328) :
 ∃v F' β' w',(Builtin.append_ #[T,T'] ty #[.slice none 0 0,.string ⟨l.toArray⟩]).run c.P w=.ok v w' /\
  aA c F' β' ⟨s.fr,au s.lv κ (if l.length=0 then .bO else .cells true false e (ff l))⟩ a w' /\
  (Vw.mk F' β' (au s.lv κ (if l.length=0 then .bO else .cells true false e (ff l))) w').cv v (.aE κ 0 l.length 1):=by
 obtain⟨hu,hie,hsz⟩:=dN hT;have hsize:i.size=1:=by rw[<-hsz];simp[gS,hi]
 have hstr:=iw hT';have hf:=run_firstCells_string (P:=c.P) w 1 ⟨l.toArray⟩;rw[dA]at hf
 by_cases hm:l.length=0
 ·have hl:l=[]:=aeA hm;subst hl
  have hn:aA c F β ⟨s.fr,au s.lv κ .bO⟩ a w:=by
   refine hs.step (λ_ h=>h) (λ_ _=>rfl) ?_ (λ_ _ _=>rfl) (λ_=>aU _) ?_ ?_ (λb h=>.inl h) (aU _) (λ_ _ _=>rfl)
   ·intro k
    by_cases e:k=κ
    ·subst e;rw[hκ];simp[LB.sub]
    ·rw[aF _ _ e];exact LB.bG _
   ·intro k hK
    by_cases e:k=κ
    ·subst e;unfold Vw.bU;simp only[aC]
    ·exact Vw.bQ (hs.bU k) hK (aF _ _ e) rfl rfl (λ_ h=>h)
   ·intro k1 k2 g1 g2 he
    have g:∀k',(au s.lv κ .bO k').live=true->(s.lv k').live=true:=by
     intro k' hk'
     by_cases e:k'=κ
     ·subst e;rw[aC]at hk';simp[LB.live]at hk'
     ·rwa[aF _ _ e]at hk'
    exact hs.inj _ _ (g _ g1) (g _ g2) he
  refine⟨.slice none 0 0,F,β,w,?_,by simpa using hn,?_⟩
  ·simp at hf;simp[Builtin.append_,run_underlying hu,run_underlying hstr,sizeOf,typeInfo,hi,hsize,Builtin.lenOf,hf,dA]
  ·simp[Vw.cv,Vw.cN,aC,Value.oneCell']
 ·have he:(Builtin.append_ #[T,T'] ty #[.slice none 0 0,.string ⟨l.toArray⟩]).run c.P w=(Builtin.append_ #[T,T'] ty #[.slice (some ⟨0,0,none⟩) 0 0,.string ⟨l.toArray⟩]).run c.P w:=by
   have h1:¬(9223372036854775807<(l.length:Int)):=by omega
   have h2:=growslice_fits (old:=0) (by omega:0<l.length) hb;simp[Builtin.append_,run_underlying hu,run_underlying hstr,sizeOf,typeInfo,hi,hsize,Builtin.lenOf,dA,hm,Builtin.firstCells,loadCells,loadCellsFrom,Nat.not_lt.2 h2]
  have hr:=run_append_grow_string (P:=c.P) w T T' ty e i z hu hstr hi hz ⟨0,0,none⟩ 0 0 [] (by simp) (by simp) ⟨l.toArray⟩ (by rw[dA];omega) (by rw[dA];omega) (by
   rw[dA];simpa using growslice_fits (old:=0) (by omega:0<l.length) hb)
  rw[<-he]at hr;simp only[dA,adx]at hr;have hd:aA c F β s a w.drew:=hs.heap rfl;have hge:=grownCap_ge w l.length 0 e
  have hal:=hd.alloc hκ (arr:=([]:List Value).toArray++(strCells ⟨l.toArray⟩).toArray++Builtin.zeroCells z.cells (grownCap w l.length 0 e-l.length)) e (cs:=ff l) (by simp[ki,strCells_length,dA]) (λj p q=>by
   have hj:j<(strCells ⟨l.toArray⟩).length:=by rw[strCells_length,dA];rwa[ki]at p
   have:(([]:List Value).toArray++(strCells ⟨l.toArray⟩).toArray++Builtin.zeroCells z.cells (grownCap w l.length 0 e-l.length))[j]=(strCells ⟨l.toArray⟩)[j]:=by
    rw[aeB (by simpa using hj)];simp
   rw[this];exact zf _ _ _ _ _)
  refine⟨_,F,au β κ w.heap.size,_,hr,by simpa[hm]using hal,?_⟩;simp only[hm,if_false,Vw.cv,Vw.cN,aC];refine⟨⟨_,rfl,hge,?_⟩,rfl⟩;simp only[cM,heap_alloc,World.size_drew,if_true,afz,afj,size_zeroCells,strCells_length,dA,hzs,List.length_nil];omega
theorem aA.tq(hs:aA c F β s a w)(hκ:s.lv κ=.hole)(hT:fk c.P T=some (e,1))(hT':cA c.P T'=true)
 (hi:c.P.info? e=some i) (hz:i.zero=some z)(hy:s.val c.G y=.c (.aE k 0 n 1)) (hk:s.lv k=.cells own false e cs) (hfull:cs.length=n)
 (hzs:z.cells.size=1) (h63:n+l.length<=9223372036854775807) (hb:(n+l.length)*i.bytes<=140737488355328) :
 ∃v F' β' w',(Builtin.append_ #[T,T'] ty #[a.eval y,.string ⟨l.toArray⟩]).run c.P w=.ok v w' /\
  aA c F' β' ⟨s.fr,au (au s.lv k .dead) κ (.cells own false e (cs++ff l))⟩ a w' /\
  (Vw.mk F' β' (au (au s.lv k .dead) κ (.cells own false e (cs++ff l))) w').cv v (.aE κ 0 (n+l.length) 1):=by
 obtain⟨hu,hie,hsz⟩:=dN hT;have hsize:i.size=1:=by rw[<-hsz];simp[gS,hi]
 have hstr:=iw hT';have hkκ:k≠κ:=λe=>by grind
 have hv:=hy▸hs.val y;obtain⟨hv,_⟩:=hv;simp only[Vw.cN,hk]at hv;obtain⟨cap,yf,UB,hv3⟩:=hv;have hbk:=hs.bU k;unfold Vw.bU at hbk;simp only[hk]at hbk;obtain⟨arr,g1,g2,g3,g4,g5⟩:=hbk;have has:cM w (β k)=arr.size:=by simp[cM,g1]
 rw[has]at hv3;simp only[adx,ad3]at hv3;rw[yf];have hvl:(strCells ⟨l.toArray⟩).length=l.length:=by rw[strCells_length,dA]
 have hbl:=ki l
 by_cases hroom:n+l.length<=cap
 ·have hr:=run_append_room_string (P:=c.P) w T T' ty e i hu hstr hi hsize (β k) n cap arr g1 ⟨l.toArray⟩ (by rw[dA];omega) (by rw[dA];omega);rw[dA]at hr
  have hseg:arr.toList.take n++strCells ⟨l.toArray⟩++arr.toList.drop (n+l.length)=aj arr.toList n (strCells ⟨l.toArray⟩):=by
   unfold aj;rw[hvl]
  rw[hseg]at hr;have hle:n+(strCells ⟨l.toArray⟩).length<=arr.toList.length:=by rw[hvl];simp;omega
  have hset:=hs.setRow (arr:=(aj arr.toList n (strCells ⟨l.toArray⟩)).toArray) hk g1 (cs':=cs) (by grind) (by grind) (λj p q=>by
   grind)
  have hsame:au s.lv k (.cells own false e cs)=s.lv:=by
   funext t;unfold au;split
   ·grind
   ·rfl
  rw[hsame]at hset
  have hK:(Vw.mk F β s.lv w).js (Vw.mk F β s.lv (w.setRow (β k) (aj arr.toList n (strCells ⟨l.toArray⟩)).toArray)):=
   Vw.ju (λ_ h=>h) (λb hb=>setRow_other _ _ _ _ (λe=>by
    grind)) (λ_=>LB.bG _) (λ_ _ _=>rfl) (λb=>by rw[ic w (β k) arr _ e (0,0) g1 (by grind) b];simp)
  have hmv:=hset.move (k:=k) (κ:=κ) hk hκ (cs':=cs++ff l) (arr:=(aj arr.toList n (strCells ⟨l.toArray⟩)).toArray) (setRow_heap w _ arr _ e (0,0) g1) (by grind) (λj p q=>by
   simp only[aeZ];rw[eZ _ _ _ hle j (by omega)]
   by_cases hj:j<n
   ·rw[dif_neg (by omega),aea (by omega)];simp only[aeq];exact hK.cv (g3 _ _ _)
   ·rw[dif_pos ⟨by omega,by grind⟩,aer (by omega)];simp only[hfull];exact zf _ _ _ _ _)
  refine⟨_,_,_,_,hr,hmv,⟨?_,rfl⟩⟩;simp only[Vw.cN,aC];refine⟨cap,rfl,hroom,?_⟩;rw[ic w (β k) arr _ e (0,0) g1 (by grind)];omega
 ·have holds:∀j u,(arr.toList.take n)[j]?=some u->w.cell? ((⟨β k,0,none⟩:Addr).add j)=some u:=by
   intro j u hu;rw[afy]at hu;split at hu
   ·rw[Array.getElem?_toList]at hu;rw[aek,cell_of_row w _ _ _ _ _ g1,adx];exact hu
   ·cases hu
  have hn:n<=arr.size:=by omega
  have hr:=run_append_grow_string (P:=c.P) w T T' ty e i z hu hstr hi hz ⟨β k,0,none⟩ n cap (arr.toList.take n) (by grind) holds ⟨l.toArray⟩ (by rw[dA];omega) (by rw[dA];omega) (by rw[dA];exact growslice_fits (by omega) hb);rw[dA]at hr;have hd:aA c F β s a w.drew:=hs.heap rfl
  have hal:=(hd.kill k).alloc (κ:=κ) (by show au s.lv k .dead κ=_;rw[aF _ _ (Ne.symm hkκ)];exact hκ) (arr:=((arr.toList.take n).toArray++(strCells ⟨l.toArray⟩).toArray++Builtin.zeroCells z.cells (grownCap w (n+l.length) cap e-(n+l.length)))) e (cs:=cs++ff l)
   (by simp;omega) (λj p q=>by
    have hK2:(Vw.mk F β s.lv w).js (Vw.mk F β (au s.lv k .dead) w.drew):=Vw.ju (λ_ h=>h) (λ_ _=>rfl) (λt=>by
     by_cases e:t=k
     ·subst e;show LB.sub (s.lv t) (au s.lv t .dead t);rw[aC];cases s.lv t<;>simp[LB.sub]
     ·show LB.sub (s.lv t) (au s.lv k .dead t);rw[aF _ _ e];exact LB.bG _) (λ_ _ _=>rfl) (λ_=>aU _)
    simp only[ac8]at p;have hto:(arr.toList.take n).length=n:=by simp;omega
    by_cases hj:j<n
    ·have e1:((arr.toList.take n).toArray++(strCells ⟨l.toArray⟩).toArray++Builtin.zeroCells z.cells (grownCap w (n+l.length) cap e-(n+l.length)))[j]=arr[j]'(by omega):=by
      rw[aeB (by simp;omega),aeB (by simp;omega)];simp
     rw[e1,aea (by omega)];exact hK2.cv (g3 _ _ _)
    ·have e1:((arr.toList.take n).toArray++(strCells ⟨l.toArray⟩).toArray++Builtin.zeroCells z.cells (grownCap w (n+l.length) cap e-(n+l.length)))[j]=(strCells ⟨l.toArray⟩)[j-n]'(by omega):=by
      rw[aeB (by simp;omega),Array.getElem_append_right (by simp;omega)];simp[hto]
     rw[e1,aer (by omega)];simp only[hfull];exact zf _ _ _ _ _)
  have hun:=hal.oZ (k:=κ) own Cm;rw[D0]at hun;refine⟨_,_,_,_,hr,hun,⟨?_,rfl⟩⟩;simp only[Vw.cN,aC];refine⟨_,rfl,grownCap_ge w (n+l.length) cap e,?_⟩;have hge:=grownCap_ge w (n+l.length) cap e;simp only[cM,heap_alloc,World.size_drew,if_true,afz,afj,size_zeroCells,hvl,hzs,ac7,aeJ];omega
end
section
variable {c:Ctx}{F:Nat->Prop}{β:Key->Nat}{s:az}{a:Act}{w:World}
theorem lY(hd:∀d,o.dst=some d->d<c.n)
 (ho:o.op=.call { callee:=.builtin .append,args:=#[y,x],argTypes:=#[T,T'] }) (hκ:s.lv κ=.hole) (hy:s.val c.G y=.c (.d .nilsl)\/∃k,s.val c.G y=.c (.aE k 0 0 1)/\s.lv k=.bO) (hT:fk c.P T=some (e,1)) (hT':cA c.P T'=true)
 (hi:c.P.info? e=some i) (hz:i.zero=some z) (hx:s.val c.G x=.c (.d (.str l))) (hzs:z.cells.size=1) (h63:l.length<=9223372036854775807) (hb:l.length*i.bytes<=140737488355328) :
 cx c o s (az.put ⟨s.fr,au s.lv κ (if l.length=0 then .bO else .cells true false e (ff l))⟩ o.dst (.c (.aE κ 0 l.length 1))):=
 cx.eU hd λF β a w hs=>by
  obtain⟨v,F',β',w',h1,h2,h3⟩:=hs.s6 (ty:=o.type) hκ hT hT' hi hz hzs h63 hb;refine⟨v,F',β',w',?_,h2,h3⟩;have hxv:=Vw.jD (hx▸hs.val x)
  have hu:a.eval y=.slice none 0 0:=by
   rcases hy with hy|⟨k,hy,hk⟩
   ·have hv:=hy▸hs.val y;obtain⟨hv,_⟩:=hv;obtain⟨u,hu⟩:∃u,a.eval y=u:=⟨_,rfl⟩
    rw[hu]at hv ⊢
    cases hv;rfl
   ·have hv:=hy▸hs.val y;obtain⟨hv,_⟩:=hv;simp only[Vw.cN,hk]at hv
    grind
  simp[execOp,ho,resolve,invoke,builtin,hu,hxv,h1]
theorem sF(hd:∀d,o.dst=some d->d<c.n)
 (ho:o.op=.call { callee:=.builtin .append,args:=#[y,x],argTypes:=#[T,T'] }) (hκ:s.lv κ=.hole) (hT:fk c.P T=some (e,1)) (hT':cA c.P T'=true)
 (hi:c.P.info? e=some i) (hz:i.zero=some z) (hy:s.val c.G y=.c (.aE k 0 n 1)) (hk:s.lv k=.cells own false e cs) (hfull:cs.length=n)
 (hx:s.val c.G x=.c (.d (.str l))) (hzs:z.cells.size=1) (h63:n+l.length<=9223372036854775807) (hb:(n+l.length)*i.bytes<=140737488355328) :
 cx c o s (az.put ⟨s.fr,au (au s.lv k .dead) κ (.cells own false e (cs++ff l))⟩ o.dst (.c (.aE κ 0 (n+l.length) 1))):=
 cx.eU hd λF β a w hs=>by
  obtain⟨v,F',β',w',h1,h2,h3⟩:=hs.tq (ty:=o.type) (l:=l) hκ hT hT' hi hz hy hk hfull hzs h63 hb;have hxv:=Vw.jD (hx▸hs.val x);exact⟨v,F',β',w',by simp[execOp,ho,resolve,invoke,builtin,hxv,h1],h2,h3⟩
theorem BR{len:Nat}{T0:TypeId}(hd:∀d,o.dst=some d->d<c.n)
 (ho:o.op=.call { callee:=.builtin .unsafeSliceData,args:=#[x],argTypes:=#[T] }) (hx:s.val c.G x=.c (.aE k off len sz)) (hk:s.lv k=.cells own fz T0 cs) (hlen:0<len) :
 cx c o s (s.put o.dst (.c (.ptr k off))):=
 cx.aV hd λF β a w hs=>by
  have hv:=hx▸hs.val x;obtain⟨hv,_⟩:=hv;simp only[Vw.cN,hk]at hv;obtain⟨cap,yf,UB,hv3⟩:=hv;refine⟨.pointer (some ⟨β k,off,none⟩),?_,?_⟩
  ·have:=run_unsafeSliceData_row (P:=c.P) w #[T] o.type ⟨β k,off,none⟩ len cap (by omega);simp[execOp,ho,resolve,invoke,builtin,yf,this]
  ·exact⟨by simp only[Vw.dD,hk],rfl⟩
theorem mL(hd:∀d,o.dst=some d->d<c.n)
 (ho:o.op=.call { callee:=.builtin .unsafeSliceData,args:=#[x],argTypes:=#[T] }) (hx:s.val c.G x=.c (.d .nilsl)\/∃k,s.val c.G x=.c (.aE k 0 0 1)/\s.lv k=.bO) :
 cx c o s (s.put o.dst (.c (.d .nilp))):=
 cx.aV hd λF β a w hs=>by
  have hu:a.eval x=.slice none 0 0:=by
   rcases hx with hy|⟨k,hy,hk⟩
   ·have hv:=hy▸hs.val x;obtain⟨hv,_⟩:=hv;obtain⟨u,hu⟩:∃u,a.eval x=u:=⟨_,rfl⟩
    rw[hu]at hv ⊢
    cases hv;rfl
   ·have hv:=hy▸hs.val x;obtain⟨hv,_⟩:=hv;simp only[Vw.cN,hk]at hv
    grind
  refine⟨.pointer none,?_,.nilp,rfl⟩;simp[execOp,ho,resolve,invoke,builtin,hu,run_unsafeSliceData_nil]
theorem pQ(hd:∀d,o.dst=some d->d<c.n)
 (ho:o.op=.call { callee:=.builtin .unsafeString,args:=#[x,y],argTypes:=#[pt,it] }) (hx:s.val c.G x=.c (.d .nilp)) (hy:s.val c.G y=.c (.d (.int .i64 0))) :
 cx c o s (s.put o.dst (.c (.d (.str [])))):=
 cx.aV hd λF β a w hs=>by
  have hv:=hx▸hs.val x;obtain⟨hv,_⟩:=hv;obtain⟨u,hu⟩:∃u,a.eval x=u:=⟨_,rfl⟩
  rw[hu]at hv;have hyv:=Vw.gm (hy▸hs.val y)
  cases hv
  refine⟨.string .empty,?_,?_⟩
  ·have:=run_unsafeString_none (P:=c.P) w pt it o.type none;simp[execOp,ho,resolve,invoke,builtin,hu,hyv,this]
  ·have:ByteArray.empty=⟨([]:List UInt8).toArray⟩:=rfl;rw[this];exact Vw.tg _ _ (by simp)
def uU:List CV->Option (List UInt8)
 |[]=>some []
 |.d (.int .u8 n)::r=>match n with
  |.ofNat m=>if m<256 then(match uU r with|some l=>some (UInt8.ofNat m::l)|none=>none)else none
  |_=>none
 |_=>none
theorem zk:∀{cs:List CV}{l:List UInt8},uU cs=some l->cs=ff l
 |[],l,h=>by simp only[uU,ah]at h;subst h;rfl
 |x::r,l,h=>by
  unfold uU at h;split at h
  ·grind
  ·rename_i n r' h0
   simp only[adH]at h0;obtain⟨rfl,rfl⟩:=h0;split at h
   ·rename_i m
    split at h
    ·rename_i hm
     split at h
     ·rename_i l' hl
      simp only[ah]at h;subst h;have:=zk hl;simp only[ff,ac4]at this⊢;rw[this];congr 3;have:(UInt8.ofNat m).toNat=m:=by simp[UInt8.toNat_ofNat'];omega
      grind
     grind
    grind
   grind
  grind
theorem aA.E9(h:aA c F β s a w)(hk:s.lv k=.cells own false T cs)(n:Nat):
 aA c F β ⟨s.fr,au s.lv k .dead⟩ a (w.freeze ⟨β k,0,none⟩ n):=by
 have hlive:(s.lv k).live=true:=by rw[hk];rfl
 have hoth:∀b,b≠β k->(w.freeze ⟨β k,0,none⟩ n).heap[b]?=w.heap[b]?:=by
  intro b hb;unfold World.freeze;split
  ·rfl
  ·grind
 have hsz:(w.freeze ⟨β k,0,none⟩ n).heap.size=w.heap.size:=by
  unfold World.freeze;split<;>simp
 have has:∀b,cM w b=cM (w.freeze ⟨β k,0,none⟩ n) b:=by
  intro b
  by_cases e:b=β k
  ·subst e;unfold World.freeze;split
   ·rfl
   ·simp only[cM,Array.getElem?_modify,if_true]
    grind
  ·simp only[cM,hoth b e]
 refine h.step (hoo:=by unfold World.freeze;grind) (λ_ h=>h) (λb hb=>hoth b (λe=>h.nZ hlive (e▸hb))) ?_ (λ_ _ _=>rfl) (λb=>aeD (has b)) ?_ ?_ (λb h=>.inl h) (aeD hsz.symm) ?_
 ·intro k'
  by_cases e:k'=k
  ·subst e;rw[aC];cases s.lv k'<;>simp[LB.sub]
  ·rw[aF _ _ e];exact LB.bG _
 ·intro k' hK
  by_cases e:k'=k
  ·subst e;unfold Vw.bU;simp only[aC]
  ·have hb:=h.bU k'
   by_cases hl:(s.lv k').live=true
   ·exact Vw.bQ hb hK (aF _ _ e) rfl (hoth _ (λe'=>e (h.inj _ _ hl hlive e'))) (λ_ h=>h)
   ·cases ek:s.lv k' with
    |cells o fz T' cs'=>
     cases fz with
     |false=>rw[ek]at hl;exact absurd rfl hl
     |true=>
      have hF:F (β k'):=by unfold Vw.bU at hb;simp only[ek]at hb;obtain⟨_,_,_,_,h4,_⟩:=hb;exact h4
      exact Vw.bQ hb hK (aF _ _ e) rfl (hoth _ (λe'=>h.nZ hlive (e'▸hF))) (λ_ h=>h)
    |map o es=>rw[ek]at hl;exact absurd rfl hl
    |hole=>unfold Vw.bU;simp only[aF _ _ e,ek]
    |dead=>unfold Vw.bU;simp only[aF _ _ e,ek]
    |bO=>unfold Vw.bU;simp only[aF _ _ e,ek]
 ·intro k1 k2 a1 a2 he
  have g:∀k',(au s.lv k .dead k').live=true->(s.lv k').live=true:=by
   intro k' hk'
   by_cases e:k'=k
   ·grind
   ·rwa[aF _ _ e]at hk'
  exact h.inj _ _ (g _ a1) (g _ a2) he
 ·intro b hb hnW;refine hoth b (λe=>?_);rcases h.fJ hlive with h1|h1
  ·omega
  grind
theorem wO(hd:∀d,o.dst=some d->d<c.n)
 (ho:o.op=.call { callee:=.builtin .unsafeString,args:=#[x,y],argTypes:=#[pt,it] }) (hx:s.val c.G x=.c (.ptr k 0)) (hk:s.lv k=.cells own false e cs) (hy:s.val c.G y=.c (.d (.int .i64 l.length)))
 (hp:c.P.underlying pt=some (.pointer e)) (hc:c.P.cellsOf e=1) (hl:cs.take l.length=ff l) (h0:l≠[]) (h63:l.length<=9223372036854775807) :
 cx c o s (az.put ⟨s.fr,au s.lv k .dead⟩ o.dst (.c (.d (.str l)))):=
 cx.eU hd λF β a w hs=>by
  have hv:=hx▸hs.val x;obtain⟨hv,_⟩:=hv;simp only[Vw.dD,hk]at hv;have hyv:=Vw.gm (hy▸hs.val y);have hb:=hs.bU k;unfold Vw.bU at hb;simp only[hk]at hb;obtain⟨arr,b1,b2,b3,b4,b5⟩:=hb
  have hll:l.length<=cs.length:=by
   have:=congrArg List.length hl;rw[ac7,ki]at this;omega
  have hcell:∀j x,l[j]?=some x->w.cell? ((⟨β k,0,none⟩:Addr).add j)=some (.int .u8 x.toNat):=by
   intro j x hj;obtain⟨hj1,hj2⟩:=List.getElem?_eq_some_iff.1 hj
   have h1:cs[j]'(by omega)=.d (.int .u8 (x.toNat:Int)):=by
    have h2:(cs.take l.length)[j]?=some (cs[j]'(by omega)):=by
     rw[afy,if_pos hj1,bp (by omega)]
    rw[hl,ff,aet,hj]at h2;simpa using h2.symm
   have h3:=b3 j (by omega) (by omega);rw[h1]at h3;have h4:=Vw.gm (V:=Vw.mk F β s.lv w) h3
   have h5:(⟨β k,0,none⟩:Addr).add j=⟨β k,j,none⟩:=by
    unfold Addr.add;by_cases e:j=0
    ·simp
    ·simp[e]
   rw[h5,gu b1 (by omega),h4]
  have hr:=run_unsafeString_row (P:=c.P) w pt it o.type e hp hc (β k) arr.size (by simp[World.shape?,b1]) l h0 (by omega) h63 hcell;refine⟨.string ⟨l.toArray⟩,F,β,w.freeze ⟨β k,0,none⟩ l.length,?_,hs.E9 hk l.length,Vw.tg _ _ h63⟩;simp[execOp,ho,resolve,invoke,builtin,hv,hyv,hr]
theorem zh{S:TypeId}(hd:∀d,o.dst=some d->d<c.n)(ho:o.op=.convert S T x)
 (hx:s.val c.G x=.c (.d (.str l))) (hS:cA c.P S=true) (hT:fk c.P T=some (e,1)) (he:c.P.underlying e=some (.int .u8)) (h63:l.length<=9223372036854775807) :
 cx c o s (s.put o.dst (.c (.d (.sl (l.map λb=>[.int .u8 (b.toNat:Int)]))))):=by
 have hput:s.put o.dst (.c (.d (.sl (l.map λb=>[.int .u8 (b.toNat:Int)]))))=az.put ⟨s.fr,s.lv⟩ o.dst (.c (.d (.sl (l.map λb=>[.int .u8 (b.toNat:Int)])))):=rfl;rw[hput];refine cx.eU hd λF β a w hs=>?_;have hxv:=Vw.jD (hx▸hs.val x);obtain⟨hu,_,_⟩:=dN hT;have hstr:=iw hS;have hr:=Go.Lib.run_convert_string_bytes (P:=c.P) w S T e ⟨l.toArray⟩ hstr hu he;rw[dA]at hr;have hold:∀b,b<w.heap.size->(bytesWorld w e ⟨l.toArray⟩).heap[b]?=w.heap[b]?:=λb hb=>bytesWorld_at_old w e _ b hb
 have hsz:=bytesWorld_size w e ⟨l.toArray⟩;have hge:=hs.ge
 have hst:aA c (λb=>F b\/b=w.heap.size) β s a (bytesWorld w e ⟨l.toArray⟩):=by
  refine hs.step (λ_ h=>.inl h) (λb hb=>hold b (hs.nU b hb).1) (λk=>LB.bG _) (λ_ _ _=>rfl) (λb=>?_) ?_ hs.inj (λb hb=>?_) (by omega) (λb hb _=>hold b (by omega))
  ·by_cases hb:b<w.heap.size
   ·simp only[cM,hold b hb];simp
   ·have:w.heap[b]?=none:=Array.getElem?_eq_none (by omega);simp[cM,this]
  ·intro k hK;have hb:=hs.bU k
   have hlt:(∃own fz T cs,s.lv k=.cells own fz T cs)\/(∃own es,s.lv k=.map own es)->β k<w.heap.size:=by
    unfold Vw.bU at hb;rintro(⟨o,fz,T,cs,e⟩|⟨o,es,e⟩)
    ·grind
    ·grind
   cases ek:s.lv k with
   |cells own fz T cs=>
    have:=hlt (.inl ⟨_,_,_,_,ek⟩);exact Vw.bQ hb hK rfl rfl (hold _ this) (λ_ hf=>hf.resolve_right (by grind))
   |map own es=>
    have:=hlt (.inr ⟨_,_,ek⟩);exact Vw.bQ hb hK rfl rfl (hold _ this) (λ_ hf=>hf.resolve_right (by grind))
   |hole=>unfold Vw.bU;grind
   |dead=>unfold Vw.bU;grind
   |bO=>unfold Vw.bU;grind
  ·grind
 refine⟨.slice (some ⟨w.heap.size,0,none⟩) l.length (grownCap w l.length 0 e),_,β,_,by simp[execOp,ho,hxv,hr],hst,?_,rfl⟩;have hcap:=grownCap_ge w l.length 0 e
 have key:=Rd.sl (M:=l7 (bytesWorld w e ⟨l.toArray⟩) (λb=>F b\/b=w.heap.size)) w.heap.size 0 (grownCap w l.length 0 e) 1 (l.map λb=>[DV.int .u8 (b.toNat:Int)]) (λi _=>.int .u8 (l.getD i 0).toNat)
  (by simp) (by grind) (by grind) ?_ (by intros;rfl) ?_
 ·rwa[ac5]at key
 ·intro i hi j hj;simp at hi;refine⟨.inr rfl,?_⟩;have:=bytesWorld_cell w e ⟨l.toArray⟩ i (by rw[dA];exact hi)
  grind
 ·intro i hi j hj;simp at hi hj;have hj0:j=0:=by omega
  subst hj0;simp only[BH,adW];have:l.getD i 0=l[i]:=by rw[ac2,bp hi];rfl
  rw[this];exact .int _ _ (Oz _)
end
def Gk:DV->AV
 |.agg l=>.agg (l.map .d)
 |x=>.c (.d x)
theorem Vw.Gk(h:Rd V.mem v d):V.av v (Am.Gk d):=by
 cases h with
 |agg arr cs hl ho hr=>
  refine⟨arr,rfl,by grind,λi p q=>?_⟩;simp only[BH];exact⟨hr i (by omega),ho i q⟩
 |_=>first
  |exact⟨.bool _,rfl⟩
  |exact⟨.int _ _ (by assumption),rfl⟩
  |exact⟨.str _ (by assumption),rfl⟩
  |exact⟨.nilp,rfl⟩
  |exact⟨.nilsl,rfl⟩
  |exact⟨.nilIface,rfl⟩
  |exact⟨.nilFunc,rfl⟩
  |exact⟨.nilmap,rfl⟩
  |exact⟨.ptr _ _ _ _ (by assumption) (by assumption) (by assumption),rfl⟩
  |exact⟨.sl _ _ _ _ _ _ (by assumption) (by assumption) (by assumption) (by assumption) (by assumption) (by assumption),rfl⟩
  |exact⟨.iface _ _ _ (by assumption),rfl⟩
  |exact⟨.func _ _ _ _ _ (by assumption) (by assumption) (by assumption) (by assumption),rfl⟩
theorem AL(d:DV):∀l,Gk d≠.tup l:=by intro l;cases d<;>simp[Gk]
def er(P:Program)(T:TypeId)(d:DV):Bool:=
 match P.underlying T,d with
 |some (.int k),.int k' _=>decide (k=k')
 |some .string,.str _=>true
 |some .bool,.bool _=>true
 |_,_=>false
def kg(P:Program):List Field->List DV->Bool
 |[],_=>true
 |f::r,ds=>f.name != "_" && (match cZ P f.type with|some false=>true|_=>false)&&(match ds[f.offset]? with|some d=>er P f.type d|none=>false)&&kg P r ds
def fX(P:Program)(T:TypeId)(d:DV):Bool:=
 match P.underlying T,d with
 |some (.struct fs),.agg ds=>!P.stoodInHeld T&&kg P fs.toList ds&&fs.toList.map (·.offset)==List.range ds.length
 |_,d=>er P T d
def oh:DV->DV->Bool
 |.int k a,.int k' b=>decide (k=k')&&a==b
 |.str a,.str b=>a==b
 |.bool a,.bool b=>a==b
 |_,_=>false
theorem Kl{e:DV}(h:oh d e=true):d=e:=by
 unfold oh at h
 grind
def Ir:List DV->List DV->Bool
 |[],[]=>true
 |a::l,b::m=>oh a b&&Ir l m
 |_,_=>false
theorem Kz:∀{l m:List DV},Ir l m=true->l=m
 |[],[],_=>rfl
 |a::l,b::m,h=>by simp only[Ir,cy]at h;rw[Kl h.1,Kz h.2]
 |[],_::_,h=>by cases h
 |_::_,[],h=>by cases h
def vG:DV->DV->Bool
 |.agg a,.agg b=>Ir a b
 |a,b=>oh a b
theorem QO{e:DV}(h:vG d e=true):d=e:=by
 unfold vG at h;split at h
 ·rw[Kz h]
 ·exact Kl h
theorem yW(a b:List UInt8):(ByteArray.mk a.toArray==ByteArray.mk b.toArray)=(a==b):=by
 rw[Bool.eq_iff_iff,MapKept.bytes_beq,beq_iff_eq];simp
section
variable {P:Program}{w:World}{M:Mem}
theorem G7(h:er P T d=true)(hv:Rd M v d):v=d.gh:=by
 unfold er at h;split at h
 ·cases hv;rfl
 ·cases hv with|str s hl=>rfl
 ·cases hv;rfl
 grind
theorem NC{t:TypeDesc}{e:DV}(hT:P.underlying T=some t)(h1:er P T d=true)(h2:er P T e=true):Instr.sameNow t d.gh e.gh=some (oh d e):=by
 unfold er at h1 h2;rw[hT]at h1 h2
 cases t<;>cases d<;>simp at h1<;>cases e<;>simp at h2
 ·rfl
 ·subst h1;subst h2;simp[DV.gh,Instr.sameNow,oh]
 ·rename_i a b
  simp only[DV.gh,Instr.sameNow,oh,ah];exact yW a b
theorem JR{e:DV}(h1:er P T d=true)(h2:er P T e=true)(n:Nat):(Op.equalIn (n+1) T d.gh e.gh).run P w=.ok (oh d e) w:=by
 unfold er at h1 h2
 cases hT:P.underlying T with
 |none=>grind
 |some t=>
  rw[hT]at h1 h2
  cases t<;>cases d<;>simp at h1<;>cases e<;>simp at h2
  ·rename_i a b;simp only[DV.gh,oh];exact run_equalIn_bool' w n T a b hT
  ·subst h1;subst h2;simp only[DV.gh,oh,decide_true,Bool.true_and];exact run_equalIn_int w n T _ _ _ _ hT
  ·simp only[DV.gh,oh];rw[run_equalIn_string w n T _ _ hT,toList_mk,toList_mk]
theorem zv(h1:er P T d=true)(em:Bool)(n:Nat):(Instr.checkKey em (n+1) T d.gh).run P w=.ok () w:=by
 unfold er at h1
 cases hT:P.underlying T with
 |none=>grind
 |some t=>
  rw[hT]at h1
  cases t<;>cases d<;>simp at h1<;>simp[Instr.checkKey,run_underlying hT,DV.gh]
theorem CB(h1:er P T d=true)(n:Nat):Instr.sameBits n d.gh d.gh=true:=by
 unfold er at h1;split at h1
 ·cases n<;>simp[DV.gh,Instr.sameBits]
 ·cases n<;>simp only[DV.gh,Instr.sameBits]<;>rw[yW]<;>simp
 ·cases n<;>simp[DV.gh,Instr.sameBits]
 grind
theorem m5{arr:Array Value}(ha:cZ P T=some false)(h:arr[off]?=some d.gh):(part T arr off).run P w=.ok d.gh w:=by
 simp[part,nN ha,h]
theorem j7:∀{fs:List Field}{ds:List DV},kg P fs ds=true->∀f∈fs,f.name ≠ "_" /\ cZ P f.type=some false/\∃d,ds[f.offset]?=some d/\er P f.type d=true
 |[],_,_,f,hf=>by cases hf
 |g::r,ds,h,f,hf=>by
  simp only[kg,cy,bne_iff_ne]at h;obtain⟨⟨⟨h1,h2⟩,h3⟩,h4⟩:=h;rcases List.mem_cons.1 hf with rfl|hf
  ·grind
  ·exact j7 h4 f hf
theorem Ll{fs:Array Field}(hT:P.underlying T=some (.struct fs))(h:fX P T (.agg ds)=true)(hv:Rd M v (.agg ds)):
 v=.agg (ds.map DV.gh).toArray:=by
 simp only[fX,hT,cy,beq_iff_eq]at h;obtain⟨⟨_,h2⟩,h3⟩:=h
 cases hv with
 |agg arr _ hl ho hr=>
  congr 1;apply Array.ext
  ·grind
  ·intro i p q;simp only[aeZ,BH];have hi:i<ds.length:=by omega
   have hm:i∈fs.toList.map (·.offset):=by rw[h3];exact List.mem_range.2 hi
   obtain⟨f,hf,rfl⟩:=List.mem_map.1 hm;obtain⟨_,_,d,hd,hs⟩:=j7 h2 f hf;have hd':ds[f.offset]=d:=by rw[bp hi]at hd;simpa using hd
   have:=hr f.offset hi;rw[hd']at this⊢;exact G7 hs this
def DV.hU:DV->Value
 |.agg ds=>.agg (ds.map DV.gh).toArray
 |d=>d.gh
theorem ru(h:er P T d=true):d.hU=d.gh:=by
 cases d with
 |agg ds=>unfold er at h;grind
 |_=>rfl
theorem x9(h:fX P T d=true)(hv:Rd M v d):v=d.hU:=by
 unfold fX at h;split at h
 ·rename_i fs ds hT
  have h':fX P T (.agg ds)=true:=by simp only[fX,hT];exact h
  exact Ll hT h' hv
 ·have:=G7 h hv;rw[this];exact(ru h).symm
theorem rY{ds es:List DV}:∀(fs:List Field),kg P fs ds=true->kg P fs es=true->∀n,
 (Op.eqFields (n+1) (ds.map DV.gh).toArray (es.map DV.gh).toArray fs).run P w=.ok (fs.all λf=>match ds[f.offset]?,es[f.offset]? with|some a,some b=>oh a b|_,_=>false) w
 |[],_,_,n=>by rfl
 |f::r,h1,h2,n=>by
  obtain⟨a1,a2,d,a3,a4⟩:=j7 h1 f (ad9 ..);obtain⟨_,_,e,b3,b4⟩:=j7 h2 f (ad9 ..);have r1:kg P r ds=true:=by simp only[kg,cy]at h1;exact h1.2
  have r2:kg P r es=true:=by simp only[kg,cy]at h2;exact h2.2
  have p1:=m5 (P:=P) (w:=w) (d:=d) (off:=f.offset) (arr:=(ds.map DV.gh).toArray) a2 (by simp[a3]);have p2:=m5 (P:=P) (w:=w) (d:=e) (off:=f.offset) (arr:=(es.map DV.gh).toArray) a2 (by simp[b3]);simp only[Op.eqFields,if_pos a1,cn,p1,p2,JR a4 b4,iL,aed,a3,b3]
  cases hb:oh d e with
  |false=>simp
  |true=>simp only[Bool.not_true,adC,if_false,Bool.true_and];exact rY r r1 r2 n
theorem F2{es:List DV}{fs:List Field}(h1:fs.map (·.offset)=List.range ds.length)(h2:fs.map (·.offset)=List.range es.length):
 (fs.all λf=>match ds[f.offset]?,es[f.offset]? with|some a,some b=>oh a b|_,_=>false)=Ir ds es:=by
 have hl:ds.length=es.length:=by
  have:=congrArg List.length (h1.symm.trans h2);simpa using this
 have h3:(fs.all λf=>match ds[f.offset]?,es[f.offset]? with|some a,some b=>oh a b|_,_=>false) =
  ((fs.map (·.offset)).all λi=>match ds[i]?,es[i]? with|some a,some b=>oh a b|_,_=>false):=by rw[List.all_map];rfl
 rw[h3,h1];clear h1 h2 h3 fs
 induction ds generalizing es with
 |nil=>cases es with
  |nil=>rfl
  |cons b m=>simp at hl
 |cons a l ih=>
  cases es with
  |nil=>simp at hl
  |cons b m=>
   simp only[adN,List.range_succ_eq_map,aed,ae7,Ir,List.all_map]
   grind
theorem Vs{e:DV}(h1:fX P T d=true)(h2:fX P T e=true)(n:Nat):(Op.equalIn (n+2) T d.hU e.hU).run P w=.ok (vG d e) w:=by
 cases hT:P.underlying T with
 |none=>unfold fX at h1;simp[hT,er]at h1
 |some t=>
  by_cases hs:∃fs,t=.struct fs
  ·obtain⟨fs,rfl⟩:=hs;have hfo:P.fieldsOf T=fs:=by simp[Program.fieldsOf,hT]
   cases d with
   |agg ds=>
    cases e with
    |agg es=>
     simp only[fX,hT,cy,beq_iff_eq,ads]at h1 h2;obtain⟨⟨q1,q2⟩,q3⟩:=h1;obtain⟨⟨p1,p2⟩,p3⟩:=h2;simp only[DV.hU,vG];rw[run_equalIn_struct w (n+1) T _ _ (by rw[hfo];exact hT) q1,hfo,rY _ q2 p2,F2 q3 p3]
    |_=>unfold fX at h2;simp[hT,er]at h2
   |_=>unfold fX at h1;simp[hT,er]at h1
  ·have key:∀x,fX P T x=true->er P T x=true:=by
    intro x hx;unfold fX at hx;split at hx
    ·grind
    ·exact hx
   have e1:=key _ h1;have e2:=key _ h2
   have k1:∀x,er P T x=true->x.hU=x.gh:=by
    intro x hx;cases x with
    |agg ds=>unfold er at hx;grind
    |_=>rfl
   rw[k1 _ e1,k1 _ e2,JR e1 e2]
   have:vG d e=oh d e:=by
    cases d with
    |agg ds=>unfold er at e1;grind
    |_=>rfl
   rw[this]
theorem uf{α:Type}{f:α->Sem (ForInStep PUnit)}:∀(l:List α),(∀x∈l,(f x).run P w=.ok (.yield ⟨⟩) w)->(forIn l PUnit.unit (λx _=>f x)).run P w=.ok ⟨⟩ w
 |[],_=>by simp
 |x::l,h=>by
  simp only[List.forIn_cons,cn,h x (ad9 ..),iL];exact uf l λy hy=>h y (ael _ hy)
theorem CE(h1:fX P T d=true)(em:Bool)(n:Nat):(Instr.checkKey em (n+2) T d.hU).run P w=.ok () w:=by
 cases hT:P.underlying T with
 |none=>unfold fX at h1;simp[hT,er]at h1
 |some t=>
  by_cases hs:∃fs,t=.struct fs
  ·obtain⟨fs,rfl⟩:=hs
   cases d with
   |agg ds=>
    simp only[fX,hT,cy,beq_iff_eq,ads]at h1;obtain⟨⟨q1,q2⟩,q3⟩:=h1;simp only[DV.hU];rw[Instr.checkKey];simp only[cn,run_underlying hT,iL];rw[<-Array.forIn_toList]
    have:=uf (P:=P) (w:=w) (f:=λf:Field=>(if f.name ≠ "_" then(do Instr.checkKey em (n+1) f.type (<-part f.type (ds.map DV.gh).toArray f.offset);pure (.yield ⟨⟩))else pure (.yield ⟨⟩):Sem (ForInStep PUnit))) fs.toList (λf hf=>by
     obtain⟨a1,a2,x,a3,a4⟩:=j7 q2 f hf;have p1:=m5 (P:=P) (w:=w) (d:=x) (off:=f.offset) (arr:=(ds.map DV.gh).toArray) a2 (by simp[a3]);simp[a1,p1,zv a4])
    simp_all
   |_=>unfold fX at h1;simp[hT,er]at h1
  ·have e1:er P T d=true:=by
    unfold fX at h1;split at h1
    ·grind
    ·exact h1
   have k1:d.hU=d.gh:=by
    cases d with
    |agg ds=>unfold er at e1;grind
    |_=>rfl
   rw[k1];exact zv e1 em (n+1)
end
def lM(k:DV):List (DV×AV)->Option Nat
 |[]=>none
 |e::es=>if vG k e.1 then some 0 else(lM k es).map (·+1)
theorem v7{k:DV}:∀{es:List (DV×AV)}{i:Nat},lM k es=some i->∃e,es[i]?=some e/\e.1=k
 |[],_,h=>by cases h
 |e::es,i,h=>by
  simp only[lM]at h;split at h
  ·rename_i hb
   simp only[ah]at h;subst h;exact⟨e,rfl,(QO hb).symm⟩
  ·rw[ado]at h;obtain⟨j,hj,rfl⟩:=h;obtain⟨e',h1,h2⟩:=v7 hj
   grind
def xH(k:DV)(y:AV)(es:List (DV×AV)):List (DV×AV):=
 match lM k es with
 |some i=>es.set i (k,y)
 |none=>es++[(k,y)]
section
variable {P:Program}{w:World}{M:Mem}
theorem CF{k:DV}(hk:fX P T k=true)(hes:∀e∈es,fX P T e.1=true){ents:List MapEntry}(hl:ents.length=es.length)
 (hr:∀i (h:i<es.length) (h':i<ents.length),Rd M ents[i].key es[i].1) :
 (Instr.findKey T k.hU ents).run P w=.ok ((lM k es).bind λi=>ents[i]?.map λe=>(i,e.val)) w:=by
 have hkeys:∀i (h:i<es.length) (h':i<ents.length),ents[i].key=es[i].1.hU:=λi h h'=>x9 (hes _ (aZ h)) (hr i h h')
 clear hr
 cases hT:P.underlying T with
 |none=>unfold fX at hk;simp[hT,er]at hk
 |some t=>
  by_cases hs:∃fs,t=.struct fs
  ·obtain⟨fs,rfl⟩:=hs;rw[run_findKey_eq w (by simp[hT])]
   have key:∀(es:List (DV×AV)) (ents:List MapEntry) (n:Nat),(∀e∈es,fX P T e.1=true)->ents.length=es.length->(∀i (h:i<es.length) (h':i<ents.length),ents[i].key=es[i].1.hU) ->
    (Instr.findAsking T k.hU ents n).run P w=.ok ((lM k es).bind λi=>ents[i]?.map λe=>(n+i,e.val)) w:=by
    intro es
    induction es with
    | nil=>intro ents n _ hl _;have:ents=[]:=aeA (by omega)
           subst this;rfl
    |cons e es ih=>
     intro ents n h1 hl h2
     cases ents with
     |nil=>simp at hl
     |cons m ents=>
      have hm:=h2 0 (by simp) (by simp);simp only[adW]at hm;have he:(Op.equal T k.hU m.key).run P w=.ok (vG k e.1) w:=by rw[hm];exact Vs hk (h1 e (ad9 ..)) 9998
      simp only[Instr.findAsking,cn,he,iL,lM]
      cases hb:vG k e.1 with
      |true=>simp
      |false=>
       simp only[adC,if_false];rw[ih ents (n+1) (λe he=>h1 e (ael _ he)) (by grind) (λi p q=>h2 (i+1) (by simp;omega) (by simp;omega))]
       cases lM k es with
       |none=>simp
       |some i=>grind
   grind
  ·have hsc:∀x,fX P T x=true->er P T x=true:=by
    intro x hx;unfold fX at hx;split at hx
    ·grind
    ·exact hx
   have key:∀(es:List (DV×AV)) (ents:List MapEntry) (n:Nat),(∀e∈es,fX P T e.1=true)->ents.length=es.length->(∀i (h:i<es.length) (h':i<ents.length),ents[i].key=es[i].1.hU) ->
    Instr.findNow t k.hU ents n=some ((lM k es).bind λi=>ents[i]?.map λe=>(n+i,e.val)):=by
    intro es
    induction es with
    | nil=>intro ents n _ hl _;have:ents=[]:=aeA (by omega)
           subst this;rfl
    |cons e es ih=>
     intro ents n h1 hl h2
     cases ents with
     |nil=>simp at hl
     |cons m ents=>
      have hm:=h2 0 (by simp) (by simp);simp only[adW]at hm;have e1:=hsc _ hk;have e2:=hsc _ (h1 e (ad9 ..))
      have hb2:vG k e.1=oh k e.1:=by
       cases k with
       |agg ds=>unfold er at e1;grind
       |_=>rfl
      have he:Instr.sameNow t k.hU m.key=some (vG k e.1):=by rw[hm,ru e1,ru e2,NC hT e1 e2,hb2]
      simp only[Instr.findNow,he,lM]
      cases hb:vG k e.1 with
      |true=>simp
      |false=>
       simp only[adC,if_false];rw[ih ents (n+1) (λe he=>h1 e (ael _ he)) (by grind) (λi p q=>h2 (i+1) (by simp;omega) (by simp;omega))]
       cases lM k es with
       |none=>simp
       |some i=>grind
   have:=key es ents 0 hes hl hkeys;simp only[Instr.findKey,cn,run_underlying hT,iL,this];simp
theorem Nz(h1:fX P T d=true)(n:Nat):Instr.sameBits (n+1) d.hU d.hU=true:=by
 unfold fX at h1;split at h1
 ·rename_i fs ds hT
  simp only[cy,beq_iff_eq,ads]at h1;obtain⟨⟨q1,q2⟩,q3⟩:=h1;simp only[DV.hU,Instr.sameBits,beq_self_eq_true,Bool.true_and,ab3];intro p hp
  have:p.1=p.2/\∃x∈ds,p.1=x.gh:=by
   have hz:∀(l:List Value) (p:Value×Value),p∈l.zip l->p.1=p.2/\p.1∈l:=by
    intro l
    induction l with
    |nil=>intro p hp;simp at hp
    |cons a l ih=>
     intro p hp;simp only[List.zip_cons_cons,fy]at hp;rcases hp with rfl|hp
     ·exact⟨rfl,ad9 ..⟩
     ·exact⟨(ih p hp).1,ael _ (ih p hp).2⟩
   have:=hz _ p hp;refine⟨this.1,?_⟩;have h2:=this.2;simp only[adX]at h2;obtain⟨x,hx,h3⟩:=h2;exact⟨x,hx,h3.symm⟩
  obtain⟨h2,x,hx,h3⟩:=this;obtain⟨i,hi,rfl⟩:=List.mem_iff_getElem.1 hx;have hm:i∈fs.toList.map (·.offset):=by rw[q3];exact List.mem_range.2 hi
  obtain⟨f,hf,rfl⟩:=List.mem_map.1 hm;obtain⟨_,_,d,hd,hs⟩:=j7 q2 f hf;have hd':ds[f.offset]=d:=by rw[bp hi]at hd;simpa using hd
  rw[<-h2,h3,hd'];exact CB hs n
 ·rw[ru h1];exact CB h1 (n+1)
theorem Eh(h1:fX P T d=true):(Instr.keyThatStays d.hU d.hU).run P w=.ok d.hU w:=by
 simp[Instr.keyThatStays,Nz h1 9999]
end
section
variable {c:Ctx}{F:Nat->Prop}{β:Key->Nat}{s:az}{a:Act}{w:World}
theorem aA.allocMap(h:aA c F β s a w)(hκ:s.lv κ=.hole):
 aA c F (au β κ w.heap.size) ⟨s.fr,au s.lv κ (.map true [])⟩ a (w.alloc (.map #[] 0)):=by
 have hnew:∀b,F b->b≠w.heap.size:=λb hb e=>by have:=(h.nU b hb).1;omega
 have hge:=h.ge
 have hlt:∀k,(∃own fz T cs,s.lv k=.cells own fz T cs)\/(∃own es,s.lv k=.map own es)->β k<w.heap.size:=by
  intro k hk;have hb:=h.bU k;unfold Vw.bU at hb;rcases hk with⟨o,fz,T,cs,e⟩|⟨o,es,e⟩
  ·grind
  ·grind
 refine h.step (λ_ h=>h) (λb hb=>by rw[heap_alloc,if_neg (hnew b hb)]) ?_ ?_ (jl w _) ?_ ?_ (λb h=>.inl h) (by simp) ?_
 ·intro k
  by_cases e:k=κ
  ·subst e;rw[hκ];simp[LB.sub]
  ·rw[aF _ _ e];exact LB.bG _
 ·intro k hk _;have e:k≠κ:=λe=>hk (e▸hκ)
  exact aF _ _ e
 ·intro k hK
  by_cases e:k=κ
  ·subst e;simp only[Vw.bU,aC];refine⟨#[],0,by rw[heap_alloc,if_pos rfl],rfl,λi x=>by simp at x,λhf=>hnew _ hf rfl,?_⟩;simp only[fj,if_true];exact hge
  ·have hb:=h.bU k
   cases ek:s.lv k with
   |cells own fz T cs=>
    have:=hlt k (.inl ⟨_,_,_,_,ek⟩);refine Vw.bQ hb hK (aF _ _ e) (aF _ _ e) ?_ (λ_ h=>h);show(w.alloc _).heap[β k]?=_;rw[heap_alloc,if_neg (by omega)]
   |map own es=>
    have:=hlt k (.inr ⟨_,_,ek⟩);refine Vw.bQ hb hK (aF _ _ e) (aF _ _ e) ?_ (λ_ h=>h);show(w.alloc _).heap[β k]?=_;rw[heap_alloc,if_neg (by omega)]
   |hole=>unfold Vw.bU;simp only[aF _ _ e,ek]
   |dead=>unfold Vw.bU;simp only[aF _ _ e,ek]
   |bO=>unfold Vw.bU;simp only[aF _ _ e,ek]
 ·intro k k' hk hk' he
  have side:∀j,j≠κ->(au s.lv κ (.map true []) j).live=true->β j<w.heap.size:=by
   intro j hj hl;rw[aF _ _ hj]at hl;exact h.gE hl
  by_cases e:k=κ<;>by_cases e':k'=κ
  ·rw[e,e']
  ·subst e;have:=side k' e' hk';rw[aC,aF _ _ e']at he;omega
  ·subst e';have:=side k e hk;rw[aC,aF _ _ e]at he;omega
  ·rw[aF _ _ e,aF _ _ e']at he;rw[aF _ _ e]at hk;rw[aF _ _ e']at hk';exact h.inj _ _ hk hk' he
 ·intro b hb _;rw[heap_alloc,if_neg (by omega)]
theorem Fg{r:Option Operand}(hd:∀d,o.dst=some d->d<c.n)(ho:o.op=.makeMap T r)(hr:r=none)(hκ:s.lv κ=.hole):
 cx c o s (az.put ⟨s.fr,au s.lv κ (.map true [])⟩ o.dst (.c (.mapr κ))):=
 cx.eU hd λF β a w hs=>by
  subst hr;refine⟨.map (some w.heap.size),F,au β κ w.heap.size,_,by simp[execOp,ho,Instr.makeMap],hs.allocMap hκ,?_,rfl⟩;simp only[Vw.lO,aC]
theorem aA.VD(h:aA c F β s a w){es':List (DV×AV)}(hk:s.lv k=.map own es){ents ents':Array MapEntry}{cl cl':Nat}
 (hg:w.heap[β k]?=some (.map ents cl)) (hl:ents'.size=es'.length)
 (hc:∀i (h:i<es'.length) (h':i<ents'.size),Rd (l7 w F) ents'[i].key es'[i].1/\(Vw.mk F β s.lv w).l5 ents'[i].val es'[i].2) :
 aA c F β ⟨s.fr,au s.lv k (.map own es')⟩ a { w with heap:=w.heap.setIfInBounds (β k) (.map ents' cl') }:=by
 have hlive:(s.lv k).live=true:=by rw[hk];rfl
 have hoth:∀b,b≠β k->(w.heap.setIfInBounds (β k) (.map ents' cl'))[b]?=w.heap[b]?:=by
  intro b hb;rw[afw,if_neg (λe=>hb e.symm)]
 have hb0:=h.bU k;unfold Vw.bU at hb0;simp only[hk]at hb0;obtain⟨e0,c0,p1,p2,p3,p4,p5⟩:=hb0;refine h.step (λ_ h=>h) (λb hb=>hoth b (λe=>h.nZ hlive (e▸hb))) ?_ (λ_ _ _=>rfl) (λb=>?_) ?_ ?_ (λb h=>.inl h) (by simp) ?_
 ·intro k'
  by_cases e:k'=k
  ·subst e;rw[aC,hk];simp[LB.sub]
  ·rw[aF _ _ e];exact LB.bG _
 ·by_cases e:b=β k
  ·subst e;simp[cM,hg]
  ·simp only[cM,hoth b e];simp
 ·intro k' hK
  by_cases e:k'=k
  ·subst e;unfold Vw.bU;simp only[aC];refine⟨ents',cl',?_,hl,λi x y=>?_,p4,p5⟩
   ·grind
   ·exact⟨Rd.mono (hO hK.F hK.mem) (hc i x y).1,hK.l5 (hc i x y).2⟩
  ·have hb:=h.bU k'
   by_cases hl:(s.lv k').live=true
   ·exact Vw.bQ hb hK (aF _ _ e) rfl (hoth _ (λe'=>e (h.inj _ _ hl hlive e'))) (λ_ h=>h)
   ·cases ek:s.lv k' with
    |cells o fz T' cs'=>
     cases fz with
     |false=>rw[ek]at hl;exact absurd rfl hl
     |true=>
      have hF:F (β k'):=by unfold Vw.bU at hb;simp only[ek]at hb;obtain⟨_,_,_,_,h4,_⟩:=hb;exact h4
      exact Vw.bQ hb hK (aF _ _ e) rfl (hoth _ (λe'=>h.nZ hlive (e'▸hF))) (λ_ h=>h)
    |map o es=>rw[ek]at hl;exact absurd rfl hl
    |hole=>unfold Vw.bU;simp only[aF _ _ e,ek]
    |dead=>unfold Vw.bU;simp only[aF _ _ e,ek]
    |bO=>unfold Vw.bU;simp only[aF _ _ e,ek]
 ·intro k1 k2 a1 a2 he
  have g:∀k',(au s.lv k (.map own es') k').live=true->(s.lv k').live=true:=by
   intro k' hk'
   by_cases e:k'=k
   ·grind
   ·rwa[aF _ _ e]at hk'
  exact h.inj _ _ (g _ a1) (g _ a2) he
 ·intro b hb hnW;refine hoth b (λe=>?_);rcases h.fJ hlive with h1|h1
  ·omega
  grind
def CU(P:Program)(T:TypeId):Option (TypeId×TypeId):=
 match P.underlying T with
 |some (.map k e)=>some (k,e)
 |_=>none
theorem vL{k:TypeId}(h:CU P T=some (k,e)):P.underlying T=some (.map k e):=by
 unfold CU at h;grind
theorem BM{v:AV}(hd:∀d,o.dst=some d->d<c.n)(ho:o.op=.mapUpdate T m kx y\/o.op=.insert T m kx y)
 (hm:s.val c.G m=.c (.mapr k)) (hk:s.lv k=.map own es) (hT:CU c.P T=some (kT,eT)) (hkx:mo (s.val c.G kx)=some d) (hkT:fX c.P kT d=true) (hes:∀e∈es,fX c.P kT e.1=true) (hy:s.val c.G y=v) (hv:∀l,v≠.tup l) :
 cx c o s (az.put ⟨s.fr,au s.lv k (.map own (xH d v es))⟩ o.dst .undef):=
 cx.Kb hd λF β a w hs=>by
  have hmv:=hm▸hs.val m;obtain⟨hmv,_⟩:=hmv;simp only[Vw.lO,hk]at hmv;have hkv:=x9 hkT (Vw.deep (hs.val kx) hkx)
  have hyv:(Vw.mk F β s.lv w).l5 (a.eval y) v:=by
   have h1:=hy▸hs.val y
   cases v with
   |tup l=>grind
   |_=>exact h1
  have hb:=hs.bU k;unfold Vw.bU at hb;simp only[hk]at hb;obtain⟨ents,cl,b1,b2,b3,b4,b5⟩:=hb;have hu:=vL hT;have hf:=CF (P:=c.P) (w:=w) (M:=l7 w F) hkT hes (ents:=ents.toList) (by omega) (λi p q=>by have:=(b3 i p (by omega)).1;simp only[aeq];exact this);have hck:=CE (P:=c.P) (w:=w) hkT false 9998;have hob:(getObj (β k)).run c.P w=.ok (.map ents cl) w:=by simp[getObj,Sem.run,b1]
  have hset:∀e' c',(setObj (β k) (.map e' c')).run c.P w=.ok () { w with heap:=w.heap.setIfInBounds (β k) (.map e' c') }:=by intro e' c';simp[setObj,Sem.run,b1]
  have hrun:∃e' c',(Instr.mapUpdate T (.map (some (β k))) d.hU (a.eval y)).run c.P w=.ok () { w with heap:=w.heap.setIfInBounds (β k) (.map e' c') }/\e'.size=(xH d v es).length /\
   ∀i (h:i<(xH d v es).length) (h':i<e'.size),Rd (l7 w F) e'[i].key (xH d v es)[i].1/\(Vw.mk F β s.lv w).l5 e'[i].val (xH d v es)[i].2:=by
   have hkr:Rd (l7 w F) d.hU d:=hkv▸Vw.deep (hs.val kx) hkx
   cases hfk:lM d es with
   |none=>
    rw[hfk]at hf;refine⟨ents.push { key:=d.hU,val:=a.eval y,born:=cl },cl+1,?_,?_,?_⟩
    ·simp only[Instr.mapUpdate,cn,run_underlying hu,iL,hob,hck,hf,Option.bind_none]
     grind
    ·simp[xH,hfk,b2]
    ·intro i p q;simp only[xH,hfk]at p ⊢
     by_cases hi:i<es.length
     ·rw[aea hi,Array.getElem_push_lt (by omega)];exact b3 i hi (by omega)
     grind
   |some i=>
    obtain⟨e,he1,he2⟩:=v7 hfk;obtain⟨hi,hie⟩:=List.getElem?_eq_some_iff.1 he1;have hi':i<ents.size:=by omega
    have hkk:ents[i].key=d.hU:=by
     have:=x9 (hes _ (aZ hi)) (b3 i hi hi').1;rw[this,hie,he2]
    rw[hfk]at hf;refine⟨ents.modify i λe=>{ e with key:=d.hU,val:=a.eval y },cl,?_,?_,?_⟩
    ·have h1:ents.toList[i]?=some ents[i]:=by simp[hi']
     simp only[Instr.mapUpdate,cn,run_underlying hu,iL,hob,hck,hf,Option.bind_some,h1,adm];have h2:((ents[i]?.map (·.key)).getD d.hU)=d.hU:=by simp[hi',hkk]
     rw[h2,Eh hkT];simp[hset]
    ·simp[xH,hfk,b2]
    ·intro j p q;simp only[xH,hfk]at p⊢;simp only[Array.getElem_modify,List.getElem_set]
     by_cases e:i=j
     ·grind
     ·simp only[if_neg e];exact b3 j (by grind) (by grind)
  obtain⟨e',c',r1,r2,r3⟩:=hrun;refine⟨F,β,_,?_,hs.VD (cl':=c') hk b1 r2 r3⟩;rcases ho with ho|ho<;>simp[execOp,ho,hmv,hkv,r1]
def Ac(P:Program)(T:TypeId):Option AV:=((P.info? T).bind (·.zero)).map tA
theorem E3{x:AV}(h:Ac P T=some x)(V:Vw)(w:World):∃v,(zeroValue T).run P w=.ok v w/\V.av v x/\(∀l,x≠.tup l):=by
 unfold Ac at h;rw[ado]at h;obtain⟨z,hz,rfl⟩:=h;obtain⟨i,hi,hz⟩:=Option.bind_eq_some_iff.1 hz;refine⟨z,by simp[zeroValue,typeInfo,hi,hz],wh V z,?_⟩;intro l;unfold tA
 grind
def Gy(P:Program)(eT:TypeId)(d:DV)(es:List (DV×AV)):Option (AV×Bool):=
 match lM d es with
 |some i=>(es[i]?).map λe=>(e.2,true)
 |none=>(Ac P eT).map λz=>(z,false)
theorem IS{v:AV}(hd:∀d,o.dst=some d->d<c.n)(ho:o.op=.lookup T m kx ok)
 (hm:(∃k own,s.val c.G m=.c (.mapr k)/\s.lv k=.map own es)\/(s.val c.G m=.c (.d .nilmap)/\es=[])) (hT:CU c.P T=some (kT,eT)) (hkx:mo (s.val c.G kx)=some d) (hkT:fX c.P kT d=true) (hes:∀e∈es,fX c.P kT e.1=true)
 (hl:Gy c.P eT d es=some (v,b)) (hv:∀l,v≠.tup l) :
 cx c o s (s.put o.dst (if ok then .tup [v,.c (.d (.bool b))]else v)):=
 cx.aV hd λF β a w hs=>by
  have hkv:=x9 hkT (Vw.deep (hs.val kx) hkx);have hu:=vL hT
  have hents:∃ents:List MapEntry,ents.length=es.length/\(∀i (h:i<es.length) (h':i<ents.length),Rd (l7 w F) ents[i].key es[i].1/\(Vw.mk F β s.lv w).l5 ents[i].val es[i].2) /\
   (Instr.lookup T (a.eval m) d.hU ok).run c.P w=(do
    Instr.checkKey ents.toArray.isEmpty 10000 kT d.hU
    let (v,b) <-match <-Instr.findKey kT d.hU ents with
     |some (_,v)=>pure (v,true)
     |none=>pure (<-zeroValue eT,false)
    pure (if ok then .tuple #[v,.bool b]else v):Sem Value).run c.P w:=by
   rcases hm with⟨k,own,hm,hk⟩|⟨hm,rfl⟩
   ·have hmv:=hm▸hs.val m;obtain⟨hmv,_⟩:=hmv;simp only[Vw.lO,hk]at hmv;have hb:=hs.bU k;unfold Vw.bU at hb;simp only[hk]at hb;obtain⟨ents,cl,b1,b2,b3,b4,b5⟩:=hb;have hob:(getObj (β k)).run c.P w=.ok (.map ents cl) w:=by simp[getObj,Sem.run,b1]
    refine⟨ents.toList,by omega,λi p q=>by have:=b3 i p (by omega);simp only[aeq];exact this,?_⟩;simp only[Instr.lookup,hmv,cn,run_underlying hu,iL,hob,adG,Array.toArray_toList];rfl
   ·have hmv:=hm▸hs.val m;obtain⟨hmv,_⟩:=hmv;obtain⟨u,hu'⟩:∃u,a.eval m=u:=⟨_,rfl⟩
    rw[hu']at hmv
    cases hmv
    refine⟨[],rfl,λi p=>by simp at p,?_⟩;rw[hu'];simp only[Instr.lookup,cn,run_underlying hu,iL,adG];rfl
  obtain⟨ents,e1,e2,e3⟩:=hents;have hf:=CF (P:=c.P) (w:=w) (M:=l7 w F) hkT hes e1 (λi p q=>(e2 i p q).1);have hck:=λem=>CE (P:=c.P) (w:=w) hkT em 9998
  have hres:∃u,(Instr.lookup T (a.eval m) d.hU ok).run c.P w=.ok (if ok then .tuple #[u,.bool b]else u) w/\(Vw.mk F β s.lv w).l5 u v:=by
   rw[e3];unfold Gy at hl;split at hl
   ·rename_i i hfk
    obtain⟨e,he1,he2⟩:=v7 hfk;obtain⟨hi,hie⟩:=List.getElem?_eq_some_iff.1 he1;rw[he1]at hl;simp only[adm,ah,rP]at hl;obtain⟨rfl,rfl⟩:=hl;rw[hfk]at hf;have h1:ents[i]?=some (ents[i]'(by omega)):=bp (by omega);refine⟨(ents[i]'(by omega)).val,?_,?_⟩
    ·simp only[cn,hck,iL,hf,Option.bind_some,h1,adm,adG]
    grind
   ·rename_i hfk
    rw[ado]at hl;obtain⟨z,hz,hl⟩:=hl;simp only[rP]at hl;obtain⟨rfl,rfl⟩:=hl;obtain⟨u,hu1,Tp,_⟩:=E3 hz (Vw.mk F β s.lv w) w;rw[hfk]at hf;refine⟨u,?_,?_⟩
    ·simp only[cn,hck,iL,hf,Option.bind_none,hu1,adG]
    ·cases z with
     |tup l=>grind
     |_=>exact Tp
  obtain⟨u,r1,r2⟩:=hres;refine⟨if ok then .tuple #[u,.bool b]else u,by simp[execOp,ho,hkv,r1],?_⟩
  cases ok with
  |false=>
   simp only[adC,if_false]
   cases v with
   |tup l=>grind
   |_=>exact r2
  |true=>
   simp only[if_true];refine⟨#[u,.bool b],rfl,rfl,λi p q=>?_⟩;have:i=0\/i=1:=by simp at p;omega
   rcases this with rfl|rfl
   ·exact r2
   ·exact⟨.bool b,rfl⟩
end
section
variable {c:Ctx}{F:Nat->Prop}{β:Key->Nat}{s:az}{a:Act}{w:World}
theorem jq(h:tv P T=some (n,e,sz)){b o:Nat}{lo hi:Option Value}{l hh:Int}
 (hlo:lo=none/\l=0\/∃k,lo=some (.int k l)) (hhi:hi=none/\hh=n\/∃k,hi=some (.int k hh)) (h0:0<=l) (h1:l<=hh) (h2:hh<=n) (w:World) :
 (Instr.sliceAt T (.pointer (some ⟨b,o,none⟩)) lo hi none).run P w=.ok (.slice (some (if n=l.toNat then⟨b,o,none⟩ else⟨b,o+l.toNat*sz,none⟩)) (hh.toNat-l.toNat) (n-l.toNat)) w:=by
 obtain⟨hu,hie,hsz⟩:=A9 h;have hr:=iM (P:=P) (isSlice:=false) (len:=n) (cap:=n) hlo hhi h0 h1 h2 w;simp only[Instr.sliceAt,cn,run_underlying hu,iL,Instr.sureAddr,adG,hr,run_sizeOf hie,hsz];congr 3;split
 ·rfl
 ·rw[aek]
theorem ED{l:Int}(hd:∀d,o.dst=some d->d<c.n)(ho:o.op=.slice T x lo hi none)
 (hx:s.val c.G x=.c (.ptr κ off)) (hk:s.lv κ=.cells own fz T' cs) (hT:tv c.P T=some (n,e,sz)) (hcs:off+n*sz<=cs.length) (hlo:dy (lo.map (s.val c.G)) 0=some l) (hhi:dy (hi.map (s.val c.G)) n=some h)
 (h0:0<=l) (h1:l<=h) (h2:h<=n) (h3:l<h\/l=0):cx c o s (s.put o.dst (.c (.aE κ (off+l.toNat*sz) (h.toNat-l.toNat) sz))):=
 cx.aV hd λF β a w hs=>by
  have hv:=hx▸hs.val x;obtain⟨hv,_⟩:=hv;simp only[Vw.dD,hk]at hv;have hr:=jq hT (b:=β κ) (o:=off) (iG (λx=>hs.val x) hlo) (iG (λx=>hs.val x) hhi) h0 h1 h2 w;refine⟨_,by simp only[execOp,ho,aex,hv];simp[hr];rfl,?_,rfl⟩;simp only[Vw.cN,hk];have hb:=hs.bU κ;unfold Vw.bU at hb;simp only[hk]at hb;obtain⟨arr,b1,b2,_⟩:=hb;have has:cM w (β κ)=arr.size:=by simp[cM,b1]
  have e1:(if n=l.toNat then(⟨β κ,off,none⟩:Addr)else⟨β κ,off+l.toNat*sz,none⟩)=⟨β κ,off+l.toNat*sz,none⟩:=by
   split
   ·have:l.toNat=0:=by omega
    rw[this];simp
   ·rfl
  refine⟨n-l.toNat,by rw[e1],by omega,?_⟩;show off+l.toNat*sz+(n-l.toNat)*sz<=cM w (β κ);rw[has];have:l.toNat*sz+(n-l.toNat)*sz=n*sz:=by rw[<-adr];congr 1;omega
  omega
theorem DI{cs:List DV}{l:Int}(hd:∀d,o.dst=some d->d<c.n)(ho:o.op=.slice T x lo hi none)
 (hx:s.val c.G x=.c (.d (.ptr cs))) (hT:tv c.P T=some (n,e,sz)) (hcs:n*sz<=cs.length) (hlo:dy (lo.map (s.val c.G)) 0=some l) (hhi:dy (hi.map (s.val c.G)) n=some h)
 (h0:0<=l) (h1:l<=h) (h2:h<=n) (h63:n<=9223372036854775807):cx c o s (s.put o.dst (.c (.d (.sl (((chunk sz n cs).take h.toNat).drop l.toNat))))):=
 cx.aV hd λF β a w hs=>by
  have hv:=hx▸hs.val x;obtain⟨hv,_⟩:=hv;obtain⟨u,hu⟩:∃u,a.eval x=u:=⟨_,rfl⟩
  rw[hu]at hv
  cases hv with
  |ptr b off vs _ hm ho' hr'=>
   have hr:=jq hT (b:=b) (o:=off) (iG (λx=>hs.val x) hlo) (iG (λx=>hs.val x) hhi) h0 h1 h2 w;refine⟨_,by simp only[execOp,ho,aex,hu];simp[hr];rfl,?_,rfl⟩;have hcl:(chunk sz n cs).length=n:=by simp[chunk]
   have hsz:∀i,i<n->i*sz+sz<=n*sz:=by
    intro i hi;have:(i+1)*sz<=n*sz:=adn _ hi
    rwa[adr,ad1]at this
   have key:=Rd.sl (M:=l7 w F) b off n sz (chunk sz n cs) (λi j=>vs (i*sz+j)) (by
    intro e he;obtain⟨i,hi,rfl⟩:=List.mem_iff_getElem.1 he;rw[hcl]at hi;have:=hsz i hi;simp[chunk];omega) (by omega) (by omega)
    (by intro i hi j hj;rw[hcl]at hi;have:=hsz i hi;have:=hm (i*sz+j) (by omega);rw[<-aez]at this;exact this)
    (by grind)
    (by
     intro i hi j hj;rw[hcl]at hi;have h5:=hsz i hi;have hj':j<sz:=by simp[chunk]at hj;omega
     have h6:=hr' (i*sz+j) (by omega);simp only[chunk,BH,List.getElem_range,List.getElem_take,afh];exact h6)
   rw[hcl]at key
   have hall:∀e∈chunk sz n cs,e.length=sz:=by
    intro e he;obtain⟨i,hi,rfl⟩:=List.mem_iff_getElem.1 he;rw[hcl]at hi;have:=hsz i hi;simp[chunk];omega
   have e1:(if n=l.toNat then(⟨b,off,none⟩:Addr)else⟨b,off+l.toNat*sz,none⟩)=⟨b,if n=l.toNat then off else off+l.toNat*sz,none⟩:=by split<;>rfl
   rw[e1];refine Rd.Dl (l:=l.toNat) (h':=h.toNat) key hall (by omega) (by omega) b _ ?_ (n-l.toNat) (by omega)
   grind
def M3(P:Program)(T:TypeId):Bool:=
 match P.underlying T with
 |some (.interface _)=>false
 |some _=>true
 |none=>false
def PN:AV->Option (Option (TypeId×AV))
 |.c (.d (.iface t d))=>some (some (t,Gk d))
 |.c (.ifc t r)=>some (some (t,match r with
  |.d x=>Gk x
  |.ptr k o=>.c (.ptr k o)
  |.aE k o l z=>.c (.aE k o l z)
  |.agg cs=>.agg (cs.map λx=>match x with|.d x=>.d x|.ptr k o=>.ptr k o|.aE k o l z=>.aE k o l z)
  |.ifc t x=>.c (.ifc t x)))
 |.c (.d .nilIface)=>some none
 |_=>none
theorem LX{x:AV}{t:TypeId}{y:AV}(h:V.av v x)(hi:PN x=some (some (t,y))):∃u,v=.iface t u/\V.av u y/\∀l,y≠.tup l:=by
 unfold PN at hi;split at hi
 ·rename_i t' d
  simp only[ah,rP]at hi;obtain⟨rfl,rfl⟩:=hi;obtain⟨h,_⟩:=h
  cases h with
  |iface _ u _ hu=>exact⟨u,rfl,Vw.Gk hu,AL d⟩
 ·rename_i t' r
  simp only[ah,rP]at hi;obtain⟨rfl,rfl⟩:=hi;obtain⟨u,rfl,hu⟩:=h;refine⟨u,rfl,?_,?_⟩
  ·cases r with
   |d x=>exact Vw.Gk hu
   |ptr k o=>exact hu
   |aE k o l z=>exact hu
   |agg cs=>
    obtain⟨arr,rfl,h1,h2⟩:=hu;refine⟨arr,rfl,by grind,λi p q=>?_⟩;simp only[BH];have:=h2 i (by omega) q;split<;>rename_i e<;>rw[e]at this<;>exact this
   |ifc t x=>exact hu
  ·intro l
   cases r with
   |d x=>exact AL x l
   |_=>simp
 ·cases hi
 grind
theorem Mh{x:AV}(h:V.av v x)(hi:PN x=some none):v=.nilIface:=by
 unfold PN at hi;split at hi
 ·cases hi
 ·cases hi
 ·obtain⟨h,_⟩:=h;cases h;rfl
 grind
def C8(P:Program)(T:TypeId)(ok:Bool)(x:AV):Option AV:=
 match PN x with
 |some (some (t,y))=>if t=T then some (if ok then .tup [y,.c (.d (.bool true))]else y)
  else(if ok then(Ac P T).map λz=>.tup [z,.c (.d (.bool false))]else none)
 |some none=>if ok then(Ac P T).map λz=>.tup [z,.c (.d (.bool false))]else none
 |none=>none
theorem J6{u:Value}{y:AV}(h:V.av u y)(hy:∀l,y≠.tup l):V.av (.tuple #[u,.bool b]) (.tup [y,.c (.d (.bool b))]):=by
 refine⟨#[u,.bool b],rfl,rfl,λi p q=>?_⟩;have:i=0\/i=1:=by simp at p;omega
 rcases this with rfl|rfl
 ·cases y with
  |tup l=>grind
  |_=>exact h
 ·exact⟨.bool b,rfl⟩
theorem Iz{xT:TypeId}{v:AV}(hd:∀d,o.dst=some d->d<c.n)(ho:o.op=.typeAssert x xT T ok)(hT:M3 c.P T=true)
 (hv:C8 c.P T ok (s.val c.G x)=some v):cx c o s (s.put o.dst v):=
 cx.aV hd λF β a w hs=>by
  have hx:=hs.val x
  obtain⟨ud,hu,hni⟩:∃u,c.P.underlying T=some u/\∀ms,u≠.interface ms:=by
   unfold M3 at hT
   grind
  have hgen:∀(z:AV),Ac c.P T=some z->ok=true->∀u,(∀t w',u=.iface t w'->t≠T)->(u=.nilIface\/∃t w',u=.iface t w')->∃q,(Instr.typeAssert u xT T ok).run c.P w=.ok q w/\(Vw.mk F β s.lv w).av q (.tup [z,.c (.d (.bool false))]):=by
   intro z hz hok u hne hu';obtain⟨q,q1,q2,q3⟩:=E3 hz (Vw.mk F β s.lv w) w;refine⟨.tuple #[q,.bool false],?_,J6 q2 q3⟩;subst hok;rcases hu' with rfl|⟨t,w',rfl⟩
   ·cases ud<;>first|exact absurd rfl (hni _)|simp[Instr.typeAssert,run_underlying hu,q1]
   ·have:=hne t w' rfl
    cases ud<;>first|exact absurd rfl (hni _)|simp[Instr.typeAssert,run_underlying hu,q1,this]
  unfold C8 at hv;split at hv
  ·rename_i t y hi
   obtain⟨u,hu1,Tp,hu3⟩:=LX hx hi;split at hv
   ·rename_i e
    subst e;simp only[ah]at hv;subst hv
    cases ok with
    |false=>
     refine⟨u,?_,Tp⟩;simp only[execOp,ho,hu1]
     cases ud<;>first|exact absurd rfl (hni _)|simp[Instr.typeAssert,run_underlying hu]
    |true=>
     refine⟨.tuple #[u,.bool true],?_,J6 Tp hu3⟩;simp only[execOp,ho,hu1]
     cases ud<;>first|exact absurd rfl (hni _)|simp[Instr.typeAssert,run_underlying hu]
   ·rename_i hne
    cases ok with
    |false=>cases hv
    |true=>
     simp only[if_true,ado]at hv;obtain⟨z,hz,rfl⟩:=hv;obtain⟨q,q1,q2⟩:=hgen z hz rfl (.iface t u) (λt' w' e=>by grind) (.inr ⟨_,_,rfl⟩);exact⟨q,by simp[execOp,ho,hu1,q1],q2⟩
  ·rename_i hi
   have hn:=Mh hx hi
   cases ok with
   |false=>cases hv
   |true=>
    simp only[if_true,ado]at hv;obtain⟨z,hz,rfl⟩:=hv;obtain⟨q,q1,q2⟩:=hgen z hz rfl .nilIface (λt' w' e=>by cases e) (.inl rfl);exact⟨q,by simp[execOp,ho,hn,q1],q2⟩
  grind
theorem E1(hd:∀d,o.dst=some d->d<c.n)(ho:o.op=.call { callee:=.builtin .len,args:=#[x],argTypes:=#[T] })
 (hx:s.val c.G x=.c (.mapr k)) (hk:s.lv k=.map own es) (hT:(CU c.P T).isSome=true) (h63:es.length<=9223372036854775807):cx c o s (s.put o.dst (.c (.d (.int .i64 es.length)))):=
 cx.aV hd λF β a w hs=>by
  have hmv:=hx▸hs.val x;obtain⟨hmv,_⟩:=hmv;simp only[Vw.lO,hk]at hmv;have hb:=hs.bU k;unfold Vw.bU at hb;simp only[hk]at hb;obtain⟨ents,cl,b1,b2,b3,b4,b5⟩:=hb;obtain⟨⟨kT,eT⟩,hT⟩:=Option.isSome_iff_exists.1 hT;have hu:=vL hT;have hob:(getObj (β k)).run c.P w=.ok (.map ents cl) w:=by simp[getObj,Sem.run,b1]
  refine⟨.int .i64 (es.length:Int),?_,Vw.kJ _ _ _ (c6 ⟨?_,?_⟩)⟩
  ·have hl:(Builtin.len_ #[T] o.type #[a.eval x]).run c.P w=.ok (.int .i64 (es.length:Int)) w:=by
    rw[hmv,<-b2];simp[Builtin.len_,run_underlying hu,hob,goInt]
   simp[execOp,ho,resolve,invoke,builtin,hl]
  ·simp only[Cf];omega
  ·simp only[rR];omega
theorem BB{r:Ref}(hd:∀d,o.dst=some d->d<c.n)(ho:o.op=.makeInterface T x)
 (hx:Aw (s.val c.G x)=some r) (hT:c.P.concrete T=true):cx c o s (s.put o.dst (.c (.ifc T r))):=
 cx.aV hd λF β a w hs=>by
  have hr:=Vw.Aw (hs.val x) hx;refine⟨.iface T (a.eval x),?_,?_⟩
  ·simp only[execOp,ho,cn,run_makeInterface w T _ hT,iL];rfl
  ·exact⟨a.eval x,rfl,hr⟩
end
abbrev mD:=AV×List (Key×LB)×List Key
variable {r:mD}
def Pf(P:Program)(op:BinOp)(T:TypeId)(lv:Key->LB)(x y:AV):Option mD:=
 match uI lv x with
 |some b=>if JQ x y&&A3 P T x then(match op with|.eql=>some (.c (.d (.bool b)),[],UQ x)|.neq=>some (.c (.d (.bool !b)),[],UQ x)|_=>none)else none
 |none=>none
def HM:AV->Bool
 |.tup _=>false
 |_=>true
def oV(P:Program)(T:TypeId)(lv:Key->LB)(m kx y:AV):Option mD:=
 match m with
 |.c (.mapr k)=>match lv k with
  |.map own es=>match CU P T,mo kx with
   |some (kT,_),some d=>if fX P kT d&&es.all (λe=>fX P kT e.1)&&HM y then some (.undef,[(k,.map own (xH d y es))],[])else none
   |_,_=>none
  |_=>none
 |_=>none
def HV(lv:Key->LB):AV->Option (List (DV×AV)×List Key)
 |.c (.mapr k)=>match lv k with|.map _ es=>some (es,[k])|_=>none
 |.c (.d .nilmap)=>some ([],[])
 |_=>none
theorem Lj{x:AV}(h:HM x=true):∀l,x≠.tup l:=by intro l e;rw[e]at h;cases h
def AN(P:Program)(T:TypeId)(ok:Bool)(lv:Key->LB)(m kx:AV):Option mD:=
 match HV lv m with
 |some (es,ks)=>match CU P T,mo kx with
  |some (kT,eT),some d=>if fX P kT d&&es.all (λe=>fX P kT e.1)then(match Gy P eT d es with
   |some (v,b)=>if HM v then some (if ok then .tup [v,.c (.d (.bool b))]else v,[],ks)else none
   |none=>none)else none
  |_,_=>none
 |none=>none
def s9(P:Program)(T:TypeId)(lv:Key->LB)(x:AV)(lo hi:Option AV):Option mD:=
 match x with
 |.c (.ptr k off)=>match lv k,tv P T with
  |.cells _ _ _ cs,some (n,_,sz)=>match dy lo 0,dy hi n with
   |some l,some h=>if off+n*sz<=cs.length/\0<=l/\l<=h/\h<=n/\(l<h\/l=0)then some (.c (.aE k (off+l.toNat*sz) (h.toNat-l.toNat) sz),[],[k])else none
   |_,_=>none
  |_,_=>none
 |.c (.d (.ptr cs))=>match tv P T with
  |some (n,_,sz)=>match dy lo 0,dy hi n with
   |some l,some h=>if n*sz<=cs.length/\0<=l/\l<=h/\h<=n/\n<=9223372036854775807 then some (.c (.d (.sl (((chunk sz n cs).take h.toNat).drop l.toNat))),[],[])else none
   |_,_=>none
  |none=>none
 |.c (.aE k _ len sz)=>match lv k,fk P T with
  |.cells ..,some (_,sz')=>if sz=sz' then(match dy lo 0,dy hi len with
   |some l,some h=>if 0<=l/\l=h/\h<=len then some (.c (.d (.sl [])),[],[k])else none
   |_,_=>none)else none
  |_,_=>none
 |_=>none
def Td(P:Program)(S T:TypeId)(x:AV):Option mD:=
 match x with
 |.c (.d (.str l))=>if cA P S then(match fk P T with
  |some (e,1)=>(match P.underlying e with
   |some (.int .u8)=>if l.length<=9223372036854775807 then some (.c (.d (.sl (l.map λb=>[.int .u8 (b.toNat:Int)]))),[],[])else none
   |_=>none)
  |_=>none)else none
 |_=>none
def ql(P:Program)(T T':TypeId)(lv:Key->LB)(κ:Key)(y x:AV):Option mD:=
 match x,lv κ with
 |.c (.d (.str l)),.hole=>if cA P T' then(match fk P T with
  |some (e,1)=>match P.info? e with
   |some i=>match i.zero with
    |some z=>if z.cells.size=1 then(match y with
     |.c (.d .nilsl)=>if l.length<=9223372036854775807/\l.length*i.bytes<=140737488355328 then some (.c (.aE κ 0 l.length 1),[(κ,if l.length=0 then .bO else .cells true false e (ff l))],[])else none
     |.c (.aE k off n sz)=>match lv k with
      |.bO=>if off=0/\n=0/\sz=1/\l.length<=9223372036854775807/\l.length*i.bytes<=140737488355328 then some (.c (.aE κ 0 l.length 1),[(κ,if l.length=0 then .bO else .cells true false e (ff l))],[k])else none
      |.cells own false e' cs=>if off=0/\sz=1/\e'=e/\cs.length=n/\n+l.length<=9223372036854775807/\(n+l.length)*i.bytes<=140737488355328 then some (.c (.aE κ 0 (n+l.length) 1),[(k,.dead),(κ,.cells own false e (cs++ff l))],[])else none
      |_=>none
     |_=>none)else none
    |none=>none
   |none=>none
  |_=>none)else none
 |_,_=>none
def EW(lv:Key->LB)(x:AV):Option mD:=
 match x with
 |.c (.d .nilsl)=>some (.c (.d .nilp),[],[])
 |.c (.aE k off len sz)=>match lv k with
  |.cells ..=>if 0<len then some (.c (.ptr k off),[],[k])else none
  |.bO=>if off=0/\len=0/\sz=1 then some (.c (.d .nilp),[],[k])else none
  |_=>none
 |_=>none
def vj(P:Program)(pt:TypeId)(lv:Key->LB)(x y:AV):Option mD:=
 match y with
 |.c (.d (.int .i64 n))=>match x with
  |.c (.d .nilp)=>if n=0 then some (.c (.d (.str [])),[],[])else none
  |.c (.ptr k 0)=>match lv k,P.underlying pt with
   |.cells _ false e cs,some (.pointer e')=>if e'=e/\P.cellsOf e=1/\0<n/\n<=9223372036854775807 then(match uU (cs.take n.toNat)with
    |some l=>if l.length=n.toNat then some (.c (.d (.str l)),[(k,.dead)],[])else none
    |none=>none)else none
   |_,_=>none
  |_=>none
 |_=>none
def OS(P:Program)(T:TypeId)(lv:Key->LB)(x:AV):Option mD:=
 match x with
 |.c (.mapr k)=>match lv k with
  |.map _ es=>if (CU P T).isSome&&Nat.ble es.length 9223372036854775807 then some (.c (.d (.int .i64 es.length)),[],[k])else none
  |_=>none
 |_=>none
def GJ(P:Program)(cl:Call)(vals:List AV)(lv:Key->LB)(κ:Key):Option mD:=
 match cl.callee,cl.args.toList,cl.argTypes.toList,vals with
 |.builtin .append,[_,_],[T,T'],[y,x]=>ql P T T' lv κ y x
 |.builtin .unsafeSliceData,[_],[_],[x]=>EW lv x
 |.builtin .len,[_],[T],[x]=>OS P T lv x
 |.builtin .unsafeString,[_,_],[pt,_],[x,y]=>vj P pt lv x y
 |_,_,_,_=>none
def dF(P:Program)(op:Op)(vals:List AV)(lv:Key->LB)(κ:Key):Option mD:=
 match op,vals with
 |.binOp op T _ _ _,[x,y]=>Pf P op T lv x y
 |.makeMap _ none,[]=>match lv κ with|.hole=>some (.c (.mapr κ),[(κ,.map true [])],[])|_=>none
 |.mapUpdate T _ _ _,[m,k,y]=>oV P T lv m k y
 |.insert T _ _ _,[m,k,y]=>oV P T lv m k y
 |.lookup T _ _ ok,[m,k]=>AN P T ok lv m k
 |.typeAssert _ _ T ok,[x]=>if M3 P T then(match C8 P T ok x with|some v=>some (v,[],[])|none=>none)else none
 |.makeInterface T _,[x]=>if P.concrete T then(match Aw x with|some r=>some (.c (.ifc T r),[],[])|none=>none)else none
 |.slice T _ lo hi none,x::rest=>match Hv lo hi rest with|some (l,h)=>s9 P T lv x l h|none=>none
 |.convert S T _,[x]=>Td P S T x
 |.call cl,vals=>GJ P cl vals lv κ
 |_,_=>none
section
variable {c:Ctx}{s:az}{o:Oper}
theorem Aa(hd:∀d,o.dst=some d->d<c.n)(ho:o.op=.mapUpdate T m kx y\/o.op=.insert T m kx y)(h:oV c.P T s.lv (s.val c.G m) (s.val c.G kx) (s.val c.G y)=some r):
 cx c o s (az.put ⟨s.fr,bk s.lv r.2.1⟩ o.dst r.1):=by
 unfold oV at h;split at h
 ·rename_i k hm
  split at h
  ·rename_i own es hk
   split at h
   ·rename_i kT eT d hT hdp
    split at h
    ·rename_i hc
     simp only[cy,ab3]at hc;simp only[ah]at h;subst h;refine BM hd ho hm hk hT hdp hc.1.1 hc.1.2 rfl (λl e=>?_);have:=hc.2;rw[e]at this;cases this
    ·cases h
   ·cases h
  ·cases h
 ·cases h
theorem CM(hd:∀d,o.dst=some d->d<c.n)(ho:o.op=op)(hv:op.operands.toList.map (s.val c.G)=vals)
 (h:dF c.P op vals s.lv κ=some r):cx c o s (az.put ⟨s.fr,bk s.lv r.2.1⟩ o.dst r.1):=by
 unfold dF at h;split at h
 ·
  rename_i bop T x y T' a b
  simp only[Op.operands,ac4,adP,adH,and_true]at hv;obtain⟨rfl,rfl⟩:=hv;unfold Pf at h;split at h
  ·rename_i bb hn
   split at h
   ·rename_i hc
    simp only[cy]at hc;split at h
    ·simp only[ah]at h;subst h;exact CD hd ho (.inl rfl) hn hc.1 hc.2
    ·simp only[ah]at h;subst h;exact CD hd ho (.inr rfl) hn hc.1 hc.2
    ·cases h
   ·cases h
  ·cases h
 ·rename_i T
  split at h
  ·rename_i hκ
   simp only[ah]at h;subst h;exact Fg hd ho rfl hκ
  ·cases h
 ·rename_i T m kx y a b cc
  simp only[Op.operands,ac4,adP,adH,and_true]at hv;obtain⟨rfl,rfl,rfl⟩:=hv;exact Aa hd (.inl ho) h
 ·rename_i T m kx y a b cc
  simp only[Op.operands,ac4,adP,adH,and_true]at hv;obtain⟨rfl,rfl,rfl⟩:=hv;exact Aa hd (.inr ho) h
 ·rename_i T m kx ok a b
  simp only[Op.operands,ac4,adP,adH,and_true]at hv;obtain⟨rfl,rfl⟩:=hv;unfold AN at h;split at h
  ·rename_i es ks hm
   split at h
   ·rename_i kT eT d hT hdp
    split at h
    ·rename_i hc
     simp only[cy,ab3]at hc;split at h
     ·rename_i v bb hl
      split at h
      ·rename_i hv
       simp only[ah]at h;subst h;refine IS hd ho ?_ hT hdp hc.1 hc.2 hl (Lj hv);unfold HV at hm
       grind
      ·cases h
     ·cases h
    ·cases h
   ·cases h
  ·cases h
 ·rename_i x xT T ok a
  simp only[Op.operands,ac4,adP,adH,and_true]at hv;subst hv;split at h
  ·rename_i hT
   split at h
   ·rename_i v hvv
    simp only[ah]at h;subst h;exact Iz hd ho hT hvv
   ·cases h
  ·cases h
 ·rename_i T x a
  simp only[Op.operands,ac4,adP,adH,and_true]at hv;subst hv;split at h
  ·rename_i hT
   split at h
   ·rename_i v hvv
    simp only[ah]at h;subst h;exact BB hd ho hvv hT
   ·cases h
  ·cases h
 ·rename_i T x lo hi a rest
  have hop:(Op.slice T x lo hi none).operands.toList=x::(lo.toArray++hi.toArray).toList:=by
   simp[Op.operands]
  rw[hop]at hv;simp only[ac4,adH]at hv;obtain⟨rfl,rfl⟩:=hv;split at h
  ·rename_i l hh hb
   obtain⟨rfl,rfl⟩:=KK hb;unfold s9 at h;split at h
   ·rename_i k off hx
    split at h
    ·rename_i own fz T0 cs n e sz hk hT
     split at h
     ·rename_i l h' hl hh
      split at h
      ·rename_i hc
       simp only[ah]at h;subst h;exact ED hd ho hx hk hT hc.1 hl hh hc.2.1 hc.2.2.1 hc.2.2.2.1 hc.2.2.2.2
      grind
     grind
    grind
   ·rename_i cs hx
    split at h
    ·rename_i n e sz hT
     split at h
     ·rename_i l h' hl hh
      split at h
      ·rename_i hc
       simp only[ah]at h;subst h;exact DI hd ho hx hT hc.1 hl hh hc.2.1 hc.2.2.1 hc.2.2.2.1 hc.2.2.2.2
      grind
     grind
    grind
   ·rename_i k off len sz hx
    split at h
    ·rename_i own fz T0 cs e sz' hk hT
     split at h
     ·rename_i hsz
      subst hsz;split at h
      ·rename_i l h' hl hh
       split at h
       ·rename_i hc
        simp only[ah]at h;subst h;exact Dk hd ho hx hk hT hl hh hc.1 hc.2.1 hc.2.2
       grind
      grind
     grind
    grind
   grind
  grind
 ·rename_i S T x a
  simp only[Op.operands,ac4,adP,adH,and_true]at hv;subst hv;unfold Td at h;split at h
  ·rename_i l hx
   split at h
   ·rename_i hS
    split at h
    ·rename_i e hT
     split at h
     ·rename_i he
      split at h
      ·rename_i hl
       simp only[ah]at h;subst h;exact zh hd ho hx hS hT he hl
      ·cases h
     ·cases h
    ·cases h
   ·cases h
  ·cases h
 ·rename_i cl vals
  unfold GJ at h;split at h
  ·rename_i y0 x0 T T' y x h1 h2 h3
   have e:=oT h1 h2 h3;subst e;simp only[Op.operands,Call.operands]at hv;simp at hv;obtain⟨rfl,rfl⟩:=hv;unfold ql at h;split at h
   ·rename_i l hx hκ
    split at h
    ·rename_i hT'
     split at h
     ·rename_i e hT
      split at h
      ·rename_i i hi
       split at h
       ·rename_i z hz
        split at h
        ·rename_i hzs
         split at h
         ·rename_i hy
          split at h
          ·rename_i hc
           simp only[ah]at h;subst h;exact lY hd ho hκ (.inl hy) hT hT' hi hz hx hzs hc.1 hc.2
          grind
         ·rename_i k off n sz hy
          split at h
          ·rename_i hk
           split at h
           ·rename_i hc
            obtain⟨rfl,rfl,rfl,c1,c2⟩:=hc;simp only[ah]at h;subst h;exact lY hd ho hκ (.inr ⟨k,hy,hk⟩) hT hT' hi hz hx hzs c1 c2
           grind
          ·rename_i own e' cs hk
           split at h
           ·rename_i hc
            obtain⟨rfl,rfl,rfl,c1,c2,c3⟩:=hc;simp only[ah]at h;subst h;exact sF hd ho hκ hT hT' hi hz hy hk c1 hx hzs c2 c3
           grind
          grind
         grind
        grind
       grind
      grind
     grind
    grind
   grind
  ·rename_i x0 T x h1 h2 h3
   have e:=oT h1 h2 h3;subst e;simp only[Op.operands,Call.operands]at hv;simp at hv;subst hv;unfold EW at h;split at h
   ·rename_i hx
    simp only[ah]at h;subst h;exact mL hd ho (.inl hx)
   ·rename_i k off len sz hx
    split at h
    ·rename_i hk
     split at h
     ·rename_i hl
      simp only[ah]at h;subst h;exact BR hd ho hx hk hl
     grind
    ·rename_i hk
     split at h
     ·rename_i hc
      obtain⟨rfl,rfl,rfl⟩:=hc;simp only[ah]at h;subst h;exact mL hd ho (.inr ⟨k,hx,hk⟩)
     grind
    grind
   grind
  ·rename_i x0 T x h1 h2 h3
   have e:=oT h1 h2 h3;subst e;simp only[Op.operands,Call.operands]at hv;simp at hv;subst hv;unfold OS at h;split at h
   ·rename_i k hx
    split at h
    ·rename_i own es hk
     split at h
     ·rename_i hc
      simp only[cy]at hc;simp only[ah]at h;subst h;exact E1 hd ho hx hk hc.1 (adE hc.2)
     grind
    grind
   grind
  ·rename_i x0 y0 pt it x y h1 h2 h3
   have e:=oT h1 h2 h3;subst e;simp only[Op.operands,Call.operands]at hv;simp at hv;obtain⟨rfl,rfl⟩:=hv;unfold vj at h;split at h
   ·rename_i n hy
    split at h
    ·rename_i hx
     split at h
     ·rename_i hn
      subst hn;simp only[ah]at h;subst h;exact pQ hd ho hx hy
     grind
    ·rename_i k hx
     split at h
     ·rename_i own e cs e' hk hp
      split at h
      ·rename_i hc
       obtain⟨rfl,c1,c2,c3⟩:=hc;split at h
       ·rename_i l hl
        split at h
        ·rename_i hll
         simp only[ah]at h;subst h;have hn:n=(l.length:Int):=by omega
         refine wO hd ho hx hk (by rw[hy,hn]) hp c1 (by rw[hll];exact zk hl) (λe=>?_) (by omega)
         grind
        grind
       grind
      grind
     grind
    grind
   grind
  ·cases h
 ·cases h
end
section
variable {P:Program}{T T':TypeId}{lv lv':Key->LB}{κ:Key}{r:mD}
theorem AJ{x:AV}(h:uI lv x=some b)(hk:∀k∈UQ x,lv' k=lv k):uI lv' x=some b:=by
 unfold uI at h ⊢
 split at h<;>first
  |(rename_i k _;rw[hk k (List.mem_singleton.2 rfl)];exact h)
  |(rename_i k;rw[hk k (List.mem_singleton.2 rfl)];exact h)
  |(rename_i k _ _ _;rw[hk k (List.mem_singleton.2 rfl)];exact h)
  |exact h
  |cases h
theorem HP{op:BinOp}{x y:AV}(h:Pf P op T lv x y=some r)(ha:Agree lv lv' r.2.1 r.2.2):Pf P op T lv' x y=some r:=by
 unfold Pf at h⊢;split at h
 ·rename_i b hn
  split at h
  ·rename_i hc
   split at h
   ·simp only[ah]at h;subst h;rw[AJ hn (λk hk=>ha.1 k hk)];grind
   ·simp only[ah]at h;subst h;rw[AJ hn (λk hk=>ha.1 k hk)];grind
   grind
  grind
 grind
theorem uW{m kx y:AV}(h:oV P T lv m kx y=some r)(ha:Agree lv lv' r.2.1 r.2.2):oV P T lv' m kx y=some r:=by
 unfold oV at h⊢;split at h
 ·rename_i k
  split at h
  ·rename_i own es hk
   split at h
   ·rename_i kT _ d hT hd
    split at h
    ·rename_i hc
     simp only[ah]at h;subst h;have h1:=ha.2 _ (List.mem_singleton.2 rfl)
     grind
    grind
   grind
  grind
 omega
theorem IW{x:AV}{ks:List Key}(h:HV lv x=some (es,ks))(hk:∀k∈ks,lv' k=lv k):HV lv' x=some (es,ks):=by
 unfold HV at h ⊢
 grind
theorem He{m kx:AV}(h:AN P T ok lv m kx=some r)(ha:Agree lv lv' r.2.1 r.2.2):AN P T ok lv' m kx=some r:=by
 unfold AN at h⊢;split at h
 ·rename_i es ks hm
  have hr:r.2.2=ks:=by
   split at h
   ·split at h
    ·split at h
     ·split at h
      ·simp only[ah]at h;subst h;rfl
      ·cases h
     ·cases h
    ·cases h
   ·cases h
  rw[IW hm (λk hk=>ha.1 k (hr▸hk))];exact h
 grind
theorem Db{x:AV}{lo hi:Option AV}(h:s9 P T lv x lo hi=some r)(ha:Agree lv lv' r.2.1 r.2.2):s9 P T lv' x lo hi=some r:=by
 unfold s9 at h⊢;split at h
 ·rename_i k off
  have hr:r.2.2=[k]:=by
   split at h
   ·split at h
    ·split at h
     ·simp only[ah]at h;subst h;rfl
     ·cases h
    ·cases h
   ·cases h
  rw[ha.1 k (by grind)];exact h
 ·exact h
 ·rename_i k off len sz
  have hr:r.2.2=[k]:=by
   split at h
   ·split at h
    ·split at h
     ·split at h
      ·simp only[ah]at h;subst h;rfl
      ·cases h
     ·cases h
    ·cases h
   ·cases h
  rw[ha.1 k (by grind)];exact h
 omega
theorem zJ{x y:AV}(h:ql P T T' lv κ y x=some r)(ha:Agree lv lv' r.2.1 r.2.2):ql P T T' lv' κ y x=some r:=by
 unfold ql at h⊢;split at h
 ·rename_i l hκ
  split at h
  ·rename_i hT'
   split at h
   ·rename_i e hT
    split at h
    ·rename_i i hi
     split at h
     ·rename_i z hz
      split at h
      ·rename_i hzs
       split at h
       ·split at h
        ·rename_i hc
         simp only[ah]at h;subst h;have h1:=ha.2 _ (List.mem_singleton.2 rfl)
         grind
        grind
       ·rename_i k off n sz
        split at h
        ·rename_i hk
         split at h
         ·rename_i hc
          simp only[ah]at h;subst h;have h1:=ha.2 _ (List.mem_singleton.2 rfl);have h2:=ha.1 k (List.mem_singleton.2 rfl)
          grind
         grind
        ·rename_i own e' cs hk
         split at h
         ·rename_i hc
          simp only[ah]at h;subst h;have h1:=ha.2 (κ,_) (ael _ (List.mem_singleton.2 rfl));have h2:=ha.2 (k,_) (ad9 ..)
          grind
         grind
        grind
       grind
      grind
     grind
    grind
   grind
  grind
 grind
theorem E4{x:AV}(h:EW lv x=some r)(ha:Agree lv lv' r.2.1 r.2.2):EW lv' x=some r:=by
 unfold EW at h⊢;split at h
 ·exact h
 ·rename_i k off len sz
  have hr:r.2.2=[k]:=by
   split at h
   ·split at h
    ·simp only[ah]at h;subst h;rfl
    ·cases h
   ·split at h
    ·simp only[ah]at h;subst h;rfl
    ·cases h
   ·cases h
  rw[ha.1 k (by grind)];exact h
 omega
theorem Bl{x y:AV}(h:vj P T lv x y=some r)(ha:Agree lv lv' r.2.1 r.2.2):vj P T lv' x y=some r:=by
 unfold vj at h⊢;split at h
 ·rename_i n
  split at h
  ·exact h
  ·rename_i k
   have hr:r.2.1=[(k,.dead)]:=by
    split at h
    ·split at h
     ·split at h
      ·split at h
       ·simp only[ah]at h;subst h;rfl
       ·cases h
      ·cases h
     ·cases h
    ·cases h
   have:=ha.2 (k,.dead) (by grind)
   grind
  omega
 omega
theorem I9{x:AV}(h:OS P T lv x=some r)(ha:Agree lv lv' r.2.1 r.2.2):OS P T lv' x=some r:=by
 unfold OS at h⊢;split at h
 ·rename_i k
  have hr:r.2.2=[k]:=by
   split at h
   ·split at h
    ·simp only[ah]at h;subst h;rfl
    ·cases h
   ·cases h
  rw[ha.1 k (by grind)];exact h
 omega
theorem Fy{cl:Call}(h:GJ P cl vals lv κ=some r)(ha:Agree lv lv' r.2.1 r.2.2):GJ P cl vals lv' κ=some r:=by
 unfold GJ at h⊢;split at h
 ·exact zJ h ha
 ·exact E4 h ha
 ·exact I9 h ha
 ·exact Bl h ha
 omega
theorem xw(h:dF P op vals lv κ=some r)(ha:Agree lv lv' r.2.1 r.2.2):dF P op vals lv' κ=some r:=by
 unfold dF at h⊢;split at h
 ·exact HP h ha
 ·split at h
  ·rename_i hκ
   simp only[ah]at h;subst h;have:=ha.2 _ (List.mem_singleton.2 rfl)
   grind
  grind
 ·exact uW h ha
 ·exact uW h ha
 ·exact He h ha
 ·exact h
 ·exact h
 ·split at h
  ·rename_i l hh hb
   exact Db h ha
  omega
 ·exact h
 ·exact Fy h ha
 omega
end
end Go.Am
namespace Go.Am
variable {β α:Type}{x:AV}{s:az}{c:Ctx}{L:Nat->Bool}{m:Nat}{k kh:Key}{l:List (Nat×AV)}{f:FuncId}{g:Key->Key}{b:LB}{Q:Exit->Act->World->Prop}{P:Program}{G:List (List DV)}{fn:Func}{code:Code}{args:List AV}{p:Key->Bool}{lv:Key->LB}{nk:List Key}
def U1(ops:Array Oper)(o o':Oper)(e e':Fx):Prop:=
 o.apart ops o'=true/\∀k∈e.us.map (·.1),k∉e'.us.map (·.1)
def ng(c:Ctx)(r:Option Nat)(ops:Array Oper)(o:Oper)(s0:az)(e:Fx)(ok:(Key->LB)->Prop):Prop:=
 ∀s:az,(∀t∈o.looksAt ops,s.fr t=s0.fr t)->ok s.lv ->
  ∀F β a w K Q,aA c F β s a w->(∀F' β' a' w',aA c F' β' (e.app o.dst s) a' w'->K a' w') ->
   if Region.wanted o (yielded ops a.tmps)then o.wpIn (rM r) 0 c.P a w K Q else K (a.put o.dst undef) w
section
variable {c:Ctx}{r:Option Nat}{ops:Array Oper}{es:List Fx}{s0:az}
theorem Eu(ok:Nat->(Key->LB)->Prop)(hlen:es.length=ops.size)
 (hE:∀(i:Nat) o e,ops[i]?=some o->es[i]?=some e->ng c r ops o (bw ops es s0 (λ_=>true) i) e (ok i))
 (hback:∀(i:Nat) o,ops[i]?=some o->∀ed∈o.after,Region.binds .any ed=true->ed.on<i)
 (hind:∀(i j:Nat) o o' e e',i<j->ops[i]?=some o->ops[j]?=some o'->es[i]?=some e->es[j]?=some e'->wT ops i j\/U1 ops o o' e e')
 (hok:∀(L:Nat->Bool) (i:Nat),i<ops.size->L i=false->(∀j,wT ops j i->L j=true)->(∀i j,wT ops i j->L j=true->L i=true)->ok i (bw ops es s0 L ops.size).lv)(hQ:∀F' β' a' w',aA c F' β' (bw ops es s0 (λ_=>true) ops.size) a' w'->Q .normal a' w') :
 ∀(fuel:Nat) (listed:Array Bool),listed.size=ops.size ->
  (∀(j:Nat) o,ops[j]?=some o->listed.getD j false=true->∀ed∈o.after,Region.binds .any ed=true->listed.getD ed.on false=true) ->
  ops.size<=fuel+cnt (λj=>listed.getD j false) ops.size ->
  ∀F β a w,aA c F β (bw ops es s0 (λj=>listed.getD j false) ops.size) a w->wpAnyIn (rM r) 0 c.P .any ops Q fuel listed a w:=by
 intro fuel
 have hall:∀(listed:Array Bool),(∀i,i<ops.size->listed.getD i false=true)->∀F β a w,aA c F β (bw ops es s0 (λj=>listed.getD j false) ops.size) a w->Q .normal a w:=by
  intro listed hl F β a w h;rw[fY (L':=λ_=>true) hl]at h;exact hQ _ _ _ _ h
 induction fuel with
 |zero=>
  intro listed hsz hcl hcnt F β a w h;have hl:=El (p:=λj=>listed.getD j false) (n:=ops.size) (by omega);refine⟨?_,hall listed hl F β a w h⟩;rw[List.eq_nil_iff_forall_not_mem];intro i hi;obtain⟨h1,h2,_⟩:=mem_ready.1 hi
  grind
 |succ fuel ih=>
  intro listed hsz hcl hcnt F β a w h
  have hanc:∀i j,wT ops i j->listed.getD j false=true->listed.getD i false=true:=by
   intro i j ha
   induction ha with
   |one ho he hb hi=>grind
   |more ho he hb _ ih=>grind
  refine⟨λhnil=>?_,λi hi=>?_⟩
  ·refine hall listed (λi hi=>?_) F β a w h
   induction i using Nat.strongRecOn with
   |_ i ihi=>
    cases hL:listed.getD i false with
    |true=>rfl
    |false=>
     exfalso
     have:i∈Region.ready .any ops listed:=by
      refine mem_ready.2 ⟨hi,?_,ops[i],aeu hi,λed hed hb=>?_⟩
      ·grind
      ·grind
     grind
  ·obtain⟨hi1,hi2,o,ho,hpre⟩:=mem_ready.1 hi;have h4:i<listed.size:=by omega
   have hLi:listed.getD i false=false:=by simp[Array.getD,h4]at hi2⊢;exact hi2
   obtain⟨e,he⟩:∃e,es[i]?=some e:=⟨es[i]'(by omega),bp (by omega)⟩
   have hes:∀j o',ops[j]?=some o'->∃e',es[j]?=some e':=λj o' h'=>by
    have:j<ops.size:=(Array.getElem?_eq_some_iff.1 h').1;exact⟨es[j]'(by omega),bp (by omega)⟩
   have hos:∀(j:Nat) e',es[j]?=some e'->∃o',ops[j]?=some o':=λj e' h'=>by
    grind
   have hancR:∀j,wT ops j i->listed.getD j false=true:=by
    intro j ha
    cases ha with
    |one ho' he' hb hj=>
     grind
    |more ho' he' hb hj=>
     grind
   have key:=hE i o e ho he (bw ops es s0 (λj=>listed.getD j false) ops.size) (λt ht=>?_) ?_ F β a w
    (wpAnyIn (rM r) 0 c.P .any ops Q fuel (listed.setIfInBounds i true)) Q h (λF' β' a' w' h'=>?_)
   ·unfold wpOpIn;rw[ho];simp only;split at key
    ·grind
    ·rename_i hw;rw[if_neg hw];exact⟨λ_ _=>trivial,key⟩
   ·rw[DB (i:=i) (λj o' ho' hd=>?_) ops.size,Nat.min_eq_right (by omega)];obtain⟨e',he'⟩:=hes j o' ho';constructor
    ·intro hji;rcases hind j i o' o e' e hji ho' ho he' he with ha|ha
     ·grind
     ·exact absurd ht ((ae6 ha.1).1 t hd)
    ·intro hj;rcases afD j i with hlt|heq|hgt
     ·exact hlt
     ·grind
     ·rcases hind i j o o' e e' hgt ho ho' he he' with ha|ha
      ·grind
      ·exact absurd ht ((ae6 ha.1).2.2 t hd)
   ·grind
   ·have hset:∀j,(listed.setIfInBounds i true).getD j false=(listed.getD j false ||j==i):=by
     intro j;simp only[adZ,afw]
     by_cases hj:i=j
     ·grind
     ·grind
    refine ih (listed.setIfInBounds i true) (by simp[hsz]) (λj o' ho' hj ed hed hb=>?_) ?_ F' β' a' w' ?_
    ·grind
    ·rw[qZ (q:=λj=>listed.getD j false ||j==i) (λj _=>hset j),EH (p:=λj=>listed.getD j false) hLi hi1];omega
    ·rw[fY (L':=λj=>listed.getD j false ||j==i) (λj _=>hset j)]
     have hst:e.app o.dst (bw ops es s0 (λj=>listed.getD j false) ops.size)=bw ops es s0 (λj=>listed.getD j false ||j==i) ops.size:=by
      have e1:(e.app o.dst (bw ops es s0 (λj=>listed.getD j false) ops.size)).fr=(bw ops es s0 (λj=>listed.getD j false ||j==i) ops.size).fr:=by
       funext t;refine xe ho he hi1 hLi (λj o' hij ho' hj hd=>?_);obtain⟨e',he'⟩:=hes j o' ho';rcases hind i j o o' e e' hij ho ho' he he' with ha|ha
       ·grind
       ·exact(ae6 ha.1).2.1 t hd
      have e2:(e.app o.dst (bw ops es s0 (λj=>listed.getD j false) ops.size)).lv=(bw ops es s0 (λj=>listed.getD j false ||j==i) ops.size).lv:=by
       funext k;refine xl ho he hi1 hLi (λj e' hij he' hj hd=>?_);obtain⟨o',ho'⟩:=hos j e' he';rcases hind i j o o' e e' hij ho ho' he he' with ha|ha
       ·grind
       ·exact ha.2 k hd
      cases h1:e.app o.dst (bw ops es s0 (λj=>listed.getD j false) ops.size)
      cases h2:bw ops es s0 (λj=>listed.getD j false ||j==i) ops.size
      rw[h1,h2]at e1 e2;simp only at e1 e2;rw[e1,e2]
     grind
end
section
variable {ops:Array Oper}{es:List Fx}{s0:az}
theorem Lm{o:Oper}{e:Fx}(ho:ops[m]?=some o)(he:es[m]?=some e):
 bw ops es s0 L (m+1)=if L m then e.app o.dst (bw ops es s0 L m)else bw ops es s0 L m:=by
 simp only[bw,ho,he]
theorem ox(hlen:es.length=ops.size)(hm:m<ops.size):
 ∃e,es[m]?=some e/\(bw ops es s0 L (m+1)).lv k=if L m=true then bk (bw ops es s0 L m).lv e.us k else(bw ops es s0 L m).lv k:=by
 have ho:ops[m]?=some ops[m]:=aeu hm;have he:es[m]?=some (es[m]'(by omega)):=bp (by omega);refine⟨_,he,?_⟩;rw[Lm ho he]
 cases L m<;>simp[oc]
theorem DZ(hlen:es.length=ops.size){i:Nat}(hi:i<ops.size)(hLi:L i=false)(h1:∀j,wT ops j i->L j=true)(h2:∀i j,wT ops i j->L j=true->L i=true):
 (bw ops es s0 L ops.size).lv k=(bw ops es s0 (λ_=>true) i).lv k \/
 (∃j e,i<j/\es[j]?=some e/\¬wT ops i j/\k∈e.us.map (·.1)/\(bw ops es s0 L ops.size).lv k=bk (λ_=>.hole) e.us k) \/
 (∃j e,j<i/\es[j]?=some e/\¬wT ops j i/\k∈e.us.map (·.1)/\(bw ops es s0 L ops.size).lv k=(bw ops es s0 (λ_=>true) j).lv k):=by
 have hA:∀m,m<=i->((bw ops es s0 L m).lv k=(bw ops es s0 (λ_=>true) m).lv k \/
  ∃j e,j<i/\es[j]?=some e/\¬wT ops j i/\k∈e.us.map (·.1)/\(bw ops es s0 L m).lv k=(bw ops es s0 (λ_=>true) j).lv k):=by
  intro m
  induction m with
  |zero=>intro _;exact .inl rfl
  |succ m ih=>
   intro hm;obtain⟨e,he,e1⟩:=ox (ops:=ops) (s0:=s0) (L:=L) (k:=k) hlen (by omega:m<ops.size);obtain⟨e',he',e2⟩:=ox (ops:=ops) (s0:=s0) (L:=λ_=>true) (k:=k) hlen (by omega:m<ops.size);rw[he]at he';simp only[ah]at he';subst he';simp only[if_true]at e2;rw[e1,e2]
   by_cases hk:k∈e.us.map (·.1)
   ·cases hL:L m with
    |true=>simp only[if_true];exact .inl (tF hk)
    |false=>
     grind
   ·rw[cT hk,cT hk]
    grind
 have hB:∀m,i<=m->m<=ops.size->((bw ops es s0 L m).lv k=(bw ops es s0 L i).lv k \/
  ∃j e,i<j/\es[j]?=some e/\¬wT ops i j/\k∈e.us.map (·.1)/\(bw ops es s0 L m).lv k=bk (λ_=>.hole) e.us k):=by
  intro m
  induction m with
  |zero=>grind
  |succ m ih=>
   intro hm hms
   by_cases hmi:i=m+1
   ·grind
   obtain⟨e,he,e1⟩:=ox (ops:=ops) (s0:=s0) (L:=L) (k:=k) hlen (by omega:m<ops.size);rw[e1]
   cases hL:L m with
   |false=>grind
   |true=>
    simp only[if_true]
    by_cases hk:k∈e.us.map (·.1)
    ·refine .inr ⟨m,e,?_,he,λha=>?_,hk,tF hk⟩
     ·grind
     grind
    ·rw[cT hk];grind
 grind
end
structure Fw where
 e:Fx
 lv:Key->LB
 all:Bool
 soft:Key->LB->Bool
variable {fs:List Fw}
def Fw.ok(f:Fw)(lv:Key->LB):Prop:=
 (f.all=true/\lv=f.lv)\/(f.all=false/\(Agree f.lv lv f.e.us f.e.rds\/(f.e.us=[]/\∃k,f.e.rds=[k]/\f.soft k (lv k)=true)))
def Fw.apart(f g:Fw):Prop:=
 (f.all=true->g.e.us=[])/\(g.all=true->f.e.us=[]) /\
 (∀k∈f.e.us.map (·.1),k∉g.e.us.map (·.1)) /\
 (∀k∈f.e.us.map (·.1),k∉g.e.rds\/(g.e.us=[]/\g.e.rds=[k]/\g.soft k (f.lv k)=true)) /\
 (∀k∈g.e.us.map (·.1),k∉f.e.rds\/(f.e.us=[]/\f.e.rds=[k]/\f.soft k (bk (λ_=>.hole) g.e.us k)=true))
theorem XA{ops:Array Oper}{s0:az}(hlen:fs.length=ops.size)
 (hlv:∀(i:Nat) f,fs[i]?=some f->f.lv=(bw ops (fs.map (·.e)) s0 (λ_=>true) i).lv)
 (hind:∀(i j:Nat) f g,i<j->fs[i]?=some f->fs[j]?=some g->wT ops i j\/f.apart g) :
 ∀(L:Nat->Bool) (i:Nat) (f:Fw),fs[i]?=some f->L i=false->(∀j,wT ops j i->L j=true)->(∀i j,wT ops i j->L j=true->L i=true) ->
  f.ok (bw ops (fs.map (·.e)) s0 L ops.size).lv:=by
 intro L i f hf hLi h1 h2;have hi:i<ops.size:=by have:=(List.getElem?_eq_some_iff.1 hf).1;omega
 have hlen':(fs.map (·.e)).length=ops.size:=by simpa using hlen
 have hver:=λk=>DZ (s0:=s0) (k:=k) hlen' hi hLi h1 h2
 rw[<-hlv i f hf]at hver
 have hget:∀(j:Nat) (e:Fx),(fs.map (·.e))[j]?=some e->∃g:Fw,fs[j]?=some g/\g.e=e:=by
  intro j e h;rwa[aet,ado]at h
 cases hall:f.all with
 |true=>
  left;refine⟨hall,funext λk=>?_⟩;rcases hver k with h|⟨j,e,q1,q2,q3,q4,q5⟩|⟨j,e,q1,q2,q3,q4,q5⟩
  ·exact h
  ·obtain⟨g,hg,rfl⟩:=hget j e q2;rcases hind i j f g q1 hf hg with ha|ha
   ·grind
   ·rw[ha.1 hall]at q4;cases q4
  ·obtain⟨g,hg,rfl⟩:=hget j e q2;rcases hind j i g f q1 hg hf with ha|ha
   ·grind
   ·rw[ha.2.1 hall]at q4;cases q4
 |false=>
 right;refine⟨hall,?_⟩
 by_cases hs:f.e.us=[]/\∃k,f.e.rds=[k]
 ·obtain⟨hu,k,hk⟩:=hs;rcases hver k with h|⟨j,e,q1,q2,q3,q4,q5⟩|⟨j,e,q1,q2,q3,q4,q5⟩
  ·left;refine⟨λk' hk'=>?_,λp hp=>by grind⟩
   grind
  all_goals (right;refine⟨hu,k,hk,?_⟩)
  ·obtain⟨g,hg,rfl⟩:=hget j e q2;rw[q5];rcases hind i j f g q1 hf hg with ha|ha
   ·grind
   ·rcases ha.2.2.2.2 k q4 with h|h
    ·grind
    grind
  ·obtain⟨g,hg,rfl⟩:=hget j e q2;rw[q5,<-hlv j g hg];rcases hind j i g f q1 hg hf with ha|ha
   ·grind
   ·rcases ha.2.2.2.1 k q4 with h|h
    ·grind
    grind
 ·left;have hno:∀k,¬(f.e.us=[]/\f.e.rds=[k]):=λk h=>hs ⟨h.1,k,h.2⟩
  have key:∀k,(k∈f.e.rds\/k∈f.e.us.map (·.1))->(bw ops (fs.map (·.e)) s0 L ops.size).lv k=f.lv k:=by
   intro k hk;rcases hver k with h|⟨j,e,q1,q2,q3,q4,q5⟩|⟨j,e,q1,q2,q3,q4,q5⟩
   ·exact h
   ·obtain⟨g,hg,rfl⟩:=hget j e q2;exfalso;rcases hind i j f g q1 hf hg with ha|ha
    ·exact q3 ha
    ·rcases hk with hk|hk
     ·rcases ha.2.2.2.2 k q4 with h|h
      ·exact h hk
      grind
     ·exact ha.2.2.1 k hk q4
   ·obtain⟨g,hg,rfl⟩:=hget j e q2;exfalso;rcases hind j i g f q1 hg hf with ha|ha
    ·exact q3 ha
    ·rcases hk with hk|hk
     ·rcases ha.2.2.2.1 k q4 with h|h
      ·exact h hk
      grind
     ·exact ha.2.2.1 k q4 hk
  exact⟨λk hk=>key k (.inl hk),λp hp=>key p.1 (.inr (afA hp))⟩
def jL(c:Ctx)(r:Option Nat)(ops:Array Oper):List Oper->List Fw->az->az->Prop
 |[],[],s,s'=>s'=s
 |o::os,f::fs,s,s'=>ng c r ops o s f.e f.ok/\f.lv=s.lv/\jL c r ops os fs (f.e.app o.dst s) s'
 |_,_,_,_=>False
section
variable {c:Ctx}{r:Option Nat}{ops:Array Oper}
theorem jL.len:∀{os:List Oper}{es:List Fw}{s s':az},jL c r ops os es s s'->es.length=os.length
 |[],[],_,_,_=>rfl
 |_::_,_::_,_,_,h=>by simp[jL.len h.2.2]
 |[],_::_,_,_,h=>h.elim
 |_::_,[],_,_,h=>h.elim
theorem jL.at{fs:List Fw}{s0:az}:∀{os:List Oper}{rs:List Fw}{s':az}(n:Nat),ops.toList.drop n=os->fs.drop n=rs->jL c r ops os rs (bw ops (fs.map (·.e)) s0 (λ_=>true) n) s' ->
 s'=bw ops (fs.map (·.e)) s0 (λ_=>true) (n+os.length)/\∀(i:Nat) o f,n<=i->ops[i]?=some o->fs[i]?=some f->ng c r ops o (bw ops (fs.map (·.e)) s0 (λ_=>true) i) f.e f.ok/\f.lv=(bw ops (fs.map (·.e)) s0 (λ_=>true) i).lv
 |[],[],s',n,h1,h2,h=>by
  refine⟨h,λi o e hi ho he=>?_⟩;have h3:fs.length<=n:=List.drop_eq_nil_iff.1 h2
  grind
 |o::os,e::rs,s',n,h1,h2,h=>by
  have ho:ops[n]?=some o:=by
   have:(ops.toList.drop n)[0]?=some o:=by rw[h1];rfl
   rw[aeM]at this;simpa using this
  have he:fs[n]?=some e:=by
   have:(fs.drop n)[0]?=some e:=by rw[h2];rfl
   rw[aeM]at this;simpa using this
  have hst:bw ops (fs.map (·.e)) s0 (λ_=>true) (n+1)=e.e.app o.dst (bw ops (fs.map (·.e)) s0 (λ_=>true) n):=by
   simp only[bw,ho,aet,he,adm,if_true]
  obtain⟨h3,h4⟩:=jL.at (fs:=fs) (s0:=s0) (os:=os) (rs:=rs) (s':=s') (n+1) (by rw[<-aeb,h1];rfl) (by rw[<-aeb,h2];rfl) (by rw[hst];exact h.2.2);refine⟨by grind,λi o' e' hi ho' he'=>?_⟩
  by_cases e1:i=n
  ·subst e1;rw[ho]at ho';rw[he]at he';simp only[ah]at ho' he';subst ho';subst he';exact⟨h.1,h.2.1⟩
  grind
 |[],_::_,_,_,_,_,h=>h.elim
 |_::_,[],_,_,_,_,h=>h.elim
theorem jL.draw{id:Nat}{s':az}(hm:c.P.follows .mixedOrders=true)(h:jL c r ops ops.toList fs s s')
 (hback:∀(i:Nat) o,ops[i]?=some o->∀ed∈o.after,Region.binds .any ed=true->ed.on<i)
 (hind:∀(i j:Nat) o o' f g,i<j->ops[i]?=some o->ops[j]?=some o'->fs[i]?=some f->fs[j]?=some g->wT ops i j\/(o.apart ops o'=true/\f.apart g))
 (hQ:∀F' β' a' w',aA c F' β' s' a' w'->Q .normal a' w') {F:Nat->Prop}{β:Key->Nat}{a:Act}{w:World}(hs:aA c F β s a w):(Code.region id ops true).wpIn (rM r) 0 c.P Q a w:=by
 have hlen:fs.length=ops.size:=by rw[h.len];simp
 obtain⟨h3,h4⟩:=jL.at (fs:=fs) (s0:=s) 0 rfl rfl h;refine wpIn_region_any hm ?_
 have hget:∀(j:Nat) (e:Fx),(fs.map (·.e))[j]?=some e->∃g:Fw,fs[j]?=some g/\g.e=e:=by
  intro j e h;rwa[aet,ado]at h
 have hos:∀(j:Nat) f,fs[j]?=some f->∃o',ops[j]?=some o':=λj e' h'=>by
  have:j<fs.length:=(List.getElem?_eq_some_iff.1 h').1
  simp_all
 refine Eu (es:=fs.map (·.e)) (s0:=s) (λi lv=>∀f,fs[i]?=some f->f.ok lv) (by grind) (λi o e ho he=>?_) hback (λi j o o' e e' hij ho ho' he he'=>?_) (λL i hi hLi h1 h2 f hf=>?_)
  (λF' β' a' w' h'=>hQ F' β' a' w' ?_) ops.size _ (by simp) (λj o ho hj=>?_) (by omega) F β a _ ?_
 ·obtain⟨f,hf,rfl⟩:=hget i e he;intro s1 g1 g2;exact(h4 i o f (ac1 _) ho hf).1 s1 g1 (g2 f hf)
 ·obtain⟨f,hf,rfl⟩:=hget i e he;obtain⟨g,hg,rfl⟩:=hget j e' he';rcases hind i j o o' f g hij ho ho' hf hg with ha|⟨ha,hb⟩
  ·grind
  ·exact .inr ⟨ha,hb.2.2.1⟩
 ·refine XA hlen (λi f hf=>?_) (λi j f g hij hf hg=>?_) L i f hf hLi h1 h2
  ·grind
  ·obtain⟨o,ho⟩:=hos i f hf
   grind
 ·rw[h3];simpa using h'
 ·have hf:(Array.replicate ops.size false).getD j false=false:=by
   simp only[adZ,aeR];split<;>rfl
  grind
 ·have hf:∀j,(Array.replicate ops.size false).getD j false=false:=λj=>by
   simp only[adZ,aeR];grind
  have:bw ops (fs.map (·.e)) s (λj=>(Array.replicate ops.size false).getD j false) ops.size=s:=by
   rw[fY (L':=λ_=>false) (λj _=>hf j)]
   have:∀m,bw ops (fs.map (·.e)) s (λ_=>false) m=s:=by
    intro m
    induction m with
    |zero=>rfl
    |succ m ih=>simp only[bw,ih,adC,if_false];grind
   exact this _
  rw[this];exact hs.heap rfl
end
theorem AW.seq'{r:Option Nat}{κ:Nat}{Q:Ex->az->Nat->Prop}{x y:Code}(h:AW c r x s κ (vk (λs κ=>AW c r y s κ Q) Q)):AW c r (.seq x y) s κ Q:=
 AW.seq h λ_ _ h=>h
theorem Ref.qb:∀(x:Ref),x.bJ (λk=>k)=x
 |.d _=>rfl
 |.ptr ..=>rfl
 |.aE ..=>rfl
 |.agg cs=>by
  simp only[Ref.bJ];congr 1;have:∀x∈cs,jB.bJ (λk=>k) x=x:=λx _=>by cases x<;>rfl
  simpa using adI this
 |.ifc t x=>by simp only[Ref.bJ,Ref.qb x]
theorem CV.qb(x:CV):x.bJ (λk=>k)=x:=by
 cases x with
 |func fn f c=>
  simp only[CV.bJ]
  have h:∀l:List Ref,l.map (Ref.bJ λk=>k)=l:=λl=>by
   have:∀x∈l,Ref.bJ (λk=>k) x=x:=λx _=>Ref.qb x
   simpa using adI this
  rw[h,h]
 |ifc t x=>simp only[CV.bJ,Ref.qb]
 |_=>rfl
theorem zX(l:List CV):l.map (CV.bJ λk=>k)=l:=by
 have:∀x∈l,CV.bJ (λk=>k) x=x:=λx _=>CV.qb x
 simpa using adI this
theorem AV.xZ(h:x.cD=true):x.l6 (λk=>k)=x:=by
 cases x with
 |c x=>simp only[AV.l6,CV.qb]
 |agg cs=>simp only[AV.l6,zX]
 |tup l=>cases h
 |undef=>rfl
 |junk=>rfl
theorem AV.qb(h:x.bF=true):x.bJ (λk=>k)=x:=by
 cases x with
 |c x=>exact AV.xZ (x:=.c x) rfl
 |agg cs=>exact AV.xZ (x:=.agg cs) rfl
 |tup l=>
  simp only[AV.bF,ab3]at h;simp only[AV.bJ];congr 1;have:∀x∈l,AV.l6 (λk=>k) x=x:=λx hx=>AV.xZ (by have:=h x hx;cases x<;>simp_all [AV.cD])
  simpa using adI this
 |undef=>rfl
 |junk=>rfl
theorem LB.Xc{x:LB}(hm:∀own es,x=.map own es->∀p∈es,∀l,p.2≠.tup l):x.as x (λk=>k):=by
 cases x with
 |cells own fz T cs=>exact⟨own,cs,rfl,(zX cs).symm,λh=>h⟩
 |map own es=>
  refine⟨own,es,rfl,?_,λh=>h,λp hp l=>hm own es rfl p hp l⟩
  have:∀p∈es,(λp:DV×AV=>(p.1,p.2.l6 λk=>k)) p=p:=λp hp=>by
   have:=AV.xZ (x:=p.2) (by have:=hm own es rfl p hp;cases e:p.2<;>simp_all [AV.cD])
   grind
  simpa using (adI this).symm
 |hole=>rfl
 |dead=>intro h;cases h
 |bO=>rfl
def aJ:List (Nat×AV)->Nat->AV
 |[],_=>.junk
 |p::l,t=>if t=p.1 then p.2 else aJ l t
theorem jI{P:Nat->AV->Prop}(h:∀p∈l,P p.1 p.2)(t:Nat):aJ l t=.junk\/P t (aJ l t):=by
 induction l with
 |nil=>exact .inl rfl
 |cons p l ih=>
  simp only[aJ]
  grind
theorem dQ.slots(hl:∀p∈l,p.2.bF=true/\s.fr p.1=p.2)(hm:∀k own es,s.lv k=.map own es->∀p∈es,∀l,p.2≠.tup l):
 dQ c s ⟨aJ l,s.lv⟩ (λk=>k):=by
 refine⟨λk=>LB.Xc (hm k),λk k' _ _ h=>h,λt=>?_,λk _=>.inr rfl⟩;rcases jI (P:=λt x=>x.bF=true/\s.fr t=x) hl t with h|⟨h1,h2⟩
 ·grind
 ·exact .inr ⟨h1,by rw[AV.qb h1];exact h2⟩
def CV.pure:CV->Bool
 |.d _=>true
 |_=>false
def AV.lH:AV->Bool
 |.c x=>x.pure
 |.agg cs=>cs.all CV.pure
 |.undef=>true
 |.junk=>true
 |_=>false
def AV.pure:AV->Bool
 |.tup l=>l.all AV.lH
 |x=>x.lH
theorem CV.bM{x:CV}(h:x.pure=true)(g:Key->Key):x.bJ g=x:=by cases x<;>simp_all [CV.pure,CV.bJ]
theorem AV.vN(h:x.lH=true)(g:Key->Key):x.l6 g=x:=by
 cases x with
 |c x=>simp only[AV.l6,CV.bM h]
 |agg cs=>
  simp only[AV.lH,ab3]at h;simp only[AV.l6];congr 1;have:∀x∈cs,CV.bJ g x=x:=λx hx=>CV.bM (h x hx) g
  simpa using adI this
 |tup l=>cases h
 |undef=>rfl
 |junk=>rfl
theorem AV.bM(h:x.pure=true)(g:Key->Key):x.bJ g=x:=by
 cases x with
 |c x=>exact AV.vN (x:=.c x) h g
 |agg cs=>exact AV.vN (x:=.agg cs) h g
 |tup l=>
  simp only[AV.pure,ab3]at h;simp only[AV.bJ];congr 1;have:∀x∈l,AV.l6 g x=x:=λx hx=>AV.vN (h x hx) g
  simpa using adI this
 |undef=>rfl
 |junk=>rfl
theorem AV.eB(h:x.pure=true):x.bF=true:=by
 cases x with
 |tup l=>
  simp only[AV.pure,ab3]at h;simp only[AV.bF,ab3];intro x hx;have:=h x hx
  cases x<;>simp_all [AV.lH]
 |_=>rfl
theorem dQ.blind(hl:∀p∈l,p.2.pure=true/\s.fr p.1=p.2)(kh:Key)(hh:s.lv kh=.hole)(h0:∀k,c.jd k=.hole):
 dQ c s ⟨aJ l,λ_=>.hole⟩ (λ_=>kh):=by
 refine⟨λk=>hh,λk k' h=>(by cases h),λt=>?_,λk h=>absurd (h0 k) h⟩;rcases jI (P:=λt x=>x.pure=true/\s.fr t=x) hl t with h|⟨h1,h2⟩
 ·grind
 ·exact .inr ⟨AV.eB h1,by rw[AV.bM h1];exact h2⟩
theorem iY:bu [] []=λ_=>LB.hole:=funext λk=>uL k
def aq(c:Ctx)(fn:Func)(x:AV):Ex->az->Nat->Prop
 |.normal,s,_|.ret,s,_=>∃l kh,(∀p∈l,p.2.pure=true/\s.fr p.1=p.2)/\s.lv kh=.hole/\eD c.P ⟨aJ l,λ_=>.hole⟩ fn.results.toList=some x
 |_,_,_=>False
theorem aa.MW(hf:P.funcs[f]?=some fn)(hb:fn.body=some code)(hl:args.length<=fn.ntmps)
 (h:∀c:Ctx,c.P=P->c.G=G->c.n=fn.ntmps->c.jd=(λ_=>.hole)->AW c none code ⟨λt=>args.getD t .undef,λ_=>.hole⟩ 0 (aq c fn x)):aa P G f args x:=by
 refine aD.o9 hf hb hl λc h1 h2 h3 h4=>?_;rw[iY]at h4⊢;refine(AW.mono (λF β a w hs=>h c h1 h2 h3 h4 F β a w hs) λe s κ hq=>?_:AW c none code _ 1000 _)
 have fin:(∃l kh,(∀p∈l,p.2.pure=true/\s.fr p.1=p.2)/\s.lv kh=.hole/\eD c.P ⟨aJ l,λ_=>.hole⟩ fn.results.toList=some x) ->
  ∃s2 g,dQ c s s2 g/\s2.lv=bu [] []/\eD c.P s2 fn.results.toList=some x:=by
  rintro⟨l,kh,g1,g2,g3⟩;exact⟨⟨aJ l,λ_=>.hole⟩,λ_=>kh,dQ.blind g1 kh g2 (λk=>by rw[h4]),by rw[iY],g3⟩
 cases e with
 |normal=>exact fin hq
 |ret=>exact fin hq
 |exit id=>exact hq.elim
 |goto l=>exact hq.elim
 |panic d=>exact hq.elim
theorem aa.o9(hf:P.funcs[f]?=some fn)(hb:fn.body=some code)(hl:args.length<=fn.ntmps)
 (h:∀c:Ctx,c.P=P->c.G=G->c.n=fn.ntmps->AW c none code ⟨λt=>args.getD t .undef,λ_=>.hole⟩ 0 (aq c fn x)):aa P G f args x:=
 aa.MW hf hb hl λc h1 h2 h3 _=>h c h1 h2 h3
inductive Tr(α:Type) where
 |nil
 |node (l:Tr α) (v:Option α) (r:Tr α)
def Tr.get:Tr α->Nat->Option α
 |.nil,_=>none
 |.node l v r,n=>match n with
  |0=>v
  |n+1=>bif Nat.beq (n%2) 0 then l.get (n/2)else r.get (n/2)
def Tr.set:Nat->Tr α->Nat->α->Option (Tr α)
 |0,_,_,_=>none
 |d+1,t,n,x=>
  match t with
  |.nil=>match n with
   |0=>some (.node .nil (some x) .nil)
   |n+1=>bif Nat.beq (n%2) 0 then(match Tr.set d .nil (n/2) x with|some l=>some (.node l none .nil)|none=>none)
    else(match Tr.set d .nil (n/2) x with|some r=>some (.node .nil none r)|none=>none)
  |.node l v r=>match n with
   |0=>some (.node l (some x) r)
   |n+1=>bif Nat.beq (n%2) 0 then(match Tr.set d l (n/2) x with|some l=>some (.node l v r)|none=>none)
    else(match Tr.set d r (n/2) x with|some r=>some (.node l v r)|none=>none)
abbrev mj:=AV×List (Key×LB)×List Key×Bool
instance (op:BinOp)(y:Int):Decidable (fK op y):=by unfold fK;cases op<;>infer_instance
instance (op:BinOp)(x y:List UInt8):Decidable (wo op x y):=by unfold wo;cases op<;>infer_instance
def wV(P:Program)(op:BinOp)(T:TypeId)(x y:AV):Option mj:=
 match x,y with
 |.c (.d (.int k m)),.c (.d (.int k' n))=>
  match op with
  |.shl|.shr=>match Zc op k m n with|some d=>some (.c (.d d),[],[],decide (0<=n))|none=>none
  |_=>if k=k' then(match mc op k m n with|some d=>some (.c (.d d),[],[],decide (fK op n))|none=>none)else none
 |.c (.d (.str m)),.c (.d (.str n))=>match Se op m n with|some d=>some (.c (.d d),[],[],decide (wo op m n))|none=>none
 |x,y=>
  match op with
  |.eql=>if P.eqGuardType P.depth T || !oy x then none else match Bw P 20 T x y with|some b=>some (.c (.d (.bool b)),[],[],true)|none=>none
  |.neq=>if P.eqGuardType P.depth T || !oy x then none else match Bw P 20 T x y with|some b=>some (.c (.d (.bool (!b))),[],[],true)|none=>none
  |_=>none
def sM(P:Program)(T:TypeId)(lv:Key->LB):AV->Option mj
 |.c (.d (.ptr cs))=>match fq P T (cs.map CV.d)with|some y=>some (y,[],[],true)|none=>none
 |.c (.ptr k off)=>match lv k with
  |.cells _ _ _ cs=>match fq P T (cs.drop off)with|some y=>some (y,[],[k],true)|none=>none
  |_=>none
 |_=>none
def qp(P:Program)(T:TypeId)(lv:Key->LB)(x y:AV):Option mj:=
 match x with
 |.c (.ptr k off)=>match lv k with
  |.cells own false T' cs=>match y.cells with
   |some xs=>if (P.info? T).isSome&&xs.length==gS P T then some (.undef,[(k,.cells own false T' (aj cs off xs))],[],decide (off+xs.length<=cs.length))else none
   |none=>none
  |_=>none
 |_=>none
def wz(lv:Key->LB):AV->Option mj
 |.c (.d (.ptr cs))=>some (.c (.d (.ptr cs)),[],[],true)
 |.c (.ptr k n)=>match lv k with|.cells ..=>some (.c (.ptr k n),[],[k],true)|_=>none
 |.c (.d (.func (.func f) fs cs))=>some (.c (.d (.func (.func f) fs cs)),[],[],true)
 |.c (.func (.func f) fs cs)=>some (.c (.func (.func f) fs cs),[],[],true)
 |_=>none
def kN(P:Program)(T:TypeId)(f:Nat)(lv:Key->LB):AV->Option mj
 |.c (.d (.ptr cs))=>match c9 P T f with|some (off,_)=>some (.c (.d (.ptr (cs.drop off))),[],[],decide (off<=cs.length))|none=>none
 |.c (.ptr k n)=>match lv k,c9 P T f with|.cells ..,some (off,_)=>some (.c (.ptr k (n+off)),[],[k],true)|_,_=>none
 |_=>none
def kG(P:Program)(T:TypeId)(lv:Key->LB)(x i:AV):Option mj:=
 match i with
 |.c (.d (.int _ n))=>
  match x with
  |.c (.d (.sl es))=>match fk P T with
   |some (_,sz)=>some (.c (.d (.ptr (es.getD n.toNat []))),[],[],decide (0<=n/\n<es.length/\(es.getD n.toNat []).length=sz))
   |none=>none
  |.c (.aE k off len sz)=>match lv k,fk P T with
   |.cells ..,some (_,sz')=>if sz=sz' then some (.c (.ptr k (off+n.toNat*sz)),[],[k],decide (0<=n/\n<len))else none
   |_,_=>none
  |.c (.d (.ptr cs))=>match tv P T with
   |some (len,_,sz)=>some (.c (.d (.ptr (cs.drop (n.toNat*sz)))),[],[],decide (0<=n/\n<len/\n.toNat*sz<=cs.length))
   |none=>none
  |.c (.ptr k off)=>match lv k,tv P T with
   |.cells ..,some (len,_,sz)=>some (.c (.ptr k (off+n.toNat*sz)),[],[k],decide (0<=n/\n<len))
   |_,_=>none
  |_=>none
 |_=>none
def pM(P:Program)(T:TypeId)(x i:AV):Option mj:=
 match i with
 |.c (.d (.int _ n))=>
  match x with
  |.c (.d (.str l))=>if cA P T then some (.c (.d (.int .u8 (l.getD n.toNat 0).toNat)),[],[],decide (0<=n/\n<l.length))else none
  |.agg cs=>match tv P T with
   |some (len,e,sz)=>match pn P e cs (n.toNat*sz)with|some y=>some (y,[],[],decide (0<=n/\n<len))|none=>none
   |none=>none
  |_=>none
 |_=>none
def pZ(P:Program)(T:TypeId)(lv:Key->LB)(x:AV)(lo hi:Option AV):Option mj:=
 match x with
 |.c (.d (.str bs))=>if cA P T then(match dy lo 0,dy hi bs.length with
  |some l,some h=>some (.c (.d (.str ((bs.take h.toNat).drop l.toNat))),[],[],decide (0<=l/\l<=h/\h<=bs.length))
  |_,_=>none)else none
 |.c (.d (.sl es))=>match fk P T with
  |some (_,sz)=>match dy lo 0,dy hi es.length with
   |some l,some h=>some (.c (.d (.sl ((es.take h.toNat).drop l.toNat))),[],[],decide (0<=l/\l<=h/\h<=es.length/\∀e∈es,e.length=sz))
   |_,_=>none
  |none=>none
 |.c (.d .nilsl)=>match fk P T with
  |some _=>match dy lo 0,dy hi 0 with
   |some l,some h=>some (.c (.d .nilsl),[],[],decide (l=0/\h=0))
   |_,_=>none
  |none=>none
 |.c (.aE k off len sz)=>match lv k,fk P T with
  |.cells ..,some (_,sz')=>if sz=sz' then(match dy lo 0,dy hi len with
   |some l,some h=>some (.c (.aE k (off+l.toNat*sz) (h.toNat-l.toNat) sz),[],[k],decide (0<=l/\l<=h/\h<=len/\(l<h\/l=0)))
   |_,_=>none)else none
  |_,_=>none
 |_=>none
def sY(P:Program)(T:TypeId)(lv:Key->LB)(κ:Key)(x y:AV):Option mj:=
 match x,y with
 |.c (.d (.int _ l)),.c (.d (.int _ m))=>match fk P T,lv κ with
  |some (e,sz),.hole=>match bg P e,br P e with
   |some zs,some b=>if zs.length=sz/\0<sz then some (.c (.aE κ 0 l.toNat sz),[(κ,.cells true false e (lp l.toNat zs))],[],decide (0<=l/\l<=m/\(b:Int)*m<=281474976710656/\m<=9223372036854775807))else none
   |_,_=>none
  |_,_=>none
 |_,_=>none
def oz(P:Program)(T:TypeId)(lv:Key->LB)(κ:Key)(y x:AV):Option mj:=
 match fk P T,lv κ with
 |some (e,sz),.hole=>match br P e,dS lv sz x with
  |some b,some (m,xs)=>
   match y with
   |.c (.d .nilsl)=>some (.c (.aE κ 0 m sz),[(κ,if m=0 then .bO else .cells true false e xs)],keyOf x,decide (m<=9223372036854775807/\m*b<=140737488355328))
   |.c (.aE k off n sz')=>match lv k with
    |.bO=>if off=0/\n=0/\sz'=sz then some (.c (.aE κ 0 m sz),[(κ,if m=0 then .bO else .cells true false e xs)],k::keyOf x,decide (m<=9223372036854775807/\m*b<=140737488355328))else none
    |.cells own false e' cs=>if off=0/\sz'=sz/\e'=e then
     some (.c (.aE κ 0 (n+m) sz),[(k,.dead),(κ,.cells own false e (cs++xs))],keyOf x,decide (cs.length=n*sz/\n+m<=9223372036854775807/\(n+m)*b<=140737488355328))else none
    |_=>none
   |_=>none
  |_,_=>none
 |_,_=>none
def jY(P:Program)(T:TypeId)(n:Nat)(ixs:List Nat)(lv:Key->LB)(κ:Key)(vals:List AV):Option mj:=
 match fk P T,lv κ with
 |some (e,sz),.hole=>match bg P e with
  |some zs=>if zs.length=sz/\0<sz/\n*sz<=16777216/\ixs.length=vals.length then(match jf (λi=>some (i*sz,sz)) (lp n zs) (ixs.zip vals)with
   |some cs=>some (.c (.aE κ 0 n sz),[(κ,.cells true false e cs)],[],true)
   |none=>none)else none
  |none=>none
 |_,_=>none
def tr(P:Program)(T:TypeId)(lv:Key->LB)(y x:AV):Option mj:=
 match y,fk P T with
 |.c (.aE k off n sz),some (_,sz')=>if sz=1/\sz'=1 then(match lv k,dS lv 1 x with
  |.cells own false T' cs,some (m,xs)=>some (.c (.d (.int .i64 ((min m n:Nat):Int))),[(k,.cells own false T' (aj cs off (xs.take (min m n))))],keyOf x,decide (0<m/\off+min m n<=cs.length/\n<=9223372036854775807))
  |_,_=>none)else none
 |_,_=>none
def Hw(x:AV)(n:Int):Bool:=
 match x with
 |.c (.aE ..)=>decide (n<=9223372036854775807)
 |_=>true
theorem Js{n:Int}(h:Hw x n=true):kQ x n:=by
 cases x with
 |c y=>cases y<;>first|exact trivial|simpa[Hw,kQ]using h
 |_=>exact trivial
def Dd(P:Program)(cl:Call)(vals:List AV)(lv:Key->LB)(κ:Key):Option mj:=
 match cl.callee with
 |.builtin .len=>match cl.args.toList,cl.argTypes.toList,vals with
  |[_],[T],[x]=>match ku P T lv x with
   |some n=>some (.c (.d (.int .i64 n)),[],keyOf x,Hw x n)
   |none=>none
  |_,_,_=>none
 |.builtin .append=>match cl.args.toList,cl.argTypes.toList,vals with
  |[_,_],[T,T'],[y,x]=>if T=T' then oz P T lv κ y x else none
  |_,_,_=>none
 |.builtin .copy=>match cl.args.toList,cl.argTypes.toList,vals with
  |[_,_],[T,_],[y,x]=>tr P T lv y x
  |_,_,_=>none
 |.builtin .max=>match eF vals with
  |some (k,n::l)=>some (.c (.d (.int k (l.foldl (λa b=>if b > a then b else a) n))),[],[],true)
  |_=>none
 |.builtin .min=>match eF vals with
  |some (k,n::l)=>some (.c (.d (.int k (l.foldl (λa b=>if b<a then b else a) n))),[],[],true)
  |_=>none
 |_=>none
def tQ(P:Program)(op:Op)(vals:List AV)(lv:Key->LB)(κ:Key):Option mj:=
 match op,vals with
 |.move _,[x]|.assign _,[x]=>some (x,[],[],true)
 |.pick _ _ _,[t,x,y]=>match t with|.c (.d (.bool true))=>some (x,[],[],true)|.c (.d (.bool false))=>some (y,[],[],true)|_=>none
 |.alloc T,[]=>match bg P T,lv κ with|some xs,.hole=>some (.c (.ptr κ 0),[(κ,.cells true false T xs)],[],true)|_,_=>none
 |.box T _,[x]=>match x.cells,lv κ with|some xs,.hole=>some (.c (.ptr κ 0),[(κ,.cells true false T xs)],[],true)|_,_=>none
 |.build T parts,vals=>match bg P T,uz P T with
  |some zs,some place=>if parts.size=vals.length then(match jf place zs ((parts.toList.map (·.1)).zip vals)with|some cs=>some (.agg cs,[],[],true)|none=>none)else none
  |_,_=>none
 |.buildSlice T n parts,vals=>jY P T n (parts.toList.map (·.1)) lv κ vals
 |.load T _,[x]=>sM P T lv x
 |.store T _ _,[x,y]=>qp P T lv x y
 |.nilCheck _,[x]=>wz lv x
 |.binOp op T _ _ _,[x,y]=>wV P op T x y
 |.unOp op _ _,[x]=>match x with|.c (.d d)=>(match Yo op d with|some d'=>some (.c (.d d'),[],[],true)|none=>none)|_=>none
 |.convert S T _,[x]=>match x with
  |.c (.d (.int _ n))=>match rU P S,rU P T with|some _,some k'=>some (.c (.d (.int k' (k'.wrap n))),[],[],true)|_,_=>none
  |.c (.d (.str l))=>if cA P S&&cA P T then some (.c (.d (.str l)),[],[],true)else none
  |_=>none
 |.makeInterface T _,[x]=>match mo x with|some d=>if P.concrete T then some (.c (.d (.iface T d)),[],[],true)else none|none=>none
 |.makeFunc fn first caps,vals=>if vals.length=first.size+caps.size then(match tV (vals.take first.size),tV (vals.drop first.size)with
  |some fr,some cr=>some (.c (Bk fn fr cr),[],[],true)
  |_,_=>none)else none
 |.makeSlice T _ _,[x,y]=>sY P T lv κ x y
 |.slice T _ lo hi none,x::rest=>match Hv lo hi rest with|some (l,h)=>pZ P T lv x l h|none=>none
 |.fieldAddr T _ f,[x]=>kN P T f lv x
 |.field T _ f,[x]=>match x with|.agg cs=>(match c9 P T f with|some (off,ft)=>(match pn P ft cs off with|some y=>some (y,[],[],true)|none=>none)|none=>none)|_=>none
 |.indexAddr T _ _,[x,i]=>kG P T lv x i
 |.index T _ _,[x,i]=>pM P T x i
 |.extract _ i,[x]=>match x with|.tup l=>(match l[i]? with|some (.tup _)=>none|some y=>some (y,[],[],true)|none=>none)|_=>none
 |.call cl,vals=>Dd P cl vals lv κ
 |_,_=>none
inductive Tb(α:Type) where
 |leaf
 |node (l:Tb α) (v:α) (r:Tb α)
inductive Pa where
 |e
 |l (p:Pa)
 |r (p:Pa)
def Tb.get(d:α)(t:Tb α)(p:Pa):α:=
 Pa.rec (motive:=λ_=>Tb α->α) (λt=>Tb.rec (motive:=λ_=>α) d (λ_ v _ _ _=>v) t)
  (λ_ ih t=>Tb.rec (motive:=λ_=>α) d (λl _ _ _ _=>ih l) t)
  (λ_ ih t=>Tb.rec (motive:=λ_=>α) d (λ_ _ r _ _=>ih r) t) p t
def Tb.set(d x:α)(p:Pa)(t:Tb α):Tb α:=
 Pa.rec (motive:=λ_=>Tb α->Tb α) (λt=>Tb.rec (motive:=λ_=>Tb α) (.node .leaf x .leaf) (λl _ r _ _=>.node l x r) t)
  (λ_ ih t=>Tb.rec (motive:=λ_=>Tb α) (.node (ih .leaf) d .leaf) (λl v r _ _=>.node (ih l) v r) t)
  (λ_ ih t=>Tb.rec (motive:=λ_=>Tb α) (.node .leaf d (ih .leaf)) (λl v r _ _=>.node l v (ih r)) t) p t
def Tb.Ej(d x:α)(p:Pa)(t:Tb α)(k:Tb α->β):β:=
 Pa.rec (motive:=λ_=>Tb α->(Tb α->β)->β) (λt k=>Tb.rec (motive:=λ_=>β) (k (.node .leaf x .leaf)) (λl _ r _ _=>k (.node l x r)) t)
  (λ_ ih t k=>Tb.rec (motive:=λ_=>β) (ih .leaf λs=>k (.node s d .leaf)) (λl v r _ _=>ih l λs=>k (.node s v r)) t)
  (λ_ ih t k=>Tb.rec (motive:=λ_=>β) (ih .leaf λs=>k (.node .leaf d s)) (λl v r _ _=>ih r λs=>k (.node l v s)) t) p t k
theorem Tb.mg(d x:α):∀(p:Pa) (t:Tb α) (k:Tb α->β),Tb.Ej d x p t k=k (Tb.set d x p t)
 |.e,.leaf,_=>rfl
 |.e,.node _ _ _,_=>rfl
 |.l p,.leaf,k=>Tb.mg d x p .leaf λs=>k (.node s d .leaf)
 |.l p,.node l v r,k=>Tb.mg d x p l λs=>k (.node s v r)
 |.r p,.leaf,k=>Tb.mg d x p .leaf λs=>k (.node .leaf d s)
 |.r p,.node l v r,k=>Tb.mg d x p r λs=>k (.node l v s)
theorem Tb.eR(d:α)(p:Pa):Tb.get d .leaf p=d:=by cases p<;>rfl
theorem Tb.DO(d x:α):∀(p:Pa) (t:Tb α) (q:Pa) [Decidable (q=p)],Tb.get d (Tb.set d x p t) q=if q=p then x else Tb.get d t q:=by
 intro p
 induction p with
 |e=>
  intro t q _
  cases q with
  |e=>cases t<;>simp[Tb.get,Tb.set]
  |l q=>cases t with
   |leaf=>simp only[reduceCtorEq,if_false];rw[Tb.eR];exact Tb.eR d q
   |node l v r=>rw[if_neg (by simp)];rfl
  |r q=>cases t with
   |leaf=>simp only[reduceCtorEq,if_false];rw[Tb.eR];exact Tb.eR d q
   |node l v r=>rw[if_neg (by simp)];rfl
 |l p ih=>
  intro t q _
  cases q with
  |l q=>
   have:Decidable (q=p):=Classical.propDecidable _
   cases t with
   |leaf=>
    have h1:Tb.get d (Tb.set d x (.l p) .leaf) (.l q)=Tb.get d (Tb.set d x p .leaf) q:=rfl;rw[h1,ih .leaf q]
    by_cases h:q=p
    ·grind
    ·have:¬(Pa.l q=Pa.l p):=λe=>h (by injection e)
     rw[if_neg h,if_neg this,Tb.eR,Tb.eR]
   |node l v r=>
    have h1:Tb.get d (Tb.set d x (.l p) (.node l v r)) (.l q)=Tb.get d (Tb.set d x p l) q:=rfl;rw[h1,ih l q]
    by_cases h:q=p
    ·grind
    ·have:¬(Pa.l q=Pa.l p):=λe=>h (by injection e)
     rw[if_neg h,if_neg this];rfl
  |e=>cases t<;>simp[Tb.get,Tb.set]
  |r q=>cases t<;>simp[Tb.get,Tb.set];cases q<;>rfl
 |r p ih=>
  intro t q _
  cases q with
  |r q=>
   have:Decidable (q=p):=Classical.propDecidable _
   cases t with
   |leaf=>
    have h1:Tb.get d (Tb.set d x (.r p) .leaf) (.r q)=Tb.get d (Tb.set d x p .leaf) q:=rfl;rw[h1,ih .leaf q]
    by_cases h:q=p
    ·grind
    ·have:¬(Pa.r q=Pa.r p):=λe=>h (by injection e)
     rw[if_neg h,if_neg this,Tb.eR,Tb.eR]
   |node l v r=>
    have h1:Tb.get d (Tb.set d x (.r p) (.node l v r)) (.r q)=Tb.get d (Tb.set d x p r) q:=rfl;rw[h1,ih r q]
    by_cases h:q=p
    ·grind
    ·have:¬(Pa.r q=Pa.r p):=λe=>h (by injection e)
     rw[if_neg h,if_neg this];rfl
  |e=>cases t<;>simp[Tb.get,Tb.set]
  |l q=>cases t<;>simp[Tb.get,Tb.set];cases q<;>rfl
def Cz(f:Nat):Nat->Pa:=
 Nat.rec (motive:=λ_=>Nat->Pa) (λ_=>.e) (λ_ ih n=>Nat.rec (motive:=λ_=>Pa) .e
  (λm _=>Bool.rec (motive:=λ_=>Pa) (.r (ih (Nat.div m 2))) (.l (ih (Nat.div m 2))) (Nat.beq (Nat.mod m 2) 0)) n) f
def pathOf(n:Nat):Pa:=Cz n n
def Pa.num:Pa->Nat
 |.e=>0
 |.l p=>2*p.num+1
 |.r p=>2*p.num+2
theorem wU:∀(f n:Nat),n<=f->(Cz f n).num=n
 | 0,n,h=>by have:n=0:=by omega
             subst this;rfl
 |f+1,0,_=>rfl
 |f+1,m+1,h=>by
  have ih:=wU f (m/2) (by omega);show(Bool.rec (motive:=λ_=>Pa) (.r (Cz f (Nat.div m 2))) (.l (Cz f (Nat.div m 2))) (Nat.beq (Nat.mod m 2) 0)).num=m+1;have e:Nat.div m 2=m/2:=rfl;have e2:Nat.mod m 2=m%2:=rfl;rw[e,e2]
  cases hb:Nat.beq (m%2) 0 with
  |true=>
   have:=aen hb;show 2*(Cz f (m/2)).num+1=m+1;omega
  |false=>
   have:=Nat.ne_of_beq_eq_false hb;show 2*(Cz f (m/2)).num+2=m+1;omega
theorem tu{n:Nat}(h:pathOf n=pathOf m):n=m:=by
 have h1:=wU n n (aU _);have h2:=wU m m (aU _);unfold pathOf at h
 grind
def kS(t:Tb AV):Nat->AV:=λi=>t.get .undef (pathOf i)
def aY(t:Tb LB):Key->LB:=λi=>t.get .hole (pathOf i)
theorem GP(t:Tb AV)(k:Nat)(x:AV):kS (t.set .undef x (pathOf k))=au (kS t) k x:=by
 funext i;have:Decidable (pathOf i=pathOf k):=Classical.propDecidable _;simp only[kS,au,Tb.DO]
 by_cases e:i=k
 ·grind
 ·rw[if_neg e,if_neg (λh=>e (tu h))]
theorem FT(t:Tb LB)(k:Nat)(x:LB):aY (t.set .hole x (pathOf k))=au (aY t) k x:=by
 funext i;have:Decidable (pathOf i=pathOf k):=Classical.propDecidable _;simp only[aY,au,Tb.DO]
 by_cases e:i=k
 ·grind
 ·rw[if_neg e,if_neg (λh=>e (tu h))]
def dP(n:Nat)(k:Nat->β):β:=Nat.rec (motive:=λ_=>β) (k 0) (λm _=>k (Nat.succ m)) n
def G9(n:Int)(k:Int->β):β:=Int.rec (motive:=λ_=>β) (λm=>dP m λm=>k (.ofNat m)) (λm=>dP m λm=>k (.negSucc m)) n
theorem jb(n:Nat)(k:Nat->β):dP n k=k n:=by cases n<;>rfl
theorem Gw(n:Int)(k:Int->β):G9 n k=k n:=by cases n with
 |ofNat m=>exact jb m λm=>k (.ofNat m)
 |negSucc m=>exact jb m λm=>k (.negSucc m)
def Ca(b:Bool)(k:Bool->β):β:=Bool.rec (motive:=λ_=>β) (k false) (k true) b
theorem DW(b:Bool)(k:Bool->β):Ca b k=k b:=by cases b<;>rfl
def s5(f:α->(α->β)->β)(l:List α)(k:List α->β):β:=
 List.rec (motive:=λ_=>(List α->β)->β) (λk=>k []) (λx _ ih k=>f x λx=>ih λl=>k (x::l)) l k
theorem lu{α β:Type}(f:α->(α->β)->β)(hf:∀x k,f x k=k x):∀(l:List α) (k:List α->β),s5 f l k=k l
 |[],_=>rfl
 |x::l,k=>by
  show f x (λx=>s5 f l λl=>k (x::l))=_;rw[hf,lu f hf l]
def vP(b:UInt8)(k:UInt8->β):β:=dP b.toNat λn=>k (UInt8.ofNat n)
theorem DF(b:UInt8)(k:UInt8->β):vP b k=k b:=by unfold vP;rw[jb];simp
def Ji(d:DV)(k:DV->β):β:=
 DV.casesOn (motive_1:=λ_=>β) d (λb=>Ca b λb=>k (.bool b)) (λq n=>G9 n λn=>k (.int q n)) (λs=>s5 vP s λs=>k (.str s)) (k .nilp) (λcs=>k (.ptr cs)) (k .nilsl)
  (λes=>k (.sl es)) (λcs=>k (.agg cs)) (k .nilIface) (λt v=>k (.iface t v)) (k .nilFunc) (λf a b=>k (.func f a b)) (k .nilmap)
theorem LO(d:DV)(k:DV->β):Ji d k=k d:=by
 cases d<;>simp only[Ji]<;>first|exact DW _ _|exact Gw _ _|exact lu _ DF _ _|rfl
def sL(x:CV)(k:CV->β):β:=
 CV.casesOn (motive:=λ_=>β) x (λd=>Ji d λd=>k (.d d)) (λa b=>dP a λa=>dP b λb=>k (.ptr a b))
  (λa b c d=>dP a λa=>dP b λb=>dP c λc=>dP d λd=>k (.aE a b c d)) (λa=>dP a λa=>k (.mapr a)) (λf a b=>k (.func f a b)) (λt r=>k (.ifc t r)) (k .junk)
theorem nh(x:CV)(k:CV->β):sL x k=k x:=by
 cases x<;>simp only[sL,LO,jb]
def Dt(x:AV)(k:AV->β):β:=
 AV.casesOn (motive_1:=λ_=>β) x (λc=>sL c λc=>k (.c c)) (λl=>s5 sL l λl=>k (.agg l)) (λl=>k (.tup l)) (k .undef) (k .junk)
theorem Jb(x:AV)(k:AV->β):Dt x k=k x:=by
 cases x<;>simp only[Dt,nh,lu _ nh]
def eP(x:AV)(k:AV->β):β:=
 AV.casesOn (motive_1:=λ_=>β) x (λc=>sL c λc=>k (.c c)) (λl=>s5 sL l λl=>k (.agg l)) (λl=>s5 Dt l λl=>k (.tup l)) (k .undef) (k .junk)
theorem jP(x:AV)(k:AV->β):eP x k=k x:=by
 cases x<;>simp only[eP,nh,lu _ nh,lu _ Jb]
def wD(b:LB)(k:LB->β):β:=
 LB.casesOn (motive:=λ_=>β) b (k .hole) (k .dead) (k .bO) (λ_ fz T cs=>s5 sL cs λcs=>k (.cells false fz T cs)) (λ_ es=>k (.map false es))
def LB.un:LB->LB
 |.cells _ fz T cs=>.cells false fz T cs
 |.map _ es=>.map false es
 |x=>x
def vz(us:List (Key×LB)):List (Key×LB):=us.map λp=>(p.1,p.2.un)
theorem BV(b:LB)(k:LB->β):wD b k=k b.un:=by
 cases b<;>simp only[wD,LB.un,lu _ nh]
structure ES where
 fr:Tr AV
 lv:Tr LB
 nx:Nat
def frT(t:Tr AV):Nat->AV:=λi=>match t.get i with|some x=>x|none=>.undef
def lvT(t:Tr LB):Key->LB:=λk=>match t.get k with|some b=>b|none=>.hole
def ES.st(s:ES):az:=⟨frT s.fr,lvT s.lv⟩
def ES.put(s:ES)(dst:Option Nat)(x:AV):Option ES:=
 match dst with
 |none=>some s
 |some d=>match s.fr.set 16 d x with|some fr=>some ⟨fr,s.lv,s.nx⟩|none=>none
def jB.uq(p:Key->Bool):jB->Bool
 |.d _=>true
 |.ptr k _=>p k
 |.aE k _ _ _=>p k
def Ref.uq(p:Key->Bool):Ref->Bool
 |.d _=>true
 |.ptr k _=>p k
 |.aE k _ _ _=>p k
 |.agg cs=>cs.all (jB.uq p)
 |.ifc _ x=>x.uq p
def CV.uq(p:Key->Bool):CV->Bool
 |.d _=>true
 |.ptr k _=>p k
 |.aE k _ _ _=>p k
 |.mapr k=>p k
 |.func _ f c=>f.all (Ref.uq p)&&c.all (Ref.uq p)
 |.ifc _ x=>x.uq p
 |.junk=>true
def AV.Ov(p:Key->Bool):AV->Bool
 |.c x=>x.uq p
 |.agg cs=>cs.all (CV.uq p)
 |_=>true
def AV.uq(p:Key->Bool):AV->Bool
 |.tup l=>l.all (AV.Ov p)
 |x=>x.Ov p
def LB.uq(p:Key->Bool):LB->Bool
 |.cells _ _ _ cs=>cs.all (CV.uq p)
 |.map _ es=>es.all λq=>q.2.Ov p&&q.2.cD
 |_=>true
section
variable {p:Key->Bool}{i g:Key->Key}(hp:∀k,p k=true->g (i k)=k)
include hp
theorem pH{f:(Key->Key)->α->α}{c:α->Bool}(hf:∀x,c x=true->f g (f i x)=x){l:List α}(h:l.all c=true):(l.map (f i)).map (f g)=l:=by
 rw[ab3]at h;rw[ady]
 conv=>rhs;rw[<-aeS l]
 exact adI λx hx=>hf x (h x hx)
theorem jB.xJ{x:jB}(h:x.uq p=true):(x.bJ i).bJ g=x:=by
 cases x with
 |d x=>rfl
 |ptr k o=>simp only[jB.bJ,hp k h]
 |aE k o l z=>simp only[jB.bJ,hp k h]
theorem Ref.xJ:∀{x:Ref},x.uq p=true->(x.bJ i).bJ g=x
 |.d _,_=>rfl
 |.ptr k _,h=>by simp only[Ref.bJ,hp k h]
 |.aE k _ _ _,h=>by simp only[Ref.bJ,hp k h]
 |.agg cs,h=>by simp only[Ref.bJ];rw[pH hp (λx hx=>jB.xJ hp hx) h]
 |.ifc t x,h=>by simp only[Ref.bJ,Ref.xJ (x:=x) h]
theorem CV.xJ{x:CV}(h:x.uq p=true):(x.bJ i).bJ g=x:=by
 cases x with
 |d x=>rfl
 |ptr k o=>simp only[CV.bJ,hp k h]
 |aE k o l z=>simp only[CV.bJ,hp k h]
 |mapr k=>simp only[CV.bJ,hp k h]
 |func fn f c=>
  simp only[CV.uq,cy]at h;simp only[CV.bJ];rw[pH hp (λx hx=>Ref.xJ hp hx) h.1,pH hp (λx hx=>Ref.xJ hp hx) h.2]
 |ifc t x=>simp only[CV.bJ,Ref.xJ hp (x:=x) h]
 |junk=>rfl
theorem AV.KC(h:x.Ov p=true)(ht:x.cD=true):(x.l6 i).l6 g=x:=by
 cases x with
 |c x=>simp only[AV.l6,CV.xJ hp (x:=x) h]
 |agg cs=>simp only[AV.l6];rw[pH hp (λx hx=>CV.xJ hp hx) h]
 |tup l=>cases ht
 |undef=>rfl
 |junk=>rfl
theorem AV.xJ(h:x.uq p=true)(hf:x.bF=true):(x.bJ i).bJ g=x:=by
 cases x with
 |c x=>exact AV.KC hp (x:=.c x) h rfl
 |agg cs=>exact AV.KC hp (x:=.agg cs) h rfl
 |tup l=>
  simp only[AV.bF,ab3]at hf;simp only[AV.uq,ab3]at h;simp only[AV.bJ,ady];congr 1
  conv=>rhs;rw[<-aeS l]
  refine adI λx hx=>AV.KC hp (h x hx) ?_;have:=hf x hx
  cases x<;>first|rfl|cases this
 |undef=>rfl
 |junk=>rfl
end
def LB.oZ:LB->LB
 |.cells _ fz T cs=>.cells false fz T cs
 |.map _ es=>.map false es
 |x=>x
theorem LB.TP{i:Key->Key}(hp:∀k,p k=true->g (i k)=k)(hc:b.uq p=true):b.as (b.bJ i) g:=by
 cases b with
 |hole=>rfl
 |dead=>intro h;cases h
 |bO=>rfl
 |cells own fz T cs=>exact⟨own,cs,rfl,(pH hp (λx hx=>CV.xJ hp hx) hc).symm,λh=>h⟩
 |map own es=>
  have h2:=hc;simp only[LB.uq,ab3,cy]at h2;refine⟨own,es,rfl,?_,λh=>h,λq hq l=>?_⟩
  ·simp only[ady]
   conv=>lhs;rw[<-aeS es]
   refine(adI λq hq=>?_);obtain⟨h3,h4⟩:=h2 q hq;simp only[Function.comp,id,AV.KC hp h3 h4]
  ·simp only[adX]at hq;obtain⟨q0,hq0,rfl⟩:=hq;obtain⟨_,h4⟩:=h2 q0 hq0;intro e
   cases e2:q0.2<;>rw[e2]at h4 e<;>first|(cases h4;done)|(simp only[AV.l6]at e;grind)
theorem LB.Pm{b':LB}(h:b.as b' g):b.as b'.oZ g:=by
 cases b' with
 |cells own fz T cs=>obtain⟨o,c,h1,h2,h3⟩:=h;exact⟨o,c,h1,h2,λe=>by cases e⟩
 |map own es=>obtain⟨o,c,h1,h2,h3,h4⟩:=h;exact⟨o,c,h1,h2,(λe=>by cases e),h4⟩
 |hole=>exact h
 |dead=>exact h
 |bO=>exact h
def jB.ks:jB->List Key
 |.d _=>[]
 |.ptr k _=>[k]
 |.aE k _ _ _=>[k]
def Ref.ks:Ref->List Key
 |.d _=>[]
 |.ptr k _=>[k]
 |.aE k _ _ _=>[k]
 |.agg cs=>cs.flatMap jB.ks
 |.ifc _ x=>x.ks
def CV.ks:CV->List Key
 |.d _=>[]
 |.ptr k _=>[k]
 |.aE k _ _ _=>[k]
 |.mapr k=>[k]
 |.func _ f c=>f.flatMap Ref.ks++c.flatMap Ref.ks
 |.ifc _ x=>x.ks
 |.junk=>[]
def AV.ks0:AV->List Key
 |.c x=>x.ks
 |.agg cs=>cs.flatMap CV.ks
 |_=>[]
def AV.ks:AV->List Key
 |.tup l=>l.flatMap AV.ks0
 |x=>x.ks0
def LB.ks:LB->List Key
 |.cells _ _ _ cs=>cs.flatMap CV.ks
 |.map _ es=>es.flatMap λq=>q.2.ks0
 |_=>[]
def reach(lv:Key->LB):Nat->List Key->Tr Nat->List Key->Nat->Option (Tr Nat×List Key)
 |0,_,_,_,_=>none
 |_+1,[],t,l,_=>some (t,l.reverse)
 |f+1,k::r,t,l,n=>match t.get k with
  |some _=>reach lv f r t l n
  |none=>match t.set 30 k n with
   |some t'=>reach lv f ((lv k).ks++r) t' (k::l) (n+1)
   |none=>none
def sI(t:Tr Nat):Key->Key:=λk=>match t.get k with|some j=>j|none=>0
def pT(t:Tr Nat)(g:Key->Key):Key->Bool:=λk=>match t.get k with|some j=>Nat.beq (g j) k|none=>false
theorem Yc{t:Tr Nat}(h:pT t g k=true):g (sI t k)=k:=by
 unfold pT at h;unfold sI;split at h
 ·simp_all
 grind
def Fh(k:Nat):List Nat->Bool
 |[]=>false
 |a::r=>Nat.beq a k ||Fh k r
theorem pU{k:Nat}:∀{l:List Nat},Fh k l=true↔k∈l
 |[]=>by simp[Fh]
 |a::r=>by
  simp only[Fh,ad2,pU (l:=r),fy];constructor
  ·rintro(h|h)
   ·simp_all
   grind
  ·rintro(h|h)
   ·simp_all
   grind
def nodupB:List Nat->Bool
 |[]=>true
 |a::r=>!Fh a r&&nodupB r
theorem Cw:∀{l:List Nat},nodupB l=true->l.Nodup
 |[],_=>List.nodup_nil
 |a::r,h=>by
  simp only[nodupB,cy,ads]at h;refine List.nodup_cons.2 ⟨λhm=>?_,Cw h.2⟩;rw[pU.2 hm]at h;cases h.1
def LB.isHole:LB->Bool
 |.hole=>true
 |_=>false
theorem LB.oI:b.isHole=true↔b=.hole:=by cases b<;>simp[LB.isHole]
def jV:Nat->Nat->List Nat
 |_,0=>[]
 |a,n+1=>a::jV (a+1) n
theorem lS:∀(n a:Nat),(jV a n).length=n
 |0,_=>rfl
 |n+1,a=>by simp[jV,lS n]
theorem sW:∀(n a i:Nat) (h:i<(jV a n).length),(jV a n)[i]=a+i
 |0,_,i,h=>absurd h (adT i)
 |n+1,a,0,h=>rfl
 |n+1,a,i+1,h=>by
  simp only[jV,List.getElem_cons_succ];rw[sW n];omega
structure Pass where
 us:List AV
 σ:List LB
 sel:List Key
 t:Tr Nat
def HU(lv:Key->LB)(as:List AV):Option Pass:=
 match reach lv 1000000 (as.flatMap AV.ks) .nil [] 0 with
 |some (t,sel)=>some ⟨as.map (AV.bJ (sI t)),sel.map λk=>((lv k).bJ (sI t)).oZ,sel,t⟩
 |none=>none
def Ah(lv:Key->LB)(as:List AV)(q:Pass)(nk:List Key)(kh:Key):Bool:=
 let p:=pT q.t (aG q.sel nk kh)
 as.all (λa=>a.uq p&&a.bF)&&q.us.all AV.bF&&q.sel.all (λk=>(lv k).uq p&&!(lv k).isHole)&&q.σ.all LB.pass &&
  nodupB (q.sel++nk)&&!Fh kh (q.sel++nk)&&nk.all (λk=>(lv k).isHole)&&(lv kh).isHole&&Nat.ble q.σ.length 1000
def Jh(q:Pass)(nk:List Key)(σ' ν:List LB):Bool:=
 Nat.beq σ'.length q.σ.length&&Nat.beq nk.length ν.length&&(σ'++ν).all (λb=>!b.isHole)
theorem Dq{lv:Key->LB}{p:Key->Bool}{R:List Key}(h1:∀k,p k=true->k∈R)(h2:∀k∈R,(lv k).uq p=true):∀(n:Nat) (x:CV),x.uq p=true->∀k∈kM lv n x,k∈R
 |n+1,.ptr k _,hx,j,hj=>by
  simp only[kM,fy]at hj;rcases hj with rfl|hj
  ·exact h1 _ hx
  ·have h3:=h2 k (h1 _ hx)
   cases e:lv k with
   |cells own fz T cs=>
    rw[e]at hj h3;simp only[aec]at hj;obtain⟨y,hy,hj⟩:=hj;simp only[LB.uq,ab3]at h3;exact Dq h1 h2 n y (h3 y hy) j hj
   |_=>grind
 |n+1,.aE k _ _ _,hx,j,hj=>by
  simp only[kM,fy]at hj;rcases hj with rfl|hj
  ·exact h1 _ hx
  ·have h3:=h2 k (h1 _ hx)
   cases e:lv k with
   |cells own fz T cs=>
    rw[e]at hj h3;simp only[aec]at hj;obtain⟨y,hy,hj⟩:=hj;simp only[LB.uq,ab3]at h3;exact Dq h1 h2 n y (h3 y hy) j hj
   |_=>grind
 |0,.ptr ..,_,_,hj=>by cases hj
 |0,.aE ..,_,_,hj=>by cases hj
 |n,.d _,_,_,hj=>by cases n<;>cases hj
 |n,.mapr _,_,_,hj=>by cases n<;>cases hj
 |n,.func ..,_,_,hj=>by cases n<;>cases hj
 |n,.ifc ..,_,_,hj=>by cases n<;>cases hj
 |n,.junk,_,_,hj=>by cases n<;>cases hj
theorem T7{R:List Key}(h1:∀k,p k=true->k∈R)(h2:∀k∈R,(lv k).uq p=true)(hx:x.uq p=true):∀k∈pz lv x,k∈R:=by
 cases x with
 |c x=>exact Dq h1 h2 8 x hx
 |agg cs=>
  intro k hk;simp only[pz,aec]at hk;obtain⟨y,hy,hk⟩:=hk;simp only[AV.uq,AV.Ov,ab3]at hx;exact Dq h1 h2 8 y (hx y hy) k hk
 |_=>intro k hk;cases hk
theorem HN{sel:List Key}{j:Key}:aG sel nk kh j∈sel\/aG sel nk kh j∈nk\/aG sel nk kh j=kh:=by
 unfold aG
 grind
theorem cw.pass{as:List AV}{q:Pass}{σ' ν:List LB}(hq:HU lv as=some q)(h1:Ah lv as q nk kh=true)(h2:Jh q nk σ' ν=true)
 (hc:aD c.P c.G f q.us q.σ (.ret x σ' ν)):cw c f as lv (x.bJ (aG q.sel nk kh)) (cq (aG q.sel nk kh) false q.sel σ'++cq (aG q.sel nk kh) false nk ν) (kh::q.sel++nk):=by
 unfold HU at hq;split at hq
 ·rename_i t sel hr
  simp only[ah]at hq;subst hq;simp only[Ah,cy,ab3,ads]at h1;obtain⟨⟨⟨⟨⟨⟨⟨⟨a1,a2⟩,a3⟩,a4⟩,a5⟩,a6⟩,a7⟩,a8⟩,a9⟩:=h1;simp only[Jh,cy,ab3,ads]at h2;obtain⟨⟨b1,b2⟩,b3⟩:=h2;have hp:∀k,pT t (aG sel nk kh) k=true->aG sel nk kh (sI t k)=k:=λk h=>Yc h
  have e1:=aen b1;have e2:=aen b2;have hnh:∀b:LB,b.isHole=false->b≠.hole:=λb h e=>by rw[e]at h;cases h
  refine cw.gen (as.map (AV.bJ (sI t))) [] sel nk kh (sel.map λk=>((lv k).bJ (sI t)).oZ) σ' ν x false (kh::sel++nk) (λz hz=>by cases hz) (by simp) (Cw a5) (λz hz=>by cases hz)
   (λhm=>by rw[pU.2 hm]at a6;cases a6) (λz hz=>by cases hz) (by simp) e1 e2 (adE a9)
   (λi p q=>?_) (λk hk=>LB.oI.1 (a7 k hk)) (LB.oI.1 a8) a4 (λb hb=>?_) (λh=>by cases h) (by simp) (λi p q=>?_) (λa ha k hk=>.inl ?_) (by simp) hc
  ·have e:(sel.map λk=>((lv k).bJ (sI t)).oZ)[i]=((lv sel[i]).bJ (sI t)).oZ:=BH _;show LB.as _ ((sel.map λk=>((lv k).bJ (sI t)).oZ)[i]) _;rw[e];exact LB.Pm (LB.TP hp (a3 _ (aZ p)).1)
  ·rw[adq,aem]at hb;rcases hb with hb|hb
   ·obtain⟨k,hk,rfl⟩:=List.mem_map.1 hb;have h3:=hnh _ (a3 k hk).2;intro e
    cases e2:lv k<;>rw[e2]at e h3<;>simp[LB.bJ,LB.oZ]at e h3
   grind
  ·left;have e:(as.map (AV.bJ (sI t)))[i]=(as[i]).bJ (sI t):=BH _;show AV.bF ((as.map (AV.bJ (sI t)))[i])=true/\_=AV.bJ _ ((as.map (AV.bJ (sI t)))[i]);rw[e];have ha:=a1 _ (aZ p);refine⟨a2 _ ?_,(AV.xJ hp ha.1 ha.2).symm⟩
   grind
  ·have ha:=a1 a ha;refine T7 (p:=pT t (aG sel nk kh)) (lv:=lv) (λk h=>?_) (λk hk'=>?_) ha.1 k (by simpa[fU,bk]using hk)
   ·have h4:=hp k h;rw[<-h4];rcases HN (sel:=sel) (nk:=nk) (kh:=kh) (j:=sI t k)with h5|h5|h5
    ·simp[h5]
    ·simp[h5]
    grind
   ·simp only[ad6,fy,aem]at hk';rcases hk' with rfl|hk'|hk'
    ·rw[LB.oI.1 a8];rfl
    ·grind
    ·rw[LB.oI.1 (a7 k hk')];rfl
 grind
end Go.Am
namespace Go.Am
variable {x y l h:Operand}{T T':TypeId}{κ i t j:Nat}{n:Int}{s:az}{Q:Ex->az->Nat->Prop}{lv:Key->LB}{α:Type}{K:AV->List (Key×LB)->List Key->Nat->Prop}{G:List (List DV)}{f:FuncId}{a b:Unit->Prop}{w:Bool}{xs xs':List AV}{c:Ctx}{rds:List Key}{vc:Prop}{p:Key×LB}{o:Op}{os:List Oper}{fr:Nat->AV}{k k':IntKind}
inductive dI where
 |bad (n:Nat) (o:List Op)
 |done (x:AV) (lv:Tb LB) (nx:Nat) (lg:List Key)
 |vu (d:DV) (lv:Tb LB) (nx:Nat) (lg:List Key)
variable {r:dI}
abbrev Jt:=AV->Tb LB->Nat->List Key->dI
abbrev Sw:=DV->Tb LB->Nat->List Key->dI
abbrev eV:=FuncId->List AV->Tb LB->Nat->List Key->Jt->Sw->dI
abbrev Wa:=Ex->Tb AV->Tb LB->Nat->List Key->dI
def nw(x:Option α)(b:dI)(k:α->dI):dI:=Option.rec (motive:=λ_=>dI) b (λa=>k a) x
def fG(x:Bool)(f t:dI):dI:=Bool.rec (motive:=λ_=>dI) f t x
theorem ei{x:Option α}{b:dI}{k:α->dI}(h:nw x b k=r)(hb:b≠r):∃a,x=some a/\k a=r:=by
 cases x with
 |none=>exact absurd h hb
 |some a=>exact⟨a,rfl,h⟩
theorem dJ{x:Bool}{f t:dI}(h:fG x f t=r)(hf:f≠r):x=true/\t=r:=by
 cases x with
 |false=>exact absurd h hf
 |true=>exact⟨rfl,h⟩
section
variable (P:Program) (G:List (List DV))
def Bd(fr:Tb AV)(x:Operand):AV:=
 Operand.rec (motive:=λ_=>AV) (λt=>fr.get .undef (pathOf t)) (λv=>tA v) (λg=>match G[g]? with|some cs=>.c (.d (.ptr cs))|none=>.junk) (λf=>.c (.d (.func (.func f) [] []))) x
def iC(fr:Tb AV)(l:List Operand):List AV:=
 List.rec (motive:=λ_=>List AV) [] (λx _ ih=>Bd G fr x::ih) l
def B4(us:List (Key×LB))(lv:Tb LB)(lg:List Key)(k:Tb LB->List Key->dI):dI:=
 List.rec (motive:=λ_=>Tb LB->List Key->(Tb LB->List Key->dI)->dI) (λlv lg k=>k lv lg)
  (λp _ ih lv lg k=>dP p.1 λq=>wD p.2 λb=>fG b.okB (.bad 3 []) (Tb.Ej .hole b (pathOf q) lv λlv=>ih lv (q::lg) k)) us lv lg k
def fh(d:Option Nat)(x:AV)(fr:Tb AV)(k:Tb AV->dI):dI:=
 Option.rec (motive:=λ_=>dI) (k fr) (λd=>eP x λx=>Tb.Ej .undef x (pathOf d) fr k) d
def SY(op:Op)(vals:List AV)(lv:Tb LB)(nx:Nat)(k:AV->List (Key×LB)->List Key->dI):dI:=
 Option.rec (motive:=λ_=>dI) (nw (dF P op vals (aY lv) nx) (.bad 2 [op]) λr=>k r.1 r.2.1 r.2.2)
  (λr=>fG r.2.2.2 (nw (dF P op vals (aY lv) nx) (.bad 1 [op]) λr=>k r.1 r.2.1 r.2.2) (k r.1 r.2.1 r.2.2.1)) (tQ P op vals (aY lv) nx)
def Qk(nx:Nat)(us:List (Key×LB))(k:Nat->dI):dI:=
 List.rec (motive:=λ_=>dI) (k nx) (λp _ ih=>fG (Nat.beq p.1 nx) ih (dP nx λn=>k (Nat.succ n))) us
structure Rec where
 x:AV
 us:List (Key×LB)
 rds:List Key
 all:Bool
 lv:Tb LB
 op:Op
 vals:List AV
 nx:Nat
inductive V9 where
 |vu (x:Operand)
 |call (cl:Call) (fo:Operand)
 |plain
def vJ(op:Op):V9:=
 match op with
 |.panic x=>.vu x
 |.call cl=>match cl.callee with|.value fo=>.call cl fo|_=>.plain
 |_=>.plain
def O7(x:AV)(k:DV->dI)(b:dI):dI:=
 match x with
 |.c (.d (.iface t d))=>k (.iface t d)
 |_=>b
def M1(f:FuncId)(t:dI):dI:=fG (aH P f) (.bad 4 []) t
def xA(call:eV)(op:Op)(cl:Call)(fo:Operand)(fr:Tb AV)(lv:Tb LB)(nx:Nat)(lg:List Key)(kr:Jt)(kp:Sw):dI:=
 nw (cG (Bd G fr fo)) (.bad 5 [op]) λt=>M1 P t.1 (call t.1 (t.2.1++iC G fr cl.args.toList++t.2.2) lv nx lg kr kp)
def Ak(call:eV)(ops:Array Oper)(os:List Oper)(fr:Tb AV)(lv:Tb LB)(nx:Nat)(lg:List Key)(k:Wa):dI:=
 List.rec (motive:=λ_=>Tb AV->Tb LB->Nat->List Key->Wa->dI) (λfr lv nx lg k=>k .normal fr lv nx lg)
  (λo _ ih fr lv nx lg k=>nw (eK ops o.guard (kS fr)) (.bad 6 [o.op]) λb=>
   fG b (fh o.dst .undef fr λfr=>ih fr lv nx lg k)
    (V9.rec (motive:=λ_=>dI)
     (λx=>O7 (Bd G fr x) (λd=>k (.panic d) fr lv nx lg) (.bad 7 [o.op]))
     (λcl fo=>xA P G call o.op cl fo fr lv nx lg (λx lv nx lg=>fh o.dst x fr λfr=>ih fr lv nx lg k) (λd lv nx lg=>k (.panic d) fr lv nx lg))
     (SY P o.op (iC G fr o.op.operands.toList) lv nx λx us _=>Qk nx us λnx'=>fh o.dst x fr λfr=>B4 us lv lg λlv lg=>ih fr lv nx' lg k)
     (vJ o.op))) os fr lv nx lg k
def P9(σ:List LB)(i:Nat)(lv:Tb LB)(k:Tb LB->dI):dI:=
 List.rec (motive:=λ_=>Nat->Tb LB->(Tb LB->dI)->dI) (λ_ lv k=>k lv) (λx _ ih i lv k=>wD x λx=>Tb.Ej .hole x (pathOf i) lv λlv=>ih (Nat.succ i) lv k) σ i lv k
def Pr(lv:Tb LB)(nx:Nat)(as:List AV)(q:Pass)(x:AV)(lv':Tb LB)(n':Nat)(lg:List Key)(k:AV->List (Key×LB)->List Key->Nat->dI):dI:=
 let σ':=(jV 0 q.σ.length).map (aY lv')
 let ν:=(jV 1000 (n' - 1000)).map (aY lv')
 let nk:=jV nx ν.length
 let kh:=nx+ν.length
 let g:=aG q.sel nk kh
 fG (lg.all (λa=>Nat.blt a q.σ.length ||(Nat.ble 1000 a&&Nat.blt a n'))&&Ah (aY lv) as q nk kh&&Jh q nk σ' ν) (.bad 40 [])
  (k (x.bJ g) (cq g false q.sel σ'++cq g false nk ν) (kh::q.sel++nk) (kh+1))
def abS(r:dI)(k:AV->Tb LB->Nat->List Key->dI):dI:=
 dI.rec (motive:=λ_=>dI) (λn o=>.bad n o) (λx lv nx lg=>k x lv nx lg) (λ_ _ _ _=>.bad 41 []) r
def wv(call:eV)(op:Op)(cl:Call)(fo:Operand)(fr:Tb AV)(lv:Tb LB)(nx:Nat)(k:AV->List (Key×LB)->List Key->Nat->dI):dI:=
 nw (cG (Bd G fr fo)) (.bad 42 [op]) λt=>M1 P t.1 (
  nw (HU (aY lv) (t.2.1++iC G fr cl.args.toList++t.2.2)) (.bad 43 [op]) λq=>P9 q.σ 0 .leaf λl0=>
   abS (call t.1 q.us l0 1000 [] .done .vu) λx lv' n' lg=>Pr lv nx (t.2.1++iC G fr cl.args.toList++t.2.2) q x lv' n' lg k)
def Ya(op:Op):Bool:=
 match op with
 |.alloc _|.box _ _|.buildSlice _ _ _|.insert _ _ _ _|.store _ _ _|.makeMap _ _|.makeSlice _ _ _|.mapUpdate _ _ _ _|.mapEntry _ _ _|.entryStore _ _ _ _=>true
 |.call cl=>match cl.callee with|.builtin .append|.builtin .copy|.builtin .unsafeString|.builtin .clear|.builtin .delete=>true|_=>false
 |_=>false
def Dj:V9->Bool
 |.call _ _=>true
 |_=>false
def SB(ops:Array Oper):Bool:=
 let ms:=gY ops.toList []
 (List.range ops.size).any λj=>(List.range j).any λi=>!(ms.getD j 0).testBit i&&(match ops[i]?,ops[j]? with
  |some o,some o'=>(Dj (vJ o.op)&&(Ya o'.op ||Dj (vJ o'.op))) ||(Dj (vJ o'.op)&&Ya o.op)
  |_,_=>false)
def jC(call:eV)(ops:Array Oper)(os:List Oper)(fr:Tb AV)(lv:Tb LB)(nx:Nat)(lg:List Key)(acc:List Rec)(k:List Rec->Tb AV->Tb LB->Nat->List Key->dI):dI:=
 List.rec (motive:=λ_=>Tb AV->Tb LB->Nat->List Key->List Rec->(List Rec->Tb AV->Tb LB->Nat->List Key->dI)->dI) (λfr lv nx lg acc k=>k acc fr lv nx lg)
  (λo _ ih fr lv nx lg acc k=>nw (eK ops o.guard (kS fr)) (.bad 8 [o.op]) λb=>
   fG b (fh o.dst .undef fr λfr=>ih fr lv nx lg (⟨.undef,[],[],false,lv,o.op,[],nx⟩::acc) k)
    (V9.rec (motive:=λ_=>dI)
     (λ_=>.bad 9 [o.op])
     (λcl fo=>fG (SB ops)
      (xA P G call o.op cl fo fr lv nx [] (λx lv' nx' lg'=>eP x λx=>fh o.dst x fr λfr=>ih fr lv' nx' (lg'++lg) (⟨x,lg'.map λq=>(q,aY lv' q),[],true,lv,o.op,[],nx⟩::acc) k) (λ_ _ _ _=>.bad 10 [o.op]))
      (wv P G call o.op cl fo fr lv nx λx us rds nx'=>eP x λx=>fh o.dst x fr λfr=>B4 us lv lg λlv' lg=>ih fr lv' nx' lg (⟨x,us,rds,false,lv,o.op,[],nx⟩::acc) k))
     (SY P o.op (iC G fr o.op.operands.toList) lv nx λx us rds=>Qk nx us λnx'=>eP x λx=>fh o.dst x fr λfr'=>B4 us lv lg λlv' lg=>ih fr' lv' nx' lg (⟨x,us,rds,false,lv,o.op,iC G fr o.op.operands.toList,nx⟩::acc) k)
     (vJ o.op))) os fr lv nx lg acc k
end
def NG(a b:DV):Bool:=
 match a,b with
  |.bool x,.bool y=>x==y
  |.int k x,.int k' y=>decide (k=k')&&x==y
  |.str x,.str y=>x==y
  |.nilp,.nilp=>true
  |.nilsl,.nilsl=>true
  |.nilIface,.nilIface=>true
  |.nilFunc,.nilFunc=>true
  |.nilmap,.nilmap=>true
  |_,_=>false
theorem PU{a b:DV}(h:NG a b=true):a=b:=by
 unfold NG at h
 grind
def CV.beq:CV->CV->Bool
 |.d a,.d b=>NG a b
 |.ptr k o,.ptr k' o'=>Nat.beq k k' && Nat.beq o o'
 |.aE k o l z,.aE k' o' l' z'=>Nat.beq k k' && Nat.beq o o' && Nat.beq l l' && Nat.beq z z'
 |.mapr k,.mapr k'=>Nat.beq k k'
 |_,_=>false
theorem CV.beq_eq{x y:CV}(h:CV.beq x y=true):x=y:=by
 unfold CV.beq at h;split at h
 ·rw[PU h]
 ·simp_all
 ·simp_all
 ·simp_all
 grind
def KF:List CV->List CV->Bool
 |[],[]=>true
 |a::l,b::m=>CV.beq a b&&KF l m
 |_,_=>false
theorem FE:∀{l m:List CV},KF l m=true->l=m
 |[],[],_=>rfl
 |a::l,b::m,h=>by simp only[KF,cy]at h;rw[CV.beq_eq h.1,FE h.2]
 |[],_::_,h=>by cases h
 |_::_,[],h=>by cases h
def AV.beq:AV->AV->Bool
 |.c a,.c b=>CV.beq a b
 |.agg a,.agg b=>KF a b
 |_,_=>false
theorem AV.beq_eq{x y:AV}(h:AV.beq x y=true):x=y:=by
 unfold AV.beq at h;split at h
 ·rw[CV.beq_eq h]
 ·rw[FE h]
 grind
section
variable (P:Program) (G:List (List DV))
def EZ(f:Rec)(k:Key)(b:LB):Bool:=
 match tQ P f.op f.vals (au (aY f.lv) k b) f.nx with
 |some (x,[],[k'],true)=>AV.beq x f.x&&Nat.beq k' k
 |_=>false
def Ec:List α->Bool
 |[]=>true
 |_=>false
def Qx(k:Key):List Key->Bool
 |[a]=>Nat.beq a k
 |_=>false
def IZ(f g:Rec):Bool:=
 (!f.all ||Ec g.us)&&(!g.all ||Ec f.us)&&f.us.all (λp=>!(g.us.any λq=>Nat.beq q.1 p.1)) &&
 f.us.all (λp=>!Fh p.1 g.rds ||(Ec g.us&&Qx p.1 g.rds&&EZ P g p.1 (aY f.lv p.1))) &&
 g.us.all (λp=>!Fh p.1 f.rds ||(Ec f.us&&Qx p.1 f.rds&&EZ P f p.1 (bk (λ_=>.hole) (vz g.us) p.1)))
def Rec.quiet(f:Rec):Bool:=Ec f.us&&!f.all
def Rec.idle(f:Rec):Bool:=Ec f.us&&Ec f.rds&&!f.all
def RJ(ms:List Nat)(fs:List Rec):Bool:=
 pairs ms fs 0 []
where
 pairs (ms:List Nat):List Rec->Nat->List (Nat×Rec)->Bool
 |[],_,_=>true
 |g::r,j,before=>
  bif Rec.idle g then pairs ms r (j+1) before else
   before.all (λp=>(Rec.quiet g&&Rec.quiet p.2) ||(ms.getD j 0).testBit p.1 ||IZ P p.2 g)&&pairs ms r (j+1) ((j,g)::before)
abbrev RunT:=eV->Nat->Tb AV->Tb LB->Nat->List Key->Wa->dI
def Pz:RunT:=λ_ _ fr lv nx lg k=>k .normal fr lv nx lg
def GO(_:Nat)(ops:Array Oper)(dr:Bool):RunT:=λcall N fr lv nx lg k=>
 fG (cR N ops.toList) (.bad 11 []) (Bool.rec (motive:=λ_=>dI) (Ak P G call ops ops.toList fr lv nx lg k)
  (fG (iB ops) (.bad 12 []) (jC P G call ops ops.toList fr lv nx lg [] λacc fr lv nx lg=>fG (RJ P (gY ops.toList []) acc.reverse) (.bad 13 (ops.toList.map (·.op))) (k .normal fr lv nx lg))) dr)
def Tn(_ _:Code)(a b:RunT):RunT:=λcall N fr lv nx lg k=>
 a call N fr lv nx lg λe fr lv nx lg=>Ex.rec (motive:=λ_=>dI) (b call N fr lv nx lg k) (λi=>k (.exit i) fr lv nx lg) (λi=>k (.goto i) fr lv nx lg) (k .ret fr lv nx lg) (λd=>k (.panic d) fr lv nx lg) e
def MK(x:AV)(f t:dI):dI:=
 match x with
 |.c (.d (.bool b))=>fG b f t
 |_=>.bad 14 []
def MN(c:Operand)(_ _:Code)(a b:RunT):RunT:=λcall N fr lv nx lg k=>
 MK (Bd G fr c) (b call N fr lv nx lg k) (a call N fr lv nx lg k)
def J9(id:Nat)(_:Code)(a:RunT):RunT:=λcall N fr lv nx lg k=>
 a call N fr lv nx lg λe fr lv nx lg=>Ex.rec (motive:=λ_=>dI) (k .normal fr lv nx lg) (λi=>Bool.rec (motive:=λ_=>dI) (k (.exit i) fr lv nx lg) (k .normal fr lv nx lg) (Nat.beq i id)) (λi=>k (.goto i) fr lv nx lg) (k .ret fr lv nx lg) (λd=>k (.panic d) fr lv nx lg) e
def PT(a:RunT)(call:eV)(N:Nat)(n:Nat):Tb AV->Tb LB->Nat->List Key->Wa->dI:=
 Nat.rec (motive:=λ_=>Tb AV->Tb LB->Nat->List Key->Wa->dI) (λ_ _ _ _ _=>.bad 15 [])
  (λ_ ih fr lv nx lg k=>a call N fr lv nx lg λe fr lv nx lg=>Ex.rec (motive:=λ_=>dI) (ih fr lv nx lg k) (λi=>k (.exit i) fr lv nx lg) (λi=>k (.goto i) fr lv nx lg) (k .ret fr lv nx lg) (λd=>k (.panic d) fr lv nx lg) e) n
def M5(_:Code)(a:RunT):RunT:=λcall N=>PT a call N 1000000
def Vn(id:Nat):RunT:=λ_ _ fr lv nx lg k=>k (.exit id) fr lv nx lg
def Vo(id:Nat):RunT:=λ_ _ fr lv nx lg k=>k (.goto id) fr lv nx lg
def Wu:RunT:=λ_ _ fr lv nx lg k=>k .ret fr lv nx lg
def JZ:RunT:=λ_ _ _ _ _ _ _=>.bad 16 []
def runK(c:Code):RunT:=
 Code.rec (motive:=λ_=>RunT) Pz (GO P G) Tn (MN G) J9 M5 (λ_ _ _ _ _ _=>JZ) Vn (λ_ _=>JZ) (λ_=>Pz) Vo Wu (λ_=>JZ) c
def Oj(us:List AV)(i:Nat)(fr:Tb AV)(k:Tb AV->dI):dI:=
 List.rec (motive:=λ_=>Nat->Tb AV->(Tb AV->dI)->dI) (λ_ fr k=>k fr) (λx _ ih i fr k=>Tb.Ej .undef x (pathOf i) fr λfr=>ih (Nat.succ i) fr k) us i fr k
inductive Spec where
 |body
 |pure (g:List AV->Option AV)
 |caught
 |self (g:Nat->Nat->Nat->Bool)
def Sa(call:eV)(f:FuncId)(us:List AV)(lv:Tb LB)(nx:Nat)(lg:List Key)(kr:Jt)(kp:Sw):dI:=
 nw P.funcs[f]? (.bad 17 []) λfn=>nw fn.body (.bad 18 []) λc=>fG (Nat.ble us.length fn.ntmps) (.bad 19 []) (
  Oj us 0 .leaf λfr=>runK P G c call fn.ntmps fr lv nx lg λe fr lv nx lg=>
   Ex.rec (motive:=λ_=>dI) (nw (eD P ⟨kS fr,aY lv⟩ fn.results.toList) (.bad 20 []) λx=>eP x λx=>kr x lv nx lg) (λ_=>.bad 21 []) (λ_=>.bad 22 []) (nw (eD P ⟨kS fr,aY lv⟩ fn.results.toList) (.bad 23 []) λx=>eP x λx=>kr x lv nx lg)
    (λd=>kp d lv nx lg) e)
def yh(ft:TypeId)(call:eV)(us:List AV)(lv:Tb LB)(nx:Nat)(lg:List Key)(kr:Jt):dI:=
 match us with
 |[x]=>nw (cG x) (.bad 24 []) λt=>M1 P t.1 (call t.1 (t.2.1++t.2.2) lv nx lg (λ_ lv nx lg=>kr (.c (.d (.int .i64 0))) lv nx lg)
  (λd lv nx lg=>match d with
   |.iface t (.agg [.int .i64 n])=>fG (Nat.beq t ft) (.bad 25 []) (kr (.c (.d (.int .i64 n))) lv nx lg)
   |_=>.bad 26 []))
 |_=>.bad 27 []
def Kf(g:Nat->Nat->Nat->Bool)(us:List AV)(lv:Tb LB)(nx:Nat)(lg:List Key)(kr:Jt):dI:=
 match us with
 |[.c (.ptr k off)]=>(match aY lv k with
  |.cells own false T cs=>fG (g T off cs.length) (.bad 34 []) (match cs.drop off with
   |.d .nilp::_=>B4 [(k,.cells own false T (aj cs off [.ptr k off]))] lv lg λlv lg=>kr (.tup []) lv nx lg
   |.ptr k' off'::_=>fG (Nat.beq k' k&&Nat.beq off' off) (.bad 30 []) (kr (.tup []) lv nx lg)
   |_=>.bad 31 [])
  |_=>.bad 32 [])
 |_=>.bad 33 []
def V4(sp:Tb Spec)(ft:TypeId)(n:Nat):eV:=
 Nat.rec (motive:=λ_=>eV) (λ_ _ _ _ _ _ _=>.bad 28 [])
  (λ_ ih f us lv nx lg kr kp=>Spec.rec (motive:=λ_=>dI) (Sa P G ih f us lv nx lg kr kp) (λg=>nw (g us) (.bad 29 []) λx=>eP x λx=>kr x lv nx lg) (yh P ft ih us lv nx lg kr) (λg=>Kf g us lv nx lg kr) (sp.get .body (pathOf f))) n
end
def nY(r:Option cH)(κ:Nat)(K:AV->List (Key×LB)->List Key->Nat->Prop):Prop:=
 match r with
 |some (x,us,rds,vc)=>vc/\K x us rds (match us with|[]=>κ|_=>κ+1)
 |none=>False
@[simp↓]theorem ZN{x:AV}:nY (some (x,[],rds,vc)) κ K=(vc/\K x [] rds κ):=rfl
@[simp↓]theorem Yr{x:AV}{us:List (Key×LB)}:nY (some (x,p::us,rds,vc)) κ K=(vc/\K x (p::us) rds (κ+1)):=rfl
@[simp↓]theorem Ys:nY none κ K=False:=rfl
@[congr]theorem VM{r r':Option cH}(h:∀_:Unit,r=r'):nY r κ K=nY r' κ K:=by rw[h ()]
def oH(w:Option Bool)(a b:Unit->Prop):Prop:=match w with|some true=>a ()|some false=>b ()|none=>False
@[simp↓]theorem X2:oH (some true) a b=a ():=rfl
@[simp↓]theorem WQ:oH (some false) a b=b ():=rfl
@[congr]theorem SD{w w':Option Bool}(h:∀_:Unit,w=w'):oH w a b=oH w' a b:=by rw[h ()]
def pN(o:Option Tmp)(f:Tmp->Prop):Prop:=match o with|some t=>f t|none=>False
@[simp↓]theorem Yq{t:Tmp}{f:Tmp->Prop}:pN (some t) f=f t:=rfl
@[congr]theorem QY{o o':Option Tmp}{f:Tmp->Prop}(h:∀_:Unit,o=o'):pN o f=pN o' f:=by rw[h ()]
def qj(c:Ctx)(ops:Array Oper)(os:List Oper)(s:az)(κ:Nat)(K:az->Nat->Prop):Prop:=gy c ops os s κ [] λs κ _=>K s κ
theorem nc{c:Ctx}{ops:Array Oper}{K:az->Nat->Prop}:∀{os:List Oper}{s:az}{κ:Nat}{acc acc':List Fx},gy c ops os s κ acc (λs κ _=>K s κ)=gy c ops os s κ acc' (λs κ _=>K s κ)
 |[],s,κ,_,_=>rfl
 |o::os,s,κ,acc,acc'=>by
  simp only[gy];split
  ·congr 1;funext x us rds κ';exact nc
  ·exact nc
  ·rfl
section
variable {c:Ctx}{ops:Array Oper}{s:az}{κ:Nat}{d:Option Tmp}{ty:TypeId}{pos:String}{af:Array Edge}{K:AV->List (Key×LB)->List Key->Nat->Prop}
@[simp↓]theorem Wc{K:az->Nat->Prop}:qj c ops [] s κ K=K s κ:=rfl
@[simp↓]theorem Ic{K:az->Nat->Prop}:qj c ops (⟨d,o,ty,pos,af,none⟩::os) s κ K =
 gJ c ⟨d,o,ty,pos,af,none⟩ s κ λx us _ κ'=>qj c ops os (az.put ⟨s.fr,bk s.lv us⟩ d x) κ' K:=by
 simp only[qj,gy,eK];congr 1;funext x us rds κ';exact nc
def uc(x:AV)(want:Bool):Option Bool:=
 match x with
 |.c (.d (.bool b))=>some (b==want)
 |.undef=>some false
 |_=>none
@[simp↓]theorem FM{K:az->Nat->Prop}:qj c ops (⟨d,o,ty,pos,af,some (j,w)⟩::os) s κ K =
 pN ((ops[j]?).bind (·.dst)) λt=>oH (uc (s.fr t) w)
  (λ_=>gJ c ⟨d,o,ty,pos,af,some (j,w)⟩ s κ λx us _ κ'=>qj c ops os (az.put ⟨s.fr,bk s.lv us⟩ d x) κ' K)
  (λ_=>qj c ops os (s.put d .undef) κ K):=by
 simp only[qj,gy,eK,pN,oH]
 cases hj:(ops[j]?).bind (·.dst)with
 |none=>rfl
 |some t=>
  simp only[uc]
  cases e:s.fr t with
  |c x=>
   cases x with
   |d x=>cases x with
    |bool b=>
     simp only
     cases b<;>cases w<;>simp only[BEq.rfl,Bool.beq_eq_decide_eq,decide_false,reduceCtorEq]<;>first|(congr 1;funext x us rds κ';exact nc)|exact nc
    |_=>rfl
   |_=>rfl
  |undef=>simp only;exact nc
  |_=>rfl
@[simp]theorem VR:bk lv []=lv:=rfl
@[simp]theorem YG:bk lv [p]=au lv p.1 p.2:=rfl
theorem Va{f:Nat->α}{k:Nat}{x:α}:au f k x t=if t=k then x else f t:=rfl
@[simp]theorem tB{s:az}{x:AV}:s.put none x=s:=rfl
@[simp]theorem WL{x:AV}:az.put ⟨fr,lv⟩ (some t) x=⟨au fr t x,lv⟩:=rfl
@[simp]theorem YZ:s.val G (.tmp t)=s.fr t:=rfl
@[simp]theorem VK{v:Value}:s.val G (.const v)=tA v:=rfl
@[simp]theorem X6:s.val G (.func f)=.c (.d (.func (.func f) [] [])):=rfl
@[simp]theorem Ud{g:Nat}:s.val G (.global g)=match G[g]? with|some cs=>.c (.d (.ptr cs))|none=>.junk:=rfl
@[simp]theorem XT{b:Bool}:tA (.bool b)=.c (.d (.bool b)):=rfl
theorem tI(h:k.wrap n=n):tA (.int k n)=.c (.d (.int k n)):=by simp only[tA,Jr,h,if_true]
@[simp]theorem ZS(h1:-9223372036854775808<=n)(h2:n<=9223372036854775807):tA (.int .i64 n)=.c (.d (.int .i64 n)):=tI (c6 ⟨h1,h2⟩)
@[simp]theorem Zz(h1:-2147483648<=n)(h2:n<=2147483647):tA (.int .i32 n)=.c (.d (.int .i32 n)):=tI (c6 ⟨h1,h2⟩)
@[simp]theorem abQ(h1:0<=n)(h2:n<=255):tA (.int .u8 n)=.c (.d (.int .u8 n)):=tI (c6 ⟨h1,h2⟩)
@[simp]theorem Y9(h1:0<=n)(h2:n<=4294967295):tA (.int .u32 n)=.c (.d (.int .u32 n)):=tI (c6 ⟨h1,h2⟩)
@[simp]theorem Zq(h1:0<=n)(h2:n<=18446744073709551615):tA (.int .u64 n)=.c (.d (.int .u64 n)):=tI (c6 ⟨h1,h2⟩)
@[simp]theorem ZH{b:ByteArray}(h:b.data.toList.length<=9223372036854775807):tA (.string b)=.c (.d (.str b.data.toList)):=by simp only[tA,Jr,h,if_true]
@[simp]theorem YB:tA (.pointer none)=.c (.d .nilp):=rfl
@[simp]theorem Wr:tA (.slice none 0 0)=.c (.d .nilsl):=rfl
@[simp]theorem XF:tA .nilIface=.c (.d .nilIface):=rfl
@[simp]theorem XW:tA .nilFunc=.c (.d .nilFunc):=rfl
@[simp]theorem XB:tA (.map none)=.c (.d .nilmap):=rfl
@[simp]theorem YQ{a:Array Value}:tA (.agg a)=if a.toList.all (·.oneCell')then .agg (a.toList.map Jr)else .junk:=rfl
variable {g:Option (Nat×Bool)}
@[simp↓]theorem lX:gJ c ⟨d,.move x,ty,pos,af,g⟩ s κ K=K (s.val c.G x) [] [] κ:=by simp[gJ,cX,Op.operands]
@[simp↓]theorem y6:gJ c ⟨d,.assign x,ty,pos,af,g⟩ s κ K=K (s.val c.G x) [] [] κ:=by simp[gJ,cX,Op.operands]
def G6(t x y:AV):Option cH:=match t with|.c (.d (.bool true))=>some (x,[],[],True)|.c (.d (.bool false))=>some (y,[],[],True)|_=>none
@[simp]theorem YI{x y:AV}:G6 (.c (.d (.bool true))) x y=some (x,[],[],True):=rfl
@[simp]theorem ZJ{x y:AV}:G6 (.c (.d (.bool false))) x y=some (y,[],[],True):=rfl
@[simp↓]theorem Xl{t:Operand}:gJ c ⟨d,.pick t x y,ty,pos,af,g⟩ s κ K=nY (G6 (s.val c.G t) (s.val c.G x) (s.val c.G y)) κ K:=by rfl
def EI(P:Program)(T:TypeId)(lv:Key->LB)(κ:Key):Option cH:=match bg P T,lv κ with|some xs,.hole=>some (.c (.ptr κ 0),[(κ,.cells true false T xs)],[],True)|_,_=>none
@[simp↓]theorem Wj:gJ c ⟨d,.alloc T,ty,pos,af,g⟩ s κ K=nY (EI c.P T s.lv κ) κ K:=by rfl
def Sb(T:TypeId)(x:AV)(lv:Key->LB)(κ:Key):Option cH:=match x.cells,lv κ with|some xs,.hole=>some (.c (.ptr κ 0),[(κ,.cells true false T xs)],[],True)|_,_=>none
@[simp↓]theorem ZC:gJ c ⟨d,.box T x,ty,pos,af,g⟩ s κ K=nY (Sb T (s.val c.G x) s.lv κ) κ K:=by rfl
@[simp↓]theorem XG:gJ c ⟨d,.load T x,ty,pos,af,g⟩ s κ K=nY (bh c.P T s.lv (s.val c.G x)) κ K:=by rfl
@[simp↓]theorem VJ:gJ c ⟨d,.store T x y,ty,pos,af,g⟩ s κ K=nY (ec c.P T s.lv (s.val c.G x) (s.val c.G y)) κ K:=by rfl
@[simp↓]theorem Y0:gJ c ⟨d,.nilCheck x,ty,pos,af,g⟩ s κ K=nY (ig s.lv (s.val c.G x)) κ K:=by rfl
@[simp↓]theorem YO{op:BinOp}:gJ c ⟨d,.binOp op T x y T',ty,pos,af,g⟩ s κ K=nY (aK c.P op T (s.val c.G x) (s.val c.G y)) κ K:=by rfl
def OP(op:UnOp)(x:AV):Option cH:=match x with|.c (.d d)=>(match Yo op d with|some d'=>some (.c (.d d'),[],[],True)|none=>none)|_=>none
@[simp↓]theorem aaO{op:UnOp}:gJ c ⟨d,.unOp op T x,ty,pos,af,g⟩ s κ K=nY (OP op (s.val c.G x)) κ K:=by rfl
@[simp]theorem Xt{b:Bool}:OP .not (.c (.d (.bool b)))=some (.c (.d (.bool !b)),[],[],True):=rfl
@[simp]theorem Yx:OP .neg (.c (.d (.int k n)))=some (.c (.d (.int k (k.wrap (0-n)))),[],[],True):=rfl
def KB(P:Program)(S T:TypeId)(x:AV):Option cH:=match x with
 |.c (.d (.int _ n))=>match rU P S,rU P T with|some _,some k'=>some (.c (.d (.int k' (k'.wrap n))),[],[],True)|_,_=>none
 |.c (.d (.str l))=>if cA P S&&cA P T then some (.c (.d (.str l)),[],[],True)else none
 |_=>none
@[simp↓]theorem XJ{S:TypeId}:gJ c ⟨d,.convert S T x,ty,pos,af,g⟩ s κ K=nY (KB c.P S T (s.val c.G x)) κ K:=by rfl
@[simp↓]theorem Qm{f:Nat}:gJ c ⟨d,.fieldAddr T x f,ty,pos,af,g⟩ s κ K=nY (cj c.P T f s.lv (s.val c.G x)) κ K:=by rfl
def Dh(P:Program)(T:TypeId)(f:Nat)(x:AV):Option cH:=match x with|.agg cs=>(match c9 P T f with|some (off,ft)=>(match pn P ft cs off with|some y=>some (y,[],[],True)|none=>none)|none=>none)|_=>none
@[simp↓]theorem Wi{f:Nat}:gJ c ⟨d,.field T x f,ty,pos,af,g⟩ s κ K=nY (Dh c.P T f (s.val c.G x)) κ K:=by rfl
@[simp↓]theorem Qp{i:Operand}:gJ c ⟨d,.indexAddr T x i,ty,pos,af,g⟩ s κ K=nY (ak c.P T s.lv (s.val c.G x) (s.val c.G i)) κ K:=by rfl
@[simp↓]theorem Wt{i:Operand}:gJ c ⟨d,.index T x i,ty,pos,af,g⟩ s κ K=nY (gq c.P T (s.val c.G x) (s.val c.G i)) κ K:=by rfl
def xE(i:Nat)(x:AV):Option cH:=match x with|.tup l=>(match l[i]? with|some (.tup _)=>none|some y=>some (y,[],[],True)|none=>none)|_=>none
@[simp↓]theorem Zd:gJ c ⟨d,.extract x i,ty,pos,af,g⟩ s κ K=nY (xE i (s.val c.G x)) κ K:=by rfl
def QE(P:Program)(T:TypeId)(x:AV):Option cH:=match mo x with|some d=>if P.concrete T then some (.c (.d (.iface T d)),[],[],True)else none|none=>none
@[simp↓]theorem ZG:gJ c ⟨d,.makeInterface T x,ty,pos,af,g⟩ s κ K=nY (QE c.P T (s.val c.G x)) κ K:=by rfl
@[simp↓]theorem YL:gJ c ⟨d,.makeSlice T x y,ty,pos,af,g⟩ s κ K=nY (gV c.P T s.lv κ (s.val c.G x) (s.val c.G y)) κ K:=by rfl
@[simp↓]theorem TK:gJ c ⟨d,.slice T x none none none,ty,pos,af,g⟩ s κ K=nY (bP c.P T s.lv (s.val c.G x) none none) κ K:=by rfl
@[simp↓]theorem S9:gJ c ⟨d,.slice T x (some l) none none,ty,pos,af,g⟩ s κ K=nY (bP c.P T s.lv (s.val c.G x) (some (s.val c.G l)) none) κ K:=by rfl
@[simp↓]theorem TH:gJ c ⟨d,.slice T x none (some h) none,ty,pos,af,g⟩ s κ K=nY (bP c.P T s.lv (s.val c.G x) none (some (s.val c.G h))) κ K:=by rfl
@[simp↓]theorem Ti:gJ c ⟨d,.slice T x (some l) (some h) none,ty,pos,af,g⟩ s κ K=nY (bP c.P T s.lv (s.val c.G x) (some (s.val c.G l)) (some (s.val c.G h))) κ K:=by rfl
@[simp↓]theorem Zm:gJ c ⟨d,.call { callee:=.builtin .len,args:=#[x],argTypes:=#[T] },ty,pos,af,g⟩ s κ K=nY (match ku c.P T s.lv (s.val c.G x)with|some n=>some (.c (.d (.int .i64 n)),[],keyOf (s.val c.G x),kQ (s.val c.G x) n)|none=>none) κ K:=by
 rfl
@[simp↓]theorem U6:gJ c ⟨d,.call { callee:=.builtin .append,args:=#[x,y],argTypes:=#[T,T'] },ty,pos,af,g⟩ s κ K=nY (if T=T' then eu c.P T s.lv κ (s.val c.G x) (s.val c.G y)else none) κ K:=by
 rfl
def Ga(c:Ctx)(tgt:Option (FuncId×List AV×List AV))(xs:List AV)(lv:Key->LB)(K:AV->List (Key×LB)->List Key->Nat->Prop):Prop:=
 match tgt with
 |some (f,fs,cs)=>aH c.P f=true/\∃x us rds κ',cw c f (fs++xs++cs) lv x us rds/\K x us rds κ'
 |none=>False
@[simp↓]theorem Yz{fo:Operand}{xs:Array Operand}{ts:Array TypeId}:gJ c ⟨d,.call { callee:=.value fo,args:=xs,argTypes:=ts },ty,pos,af,g⟩ s κ K=Ga c (cG (s.val c.G fo)) (xs.toList.map (s.val c.G)) s.lv K:=rfl
def ag(c:Ctx)(f:FuncId)(xs:List AV)(lv:Key->LB)(K:AV->List (Key×LB)->List Key->Nat->Prop):Prop:=∃x us rds κ',cw c f xs lv x us rds/\K x us rds κ'
@[congr]theorem Rv(h:∀_:Unit,xs=xs'):ag c f xs lv K=ag c f xs' lv K:=by rw[h ()]
@[simp]theorem Uh:Ga c (some (f,[],[])) xs lv K=(aH c.P f=true/\ag c f xs lv K):=by simp[Ga,ag]
@[simp]theorem QZ:cG (.c (.d (.func (.func f) [] [])))=some (f,[],[]):=rfl
@[congr]theorem Ta{t t':Option (FuncId×List AV×List AV)}(h:∀_:Unit,t=t')(h':∀_:Unit,xs=xs'):Ga c t xs lv K=Ga c t' xs' lv K:=by simp_all
end
theorem AW.RA{r:Option Nat}{id:Nat}{ops:Array Oper}(hd:cR c.n ops.toList=true)(h:qj c ops ops.toList s κ λs' κ'=>Q .normal s' κ'):AW c r (.region id ops false) s κ Q:=
 AW.region hd h
@[simp↓]theorem YJ{K:az->Nat->Prop}:vk K Q .normal s κ=K s κ:=rfl
@[simp↓]theorem Zt{K:az->Nat->Prop}:vk K Q (.exit i) s κ=Q (.exit i) s κ:=rfl
@[simp↓]theorem YY{K:az->Nat->Prop}:vk K Q .ret s κ=Q .ret s κ:=rfl
@[simp↓]theorem Xe:wg i Q .normal s κ=Q .normal s κ:=rfl
@[simp↓]theorem Xm:wg i Q (.exit j) s κ=if j=i then Q .normal s κ else Q (.exit j) s κ:=rfl
@[simp↓]theorem XO:wg i Q .ret s κ=Q .ret s κ:=rfl
@[simp]theorem YR{x:DV}:kQ (.c (.d x)) n=True:=rfl
@[simp]theorem ZD{b:Bool}:uc (.c (.d (.bool b))) w=some (b==w):=rfl
@[simp]theorem Y8:uc .undef w=some false:=rfl
def Le(c:Ctx)(s s2:az):Prop:=∃g,dQ c s s2 g
theorem Le.slots(l:List (Nat×AV))(hl:∀p∈l,p.2.bF=true/\fr p.1=p.2)(hm:∀k own es,lv k=.map own es->∀p∈es,∀l,p.2≠.tup l):
 Le c ⟨fr,lv⟩ ⟨aJ l,lv⟩:=⟨_,dQ.slots (s:=⟨fr,lv⟩) hl hm⟩
theorem aae{r:Option Nat}{x y:Code}(h:∀K:az->Nat->Prop,(∀s κ,AW c r y s κ Q->K s κ)->AW c r x s κ (vk K Q)):AW c r (.seq x y) s κ Q:=
 AW.seq' (h _ λ_ _ h=>h)
theorem JT[DecidableEq α](m n:α):(m==n)=decide (m=n):=by
 by_cases h:m=n<;>simp[h]
section
variable {P:Program}{T:TypeId}{k:IntKind}{m n:Int}
@[simp]theorem abC:aK P .add T (.c (.d (.int k m))) (.c (.d (.int k n)))=some (.c (.d (.int k (k.wrap (m+n)))),[],[],True):=by simp[aK,mc,fK]
@[simp]theorem abV:aK P .sub T (.c (.d (.int k m))) (.c (.d (.int k n)))=some (.c (.d (.int k (k.wrap (m-n)))),[],[],True):=by simp[aK,mc,fK]
@[simp]theorem abF:aK P .mul T (.c (.d (.int k m))) (.c (.d (.int k n)))=some (.c (.d (.int k (k.wrap (m*n)))),[],[],True):=by simp[aK,mc,fK]
@[simp]theorem abt:aK P .quo T (.c (.d (.int k m))) (.c (.d (.int k n)))=some (.c (.d (.int k (k.wrap (m.tdiv n)))),[],[],n≠0):=by simp[aK,mc,fK]
@[simp]theorem aau:aK P .rem T (.c (.d (.int k m))) (.c (.d (.int k n)))=some (.c (.d (.int k (m.tmod n))),[],[],n≠0):=by simp[aK,mc,fK]
theorem U5:aK P .and T (.c (.d (.int k m))) (.c (.d (.int k n)))=some (.c (.d (.int k (k.wrap (BitVec.ofInt k.bits m&&&BitVec.ofInt k.bits n).toNat))),[],[],True):=by simp[aK,mc,fK]
theorem Yu:aK P .or T (.c (.d (.int k m))) (.c (.d (.int k n)))=some (.c (.d (.int k (k.wrap (BitVec.ofInt k.bits m |||BitVec.ofInt k.bits n).toNat))),[],[],True):=by simp[aK,mc,fK]
@[simp]theorem aaQ:aK P .eql T (.c (.d (.int k m))) (.c (.d (.int k n)))=some (.c (.d (.bool (decide (m=n)))),[],[],True):=by simp[aK,mc,fK,JT]
@[simp]theorem ZZ:aK P .neq T (.c (.d (.int k m))) (.c (.d (.int k n)))=some (.c (.d (.bool (!decide (m=n)))),[],[],True):=by simp[aK,mc,fK,bne,JT]
@[simp]theorem aa6:aK P .lss T (.c (.d (.int k m))) (.c (.d (.int k n)))=some (.c (.d (.bool (decide (m<n)))),[],[],True):=by simp[aK,mc,fK]
@[simp]theorem abH:aK P .leq T (.c (.d (.int k m))) (.c (.d (.int k n)))=some (.c (.d (.bool (decide (m<=n)))),[],[],True):=by simp[aK,mc,fK]
@[simp]theorem abM:aK P .gtr T (.c (.d (.int k m))) (.c (.d (.int k n)))=some (.c (.d (.bool (decide (n<m)))),[],[],True):=by simp[aK,mc,fK]
@[simp]theorem abm:aK P .geq T (.c (.d (.int k m))) (.c (.d (.int k n)))=some (.c (.d (.bool (decide (n<=m)))),[],[],True):=by simp[aK,mc,fK]
@[simp]theorem Ou:aK P .shl T (.c (.d (.int k m))) (.c (.d (.int k' n)))=some (.c (.d (.int k (k.wrap (m*2^(min n.toNat k.bits))))),[],[],0<=n):=by rfl
@[simp]theorem abT:aK P .shr T (.c (.d (.int k m))) (.c (.d (.int k' n)))=some (.c (.d (.int k (m.fdiv (2^(min n.toNat k.bits))))),[],[],0<=n):=by rfl
end
end Go.Am
