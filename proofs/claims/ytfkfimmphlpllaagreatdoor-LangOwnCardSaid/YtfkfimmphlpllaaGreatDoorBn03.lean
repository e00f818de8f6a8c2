/- Helpers: an abstract machine for Go functions, and walks of functions of the program. -/
import Derived.Test.YtfkfimmphlpllaaGreatDoorBn02

set_option linter.all false

namespace Go.Am
theorem CallsP.of_AW0 {P:Program}{G:List (List DV)}{f:FuncId}{fn:Func}{code:Code}{args:List AV}{x:AV}(hf:P.funcs[f]?=some fn) (hb:fn.body=some code) (hl:args.length≤fn.ntmps)
 (h:∀ c:Ctx,c.P=P→c.G=G→c.n=fn.ntmps→c.lv0=(fun _=>.hole)→AW c none code ⟨fun t=>args.getD t .undef,fun _=>.hole⟩ 0 (FinP c fn x)):CallsP P G f args x:=by
 refine CallsS.of_AW hf hb hl fun c h1 h2 h3 h4=>?_
 rw [lvOf_nil'] at h4 ⊢
 refine (AW.mono (fun F β a w hs=>h c h1 h2 h3 h4 F β a w hs) fun e s κ hq=>?_:AW c none code _ 1000 _)
 have fin:(∃ l kh,(∀ p∈l,p.2.pure=true∧s.fr p.1=p.2)∧s.lv kh=.hole∧resA c.P ⟨frOf l,fun _=>.hole⟩ fn.results.toList=some x) →
  ∃ s2 g,Coarse c s s2 g∧s2.lv=lvOf [] []∧resA c.P s2 fn.results.toList=some x:=by
  rintro⟨l,kh,g1,g2,g3⟩
  exact⟨⟨frOf l,fun _=>.hole⟩,fun _=>kh,Coarse.blind g1 kh g2 (fun k=>by rw [h4]),by rw [lvOf_nil'],g3⟩
 cases e with
 | normal=>exact fin hq
 | ret=>exact fin hq
 | exit id=>exact hq.elim
 | goto l=>exact hq.elim
 | panic d=>exact hq.elim
def drG (D:List Key)(kh:Key):Key→Key:=fun k=>if k∈D then kh else k
theorem LB.as_same {x:LB}{g:Key→Key}(h:x.ren g=x) (hm:∀ own es,x=.map own es→∀ p∈es,∀ l,p.2≠.tup l):x.as x g:=by
 cases x with
 | cells own fz T cs=>
  have h':cs.map (CV.ren g)=cs:=by injection h
  exact⟨own,cs,rfl,h'.symm,fun h=>h⟩
 | map own es=>
  have h':es.map (fun p=>(p.1,p.2.ren0 g))=es:=by injection h
  exact⟨own,es,rfl,h'.symm,fun h=>h,hm own es rfl⟩
 | hole=>rfl
 | dead=>intro h;cases h
 | nils=>rfl
def OffL (g:Key→Key)(lv:Key→LB):Prop:=∀ k,(lv k).ren g=lv k
theorem OffL_hole {g:Key→Key}:OffL g (fun _=>.hole):=fun _=>rfl
theorem OffL_upd {g:Key→Key}{lv:Key→LB}{k:Key}{b:LB}(h:OffL g lv) (hb:b.ren g=b):OffL g (upd lv k b):=fun k'=>by
 unfold upd;split
 ·exact hb
 ·exact h k'
@[simp] theorem LB.ren_cells {g:Key→Key}{own fz:Bool}{T:TypeId}{cs:List CV}:(LB.cells own fz T cs).ren g=.cells own fz T (cs.map (CV.ren g)):=rfl
@[simp] theorem LB.ren_dead {g:Key→Key}:LB.dead.ren g=.dead:=rfl
@[simp] theorem LB.ren_nils {g:Key→Key}:LB.nils.ren g=.nils:=rfl
@[simp] theorem CV.ren_d {g:Key→Key}{x:DV}:(CV.d x).ren g=.d x:=rfl
@[simp] theorem CV.ren_ptr {g:Key→Key}{k:Key}{o:Nat}:(CV.ptr k o).ren g=.ptr (g k) o:=rfl
@[simp] theorem CV.ren_lsl {g:Key→Key}{k:Key}{o l z:Nat}:(CV.lsl k o l z).ren g=.lsl (g k) o l z:=rfl
@[simp] theorem AV.ren_c {g:Key→Key}{x:CV}:(AV.c x).ren g=.c (x.ren g):=rfl
@[simp] theorem AV.ren_agg {g:Key→Key}{cs:List CV}:(AV.agg cs).ren g=.agg (cs.map (CV.ren g)):=rfl
theorem Le.drop {c:Ctx}{fr:Nat→AV}{lv lv':Key→LB}(D:List Key) (kh:Key) (l:List (Nat × AV)) (hc:c.lv0=fun _=>.hole) (hD:∀ k∈D,lv' k=.hole) (hlv:∀ k,k ∉ D→lv k=lv' k) (hh:lv kh=.hole)
 (hm:noMap lv') (hr:OffL (drG D kh) lv') (hl:∀ p∈l,p.2.flat1=true∧fr p.1=p.2∧p.2.ren (drG D kh)=p.2):Le c ⟨fr,lv⟩ ⟨frOf l,lv'⟩:=by
 refine⟨drG D kh,fun k=>?_,fun k k' h1 h2 e=>?_,fun t=>?_,fun k hk=>absurd (by rw [hc]) hk⟩
 ·show (lv (drG D kh k)).as (lv' k) _
  by_cases hk:k∈D
  ·rw [hD k hk]
   have:drG D kh k=kh:=if_pos hk
   rw [this];exact hh
  ·have:drG D kh k=k:=if_neg hk
   rw [this,hlv k hk]
   exact LB.as_same (hr k) (fun own es h=>absurd h (hm k own es))
 ·have n1:k ∉ D:=fun h=>by have h1':(lv' k).live=true:=h1;rw [hD k h] at h1';cases h1'
  have n2:k' ∉ D:=fun h=>by have h2':(lv' k').live=true:=h2;rw [hD k' h] at h2';cases h2'
  unfold drG at e;rwa [if_neg n1,if_neg n2] at e
 ·rcases frOf_cases (P:=fun t x=>x.flat1=true∧fr t=x∧x.ren (drG D kh)=x) hl t with h|⟨h1,h2,h3⟩
  ·exact .inl h
  ·exact .inr ⟨h1,by show fr t=_;rw [h3];exact h2⟩
def mkfA (fn:Fn)(fs cs:List AV):Option StepR:=match refL fs,refL cs with
 | some fr,some cr=>some (.c (funA fn fr cr),[],[],True)
 | _,_=>none
theorem stepF_mkf {P:Program}{fn:Fn}{first caps:Array Operand}{v:Operand→AV}{lv:Key→LB}{κ:Key} :
 stepF P (.makeFunc fn first caps) ((Op.makeFunc fn first caps).operands.toList.map v) lv κ=mkfA fn (first.toList.map v) (caps.toList.map v):=by
 have e:(Op.makeFunc fn first caps).operands.toList.map v=first.toList.map v++caps.toList.map v:=by simp [Op.operands]
 rw [e]
 simp only [stepF,List.length_append,List.length_map,Array.length_toList,if_true]
 rw [List.take_left' (by simp),List.drop_left' (by simp)]
 rfl
section
variable {c:Ctx}{ps:List POp}{d:Option Tmp}{s:LSt}{κ:Nat}{K:LSt→Nat→Prop}{acc:List Tch}{KD:LSt→Nat→List Tch→Prop}
@[simp] theorem rp_mkf {fn:Fn}{first caps:Array Operand}:ARunP c (⟨d,.makeFunc fn first caps,none⟩::ps) s κ K=contP c ps d s κ K (mkfA fn (first.toList.map (s.val c.G)) (caps.toList.map (s.val c.G))):=by
 rw [ARunP_cons]
 simp only [AOp,stepF_mkf,contP,goA]
 rfl
@[simp] theorem rd_mkf {fn:Fn}{first caps:Array Operand}:ARunPD c (⟨d,.makeFunc fn first caps,none⟩::ps) s κ acc KD=contPD c ps d s κ acc KD (mkfA fn (first.toList.map (s.val c.G)) (caps.toList.map (s.val c.G))):=by
 rw [ARunPD_cons]
 simp only [AOp,stepF_mkf,contPD,goA]
 rfl
theorem callP_gen {f:FuncId}{xs fs cs:List AV}:callP c (some (f,fs,cs)) xs ps d s κ K=(isFn c.P f=true∧CallP c f (fs++xs++cs) ps d s κ K):=propext ⟨id,id⟩
theorem callTgt_c {f:FuncId}{fs cs:List Ref}:callTgt (.c (.func (.func f) fs cs))=some (f,fs.map refAV,cs.map refAV):=rfl
theorem callTgt_d {f:FuncId}{fs cs:List DV}:callTgt (.c (.d (.func (.func f) fs cs)))=some (f,fs.map dAV,cs.map dAV):=rfl
end
theorem CallDo.passN {c:Ctx}{f:FuncId}{xs us:List AV}{lv:Key→LB}{K:AV→List (Key × LB)→List Key→Nat→Prop}(κ' kh:Key) (own:Bool) (sel:List Key) (σ σ':List LB) {x:AV}(rds:List Key)
 (hc:CallsS c.P c.G f us σ (.ret x σ' [])) (hn:sel.Nodup) (hkh:kh ∉ sel) (hl1:sel.length=σ.length) (hl2:σ'.length=σ.length) (hb:σ.length≤1000)
 (hsel:∀ i (h:i<sel.length) (h':i<σ.length),(lv sel[i]).as σ[i] (keyMap sel [] kh)) (hh:lv kh=.hole) (hpass:∀ b∈σ,b.pass=true) (hnh:∀ b,b∈σ++σ'→b≠.hole)
 (hown:own=true→∀ k∈sel,(lv k).ownB=true) (hlen:us.length=xs.length)
 (hargs:∀ i (h:i<xs.length) (h':i<us.length),us[i].flat1=true∧xs[i]=us[i].ren (keyMap sel [] kh))
 (hrd:∀ a∈xs,∀ k∈rdA lv a,k∈rds) (hrh:kh∈rds)
 (hK:K (x.ren (keyMap sel [] kh)) (backW (keyMap sel [] kh) own sel σ') rds κ'):CallDo c f xs lv K:=by
 have key:=CallEff.gen (c:=c) (f:=f) (as:=xs) (lv:=lv) us [] sel [] kh σ σ' [] x own rds (fun z hz=>by cases hz) (by simp) (by simpa using hn) (fun z hz=>by cases hz) (by simpa using hkh) (fun z hz=>by cases hz) hl1 hl2 rfl hb hsel (fun k hk=>by cases hk) hh hpass (by simpa using hnh) hown hlen (fun i p q=>.inl (hargs i p q)) (fun a ha k hk=>.inl (hrd a ha k hk)) hrh hc
 have e:frzW []++backW (keyMap sel [] kh) own sel σ'++backW (keyMap sel [] kh) own [] []=backW (keyMap sel [] kh) own sel σ':=by simp [frzW,backW]
 rw [e] at key
 exact⟨_,_,rds,κ',key,hK⟩
theorem CallDo.pass2 {c:Ctx}{f:FuncId}{xs us:List AV}{lv:Key→LB}{K:AV→List (Key × LB)→List Key→Nat→Prop}(κ' kh k0 k1:Key) (own:Bool) {T0 T1:TypeId}{cs0 cs1:List CV}{x:AV}(rds:List Key)
 (hc:CallsS c.P c.G f us [.cells false false T0 cs0,.cells false false T1 cs1] (.ret x [.cells false false T0 cs0,.cells false false T1 cs1] [])) (hx:x.pure=true)
 (h0:lv k0=.cells own false T0 cs0) (h1:lv k1=.cells own false T1 cs1) (p0:∀ x∈cs0,x.pure=true) (p1:∀ x∈cs1,x.pure=true) (hk:k0≠k1) (hh:lv kh=.hole) (hlen:us.length=xs.length)
 (hargs:∀ i (h:i<xs.length) (h':i<us.length),us[i].flat1=true∧xs[i]=us[i].ren (keyMap [k0,k1] [] kh))
 (hrd:∀ a∈xs,∀ k∈rdA lv a,k∈rds) (hrh:kh∈rds)
 (hK:K x [(k0,.cells own false T0 cs0),(k1,.cells own false T1 cs1)] rds κ'):CallDo c f xs lv K:=by
 have r0:∀ g,(LB.cells false false T0 cs0).ren g=.cells false false T0 cs0:=fun g=>LB.ren_pure p0 g
 have r1:∀ g,(LB.cells false false T1 cs1).ren g=.cells false false T1 cs1:=fun g=>LB.ren_pure p1 g
 have m0:∀ g,cs0.map (CV.ren g)=cs0:=fun g=>by have:=r0 g;simp only [LB.ren_cells] at this;injection this
 have m1:∀ g,cs1.map (CV.ren g)=cs1:=fun g=>by have:=r1 g;simp only [LB.ren_cells] at this;injection this
 refine CallDo.passN κ' kh own [k0,k1] _ _ rds hc (by simp [hk]) ?_ rfl rfl (by simp) ?_ hh (by simp [LB.pass]) (by simp) ?_ hlen hargs hrd hrh ?_
 ·intro hm
  simp only [List.mem_cons,List.not_mem_nil,or_false] at hm
  rcases hm with rfl|rfl
  ·rw [h0] at hh;cases hh
  ·rw [h1] at hh;cases hh
 ·intro i p q
  have hi:i=0∨i=1:=by simp at p;omega
  rcases hi with rfl|rfl
  ·exact⟨own,cs0,h0,(m0 _).symm,fun h=>by cases h⟩
  ·exact⟨own,cs1,h1,(m1 _).symm,fun h=>by cases h⟩
 ·intro ho k hk'
  simp only [List.mem_cons,List.not_mem_nil,or_false] at hk'
  rcases hk' with rfl|rfl
  ·rw [h0];exact ho
  ·rw [h1];exact ho
 ·rw [AV.ren_pure hx]
  have e:backW (keyMap [k0,k1] [] kh) own [k0,k1] [.cells false false T0 cs0,.cells false false T1 cs1]=[(k0,.cells own false T0 cs0),(k1,.cells own false T1 cs1)]:=by
   simp only [backW,List.zipWith_cons_cons,List.zipWith_nil_left,r0,r1,LB.fix,Bool.false_or]
  rw [e];exact hK
theorem lvOf_two (b b':LB):lvOf [b,b'] []=upd (upd (fun _=>.hole) 0 b) 1 b':=by
 funext k
 unfold lvOf upd
 by_cases h1:k=1
 ·subst h1;rfl
 ·by_cases h0:k=0
  ·subst h0;rfl
  ·rw [if_neg h1,if_neg h0]
   split
   ·rw [getD_ge]
    rcases k with _|_|k
    ·exact absurd rfl h0
    ·exact absurd rfl h1
    ·simp
   ·rfl
def Fin2 (c:Ctx)(fn:Func)(x:AV)(b0 b1:LB):Ex→LSt→Nat→Prop
 | .normal,s,_|.ret,s,_=>∃ l kh,(∀ p∈l,p.2.pure=true∧s.fr p.1=p.2)∧s.lv kh=.hole∧s.lv 0=b0∧s.lv 1=b1∧resA c.P ⟨frOf l,fun _=>.hole⟩ fn.results.toList=some x
 | _,_,_=>False
theorem resA_lv {P:Program}{l:List (Nat × AV)}{lv lv':Key→LB}{rs:List ResultVar}(hr:∀ r∈rs,∃ t,r=.tmp t):resA P ⟨frOf l,lv⟩ rs=resA P ⟨frOf l,lv'⟩ rs:=by
 have h1:∀ rs:List ResultVar,(∀ r∈rs,∃ t,r=.tmp t)→resL P ⟨frOf l,lv⟩ rs=resL P ⟨frOf l,lv'⟩ rs:=by
  intro rs
  induction rs with
  | nil=>intro _;rfl
  | cons r rs ih=>
   intro h
   obtain⟨t,rfl⟩:=h r (by simp)
   have:=ih fun r hr=>h r (by simp [hr])
   simp only [resL,resV,this]
 unfold resA;rw [h1 rs hr]
theorem CallsS.of_AW2 {P:Program}{G:List (List DV)}{f:FuncId}{fn:Func}{code:Code}{args:List AV}{T0 T1:TypeId}{cs0 cs1:List CV}{x:AV}(hf:P.funcs[f]?=some fn) (hb:fn.body=some code) (hl:args.length≤fn.ntmps)
 (hr:∀ r∈fn.results.toList,∃ t,r=.tmp t) (p0:∀ x∈cs0,x.pure=true) (p1:∀ x∈cs1,x.pure=true)
 (h:∀ c:Ctx,c.P=P→c.G=G→c.n=fn.ntmps→AW c none code ⟨fun t=>args.getD t .undef,upd (upd (fun _=>.hole) 0 (.cells false false T0 cs0)) 1 (.cells false false T1 cs1)⟩ 1000 (Fin2 c fn x (.cells false false T0 cs0) (.cells false false T1 cs1))) :
 CallsS P G f args [.cells false false T0 cs0,.cells false false T1 cs1] (.ret x [.cells false false T0 cs0,.cells false false T1 cs1] []):=by
 have m0:∀ g,cs0.map (CV.ren g)=cs0:=fun g=>by have:=LB.ren_pure (T:=T0) (own:=false) (fz:=false) p0 g;simp only [LB.ren_cells] at this;injection this
 have m1:∀ g,cs1.map (CV.ren g)=cs1:=fun g=>by have:=LB.ren_pure (T:=T1) (own:=false) (fz:=false) p1 g;simp only [LB.ren_cells] at this;injection this
 refine CallsS.of_AW hf hb hl fun c h1 h2 h3 h4=>?_
 rw [lvOf_two] at h4 ⊢
 refine AW.mono (h c h1 h2 h3) fun e s κ hq=>?_
 have fin:(∃ l kh,(∀ p∈l,p.2.pure=true∧s.fr p.1=p.2)∧s.lv kh=.hole∧s.lv 0=.cells false false T0 cs0∧s.lv 1=.cells false false T1 cs1∧resA c.P ⟨frOf l,fun _=>.hole⟩ fn.results.toList=some x) →
  ∃ s2 g,Coarse c s s2 g∧s2.lv=lvOf [.cells false false T0 cs0,.cells false false T1 cs1] []∧resA c.P s2 fn.results.toList=some x:=by
  rintro⟨l,kh,g1,g2,g3,g4,g5⟩
  refine⟨⟨frOf l,upd (upd (fun _=>.hole) 0 (.cells false false T0 cs0)) 1 (.cells false false T1 cs1)⟩,fun k=>if k=0 then 0 else if k=1 then 1 else kh,⟨fun k=>?_,fun k k' e1 e2 e=>?_,fun t=>?_,fun k hk=>?_⟩,by rw [lvOf_two],by rw [resA_lv hr (lv':=fun _=>.hole)];exact g5⟩
  ·show (s.lv _).as (upd _ 1 _ k) _
   by_cases hk1:k=1
   ·subst hk1
    exact⟨false,cs1,g4,(m1 _).symm,fun h=>h⟩
   ·by_cases hk0:k=0
    ·subst hk0
     exact⟨false,cs0,g3,(m0 _).symm,fun h=>h⟩
    ·simp only [upd,hk0,hk1,if_false];exact g2
  ·have q:∀ k,(upd (upd (fun _=>LB.hole) 0 (.cells false false T0 cs0)) 1 (.cells false false T1 cs1) k).live=true→k=0∨k=1:=by
    intro k hk
    unfold upd at hk
    by_cases hk1:k=1
    ·exact .inr hk1
    ·by_cases hk0:k=0
     ·exact .inl hk0
     ·rw [if_neg hk1,if_neg hk0] at hk;cases hk
   rcases q k e1 with rfl|rfl <;> rcases q k' e2 with rfl|rfl <;> simp_all
  ·rcases frOf_cases (P:=fun t x=>x.pure=true∧s.fr t=x) g1 t with h|⟨h1,h2⟩
   ·exact .inl h
   ·exact .inr ⟨AV.flat1_pure h1,by rw [AV.ren_pure h1];exact h2⟩
  ·right
   rw [h4] at hk
   show (if k=0 then 0 else if k=1 then 1 else kh)=k
   by_cases hk1:k=1
   ·subst hk1;rfl
   ·by_cases hk0:k=0
    ·subst hk0;rfl
    ·exfalso;apply hk;simp [upd,hk0,hk1]
 cases e with
 | normal=>exact fin hq
 | ret=>exact fin hq
 | exit id=>exact hq.elim
 | goto l=>exact hq.elim
 | panic d=>exact hq.elim
theorem Fin2.tmp {c:Ctx}{fn:Func}{x:AV}{t:Nat}{s:LSt}{κ:Nat}{b0 b1:LB}(hr:fn.results=#[.tmp t]) (kh:Key) (hx:s.fr t=x) (hp:x.pure=true) (hh:s.lv kh=.hole) (h0:s.lv 0=b0) (h1:s.lv 1=b1) (hn:x.noTup=true):Fin2 c fn x b0 b1 .ret s κ:=by
 refine⟨[(t,x)],kh,by simp [hp,hx],hh,h0,h1,?_⟩
 rw [hr]
 simp [resA,resL,resV,frOf]
section
variable {c:Ctx}{r:Option Nat}{ops:Array Oper}{o:Oper}{s0:LSt}
theorem EffOK.plainN {κ:Key}{x:AV}{us:List (Key × LB)}{rds:List Key}(hd:∀ d,o.dst=some d→d<c.n) (hw:wantA ops o.guard s0.fr=some true)
 (h:stepN c.P o.op (o.op.operands.toList.map (s0.val c.G)) s0.lv κ=some (x,us,rds)):EffOK c r ops o s0 ⟨x,us,rds⟩:=by
 refine EffOK.of_sim hw (fun cl hcl=>?_) (fun s h1 h2=>?_)
 ·rw [hcl] at h;simp [stepN] at h
 ·have hl:=stepN_local h (show Agree s0.lv s.lv us rds from h2)
  exact stepN_sim hd rfl (List.map_congr_left h1) hl
theorem sim_slice_ae {T e:TypeId}{x:Operand}{lo hi:Option Operand}{κ:Key}{off n:Nat}{own fz:Bool}{T':TypeId}{cs:List CV}{l:Int}{sz:Nat}{s:LSt}(hd:∀ d,o.dst=some d→d<c.n) (ho:o.op=.slice T x lo hi none)
 (hx:s.val c.G x=.c (.ptr κ off)) (hk:s.lv κ=.cells own fz T' cs) (hT:arT c.P T=some (n,e,sz)) (hlo:bndA (lo.map (s.val c.G)) 0=some l) (hhi:bndA (hi.map (s.val c.G)) n=some l)
 (h0:0≤l) (h2:l≤n):Sim c o s (s.put o.dst (.c (.d (.sl [])))):=
 Sim.of_pure hd fun F β a w hs=>by
  have hv:=hx ▸ hs.val x
  obtain⟨hv,_⟩:=hv
  simp only [Vw.atPtr,hk] at hv
  have hr:=run_sliceAt_array hT (b:=β κ) (o:=off) (bnd_of (fun x=>hs.val x) hlo) (bnd_of (fun x=>hs.val x) hhi) h0 (Int.le_refl _) h2 w
  refine⟨_,by simp only [execOp,ho,Option.map_none,hv];simp [hr];rfl,?_,rfl⟩
  have e1:(if n=l.toNat then (⟨β κ,off,none⟩:Addr) else ⟨β κ,off+l.toNat*sz,none⟩)=⟨β κ,if n=l.toNat then off else off+l.toNat*sz,none⟩:=by split <;> rfl
  rw [e1]
  exact Rd.sl (β κ) _ (n - l.toNat) sz [] (fun _ _=>.nilIface) (by simp) (by simp) (by simp) (by simp) (by simp) (by simp)
theorem EffOK.sliceE {T e:TypeId}{x:Operand}{lo hi:Option Operand}{κ:Key}{off n:Nat}{own fz:Bool}{T':TypeId}{cs:List CV}{l:Int}{sz:Nat}(hd:∀ d,o.dst=some d→d<c.n) (hw:wantA ops o.guard s0.fr=some true) (ho:o.op=.slice T x lo hi none)
 (hx:s0.val c.G x=.c (.ptr κ off)) (hk:s0.lv κ=.cells own fz T' cs) (hT:arT c.P T=some (n,e,sz)) (hlo:bndA (lo.map (s0.val c.G)) 0=some l) (hhi:bndA (hi.map (s0.val c.G)) n=some l)
 (h0:0≤l) (h2:l≤n):EffOK c r ops o s0 ⟨.c (.d (.sl [])),[],[κ]⟩:=by
 refine EffOK.of_sim hw (fun cl hcl=>by rw [ho] at hcl;cases hcl) (fun s h1 h3=>?_)
 have e1:s.val c.G x=s0.val c.G x:=h1 x (by rw [ho];simp [Op.operands])
 have e2:lo.map (s.val c.G)=lo.map (s0.val c.G):=by
  cases lo with
  | none=>rfl
  | some y=>exact congrArg some (h1 y (by rw [ho];simp [Op.operands]))
 have e3:hi.map (s.val c.G)=hi.map (s0.val c.G):=by
  cases hi with
  | none=>rfl
  | some y=>exact congrArg some (h1 y (by rw [ho];simp [Op.operands]))
 have e4:s.lv κ=s0.lv κ:=h3.1 κ (by simp)
 exact sim_slice_ae hd ho (e1.trans hx) (e4.trans hk) hT (by rw [e2];exact hlo) (by rw [e3];exact hhi) h0 h2
end
def ChX (c:Ctx)(r:Option Nat)(ops:Array Oper)(os:List Oper)(s:LSt)(κ:Nat)(K:LSt→Nat→Prop):Prop:=
 ∃ es s' κ',Chain c r ops os es s s'∧K s' κ'
section
variable {c:Ctx}{r:Option Nat}{ops:Array Oper}
theorem Chain.append {os2:List Oper}{es2:List Fx}{s2:LSt}:∀ {os1:List Oper}{es1:List Fx}{s s1:LSt},Chain c r ops os1 es1 s s1→Chain c r ops os2 es2 s1 s2→Chain c r ops (os1++os2) (es1++es2) s s2
 | [],[],s,s1,h,h2=>by have h:s1=s:=h;subst h;exact h2
 | o::os,e::es,s,s1,h,h2=>⟨h.1,Chain.append h.2 h2⟩
 | [],_::_,_,_,h,_=>h.elim
 | _::_,[],_,_,h,_=>h.elim
theorem ChX.done {s:LSt}{κ:Nat}{K:LSt→Nat→Prop}(h:K s κ):ChX c r ops [] s κ K:=⟨[],s,κ,rfl,h⟩
theorem ChX.run {os:List Oper}{s:LSt}{κ:Nat}{K:LSt→Nat→Prop}(n:Nat) (hd:dstB c.n (os.take n)=true) (h:ARunP c (prepL (ops.toList.map (·.dst)) (os.take n)) s κ fun s' κ'=>ChX c r ops (os.drop n) s' κ' K):ChX c r ops os s κ K:=by
 rw [ARunP_eq] at h
 obtain⟨es,s',κ',h1,es2,s2,κ2,h2,h3⟩:=ARun.chain (r:=r) hd h
 refine⟨es++es2,s2,κ2,?_,h3⟩
 have:=Chain.append h1 h2
 rwa [List.take_append_drop] at this
theorem ChX.eff {o:Oper}{os:List Oper}{s:LSt}{κ:Nat}{K:LSt→Nat→Prop}{x:AV}{us:List (Key × LB)}{rds:List Key}(κ':Nat) (he:EffOK c r ops o s ⟨x,us,rds⟩) (h:ChX c r ops os (LSt.put ⟨s.fr,updL s.lv us⟩ o.dst x) κ' K):ChX c r ops (o::os) s κ K:=by
 obtain⟨es,s',κ2,h1,h2⟩:=h
 exact⟨⟨x,us,rds⟩::es,s',κ2,⟨he,h1⟩,h2⟩
theorem AW.regionX {s:LSt}{κ:Nat}{Q:Ex→LSt→Nat→Prop}{id:Nat}(h:ChX c r ops ops.toList s κ fun s' κ'=>Q .normal s' κ'):AW c r (.region id ops false) s κ Q:=by
 intro F β a w hs
 obtain⟨es,s',κ',h1,h2⟩:=h
 exact h1.region (fun F' β' a' w' h'=>⟨.normal,s',κ',F',β',h2,h',rfl⟩) hs
end
theorem ChX.stepN {c:Ctx}{r:Option Nat}{ops:Array Oper}{o:Oper}{os:List Oper}{s:LSt}{κ:Nat}{K:LSt→Nat→Prop}{x:AV}{us:List (Key × LB)}{rds:List Key}(κ':Nat) (hd:dstB c.n [o]=true) (hg:o.guard=none)
 (h:Am.stepN c.P o.op (o.op.operands.toList.map (s.val c.G)) s.lv κ=some (x,us,rds)) (hK:ChX c r ops os (LSt.put ⟨s.fr,updL s.lv us⟩ o.dst x) κ' K):ChX c r ops (o::os) s κ K:=by
 refine ChX.eff κ' (EffOK.plainN (fun d hd'=>?_) (by rw [hg];rfl) h) hK
 simp only [dstB,List.all_cons,List.all_nil,Bool.and_true,hd'] at hd
 simpa using hd
theorem ChX.sliceE {c:Ctx}{r:Option Nat}{ops:Array Oper}{o:Oper}{os:List Oper}{s:LSt}{κ0:Nat}{K:LSt→Nat→Prop}(κ':Nat) {T e:TypeId}{x:Operand}{lo hi:Option Operand}{κ:Key}{off n:Nat}{own fz:Bool}{T':TypeId}{cs:List CV}{l:Int}{sz:Nat}
 (hd:dstB c.n [o]=true) (hg:o.guard=none) (ho:o.op=.slice T x lo hi none)
 (hx:s.val c.G x=.c (.ptr κ off)) (hk:s.lv κ=.cells own fz T' cs) (hT:arT c.P T=some (n,e,sz)) (hlo:bndA (lo.map (s.val c.G)) 0=some l) (hhi:bndA (hi.map (s.val c.G)) n=some l)
 (h0:0≤l) (h2:l≤n) (hK:ChX c r ops os (LSt.put ⟨s.fr,updL s.lv []⟩ o.dst (.c (.d (.sl [])))) κ' K):ChX c r ops (o::os) s κ0 K:=by
 refine ChX.eff κ' (EffOK.sliceE (fun d hd'=>?_) (by rw [hg];rfl) ho hx hk hT hlo hhi h0 h2) hK
 simp only [dstB,List.all_cons,List.all_nil,Bool.and_true,hd'] at hd
 simpa using hd
def kmap (m:List (Key × Key × LB))(kh:Key):Key→Key:=fun k=>match m.find? (fun e=>e.1 == k) with
 | some e=>e.2.1
 | none=>kh
@[simp] theorem LB.as_cells {o f own fz:Bool}{T T':TypeId}{cs cs':List CV}{g:Key→Key}:(LB.cells o f T cs').as (.cells own fz T' cs) g↔(f=fz∧T=T'∧cs'=cs.map (CV.ren g)∧(own=true→o=true)):=by
 constructor
 ·rintro⟨own',cs2,h1,h2,h3⟩
  injection h1 with e1 e2 e3 e4
  subst e1;subst e4
  exact⟨e2,e3,h2,h3⟩
 ·rintro⟨rfl,rfl,h2,h3⟩
  exact⟨o,cs',rfl,h2,h3⟩
@[simp] theorem LB.as_nils {x:LB}{g:Key→Key}:x.as .nils g↔x=.nils:=Iff.rfl
abbrev LB.like (x y:LB)(g:Key→Key):Prop:=x.as y g
@[simp] theorem LB.like_cells {o f own fz:Bool}{T T':TypeId}{cs cs':List CV}{g:Key→Key}:(LB.cells o f T cs').like (.cells own fz T' cs) g↔(f=fz∧T=T'∧cs'=cs.map (CV.ren g)∧(own=true→o=true)):=LB.as_cells
@[simp] theorem LB.like_nils {x:LB}{g:Key→Key}:x.like .nils g↔x=.nils:=Iff.rfl
theorem updL_keys {m:List (Key × Key × LB)}{k:Key}(hn:(m.map (·.1)).Nodup) :
 updL (fun _=>LB.hole) (m.map fun e=>(e.1,e.2.2)) k=match m.find? (fun e=>e.1 == k) with|some e=>e.2.2|none=>.hole:=by
 cases h:m.find? (fun e=>e.1 == k) with
 | some e=>
  have h1:=List.mem_of_find?_eq_some h
  have h2:=List.find?_some h
  simp only [beq_iff_eq] at h2
  subst h2
  have hn':((m.map fun e=>(e.1,e.2.2)).map (·.1)).Nodup:=by rw [List.map_map];exact hn
  exact updL_mem hn' (List.mem_map.2 ⟨e,h1,rfl⟩)
 | none=>
  rw [List.find?_eq_none] at h
  rw [updL_not]
  intro hk
  simp only [List.map_map,List.mem_map,Function.comp] at hk
  obtain⟨e,he,rfl⟩:=hk
  exact h e he (by simp)
theorem Coarse.keys {c:Ctx}{s:LSt}{lv':Key→LB}(m:List (Key × Key × LB)) (kh:Key) (l:List (Nat × AV)) (hlv':lv'=updL (fun _=>.hole) (m.map fun e=>(e.1,e.2.2))) (hc:∀ k,c.lv0 k≠.hole→lv' k=.dead∨kmap m kh k=k)
 (hn1:(m.map (·.1)).Nodup) (hn2:(m.map (·.2.1)).Nodup) (hh:s.lv kh=.hole) (has:∀ e∈m,(s.lv e.2.1).as e.2.2 (kmap m kh)) (hl:∀ p∈l,p.2.flat1=true∧s.fr p.1=p.2.ren (kmap m kh)):Coarse c s ⟨frOf l,lv'⟩ (kmap m kh):=by
 have hk:∀ k,lv' k=match m.find? (fun e=>e.1 == k) with|some e=>e.2.2|none=>.hole:=fun k=>by rw [hlv',updL_keys hn1]
 refine⟨fun k=>?_,fun k k' h1 h2 e=>?_,fun t=>?_,hc⟩
 ·show (s.lv (kmap m kh k)).as (lv' k) _
  rw [hk]
  cases h:m.find? (fun e=>e.1 == k) with
  | some e=>
   have e1:kmap m kh k=e.2.1:=by unfold kmap;rw [h]
   rw [e1];exact has e (List.mem_of_find?_eq_some h)
  | none=>
   have e1:kmap m kh k=kh:=by unfold kmap;rw [h]
   rw [e1];exact hh
 ·have h1':(lv' k).live=true:=h1
  have h2':(lv' k').live=true:=h2
  rw [hk] at h1' h2'
  cases f1:m.find? (fun e=>e.1 == k) with
  | none=>rw [f1] at h1';cases h1'
  | some e1=>
   cases f2:m.find? (fun e=>e.1 == k') with
   | none=>rw [f2] at h2';cases h2'
   | some e2=>
    have g1:kmap m kh k=e1.2.1:=by unfold kmap;rw [f1]
    have g2:kmap m kh k'=e2.2.1:=by unfold kmap;rw [f2]
    rw [g1,g2] at e
    have i1:=List.mem_of_find?_eq_some f1
    have i2:=List.mem_of_find?_eq_some f2
    have j1:=List.find?_some f1
    have j2:=List.find?_some f2
    simp only [beq_iff_eq] at j1 j2
    have:e1=e2:=by
     obtain⟨a,ha,rfl⟩:=List.mem_iff_getElem.1 i1
     obtain⟨b,hb,rfl⟩:=List.mem_iff_getElem.1 i2
     have hab:a=b:=by
      refine (List.getElem_inj (xs:=m.map (·.2.1)) (i:=a) (j:=b) (h₀:=by simpa using ha) (h₁:=by simpa using hb) hn2).1 ?_
      simpa using e
     subst hab;rfl
    rw [← j1,← j2,this]
 ·rcases frOf_cases (P:=fun t x=>x.flat1=true∧s.fr t=x.ren (kmap m kh)) hl t with h|⟨h1,h2⟩
  ·exact .inl h
  ·exact .inr ⟨h1,h2⟩
theorem Le.keys {c:Ctx}{fr:Nat→AV}{lv lv':Key→LB}(m:List (Key × Key × LB)) (kh:Key) (l:List (Nat × AV)) (hlv':lv'=updL (fun _=>.hole) (m.map fun e=>(e.1,e.2.2))) (hc:c.lv0=fun _=>.hole)
 (hn1:(m.map (·.1)).Nodup) (hn2:(m.map (·.2.1)).Nodup) (hh:lv kh=.hole) (has:∀ e∈m,(lv e.2.1).like e.2.2 (kmap m kh)) (hl:∀ p∈l,p.2.flat1=true∧fr p.1=p.2.ren (kmap m kh)):Le c ⟨fr,lv⟩ ⟨frOf l,lv'⟩:=
 ⟨_,Coarse.keys (s:=⟨fr,lv⟩) m kh l hlv' (fun k hk=>absurd (by rw [hc]) hk) hn1 hn2 hh has hl⟩
theorem CallDo.newN {c:Ctx}{f:FuncId}{xs:List AV}{lv:Key→LB}{K:AV→List (Key × LB)→List Key→Nat→Prop}(κ' kh:Key) (nk:List Key) (ν:List LB) {x:AV}(hc:CallsS c.P c.G f xs [] (.ret x [] ν)) (hxs:∀ a∈xs,a.pure=true)
 (hn:nk.Nodup) (hkh:kh ∉ nk) (hl:nk.length=ν.length) (hnk:∀ k∈nk,lv k=.hole) (hh:lv kh=.hole) (hnh:∀ b∈ν,b≠.hole)
 (hK:K (x.ren (keyMap [] nk kh)) (backW (keyMap [] nk kh) true nk ν) [kh] κ'):CallDo c f xs lv K:=by
 have key:=CallEff.gen (c:=c) (f:=f) (as:=xs) (lv:=lv) xs [] [] nk kh [] [] ν x true [kh] (fun z hz=>by cases hz) (by simp) (by simpa using hn) (fun z hz=>by cases hz) (by simpa using hkh) (fun z hz=>by cases hz) rfl rfl hl (by simp) (fun i h=>absurd h (Nat.not_lt_zero i)) hnk hh (fun b hb=>by cases hb) (by simpa using hnh) (fun _ k hk=>by cases hk) rfl
  (fun i p q=>.inl ⟨AV.flat1_pure (hxs _ (List.getElem_mem q)),(AV.ren_pure (hxs _ (List.getElem_mem q)) _).symm⟩) (fun a ha k hk=>by rw [rdA_pure (hxs a ha)] at hk;cases hk) (by simp) hc
 have e:frzW []++backW (keyMap [] nk kh) true [] []++backW (keyMap [] nk kh) true nk ν=backW (keyMap [] nk kh) true nk ν:=by simp [frzW,backW]
 rw [e] at key
 exact⟨_,_,[kh],κ',key,hK⟩
theorem lvOf_far (ν:List LB)(k:Nat)(h:∀ j,j<ν.length→k≠1000+j):lvOf [] ν k=.hole:=by
 unfold lvOf
 by_cases hlt:k<1000
 ·rw [if_pos hlt];rfl
 ·rw [if_neg hlt,getD_ge]
  intro hj
  exact h _ hj (Nat.add_sub_of_le (Nat.le_of_not_lt hlt)).symm
theorem lvOf_n1 (a:LB):lvOf [] [a]=upd (fun _=>.hole) 1000 a:=by
 refine funext fun (k:Nat)=>?_
 unfold upd
 by_cases h:k=1000
 ·subst h;rfl
 ·rw [if_neg h]
  refine lvOf_far _ k fun j hj=>?_
  have:j=0:=by simp at hj;omega
  omega
theorem lvOf_n4 (a b d e:LB):lvOf [] [a,b,d,e]=upd (upd (upd (upd (fun _=>.hole) 1000 a) 1001 b) 1002 d) 1003 e:=by
 refine funext fun (k:Nat)=>?_
 unfold upd
 by_cases h3:k=1003
 ·subst h3;rfl
 ·by_cases h2:k=1002
  ·subst h2;rfl
  ·by_cases h1:k=1001
   ·subst h1;rfl
   ·by_cases h:k=1000
    ·subst h;rfl
    ·rw [if_neg h3,if_neg h2,if_neg h1,if_neg h]
     refine lvOf_far _ k fun j hj=>?_
     have:j<4:=by simpa using hj
     omega
def FinN (c:Ctx)(fn:Func)(x:AV)(ν:List LB):Ex→LSt→Nat→Prop
 | .normal,s,_|.ret,s,_=>∃ (m:List (Key × Key × LB)) (kh:Key),lvOf [] ν=updL (fun _=>.hole) (m.map fun e=>(e.1,e.2.2))∧(m.map (·.1)).Nodup∧(m.map (·.2.1)).Nodup∧s.lv kh=.hole ∧
  (∀ e∈m,(s.lv e.2.1).like e.2.2 (kmap m kh))∧x.flat1=true∧resA c.P s fn.results.toList=some (x.ren (kmap m kh))
 | _,_,_=>False
theorem CallsS.of_AWn {P:Program}{G:List (List DV)}{f:FuncId}{fn:Func}{code:Code}{args:List AV}{ν:List LB}{x:AV}(hf:P.funcs[f]?=some fn) (hb:fn.body=some code) (hl:args.length≤fn.ntmps)
 (h:∀ c:Ctx,c.P=P→c.G=G→c.n=fn.ntmps→c.lv0=(fun _=>.hole)→AW c none code ⟨fun t=>args.getD t .undef,fun _=>.hole⟩ 0 (FinN c fn x ν)):CallsS P G f args [] (.ret x [] ν):=by
 intro F β w vs hS hvl hv
 have hlv:lvOf [] []=fun _=>LB.hole:=lvOf_nil'
 rw [hlv] at hS hv
 refine calls_of_wp hf hb ?_
 let c:Ctx:={ CtxE P G w F β (fun _=>.hole) with n:=fn.ntmps }
 have hS':Sits c F β (fun _=>.hole) w:=hS
 let a:Act:={ tmps:=vs++Array.replicate (fn.ntmps - vs.size) undef,defers:=[] }
 have hst:StOK c F β ⟨fun t=>args.getD t .undef,fun _=>.hole⟩ a w:=by
  refine hS'.with ?_ rfl (fun t=>?_)
  ·show (vs++Array.replicate (fn.ntmps - vs.size) undef).size=fn.ntmps
   simp;omega
  ·show (Vw.mk F β (fun _=>.hole) w).av ((vs++Array.replicate (fn.ntmps - vs.size) undef).getD t undef) (args.getD t .undef)
   by_cases ht:t<args.length
   ·have h1:args.getD t .undef=args[t]:=getD_lt ht
    have h2:(vs++Array.replicate (fn.ntmps - vs.size) undef).getD t undef=vs[t]'(by omega):=by
     rw [Array.getD_eq_getD_getElem?,Array.getElem?_append_left (by omega),Array.getElem?_eq_getElem (by omega)];rfl
    rw [h1,h2];exact hv t ht (by omega)
   ·have h1:args.getD t .undef=.undef:=getD_ge ht
    have h2:(vs++Array.replicate (fn.ntmps - vs.size) undef).getD t undef=undef:=by
     rw [Array.getD_eq_getD_getElem?,Array.getElem?_append_right (by omega),Array.getElem?_replicate];split <;> rfl
    rw [h1,h2];rfl
 have hw:=(wpIn_wide (n:=0)).1 (h c rfl rfl rfl rfl F β a w hst)
 refine wp_mono hw fun e a' w' hp=>?_
 obtain⟨e',s',κ',F',β',hq,hX0,he⟩:=hp
 have fin:(∃ (m:List (Key × Key × LB)) (kh:Key),lvOf [] ν=updL (fun _=>.hole) (m.map fun e=>(e.1,e.2.2))∧(m.map (·.1)).Nodup∧(m.map (·.2.1)).Nodup∧s'.lv kh=.hole ∧
  (∀ e∈m,(s'.lv e.2.1).like e.2.2 (kmap m kh))∧x.flat1=true∧resA c.P s' fn.results.toList=some (x.ren (kmap m kh))) →
  a'.defers=[]∧∃ v,(results fn a'.tmps).run P w'=.ok v w'∧outR P G [] F β w (.ret x [] ν) (.returned v) w':=by
  rintro⟨m,kh,g1,g2,g3,g4,g5,g6,g7⟩
  obtain⟨v,h4,hav⟩:=resA_run hX0 g7
  have hco:Coarse c s' ⟨frOf [],lvOf [] ν⟩ (kmap m kh):=Coarse.keys m kh [] g1 (fun k hk=>absurd rfl hk) g2 g3 g4 g5 (fun p hp=>by cases hp)
  have hs2:=hX0.coarse hco
  have hR:(Vw.mk F' β' s'.lv w').Ren (Vw.mk F' (fun k=>β' (kmap m kh k)) (lvOf [] ν) w') (kmap m kh):=⟨rfl,rfl,fun _ _=>rfl,fun k=>LB.as_kin (hco.as k)⟩
  refine⟨hX0.defers,v,h4,v,F',fun k=>β' (kmap m kh k),rfl,?_,hR.av g6 hav⟩
  rw [hlv]
  exact hs2.sits
 cases e' with
 | normal=>cases he;exact fin hq
 | ret=>cases he;exact fin hq
 | exit id=>exact hq.elim
 | goto l=>exact hq.elim
 | panic d=>exact hq.elim
theorem CallsS.nil_blk {P:Program}{G:List (List DV)}{f:FuncId}{args:List AV}{sz:Nat}(h:CallsP P G f args (.c (.d .nilsl))):CallsS P G f args [] (.ret (.c (.lsl 1000 0 0 sz)) [] [.nils]):=by
 intro F β w vs hS hl hv
 refine (h F β w vs hS hl hv).mono fun e w' he=>?_
 obtain⟨v,F',β',rfl,hX,hav⟩:=he
 have hlv:lvOf [] []=fun _=>LB.hole:=lvOf_nil'
 obtain⟨hr,ho⟩:=hav
 have hv0:v=.slice none 0 0:=by
  generalize hd:DV.nilsl=d at hr
  cases hr <;> first|rfl|cases hd
 refine⟨v,F',β',rfl,?_,?_⟩
 ·show Sits _ F' β' (lvOf [] [LB.nils]) w'
  rw [lvOf_n1]
  refine⟨fun k=>?_,fun k k' h1 h2=>?_,fun _=>trivial,rfl,rfl,hX.Flt,hX.F0,hX.old,hX.ge,hX.glob,fun k hk=>?_,hX.asz,hX.oso⟩
  ·show (Vw.mk F' β' (upd (fun _=>LB.hole) 1000 .nils) w').blk _ k
   unfold Vw.blk upd
   by_cases hk:k=1000
   ·simp only [hk,if_true]
   ·simp only [hk,if_false]
  ·have h1':(upd (fun _=>LB.hole) 1000 .nils k).live=true:=h1
   unfold upd at h1';split at h1' <;> cases h1'
  ·exfalso
   apply hk
   show lvOf [] [] k=.hole
   rw [hlv]
 ·refine⟨?_,ho⟩
  show (Vw.mk F' β' (lvOf [] [LB.nils]) w').atLsl v 1000 0 0 sz
  rw [lvOf_n1]
  unfold Vw.atLsl upd
  simp only [if_true]
  exact⟨hv0,trivial,trivial⟩
theorem CallDo.frzL {c:Ctx}{f:FuncId}{xs us:List AV}{lv:Key→LB}{K:AV→List (Key × LB)→List Key→Nat→Prop}(κ' kh:Key) (Z:List (Key × TypeId × List CV)) {x:AV}(rds:List Key)
 (hc:CallsP c.P c.G f us x) (hx:x.pure=true) (hZ:∀ z∈Z,lv z.1=.cells true false z.2.1 z.2.2) (hZn:(Z.map (·.1)).Nodup) (hh:lv kh=.hole) (hlen:us.length=xs.length)
 (hargs:∀ i (h:i<xs.length) (h':i<us.length),(us[i].pure=true∧xs[i]=us[i])∨∃ ks,dArg (updL lv (frzW Z)) xs[i]=some (us[i],ks)∧∀ k∈ks,k∈Z.map (·.1))
 (hrd:∀ a∈xs,∀ k∈rdA (updL lv (frzW Z)) a,k∈rds∨k∈Z.map (·.1)) (hrh:kh∈rds)
 (hK:K x (frzW Z) rds κ'):CallDo c f xs lv K:=by
 have hkZ:∀ z∈Z,z.1≠kh:=fun z hz e=>by have:=hZ z hz;rw [e,hh] at this;cases this
 have key:=CallEff.gen (c:=c) (f:=f) (as:=xs) (lv:=lv) us Z [] [] kh [] [] [] x false rds hZ hZn (by simp) (fun z hz=>by simp) (by simp) hkZ rfl rfl rfl (by simp)
  (fun i h=>absurd h (Nat.not_lt_zero i)) (fun k hk=>by cases hk) hh (fun b hb=>by cases hb) (fun b hb=>by cases hb) (fun h=>by cases h) hlen
  (fun i p q=>?_) hrd hrh hc
 ·rw [AV.ren_pure hx] at key
  have e:frzW Z++backW (keyMap [] [] kh) false [] []++backW (keyMap [] [] kh) false [] []=frzW Z:=by simp [backW]
  rw [e] at key
  exact⟨x,_,rds,κ',key,hK⟩
 ·rcases hargs i p q with ⟨h1,h2⟩|⟨ks,h1,h2⟩
  ·exact .inl ⟨AV.flat1_pure h1,by rw [AV.ren_pure h1];exact h2⟩
  ·refine .inr ⟨ks,h1,fun k hk=>?_⟩
   obtain⟨z,hz,rfl⟩:=List.mem_map.1 (h2 k hk)
   have hn:((frzW Z).map (·.1)).Nodup:=by rw [frzW_keys];exact hZn
   exact⟨true,z.2.1,z.2.2,updL_mem hn (by simp only [frzW,List.mem_map];exact⟨z,hz,rfl⟩)⟩
end Go.Am
