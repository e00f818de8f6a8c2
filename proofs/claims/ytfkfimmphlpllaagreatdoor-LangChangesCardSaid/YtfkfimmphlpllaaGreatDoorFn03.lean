/- Helpers: an abstract machine for Go functions, and walks of functions of the program. -/
import Derived.Test.YtfkfimmphlpllaaGreatDoorFn02

set_option linter.all false
set_option maxHeartbeats 8000000
set_option maxRecDepth 100000
namespace Go.Am
variable {g:Key→Key}{x:AV}{f:FuncId}{c:Ctx}{s:aB}{P:Program}{lv lv':Key→LB}{cs cs0 cs1 cs':List CV}{own fz:Bool}{T T' e T0 T1 S:TypeId}{κ k:Key}{G:List (List DV)}{fn:Func}{args xs us:List AV}{code:Code}{off sz n κ0:Nat}{K:aB→Nat→Prop}{os:List Oper}{o:Oper}{fr:Nat→AV}{first caps:Array Operand}{rds:List Key}{lo hi:Option Operand}{l:Int}{r:Option Nat}{ops:Array Oper}{ν:List LB}
abbrev Xh:=@List.not_mem_nil
abbrev YN:=@Bool.and_true
abbrev Y3:=@List.mem_of_find?_eq_some
abbrev Zl:=@List.find?_eq_none
theorem aa.Ol(hf:P.funcs[f]?=some fn) (hb:fn.body=some code)
 (h:∀ z:Ev,AW ⟨P,G,z.w,z.F,z.W,fn.ntmps,fun _=>.hole,z.b⟩ none code ⟨fun t=>args.getD t .undef,fun _=>.hole⟩ 0 (aq ⟨P,G,z.w,z.F,z.W,fn.ntmps,fun _=>.hole,z.b⟩ fn x)) (hl:Nat.ble args.length fn.ntmps=true:=by kernel_rfl):aa P G f args x:=
 aa.KL hf hb (W9 hl) fun⟨_,_,w,F,W,_,q,b⟩ h1 h2 h3 h4=>by cases h1;cases h2;cases h3;cases h4;exact h ⟨w,F,W,fun _=>.hole,b⟩
def IL (D:List Key)(kh:Key):Key→Key:=fun k=>if k∈D then kh else k
theorem LB.MA {x:LB}(h:x.bU g=x) (hm:∀ own es,x=.map own es→∀ p∈es,∀ l,p.2≠.tup l):x.as x g:=by
 cases x with
 | cells own fz T cs=>
  have h':cs.map (CV.bU g)=cs:=by injection h
  exact⟨own,cs,rfl,h'.symm,fun h=>h⟩
 | map own es=>
  have h':es.map (fun p=>(p.1,p.2.lz g))=es:=by injection h
  exact⟨own,es,rfl,h'.symm,fun h=>h,hm own es rfl⟩
 | hole=>rfl
 | dead=>intro h;cases h
 | nils=>rfl
def JX (g:Key→Key)(lv:Key→LB):Prop:=∀ k,(lv k).bU g=lv k
theorem H6:JX g (fun _=>.hole):=fun _=>rfl
theorem Lr{b:LB}(h:JX g lv) (hb:b.bU g=b):JX g (aC lv k b):=fun k'=>by
 unfold aC;split
 ·exact hb
 ·exact h k'
@[simp] theorem LB.lI:(LB.cells own fz T cs).bU g=.cells own fz T (cs.map (CV.bU g)):=rfl
@[simp] theorem LB.Sq:LB.dead.bU g=.dead:=rfl
@[simp] theorem LB.RM:LB.nils.bU g=.nils:=rfl
@[simp] theorem CV.VJ{x:DV}:(CV.d x).bU g=.d x:=rfl
@[simp] theorem CV.SL{o:Nat}:(CV.ptr k o).bU g=.ptr (g k) o:=rfl
@[simp] theorem CV.TB{o l z:Nat}:(CV.aR k o l z).bU g=.aR (g k) o l z:=rfl
@[simp] theorem AV.VN{x:CV}:(AV.c x).bU g=.c (x.bU g):=rfl
@[simp] theorem AV.S7:(AV.agg cs).bU g=.agg (cs.map (CV.bU g)):=rfl
theorem Le.drop(D:List Key) (kh:Key) (l:List (Nat × AV)) (hc:c.lf=fun _=>.hole) (hD:∀ k∈D,lv' k=.hole) (hlv:∀ k,k ∉ D→lv k=lv' k) (hh:lv kh=.hole)
 (hm:ic lv') (hr:JX (IL D kh) lv') (hl:∀ p∈l,p.2.bY=true∧fr p.1=p.2∧p.2.bU (IL D kh)=p.2):Le c ⟨fr,lv⟩ ⟨bf l,lv'⟩:=by
 refine⟨IL D kh,fun k=>?_,fun k k' h1 h2 e=>?_,fun t=>?_,fun k hk=>absurd (by rw [hc]) hk⟩
 ·show (lv (IL D kh k)).as (lv' k) _
  by_cases hk:k∈D
  ·rw [hD k hk];have:IL D kh k=kh:=if_pos hk;rw [this];exact hh
  ·have:IL D kh k=k:=if_neg hk;rw [this,hlv k hk];exact LB.MA (hr k) (fun own es h=>absurd h (hm k own es))
 ·have n1:k ∉ D:=fun h=>by have h1':(lv' k).live=true:=h1;rw [hD k h] at h1';cases h1'
  have n2:k' ∉ D:=fun h=>by have h2':(lv' k').live=true:=h2;rw [hD k' h] at h2';cases h2'
  unfold IL at e;rwa [if_neg n1,if_neg n2] at e
 ·rcases jW (P:=fun t x=>x.bY=true∧fr t=x∧x.bU (IL D kh)=x) hl t with h|⟨h1,h2,h3⟩
  ·exact .inl h
  ·exact .inr ⟨h1,by show fr t=_;rw [h3];exact h2⟩
theorem Le.zM{l:List (Nat × AV)}(D:List Key) (kh:Key) (hc:c.lf=fun _=>.hole:=by exact rfl) (hD:∀ k∈D,lv' k=.hole:=by intro k hk;simp at hk;subst hk;simp [aC]) (hlv:∀ k,k ∉ D→lv k=lv' k:=by intro k hk;simp at hk;simp only [aC];(repeat (any_goals split)) <;> simp_all) (hh:lv kh=.hole:=by simp [aC])
 (hm:ic lv':=by repeat (first|exact aX|refine tF ?_ _ _ _ _ _|(refine oz ?_ _)|(refine zJ ?_ _ _ _)|(refine nX ?_ _)|simp)) (hr:JX (IL D kh) lv':=by repeat (first|exact H6|refine Lr ?_ (by simp [IL]))) (hl:∀ p∈l,p.2.bY=true∧fr p.1=p.2∧p.2.bU (IL D kh)=p.2:=by simp [IL]):Le c ⟨fr,lv⟩ ⟨bf l,lv'⟩:=Le.drop D kh l hc hD hlv hh hm hr hl
def Hf (fn:Fn)(fs cs:List AV):Option bZ:=match rY fs,rY cs with
 | some fr,some cr=>some (.c (y4 fn fr cr),[],[],True)
 | _,_=>none
theorem Al{fn:Fn}{v:Operand→AV} :
 bA P (.makeFunc fn first caps) ((Op.makeFunc fn first caps).operands.toList.map v) lv κ=Hf fn (first.toList.map v) (caps.toList.map v):=by
 have e:(Op.makeFunc fn first caps).operands.toList.map v=first.toList.map v++caps.toList.map v:=by simp [Op.operands]
 rw [e];simp only [bA,WW,W6,Yg,if_true];rw [List.take_left' (by simp),List.drop_left' (by simp)];rfl
section
variable {c:Ctx}{ps:List yC}{d:Option Tmp}{s:aB}{κ:Nat}{K:aB→Nat→Prop}{acc:List zw}{KD:aB→Nat→List zw→Prop}
@[simp] theorem Vs {fn:Fn}:aK c (⟨d,.makeFunc fn first caps,none⟩::ps) s κ K=cJ c ps d s κ K (Hf fn (first.toList.map (s.val c.G)) (caps.toList.map (s.val c.G))):=by
 rw [aP];simp only [dw,Al,cJ,gV];rfl
@[simp] theorem TK {fn:Fn}:aT c (⟨d,.makeFunc fn first caps,none⟩::ps) s κ acc KD=bO c ps d s κ acc KD (Hf fn (first.toList.map (s.val c.G)) (caps.toList.map (s.val c.G))):=by
 rw [aN];simp only [dw,Al,bO,gV];rfl
theorem y8 {f:FuncId}{xs fs cs:List AV}:GS c (some (f,fs,cs)) xs ps d s κ K=(aG c.P f=true∧fS c f (fs++xs++cs) ps d s κ K):=propext ⟨id,id⟩
theorem Ih{fs cs:List Ref}:b7 (.c (.func (.func f) fs cs))=some (f,fs.map sL,cs.map sL):=rfl
theorem HG {f:FuncId}{fs cs:List DV}:b7 (.c (.d (.func (.func f) fs cs)))=some (f,fs.map Li,cs.map Li):=rfl
end
theorem ag.R5{K:AV→List (Key × LB)→List Key→Nat→Prop}(κ' kh:Key) (own:Bool) (sel:List Key) (σ σ':List LB)(rds:List Key)
 (hc:aF c.P c.G f us σ (.ret x σ' [])) (hn:sel.Nodup) (hkh:kh ∉ sel) (hl1:sel.length=σ.length) (hl2:σ'.length=σ.length) (hb:σ.length≤1000)
 (hsel:∀ i (h:i<sel.length) (h':i<σ.length),(lv sel[i]).as σ[i] (aJ sel [] kh)) (hh:lv kh=.hole) (hpass:∀ b∈σ,b.pass=true) (hnh:∀ b,b∈σ++σ'→b≠.hole)
 (hown:own=true→∀ k∈sel,(lv k).Fy=true) (hlen:us.length=xs.length)
 (hargs:∀ i (h:i<xs.length) (h':i<us.length),us[i].bY=true∧xs[i]=us[i].bU (aJ sel [] kh))
 (hrd:∀ a∈xs,∀ k∈pE lv a,k∈rds) (hrh:kh∈rds)
 (hK:K (x.bU (aJ sel [] kh)) (cj (aJ sel [] kh) own sel σ') rds κ'):ag c f xs lv K:=by
 have key:=bS.gen (c:=c) (f:=f) (as:=xs) (lv:=lv) us [] sel [] kh σ σ' [] x own rds (fun z hz=>by cases hz) (by simp) (by simpa using hn) (fun z hz=>by cases hz) (by simpa using hkh) (fun z hz=>by cases hz) hl1 hl2 rfl hb hsel (fun k hk=>by cases hk) hh hpass (by simpa using hnh) hown hlen (fun i p q=>.inl (hargs i p q)) (fun a ha k hk=>.inl (hrd a ha k hk)) hrh hc;have e:dJ []++cj (aJ sel [] kh) own sel σ'++cj (aJ sel [] kh) own [] []=cj (aJ sel [] kh) own sel σ':=by simp [dJ,cj]
 rw [e] at key;exact⟨_,_,rds,κ',key,hK⟩
theorem ag.Jm{K:AV→List (Key × LB)→List Key→Nat→Prop}(κ' kh k0 k1:Key) (own:Bool)(rds:List Key)
 (hc:aF c.P c.G f us [.cells false false T0 cs0,.cells false false T1 cs1] (.ret x [.cells false false T0 cs0,.cells false false T1 cs1] [])) (hx:x.pure=true)
 (h0:lv k0=.cells own false T0 cs0) (h1:lv k1=.cells own false T1 cs1) (p0:∀ x∈cs0,x.pure=true) (p1:∀ x∈cs1,x.pure=true) (hk:k0≠k1) (hh:lv kh=.hole) (hlen:us.length=xs.length)
 (hargs:∀ i (h:i<xs.length) (h':i<us.length),us[i].bY=true∧xs[i]=us[i].bU (aJ [k0,k1] [] kh))
 (hrd:∀ a∈xs,∀ k∈pE lv a,k∈rds) (hrh:kh∈rds)
 (hK:K x [(k0,.cells own false T0 cs0),(k1,.cells own false T1 cs1)] rds κ'):ag c f xs lv K:=by
 have r0:∀ g,(LB.cells false false T0 cs0).bU g=.cells false false T0 cs0:=fun g=>LB.bV p0 g
 have r1:∀ g,(LB.cells false false T1 cs1).bU g=.cells false false T1 cs1:=fun g=>LB.bV p1 g
 have m0:∀ g,cs0.map (CV.bU g)=cs0:=fun g=>by have:=r0 g;simp only [LB.lI] at this;injection this
 have m1:∀ g,cs1.map (CV.bU g)=cs1:=fun g=>by have:=r1 g;simp only [LB.lI] at this;injection this
 refine ag.R5 κ' kh own [k0,k1] _ _ rds hc (by simp [hk]) ?_ rfl rfl (by simp) ?_ hh (by simp [LB.pass]) (by simp) ?_ hlen hargs hrd hrh ?_
 ·intro hm;simp only [WM,Xh,or_false] at hm;rcases hm with rfl|rfl
  ·rw [h0] at hh;cases hh
  ·rw [h1] at hh;cases hh
 ·intro i p q;have hi:i=0∨i=1:=by simp at p;omega
  rcases hi with rfl|rfl
  ·exact⟨own,cs0,h0,(m0 _).symm,fun h=>by cases h⟩
  ·exact⟨own,cs1,h1,(m1 _).symm,fun h=>by cases h⟩
 ·intro ho k hk';simp only [WM,Xh,or_false] at hk';rcases hk' with rfl|rfl
  ·rw [h0];exact ho
  ·rw [h1];exact ho
 ·rw [AV.bV hx]
  have e:cj (aJ [k0,k1] [] kh) own [k0,k1] [.cells false false T0 cs0,.cells false false T1 cs1]=[(k0,.cells own false T0 cs0),(k1,.cells own false T1 cs1)]:=by
   simp only [cj,List.zipWith_cons_cons,List.zipWith_nil_left,r0,r1,LB.fix,Bool.false_or]
  rw [e];exact hK
theorem CQ (b b':LB):bz [b,b'] []=aC (aC (fun _=>.hole) 0 b) 1 b':=by
 funext k;unfold bz aC
 by_cases h1:k=1
 ·subst h1;rfl
 ·by_cases h0:k=0
  ·subst h0;rfl
  ·rw [if_neg h1,if_neg h0];split
   ·rw [cW];rcases k with _|_|k
    ·exact absurd rfl h0
    ·exact absurd rfl h1
    ·simp
   ·rfl
def yu (c:Ctx)(fn:Func)(x:AV)(b0 b1:LB):Ex→aB→Nat→Prop
 | .normal,s,_|.ret,s,_=>∃ l kh,(∀ p∈l,p.2.pure=true∧s.fr p.1=p.2)∧s.lv kh=.hole∧s.lv 0=b0∧s.lv 1=b1∧cH c.P ⟨bf l,fun _=>.hole⟩ fn.results.toList=some x
 | _,_,_=>False
theorem MD{l:List (Nat × AV)}{rs:List ResultVar}(hr:∀ r∈rs,∃ t,r=.tmp t):cH P ⟨bf l,lv⟩ rs=cH P ⟨bf l,lv'⟩ rs:=by
 have h1:∀ rs:List ResultVar,(∀ r∈rs,∃ t,r=.tmp t)→iK P ⟨bf l,lv⟩ rs=iK P ⟨bf l,lv'⟩ rs:=by
  intro rs
  induction rs with
  | nil=>intro _;rfl
  | cons r rs ih=>
   intro h;obtain⟨t,rfl⟩:=h r (by simp);have:=ih fun r hr=>h r (by simp [hr])
   simp only [iK,ki,this]
 unfold cH;rw [h1 rs hr]
theorem aF.OT(hf:P.funcs[f]?=some fn) (hb:fn.body=some code) (hl:args.length≤fn.ntmps)
 (hr:∀ r∈fn.results.toList,∃ t,r=.tmp t) (p0:∀ x∈cs0,x.pure=true) (p1:∀ x∈cs1,x.pure=true)
 (h:∀ c:Ctx,c.P=P→c.G=G→c.n=fn.ntmps→AW c none code ⟨fun t=>args.getD t .undef,aC (aC (fun _=>.hole) 0 (.cells false false T0 cs0)) 1 (.cells false false T1 cs1)⟩ 1000 (yu c fn x (.cells false false T0 cs0) (.cells false false T1 cs1))) :
 aF P G f args [.cells false false T0 cs0,.cells false false T1 cs1] (.ret x [.cells false false T0 cs0,.cells false false T1 cs1] []):=by
 have m0:∀ g,cs0.map (CV.bU g)=cs0:=fun g=>by have:=LB.bV (T:=T0) (own:=false) (fz:=false) p0 g;simp only [LB.lI] at this;injection this
 have m1:∀ g,cs1.map (CV.bU g)=cs1:=fun g=>by have:=LB.bV (T:=T1) (own:=false) (fz:=false) p1 g;simp only [LB.lI] at this;injection this
 refine aF.nc hf hb hl fun c h1 h2 h3 h4=>?_;rw [CQ] at h4 ⊢;refine AW.mono (h c h1 h2 h3) fun e s κ hq=>?_
 have fin:(∃ l kh,(∀ p∈l,p.2.pure=true∧s.fr p.1=p.2)∧s.lv kh=.hole∧s.lv 0=.cells false false T0 cs0∧s.lv 1=.cells false false T1 cs1∧cH c.P ⟨bf l,fun _=>.hole⟩ fn.results.toList=some x) →
  ∃ s2 g,ef c s s2 g∧s2.lv=bz [.cells false false T0 cs0,.cells false false T1 cs1] []∧cH c.P s2 fn.results.toList=some x:=by
  rintro⟨l,kh,g1,g2,g3,g4,g5⟩;refine⟨⟨bf l,aC (aC (fun _=>.hole) 0 (.cells false false T0 cs0)) 1 (.cells false false T1 cs1)⟩,fun k=>if k=0 then 0 else if k=1 then 1 else kh,⟨fun k=>?_,fun k k' e1 e2 e=>?_,fun t=>?_,fun k hk=>?_⟩,by rw [CQ],by rw [MD hr (lv':=fun _=>.hole)];exact g5⟩
  ·show (s.lv _).as (aC _ 1 _ k) _
   by_cases hk1:k=1
   ·subst hk1;exact⟨false,cs1,g4,(m1 _).symm,fun h=>h⟩
   ·by_cases hk0:k=0
    ·subst hk0;exact⟨false,cs0,g3,(m0 _).symm,fun h=>h⟩
    ·simp only [aC,hk0,hk1,if_false];exact g2
  ·have q:∀ k,(aC (aC (fun _=>LB.hole) 0 (.cells false false T0 cs0)) 1 (.cells false false T1 cs1) k).live=true→k=0∨k=1:=by
    intro k hk;unfold aC at hk
    by_cases hk1:k=1
    ·exact .inr hk1
    ·by_cases hk0:k=0
     ·exact .inl hk0
     ·rw [if_neg hk1,if_neg hk0] at hk;cases hk
   rcases q k e1 with rfl|rfl <;> rcases q k' e2 with rfl|rfl <;> simp_all
  ·rcases jW (P:=fun t x=>x.pure=true∧s.fr t=x) g1 t with h|⟨h1,h2⟩
   ·exact .inl h
   ·exact .inr ⟨AV.gU h1,by rw [AV.bV h1];exact h2⟩
  ·right;rw [h4] at hk;show (if k=0 then 0 else if k=1 then 1 else kh)=k
   by_cases hk1:k=1
   ·subst hk1;rfl
   ·by_cases hk0:k=0
    ·subst hk0;rfl
    ·exfalso;apply hk;simp [aC,hk0,hk1]
 cases e with
 | normal=>exact fin hq
 | ret=>exact fin hq
 | exit id=>exact hq.elim
 | goto l=>exact hq.elim
 | panic d=>exact hq.elim
theorem aF.Vc(hf:P.funcs[f]?=some fn) (hb:fn.body=some code) (p0:∀ x∈cs0,x.pure=true) (p1:∀ x∈cs1,x.pure=true)
 (hr:∀ r∈fn.results.toList,∃ t,r=.tmp t)
 (h:∀ z:Ev,AW ⟨P,G,z.w,z.F,z.W,fn.ntmps,z.q,z.b⟩ none code ⟨fun t=>args.getD t .undef,aC (aC (fun _=>.hole) 0 (.cells false false T0 cs0)) 1 (.cells false false T1 cs1)⟩ 1000 (yu ⟨P,G,z.w,z.F,z.W,fn.ntmps,z.q,z.b⟩ fn x (.cells false false T0 cs0) (.cells false false T1 cs1))) (hl:Nat.ble args.length fn.ntmps=true:=by kernel_rfl) :
 aF P G f args [.cells false false T0 cs0,.cells false false T1 cs1] (.ret x [.cells false false T0 cs0,.cells false false T1 cs1] []):=
 aF.OT hf hb (W9 hl) hr p0 p1 fun⟨_,_,w,F,W,_,q,b⟩ h1 h2 h3=>by cases h1;cases h2;cases h3;exact h ⟨w,F,W,q,b⟩
theorem yu.tmp{t:Nat}{κ:Nat}{b0 b1:LB}(hr:fn.results=#[.tmp t]) (kh:Key) (hx:s.fr t=x) (hp:x.pure=true) (hh:s.lv kh=.hole) (h0:s.lv 0=b0) (h1:s.lv 1=b1) (hn:x.cu=true):yu c fn x b0 b1 .ret s κ:=by
 refine⟨[(t,x)],kh,by simp [hp,hx],hh,h0,h1,?_⟩;rw [hr];simp [cH,iK,ki,bf]
section
variable {c:Ctx}{r:Option Nat}{ops:Array Oper}{o:Oper}{s0:aB}
theorem cM.OJ{us:List (Key × LB)}(hd:∀ d,o.dst=some d→d<c.n) (hw:dM ops o.guard s0.fr=some true)
 (h:gL c.P o.op (o.op.operands.toList.map (s0.val c.G)) s0.lv κ=some (x,us,rds)):cM c r ops o s0 ⟨x,us,rds⟩:=by
 refine cM.nu hw (fun cl hcl=>?_) (fun s h1 h2=>?_)
 ·rw [hcl] at h;simp [gL] at h
 ·have hl:=uy h (show Agree s0.lv s.lv us rds from h2);exact Ag hd rfl (Xj h1) hl
theorem BM{x:Operand}(hd:∀ d,o.dst=some d→d<c.n) (ho:o.op=.slice T x lo hi none)
 (hx:s.val c.G x=.c (.ptr κ off)) (hk:s.lv κ=.cells own fz T' cs) (hT:sZ c.P T=some (n,e,sz)) (hlo:cQ (lo.map (s.val c.G)) 0=some l) (hhi:cQ (hi.map (s.val c.G)) n=some l)
 (h0:0≤l) (h2:l≤n):bT c o s (s.put o.dst (.c (.d (.sl [])))):=
 bT.aU hd fun F β a w hs=>by
  have hv:=hx ▸ hs.val x;obtain⟨hv,_⟩:=hv;simp only [Vw.cT,hk] at hv;have hr:=iE hT (b:=β κ) (o:=off) (gE (fun x=>hs.val x) hlo) (gE (fun x=>hs.val x) hhi) h0 (Int.le_refl _) h2 w;refine⟨_,by simp only [execOp,ho,Yh,hv];simp [hr];rfl,?_,rfl⟩;have e1:(if n=l.toNat then (⟨β κ,off,none⟩:Addr) else ⟨β κ,off+l.toNat*sz,none⟩)=⟨β κ,if n=l.toNat then off else off+l.toNat*sz,none⟩:=by split <;> rfl
  rw [e1];exact Rd.sl (β κ) _ (n - l.toNat) sz [] (fun _ _=>.nilIface) (by simp) (by simp) (by simp) (by simp) (by simp) (by simp)
theorem cM.Ey{x:Operand}(hd:∀ d,o.dst=some d→d<c.n) (hw:dM ops o.guard s0.fr=some true) (ho:o.op=.slice T x lo hi none)
 (hx:s0.val c.G x=.c (.ptr κ off)) (hk:s0.lv κ=.cells own fz T' cs) (hT:sZ c.P T=some (n,e,sz)) (hlo:cQ (lo.map (s0.val c.G)) 0=some l) (hhi:cQ (hi.map (s0.val c.G)) n=some l)
 (h0:0≤l) (h2:l≤n):cM c r ops o s0 ⟨.c (.d (.sl [])),[],[κ]⟩:=by
 refine cM.nu hw (fun cl hcl=>by rw [ho] at hcl;cases hcl) (fun s h1 h3=>?_);have e1:s.val c.G x=s0.val c.G x:=h1 x (by rw [ho];simp [Op.operands])
 have e2:lo.map (s.val c.G)=lo.map (s0.val c.G):=by
  cases lo with
  | none=>rfl
  | some y=>exact congrArg some (h1 y (by rw [ho];simp [Op.operands]))
 have e3:hi.map (s.val c.G)=hi.map (s0.val c.G):=by
  cases hi with
  | none=>rfl
  | some y=>exact congrArg some (h1 y (by rw [ho];simp [Op.operands]))
 have e4:s.lv κ=s0.lv κ:=h3.1 κ (by simp);exact BM hd ho (e1.trans hx) (e4.trans hk) hT (by rw [e2];exact hlo) (by rw [e3];exact hhi) h0 h2
end
def nq (c:Ctx)(r:Option Nat)(ops:Array Oper)(os:List Oper)(s:aB)(κ:Nat)(K:aB→Nat→Prop):Prop:=
 ∃ es s' κ',fI c r ops os es s s'∧K s' κ'
section
variable {c:Ctx}{r:Option Nat}{ops:Array Oper}
theorem fI.append {os2:List Oper}{es2:List Fx}{s2:aB}:∀ {os1:List Oper}{es1:List Fx}{s s1:aB},fI c r ops os1 es1 s s1→fI c r ops os2 es2 s1 s2→fI c r ops (os1++os2) (es1++es2) s s2
 | [],[],s,s1,h,h2=>by have h:s1=s:=h;subst h;exact h2
 | o::os,e::es,s,s1,h,h2=>⟨h.1,fI.append h.2 h2⟩
 | [],_::_,_,_,h,_=>h.elim
 | _::_,[],_,_,h,_=>h.elim
theorem nq.done{κ:Nat}(h:K s κ):nq c r ops [] s κ K:=⟨[],s,κ,rfl,h⟩
theorem nq.run{κ:Nat}(n:Nat) (hd:cz c.n (os.take n)=true) (h:aK c (ke (ops.toList.map (·.dst)) (os.take n)) s κ fun s' κ'=>nq c r ops (os.drop n) s' κ' K):nq c r ops os s κ K:=by
 rw [lS] at h;obtain⟨es,s',κ',h1,es2,s2,κ2,h2,h3⟩:=fM.chain (r:=r) hd h;refine⟨es++es2,s2,κ2,?_,h3⟩;have:=fI.append h1 h2
 rwa [Ys] at this
theorem nq.Sf{κ:Nat}{us:List (Key × LB)}(κ':Nat) (he:cM c r ops o s ⟨x,us,rds⟩) (h:nq c r ops os (aB.put ⟨s.fr,aS s.lv us⟩ o.dst x) κ' K):nq c r ops (o::os) s κ K:=by
 obtain⟨es,s',κ2,h1,h2⟩:=h;exact⟨⟨x,us,rds⟩::es,s',κ2,⟨he,h1⟩,h2⟩
theorem AW.wj{κ:Nat}{Q:Ex→aB→Nat→Prop}{id:Nat}(h:nq c r ops ops.toList s κ fun s' κ'=>Q .normal s' κ'):AW c r (.region id ops false) s κ Q:=by
 intro F β a w hs;obtain⟨es,s',κ',h1,h2⟩:=h;exact h1.region (fun F' β' a' w' h'=>⟨.normal,s',κ',F',β',h2,h',rfl⟩) hs
end
theorem nq.gL{κ:Nat}{us:List (Key × LB)}(κ':Nat) (hd:cz c.n [o]=true) (hg:o.guard=none)
 (h:Am.gL c.P o.op (o.op.operands.toList.map (s.val c.G)) s.lv κ=some (x,us,rds)) (hK:nq c r ops os (aB.put ⟨s.fr,aS s.lv us⟩ o.dst x) κ' K):nq c r ops (o::os) s κ K:=by
 refine nq.Sf κ' (cM.OJ (fun d hd'=>?_) (by rw [hg];rfl) h) hK;simp only [cz,Ym,List.all_nil,YN,hd'] at hd;simpa using hd
theorem nq.Ey(κ':Nat){x:Operand}
 (hd:cz c.n [o]=true) (hg:o.guard=none) (ho:o.op=.slice T x lo hi none)
 (hx:s.val c.G x=.c (.ptr κ off)) (hk:s.lv κ=.cells own fz T' cs) (hT:sZ c.P T=some (n,e,sz)) (hlo:cQ (lo.map (s.val c.G)) 0=some l) (hhi:cQ (hi.map (s.val c.G)) n=some l)
 (h0:0≤l) (h2:l≤n) (hK:nq c r ops os (aB.put ⟨s.fr,aS s.lv []⟩ o.dst (.c (.d (.sl [])))) κ' K):nq c r ops (o::os) s κ0 K:=by
 refine nq.Sf κ' (cM.Ey (fun d hd'=>?_) (by rw [hg];rfl) ho hx hk hT hlo hhi h0 h2) hK;simp only [cz,Ym,List.all_nil,YN,hd'] at hd;simpa using hd
def c7 (m:List (Key × Key × LB))(kh:Key):Key→Key:=fun k=>match m.find? (fun e=>e.1 == k) with
 | some e=>e.2.1
 | none=>kh
@[simp] theorem LB.Lx {o f:Bool}:(LB.cells o f T cs').as (.cells own fz T' cs) g↔(f=fz∧T=T'∧cs'=cs.map (CV.bU g)∧(own=true→o=true)):=by
 constructor
 ·rintro⟨own',cs2,h1,h2,h3⟩;injection h1 with e1 e2 e3 e4
  subst e1;subst e4;exact⟨e2,e3,h2,h3⟩
 ·rintro⟨rfl,rfl,h2,h3⟩;exact⟨o,cs',rfl,h2,h3⟩
@[simp] theorem LB.Tw {x:LB}:x.as .nils g↔x=.nils:=Iff.rfl
abbrev LB.like (x y:LB)(g:Key→Key):Prop:=x.as y g
@[simp] theorem LB.mF {o f:Bool}:(LB.cells o f T cs').like (.cells own fz T' cs) g↔(f=fz∧T=T'∧cs'=cs.map (CV.bU g)∧(own=true→o=true)):=LB.Lx
@[simp] theorem LB.Qo {x:LB}:x.like .nils g↔x=.nils:=Iff.rfl
theorem IC {m:List (Key × Key × LB)}(hn:(m.map (·.1)).Nodup) :
 aS (fun _=>LB.hole) (m.map fun e=>(e.1,e.2.2)) k=match m.find? (fun e=>e.1 == k) with|some e=>e.2.2|none=>.hole:=by
 cases h:m.find? (fun e=>e.1 == k) with
 | some e=>
  have h1:=Y3 h;have h2:=List.find?_some h;simp only [beq_iff_eq] at h2;subst h2;have hn':((m.map fun e=>(e.1,e.2.2)).map (·.1)).Nodup:=by rw [Xc];exact hn
  exact js hn' (List.mem_map.2 ⟨e,h1,rfl⟩)
 | none=>
  rw [Zl] at h;rw [bX];intro hk;simp only [Xc,Xp,Function.comp] at hk;obtain⟨e,he,rfl⟩:=hk;exact h e he (by simp)
theorem ef.keys(m:List (Key × Key × LB)) (kh:Key) (l:List (Nat × AV)) (hlv':lv'=aS (fun _=>.hole) (m.map fun e=>(e.1,e.2.2))) (hc:∀ k,c.lf k≠.hole→lv' k=.dead∨c7 m kh k=k)
 (hn1:(m.map (·.1)).Nodup) (hn2:(m.map (·.2.1)).Nodup) (hh:s.lv kh=.hole) (has:∀ e∈m,(s.lv e.2.1).as e.2.2 (c7 m kh)) (hl:∀ p∈l,p.2.bY=true∧s.fr p.1=p.2.bU (c7 m kh)):ef c s ⟨bf l,lv'⟩ (c7 m kh):=by
 have hk:∀ k,lv' k=match m.find? (fun e=>e.1 == k) with|some e=>e.2.2|none=>.hole:=fun k=>by rw [hlv',IC hn1]
 refine⟨fun k=>?_,fun k k' h1 h2 e=>?_,fun t=>?_,hc⟩
 ·show (s.lv (c7 m kh k)).as (lv' k) _;rw [hk]
  cases h:m.find? (fun e=>e.1 == k) with
  | some e=>
   have e1:c7 m kh k=e.2.1:=by unfold c7;rw [h]
   rw [e1];exact has e (Y3 h)
  | none=>
   have e1:c7 m kh k=kh:=by unfold c7;rw [h]
   rw [e1];exact hh
 ·have h1':(lv' k).live=true:=h1;have h2':(lv' k').live=true:=h2;rw [hk] at h1' h2'
  cases f1:m.find? (fun e=>e.1 == k) with
  | none=>rw [f1] at h1';cases h1'
  | some e1=>
   cases f2:m.find? (fun e=>e.1 == k') with
   | none=>rw [f2] at h2';cases h2'
   | some e2=>
    have g1:c7 m kh k=e1.2.1:=by unfold c7;rw [f1]
    have g2:c7 m kh k'=e2.2.1:=by unfold c7;rw [f2]
    rw [g1,g2] at e;have i1:=Y3 f1;have i2:=Y3 f2;have j1:=List.find?_some f1;have j2:=List.find?_some f2;simp only [beq_iff_eq] at j1 j2
    have:e1=e2:=by
     obtain⟨a,ha,rfl⟩:=List.mem_iff_getElem.1 i1;obtain⟨b,hb,rfl⟩:=List.mem_iff_getElem.1 i2
     have hab:a=b:=by
      refine (List.getElem_inj (xs:=m.map (·.2.1)) (i:=a) (j:=b) (h₀:=by simpa using ha) (h₁:=by simpa using hb) hn2).1 ?_;simpa using e
     subst hab;rfl
    rw [← j1,← j2,this]
 ·rcases jW (P:=fun t x=>x.bY=true∧s.fr t=x.bU (c7 m kh)) hl t with h|⟨h1,h2⟩
  ·exact .inl h
  ·exact .inr ⟨h1,h2⟩
theorem Le.keys(m:List (Key × Key × LB)) (kh:Key) (l:List (Nat × AV)) (hlv':lv'=aS (fun _=>.hole) (m.map fun e=>(e.1,e.2.2))) (hc:c.lf=fun _=>.hole)
 (hn1:(m.map (·.1)).Nodup) (hn2:(m.map (·.2.1)).Nodup) (hh:lv kh=.hole) (has:∀ e∈m,(lv e.2.1).like e.2.2 (c7 m kh)) (hl:∀ p∈l,p.2.bY=true∧fr p.1=p.2.bU (c7 m kh)):Le c ⟨fr,lv⟩ ⟨bf l,lv'⟩:=
 ⟨_,ef.keys (s:=⟨fr,lv⟩) m kh l hlv' (fun k hk=>absurd (by rw [hc]) hk) hn1 hn2 hh has hl⟩
theorem ag.A4{K:AV→List (Key × LB)→List Key→Nat→Prop}(κ' kh:Key) (nk:List Key) (ν:List LB)(hc:aF c.P c.G f xs [] (.ret x [] ν)) (hxs:∀ a∈xs,a.pure=true)
 (hn:nk.Nodup) (hkh:kh ∉ nk) (hl:nk.length=ν.length) (hnk:∀ k∈nk,lv k=.hole) (hh:lv kh=.hole) (hnh:∀ b∈ν,b≠.hole)
 (hK:K (x.bU (aJ [] nk kh)) (cj (aJ [] nk kh) true nk ν) [kh] κ'):ag c f xs lv K:=by
 have key:=bS.gen (c:=c) (f:=f) (as:=xs) (lv:=lv) xs [] [] nk kh [] [] ν x true [kh] (fun z hz=>by cases hz) (by simp) (by simpa using hn) (fun z hz=>by cases hz) (by simpa using hkh) (fun z hz=>by cases hz) rfl rfl hl (by simp) (fun i h=>absurd h (Xf i)) hnk hh (fun b hb=>by cases hb) (by simpa using hnh) (fun _ k hk=>by cases hk) rfl
  (fun i p q=>.inl ⟨AV.gU (hxs _ (aW q)),(AV.bV (hxs _ (aW q)) _).symm⟩) (fun a ha k hk=>by rw [lR (hxs a ha)] at hk;cases hk) (by simp) hc
 have e:dJ []++cj (aJ [] nk kh) true [] []++cj (aJ [] nk kh) true nk ν=cj (aJ [] nk kh) true nk ν:=by simp [dJ,cj]
 rw [e] at key;exact⟨_,_,[kh],κ',key,hK⟩
theorem DY (ν:List LB)(k:Nat)(h:∀ j,j<ν.length→k≠1000+j):bz [] ν k=.hole:=by
 unfold bz
 by_cases hlt:k<1000
 ·rw [if_pos hlt];rfl
 ·rw [if_neg hlt,cW];intro hj;exact h _ hj (Nat.add_sub_of_le (Yr hlt)).symm
theorem mD (a:LB):bz [] [a]=aC (fun _=>.hole) 1000 a:=by
 refine funext fun (k:Nat)=>?_;unfold aC
 by_cases h:k=1000
 ·subst h;rfl
 ·rw [if_neg h];refine DY _ k fun j hj=>?_;have:j=0:=by simp at hj;omega
  omega
theorem jg (a b d e:LB):bz [] [a,b,d,e]=aC (aC (aC (aC (fun _=>.hole) 1000 a) 1001 b) 1002 d) 1003 e:=by
 refine funext fun (k:Nat)=>?_;unfold aC
 by_cases h3:k=1003
 ·subst h3;rfl
 ·by_cases h2:k=1002
  ·subst h2;rfl
  ·by_cases h1:k=1001
   ·subst h1;rfl
   ·by_cases h:k=1000
    ·subst h;rfl
    ·rw [if_neg h3,if_neg h2,if_neg h1,if_neg h];refine DY _ k fun j hj=>?_;have:j<4:=by simpa using hj
     omega
def Q3 (c:Ctx)(fn:Func)(x:AV)(ν:List LB):Ex→aB→Nat→Prop
 | .normal,s,_|.ret,s,_=>∃ (m:List (Key × Key × LB)) (kh:Key),bz [] ν=aS (fun _=>.hole) (m.map fun e=>(e.1,e.2.2))∧(m.map (·.1)).Nodup∧(m.map (·.2.1)).Nodup∧s.lv kh=.hole ∧
  (∀ e∈m,(s.lv e.2.1).like e.2.2 (c7 m kh))∧x.bY=true∧cH c.P s fn.results.toList=some (x.bU (c7 m kh))
 | _,_,_=>False
def TT (c:Ctx)(fn:Func)(x:AV)(σ' ν:List LB):Ex→aB→Nat→Prop
 | .normal,s,_|.ret,s,_=>∃ (m:List (Key × Key × LB)) (kh:Key),bz σ' ν=aS (fun _=>.hole) (m.map fun e=>(e.1,e.2.2))∧(m.map (·.1)).Nodup∧(m.map (·.2.1)).Nodup∧s.lv kh=.hole ∧
  (∀ k,c.lf k≠.hole→bz σ' ν k=.dead∨c7 m kh k=k)∧(∀ e∈m,(s.lv e.2.1).like e.2.2 (c7 m kh))∧x.bY=true∧cH c.P s fn.results.toList=some (x.bU (c7 m kh))
 | _,_,_=>False
theorem aF.O6{σ σ':List LB}(hf:P.funcs[f]?=some fn) (hb:fn.body=some code) (hl:args.length≤fn.ntmps)
 (h:∀ c:Ctx,c.P=P→c.G=G→c.n=fn.ntmps→c.lf=bz σ []→AW c none code ⟨fun t=>args.getD t .undef,bz σ []⟩ 1000 (TT c fn x σ' ν)):aF P G f args σ (.ret x σ' ν):=by
 intro F β w vs hS hvl hv;refine xe hf hb hl hS hvl hv (h _ rfl rfl rfl rfl) (fun e s κ hq=>by cases e <;> first|exact .inl rfl|exact .inr rfl|exact hq.elim) fun e s' κ F' β' a' w' hq hX0=>?_;obtain⟨m,kh,g1,g2,g3,g4,g8,g5,g6,g7⟩:∃ (m:List (Key × Key × LB)) (kh:Key),bz σ' ν=aS (fun _=>.hole) (m.map fun e=>(e.1,e.2.2))∧(m.map (·.1)).Nodup∧(m.map (·.2.1)).Nodup∧s'.lv kh=.hole∧(∀ k,bz σ [] k≠.hole→bz σ' ν k=.dead∨c7 m kh k=k)∧(∀ e∈m,(s'.lv e.2.1).like e.2.2 (c7 m kh))∧x.bY=true∧cH P s' fn.results.toList=some (x.bU (c7 m kh)):=by cases e <;> first|exact hq|exact hq.elim
 obtain⟨v,h4,hav⟩:=rT hX0 g7;have hco:ef { cG P G w F β (bz σ []) with n:=fn.ntmps } s' ⟨bf [],bz σ' ν⟩ (c7 m kh):=ef.keys m kh [] g1 g8 g2 g3 g4 g5 (fun p hp=>by cases hp);have hs2:=hX0.coarse hco;have hR:(Vw.mk F' β' s'.lv w').Ren (Vw.mk F' (fun k=>β' (c7 m kh k)) (bz σ' ν) w') (c7 m kh):=⟨rfl,rfl,fun _ _=>rfl,fun k=>LB.wU (hco.as k)⟩
 refine⟨hX0.defers,v,h4,v,F',fun k=>β' (c7 m kh k),rfl,?_,hR.av g6 hav⟩;exact hs2.vF
theorem aF.Pw(hf:P.funcs[f]?=some fn) (hb:fn.body=some code) (hl:args.length≤fn.ntmps)
 (h:∀ c:Ctx,c.P=P→c.G=G→c.n=fn.ntmps→c.lf=(fun _=>.hole)→AW c none code ⟨fun t=>args.getD t .undef,fun _=>.hole⟩ 0 (Q3 c fn x ν)):aF P G f args [] (.ret x [] ν):=by
 refine aF.O6 hf hb hl fun c h1 h2 h3 h4=>?_;rw [gp] at h4 ⊢;refine (AW.mono (fun F β a w hs=>h c h1 h2 h3 h4 F β a w hs) fun e s κ hq=>?_:AW c none code _ 1000 _)
 cases e <;> first|exact hq.elim|(obtain⟨m,kh,g1,g2,g3,g4,g5,g6,g7⟩:=hq;exact⟨m,kh,g1,g2,g3,g4,fun k hk=>absurd (by rw [h4]) hk,g5,g6,g7⟩)
theorem aF.Pv(hf:P.funcs[f]?=some fn) (hb:fn.body=some code)
 (h:∀ z:Ev,AW ⟨P,G,z.w,z.F,z.W,fn.ntmps,fun _=>.hole,z.b⟩ none code ⟨fun t=>args.getD t .undef,fun _=>.hole⟩ 0 (Q3 ⟨P,G,z.w,z.F,z.W,fn.ntmps,fun _=>.hole,z.b⟩ fn x ν)) (hl:Nat.ble args.length fn.ntmps=true:=by kernel_rfl):aF P G f args [] (.ret x [] ν):=
 aF.Pw hf hb (W9 hl) fun⟨_,_,w,F,W,_,q,b⟩ h1 h2 h3 h4=>by cases h1;cases h2;cases h3;cases h4;exact h ⟨w,F,W,fun _=>.hole,b⟩
theorem aF.vL(h:aa P G f args (.c (.d .nilsl))):aF P G f args [] (.ret (.c (.aR 1000 0 0 sz)) [] [.nils]):=by
 intro F β w vs hS hl hv;refine (h F β w vs hS hl hv).mono fun e w' he=>?_;obtain⟨v,F',β',rfl,hX,hav⟩:=he;have hlv:bz [] []=fun _=>LB.hole:=gp
 obtain⟨hr,ho⟩:=hav
 have hv0:v=.slice none 0 0:=by
  generalize hd:DV.nilsl=d at hr
  cases hr <;> first|rfl|cases hd
 refine⟨v,F',β',rfl,?_,?_⟩
 ·show cw _ F' β' (bz [] [LB.nils]) w';rw [mD];refine⟨fun k=>?_,fun k k' h1 h2=>?_,fun _=>trivial,rfl,rfl,hX.lB,hX.F0,hX.old,hX.ge,hX.nP,fun k hk=>?_,hX.Fq,hX.BT⟩
  ·show (Vw.mk F' β' (aC (fun _=>LB.hole) 1000 .nils) w').bF _ k;unfold Vw.bF aC
   by_cases hk:k=1000
   ·simp only [hk,if_true]
   ·simp only [hk,if_false]
  ·have h1':(aC (fun _=>LB.hole) 1000 .nils k).live=true:=h1;unfold aC at h1';split at h1' <;> cases h1'
  ·exfalso;apply hk;show bz [] [] k=.hole;rw [hlv]
 ·refine⟨?_,ho⟩;show (Vw.mk F' β' (bz [] [LB.nils]) w').cq v 1000 0 0 sz;rw [mD];unfold Vw.cq aC;simp only [if_true];exact⟨hv0,trivial,trivial⟩
theorem ag.Ra{K:AV→List (Key × LB)→List Key→Nat→Prop}(κ' kh:Key) (Z:List (Key × TypeId × List CV))(rds:List Key)
 (hc:aa c.P c.G f us x) (hx:x.pure=true) (hZ:∀ z∈Z,lv z.1=.cells true false z.2.1 z.2.2) (hZn:(Z.map (·.1)).Nodup) (hh:lv kh=.hole) (hlen:us.length=xs.length)
 (hargs:∀ i (h:i<xs.length) (h':i<us.length),(us[i].pure=true∧xs[i]=us[i])∨∃ ks,eC (aS lv (dJ Z)) xs[i]=some (us[i],ks)∧∀ k∈ks,k∈Z.map (·.1))
 (hrd:∀ a∈xs,∀ k∈pE (aS lv (dJ Z)) a,k∈rds∨k∈Z.map (·.1)) (hrh:kh∈rds)
 (hK:K x (dJ Z) rds κ'):ag c f xs lv K:=by
 have hkZ:∀ z∈Z,z.1≠kh:=fun z hz e=>by have:=hZ z hz;rw [e,hh] at this;cases this
 have key:=bS.gen (c:=c) (f:=f) (as:=xs) (lv:=lv) us Z [] [] kh [] [] [] x false rds hZ hZn (by simp) (fun z hz=>by simp) (by simp) hkZ rfl rfl rfl (by simp)
  (fun i h=>absurd h (Xf i)) (fun k hk=>by cases hk) hh (fun b hb=>by cases hb) (fun b hb=>by cases hb) (fun h=>by cases h) hlen
  (fun i p q=>?_) hrd hrh hc
 ·rw [AV.bV hx] at key;have e:dJ Z++cj (aJ [] [] kh) false [] []++cj (aJ [] [] kh) false [] []=dJ Z:=by simp [cj]
  rw [e] at key;exact⟨x,_,rds,κ',key,hK⟩
 ·rcases hargs i p q with ⟨h1,h2⟩|⟨ks,h1,h2⟩
  ·exact .inl ⟨AV.gU h1,by rw [AV.bV h1];exact h2⟩
  ·refine .inr ⟨ks,h1,fun k hk=>?_⟩;obtain⟨z,hz,rfl⟩:=List.mem_map.1 (h2 k hk);have hn:((dJ Z).map (·.1)).Nodup:=by rw [gm];exact hZn
   exact⟨true,z.2.1,z.2.2,js hn (by simp only [dJ,Xp];exact⟨z,hz,rfl⟩)⟩
theorem MN (σ ν:List LB)(k:Nat):bz σ ν k=if k<1000 then σ.getD k .hole else ν.getD (k - 1000) .hole:=rfl
theorem Ls (σ ν:List LB)(b:LB):bz σ (ν++[b])=aC (bz σ ν) (1000+ν.length) b:=by
 refine funext fun (k:Nat)=>?_;unfold aC;simp only [MN]
 by_cases h2:k<1000
 ·rw [if_pos h2,if_pos h2,if_neg (by omega)]
 ·rw [if_neg h2,if_neg h2]
  by_cases hk:k=1000+ν.length
  ·subst hk;rw [if_pos rfl,WO,Yu (by omega)];simp
  ·rw [if_neg hk]
   by_cases h3:k - 1000<ν.length
   ·rw [WO,Zr h3,← WO]
   ·rw [cW (by simp;omega),cW (by omega)]
theorem PV(w:World) (a:Addr) (cap:Nat) (n:Int) (h:w.cell? (a.add 0)=some (.int .u8 n)):(Conv.bytesToString (.slice (some a) 1 cap)).run P w=.ok (.string ⟨#[UInt8.ofNat n.toNat]⟩) w:=by
 have h1:=run_loadCells (P:=P) w a 1 (fun _=>Value.int .u8 n) (fun j hj=>by
  have:j=0:=by omega
  subst this;exact h)
 simp only [Conv.bytesToString,bE,h1,fy];simp;rfl
section
variable {c:Ctx}{r:Option Nat}{ops:Array Oper}{o:Oper}{s0:aB}
theorem De{x:Operand}{n:Int}(hd:∀ d,o.dst=some d→d<c.n) (ho:o.op=.convert S T x)
 (hx:s.val c.G x=.c (.aR κ off 1 1)) (hk:s.lv κ=.cells own fz T' cs) (hc:cs[off]?=some (.d (.int .u8 n))) (hS:eP c.P S=some (e,1)) (he:c.P.underlying e=some (.int .u8)) (hT:ct c.P T=true) :
 bT c o s (s.put o.dst (.c (.d (.str [UInt8.ofNat n.toNat])))):=
 bT.aU hd fun F β a w hs=>by
  have hv:=hx ▸ hs.val x;obtain⟨hv,_⟩:=hv;simp only [Vw.cq,hk] at hv;obtain⟨cap,hv,hcap,hsz⟩:=hv;have hb:=hs.bF κ;unfold Vw.bF at hb;simp only [hk] at hb;obtain⟨arr,b1,b2,b3,b4,b5⟩:=hb;obtain⟨hoff,hce⟩:=List.getElem?_eq_some_iff.1 hc;have h3:=b3 off hoff (by omega);rw [hce] at h3;have h4:=Vw.fh (V:=Vw.mk F β s.lv w) h3
  have hcell:w.cell? ((⟨β κ,off,none⟩:Addr).add 0)=some (.int .u8 n):=by
   have:(⟨β κ,off,none⟩:Addr).add 0=⟨β κ,off,none⟩:=by simp [Addr.add]
   rw [this,fu b1 (by omega),h4]
  refine⟨.string ⟨#[UInt8.ofNat n.toNat]⟩,?_,Vw.qf _ [UInt8.ofNat n.toNat] (by simp)⟩;have hu:=(dc hS).1;simp only [execOp,ho,hv,convert,bE,run_underlying hu,run_underlying (gb hT),fy,run_underlying he,PV w _ cap n hcell];rfl
theorem cM.IT{x:Operand}{n:Int}(hd:∀ d,o.dst=some d→d<c.n) (hw:dM ops o.guard s0.fr=some true) (ho:o.op=.convert S T x)
 (hx:s0.val c.G x=.c (.aR κ off 1 1)) (hk:s0.lv κ=.cells own fz T' cs) (hc:cs[off]?=some (.d (.int .u8 n))) (hS:eP c.P S=some (e,1)) (he:c.P.underlying e=some (.int .u8)) (hT:ct c.P T=true) :
 cM c r ops o s0 ⟨.c (.d (.str [UInt8.ofNat n.toNat])),[],[κ]⟩:=by
 refine cM.nu hw (fun cl hcl=>by rw [ho] at hcl;cases hcl) (fun s h1 h3=>?_);have e1:s.val c.G x=s0.val c.G x:=h1 x (by rw [ho];simp [Op.operands]);have e4:s.lv κ=s0.lv κ:=h3.1 κ (by simp);exact De hd ho (e1.trans hx) (e4.trans hk) hc hS he hT
end
theorem nq.IT(κ':Nat){x:Operand}{n:Int}
 (hd:cz c.n [o]=true) (hg:o.guard=none) (ho:o.op=.convert S T x)
 (hx:s.val c.G x=.c (.aR κ off 1 1)) (hk:s.lv κ=.cells own fz T' cs) (hc:cs[off]?=some (.d (.int .u8 n))) (hS:eP c.P S=some (e,1)) (he:c.P.underlying e=some (.int .u8)) (hT:ct c.P T=true)
 (hK:nq c r ops os (aB.put ⟨s.fr,aS s.lv []⟩ o.dst (.c (.d (.str [UInt8.ofNat n.toNat])))) κ' K):nq c r ops (o::os) s κ0 K:=by
 refine nq.Sf κ' (cM.IT (fun d hd'=>?_) (by rw [hg];rfl) ho hx hk hc hS he hT) hK;simp only [cz,Ym,List.all_nil,YN,hd'] at hd;simpa using hd
end Go.Am
