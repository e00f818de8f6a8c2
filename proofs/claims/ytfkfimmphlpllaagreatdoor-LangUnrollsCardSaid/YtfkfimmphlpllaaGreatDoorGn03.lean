/- Helpers. -/
import Derived.Test.YtfkfimmphlpllaaGreatDoorGn02

set_option linter.all false
set_option maxHeartbeats 8000000
set_option maxRecDepth 100000
namespace Go.Am
variable {x:AV}{g:Key->Key}{f:FuncId}{c:Ctx}{P:Program}{lv lv':Key->LB}{s:aE}{cs cs0 cs1 cs':List CV}{own fz:Bool}{T T' e T0 T1 S:TypeId}{G:List (List DV)}{fn:Func}{args xs us:List AV}{κ k:Key}{code:Code}{off sz n κ0:Nat}{K:aE->Nat->Prop}{os:List Oper}{o:Oper}{ν σ σ':List LB}{fr:Nat->AV}{first caps:Array Operand}{rds:List Key}{lo hi:Option Operand}{l:Int}{r:Option Nat}{ops:Array Oper}
abbrev Zd:=@List.not_mem_nil
abbrev ab0:=@List.mem_of_find?_eq_some
abbrev ab1:=@List.find?_some
abbrev ab2:=@List.find?_eq_none
def aa.Qh(hf:P.funcs[f]?=some fn)(hb:fn.body=some code)
 (h:∀z:Ev,AW ⟨P,G,z.w,z.F,z.W,fn.ntmps,λ_=>.hole,z.b⟩ none code ⟨λt=>args.getD t .undef,λ_=>.hole⟩ 0 (au ⟨P,G,z.w,z.F,z.W,fn.ntmps,λ_=>.hole,z.b⟩ fn x)) (hl:Nat.ble args.length fn.ntmps=true:=by kernel_rfl):aa P G f args x:=
 aa.LC hf hb (Zu hl) λ⟨_,_,w,F,W,_,q,b⟩ h1 h2 h3 h4=>by cases h1;cases h2;cases h3;cases h4;exact h ⟨w,F,W,λ_=>.hole,b⟩
def Ka(D:List Key)(kh:Key):Key->Key:=λk=>if k∈D then kh else k
theorem LB.Ov{x:LB}(h:x.bM g=x)(hm:∀own es,x=.map own es->∀p∈es,∀l,p.2≠.tup l):x.as x g:=by
 cases x with
 |cells own fz T cs=>
  have h':cs.map (CV.bM g)=cs:=by injection h
  exact⟨own,cs,rfl,h'.symm,λh=>h⟩
 |map own es=>
  have h':es.map (λp=>(p.1,p.2.mj g))=es:=by injection h
  exact⟨own,es,rfl,h'.symm,λh=>h,hm own es rfl⟩
 |hole=>rfl
 |dead=>intro h;cases h
 |nils=>rfl
def NB(g:Key->Key)(lv:Key->LB):Prop:=∀k,(lv k).bM g=lv k
def JW:NB g (λ_=>.hole):=λ_=>rfl
def Kf{b:LB}(h:NB g lv)(hb:b.bM g=b):NB g (az lv k b):=λk'=>by
 unfold az;split
 ·exact hb
 ·exact h k'
@[simp]def LB.kJ:(LB.cells own fz T cs).bM g=.cells own fz T (cs.map (CV.bM g)):=rfl
@[simp]def LB.T5:LB.dead.bM g=.dead:=rfl
@[simp]def LB.SX:LB.nils.bM g=.nils:=rfl
@[simp]def CV.Yu{x:DV}:(CV.d x).bM g=.d x:=rfl
@[simp]def CV.VU{o:Nat}:(CV.ptr k o).bM g=.ptr (g k) o:=rfl
@[simp]def CV.U9{o l z:Nat}:(CV.aD k o l z).bM g=.aD (g k) o l z:=rfl
@[simp]def AV.X7{x:CV}:(AV.c x).bM g=.c (x.bM g):=rfl
@[simp]def AV.VR:(AV.agg cs).bM g=.agg (cs.map (CV.bM g)):=rfl
theorem Le.drop(D:List Key)(kh:Key)(l:List (Nat×AV))(hc:c.iV=λ_=>.hole)(hD:∀k∈D,lv' k=.hole)(hlv:∀k,k∉D->lv k=lv' k)(hh:lv kh=.hole)
 (hm:gY lv') (hr:NB (Ka D kh) lv') (hl:∀p∈l,p.2.bC=true/\fr p.1=p.2/\p.2.bM (Ka D kh)=p.2):Le c ⟨fr,lv⟩ ⟨aU l,lv'⟩:=by
 refine⟨Ka D kh,λk=>?_,λk k' h1 h2 e=>?_,λt=>?_,λk hk=>absurd (by rw[hc]) hk⟩
 ·show(lv (Ka D kh k)).as (lv' k) _
  by_cases hk:k∈D
  ·rw[hD k hk];have:Ka D kh k=kh:=if_pos hk;rw[this];exact hh
  ·have:Ka D kh k=k:=if_neg hk;rw[this,hlv k hk];exact LB.Ov (hr k) (λown es h=>absurd h (hm k own es))
 ·have n1:k∉D:=λh=>by have h1':(lv' k).live=true:=h1;rw[hD k h]at h1';cases h1'
  have n2:k'∉D:=λh=>by have h2':(lv' k').live=true:=h2;rw[hD k' h]at h2';cases h2'
  unfold Ka at e;rwa[if_neg n1,if_neg n2]at e
 ·rcases kV (P:=λt x=>x.bC=true/\fr t=x/\x.bM (Ka D kh)=x) hl t with h|⟨h1,h2,h3⟩
  ·exact .inl h
  ·exact .inr ⟨h1,by show fr t=_;rw[h3];exact h2⟩
def Le.l5{l:List (Nat×AV)}(D:List Key)(kh:Key)(hc:c.iV=λ_=>.hole:=by exact rfl)(hD:∀k∈D,lv' k=.hole:=by intro k hk;simp at hk;subst hk;simp[az])(hlv:∀k,k∉D->lv k=lv' k:=by intro k hk;simp at hk;simp only[az];(repeat (any_goals split))<;>simp_all)(hh:lv kh=.hole:=by simp[az])
 (hm:gY lv':=by repeat (first|exact bg|refine pS ?_ _ _ _ _ _|(refine pH ?_ _)|(refine Ba ?_ _ _ _)|(refine oh ?_ _)|simp)) (hr:NB (Ka D kh) lv':=by repeat (first|exact JW|refine Kf ?_ (by simp[Ka]))) (hl:∀p∈l,p.2.bC=true/\fr p.1=p.2/\p.2.bM (Ka D kh)=p.2:=by simp[Ka]):Le c ⟨fr,lv⟩ ⟨aU l,lv'⟩:=Le.drop D kh l hc hD hlv hh hm hr hl
def G9(fn:Fn)(fs cs:List AV):Option cw:=match rz fs,rz cs with
 |some fr,some cr=>some (.c (zH fn fr cr),[],[],True)
 |_,_=>none
theorem Bd{fn:Fn}{v:Operand->AV}:
 bK P (.makeFunc fn first caps) ((Op.makeFunc fn first caps).operands.toList.map v) lv κ=G9 fn (first.toList.map v) (caps.toList.map v):=by
 have e:(Op.makeFunc fn first caps).operands.toList.map v=first.toList.map v++caps.toList.map v:=by simp[Op.operands]
 rw[e];simp only[bK,Zg,Zt,abc,if_true];rw[List.take_left' (by simp),List.drop_left' (by simp)];rfl
section
variable {c:Ctx}{ps:List zU}{d:Option Tmp}{s:aE}{κ:Nat}{K:aE->Nat->Prop}{acc:List AQ}{KD:aE->Nat->List AQ->Prop}
@[simp]def W4{fn:Fn}:aL c (⟨d,.makeFunc fn first caps,none⟩::ps) s κ K=cT c ps d s κ K (G9 fn (first.toList.map (s.val c.G)) (caps.toList.map (s.val c.G))):=by
 rw[aR];simp only[dR,Bd,cT,iK];rfl
@[simp]def XI{fn:Fn}:aV c (⟨d,.makeFunc fn first caps,none⟩::ps) s κ acc KD=bX c ps d s κ acc KD (G9 fn (first.toList.map (s.val c.G)) (caps.toList.map (s.val c.G))):=by
 rw[aO];simp only[dR,Bd,bX,iK];rfl
def mH{f:FuncId}{xs fs cs:List AV}:HI c (some (f,fs,cs)) xs ps d s κ K=(aJ c.P f=true/\gB c f (fs++xs++cs) ps d s κ K):=propext ⟨id,id⟩
def pN{fs cs:List Ref}:cx (.c (.func (.func f) fs cs))=some (f,fs.map nW,cs.map nW):=rfl
def IZ{f:FuncId}{fs cs:List DV}:cx (.c (.d (.func (.func f) fs cs)))=some (f,fs.map Me,cs.map Me):=rfl
end
def ag.Qq{K:AV->List (Key×LB)->List Key->Nat->Prop}(κ' kh:Key)(own:Bool)(sel:List Key)(σ σ':List LB)(rds:List Key)
 (hc:aA c.P c.G f us σ (.ret x σ' [])) (hn:sel.Nodup) (hkh:kh∉sel) (hl1:sel.length=σ.length) (hl2:σ'.length=σ.length) (hb:σ.length<=1000)
 (hsel:∀i (h:i<sel.length) (h':i<σ.length),(lv sel[i]).as σ[i] (aG sel [] kh)) (hh:lv kh=.hole) (hpass:∀b∈σ,b.pass=true) (hnh:∀b,b∈σ++σ'->b≠.hole)
 (hown:own=true->∀k∈sel,(lv k).qh=true) (hlen:us.length=xs.length)
 (hargs:∀i (h:i<xs.length) (h':i<us.length),us[i].bC=true/\xs[i]=us[i].bM (aG sel [] kh))
 (hrd:∀a∈xs,∀k∈hO lv a,k∈rds) (hrh:kh∈rds)
 (hK:K (x.bM (aG sel [] kh)) (bD (aG sel [] kh) own sel σ') rds κ'):ag c f xs lv K:=by
 have key:=bV.gen (c:=c) (f:=f) (as:=xs) (lv:=lv) us [] sel [] kh σ σ' [] x own rds (λz hz=>by cases hz) (by simp) (by simpa using hn) (λz hz=>by cases hz) (by simpa using hkh) (λz hz=>by cases hz) hl1 hl2 rfl hb hsel (λk hk=>by cases hk) hh hpass (by simpa using hnh) hown hlen (λi p q=>.inl (hargs i p q)) (λa ha k hk=>.inl (hrd a ha k hk)) hrh hc;have e:dS []++bD (aG sel [] kh) own sel σ'++bD (aG sel [] kh) own [] []=bD (aG sel [] kh) own sel σ':=by simp[dS,bD]
 rw[e]at key;exact⟨_,_,rds,κ',key,hK⟩
def ag.Na{K:AV->List (Key×LB)->List Key->Nat->Prop}(κ' kh k0 k1:Key)(own:Bool)(rds:List Key)
 (hc:aA c.P c.G f us [.cells false false T0 cs0,.cells false false T1 cs1] (.ret x [.cells false false T0 cs0,.cells false false T1 cs1] [])) (hx:x.pure=true)
 (h0:lv k0=.cells own false T0 cs0) (h1:lv k1=.cells own false T1 cs1) (p0:∀x∈cs0,x.pure=true) (p1:∀x∈cs1,x.pure=true) (hk:k0≠k1) (hh:lv kh=.hole) (hlen:us.length=xs.length)
 (hargs:∀i (h:i<xs.length) (h':i<us.length),us[i].bC=true/\xs[i]=us[i].bM (aG [k0,k1] [] kh))
 (hrd:∀a∈xs,∀k∈hO lv a,k∈rds) (hrh:kh∈rds)
 (hK:K x [(k0,.cells own false T0 cs0),(k1,.cells own false T1 cs1)] rds κ'):ag c f xs lv K:=by
 have r0:∀g,(LB.cells false false T0 cs0).bM g=.cells false false T0 cs0:=λg=>LB.aT p0 g
 have r1:∀g,(LB.cells false false T1 cs1).bM g=.cells false false T1 cs1:=λg=>LB.aT p1 g
 have m0:∀g,cs0.map (CV.bM g)=cs0:=λg=>by have:=r0 g;simp only[LB.kJ]at this;injection this
 have m1:∀g,cs1.map (CV.bM g)=cs1:=λg=>by have:=r1 g;simp only[LB.kJ]at this;injection this
 refine ag.Qq κ' kh own [k0,k1] _ _ rds hc (by simp[hk]) ?_ rfl rfl (by simp) ?_ hh (by simp[LB.pass]) (by simp) ?_ hlen hargs hrd hrh ?_
 ·intro hm;simp only[rP,Zd,or_false]at hm;rcases hm with rfl|rfl
  ·rw[h0]at hh;cases hh
  ·rw[h1]at hh;cases hh
 ·intro i p q;have hi:i=0\/i=1:=by simp at p;omega
  rcases hi with rfl|rfl
  ·exact⟨own,cs0,h0,(m0 _).symm,λh=>by cases h⟩
  ·exact⟨own,cs1,h1,(m1 _).symm,λh=>by cases h⟩
 ·intro ho k hk';simp only[rP,Zd,or_false]at hk';rcases hk' with rfl|rfl
  ·rw[h0];exact ho
  ·rw[h1];exact ho
 ·rw[AV.aT hx]
  have e:bD (aG [k0,k1] [] kh) own [k0,k1] [.cells false false T0 cs0,.cells false false T1 cs1]=[(k0,.cells own false T0 cs0),(k1,.cells own false T1 cs1)]:=by
   simp only[bD,acf,List.zipWith_nil_left,r0,r1,LB.fix,Bool.false_or]
  rw[e];exact hK
def yQ(b b':LB):bq [b,b'] []=az (az (λ_=>.hole) 0 b) 1 b':=by
 funext k;unfold bq az
 by_cases h1:k=1
 ·subst h1;rfl
 ·by_cases h0:k=0
  ·subst h0;rfl
  ·rw[if_neg h1,if_neg h0];split
   ·rw[cS];rcases k with _|_|k
    ·exact absurd rfl h0
    ·exact absurd rfl h1
    ·simp
   ·rfl
def zP(c:Ctx)(fn:Func)(x:AV)(b0 b1:LB):Ex->aE->Nat->Prop
 |.normal,s,_|.ret,s,_=>∃l kh,(∀p∈l,p.2.pure=true/\s.fr p.1=p.2)/\s.lv kh=.hole/\s.lv 0=b0/\s.lv 1=b1/\cO c.P ⟨aU l,λ_=>.hole⟩ fn.results.toList=some x
 |_,_,_=>False
def Oj{l:List (Nat×AV)}{rs:List ResultVar}(hr:∀r∈rs,∃t,r=.tmp t):cO P ⟨aU l,lv⟩ rs=cO P ⟨aU l,lv'⟩ rs:=by
 have h1:∀rs:List ResultVar,(∀r∈rs,∃t,r=.tmp t)->iT P ⟨aU l,lv⟩ rs=iT P ⟨aU l,lv'⟩ rs:=by
  intro rs
  induction rs with
  |nil=>intro _;rfl
  |cons r rs ih=>
   intro h;obtain⟨t,rfl⟩:=h r (by simp);have:=ih λr hr=>h r (by simp[hr])
   simp only[iT,j8,this]
 unfold cO;rw[h1 rs hr]
def aA.QX(hf:P.funcs[f]?=some fn)(hb:fn.body=some code)(hl:args.length<=fn.ntmps)
 (hr:∀r∈fn.results.toList,∃t,r=.tmp t) (p0:∀x∈cs0,x.pure=true) (p1:∀x∈cs1,x.pure=true)
 (h:∀c:Ctx,c.P=P->c.G=G->c.n=fn.ntmps->AW c none code ⟨λt=>args.getD t .undef,az (az (λ_=>.hole) 0 (.cells false false T0 cs0)) 1 (.cells false false T1 cs1)⟩ 1000 (zP c fn x (.cells false false T0 cs0) (.cells false false T1 cs1))) :
 aA P G f args [.cells false false T0 cs0,.cells false false T1 cs1] (.ret x [.cells false false T0 cs0,.cells false false T1 cs1] []):=by
 have m0:∀g,cs0.map (CV.bM g)=cs0:=λg=>by have:=LB.aT (T:=T0) (own:=false) (fz:=false) p0 g;simp only[LB.kJ]at this;injection this
 have m1:∀g,cs1.map (CV.bM g)=cs1:=λg=>by have:=LB.aT (T:=T1) (own:=false) (fz:=false) p1 g;simp only[LB.kJ]at this;injection this
 refine aA.nZ hf hb hl λc h1 h2 h3 h4=>?_;rw[yQ]at h4⊢;refine AW.mono (h c h1 h2 h3) λe s κ hq=>?_
 have fin:(∃l kh,(∀p∈l,p.2.pure=true/\s.fr p.1=p.2)/\s.lv kh=.hole/\s.lv 0=.cells false false T0 cs0/\s.lv 1=.cells false false T1 cs1/\cO c.P ⟨aU l,λ_=>.hole⟩ fn.results.toList=some x) ->
  ∃s2 g,ei c s s2 g/\s2.lv=bq [.cells false false T0 cs0,.cells false false T1 cs1] []/\cO c.P s2 fn.results.toList=some x:=by
  rintro⟨l,kh,g1,g2,g3,g4,g5⟩;refine⟨⟨aU l,az (az (λ_=>.hole) 0 (.cells false false T0 cs0)) 1 (.cells false false T1 cs1)⟩,λk=>if k=0 then 0 else if k=1 then 1 else kh,⟨λk=>?_,λk k' e1 e2 e=>?_,λt=>?_,λk hk=>?_⟩,by rw[yQ],by rw[Oj hr (lv':=λ_=>.hole)];exact g5⟩
  ·show(s.lv _).as (az _ 1 _ k) _
   by_cases hk1:k=1
   ·subst hk1;exact⟨false,cs1,g4,(m1 _).symm,λh=>h⟩
   ·by_cases hk0:k=0
    ·subst hk0;exact⟨false,cs0,g3,(m0 _).symm,λh=>h⟩
    ·simp only[az,hk0,hk1,if_false];exact g2
  ·have q:∀k,(az (az (λ_=>LB.hole) 0 (.cells false false T0 cs0)) 1 (.cells false false T1 cs1) k).live=true->k=0\/k=1:=by
    intro k hk;unfold az at hk
    by_cases hk1:k=1
    ·exact .inr hk1
    ·by_cases hk0:k=0
     ·exact .inl hk0
     ·rw[if_neg hk1,if_neg hk0]at hk;cases hk
   rcases q k e1 with rfl|rfl<;>rcases q k' e2 with rfl|rfl<;>simp_all
  ·rcases kV (P:=λt x=>x.pure=true/\s.fr t=x) g1 t with h|⟨h1,h2⟩
   ·exact .inl h
   ·exact .inr ⟨AV.bx h1,by rw[AV.aT h1];exact h2⟩
  ·right;rw[h4]at hk;show(if k=0 then 0 else if k=1 then 1 else kh)=k
   by_cases hk1:k=1
   ·subst hk1;rfl
   ·by_cases hk0:k=0
    ·subst hk0;rfl
    ·exfalso;apply hk;simp[az,hk0,hk1]
 cases e with
 |normal=>exact fin hq
 |ret=>exact fin hq
 |exit id=>exact hq.elim
 |goto l=>exact hq.elim
 |panic d=>exact hq.elim
def aA.WI(hf:P.funcs[f]?=some fn)(hb:fn.body=some code)(p0:∀x∈cs0,x.pure=true)(p1:∀x∈cs1,x.pure=true)
 (hr:∀r∈fn.results.toList,∃t,r=.tmp t)
 (h:∀z:Ev,AW ⟨P,G,z.w,z.F,z.W,fn.ntmps,z.q,z.b⟩ none code ⟨λt=>args.getD t .undef,az (az (λ_=>.hole) 0 (.cells false false T0 cs0)) 1 (.cells false false T1 cs1)⟩ 1000 (zP ⟨P,G,z.w,z.F,z.W,fn.ntmps,z.q,z.b⟩ fn x (.cells false false T0 cs0) (.cells false false T1 cs1))) (hl:Nat.ble args.length fn.ntmps=true:=by kernel_rfl) :
 aA P G f args [.cells false false T0 cs0,.cells false false T1 cs1] (.ret x [.cells false false T0 cs0,.cells false false T1 cs1] []):=
 aA.QX hf hb (Zu hl) hr p0 p1 λ⟨_,_,w,F,W,_,q,b⟩ h1 h2 h3=>by cases h1;cases h2;cases h3;exact h ⟨w,F,W,q,b⟩
def zP.tmp{t:Nat}{κ:Nat}{b0 b1:LB}(hr:fn.results=#[.tmp t])(kh:Key)(hx:s.fr t=x)(hp:x.pure=true)(hh:s.lv kh=.hole)(h0:s.lv 0=b0)(h1:s.lv 1=b1)(hn:x.cH=true):zP c fn x b0 b1 .ret s κ:=by
 refine⟨[(t,x)],kh,by simp[hp,hx],hh,h0,h1,?_⟩;rw[hr];simp[cO,iT,j8,aU]
section
variable {c:Ctx}{r:Option Nat}{ops:Array Oper}{o:Oper}{s0:aE}
def cX.Q1{us:List (Key×LB)}(hd:∀d,o.dst=some d->d<c.n)(hw:eB ops o.guard s0.fr=some true)
 (h:iu c.P o.op (o.op.operands.toList.map (s0.val c.G)) s0.lv κ=some (x,us,rds)):cX c r ops o s0 ⟨x,us,rds⟩:=by
 refine cX.o4 hw (λcl hcl=>?_) (λs h1 h2=>?_)
 ·rw[hcl]at h;simp[iu]at h
 ·have hl:=vL h (show Agree s0.lv s.lv us rds from h2);exact A6 hd rfl (ZP h1) hl
def Ci{x:Operand}(hd:∀d,o.dst=some d->d<c.n)(ho:o.op=.slice T x lo hi none)
 (hx:s.val c.G x=.c (.ptr κ off)) (hk:s.lv κ=.cells own fz T' cs) (hT:ug c.P T=some (n,e,sz)) (hlo:cU (lo.map (s.val c.G)) 0=some l) (hhi:cU (hi.map (s.val c.G)) n=some l)
 (h0:0<=l) (h2:l<=n):cg c o s (s.put o.dst (.c (.d (.sl [])))):=
 cg.aW hd λF β a w hs=>by
  have hv:=hx▸hs.val x;obtain⟨hv,_⟩:=hv;simp only[Vw.dh,hk]at hv;have hr:=ja hT (b:=β κ) (o:=off) (ic (λx=>hs.val x) hlo) (ic (λx=>hs.val x) hhi) h0 (Int.le_refl _) h2 w;refine⟨_,by simp only[execOp,ho,abd,hv];simp[hr];rfl,?_,rfl⟩;have e1:(if n=l.toNat then(⟨β κ,off,none⟩:Addr)else⟨β κ,off+l.toNat*sz,none⟩)=⟨β κ,if n=l.toNat then off else off+l.toNat*sz,none⟩:=by split<;>rfl
  rw[e1];exact Rd.sl (β κ) _ (n-l.toNat) sz [] (λ_ _=>.nilIface) (by simp) (by simp) (by simp) (by simp) (by simp) (by simp)
def cX.Fs{x:Operand}(hd:∀d,o.dst=some d->d<c.n)(hw:eB ops o.guard s0.fr=some true)(ho:o.op=.slice T x lo hi none)
 (hx:s0.val c.G x=.c (.ptr κ off)) (hk:s0.lv κ=.cells own fz T' cs) (hT:ug c.P T=some (n,e,sz)) (hlo:cU (lo.map (s0.val c.G)) 0=some l) (hhi:cU (hi.map (s0.val c.G)) n=some l)
 (h0:0<=l) (h2:l<=n):cX c r ops o s0 ⟨.c (.d (.sl [])),[],[κ]⟩:=by
 refine cX.o4 hw (λcl hcl=>by rw[ho]at hcl;cases hcl) (λs h1 h3=>?_);have e1:s.val c.G x=s0.val c.G x:=h1 x (by rw[ho];simp[Op.operands])
 have e2:lo.map (s.val c.G)=lo.map (s0.val c.G):=by
  cases lo with
  |none=>rfl
  |some y=>exact congrArg some (h1 y (by rw[ho];simp[Op.operands]))
 have e3:hi.map (s.val c.G)=hi.map (s0.val c.G):=by
  cases hi with
  |none=>rfl
  |some y=>exact congrArg some (h1 y (by rw[ho];simp[Op.operands]))
 have e4:s.lv κ=s0.lv κ:=h3.1 κ (by simp);exact Ci hd ho (e1.trans hx) (e4.trans hk) hT (by rw[e2];exact hlo) (by rw[e3];exact hhi) h0 h2
end
def oc(c:Ctx)(r:Option Nat)(ops:Array Oper)(os:List Oper)(s:aE)(κ:Nat)(K:aE->Nat->Prop):Prop:=
 ∃es s' κ',fY c r ops os es s s'/\K s' κ'
section
variable {c:Ctx}{r:Option Nat}{ops:Array Oper}
def fY.append{os2:List Oper}{es2:List Fx}{s2:aE}:∀{os1:List Oper}{es1:List Fx}{s s1:aE},fY c r ops os1 es1 s s1->fY c r ops os2 es2 s1 s2->fY c r ops (os1++os2) (es1++es2) s s2
 |[],[],s,s1,h,h2=>by have h:s1=s:=h;subst h;exact h2
 |o::os,e::es,s,s1,h,h2=>⟨h.1,fY.append h.2 h2⟩
 |[],_::_,_,_,h,_=>h.elim
 |_::_,[],_,_,h,_=>h.elim
def oc.done{κ:Nat}(h:K s κ):oc c r ops [] s κ K:=⟨[],s,κ,rfl,h⟩
def oc.run{κ:Nat}(n:Nat)(hd:cK c.n (os.take n)=true)(h:aL c (lq (ops.toList.map (·.dst)) (os.take n)) s κ λs' κ'=>oc c r ops (os.drop n) s' κ' K):oc c r ops os s κ K:=by
 rw[mG]at h;obtain⟨es,s',κ',h1,es2,s2,κ2,h2,h3⟩:=gh.chain (r:=r) hd h;refine⟨es++es2,s2,κ2,?_,h3⟩;have:=fY.append h1 h2
 rwa[abp]at this
def oc.Fj{κ:Nat}{us:List (Key×LB)}(κ':Nat)(he:cX c r ops o s ⟨x,us,rds⟩)(h:oc c r ops os (aE.put ⟨s.fr,aQ s.lv us⟩ o.dst x) κ' K):oc c r ops (o::os) s κ K:=by
 obtain⟨es,s',κ2,h1,h2⟩:=h;exact⟨⟨x,us,rds⟩::es,s',κ2,⟨he,h1⟩,h2⟩
def AW.xj{κ:Nat}{Q:Ex->aE->Nat->Prop}{id:Nat}(h:oc c r ops ops.toList s κ λs' κ'=>Q .normal s' κ'):AW c r (.region id ops false) s κ Q:=by
 intro F β a w hs;obtain⟨es,s',κ',h1,h2⟩:=h;exact h1.region (λF' β' a' w' h'=>⟨.normal,s',κ',F',β',h2,h',rfl⟩) hs
end
def oc.iu{κ:Nat}{us:List (Key×LB)}(κ':Nat)(hd:cK c.n [o]=true)(hg:o.guard=none)
 (h:Am.iu c.P o.op (o.op.operands.toList.map (s.val c.G)) s.lv κ=some (x,us,rds)) (hK:oc c r ops os (aE.put ⟨s.fr,aQ s.lv us⟩ o.dst x) κ' K):oc c r ops (o::os) s κ K:=by
 refine oc.Fj κ' (cX.Q1 (λd hd'=>?_) (by rw[hg];rfl) h) hK;simp only[cK,abi,List.all_nil,Bool.and_true,hd']at hd;simpa using hd
def oc.Fs(κ':Nat){x:Operand}
 (hd:cK c.n [o]=true) (hg:o.guard=none) (ho:o.op=.slice T x lo hi none)
 (hx:s.val c.G x=.c (.ptr κ off)) (hk:s.lv κ=.cells own fz T' cs) (hT:ug c.P T=some (n,e,sz)) (hlo:cU (lo.map (s.val c.G)) 0=some l) (hhi:cU (hi.map (s.val c.G)) n=some l)
 (h0:0<=l) (h2:l<=n) (hK:oc c r ops os (aE.put ⟨s.fr,aQ s.lv []⟩ o.dst (.c (.d (.sl [])))) κ' K):oc c r ops (o::os) s κ0 K:=by
 refine oc.Fj κ' (cX.Fs (λd hd'=>?_) (by rw[hg];rfl) ho hx hk hT hlo hhi h0 h2) hK;simp only[cK,abi,List.all_nil,Bool.and_true,hd']at hd;simpa using hd
def bP(m:List (Key×Key×LB))(kh:Key):Key->Key:=λk=>match m.find? (λe=>e.1==k)with
 |some e=>e.2.1
 |none=>kh
@[simp]def LB.Nh{o f:Bool}:(LB.cells o f T cs').as (.cells own fz T' cs) g↔(f=fz/\T=T'/\cs'=cs.map (CV.bM g)/\(own=true->o=true)):=by
 constructor
 ·rintro⟨own',cs2,h1,h2,h3⟩;injection h1 with e1 e2 e3 e4
  subst e1;subst e4;exact⟨e2,e3,h2,h3⟩
 ·rintro⟨rfl,rfl,h2,h3⟩;exact⟨o,cs',rfl,h2,h3⟩
@[simp]def LB.UZ{x:LB}:x.as .nils g↔x=.nils:=Iff.rfl
abbrev LB.like(x y:LB)(g:Key->Key):Prop:=x.as y g
@[simp]def LB.m9{o f:Bool}:(LB.cells o f T cs').like (.cells own fz T' cs) g↔(f=fz/\T=T'/\cs'=cs.map (CV.bM g)/\(own=true->o=true)):=LB.Nh
@[simp]def LB.SB{x:LB}:x.like .nils g↔x=.nils:=Iff.rfl
def JG{m:List (Key×Key×LB)}(hn:(m.map (·.1)).Nodup):
 aQ (λ_=>LB.hole) (m.map λe=>(e.1,e.2.2)) k=match m.find? (λe=>e.1==k)with|some e=>e.2.2|none=>.hole:=by
 cases h:m.find? (λe=>e.1==k)with
 |some e=>
  have h1:=ab0 h;have h2:=ab1 h;simp only[beq_iff_eq]at h2;subst h2;have hn':((m.map λe=>(e.1,e.2.2)).map (·.1)).Nodup:=by rw[ZC];exact hn
  exact jT hn' (List.mem_map.2 ⟨e,h1,rfl⟩)
 |none=>
  rw[ab2]at h;rw[cu];intro hk;simp only[ZC,ZX,Function.comp]at hk;obtain⟨e,he,rfl⟩:=hk;exact h e he (by simp)
def ei.keys(m:List (Key×Key×LB))(kh:Key)(l:List (Nat×AV))(hlv':lv'=aQ (λ_=>.hole) (m.map λe=>(e.1,e.2.2)))(hc:∀k,c.iV k≠.hole->lv' k=.dead\/bP m kh k=k)
 (hn1:(m.map (·.1)).Nodup) (hn2:(m.map (·.2.1)).Nodup) (hh:s.lv kh=.hole) (has:∀e∈m,(s.lv e.2.1).as e.2.2 (bP m kh)) (hl:∀p∈l,p.2.bC=true/\s.fr p.1=p.2.bM (bP m kh)):ei c s ⟨aU l,lv'⟩ (bP m kh):=by
 have hk:∀k,lv' k=match m.find? (λe=>e.1==k)with|some e=>e.2.2|none=>.hole:=λk=>by rw[hlv',JG hn1]
 refine⟨λk=>?_,λk k' h1 h2 e=>?_,λt=>?_,hc⟩
 ·show(s.lv (bP m kh k)).as (lv' k) _;rw[hk]
  cases h:m.find? (λe=>e.1==k)with
  |some e=>
   have e1:bP m kh k=e.2.1:=by unfold bP;rw[h]
   rw[e1];exact has e (ab0 h)
  |none=>
   have e1:bP m kh k=kh:=by unfold bP;rw[h]
   rw[e1];exact hh
 ·have h1':(lv' k).live=true:=h1;have h2':(lv' k').live=true:=h2;rw[hk]at h1' h2'
  cases f1:m.find? (λe=>e.1==k)with
  |none=>rw[f1]at h1';cases h1'
  |some e1=>
   cases f2:m.find? (λe=>e.1==k')with
   |none=>rw[f2]at h2';cases h2'
   |some e2=>
    have g1:bP m kh k=e1.2.1:=by unfold bP;rw[f1]
    have g2:bP m kh k'=e2.2.1:=by unfold bP;rw[f2]
    rw[g1,g2]at e;have i1:=ab0 f1;have i2:=ab0 f2;have j1:=ab1 f1;have j2:=ab1 f2;simp only[beq_iff_eq]at j1 j2
    have:e1=e2:=by
     obtain⟨a,ha,rfl⟩:=List.mem_iff_getElem.1 i1;obtain⟨b,hb,rfl⟩:=List.mem_iff_getElem.1 i2
     have hab:a=b:=by
      refine(List.getElem_inj (xs:=m.map (·.2.1)) (i:=a) (j:=b) (h₀:=by simpa using ha) (h₁:=by simpa using hb) hn2).1 ?_;simpa using e
     subst hab;rfl
    rw[<-j1,<-j2,this]
 ·rcases kV (P:=λt x=>x.bC=true/\s.fr t=x.bM (bP m kh)) hl t with h|⟨h1,h2⟩
  ·exact .inl h
  ·exact .inr ⟨h1,h2⟩
def Le.keys(m:List (Key×Key×LB))(kh:Key)(l:List (Nat×AV))(hlv':lv'=aQ (λ_=>.hole) (m.map λe=>(e.1,e.2.2)))(hc:c.iV=λ_=>.hole)
 (hn1:(m.map (·.1)).Nodup) (hn2:(m.map (·.2.1)).Nodup) (hh:lv kh=.hole) (has:∀e∈m,(lv e.2.1).like e.2.2 (bP m kh)) (hl:∀p∈l,p.2.bC=true/\fr p.1=p.2.bM (bP m kh)):Le c ⟨fr,lv⟩ ⟨aU l,lv'⟩:=
 ⟨_,ei.keys (s:=⟨fr,lv⟩) m kh l hlv' (λk hk=>absurd (by rw[hc]) hk) hn1 hn2 hh has hl⟩
def ag.PY{K:AV->List (Key×LB)->List Key->Nat->Prop}(κ' kh:Key)(nk:List Key)(ν:List LB)(hc:aA c.P c.G f xs [] (.ret x [] ν))(hxs:∀a∈xs,a.pure=true)
 (hn:nk.Nodup) (hkh:kh∉nk) (hl:nk.length=ν.length) (hnk:∀k∈nk,lv k=.hole) (hh:lv kh=.hole) (hnh:∀b∈ν,b≠.hole)
 (hK:K (x.bM (aG [] nk kh)) (bD (aG [] nk kh) true nk ν) [kh] κ'):ag c f xs lv K:=by
 have key:=bV.gen (c:=c) (f:=f) (as:=xs) (lv:=lv) xs [] [] nk kh [] [] ν x true [kh] (λz hz=>by cases hz) (by simp) (by simpa using hn) (λz hz=>by cases hz) (by simpa using hkh) (λz hz=>by cases hz) rfl rfl hl (by simp) (λi h=>absurd h (ZH i)) hnk hh (λb hb=>by cases hb) (by simpa using hnh) (λ_ k hk=>by cases hk) rfl
  (λi p q=>.inl ⟨AV.bx (hxs _ (bh q)),(AV.aT (hxs _ (bh q)) _).symm⟩) (λa ha k hk=>by rw[cj (hxs a ha)]at hk;cases hk) (by simp) hc
 have e:dS []++bD (aG [] nk kh) true [] []++bD (aG [] nk kh) true nk ν=bD (aG [] nk kh) true nk ν:=by simp[dS,bD]
 rw[e]at key;exact⟨_,_,[kh],κ',key,hK⟩
def Dl(ν:List LB)(k:Nat)(h:∀j,j<ν.length->k≠1000+j):bq [] ν k=.hole:=by
 unfold bq
 by_cases hlt:k<1000
 ·rw[if_pos hlt];rfl
 ·rw[if_neg hlt,cS];intro hj;exact h _ hj (Nat.add_sub_of_le (abo hlt)).symm
def mV(a:LB):bq [] [a]=az (λ_=>.hole) 1000 a:=by
 refine funext λ(k:Nat)=>?_;unfold az
 by_cases h:k=1000
 ·subst h;rfl
 ·rw[if_neg h];refine Dl _ k λj hj=>?_;have:j=0:=by simp at hj;omega
  omega
def tY(a b d e:LB):bq [] [a,b,d,e]=az (az (az (az (λ_=>.hole) 1000 a) 1001 b) 1002 d) 1003 e:=by
 refine funext λ(k:Nat)=>?_;unfold az
 by_cases h3:k=1003
 ·subst h3;rfl
 ·by_cases h2:k=1002
  ·subst h2;rfl
  ·by_cases h1:k=1001
   ·subst h1;rfl
   ·by_cases h:k=1000
    ·subst h;rfl
    ·rw[if_neg h3,if_neg h2,if_neg h1,if_neg h];refine Dl _ k λj hj=>?_;have:j<4:=by simpa using hj
     omega
def TP(c:Ctx)(fn:Func)(x:AV)(ν:List LB):Ex->aE->Nat->Prop
 |.normal,s,_|.ret,s,_=>∃(m:List (Key×Key×LB)) (kh:Key),bq [] ν=aQ (λ_=>.hole) (m.map λe=>(e.1,e.2.2))/\(m.map (·.1)).Nodup/\(m.map (·.2.1)).Nodup/\s.lv kh=.hole /\
  (∀e∈m,(s.lv e.2.1).like e.2.2 (bP m kh))/\x.bC=true/\cO c.P s fn.results.toList=some (x.bM (bP m kh))
 |_,_,_=>False
def Mm(c:Ctx)(fn:Func)(x:AV)(σ' ν:List LB):Ex->aE->Nat->Prop
 |.normal,s,_|.ret,s,_=>∃(m:List (Key×Key×LB)) (kh:Key),bq σ' ν=aQ (λ_=>.hole) (m.map λe=>(e.1,e.2.2))/\(m.map (·.1)).Nodup/\(m.map (·.2.1)).Nodup/\s.lv kh=.hole /\
  (∀k,c.iV k≠.hole->bq σ' ν k=.dead\/bP m kh k=k)/\(∀e∈m,(s.lv e.2.1).like e.2.2 (bP m kh))/\x.bC=true/\cO c.P s fn.results.toList=some (x.bM (bP m kh))
 |_,_,_=>False
def aA.BX(hf:P.funcs[f]?=some fn)(hb:fn.body=some code)(hl:args.length<=fn.ntmps)
 (h:∀c:Ctx,c.P=P->c.G=G->c.n=fn.ntmps->c.iV=bq σ []->AW c none code ⟨λt=>args.getD t .undef,bq σ []⟩ 1000 (Mm c fn x σ' ν)):aA P G f args σ (.ret x σ' ν):=by
 intro F β w vs hS hvl hv;refine yu hf hb hl hS hvl hv (h _ rfl rfl rfl rfl) (λe s κ hq=>by cases e<;>first|exact .inl rfl|exact .inr rfl|exact hq.elim) λe s' κ F' β' a' w' hq hX0=>?_;obtain⟨m,kh,g1,g2,g3,g4,g8,g5,g6,g7⟩:∃(m:List (Key×Key×LB)) (kh:Key),bq σ' ν=aQ (λ_=>.hole) (m.map λe=>(e.1,e.2.2))/\(m.map (·.1)).Nodup/\(m.map (·.2.1)).Nodup/\s'.lv kh=.hole/\(∀k,bq σ [] k≠.hole->bq σ' ν k=.dead\/bP m kh k=k)/\(∀e∈m,(s'.lv e.2.1).like e.2.2 (bP m kh))/\x.bC=true/\cO P s' fn.results.toList=some (x.bM (bP m kh)):=by cases e<;>first|exact hq|exact hq.elim
 obtain⟨v,h4,hav⟩:=r9 hX0 g7;have hco:ei { cQ P G w F β (bq σ [])with n:=fn.ntmps } s' ⟨aU [],bq σ' ν⟩ (bP m kh):=ei.keys m kh [] g1 g8 g2 g3 g4 g5 (λp hp=>by cases hp);have hs2:=hX0.coarse hco;have hR:(Vw.mk F' β' s'.lv w').Ren (Vw.mk F' (λk=>β' (bP m kh k)) (bq σ' ν) w') (bP m kh):=⟨rfl,rfl,λ_ _=>rfl,λk=>LB.yA (hco.as k)⟩
 refine⟨hX0.defers,v,h4,v,F',λk=>β' (bP m kh k),rfl,?_,hR.av g6 hav⟩;exact hs2.xe
def aA.Ra(hf:P.funcs[f]?=some fn)(hb:fn.body=some code)(hl:args.length<=fn.ntmps)
 (h:∀c:Ctx,c.P=P->c.G=G->c.n=fn.ntmps->c.iV=(λ_=>.hole)->AW c none code ⟨λt=>args.getD t .undef,λ_=>.hole⟩ 0 (TP c fn x ν)):aA P G f args [] (.ret x [] ν):=by
 refine aA.BX hf hb hl λc h1 h2 h3 h4=>?_;rw[gW]at h4⊢;refine(AW.mono (λF β a w hs=>h c h1 h2 h3 h4 F β a w hs) λe s κ hq=>?_:AW c none code _ 1000 _)
 cases e<;>first|exact hq.elim|(obtain⟨m,kh,g1,g2,g3,g4,g5,g6,g7⟩:=hq;exact⟨m,kh,g1,g2,g3,g4,λk hk=>absurd (by rw[h4]) hk,g5,g6,g7⟩)
def aA.Sv(hf:P.funcs[f]?=some fn)(hb:fn.body=some code)
 (h:∀z:Ev,AW ⟨P,G,z.w,z.F,z.W,fn.ntmps,λ_=>.hole,z.b⟩ none code ⟨λt=>args.getD t .undef,λ_=>.hole⟩ 0 (TP ⟨P,G,z.w,z.F,z.W,fn.ntmps,λ_=>.hole,z.b⟩ fn x ν)) (hl:Nat.ble args.length fn.ntmps=true:=by kernel_rfl):aA P G f args [] (.ret x [] ν):=
 aA.Ra hf hb (Zu hl) λ⟨_,_,w,F,W,_,q,b⟩ h1 h2 h3 h4=>by cases h1;cases h2;cases h3;cases h4;exact h ⟨w,F,W,λ_=>.hole,b⟩
def aA.xE(h:aa P G f args (.c (.d .nilsl))):aA P G f args [] (.ret (.c (.aD 1000 0 0 sz)) [] [.nils]):=by
 intro F β w vs hS hl hv;refine(h F β w vs hS hl hv).mono λe w' he=>?_;obtain⟨v,F',β',rfl,hX,hav⟩:=he;have hlv:bq [] []=λ_=>LB.hole:=gW
 obtain⟨hr,ho⟩:=hav
 have hv0:v=.slice none 0 0:=by
  generalize hd:DV.nilsl=d at hr
  cases hr<;>first|rfl|cases hd
 refine⟨v,F',β',rfl,?_,?_⟩
 ·show cJ _ F' β' (bq [] [LB.nils]) w';rw[mV];refine⟨λk=>?_,λk k' h1 h2=>?_,λ_=>trivial,rfl,rfl,hX.mo,hX.F0,hX.old,hX.ge,hX.o9,λk hk=>?_,hX.GX,hX.CX⟩
  ·show(Vw.mk F' β' (az (λ_=>LB.hole) 1000 .nils) w').bQ _ k;unfold Vw.bQ az
   by_cases hk:k=1000
   ·simp only[hk,if_true]
   ·simp only[hk,if_false]
  ·have h1':(az (λ_=>LB.hole) 1000 .nils k).live=true:=h1;unfold az at h1';split at h1'<;>cases h1'
  ·exfalso;apply hk;show bq [] [] k=.hole;rw[hlv]
 ·refine⟨?_,ho⟩;show(Vw.mk F' β' (bq [] [LB.nils]) w').cG v 1000 0 0 sz;rw[mV];unfold Vw.cG az;simp only[if_true];exact⟨hv0,trivial,trivial⟩
def ag.Ug{K:AV->List (Key×LB)->List Key->Nat->Prop}(κ' kh:Key)(Z:List (Key×TypeId×List CV))(rds:List Key)
 (hc:aa c.P c.G f us x) (hx:x.pure=true) (hZ:∀z∈Z,lv z.1=.cells true false z.2.1 z.2.2) (hZn:(Z.map (·.1)).Nodup) (hh:lv kh=.hole) (hlen:us.length=xs.length)
 (hargs:∀i (h:i<xs.length) (h':i<us.length),(us[i].pure=true/\xs[i]=us[i])\/∃ks,eP (aQ lv (dS Z)) xs[i]=some (us[i],ks)/\∀k∈ks,k∈Z.map (·.1))
 (hrd:∀a∈xs,∀k∈hO (aQ lv (dS Z)) a,k∈rds\/k∈Z.map (·.1)) (hrh:kh∈rds)
 (hK:K x (dS Z) rds κ'):ag c f xs lv K:=by
 have hkZ:∀z∈Z,z.1≠kh:=λz hz e=>by have:=hZ z hz;rw[e,hh]at this;cases this
 have key:=bV.gen (c:=c) (f:=f) (as:=xs) (lv:=lv) us Z [] [] kh [] [] [] x false rds hZ hZn (by simp) (λz hz=>by simp) (by simp) hkZ rfl rfl rfl (by simp)
  (λi h=>absurd h (ZH i)) (λk hk=>by cases hk) hh (λb hb=>by cases hb) (λb hb=>by cases hb) (λh=>by cases h) hlen
  (λi p q=>?_) hrd hrh hc
 ·rw[AV.aT hx]at key;have e:dS Z++bD (aG [] [] kh) false [] []++bD (aG [] [] kh) false [] []=dS Z:=by simp[bD]
  rw[e]at key;exact⟨x,_,rds,κ',key,hK⟩
 ·rcases hargs i p q with⟨h1,h2⟩|⟨ks,h1,h2⟩
  ·exact .inl ⟨AV.bx h1,by rw[AV.aT h1];exact h2⟩
  ·refine .inr ⟨ks,h1,λk hk=>?_⟩;obtain⟨z,hz,rfl⟩:=List.mem_map.1 (h2 k hk);have hn:((dS Z).map (·.1)).Nodup:=by rw[gR];exact hZn
   exact⟨true,z.2.1,z.2.2,jT hn (by simp only[dS,ZX];exact⟨z,hz,rfl⟩)⟩
def ag.wh{K:AV->List (Key×LB)->List Key->Nat->Prop}(κ' kh:Key)(own:Bool)(sel nk:List Key)(σ σ' ν:List LB)(rds:List Key)
 (hc:aA c.P c.G f us σ (.ret x σ' ν)) (hn:(sel++nk).Nodup) (hkh:kh∉sel++nk) (hl1:sel.length=σ.length) (hl2:σ'.length=σ.length) (hl3:nk.length=ν.length) (hb:σ.length<=1000)
 (hsel:∀i (h:i<sel.length) (h':i<σ.length),(lv sel[i]).as σ[i] (aG sel nk kh)) (hnk:∀k∈nk,lv k=.hole) (hh:lv kh=.hole) (hpass:∀b∈σ,b.pass=true) (hnh:∀b,b∈σ++σ'++ν->b≠.hole)
 (hown:own=true->∀k∈sel,(lv k).qh=true) (hlen:us.length=xs.length)
 (hargs:∀i (h:i<xs.length) (h':i<us.length),us[i].bC=true/\xs[i]=us[i].bM (aG sel nk kh))
 (hrd:∀a∈xs,∀k∈hO lv a,k∈rds) (hrh:kh∈rds)
 (hK:K (x.bM (aG sel nk kh)) (bD (aG sel nk kh) own sel σ'++bD (aG sel nk kh) own nk ν) rds κ'):ag c f xs lv K:=by
 have key:=bV.gen (c:=c) (f:=f) (as:=xs) (lv:=lv) us [] sel nk kh σ σ' ν x own rds (λz hz=>by cases hz) (by simp) (by simpa using hn) (λz hz=>by cases hz) (by simpa using hkh) (λz hz=>by cases hz) hl1 hl2 hl3 hb hsel hnk hh hpass (by simpa using hnh) hown hlen (λi p q=>.inl (hargs i p q)) (λa ha k hk=>.inl (hrd a ha k hk)) hrh hc;have e:dS []++bD (aG sel nk kh) own sel σ'++bD (aG sel nk kh) own nk ν=bD (aG sel nk kh) own sel σ'++bD (aG sel nk kh) own nk ν:=by simp[dS]
 rw[e]at key;exact⟨_,_,rds,κ',key,hK⟩
def aA.Ya{iV:Key->LB}(hf:P.funcs[f]?=some fn)(hb:fn.body=some code)(hσ:bq σ []=iV)
 (h:∀z:Ev,AW ⟨P,G,z.w,z.F,z.W,fn.ntmps,iV,z.b⟩ none code ⟨λt=>args.getD t .undef,iV⟩ 1000 (Mm ⟨P,G,z.w,z.F,z.W,fn.ntmps,iV,z.b⟩ fn x σ' ν)) (hl:Nat.ble args.length fn.ntmps=true:=by kernel_rfl):aA P G f args σ (.ret x σ' ν):=
 aA.BX hf hb (Zu hl) λ⟨_,_,w,F,W,_,q,b⟩ h1 h2 h3 h4=>by subst hσ;cases h1;cases h2;cases h3;cases h4;exact h ⟨w,F,W,λ_=>.hole,b⟩
def Iq(σ ν:List LB)(k:Nat):bq σ ν k=if k<1000 then σ.getD k .hole else ν.getD (k-1000) .hole:=rfl
def iP(σ:List LB)(b:LB)(h:σ.length<1000):bq (σ++[b]) []=az (bq σ []) σ.length b:=by
 refine funext λ(k:Nat)=>?_;unfold az;simp only[Iq]
 by_cases hk:k=σ.length
 ·subst hk;rw[if_pos h,if_pos rfl,Y8,abh (aY _)];simp
 ·rw[if_neg hk]
  by_cases h2:k<1000
  ·rw[if_pos h2,if_pos h2]
   by_cases h3:k<σ.length
   ·rw[Y8,acg h3,<-Y8]
   ·rw[cS (by simp;omega),cS (by omega)]
  ·rw[if_neg h2,if_neg h2]
def DB(σ ν:List LB)(b:LB):bq σ (ν++[b])=az (bq σ ν) (1000+ν.length) b:=by
 refine funext λ(k:Nat)=>?_;unfold az;simp only[Iq]
 by_cases h2:k<1000
 ·rw[if_pos h2,if_pos h2,if_neg (by omega)]
 ·rw[if_neg h2,if_neg h2]
  by_cases hk:k=1000+ν.length
  ·subst hk;rw[if_pos rfl,Y8,abh (by omega)];simp
  ·rw[if_neg hk]
   by_cases h3:k-1000<ν.length
   ·rw[Y8,acg h3,<-Y8]
   ·rw[cS (by simp;omega),cS (by omega)]
def Ij(a b c d e f:LB):bq [a,b,c,d,e,f] []=az (az (az (az (az (az (λ_=>.hole) 0 a) 1 b) 2 c) 3 d) 4 e) 5 f:=by
 have h:=iP [a,b,c,d,e] f (by simp);rw[show [a,b,c,d,e]++[f]=[a,b,c,d,e,f] from rfl]at h;rw[h];have h:=iP [a,b,c,d] e (by simp);rw[show [a,b,c,d]++[e]=[a,b,c,d,e] from rfl]at h;rw[h];have h:=iP [a,b,c] d (by simp);rw[show [a,b,c]++[d]=[a,b,c,d] from rfl]at h;rw[h];have h:=iP [a,b] c (by simp);rw[show [a,b]++[c]=[a,b,c] from rfl]at h;rw[h,yQ];rfl
def NU(a b c d e f g:LB):bq [a,b,c,d,e,f,g] []=az (az (az (az (az (az (az (λ_=>.hole) 0 a) 1 b) 2 c) 3 d) 4 e) 5 f) 6 g:=by
 have h:=iP [a,b,c,d,e,f] g (by simp);rw[show [a,b,c,d,e,f]++[g]=[a,b,c,d,e,f,g] from rfl]at h;rw[h,Ij];rfl
def OC(a b c:LB):bq [a,b,c] []=az (az (az (λ_=>.hole) 0 a) 1 b) 2 c:=by
 have h:=iP [a,b] c (by simp);rw[show [a,b]++[c]=[a,b,c] from rfl]at h;rw[h];have h:=iP [a] b (by simp);rw[show [a]++[b]=[a,b] from rfl]at h;rw[h,sC];rfl
def RV(w:World)(a:Addr)(cap:Nat)(n:Int)(h:w.cell? (a.add 0)=some (.int .u8 n)):(Conv.bytesToString (.slice (some a) 1 cap)).run P w=.ok (.string ⟨#[UInt8.ofNat n.toNat]⟩) w:=by
 have h1:=run_loadCells (P:=P) w a 1 (λ_=>Value.int .u8 n) (λj hj=>by
  have:j=0:=by omega
  subst this;exact h)
 simp only[Conv.bytesToString,bG,h1,gE];simp;rfl
section
variable {c:Ctx}{r:Option Nat}{ops:Array Oper}{o:Oper}{s0:aE}
def D8{x:Operand}{n:Int}(hd:∀d,o.dst=some d->d<c.n)(ho:o.op=.convert S T x)
 (hx:s.val c.G x=.c (.aD κ off 1 1)) (hk:s.lv κ=.cells own fz T' cs) (hc:cs[off]?=some (.d (.int .u8 n))) (hS:fh c.P S=some (e,1)) (he:c.P.underlying e=some (.int .u8)) (hT:cF c.P T=true) :
 cg c o s (s.put o.dst (.c (.d (.str [UInt8.ofNat n.toNat])))):=
 cg.aW hd λF β a w hs=>by
  have hv:=hx▸hs.val x;obtain⟨hv,_⟩:=hv;simp only[Vw.cG,hk]at hv;obtain⟨cap,hv,hcap,hsz⟩:=hv;have hb:=hs.bQ κ;unfold Vw.bQ at hb;simp only[hk]at hb;obtain⟨arr,b1,b2,b3,b4,b5⟩:=hb;obtain⟨hoff,hce⟩:=List.getElem?_eq_some_iff.1 hc;have h3:=b3 off hoff (by omega);rw[hce]at h3;have h4:=Vw.fJ (V:=Vw.mk F β s.lv w) h3
  have hcell:w.cell? ((⟨β κ,off,none⟩:Addr).add 0)=some (.int .u8 n):=by
   have:(⟨β κ,off,none⟩:Addr).add 0=⟨β κ,off,none⟩:=by simp[Addr.add]
   rw[this,fP b1 (by omega),h4]
  refine⟨.string ⟨#[UInt8.ofNat n.toNat]⟩,?_,Vw.rU _ [UInt8.ofNat n.toNat] (by simp)⟩;have hu:=(dG hS).1;simp only[execOp,ho,hv,convert,bG,run_underlying hu,run_underlying (gX hT),gE,run_underlying he,RV w _ cap n hcell];rfl
def cX.KX{x:Operand}{n:Int}(hd:∀d,o.dst=some d->d<c.n)(hw:eB ops o.guard s0.fr=some true)(ho:o.op=.convert S T x)
 (hx:s0.val c.G x=.c (.aD κ off 1 1)) (hk:s0.lv κ=.cells own fz T' cs) (hc:cs[off]?=some (.d (.int .u8 n))) (hS:fh c.P S=some (e,1)) (he:c.P.underlying e=some (.int .u8)) (hT:cF c.P T=true) :
 cX c r ops o s0 ⟨.c (.d (.str [UInt8.ofNat n.toNat])),[],[κ]⟩:=by
 refine cX.o4 hw (λcl hcl=>by rw[ho]at hcl;cases hcl) (λs h1 h3=>?_);have e1:s.val c.G x=s0.val c.G x:=h1 x (by rw[ho];simp[Op.operands]);have e4:s.lv κ=s0.lv κ:=h3.1 κ (by simp);exact D8 hd ho (e1.trans hx) (e4.trans hk) hc hS he hT
end
def oc.KX(κ':Nat){x:Operand}{n:Int}
 (hd:cK c.n [o]=true) (hg:o.guard=none) (ho:o.op=.convert S T x)
 (hx:s.val c.G x=.c (.aD κ off 1 1)) (hk:s.lv κ=.cells own fz T' cs) (hc:cs[off]?=some (.d (.int .u8 n))) (hS:fh c.P S=some (e,1)) (he:c.P.underlying e=some (.int .u8)) (hT:cF c.P T=true)
 (hK:oc c r ops os (aE.put ⟨s.fr,aQ s.lv []⟩ o.dst (.c (.d (.str [UInt8.ofNat n.toNat])))) κ' K):oc c r ops (o::os) s κ0 K:=by
 refine oc.Fj κ' (cX.KX (λd hd'=>?_) (by rw[hg];rfl) ho hx hk hc hS he hT) hK;simp only[cK,abi,List.all_nil,Bool.and_true,hd']at hd;simpa using hd
end Go.Am
