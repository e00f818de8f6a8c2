/- Helpers. -/
import Derived.Test.YtldhlnmnfokbeaaGreatDoorTn01
import Derived.ChangeArms
import Derived.ReadAgain
import Derived.ChangeBears
import Derived.ChangeShapes
import Derived.ChangeOld
import Derived.OpenShut
import Derived.Handed
import Derived.RowKit
import Derived.ChangeFn
import Derived.LaidLaws
import Derived.Laws.IdiomStrings

set_option linter.all false
set_option maxHeartbeats 8000000
set_option maxRecDepth 100000
namespace Go.Am
variable {s s':aJ}{x:AV}{f:FuncId}{P:Program}{g:Key->Key}{c:Ctx}{os:List Oper}{cs cs0 cs1 cs':List CV}{κ off n i id sz κ0 A j κ' base:Nat}{K:aJ->Nat->Prop}{own fz apart fresh handsOn:Bool}{T T' e S T0 T1 t:TypeId}{o:Oper}{lv lv':Key->LB}{fn:Func}{xs:List AV}{E C b d:Prop}{W W' w:World}{G:List (List DV)}{code:Code}{acc:List p9}{us:List (Key×LB)}{rds:List Key}{ops:Array Oper}{k:Key}{r:Option Nat}{ν σ σ':List LB}{M:Mem}{H α β:Type}{fr:Nat->AV}{first caps:Array Operand}{lo hi:Option Operand}{l:Int}{Q:Ex->aJ->Nat->Prop}{v:Value}{y z:Rat}{ps:List Bk}{ts:Array TypeId}
abbrev bw:=@List.not_mem_nil
abbrev aff:=@List.all_nil
abbrev afg:=@Bool.and_true
abbrev agJ:=@List.mem_of_find?_eq_some
abbrev afE:=@Nat.add_comm
abbrev aeI:=@Option.some.inj
abbrev aev:=@Rat.le_refl
abbrev afa:=@Rat.div_def
abbrev agB:=@List.reverse_cons
abbrev aeJ:=@Nat.pos_of_ne_zero
abbrev aee:=@Nat.pow_add
abbrev adK:=@Nat.pow_le_pow_right
theorem aa.ML{args:List AV}(hf:P.funcs[f]?=some fn)(hb:fn.body=some code)
 (h:∀z:Ev,AW ⟨P,G,z.w,z.F,z.W,fn.ntmps,λ_=>.hole,z.b,z.d⟩ none code ⟨λt=>args.getD t .undef,λ_=>.hole⟩ 0 (aD ⟨P,G,z.w,z.F,z.W,fn.ntmps,λ_=>.hole,z.b,z.d⟩ fn x)) (hl:Nat.ble args.length fn.ntmps=true:=by kernel_rfl):aa P G f args x:=
 aa.Nh hf hb (ae2 hl) λ⟨_,_,w,F,W,_,q,b,d⟩ h1 h2 h3 h4=>by cases h1;cases h2;cases h3;cases h4;exact h ⟨w,F,W,λ_=>.hole,b,d⟩
def MK(D:List Key)(kh:Key):Key->Key:=λk=>if k∈D then kh else k
theorem LB.RD{x:LB}(h:x.dA g=x)(hm:∀own es,x=.map own es->∀p∈es,∀l,p.2≠.tup l):x.as x g:=by
 cases x with
 |cells own fz T cs=>
  have h':cs.map (CV.dA g)=cs:=by injection h
  exact⟨own,cs,rfl,h'.symm,λh=>h⟩
 |map own es=>
  have h':es.map (λp=>(p.1,p.2.sX g))=es:=by injection h
  exact⟨own,es,rfl,h'.symm,λh=>h,hm own es rfl⟩
 |hole=>rfl
 |dead=>intro h;cases h
 |nils=>rfl
def Ox(g:Key->Key)(lv:Key->LB):Prop:=∀k,(lv k).dA g=lv k
theorem LR:Ox g (λ_=>.hole):=λ_=>rfl
theorem Nc{b:LB}(h:Ox g lv)(hb:b.dA g=b):Ox g (aM lv k b):=λk'=>by
 unfold aM;split
 ·exact hb
 ·exact h k'
@[simp]theorem LB.V4:(LB.cells own fz T cs).dA g=.cells own fz T (cs.map (CV.dA g)):=rfl
@[simp]theorem LB.YS:LB.dead.dA g=.dead:=rfl
@[simp]theorem LB.YP:LB.nils.dA g=.nils:=rfl
@[simp]theorem CV.adw{x:DV}:(CV.d x).dA g=.d x:=rfl
@[simp]theorem CV.ZA{o:Nat}:(CV.ptr k o).dA g=.ptr (g k) o:=rfl
@[simp]theorem CV.Z7{o l z:Nat}:(CV.aO k o l z).dA g=.aO (g k) o l z:=rfl
@[simp]theorem AV.aeh{x:CV}:(AV.c x).dA g=.c (x.dA g):=rfl
@[simp]theorem AV.Z5:(AV.agg cs).dA g=.agg (cs.map (CV.dA g)):=rfl
theorem Le.drop(D:List Key)(kh:Key)(l:List (Nat×AV))(hc:c.jd=λ_=>.hole)(hD:∀k∈D,lv' k=.hole)(hlv:∀k,k∉D->lv k=lv' k)(hh:lv kh=.hole)
 (hm:nt lv') (hr:Ox (MK D kh) lv') (hl:∀p∈l,p.2.cG=true/\fr p.1=p.2/\p.2.dA (MK D kh)=p.2):Le c ⟨fr,lv⟩ ⟨aT l,lv'⟩:=by
 refine⟨MK D kh,λk=>?_,λk k' h1 h2 e=>?_,λt=>?_,λk hk=>absurd (by rw[hc]) hk⟩
 ·show(lv (MK D kh k)).as (lv' k) _
  by_cases hk:k∈D
  ·rw[hD k hk];have:MK D kh k=kh:=if_pos hk;rw[this];exact hh
  ·have:MK D kh k=k:=if_neg hk;rw[this,hlv k hk];exact LB.RD (hr k) (λown es h=>absurd h (hm k own es))
 ·have n1:k∉D:=λh=>by have h1':(lv' k).live=true:=h1;rw[hD k h]at h1';cases h1'
  have n2:k'∉D:=λh=>by have h2':(lv' k').live=true:=h2;rw[hD k' h]at h2';cases h2'
  unfold MK at e;grind
 ·rcases mS (P:=λt x=>x.cG=true/\fr t=x/\x.dA (MK D kh)=x) hl t with h|⟨h1,h2,h3⟩
  ·grind
  grind
theorem Le.Cu{l:List (Nat×AV)}(D:List Key)(kh:Key)(hc:c.jd=λ_=>.hole:=by exact rfl)(hD:∀k∈D,lv' k=.hole:=by intro k hk;simp at hk;subst hk;simp[aM])(hlv:∀k,k∉D->lv k=lv' k:=by intro k hk;simp at hk;simp only[aM];(repeat (any_goals split))<;>simp_all)(hh:lv kh=.hole:=by simp[aM])
 (hm:nt lv':=by repeat (first|exact bG|refine BV ?_ _ _ _ _ _|(refine qx ?_ _)|(refine noMap_blS ?_ _ _ _)|(refine noMap_upd_nils ?_ _)|simp)) (hr:Ox (MK D kh) lv':=by repeat (first|exact LR|refine Nc ?_ (by simp[MK]))) (hl:∀p∈l,p.2.cG=true/\fr p.1=p.2/\p.2.dA (MK D kh)=p.2:=by simp[MK]):Le c ⟨fr,lv⟩ ⟨aT l,lv'⟩:=Le.drop D kh l hc hD hlv hh hm hr hl
def oQ(fn:Fn)(fs cs:List AV):Option dn:=match lK fs,lK cs with
 |some fr,some cr=>some (.c (mZ fn fr cr),[],[],True)
 |_,_=>none
theorem Cb{fn:Fn}{v:Operand->AV}{κ:Key}:
 dg P (.makeFunc fn first caps) ((Op.makeFunc fn first caps).operands.toList.map v) lv κ=oQ fn (first.toList.map v) (caps.toList.map v):=by
 have e:(Op.makeFunc fn first caps).operands.toList.map v=first.toList.map v++caps.toList.map v:=by simp[Op.operands]
 rw[e];simp only[dg,adl,sC,afv,if_true];rw[List.take_left' zp,afA zp];rfl
section
variable {c:Ctx}{ps:List Bk}{d:Option Tmp}{s:aJ}{κ:Nat}{K:aJ->Nat->Prop}{acc:List p9}{KD:aJ->Nat->List p9->Prop}
@[simp]theorem ada{fn:Fn}:br c (⟨d,.makeFunc fn first caps,none⟩::ps) s κ K=eU c ps d s κ K (oQ fn (first.toList.map (s.val c.G)) (caps.toList.map (s.val c.G))):=by
 rw[jI];simp only[je,Cb,eU,qc]
 try rfl
@[simp]theorem aa7{fn:Fn}:bx c (⟨d,.makeFunc fn first caps,none⟩::ps) s κ acc KD=dQ c ps d s κ acc KD (oQ fn (first.toList.map (s.val c.G)) (caps.toList.map (s.val c.G))):=by
 rw[jQ];simp only[je,Cb,dQ,qc]
 try rfl
theorem xg{f:FuncId}{xs fs cs:List AV}:AR c (some (f,fs,cs)) xs ps d s κ K=(aE c.P f=true/\eL c f (fs++xs++cs) ps d s κ K):=propext ⟨id,id⟩
theorem wQ{fs cs:List Ref}:mu (.c (.func (.func f) fs cs))=some (f,fs.map oS,cs.map oS):=rfl
theorem Lz{f:FuncId}{fs cs:List DV}:mu (.c (.d (.func (.func f) fs cs)))=some (f,fs.map Lj,cs.map Lj):=rfl
end
theorem ag.Tz{us:List AV}{K:AV->List (Key×LB)->List Key->Nat->Prop}(κ' kh:Key)(own:Bool)(sel:List Key)(σ σ':List LB)(rds:List Key)
 (hc:aQ c.P c.G f us σ (.ret x σ' [])) (hn:sel.Nodup) (hkh:kh∉sel) (hl1:sel.length=σ.length) (hl2:σ'.length=σ.length) (hb:σ.length<=1000)
 (hsel:∀i (h:i<sel.length) (h':i<σ.length),(lv sel[i]).as σ[i] (aY sel [] kh)) (hh:lv kh=.hole) (hpass:∀b∈σ,b.pass=true) (hnh:∀b,b∈σ++σ'->b≠.hole)
 (hown:own=true->∀k∈sel,(lv k).HT=true) (hlen:us.length=xs.length)
 (hargs:∀i (h:i<xs.length) (h':i<us.length),us[i].cG=true/\xs[i]=us[i].dA (aY sel [] kh))
 (hrd:∀a∈xs,∀k∈ql lv a,k∈rds) (hrh:kh∈rds)
 (hK:K (x.dA (aY sel [] kh)) (cM (aY sel [] kh) own sel σ') rds κ'):ag c f xs lv K:=by
 have key:=dS.gen (c:=c) (f:=f) (as:=xs) (lv:=lv) us [] sel [] kh σ σ' [] x own rds (λz hz=>by cases hz) zp yn (λz hz=>by cases hz) yn (λz hz=>by cases hz) hl1 hl2 rfl hb hsel (λk hk=>by cases hk) hh hpass yn hown hlen (λi p q=>.inl (hargs i p q)) (λa ha k hk=>.inl (hrd a ha k hk)) hrh hc;have e:hJ []++cM (aY sel [] kh) own sel σ'++cM (aY sel [] kh) own [] []=cM (aY sel [] kh) own sel σ':=by simp[hJ,cM]
 rw[e]at key;exact⟨_,_,rds,κ',key,hK⟩
theorem ag.OF{us:List AV}{K:AV->List (Key×LB)->List Key->Nat->Prop}(κ' kh k0 k1:Key)(own:Bool)(rds:List Key)
 (hc:aQ c.P c.G f us [.cells false false T0 cs0,.cells false false T1 cs1] (.ret x [.cells false false T0 cs0,.cells false false T1 cs1] [])) (hx:x.pure=true)
 (h0:lv k0=.cells own false T0 cs0) (h1:lv k1=.cells own false T1 cs1) (p0:∀x∈cs0,x.pure=true) (p1:∀x∈cs1,x.pure=true) (hk:k0≠k1) (hh:lv kh=.hole) (hlen:us.length=xs.length)
 (hargs:∀i (h:i<xs.length) (h':i<us.length),us[i].cG=true/\xs[i]=us[i].dA (aY [k0,k1] [] kh))
 (hrd:∀a∈xs,∀k∈ql lv a,k∈rds) (hrh:kh∈rds)
 (hK:K x [(k0,.cells own false T0 cs0),(k1,.cells own false T1 cs1)] rds κ'):ag c f xs lv K:=by
 have r0:∀g,(LB.cells false false T0 cs0).dA g=.cells false false T0 cs0:=λg=>LB.bV p0 g
 have r1:∀g,(LB.cells false false T1 cs1).dA g=.cells false false T1 cs1:=λg=>LB.bV p1 g
 have m0:∀g,cs0.map (CV.dA g)=cs0:=λg=>by simp_all
 have m1:∀g,cs1.map (CV.dA g)=cs1:=λg=>by simp_all
 refine ag.Tz κ' kh own [k0,k1] _ _ rds hc dT ?_ rfl rfl zp ?_ hh (by simp[LB.pass]) zp ?_ hlen hargs hrd hrh ?_
 ·grind
 ·intro i p q;have hi:i=0\/i=1:=by simp at p;omega
  rcases hi with rfl|rfl
  ·exact⟨own,cs0,h0,(m0 _).symm,λh=>by cases h⟩
  ·exact⟨own,cs1,h1,(m1 _).symm,λh=>by cases h⟩
 ·intro ho k hk';simp only[aZ,bw,or_false]at hk';rcases hk' with rfl|rfl
  ·rw[h0];exact ho
  ·rw[h1];exact ho
 ·rw[AV.bV hx]
  have e:cM (aY [k0,k1] [] kh) own [k0,k1] [.cells false false T0 cs0,.cells false false T1 cs1]=[(k0,.cells own false T0 cs0),(k1,.cells own false T1 cs1)]:=by
   simp only[cM,agv,List.zipWith_nil_left,r0,r1,LB.fix,Bool.false_or]
  grind
theorem GH(b b':LB):cY [b,b'] []=aM (aM (λ_=>.hole) 0 b) 1 b':=by
 funext k;unfold cY aM
 grind
def Av(c:Ctx)(fn:Func)(x:AV)(b0 b1:LB):Ex->aJ->Nat->Prop
 |.normal,s,_|.ret,s,_=>∃l kh,(∀p∈l,p.2.pure=true/\s.fr p.1=p.2)/\s.lv kh=.hole/\s.lv 0=b0/\s.lv 1=b1/\fq c.P ⟨aT l,λ_=>.hole⟩ fn.results.toList=some x
 |_,_,_=>False
theorem Q3{l:List (Nat×AV)}{rs:List ResultVar}(hr:∀r∈rs,∃t,r=.tmp t):fq P ⟨aT l,lv⟩ rs=fq P ⟨aT l,lv'⟩ rs:=by
 have h1:∀rs:List ResultVar,(∀r∈rs,∃t,r=.tmp t)->kH P ⟨aT l,lv⟩ rs=kH P ⟨aT l,lv'⟩ rs:=by
  intro rs
  induction rs with
  |nil=>intro _;rfl
  |cons r rs ih=>
   intro h;obtain⟨t,rfl⟩:=h r zp;have:=ih λr hr=>h r xf
   simp only[kH,mj,this]
 unfold fq;grind
theorem aQ.US{args:List AV}(hf:P.funcs[f]?=some fn)(hb:fn.body=some code)(hl:args.length<=fn.ntmps)
 (hr:∀r∈fn.results.toList,∃t,r=.tmp t) (p0:∀x∈cs0,x.pure=true) (p1:∀x∈cs1,x.pure=true)
 (h:∀c:Ctx,c.P=P->c.G=G->c.n=fn.ntmps->AW c none code ⟨λt=>args.getD t .undef,aM (aM (λ_=>.hole) 0 (.cells false false T0 cs0)) 1 (.cells false false T1 cs1)⟩ 1000 (Av c fn x (.cells false false T0 cs0) (.cells false false T1 cs1))) :
 aQ P G f args [.cells false false T0 cs0,.cells false false T1 cs1] (.ret x [.cells false false T0 cs0,.cells false false T1 cs1] []):=by
 have m0:∀g,cs0.map (CV.dA g)=cs0:=λg=>by have:=LB.bV (T:=T0) (own:=false) (fz:=false) p0 g;simp_all
 have m1:∀g,cs1.map (CV.dA g)=cs1:=λg=>by have:=LB.bV (T:=T1) (own:=false) (fz:=false) p1 g;simp_all
 refine aQ.pW hf hb hl λc h1 h2 h3 h4=>?_;rw[GH]at h4⊢;refine AW.mono (h c h1 h2 h3) λe s κ hq=>?_
 have fin:(∃l kh,(∀p∈l,p.2.pure=true/\s.fr p.1=p.2)/\s.lv kh=.hole/\s.lv 0=.cells false false T0 cs0/\s.lv 1=.cells false false T1 cs1/\fq c.P ⟨aT l,λ_=>.hole⟩ fn.results.toList=some x) ->
  ∃s2 g,gX c s s2 g/\s2.lv=cY [.cells false false T0 cs0,.cells false false T1 cs1] []/\fq c.P s2 fn.results.toList=some x:=by
  rintro⟨l,kh,g1,g2,g3,g4,g5⟩;refine⟨⟨aT l,aM (aM (λ_=>.hole) 0 (.cells false false T0 cs0)) 1 (.cells false false T1 cs1)⟩,λk=>if k=0 then 0 else if k=1 then 1 else kh,⟨λk=>?_,λk k' e1 e2 e=>?_,λt=>?_,λk hk=>?_⟩,by rw[GH],by rw[Q3 hr (lv':=λ_=>.hole)];exact g5⟩
  ·show(s.lv _).as (aM _ 1 _ k) _
   by_cases hk1:k=1
   ·subst hk1;exact⟨false,cs1,g4,(m1 _).symm,λh=>h⟩
   ·by_cases hk0:k=0
    ·subst hk0;exact⟨false,cs0,g3,(m0 _).symm,λh=>h⟩
    ·simp only[aM,hk0,hk1,if_false];exact g2
  ·have q:∀k,(aM (aM (λ_=>LB.hole) 0 (.cells false false T0 cs0)) 1 (.cells false false T1 cs1) k).live=true->k=0\/k=1:=by
    intro k hk;unfold aM at hk
    by_cases hk1:k=1
    ·omega
    ·by_cases hk0:k=0
     ·omega
     ·rw[if_neg hk1,if_neg hk0]at hk;cases hk
   grind
  ·rcases mS (P:=λt x=>x.pure=true/\s.fr t=x) g1 t with h|⟨h1,h2⟩
   ·grind
   ·exact .inr ⟨AV.fu h1,rk⟩
  ·right;rw[h4]at hk;show(if k=0 then 0 else if k=1 then 1 else kh)=k
   by_cases hk1:k=1
   ·grind
   simp_all
 cases e with
 |normal=>exact fin hq
 |ret=>exact fin hq
 |exit id=>exact hq.elim
 |goto l=>exact hq.elim
 |panic d=>exact hq.elim
theorem aQ.en2{args:List AV}(hf:P.funcs[f]?=some fn)(hb:fn.body=some code)(p0:∀x∈cs0,x.pure=true)(p1:∀x∈cs1,x.pure=true)
 (hr:∀r∈fn.results.toList,∃t,r=.tmp t)
 (h:∀z:Ev,AW ⟨P,G,z.w,z.F,z.W,fn.ntmps,z.q,z.b,z.d⟩ none code ⟨λt=>args.getD t .undef,aM (aM (λ_=>.hole) 0 (.cells false false T0 cs0)) 1 (.cells false false T1 cs1)⟩ 1000 (Av ⟨P,G,z.w,z.F,z.W,fn.ntmps,z.q,z.b,z.d⟩ fn x (.cells false false T0 cs0) (.cells false false T1 cs1))) (hl:Nat.ble args.length fn.ntmps=true:=by kernel_rfl) :
 aQ P G f args [.cells false false T0 cs0,.cells false false T1 cs1] (.ret x [.cells false false T0 cs0,.cells false false T1 cs1] []):=
 aQ.US hf hb (ae2 hl) hr p0 p1 λ⟨_,_,w,F,W,_,q,b,d⟩ h1 h2 h3=>by cases h1;cases h2;cases h3;exact h ⟨w,F,W,q,b,d⟩
theorem Av.tmp{t:Nat}{b0 b1:LB}(hr:fn.results=#[.tmp t])(kh:Key)(hx:s.fr t=x)(hp:x.pure=true)(hh:s.lv kh=.hole)(h0:s.lv 0=b0)(h1:s.lv 1=b1)(hn:x.eK=true):Av c fn x b0 b1 .ret s κ:=by
 refine⟨[(t,x)],kh,yn,hh,h0,h1,?_⟩;rw[hr];simp[fq,kH,mj,aT]
section
variable {c:Ctx}{r:Option Nat}{ops:Array Oper}{o:Oper}{s0:aJ}
theorem dh.HD{κ:Key}(hd:∀d,o.dst=some d->d<c.n)(hw:jb ops o.guard s0.fr=some true)
 (h:ij c.P o.op (o.op.operands.toList.map (s0.val c.G)) s0.lv κ=some (x,us,rds)):dh c r ops o s0 ⟨x,us,rds⟩:=by
 refine dh.qP hw (λcl hcl=>?_) (λs h1 h2=>?_)
 ·rw[hcl]at h;simp[ij]at h
 ·have hl:=EY h (show Agree s0.lv s.lv us rds from h2);exact Lm hd rfl (aen h1) hl
theorem Et{x:Operand}{κ:Key}(hd:∀d,o.dst=some d->d<c.n)(ho:o.op=.slice T x lo hi none)
 (hx:s.val c.G x=.c (.ptr κ off)) (hk:s.lv κ=.cells own fz T' cs) (hT:wW c.P T=some (n,e,sz)) (hlo:fW (lo.map (s.val c.G)) 0=some l) (hhi:fW (hi.map (s.val c.G)) n=some l)
 (h0:0<=l) (h2:l<=n):di c o s (s.put o.dst (.c (.d (.sl [])))):=
 di.bA hd λF β a w hs=>by
  have hv:=hx▸hs.val x;obtain⟨hv,_⟩:=hv;simp only[Vw.ff,hk]at hv;have hr:=kq hT (b:=β κ) (o:=off) (jt (λx=>hs.val x) hlo) (jt (λx=>hs.val x) hhi) h0 (Int.le_refl _) h2 w;refine⟨_,mf,?_,rfl⟩;have e1:(if n=l.toNat then(⟨β κ,off,none⟩:Addr)else⟨β κ,off+l.toNat*sz,none⟩)=⟨β κ,if n=l.toNat then off else off+l.toNat*sz,none⟩:=by split<;>rfl
  rw[e1];exact Rd.sl (β κ) _ (n-l.toNat) sz [] (λ_ _=>.nilIface) zp zp zp zp zp zp
theorem dh.HZ{x:Operand}{κ:Key}(hd:∀d,o.dst=some d->d<c.n)(hw:jb ops o.guard s0.fr=some true)(ho:o.op=.slice T x lo hi none)
 (hx:s0.val c.G x=.c (.ptr κ off)) (hk:s0.lv κ=.cells own fz T' cs) (hT:wW c.P T=some (n,e,sz)) (hlo:fW (lo.map (s0.val c.G)) 0=some l) (hhi:fW (hi.map (s0.val c.G)) n=some l)
 (h0:0<=l) (h2:l<=n):dh c r ops o s0 ⟨.c (.d (.sl [])),[],[κ]⟩:=by
 refine dh.qP hw (λcl hcl=>by grind) (λs h1 h3=>?_);have e1:s.val c.G x=s0.val c.G x:=h1 x tp
 have e2:lo.map (s.val c.G)=lo.map (s0.val c.G):=by
  cases lo with
  |none=>rfl
  |some y=>exact congrArg some (h1 y tp)
 have e3:hi.map (s.val c.G)=hi.map (s0.val c.G):=by
  cases hi with
  |none=>rfl
  |some y=>exact congrArg some (h1 y tp)
 have e4:s.lv κ=s0.lv κ:=h3.1 κ zp;exact Et hd ho (e1.trans hx) (e4.trans hk) hT yn yn h0 h2
end
def kG(c:Ctx)(r:Option Nat)(ops:Array Oper)(os:List Oper)(s:aJ)(κ:Nat)(K:aJ->Nat->Prop):Prop:=
 ∃es s' κ',jr c r ops os es s s'/\K s' κ'
section
variable {c:Ctx}{r:Option Nat}{ops:Array Oper}
theorem jr.append{os2:List Oper}{es2:List Fx}{s2:aJ}:∀{os1:List Oper}{es1:List Fx}{s s1:aJ},jr c r ops os1 es1 s s1->jr c r ops os2 es2 s1 s2->jr c r ops (os1++os2) (es1++es2) s s2
 |[],[],s,s1,h,h2=>by have h:s1=s:=h;grind
 |o::os,e::es,s,s1,h,h2=>⟨h.1,jr.append h.2 h2⟩
 |[],_::_,_,_,h,_=>h.elim
 |_::_,[],_,_,h,_=>h.elim
theorem kG.done(h:K s κ):kG c r ops [] s κ K:=⟨[],s,κ,rfl,h⟩
theorem kG.run(n:Nat)(hd:dW c.n (os.take n)=true)(h:br c (l9 (ops.toList.map (·.dst)) (os.take n)) s κ λs' κ'=>kG c r ops (os.drop n) s' κ' K):kG c r ops os s κ K:=by
 rw[oG]at h;obtain⟨es,s',κ',h1,es2,s2,κ2,h2,h3⟩:=iR.chain (r:=r) hd h;refine⟨es++es2,s2,κ2,?_,h3⟩;have:=jr.append h1 h2
 simp_all
theorem kG.Qo(κ':Nat)(he:dh c r ops o s ⟨x,us,rds⟩)(h:kG c r ops os (aJ.put ⟨s.fr,b8 s.lv us⟩ o.dst x) κ' K):kG c r ops (o::os) s κ K:=by
 obtain⟨es,s',κ2,h1,h2⟩:=h;exact⟨⟨x,us,rds⟩::es,s',κ2,⟨he,h1⟩,h2⟩
theorem AW.oc(h:kG c r ops ops.toList s κ λs' κ'=>Q .normal s' κ'):AW c r (.region id ops false) s κ Q:=by
 intro F β a w hs;obtain⟨es,s',κ',h1,h2⟩:=h;exact h1.region (λF' β' a' w' h'=>⟨.normal,s',κ',F',β',h2,h',rfl⟩) hs
end
theorem kG.ij(κ':Nat)(hd:dW c.n [o]=true)(hg:o.guard=none)
 (h:Am.ij c.P o.op (o.op.operands.toList.map (s.val c.G)) s.lv κ=some (x,us,rds)) (hK:kG c r ops os (aJ.put ⟨s.fr,b8 s.lv us⟩ o.dst x) κ' K):kG c r ops (o::os) s κ K:=by
 refine kG.Qo κ' (dh.HD (λd hd'=>?_) sT h) hK;simp only[dW,ae1,aff,afg,hd']at hd
 grind
theorem kG.HZ(κ':Nat){x:Operand}{κ:Key}
 (hd:dW c.n [o]=true) (hg:o.guard=none) (ho:o.op=.slice T x lo hi none)
 (hx:s.val c.G x=.c (.ptr κ off)) (hk:s.lv κ=.cells own fz T' cs) (hT:wW c.P T=some (n,e,sz)) (hlo:fW (lo.map (s.val c.G)) 0=some l) (hhi:fW (hi.map (s.val c.G)) n=some l)
 (h0:0<=l) (h2:l<=n) (hK:kG c r ops os (aJ.put ⟨s.fr,b8 s.lv []⟩ o.dst (.c (.d (.sl [])))) κ' K):kG c r ops (o::os) s κ0 K:=by
 refine kG.Qo κ' (dh.HZ (λd hd'=>?_) sT ho hx hk hT hlo hhi h0 h2) hK;simp only[dW,ae1,aff,afg,hd']at hd
 grind
def aV(m:List (Key×Key×LB))(kh:Key):Key->Key:=λk=>match m.find? (λe=>e.1==k)with
 |some e=>e.2.1
 |none=>kh
@[simp]theorem LB.Pd{o f:Bool}:(LB.cells o f T cs').as (.cells own fz T' cs) g↔(f=fz/\T=T'/\cs'=cs.map (CV.dA g)/\(own=true->o=true)):=by
 constructor
 ·rintro⟨own',cs2,h1,h2,h3⟩;injection h1 with e1 e2 e3 e4
  subst e1;subst e4;exact⟨e2,e3,h2,h3⟩
 ·rintro⟨rfl,rfl,h2,h3⟩;exact⟨o,cs',rfl,h2,h3⟩
@[simp]theorem LB.aao{x:LB}:x.as .nils g↔x=.nils:=Iff.rfl
abbrev LB.like(x y:LB)(g:Key->Key):Prop:=x.as y g
@[simp]theorem LB.aN{o f:Bool}:(LB.cells o f T cs').like (.cells own fz T' cs) g↔(f=fz/\T=T'/\cs'=cs.map (CV.dA g)/\(own=true->o=true)):=LB.Pd
@[simp]theorem LB.Wq{x:LB}:x.like .nils g↔x=.nils:=Iff.rfl
theorem Mg{m:List (Key×Key×LB)}(hn:(m.map (·.1)).Nodup):
 b8 (λ_=>LB.hole) (m.map λe=>(e.1,e.2.2)) k=match m.find? (λe=>e.1==k)with|some e=>e.2.2|none=>.hole:=by
 cases h:m.find? (λe=>e.1==k)with
 |some e=>
  have h1:=agJ h;have h2:=List.find?_some h;simp only[beq_iff_eq]at h2;subst h2;have hn':((m.map λe=>(e.1,e.2.2)).map (·.1)).Nodup:=by rw[adT];exact hn
  exact mO hn' (List.mem_map.2 ⟨e,h1,rfl⟩)
 |none=>
  rw[List.find?_eq_none]at h;rw[eZ]
  grind
theorem gX.keys(m:List (Key×Key×LB))(kh:Key)(l:List (Nat×AV))(hlv':lv'=b8 (λ_=>.hole) (m.map λe=>(e.1,e.2.2)))(hc:∀k,c.jd k≠.hole->lv' k=.dead\/aV m kh k=k)
 (hn1:(m.map (·.1)).Nodup) (hn2:(m.map (·.2.1)).Nodup) (hh:s.lv kh=.hole) (has:∀e∈m,(s.lv e.2.1).as e.2.2 (aV m kh)) (hl:∀p∈l,p.2.cG=true/\s.fr p.1=p.2.dA (aV m kh)):gX c s ⟨aT l,lv'⟩ (aV m kh):=by
 have hk:∀k,lv' k=match m.find? (λe=>e.1==k)with|some e=>e.2.2|none=>.hole:=λk=>by rw[hlv',Mg hn1]
 refine⟨λk=>?_,λk k' h1 h2 e=>?_,λt=>?_,hc⟩
 ·show(s.lv (aV m kh k)).as (lv' k) _;rw[hk]
  cases h:m.find? (λe=>e.1==k)with
  |some e=>
   have e1:aV m kh k=e.2.1:=by unfold aV;rw[h]
   grind
  |none=>
   have e1:aV m kh k=kh:=by unfold aV;rw[h]
   rw[e1];exact hh
 ·have h1':(lv' k).live=true:=h1;have h2':(lv' k').live=true:=h2;rw[hk]at h1' h2'
  cases f1:m.find? (λe=>e.1==k)with
  |none=>rw[f1]at h1';cases h1'
  |some e1=>
   cases f2:m.find? (λe=>e.1==k')with
   |none=>rw[f2]at h2';cases h2'
   |some e2=>
    have g1:aV m kh k=e1.2.1:=by unfold aV;rw[f1]
    have g2:aV m kh k'=e2.2.1:=by unfold aV;rw[f2]
    rw[g1,g2]at e;have i1:=agJ f1;have i2:=agJ f2;have j1:=List.find?_some f1;have j2:=List.find?_some f2;simp only[beq_iff_eq]at j1 j2
    have:e1=e2:=by
     obtain⟨a,ha,rfl⟩:=List.mem_iff_getElem.1 i1;obtain⟨b,hb,rfl⟩:=List.mem_iff_getElem.1 i2
     have hab:a=b:=by
      refine(List.getElem_inj (xs:=m.map (·.2.1)) (i:=a) (j:=b) (h₀:=by grind) (h₁:=by grind) hn2).1 ?_;simpa using e
     subst hab;rfl
    grind
 ·rcases mS (P:=λt x=>x.cG=true/\s.fr t=x.dA (aV m kh)) hl t with h|⟨h1,h2⟩
  ·grind
  grind
theorem Le.keys(m:List (Key×Key×LB))(kh:Key)(l:List (Nat×AV))(hlv':lv'=b8 (λ_=>.hole) (m.map λe=>(e.1,e.2.2)))(hc:c.jd=λ_=>.hole)
 (hn1:(m.map (·.1)).Nodup) (hn2:(m.map (·.2.1)).Nodup) (hh:lv kh=.hole) (has:∀e∈m,(lv e.2.1).like e.2.2 (aV m kh)) (hl:∀p∈l,p.2.cG=true/\fr p.1=p.2.dA (aV m kh)):Le c ⟨fr,lv⟩ ⟨aT l,lv'⟩:=
 ⟨_,gX.keys (s:=⟨fr,lv⟩) m kh l hlv' (λk hk=>absurd (by rw[hc]) hk) hn1 hn2 hh has hl⟩
theorem ag.Uc{K:AV->List (Key×LB)->List Key->Nat->Prop}(κ' kh:Key)(nk:List Key)(ν:List LB)(hc:aQ c.P c.G f xs [] (.ret x [] ν))(hxs:∀a∈xs,a.pure=true)
 (hn:nk.Nodup) (hkh:kh∉nk) (hl:nk.length=ν.length) (hnk:∀k∈nk,lv k=.hole) (hh:lv kh=.hole) (hnh:∀b∈ν,b≠.hole)
 (hK:K (x.dA (aY [] nk kh)) (cM (aY [] nk kh) true nk ν) [kh] κ'):ag c f xs lv K:=by
 have key:=dS.gen (c:=c) (f:=f) (as:=xs) (lv:=lv) xs [] [] nk kh [] [] ν x true [kh] (λz hz=>by cases hz) zp io (λz hz=>by cases hz) (by simpa using hkh) (λz hz=>by cases hz) rfl rfl hl zp (λi h=>absurd h (aer i)) hnk hh (λb hb=>by cases hb) (by simpa using hnh) (λ_ k hk=>by cases hk) rfl
  (λi p q=>.inl ⟨AV.fu (hxs _ (cn q)),(AV.bV (hxs _ (cn q)) _).symm⟩) (λa ha k hk=>by rw[dX (hxs a ha)]at hk;cases hk) zp hc
 have e:hJ []++cM (aY [] nk kh) true [] []++cM (aY [] nk kh) true nk ν=cM (aY [] nk kh) true nk ν:=by simp[hJ,cM]
 rw[e]at key;exact⟨_,_,[kh],κ',key,hK⟩
theorem OO(ν:List LB)(k:Nat)(h:∀j,j<ν.length->k≠1000+j):cY [] ν k=.hole:=by
 unfold cY
 grind
theorem Ku(a:LB):cY [] [a]=aM (λ_=>.hole) 1000 a:=by
 refine funext λ(k:Nat)=>?_;unfold aM
 by_cases h:k=1000
 ·subst h;rfl
 ·rw[if_neg h];refine OO _ k λj hj=>?_
  grind
def Y3(c:Ctx)(fn:Func)(x:AV)(ν:List LB):Ex->aJ->Nat->Prop
 |.normal,s,_|.ret,s,_=>∃(m:List (Key×Key×LB)) (kh:Key),cY [] ν=b8 (λ_=>.hole) (m.map λe=>(e.1,e.2.2))/\(m.map (·.1)).Nodup/\(m.map (·.2.1)).Nodup/\s.lv kh=.hole /\
  (∀e∈m,(s.lv e.2.1).like e.2.2 (aV m kh))/\x.cG=true/\fq c.P s fn.results.toList=some (x.dA (aV m kh))
 |_,_,_=>False
def yp(c:Ctx)(fn:Func)(x:AV)(σ' ν:List LB):Ex->aJ->Nat->Prop
 |.normal,s,_|.ret,s,_=>∃(m:List (Key×Key×LB)) (kh:Key),cY σ' ν=b8 (λ_=>.hole) (m.map λe=>(e.1,e.2.2))/\(m.map (·.1)).Nodup/\(m.map (·.2.1)).Nodup/\s.lv kh=.hole /\
  (∀k,c.jd k≠.hole->cY σ' ν k=.dead\/aV m kh k=k)/\(∀e∈m,(s.lv e.2.1).like e.2.2 (aV m kh))/\x.cG=true/\fq c.P s fn.results.toList=some (x.dA (aV m kh))
 |_,_,_=>False
theorem aQ.PR{args:List AV}(hf:P.funcs[f]?=some fn)(hb:fn.body=some code)(hl:args.length<=fn.ntmps)
 (h:∀c:Ctx,c.P=P->c.G=G->c.n=fn.ntmps->c.jd=cY σ []->AW c none code ⟨λt=>args.getD t .undef,cY σ []⟩ 1000 (yp c fn x σ' ν)):aQ P G f args σ (.ret x σ' ν):=by
 intro F β w vs hS hvl hv;refine A2 hf hb hl hS hvl hv (h _ rfl rfl rfl rfl) (λe s κ hq=>by cases e<;>first|exact .inl rfl|exact .inr rfl|exact hq.elim) λe s' κ F' β' a' w' hq hX0=>?_;obtain⟨m,kh,g1,g2,g3,g4,g8,g5,g6,g7⟩:∃(m:List (Key×Key×LB)) (kh:Key),cY σ' ν=b8 (λ_=>.hole) (m.map λe=>(e.1,e.2.2))/\(m.map (·.1)).Nodup/\(m.map (·.2.1)).Nodup/\s'.lv kh=.hole/\(∀k,cY σ [] k≠.hole->cY σ' ν k=.dead\/aV m kh k=k)/\(∀e∈m,(s'.lv e.2.1).like e.2.2 (aV m kh))/\x.cG=true/\fq P s' fn.results.toList=some (x.dA (aV m kh)):=by cases e<;>first|exact hq|exact hq.elim
 obtain⟨v,h4,hav⟩:=vG hX0 g7;have hco:gX { fY P G w F β (cY σ [])with n:=fn.ntmps } s' ⟨aT [],cY σ' ν⟩ (aV m kh):=gX.keys m kh [] g1 g8 g2 g3 g4 g5 (λp hp=>by cases hp);have hs2:=hX0.coarse hco;have hR:(Vw.mk F' β' s'.lv w').Ren (Vw.mk F' (λk=>β' (aV m kh k)) (cY σ' ν) w') (aV m kh):=⟨rfl,rfl,λ_ _=>rfl,λk=>LB.An (hco.as k)⟩
 refine⟨hX0.defers,v,h4,v,F',λk=>β' (aV m kh k),rfl,?_,hR.av g6 hav⟩;exact hs2.ux
theorem aQ.Ut{args:List AV}(hf:P.funcs[f]?=some fn)(hb:fn.body=some code)(hl:args.length<=fn.ntmps)
 (h:∀c:Ctx,c.P=P->c.G=G->c.n=fn.ntmps->c.jd=(λ_=>.hole)->AW c none code ⟨λt=>args.getD t .undef,λ_=>.hole⟩ 0 (Y3 c fn x ν)):aQ P G f args [] (.ret x [] ν):=by
 refine aQ.PR hf hb hl λc h1 h2 h3 h4=>?_;rw[mK]at h4⊢;refine(AW.mono (λF β a w hs=>h c h1 h2 h3 h4 F β a w hs) λe s κ hq=>?_:AW c none code _ 1000 _)
 cases e<;>first|exact hq.elim|(obtain⟨m,kh,g1,g2,g3,g4,g5,g6,g7⟩:=hq;exact⟨m,kh,g1,g2,g3,g4,λk hk=>absurd (by rw[h4]) hk,g5,g6,g7⟩)
theorem aQ.enn{args:List AV}(hf:P.funcs[f]?=some fn)(hb:fn.body=some code)
 (h:∀z:Ev,AW ⟨P,G,z.w,z.F,z.W,fn.ntmps,λ_=>.hole,z.b,z.d⟩ none code ⟨λt=>args.getD t .undef,λ_=>.hole⟩ 0 (Y3 ⟨P,G,z.w,z.F,z.W,fn.ntmps,λ_=>.hole,z.b,z.d⟩ fn x ν)) (hl:Nat.ble args.length fn.ntmps=true:=by kernel_rfl):aQ P G f args [] (.ret x [] ν):=
 aQ.Ut hf hb (ae2 hl) λ⟨_,_,w,F,W,_,q,b,d⟩ h1 h2 h3 h4=>by cases h1;cases h2;cases h3;cases h4;exact h ⟨w,F,W,λ_=>.hole,b,d⟩
theorem ag.ac5{us:List AV}{K:AV->List (Key×LB)->List Key->Nat->Prop}(κ' kh:Key)(Z:List (Key×TypeId×List CV))(rds:List Key)
 (hc:aa c.P c.G f us x) (hx:x.pure=true) (hZ:∀z∈Z,lv z.1=.cells true false z.2.1 z.2.2) (hZn:(Z.map (·.1)).Nodup) (hh:lv kh=.hole) (hlen:us.length=xs.length)
 (hargs:∀i (h:i<xs.length) (h':i<us.length),(us[i].pure=true/\xs[i]=us[i])\/∃ks,fO (b8 lv (hJ Z)) xs[i]=some (us[i],ks)/\∀k∈ks,k∈Z.map (·.1))
 (hrd:∀a∈xs,∀k∈ql (b8 lv (hJ Z)) a,k∈rds\/k∈Z.map (·.1)) (hrh:kh∈rds)
 (hK:K x (hJ Z) rds κ'):ag c f xs lv K:=by
 have hkZ:∀z∈Z,z.1≠kh:=λz hz e=>by grind
 have key:=dS.gen (c:=c) (f:=f) (as:=xs) (lv:=lv) us Z [] [] kh [] [] [] x false rds hZ hZn zp (λz hz=>by simp) zp hkZ rfl rfl rfl zp
  (λi h=>absurd h (aer i)) (λk hk=>by cases hk) hh (λb hb=>by cases hb) (λb hb=>by cases hb) (λh=>by cases h) hlen
  (λi p q=>?_) hrd hrh hc
 ·rw[AV.bV hx]at key;have e:hJ Z++cM (aY [] [] kh) false [] []++cM (aY [] [] kh) false [] []=hJ Z:=by simp[cM]
  rw[e]at key;exact⟨x,_,rds,κ',key,hK⟩
 ·rcases hargs i p q with⟨h1,h2⟩|⟨ks,h1,h2⟩
  ·exact .inl ⟨AV.fu h1,rk⟩
  ·refine .inr ⟨ks,h1,λk hk=>?_⟩;obtain⟨z,hz,rfl⟩:=List.mem_map.1 (h2 k hk);have hn:((hJ Z).map (·.1)).Nodup:=by rw[oK];exact hZn
   exact⟨true,z.2.1,z.2.2,mO hn (by simp only[hJ,aeA];grind)⟩
structure Wr(p:Prop):Prop where
 a:p
section
variable {c:Ctx}{r:Option Nat}{s s':aJ}{κ κ':Nat}{Q:Ex->aJ->Nat->Prop}{id:Nat}{ops:Array Oper}{x y:Code}
def KC(c:Ctx)(r:Option Nat)(y:Code)(Q:Ex->aJ->Nat->Prop):Ex->aJ->Nat->Prop:=nH (λs κ=>AW c r y s κ Q) Q
theorem abM(h:AW c r x s κ (KC c r y Q)):AW c r (.seq x y) s κ Q:=AW.seq h λ_ _ h=>h
theorem wCn(h:AW c r y s κ Q):KC c r y Q .normal s κ:=h
theorem wCr(h:Q .ret s κ):KC c r y Q .ret s κ:=h
theorem wCe(h:Q (.exit i) s κ):KC c r y Q (.exit i) s κ:=h
theorem wAn(h:K s κ):nH K Q .normal s κ:=h
theorem wAr(h:Q .ret s κ):nH K Q .ret s κ:=h
theorem wAe(h:Q (.exit i) s κ):nH K Q (.exit i) s κ:=h
theorem wBn(h:Q .normal s κ):og i Q .normal s κ:=h
theorem wBr(h:Q .ret s κ):og i Q .ret s κ:=h
theorem wBe(h:Q .normal s κ):og i Q (.exit i) s κ:=by
 show(if i=i then _ else _:Prop);rw[if_pos rfl];exact h
theorem wBx(h:Q (.exit j) s κ)(hn:¬j=i:=by decide):og i Q (.exit j) s κ:=by
 show(if j=i then _ else _:Prop);rw[if_neg hn];exact h
theorem eL.a{d:Option Tmp}{v:AV}(hc:aa c.P c.G f xs v)(h:br c ps (aJ.put ⟨s.fr,s.lv⟩ d v) κ K)(hx:v.pure=true:=by first|(simp;done)|rfl)(hxs:∀a∈xs,a.pure=true:=by simp)(hh:s.lv 9=.hole:=by first|rfl|simp):eL c f xs ps d s κ K:=
 ag.pure κ 9 hc hx hxs hh h
theorem gw.a{d:Option Tmp}{v:AV}{K:aJ->Nat->List p9->Prop}(hc:aa c.P c.G f xs v)(h:bx c ps (aJ.put ⟨s.fr,s.lv⟩ d v) κ (([],[9])::acc) K)(hx:v.pure=true:=by first|(simp;done)|rfl)(hxs:∀a∈xs,a.pure=true:=by simp)(hh:s.lv 9=.hole:=by first|rfl|simp):gw c f xs ps d s κ acc K:=
 ag.pure κ 9 hc hx hxs hh h
theorem AW.lG(hc:C)(e:E)(h:Q .normal s' κ')(hd:dW c.n ops.toList=true:=by exact rfl)
 (hr:C->E->∀K:aJ->Nat->Prop,K s' κ'->br c (hO ops) s κ K:=by
  intro hc e K k;simp[e]
  repeat (first
   |refine az ?_
   |((first|refine eL.a hc ?_|refine eL.a hc.1 ?_|refine eL.a hc.2 ?_|refine eL.a hc.2.1 ?_|refine eL.a hc.2.2 ?_|refine eL.a hc.2.2.1 ?_|refine eL.a hc.2.2.2 ?_|refine eL.a hc.2.2.2.1 ?_|refine eL.a hc.2.2.2.2 ?_|refine eL.a hc.2.2.2.2.1 ?_|refine eL.a hc.2.2.2.2.2 ?_);simp[e]))
  exact k):AW c r (.region id ops false) s κ Q:=
 abq hd (hr hc e (λs κ=>Q .normal s κ) h)
theorem AW.dG(hm:c.P.follows .mixedOrders=true)(hc:C)(e:E)(h:Q .normal s' κ')(hst:kN ops=true:=by kernel_rfl)(hd:dW c.n ops.toList=true:=by exact rfl)
 (hr:C->E->∀K:aJ->Nat->Prop,K s' κ'->bx c (hO ops) s κ [] λs' κ' acc=>ym ops acc.reverse=true/\K s' κ':=by
  intro hc e K k;simp[e]
  repeat (first
   |refine az ?_
   |((first|refine gw.a hc ?_|refine gw.a hc.1 ?_|refine gw.a hc.2 ?_|refine gw.a hc.2.1 ?_|refine gw.a hc.2.2 ?_|refine gw.a hc.2.2.1 ?_|refine gw.a hc.2.2.2 ?_|refine gw.a hc.2.2.2.1 ?_|refine gw.a hc.2.2.2.2 ?_|refine gw.a hc.2.2.2.2.1 ?_|refine gw.a hc.2.2.2.2.2 ?_);simp[e]))
  refine⟨zt,?_⟩
  repeat refine az ?_
  exact k):AW c r (.region id ops true) s κ Q:=
 aaT hm hst hd (hr hc e (λs κ=>Q .normal s κ) h)
theorem acn(h:∀K:aJ->Nat->Prop,(∀s κ,Q .normal s κ->K s κ)->br c (hO ops) s κ K)(hd:dW c.n ops.toList=true:=by exact rfl):AW c r (.region id ops false) s κ Q:=
 abq hd (h _ λ_ _ h=>h)
theorem aci(hm:c.P.follows .mixedOrders=true)(h:∀K:aJ->Nat->Prop,(∀s κ,Q .normal s κ->K s κ)->bx c (hO ops) s κ [] λs' κ' acc=>ym ops acc.reverse=true/\K s' κ')(hst:kN ops=true:=by kernel_rfl)(hd:dW c.n ops.toList=true:=by exact rfl):AW c r (.region id ops true) s κ Q:=
 aaT hm hst hd (h _ λ_ _ h=>h)
theorem AW.yG{o:Operand}(e:E)(h:AW c r x s κ Q)(hb:E->s.val c.G o=.c (.d (.bool true)):=by intro e;simp[e]<;>omega):AW c r (.cond o x y) s κ Q:=abR (b:=true) (hb e) h
theorem AW.nG{o:Operand}(e:E)(h:AW c r y s κ Q)(hb:E->s.val c.G o=.c (.d (.bool false)):=by intro e;simp[e]<;>omega):AW c r (.cond o x y) s κ Q:=abR (b:=false) (hb e) h
theorem wE{p:α×β->Prop}(h:∃a b,p (a,b)):∃x,p x:=let ⟨a,b,h⟩:=h;⟨_,h⟩
theorem wE3{γ:Type}{p:α×β×γ->Prop}(h:∃a b c,p (a,b,c)):∃x,p x:=let ⟨a,b,d,h⟩:=h;⟨_,h⟩
theorem wN{G p:Prop}(h:G)(t:Wr G->p:=by
 intro h
 repeat (first|refine wCn ?_|refine wBn ?_|refine wCr ?_|refine wBr ?_|refine wCe ?_|refine wBe ?_|refine wBx ?_|refine wAn ?_|refine wAr ?_|refine wAe ?_|(refine wE3 ?_;try dsimp only)|(refine wE ?_;try dsimp only))
 exact h.a):p:=t ⟨h⟩
theorem abF{G:Prop}(hm:c.P.follows .mixedOrders=true)(hc:C)(e:E)(h:G)
 (t:c.P.follows .mixedOrders=true->C->E->Wr G->AW c r x s κ Q:=by
  intro hm hc e h
  first|(refine AW.lG @hc @e ?_;refine wN ?_)|refine AW.nG @e ?_|refine AW.yG @e ?_|(refine aan ?_;refine wN ?_)|(refine AW.dG hm @hc @e ?_;refine wN ?_)|refine aaw ?_|(refine aaR ?_;refine wN ?_)
  exact h.a):AW c r x s κ Q:=t hm hc e ⟨h⟩
theorem aau{G:Prop}(hm:c.P.follows .mixedOrders=true)(hc:C)(e:E)(h:G)
 (t:c.P.follows .mixedOrders=true->C->E->Wr G->AW c r x s κ Q:=by
  intro hm hc e h
  repeat (first
   |refine abM ?_
   |refine AW.lG @hc @e ?_
   |refine wCn ?_
   |refine AW.nG @e ?_
   |refine AW.yG @e ?_
   |refine aan ?_
   |refine AW.dG hm @hc @e ?_
   |refine aaw ?_
   |refine wCr ?_
   |refine wBn ?_
   |refine wBr ?_
   |refine aaR ?_
   |refine wCe ?_
   |refine wBe ?_
   |refine wBx ?_
   |refine wAn ?_
   |refine wAr ?_
   |refine wAe ?_
   |(refine wE3 ?_;try dsimp only)
   |(refine wE ?_;try dsimp only))
  exact h.a):AW c r x s κ Q:=t hm hc e ⟨h⟩
end
theorem eY{a:Prop}(h:a)(g:b):a/\b:=⟨h,g⟩
theorem lD{a c:Prop}(h:a)(g:b)(k:c):a/\b/\c:=⟨h,g,k⟩
theorem mo{a c:Prop}(h:a)(g:b)(k:c)(l:d):a/\b/\c/\d:=⟨h,g,k,l⟩
theorem BF{a c e:Prop}(h:a)(g:b)(k:c)(l:d)(m:e):a/\b/\c/\d/\e:=⟨h,g,k,l,m⟩
theorem me{a c e f:Prop}(h:a)(g:b)(k:c)(l:d)(m:e)(n:f):a/\b/\c/\d/\e/\f:=⟨h,g,k,l,m,n⟩
def Pg(c:Ctx)(r:Option Nat)(x:Code)(Q:Ex->aJ->Nat->Prop):Nat->aJ->Nat->Prop
 |0=>λ_ _=>False
 |n+1=>λs κ=>AW c r x s κ (nH (Pg c r x Q n) Q)
section
variable {c:Ctx}{r:Option Nat}{s:aJ}{κ:Nat}{Q:Ex->aJ->Nat->Prop}{x:Code}
theorem AW.XI(n:Nat)(h:Pg c r x Q n s κ):AW c r (.loop x) s κ Q:=by
 have key:∀n s κ,Pg c r x Q n s κ->∀F β a w,aR c F β s a w->Code.roundsIn (wg r) 0 c.P x (Post c Q) n a w:=by
  intro n
  induction n with
  |zero=>intro s κ h;exact h.elim
  |succ n ih=>
   intro s κ hI F β a w hs;rw[roundsIn_succ];refine wpIn_mono (hI F β a w hs) λe a' w' hp=>?_;obtain⟨e',s',κ',F',β',hq,hs',he⟩:=hp
   cases e' with
   |normal=>cases he;exact ih s' κ' hq F' _ a' w' hs'
   |exit id=>cases he;exact⟨.exit id,s',κ',F',β',hq,hs',rfl⟩
   |goto l=>cases he;exact⟨.goto l,s',κ',F',β',hq,hs',rfl⟩
   |ret=>cases he;exact⟨.ret,s',κ',F',β',hq,hs',rfl⟩
   |panic d=>obtain⟨v,rfl,hv⟩:=he;exact⟨.panic d,s',κ',F',β',hq,hs',v,rfl,hv⟩
 exact λF β a w hs=>wpIn_loop_rounds _ (key n s κ h F β a w hs)
theorem AW.lH(hc:C)(e:E)(h:Q .normal s' κ')(hd:dW c.n ops.toList=true:=by exact rfl)
 (hr:C->E->∀K:aJ->Nat->Prop,K s' κ'->br c (hO ops) s κ K:=by
  intro hc e K k
  revert hc
  try simp only[and_imp]
  intros
  simp[e]
  repeat (first
   |refine az ?_
   |(refine eL.a wa ?_;simp[e]))
  exact k):AW c r (.region id ops false) s κ Q:=
 abq hd (hr hc e (λs κ=>Q .normal s κ) h)
theorem AW.dH(hm:c.P.follows .mixedOrders=true)(hc:C)(e:E)(h:Q .normal s' κ')(hst:kN ops=true:=by kernel_rfl)(hd:dW c.n ops.toList=true:=by exact rfl)
 (hr:C->E->∀K:aJ->Nat->Prop,K s' κ'->bx c (hO ops) s κ [] λs' κ' acc=>ym ops acc.reverse=true/\K s' κ':=by
  intro hc e K k
  revert hc
  try simp only[and_imp]
  intros
  simp[e]
  repeat (first
   |refine az ?_
   |(refine gw.a wa ?_;simp[e]))
  refine⟨zt,?_⟩
  repeat refine az ?_
  exact k):AW c r (.region id ops true) s κ Q:=
 aaT hm hst hd (hr hc e (λs κ=>Q .normal s κ) h)
theorem AW.rN(h:AW c r x s κ (nH (Pg c r x Q n) Q)):Pg c r x Q (n+1) s κ:=h
theorem abW{x:Code}{G:Prop}(hm:c.P.follows .mixedOrders=true)(hc:C)(e:E)(h:G)
 (t:c.P.follows .mixedOrders=true->C->E->Wr G->AW c r x s κ Q:=by
  intro hm hc e h
  repeat (first
   |refine abM ?_
   |refine AW.lH @hc @e ?_
   |refine wCn ?_
   |refine AW.nG @e ?_
   |refine AW.yG @e ?_
   |refine aan ?_
   |refine AW.dH hm @hc @e ?_
   |refine aaw ?_
   |refine AW.rN ?_
   |refine AW.XI 5 ?_
   |refine wCr ?_
   |refine wBn ?_
   |refine wBr ?_
   |refine aaR ?_
   |refine wCe ?_
   |refine wBe ?_
   |refine wBx ?_
   |refine wAn ?_
   |refine wAr ?_
   |refine wAe ?_)
  exact h.a):AW c r x s κ Q:=t hm hc e ⟨h⟩
end
def kg(M:Mem)(cs:List Value)(l:List DV):Prop:=
 cs.length=l.length/\∀i (h:i<cs.length) (h':i<l.length),Rd M cs[i] l[i]/\(cs[i]).oneCell'=true
theorem kg.nil:kg M [] []:=⟨rfl,λi h=>by cases h⟩
theorem kg.one{d:DV}(h:Rd M v d)(ho:v.oneCell'=true):kg M [v] [d]:=
 ⟨rfl,λi h1 h2=>by
  grind⟩
theorem kg.app{a b:List Value}{l m:List DV}(h1:kg M a l)(h2:kg M b m):kg M (a++b) (l++m):=by
 refine⟨by simp[h1.1,h2.1],λi h h'=>?_⟩
 by_cases e:i<a.length
 ·rw[aeF e,aeF (h1.1▸e)];exact h1.2 i e (h1.1▸e)
 ·have e1:a.length<=i:=Nat.le_of_not_lt e;rw[ae4 e1,ae4 (h1.1▸e1)];have:=h2.2 (i-a.length) yn (by have:=h1.1;grind);simpa[h1.1]using this
theorem kg.VD:∀(ss:List Nat) (cs:List Value) (ls:List (List DV)),ls.length=ss.length->cs.length=ss.sum ->
 (∀i (h:i<ss.length) (h':i<ls.length),kg M ((cs.drop (ss.take i).sum).take ss[i]) ls[i])->kg M cs ls.flatten
 |[],cs,ls,h1,h2,_=>by
  cases ls with
  |nil=>simp at h2;subst h2;exact kg.nil
  |cons _ _=>cases h1
 |s::ss,cs,ls,h1,h2,h3=>by
  cases ls with
  |nil=>cases h1
  |cons l ls=>
   have h0:kg M (cs.take s) l:=h3 0 zp zp
   have hr:kg M (cs.drop s) ls.flatten:=by
    refine kg.VD ss (cs.drop s) ls yn yn λi h h'=>?_;have:=h3 (i+1) yn yn;simpa[List.take_succ_cons,afe,afE]using this
   have:=h0.app hr
   simp_all
theorem nU{α:Type}:∀(n:Nat) (p:Nat->α->Prop),(∀i,i<n->∃x,p i x)->∃l:List α,l.length=n/\∀i (h:i<l.length),p i l[i]
 |0,_,_=>⟨[],rfl,λi h=>by cases h⟩
 |n+1,p,h=>by
  obtain⟨x,hx⟩:=h 0 zd;obtain⟨l,hl,hp⟩:=nU n (λi=>p (i+1)) (λi hi=>h (i+1) zd);refine⟨x::l,bj,λi hi=>?_⟩
  grind
def qF(P:Program):Bool->Nat->TypeId->Bool
 |_,0,_=>false
 |s,n+1,t=>match P.underlying t with
  |some .bool=>true
  |some (.int _)=>true
  |some .string=>true
  |some (.slice e)=>s&&qF P false n e
  |some (.struct fs)=>fs.toList.all λf=>qF P s n f.type
  |some (.array _ e)=>qF P s n e
  |_=>false
def sZ(P:Program):Nat->TypeId->List DV->Prop
 |0,_,_=>False
 |n+1,t,l=>match P.underlying t with
  |some .bool=>∃b,l=[.bool b]
  |some (.int k)=>∃i,l=[.int k i]
  |some .string=>∃s,l=[.str s]
  |some (.slice e)=>l=[.nilsl]\/∃es,l=[.sl es]/\∀x∈es,sZ P n e x
  |some (.struct fs)=>∃ls:List (List DV),ls.length=fs.size/\l=ls.flatten/\∀i (h:i<fs.size) (h':i<ls.length),sZ P n fs[i].type ls[i]
  |some (.array m e)=>∃ls:List (List DV),ls.length=m/\l=ls.flatten/\∀x∈ls,sZ P n e x
  |_=>False
mutual
def Tr{H:Type}:DataW H->List DV
 |.lit (.bool b)=>[.bool b]
 |.lit (.int k n)=>[.int k n]
 |.lit (.string s)=>[.str s]
 |.agg ps=>RF ps
 |_=>[]
def RF{H:Type}:List (DataW H)->List DV
 |[]=>[]
 |d::r=>Tr d++RF r
end
def Ed{H:Type}:∀l:List (DataW H),RF l=(l.map Tr).flatten
 |[]=>rfl
 |d::r=>by simp[RF,Ed r]
def Dt{a:Addr}(h:w.cell? a=some v):a.block<w.heap.size:=by
 unfold World.cell? at h
 grind
abbrev allM(w:World):Mem:=yT w (λb=>b<w.heap.size)
def wf_wrap{k:IntKind}{n:Int}(h:(Lit.int k n).wf=true):k.wrap n=n:=by
 refine eG ?_;simp only[Lit.wf,adS,decide_eq_true_eq]at h
 cases k<;>(simp[IntKind.min,IntKind.max,IntKind.signed,IntKind.bits,BB,rM]at h⊢;omega)
def uT{H:Type}{enc:TypeId×Value->H}{P:Program}{w:World}{base:Nat}{spare:Nat->Bool}{held:Bool}{T:TypeId->Prop}(K:Kids P T):
 ∀(n:Nat) (s:Bool) (t:TypeId) (fuel:Nat) (cs:List Value) (x:DataW H×List MemPlace),T t->qF P s n t=true ->
  (s=true->∀(i:Nat) (a:Addr) (len cap:Nat),cs[i]?=some (.slice (some a) len cap)->a.spot=none) ->
  DataW.trod enc P w base spare held fuel t cs=some x->∃l,sZ P n t l/\kg (allM w) cs l/\(s=false->l=Tr x.1)
 |0,_,_,_,_,_,_,h,_,_=>by simp[qF]at h
 |n+1,s,t,fuel,cs,x,hT,hp,hs,h=>by
  unfold qF at hp;split at hp
  ·rename_i hu
   obtain⟨b,rfl,rfl⟩:=DataW.trod_bool hu h;exact⟨[.bool b],am,kg.one (.bool b) rfl,λ_=>rfl⟩
  ·rename_i k hu
   obtain⟨i,rfl,rfl,hw⟩:=DataW.trod_int hu h;exact⟨[.int k i],am,kg.one (.int k i (wf_wrap hw)) rfl,λ_=>rfl⟩
  ·rename_i hu
   obtain⟨b,rfl,rfl,hl⟩:=DataW.trod_string hu h;refine⟨[.str b.data.toList],am,kg.one (.str b ?_) rfl,λ_=>rfl⟩;have e:b.data.toList.length=b.size:=zp
   rw[e];simp only[maxLen]at hl;omega
  ·rename_i e hu
   simp only[adS]at hp;obtain⟨rfl,hp⟩:=hp;rcases DataW.trod_slice hu h with⟨rfl,rfl⟩|⟨a,len,cap,elems,rest,m,rfl,rfl,rfl,hb,hlc,hcm,hel,hget,_,_⟩
   ·exact⟨[.nilsl],am,kg.one .nilsl rfl,λh=>by cases h⟩
   ·have hsp:=hs rfl 0 a len cap rfl;obtain⟨b,off,sp⟩:=a;simp only at hsp;subst hsp
    obtain⟨l,hl,hq⟩:=nU (α:=List Value×List DV) len (λi q=>w.cells? base (Addr.add ⟨b,off,none⟩ (i*P.cellsOf e)) (P.cellsOf e)=some q.1/\sZ P n e q.2/\kg (allM w) q.1 q.2) (by
     intro i hi;have h1:=hget i hi;rw[fy zd]at h1;obtain⟨c,hc,ht⟩:=Option.bind_eq_some_iff.1 h1;obtain⟨l,h2,h3,_⟩:=uT K n false e m c _ (K.slice hT hu) hp (λh=>by cases h) ht;exact⟨(c,l),hc,h2,h3⟩)
    subst hl;have hlen:∀i (h:i<l.length),(l[i].1).length=P.cellsOf e:=λi h=>(World.cells?_some (hq i h).1).2.1
    have hcell:∀i (h:i<l.length) j (hj:j<P.cellsOf e),w.cell? ⟨b,off+i*P.cellsOf e+j,none⟩=some ((l[i].1).getD j undef):=by
     intro i h j hj;have h1:=(World.cells?_some (hq i h).1).2.2 j hj
     have h2:(Addr.add (Addr.add ⟨b,off,none⟩ (i*P.cellsOf e)) j)=⟨b,off+i*P.cellsOf e+j,none⟩:=by
      unfold Addr.add;split<;>split<;>simp_all
     rw[h2]at h1;rw[h1,ab6,fy yn];rfl
    have hR:=Rd.sl (M:=allM w) b off cap (P.cellsOf e) (l.map (·.2)) (λi j=>(l.getD i ([],[])).1.getD j undef)
     (by
      intro x hx;obtain⟨q,hq',rfl⟩:=List.mem_map.1 hx;obtain⟨i,hi,rfl⟩:=List.getElem_of_mem hq';rw[<-(hq i hi).2.2.1,hlen i hi])
     yn (by simp only[maxLen]at hcm;grind)
     (by
      intro i hi j hj;have hi':i<l.length:=gt
      have:=hcell i hi' j hj;refine⟨Dt this,?_⟩
      grind)
     (by
      intro i hi j hj;have hi':i<l.length:=gt
      have hj':j<(l[i].1).length:=by rw[hlen i hi'];exact hj
      have:=((hq i hi').2.2.2 j hj' (by rw[<-(hq i hi').2.2.1];exact hj')).2
      grind)
     (by
      intro i hi j hj;have hi':i<l.length:=gt
      have hj2:j<(l[i].2).length:=jp
      have hj':j<(l[i].1).length:=by rw[(hq i hi').2.2.1];exact hj2
      have:=((hq i hi').2.2.2 j hj' hj2).1
      grind)
    refine⟨[.sl (l.map (·.2))],?_,kg.one ?_ rfl,λh=>by cases h⟩
    ·simp only[sZ,hu];refine .inr ⟨_,rfl,λx hx=>?_⟩;obtain⟨q,hq',rfl⟩:=List.mem_map.1 hx;obtain⟨i,hi,rfl⟩:=List.getElem_of_mem hq'
     grind
    grind
  ·rename_i fs hu
   obtain⟨xs,m,rfl,rfl,hlen,hxs,hget⟩:=DataW.trod_struct hu h;obtain⟨k1,k2,k3⟩:=K.struct hT hu
   have hstep:∀i,i<fs.size->∃l,∀(hi:i<fs.size) (hx:i<xs.length),sZ P n fs[i].type l/\kg (allM w) ((cs.drop fs[i].offset).take (P.cellsOf fs[i].type)) l/\(s=false->l=Tr xs[i].1):=by
    intro i hi;have h1:=hget i fs[i] (by simp[hi]);rw[fy zd]at h1;have hm:fs[i]∈fs.toList:=zp
    obtain⟨l,h2,h3,h4⟩:=uT K n s fs[i].type m _ _ (k1 _ hm) (List.all_eq_true.1 hp _ hm) (by
     grind) h1
    exact⟨l,λ_ _=>⟨h2,h3,h4⟩⟩
   obtain⟨ls,hl,hq⟩:=nU fs.size _ hstep;refine⟨ls.flatten,?_,?_,λhf=>?_⟩
   ·simp only[sZ,hu]
    grind
   ·refine kg.VD (fs.toList.map λf=>P.cellsOf f.type) cs ls bj zd λi h h'=>?_;have hi:i<fs.size:=by simpa using h
    have h3:=(hq i h' hi zd).2.1;have ho:=k3 i fs[i] (by simp[hi])
    simp_all
   ·simp only[Tr,Ed,adT];congr 1;refine age yv λi h1 h2=>?_
    grind
  ·rename_i m e hu
   obtain⟨xs,f,rfl,rfl,hlen,hxs,hget⟩:=DataW.trod_array hu h;obtain⟨k1,k2⟩:=K.array hT hu
   have hstep:∀i,i<m->∃l,∀(hx:i<xs.length),sZ P n e l/\kg (allM w) ((cs.drop (i*P.cellsOf e)).take (P.cellsOf e)) l/\(s=false->l=Tr xs[i].1):=by
    intro i hi;have h1:=hget i hi;rw[fy zd]at h1
    obtain⟨l,h2,h3,h4⟩:=uT K n s e f _ _ k1 hp (by
     grind) h1
    exact⟨l,λ_=>⟨h2,h3,h4⟩⟩
   obtain⟨ls,hl,hq⟩:=nU m _ hstep;refine⟨ls.flatten,?_,?_,λhf=>?_⟩
   ·simp only[sZ,hu];refine⟨ls,hl,rfl,λx hx=>?_⟩;obtain⟨i,hi,rfl⟩:=List.getElem_of_mem hx
    grind
   ·refine kg.VD (List.replicate m (P.cellsOf e)) cs ls bj yk λi h h'=>?_;have h3:=(hq i h' zd).2.1;have hm:min i m=i:=by simp at h;omega
    simp_all
   ·simp only[Tr,Ed,adT];congr 1;refine age yv λi h1 h2=>?_
    grind
  grind
structure Kept(W W':World):Prop where
 old:∀b,b<W.heap.size->W'.heap[b]?=W.heap[b]?
 os:W'.os=W.os
 out:W'.output=W.output
def Kept.but(h:Kept W W')(may:MemPlace->Prop):W.keptBut W' may:=by
 refine⟨h.os,h.out,λi hi=>?_⟩;rw[h.old i hi]
 grind
def Kept.sameAt(h:Kept W W'){p:MemPlace}(hp:p.block<W.heap.size):W.sameAt W' p:=by
 cases p with
 |cell b off=>simp only[World.sameAt,World.cell?];rw[h.old b hp]
 |map b=>exact h.old b hp
def td{H:Type}{enc:TypeId×Value->H}{P:Program}{w w':World}{base:Nat}{spare:Nat->Bool}{held:Bool}:
 ∀{ts:List TypeId}{vs:List Value}{ds:List (DataW H)}{ps:List MemPlace},DataW.TrodAll enc P w base spare held ts vs ds ps->(∀p∈ps,w.sameAt w' p)->DataW.TrodAll enc P w' base spare held ts vs ds ps
 |[],[],[],_,h,_=>h
 |_::_,_::_,_::_,_,⟨p,q,⟨n,h1⟩,h2,e⟩,hs=>
  ⟨p,q,⟨n,DataW.trod_carry n _ _ _ h1 (λx hx=>hs x yn)⟩,td h2 (λx hx=>hs x yn),e⟩
def Kept.args{enc:TypeId×Value->H}{T:TypeId->Prop}(K:Kids P T)(hz:∀t e,T t->P.underlying t=some (.slice e)->0<P.cellsOf e)
 (h:Kept W W') {ts:List TypeId}{vs:List Value}{ds:List (DataW H)}{ps:List MemPlace}(hT:∀t∈ts,T t) (hr:DataW.TrodAll enc P W 0 (λ_=>true) true ts vs ds ps) :
 DataW.TrodAll enc P W' 0 (λb=>decide (b<W.heap.size)) true ts vs ds ps:=by
 have hlt:=DataW.TrodAll.lt hr;refine td (DataW.TrodAll.respare K hz hT hr (λp hp=>by grind)) (λp hp=>h.sameAt (hlt p hp))
def PB{enc:TypeId×Value->H}{f:Func}{s:ChangeSpec}{args:Array Value}{ds gs:List (DataW H)}{before:List MemPlace}
 {T:TypeId->Prop}{tb:TypeId}(K:Kids P T) (hz:∀t e,T t->P.underlying t=some (.slice e)->0<P.cellsOf e) (hT:∀t∈f.params.toList,T t)
 (hv:s.vars=[]) (hr:f.resultTypes=#[tb]) (hb:P.underlying tb=some .bool)
 (hW:DataW.Whole enc P f.params.toList s.vars apart W args.toList ds gs before) (hs:s.fn H (ds++gs)={ results:=[.lit (.bool true)],args:=ds }) (h:Kept W W') :
 s.post enc P f apart fresh handsOn false W args (.bool true) W':=by
 have hW':=hW;obtain⟨p,q,hA,hV,rfl,hfz,hnd⟩:=hW;refine⟨ds,gs,p++q,[],p,[],hW',?_,?_,?_,h.but _,λh=>by cases h⟩
 ·rw[hs,hr];exact⟨[],[],⟨1,by simp[DataW.trod,Value.cells,hb]⟩,rfl,rfl⟩
 ·rw[hs];exact h.args K hz hT hA
 ·rw[hs,hv];rfl
def uB{P:Program}{W:World}:∀{l:List (String×DataW Unit)}{ps:List MemPlace},DataW.LaidVars P W l ps->∀x∈l,
 ∃g t cs fuel p,P.globalNamed x.1=some g/\(P.globals[g]?).map (·.type)=some t/\W.var? P x.1=some cs/\DataW.trod (λ_=>()) P W 0 (λ_=>true) false fuel t cs.toList=some (x.2,p)
 |[],_,_,x,hx=>by cases hx
 |(n,d)::r,ps,h,x,hx=>by
  obtain⟨g,t,cs,fuel,p,q,h1,h2,h3,h4,h5,_⟩:=h;rcases List.mem_cons.1 hx with rfl|hx
  ·grind
  ·exact uB h5 x hx
def PW{n:String}{g:Nat}{cs:Array Value}{l:List DV}(hg:P.globalNamed n=some g)(hc:W.var? P n=some cs)
 (hR:kg (allM W) cs.toList l):Rd (allM W) (.pointer (some ⟨g,0,none⟩)) (.ptr l):=by
 have hl:cs.size=l.length:=by simpa using hR.1
 refine .ptr g 0 (λi=>cs.toList.getD i undef) l (λi hi=>?_) (λi hi=>?_) (λi hi=>?_)
 ·have:=World.var?_cell hg hc i;rw[ae0 zd]at this;rw[aej];refine⟨Dt this,?_⟩
  grind
 ·have:=(hR.2 i yv hi).2
  grind
 ·have:=(hR.2 i yv hi).1
  grind
def PI{us:List AV}{b:Bool}(hC:aa P G f us (.c (.d (.bool b)))){vs:Array Value}
 (hG:∀g cs,G[g]?=some cs->Rd (allM W) (.pointer (some ⟨g,0,none⟩)) (.ptr cs)) (hl:vs.size=us.length)
 (hv:∀i (h:i<us.length) (h':i<vs.size),(Vw.mk (λb=>b<W.heap.size) (λ_=>0) (cY [] []) W).av vs[i] us[i]) :
 Calls P f vs W λe W'=>e=.returned (.bool b)/\Kept W W':=by
 refine(hC (λb=>b<W.heap.size) (λ_=>0) W vs ?_ hl hv).mono λe W' h=>?_
 ·refine⟨λk=>?_,λk k' hk=>?_,λ_=>trivial,rfl,rfl,λb hb=>⟨hb,.inl hb⟩,λ_ hb=>hb,λ_ _ _=>rfl,bf _,hG,λk hk=>.inr ⟨rfl,LB.cF _⟩,λ_=>bf _,⟨rfl,rfl⟩⟩
  ·have:cY [] [] k=.hole:=by unfold cY;split<;>rfl
   unfold Vw.dj;grind
  ·have:cY [] [] k=.hole:=by unfold cY;split<;>rfl
   simp only[this]at hk;cases hk
 ·obtain⟨v,F',β',rfl,hS,hx⟩:=h;have hx':Rd (yT W' F') v (.bool b)/\v.oneCell'=true:=hx;refine⟨?_,⟨λi hi=>hS.old i hi ?_,hS.Hs.1,hS.Hs.2⟩⟩
  ·cases hx'.1;rfl
  ·rintro⟨k,hk,_⟩;have:cY [] [] k=.hole:=by unfold cY;split<;>rfl
   simp only[this]at hk;cases hk
def Fl{r:Reach}{u:TypeId}{a:Addr}{len cap:Nat}(h:Cell.okWide P w r base u (.slice (some a) len cap)):a.spot=none:=by
 unfold Cell.okWide at h;split at h<;>rename_i e<;>first|cases e|skip
 all_goals unfold Cell.ok at h
 all_goals split at h<;>rename_i e2<;>first|cases e2|grind|skip
 all_goals exact h.2.2.2.1
def Hh{enc:TypeId×Value->H}{T:TypeId->Prop}(K:Kids P T){fs:Array Field}{d:DataW H}{p:List MemPlace}
 (hu:P.underlying t=some (.struct fs)) (hT:T t) (hp:qF P true n t=true) (hok:Value.okWide P W .any base t v) (h:DataW.Trod enc P W 0 (λ_=>true) true t v d p) :
 ∃(arr:Array Value) (l:List DV),v=.agg arr/\sZ P n t l/\kg (allM W) arr.toList l:=by
 unfold Value.okWide at hok;rw[hu]at hok;obtain⟨cs,rfl,_,hrow⟩:=hok;obtain⟨ts,_,_,hcell⟩:=hrow;obtain⟨fuel,h⟩:=h
 obtain⟨l,h1,h2,_⟩:=uT K n true t fuel cs.toList _ hT hp (λ_ i a len cap hi=>by
  obtain⟨u,_,ho⟩:=hcell i _ gt;exact Fl ho) h
 grind
def LC{arr:Array Value}{l:List DV}(h:kg (allM W) arr.toList l):(Vw.mk (λb=>b<W.heap.size) (λ_=>0) (cY [] []) W).av (.agg arr) (.agg (l.map .d)):=by
 refine⟨arr,rfl,by simpa using h.1,λi h1 h2=>?_⟩;have:=h.2 i zd yn;simp only[rP];rw[afu]at this;exact this
def L2{enc:TypeId×Value->H}{a:Assume}{C:Checked}{os:Os}{s:ChangeSpec}{conds:List PathCond}{again:Bool}{X:World->Array Value->Prop}
 (hX:∀(w w':World) (args:Array Value),w.heap=w'.heap->X w args->X w' args)
 (own:ownKnob C.prog.godebug=none) (started:os.Started) (noInit:C.prog.inits.idxOf? f=none) (hfn:C.prog.funcs[f]?=some fn)
 (witness:∃(w:World) (tape:Tape) (i:Input),w.os=os/\(w.forCall tape i).Shaped C.prog/\i.vars=[]/\Input.okWide C.prog (w.forCall tape i) .any w.heap.size f i /\
  ((s.pre enc C.prog fn conds apart (w.forCall tape i).memory i.args/\X (w.forCall tape i).memory i.args)/\sizedMet enc C.prog fn (OpenSpec.ofChange s) apart (w.forCall tape i).memory i.args)/\a.holds C.prog (lone (Frame.enter C.prog f i.args .normal) [] (w.forCall tape i)))
 (contract:∀(W:World) (base:Nat) (args:Array Value) (ds gs:List (DataW H)) (before:List MemPlace),W.ShapedOpen C.prog ->
  (∀(j:Nat) t v,fn.params[j]?=some t->args[j]?=some v->Value.okWide C.prog W .any base t v) ->
  DataW.Whole enc C.prog fn.params.toList s.vars apart W args.toList ds gs before->X W args ->
  Calls C.prog f args W λe W'=>∃v,e=.returned v/\s.post enc C.prog fn apart fresh handsOn again W args v W') :
 ReturnsInHanded a C os f .any (λw args=>(s.pre enc C.prog fn conds apart w args/\X w args)/\sizedMet enc C.prog fn (OpenSpec.ofChange s) apart w args) (s.post enc C.prog fn apart fresh handsOn again):=by
 refine returnsInHanded_of_calls own started noInit witness ?_;intro w tape i _ hsh _ hok hpre _;obtain⟨_,_,_,fn',hfn',_,_,_,_,hval⟩:=hok;have e:fn'=fn:=aeI (hfn'.symm.trans hfn);subst e;obtain⟨⟨⟨ds,gs,before,hw,_⟩,hx⟩,_⟩:=hpre;have hw':=DataW.Whole.of_heap (w':=w.forCall tape i) xr hw;refine(contract (w.forCall tape i) w.heap.size i.args ds gs before hsh hval hw' (hX _ _ _ xr hx)).mono λe W' ⟨v,he,hp⟩=>?_;subst he;exact ChangeSpec.post_blind hp
def I0(h:W.ShapedOpen P){g:Nat}{zero:Array Value}{k:IntKind}(hg:g<P.globals.size)
 (hr:((begin P (λ_ _=>0) default).world.heap[g]?).bind Obj.row?=some (zero,t)) (hz:zero.size=1) (hb:P.buildable t=true) (ht:P.cellTypes P.depth t=some [t]) (hu:P.underlying t=some (.int k)) :
 ∃m,W.cell? ⟨g,0,none⟩=some (.int k m)/\k.wrap m=m:=by
 obtain⟨cs,h1,h2,h3⟩:=h.1 g zero t hg hr;obtain⟨ts,e1,_,e3⟩:=h3 hb;rw[ht]at e1;obtain rfl:=aeI e1;have h0:cs[0]?=some (cs[0]' zd):=ae0 _;obtain⟨u,e4,e5⟩:=e3 0 _ h0;have e6:u=t:=by simpa using e4.symm
 subst e6;have hc:W.cell? ⟨g,0,none⟩=some (cs[0]' zd):=by simp[World.cell?,h1,h0]
 unfold Cell.ok at e5;rw[hu]at e5;split at e5<;>rename_i x y<;>first|cases x|skip
 all_goals first|(cases e5;done)|skip
 all_goals
  rename_i hv
  rw[y]at hc;obtain⟨rfl,hk⟩:=e5;refine⟨_,hc,wf_wrap ?_⟩;simpa[Lit.wf,IntKind.has]using hk
def ag.TR{us:List AV}{K:AV->List (Key×LB)->List Key->Nat->Prop}(κ' kh:Key)(own:Bool)(sel nk:List Key)(σ σ' ν:List LB)(rds:List Key)
 (hc:aQ c.P c.G f us σ (.ret x σ' ν)) (hn:(sel++nk).Nodup) (hkh:kh∉sel++nk) (hl1:sel.length=σ.length) (hl2:σ'.length=σ.length) (hl3:nk.length=ν.length) (hb:σ.length<=1000)
 (hsel:∀i (h:i<sel.length) (h':i<σ.length),(lv sel[i]).as σ[i] (aY sel nk kh)) (hnk:∀k∈nk,lv k=.hole) (hh:lv kh=.hole) (hpass:∀b∈σ,b.pass=true) (hnh:∀b,b∈σ++σ'++ν->b≠.hole)
 (hown:own=true->∀k∈sel,(lv k).HT=true) (hlen:us.length=xs.length)
 (hargs:∀i (h:i<xs.length) (h':i<us.length),us[i].cG=true/\xs[i]=us[i].dA (aY sel nk kh))
 (hrd:∀a∈xs,∀k∈ql lv a,k∈rds) (hrh:kh∈rds)
 (hK:K (x.dA (aY sel nk kh)) (cM (aY sel nk kh) own sel σ'++cM (aY sel nk kh) own nk ν) rds κ'):ag c f xs lv K:=by
 have key:=dS.gen (c:=c) (f:=f) (as:=xs) (lv:=lv) us [] sel nk kh σ σ' ν x own rds (λz hz=>by cases hz) zp zd (λz hz=>by cases hz) zd (λz hz=>by cases hz) hl1 hl2 hl3 hb hsel hnk hh hpass zd hown hlen (λi p q=>.inl (hargs i p q)) (λa ha k hk=>.inl (hrd a ha k hk)) hrh hc;have e:hJ []++cM (aY sel nk kh) own sel σ'++cM (aY sel nk kh) own nk ν=cM (aY sel nk kh) own sel σ'++cM (aY sel nk kh) own nk ν:=by simp[hJ]
 rw[e]at key;exact⟨_,_,rds,κ',key,hK⟩
def aQ.enm{args:List AV}{jd:Key->LB}(hf:P.funcs[f]?=some fn)(hb:fn.body=some code)(hσ:cY σ []=jd)
 (h:∀z:Ev,AW ⟨P,G,z.w,z.F,z.W,fn.ntmps,jd,z.b,z.d⟩ none code ⟨λt=>args.getD t .undef,jd⟩ 1000 (yp ⟨P,G,z.w,z.F,z.W,fn.ntmps,jd,z.b,z.d⟩ fn x σ' ν)) (hl:Nat.ble args.length fn.ntmps=true:=by kernel_rfl):aQ P G f args σ (.ret x σ' ν):=
 aQ.PR hf hb (ae2 hl) λ⟨_,_,w,F,W,_,q,b,d⟩ h1 h2 h3 h4=>by subst hσ;cases h1;cases h2;cases h3;cases h4;exact h ⟨w,F,W,λ_=>.hole,b,d⟩
def eM(x y:Rat):Rat:=if x<y then x else y
def fh(x y:Rat):Rat:=if x<y then y else x
def b9(x:Rat):Rat:=if x<0 then -x else x
def UM(x y:Rat):eM x y<=x:=by unfold eM;split<;>grind
def Uw(x y:Rat):x<=fh x y:=by unfold fh;split<;>grind
def Eu{x:Rat}:z<=eM x y↔z<=x/\z<=y:=by unfold eM;split<;>grind
def Dr{x:Rat}:fh x y<=z↔x<=z/\y<=z:=by unfold fh;split<;>grind
abbrev Iv:=Rat×Rat
def Iv.has(a:Iv)(x:Rat):Prop:=a.1<=x/\x<=a.2
def Iv.neg(a:Iv):Iv:=(-a.2,-a.1)
def Iv.add(a b:Iv):Iv:=(a.1+b.1,a.2+b.2)
def Iv.sub(a b:Iv):Iv:=(a.1-b.2,a.2-b.1)
def gG(w x y z:Rat):Iv:=(eM (eM (eM w x) y) z,fh (fh (fh w x) y) z)
def Iv.mul(a b:Iv):Iv:=gG (a.1*b.1) (a.1*b.2) (a.2*b.1) (a.2*b.2)
def Oz(w x y z:Rat):(gG w x y z).1<=w/\(gG w x y z).1<=x/\(gG w x y z).1<=y/\(gG w x y z).1<=z:=by
 simp only[gG];have h:=(Eu (x:=eM (eM w x) y) (y:=z) (z:=eM (eM (eM w x) y) z)).1 aev;have h2:=Eu.1 h.1;have h3:=Eu.1 h2.1;exact⟨h3.1,h3.2,h2.2,h.2⟩
def N9(w x y z:Rat):w<=(gG w x y z).2/\x<=(gG w x y z).2/\y<=(gG w x y z).2/\z<=(gG w x y z).2:=by
 simp only[gG];have h:=(Dr (x:=fh (fh w x) y) (y:=z) (z:=fh (fh (fh w x) y) z)).1 aev;have h2:=Dr.1 h.1;have h3:=Dr.1 h2.1;exact⟨h3.1,h3.2,h2.2,h.2⟩
def Iv.mul_pos{a b:Iv}(h1:a.1<=a.2)(h2:b.1<=b.2)(h3:0<=a.1)(h4:0<=b.1):a.mul b=(a.1*b.1,a.2*b.2):=by
 have m:∀{x y:Rat},0<=x->0<=y->0<=x*y:=λhx hy=>Rat.mul_nonneg hx hy
 have e1:=m h3 (show 0<=b.2-b.1 by grind);have e2:=m h4 (show 0<=a.2-a.1 by grind);have e3:=m (show 0<=a.2 by grind) (show 0<=b.2-b.1 by grind);have e4:=m (show 0<=b.2 by grind) (show 0<=a.2-a.1 by grind);simp only[Iv.mul,gG,eM,fh,rK];constructor<;>grind
def Iv.OX(a b:Iv):(a.neg.mul b).neg=a.mul b:=by
 simp only[Iv.neg,Iv.mul,gG,eM,fh,rK,Rat.neg_mul];constructor<;>grind
def Iv.O2(a b:Iv):(a.mul b.neg).neg=a.mul b:=by
 simp only[Iv.neg,Iv.mul,gG,eM,fh,rK,Rat.mul_neg];constructor<;>grind
instance (a:Iv)(x:Rat):Decidable (a.has x):=inferInstanceAs (Decidable (_/\_))
def Oy{x:Rat}(h:x<=y)(hs:0<x\/y<0):y⁻¹<=x⁻¹:=by
 have hx:x≠0:=yn
 have hy:y≠0:=yn
 have hxy:0<x*y:=by
  rcases hs with h1|h1
  ·exact Rat.mul_pos h1 yn
  ·have:=Rat.mul_pos (a:=-x) (b:=-y) yn yn
   rwa[Rat.neg_mul,Rat.mul_neg,Rat.neg_neg]at this
 refine Rat.le_of_mul_le_mul_left (c:=x*y) ?_ hxy;rw[Rat.mul_assoc,Rat.mul_inv_cancel y hy,Rat.mul_one,Rat.mul_comm x y,Rat.mul_assoc,Rat.mul_inv_cancel x hx,Rat.mul_one];exact h
def Iv.quo(a b:Iv):Iv:=a.mul (1/b.2,1/b.1)
def E8(x y:Rat):x*(1/y)=x/y:=by rw[afa,afa,Rat.one_mul]
def Iv.size(a:Iv):Rat:=fh (b9 a.1) (b9 a.2)
def Iv.near(a:Iv):Rat:=if a.has 0 then 0 else eM (b9 a.1) (b9 a.2)
def Iv.abs(a:Iv):Iv:=(a.near,a.size)
def Iv.join(a b:Iv):Iv:=(eM a.1 b.1,fh a.2 b.2)
def Iv.meet(a b:Iv):Iv:=(fh a.1 b.1,eM a.2 b.2)
abbrev Sq:=Nat->Rat
def ch:Nat->Nat->Nat
 |_,0=>1
 |0,_+1=>0
 |n+1,k+1=>ch n k+ch n (k+1)
section
variable {c:Ctx}{r:Option Nat}{ops:Array Oper}{o:Oper}{s0:aJ}
theorem G4{x:Operand}{κ:Key}{l:List UInt8}(hd:∀d,o.dst=some d->d<c.n)(ho:o.op=.convert S T x)
 (hx:s.val c.G x=.c (.aO κ off l.length 1)) (hk:s.lv κ=.cells own fz T' cs) (hc:(cs.drop off).take l.length=bJ l) (hl:l.length<=9223372036854775807) (hS:fU c.P S=some (e,1)) (he:c.P.underlying e=some (.int .u8)) (hT:lX c.P T=true) :
 di c o s (s.put o.dst (.c (.d (.str l)))):=
 di.bA hd λF β a w hs=>by
  have hv:=hx▸hs.val x;obtain⟨hv,_⟩:=hv;simp only[Vw.cT,hk]at hv;obtain⟨cap,hv,hcap,hsz⟩:=hv;have hb:=hs.dj κ;unfold Vw.dj at hb;simp only[hk]at hb;obtain⟨arr,b1,b2,b3,b4,b5⟩:=hb
  have hcell:∀j (hj:j<l.length),w.cell? ((⟨β κ,off,none⟩:Addr).add j)=some (.int .u8 (l[j].toNat:Int)):=by
   intro j hj;have h0:(bJ l)[j]?=some (CV.d (.int .u8 (l[j].toNat:Int))):=by simp[bJ,hj]
   rw[<-hc,List.getElem?_take_of_lt hj,afx]at h0;obtain⟨hoff,hce⟩:=List.getElem?_eq_some_iff.1 h0;have h3:=b3 (off+j) hoff zd;rw[hce]at h3;have h4:=Vw.gR (V:=Vw.mk F β s.lv w) h3;have:(⟨β κ,off,none⟩:Addr).add j=⟨β κ,off+j,none⟩:=by simp[Addr.add]
   rw[this,gz b1 zd,h4]
  refine⟨.string ⟨l.toArray⟩,?_,Vw.qC _ l hl⟩;have hu:=(eJ hS).1;have:=run_convert_bytes_back (P:=c.P) w S T e ⟨β κ,off,none⟩ cap l hu he (jm hT) hcell;simp only[execOp,ho,hv,cy,this,nZ];rfl
theorem dh.HM{x:Operand}{κ:Key}{l:List UInt8}(hd:∀d,o.dst=some d->d<c.n)(hw:jb ops o.guard s0.fr=some true)(ho:o.op=.convert S T x)
 (hx:s0.val c.G x=.c (.aO κ off l.length 1)) (hk:s0.lv κ=.cells own fz T' cs) (hc:(cs.drop off).take l.length=bJ l) (hl:l.length<=9223372036854775807) (hS:fU c.P S=some (e,1)) (he:c.P.underlying e=some (.int .u8)) (hT:lX c.P T=true) :
 dh c r ops o s0 ⟨.c (.d (.str l)),[],[κ]⟩:=by
 refine dh.qP hw (λcl hcl=>by grind) (λs h1 h3=>?_);have e1:s.val c.G x=s0.val c.G x:=h1 x tp;have e4:s.lv κ=s0.lv κ:=h3.1 κ zp;exact G4 hd ho (e1.trans hx) (e4.trans hk) hc hl hS he hT
end
def kG.HM(κ':Nat){x:Operand}{κ:Key}{l:List UInt8}
 (hd:dW c.n [o]=true) (hg:o.guard=none) (ho:o.op=.convert S T x)
 (hx:s.val c.G x=.c (.aO κ off l.length 1)) (hk:s.lv κ=.cells own fz T' cs) (hc:(cs.drop off).take l.length=bJ l) (hl:l.length<=9223372036854775807) (hS:fU c.P S=some (e,1)) (he:c.P.underlying e=some (.int .u8)) (hT:lX c.P T=true)
 (hK:kG c r ops os (aJ.put ⟨s.fr,b8 s.lv []⟩ o.dst (.c (.d (.str l)))) κ' K):kG c r ops (o::os) s κ0 K:=by
 refine kG.Qo κ' (dh.HM (λd hd'=>?_) sT ho hx hk hc hl hS he hT) hK;simp only[dW,ae1,aff,afg,hd']at hd
 grind
def xV(c:Ctx)(r:Option Nat)(ops:Array Oper)(os:List Oper)(s:aJ)(κ:Nat)(acc:List p9)(K:aJ->Nat->List p9->Prop):Prop:=
 ∃es s' κ',jr c r ops os es s s'/\K s' κ' ((es.map qh).reverse++acc)
section
variable {c:Ctx}{r:Option Nat}{ops:Array Oper}
theorem xV.done{K:aJ->Nat->List p9->Prop}(h:K s κ acc):xV c r ops [] s κ acc K:=⟨[],s,κ,rfl,h⟩
theorem xV.run{K:aJ->Nat->List p9->Prop}(n:Nat)(hd:dW c.n (os.take n)=true)
 (h:bx c (l9 (ops.toList.map (·.dst)) (os.take n)) s κ acc λs' κ' acc'=>xV c r ops (os.drop n) s' κ' acc' K):xV c r ops os s κ acc K:=by
 have e:∀l:List p9,(l.map λt=>(⟨.undef,t.1.map λk=>(k,LB.hole),t.2⟩:Fx)).map qh=l:=λl=>by
  rw[adT];refine(aen λt _=>?_).trans (List.map_id l);simp only[Function.comp,qh,adT];show((t.1.map λk=>k),t.2)=t;simp
 rw[<-e acc]at h;obtain⟨es,s',κ',h1,es2,s2,κ2,h2,h3⟩:=iR.chain (r:=r) hd (k8 h);refine⟨es++es2,s2,κ2,?_,?_⟩
 ·have:=jr.append h1 h2
  simp_all
 simp_all
theorem xV.ij{K:aJ->Nat->List p9->Prop}(κ':Nat)(hd:dW c.n [o]=true)(hg:o.guard=none)
 (h:Am.ij c.P o.op (o.op.operands.toList.map (s.val c.G)) s.lv κ=some (x,us,rds)) (hK:xV c r ops os (aJ.put ⟨s.fr,b8 s.lv us⟩ o.dst x) κ' ((us.map (·.1),rds)::acc) K):xV c r ops (o::os) s κ acc K:=by
 obtain⟨es,s',κ2,h1,h2⟩:=hK;refine⟨⟨x,us,rds⟩::es,s',κ2,⟨dh.HD (λd hd'=>?_) sT h,h1⟩,?_⟩
 ·simp only[dW,ae1,aff,afg,hd']at hd
  grind
 ·rw[adi,agB,acR];exact h2
theorem AW.MR(hm:c.P.follows .mixedOrders=true)(hst:kN ops=true)(h:xV c r ops ops.toList s κ [] λs' κ' acc=>ym ops acc.reverse=true/\Q .normal s' κ'):AW c r (.region id ops true) s κ Q:=by
 intro F β a w hs;obtain⟨es,s',κ',h1,h2,h3⟩:=h;rw[ad5,List.reverse_reverse,<-CN]at h2;exact h1.draw hm hst h2 (λF' β' a' w' h'=>⟨.normal,s',κ',F',β',h3,h',rfl⟩) hs
end
structure Tw where
 e:Fx
 lv:Key->LB
 sf:Option (Key×LB)
open Classical in
noncomputable def Tw.fw(t:Tw):Fw:=⟨t.e,t.lv,false,λk b=>match t.sf with|some (W,B)=>decide (k=W/\(b=t.lv W\/b=B))|none=>false⟩
def Tw.AP(t:Tw):Fx:=match t.sf with|some _=>⟨t.e.x,[],[]⟩|none=>t.e
def Tw.OK(t:Tw):Prop:=∀W B,t.sf=some (W,B)->t.e.us=[]/\t.e.rds=[W]
def Z4(ts:List Tw):List (Tw×Nat):=ts.zipIdx.filter λp=>p.1.sf.isSome
def wrt(ts:List Tw):List (Tw×Nat):=ts.zipIdx.filter λp=>!p.1.e.us.isEmpty
def Iw(ops:Array Oper)(i j:Nat):Bool:=((oH ops.toList []).getD (max i j) 0).testBit (min i j)
def UZ(ops:Array Oper)(ts:List Tw):Prop:=∀p∈Z4 ts,∀q∈wrt ts,∀W B,p.1.sf=some (W,B)->W∈q.1.e.us.map (·.1)->Iw ops p.2 q.2=true \/
 ((q.1.lv W=p.1.lv W\/q.1.lv W=B)/\(b8 (λ_=>.hole) q.1.e.us W=p.1.lv W\/b8 (λ_=>.hole) q.1.e.us W=B))
def Tw.Dy{t:Tw}{W:Key}{B b:LB}(h:t.sf=some (W,B)):t.fw.soft k b=true↔k=W/\(b=t.lv W\/b=B):=by
 simp[Tw.fw,h]
def kK(c:Ctx)(r:Option Nat)(ops:Array Oper)(os:List Oper)(s:aJ)(acc:List Tw)(K:aJ->List Tw->Prop):Prop:=
 ∃ts s',l5 c r ops os (ts.map Tw.fw) s s'/\(∀t∈ts,t.OK)/\K s' (acc++ts)
section
variable {c:Ctx}{r:Option Nat}{ops:Array Oper}
theorem kK.done{acc:List Tw}{K:aJ->List Tw->Prop}(h:K s acc):kK c r ops [] s acc K:=⟨[],s,rfl,(λ_ h=>by cases h),yn⟩
theorem kK.put{acc:List Tw}{K:aJ->List Tw->Prop}(t:Tw)(he:QM c r ops o s t.e t.fw.ok)(hl:t.lv=s.lv)(ht:t.OK)(h:kK c r ops os (t.e.app o.dst s) (acc++[t]) K):kK c r ops (o::os) s acc K:=by
 obtain⟨ts,s',h1,h2,h3⟩:=h;refine⟨t::ts,s',⟨he,hl,h1⟩,λx hx=>?_,yn⟩
 grind
theorem kK.Qo{acc:List Tw}{K:aJ->List Tw->Prop}(he:dh c r ops o s ⟨x,us,rds⟩)(h:kK c r ops os (aJ.put ⟨s.fr,b8 s.lv us⟩ o.dst x) (acc++[⟨⟨x,us,rds⟩,s.lv,none⟩]) K):kK c r ops (o::os) s acc K:=by
 refine kK.put ⟨⟨x,us,rds⟩,s.lv,none⟩ (λs1 h1 h2=>he s1 h1 ?_) rfl (λW B h=>by cases h) h;rcases h2 with⟨h2,-⟩|⟨-,h2|⟨-,k,-,h2⟩⟩
 ·cases h2
 ·exact h2
 ·cases h2
theorem kK.soft{acc:List Tw}{K:aJ->List Tw->Prop}{W:Key}(B:LB)(he:dh c r ops o s ⟨x,[],[W]⟩)(he':dh c r ops o ⟨s.fr,aM s.lv W B⟩ ⟨x,[],[W]⟩)(h:kK c r ops os (aJ.put ⟨s.fr,s.lv⟩ o.dst x) (acc++[⟨⟨x,[],[W]⟩,s.lv,some (W,B)⟩]) K):kK c r ops (o::os) s acc K:=by
 refine kK.put ⟨⟨x,[],[W]⟩,s.lv,some (W,B)⟩ (λs1 h1 h2=>?_) rfl (λW' B' h=>by grind) h
 have fin:∀b,s1.lv W=b->(b=s.lv W\/b=B)->∀F β a w K Q,aR c F β s1 a w->(∀F' β' a' w',aR c F' β' (Fx.app ⟨x,[],[W]⟩ o.dst s1) a' w'->K a' w') ->
  if Region.wanted o (yielded ops a.tmps)then o.wpIn (wg r) 0 c.P a w K Q else K (a.put o.dst Go.undef) w:=by
  intro b hb hor;rcases hor with e|e
  ·exact he s1 h1 ⟨λk hk=>by grind,λp hp=>by cases hp⟩
  ·exact he' s1 h1 ⟨λk hk=>by simp_all,λp hp=>by cases hp⟩
 rcases h2 with⟨h2,-⟩|⟨-,h2|⟨-,k,h3,h2⟩⟩
 ·cases h2
 ·exact fin _ rfl (.inl (h2.1 W (List.mem_singleton.2 rfl)))
 ·obtain⟨h4,h5⟩:=(Tw.Dy (t:=⟨⟨x,[],[W]⟩,s.lv,some (W,B)⟩) rfl).1 h2
  grind
theorem kK.op{acc:List Tw}{K:aJ->List Tw->Prop}(hd:dW c.n [o]=true)(hg:o.guard=none)(h:je c o s κ λx us rds _=>kK c r ops os (aJ.put ⟨s.fr,b8 s.lv us⟩ o.dst x) (acc++[⟨⟨x,us,rds⟩,s.lv,none⟩]) K):kK c r ops (o::os) s acc K:=by
 obtain⟨x,us,rds,_,he,hK⟩:=je.Qo (r:=r) (ops:=ops) (λd hd'=>by simp only[dW,ae1,aff,afg,hd']at hd;grind) sT h;exact kK.Qo he hK
theorem kK.read{acc:List Tw}{K:aJ->List Tw->Prop}(κ:Nat)(W:Key)(B:LB)(hd:dW c.n [o]=true)(hg:o.guard=none)
 (h1:dg c.P o.op (o.op.operands.toList.map (s.val c.G)) s.lv κ=some (x,[],[W],True)) (h2:dg c.P o.op (o.op.operands.toList.map (s.val c.G)) (aM s.lv W B) κ=some (x,[],[W],True))
 (h:kK c r ops os (aJ.put ⟨s.fr,s.lv⟩ o.dst x) (acc++[⟨⟨x,[],[W]⟩,s.lv,some (W,B)⟩]) K):kK c r ops (o::os) s acc K:=by
 have hd2:∀d,o.dst=some d->d<c.n:=λd hd'=>by simp only[dW,ae1,aff,afg,hd']at hd;grind
 exact kK.soft B (dh.plain hd2 sT h1 trivial) (dh.plain (s0:=⟨s.fr,aM s.lv W B⟩) hd2 sT h2 trivial) h
theorem AW.Pv(κ':Nat)(hm:c.P.follows .mixedOrders=true)(hst:kN ops=true)(h:kK c r ops ops.toList s [] λs' ts=>ym ops (ts.map λt=>qh t.AP)=true/\UZ ops ts/\Q .normal s' κ'):AW c r (.region id ops true) s κ Q:=by
 intro F β a w hs;obtain⟨ts,s',h1,h2,h3,h4,h5⟩:=h;rw[aew]at h3 h4;have hlen:ts.length=ops.size:=by have:=h1.len;simpa using this
 have h3':CP ops (ts.map Tw.AP)=true:=by rw[CN,adT];exact h3
 obtain⟨g1,g2⟩:=tv yn hst h3'
 have hbit:∀i j,i<j->Iw ops i j=true\/Iw ops j i=true->Bm ops i j:=λi j hij hb=>by
  refine mV (ops:=ops) ops.toList [] zp (λi j h=>by simp at h) i j ?_;rcases hb with hb|hb<;>unfold Iw at hb
  ·rwa[Nat.max_eq_right zd,aea zd]at hb
  grind
 have hz:∀(i:Nat) f,ts[i]?=some f->(f,i)∈ts.zipIdx:=λi f hf=>by grind
 refine h1.draw hm g1 (λi j o o' f g hij ho ho' hf hg=>?_) (λF' β' a' w' h'=>⟨.normal,s',κ',F',β',h5,h',rfl⟩) hs;rw[aez,adY]at hf hg;obtain⟨f,hf,rfl⟩:=hf;obtain⟨g,hg,rfl⟩:=hg
 by_cases hA:Bm ops i j
 ·grind
 right;obtain⟨a1,a2,a3⟩:=(g2 i j o o' f.AP g.AP hij ho ho' yn yn).resolve_left hA;refine⟨a1,(λh=>by cases h),(λh=>by cases h),?_⟩
 have key:∀{p q:Tw}{n m:Nat},ts[n]?=some p->ts[m]?=some q->¬(Iw ops n m=true)->∀{W B},p.sf=some (W,B)->∀k∈q.e.us.map (·.1),k∉p.e.rds\/(p.e.us=[]/\p.e.rds=[k]/\p.fw.soft k (q.lv k)=true/\p.fw.soft k (b8 (λ_=>.hole) q.e.us k)=true):=by
  intro p q n m hp hq hb W B hs k hk;obtain⟨b1,b2⟩:=h2 p (aet hp) W B hs;rw[b2]
  by_cases hkW:k=W
  ·subst hkW;refine .inr ⟨b1,rfl,?_⟩;rw[Tw.Dy hs,Tw.Dy hs];have hq2:q.e.us≠[]:=λe=>by grind
   obtain⟨c1,c2⟩:=(h4 (p,n) (List.mem_filter.2 ⟨hz n p hp,yn⟩) (q,m) (List.mem_filter.2 ⟨hz m q hq,yn⟩) k B hs hk).resolve_left hb
   grind
  ·grind
 have hb1:¬(Iw ops i j=true):=λh=>hA (hbit i j hij (.inl h))
 have hb2:¬(Iw ops j i=true):=λh=>hA (hbit i j hij (.inr h))
 have noF:∀{p:Tw}{n:Nat},ts[n]?=some p->∀{W B},p.sf=some (W,B)->p.e.us=[]:=λhp _ _ hs=>(h2 _ (aet hp) _ _ hs).1
 cases hfs:f.sf with
 |some fs=>
  obtain⟨W,B⟩:=fs;have hu:f.e.us=[]:=noF hf hfs;refine⟨λk hk=>?_,λk hk=>?_,λk hk=>?_⟩
  ·change k∈f.e.us.map _ at hk;grind
  ·change k∈f.e.us.map _ at hk;grind
  ·rcases key hf hg hb1 hfs k hk with h|⟨q1,q2,q3,q4⟩
   ·exact .inl h
   ·exact .inr ⟨q1,q2,q4⟩
 |none=>
  have ef:f.AP=f.e:=by unfold Tw.AP;rw[hfs]
  cases hgs:g.sf with
  |some gs=>
   obtain⟨W,B⟩:=gs;have hu:g.e.us=[]:=noF hg hgs;refine⟨λk hk=>?_,λk hk=>?_,λk hk=>?_⟩
   ·show k∉g.e.us.map _;grind
   ·rcases key hg hf hb2 hgs k hk with h|⟨q1,q2,q3,q4⟩
    ·exact .inl h
    ·exact .inr ⟨q1,q2,q3⟩
   ·change k∈g.e.us.map _ at hk;grind
  |none=>
   have eg:g.AP=g.e:=by unfold Tw.AP;rw[hgs]
   rw[ef,eg]at a2 a3;exact⟨λk hk=>(a2 k hk).1,λk hk=>.inl (a2 k hk).2,λk hk=>.inl (a3 k hk)⟩
end
def Vo(w:World)(a:Addr)(cap:Nat)(n:Int)(h:w.cell? (a.add 0)=some (.int .u8 n)):(Conv.bytesToString (.slice (some a) 1 cap)).run P w=.ok (.string ⟨#[UInt8.ofNat n.toNat]⟩) w:=by
 have h1:=run_loadCells (P:=P) w a 1 (λ_=>Value.int .u8 n) (λj hj=>by
  grind)
 simp only[Conv.bytesToString,cy,h1,nZ];rfl
section
variable {c:Ctx}{r:Option Nat}{ops:Array Oper}{o:Oper}{s0:aJ}
theorem FU{x:Operand}{κ:Key}{n:Int}(hd:∀d,o.dst=some d->d<c.n)(ho:o.op=.convert S T x)
 (hx:s.val c.G x=.c (.aO κ off 1 1)) (hk:s.lv κ=.cells own fz T' cs) (hc:cs[off]?=some (.d (.int .u8 n))) (hS:fU c.P S=some (e,1)) (he:c.P.underlying e=some (.int .u8)) (hT:lX c.P T=true) :
 di c o s (s.put o.dst (.c (.d (.str [UInt8.ofNat n.toNat])))):=
 di.bA hd λF β a w hs=>by
  have hv:=hx▸hs.val x;obtain⟨hv,_⟩:=hv;simp only[Vw.cT,hk]at hv;obtain⟨cap,hv,hcap,hsz⟩:=hv;have hb:=hs.dj κ;unfold Vw.dj at hb;simp only[hk]at hb;obtain⟨arr,b1,b2,b3,b4,b5⟩:=hb;obtain⟨hoff,hce⟩:=List.getElem?_eq_some_iff.1 hc;have h3:=b3 off hoff zd;rw[hce]at h3;have h4:=Vw.gR (V:=Vw.mk F β s.lv w) h3
  have hcell:w.cell? ((⟨β κ,off,none⟩:Addr).add 0)=some (.int .u8 n):=by
   have:(⟨β κ,off,none⟩:Addr).add 0=⟨β κ,off,none⟩:=by simp[Addr.add]
   rw[this,gz b1 zd,h4]
  refine⟨.string ⟨#[UInt8.ofNat n.toNat]⟩,?_,Vw.qC _ [UInt8.ofNat n.toNat] zp⟩;have hu:=(eJ hS).1;simp only[execOp,ho,hv,convert,cy,run_underlying hu,run_underlying (jm hT),nZ,run_underlying he,Vo w _ cap n hcell];rfl
theorem dh.O6{x:Operand}{κ:Key}{n:Int}(hd:∀d,o.dst=some d->d<c.n)(hw:jb ops o.guard s0.fr=some true)(ho:o.op=.convert S T x)
 (hx:s0.val c.G x=.c (.aO κ off 1 1)) (hk:s0.lv κ=.cells own fz T' cs) (hc:cs[off]?=some (.d (.int .u8 n))) (hS:fU c.P S=some (e,1)) (he:c.P.underlying e=some (.int .u8)) (hT:lX c.P T=true) :
 dh c r ops o s0 ⟨.c (.d (.str [UInt8.ofNat n.toNat])),[],[κ]⟩:=by
 refine dh.qP hw (λcl hcl=>by grind) (λs h1 h3=>?_);have e1:s.val c.G x=s0.val c.G x:=h1 x tp;have e4:s.lv κ=s0.lv κ:=h3.1 κ zp;exact FU hd ho (e1.trans hx) (e4.trans hk) hc hS he hT
end
def kG.O6(κ':Nat){x:Operand}{κ:Key}{n:Int}
 (hd:dW c.n [o]=true) (hg:o.guard=none) (ho:o.op=.convert S T x)
 (hx:s.val c.G x=.c (.aO κ off 1 1)) (hk:s.lv κ=.cells own fz T' cs) (hc:cs[off]?=some (.d (.int .u8 n))) (hS:fU c.P S=some (e,1)) (he:c.P.underlying e=some (.int .u8)) (hT:lX c.P T=true)
 (hK:kG c r ops os (aJ.put ⟨s.fr,b8 s.lv []⟩ o.dst (.c (.d (.str [UInt8.ofNat n.toNat])))) κ' K):kG c r ops (o::os) s κ0 K:=by
 refine kG.Qo κ' (dh.O6 (λd hd'=>?_) sT ho hx hk hc hS he hT) hK;simp only[dW,ae1,aff,afg,hd']at hd
 grind
def G3(n:Nat):Nat->Nat
 |0=>0
 |k+1=>if (k+1)*(k+1)<=n then k+1 else G3 n k
def Kl(n:Nat):∀k,G3 n k*G3 n k<=n
 |0=>ab5 _
 |k+1=>by
  unfold G3;split
  ·assumption
  ·exact Kl n k
def Gp(n:Nat):∀k j,j<=k->j*j<=n->j<=G3 n k
 |0,j,h,_=>by unfold G3;exact h
 |k+1,j,h,hj=>by
  unfold G3;split
  ·exact h
  ·by_cases e:j=k+1
   ·subst e;contradiction
   ·exact Gp n k j zd hj
def si(n:Nat):Nat:=G3 n n
def AS(n:Nat):si n*si n<=n:=Kl n n
def Ef(h:j*j<=n):j<=si n:=by
 refine Gp n n j ?_ h
 by_cases e:j=0
 ·omega
 ·exact HQ (Nat.le_mul_of_pos_left j (aeJ e)) h
def Vb(n:Nat):n<(si n+1)*(si n+1):=by
 by_cases h:(si n+1)*(si n+1)<=n
 ·have:=Ef h;omega
 ·omega
def JR(h:n≠0):0<si n:=by
 have:=Ef (n:=n) (j:=1) zd;omega
def IQ(n:Nat):si n<=n:=by
 have h:=AS n
 by_cases e:si n=0
 ·omega
 ·exact HQ (Nat.le_mul_of_pos_left _ (aeJ e)) h
def Ko{x:Nat}(hx:0<x):si A<=(x+A/x)/2:=by
 have hs:=AS A;obtain⟨s,hS⟩:∃s,si A=s:=⟨_,rfl⟩
 rw[hS]at hs ⊢
 by_cases h:2*s<=x+A/x
 ·omega
 exfalso;have h1:A<x*(A/x+1):=Nat.lt_mul_div_succ A hx;obtain⟨d,hd⟩:∃d,A/x+1=d:=⟨_,rfl⟩
 rw[hd]at h1;have h2:x+d<=2*s:=zd
 have h3:x*d<=s*s:=by
  by_cases hxs:x<=s
  ·obtain⟨e,rfl⟩:∃e,s=x+e:=⟨s-x,zd⟩
   have hde:d<=x+2*e:=zd
   have:=adI x hde;have e1:(x+e)*(x+e)=x*(x+2*e)+e*e:=yn
   omega
  ·obtain⟨e,rfl⟩:∃e,x=s+e:=⟨x-s,zd⟩
   obtain⟨f,rfl⟩:∃f,s=e+f:=⟨s-e,zd⟩
   have hde:d<=f:=zd
   have:=adI (e+f+e) hde;have e1:(e+f)*(e+f)=(e+f+e)*f+e*e:=yn
   omega
 omega
def Cd{x:Nat}(hx:0<x)(hs:si A<=x)(h:x<=(x+A/x)/2):x=si A:=by
 have h1:x<=A/x:=zd
 have h2:x*x<=A:=by
  have:=adI x h1;exact HQ this (Nat.mul_div_le A x)
 have:=Ef h2;omega
def CC{b:Nat}(h:A<2^b):si A<=2^((b+1)/2):=by
 by_cases hl:si A<=2^((b+1)/2)
 ·exact hl
 exfalso;have h1:2^((b+1)/2)*2^((b+1)/2)<=si A*si A:=ae3 zd zd;rw[<-aee]at h1;have h2:2^b<=2^((b+1)/2+(b+1)/2):=adK zr zd;have:=AS A;omega
section
variable {c:Ctx}{ps:List Bk}{d:Option Tmp}{s:aJ}{κ:Nat}{x:Operand}
@[simp]theorem abX{n:String}{xs:Array Operand}:br c (⟨d,.call { callee:=.invoke x n,args:=xs,argTypes:=ts },none⟩::ps) s κ K=AR c (lS c.P n (s.val c.G x)) (xs.toList.map (s.val c.G)) ps d s κ K:=by
 rfl
@[simp]theorem acs{n:String}{K:aJ->Nat->List p9->Prop}{xs:Array Operand}:bx c (⟨d,.call { callee:=.invoke x n,args:=xs,argTypes:=ts },none⟩::ps) s κ acc K=xd c (lS c.P n (s.val c.G x)) (xs.toList.map (s.val c.G)) ps d s κ acc K:=by
 rfl
@[simp]theorem UD{a:AV}{K:aJ->Nat->List p9->Prop}:xd c (some (f,[a],[])) xs ps d s κ acc K=(aE c.P f=true/\gw c f (a::xs) ps d s κ acc K):=by simp[xd]
@[simp]theorem Wx{a:AV}:AR c (some (f,[a],[])) xs ps d s κ K=(aE c.P f=true/\eL c f (a::xs) ps d s κ K):=by simp[AR]
end
section
variable {c:Ctx}{r:Option Nat}{ops:Array Oper}
theorem xV.stepG{K:aJ->Nat->List p9->Prop}(κ':Nat)(hd:dW c.n [o]=true)(hg:jb ops o.guard s.fr=some true)
 (h:Am.ij c.P o.op (o.op.operands.toList.map (s.val c.G)) s.lv κ=some (x,us,rds)) (hK:xV c r ops os (aJ.put ⟨s.fr,b8 s.lv us⟩ o.dst x) κ' ((us.map (·.1),rds)::acc) K):xV c r ops (o::os) s κ acc K:=by
 have he:dh c r ops o s ⟨x,us,rds⟩:=dh.HD (λd hd'=>by
  simp only[dW,ae1,aff,afg,hd']at hd
  grind) hg h
 obtain⟨es,s',κ2,h1,h2⟩:=hK;refine⟨⟨x,us,rds⟩::es,s',κ2,⟨he,h1⟩,?_⟩;simpa[qh]using h2
end
end Go.Am
