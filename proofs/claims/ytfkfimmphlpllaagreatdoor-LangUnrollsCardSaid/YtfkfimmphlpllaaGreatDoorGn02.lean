/- Helpers. -/
import Derived.Test.YtfkfimmphlpllaaGreatDoorGn01
import Derived.KernelRfl
import Derived.Scope
import Derived.RangeFuncLeaves
import Derived.RangeFuncRecord

set_option linter.all false
set_option maxHeartbeats 8000000
set_option maxRecDepth 100000
open Go.IntKind
noncomputable section
namespace Go.Am
variable {x:AV}{g:Key->Key}{b:LB}{p:Key->Bool}{lv:Key->LB}{nk:List Key}{kh:Key}
abbrev Zl:=@Nat.pow_succ
abbrev aci:=@List.mem_or_eq_of_mem_set
abbrev ZD:=@Nat.mul_le_mul_left
abbrev Zc:=@Nat.mul_add
abbrev Z6:=@List.drop_eq_getElem_cons
abbrev abj:=@List.drop_eq_nil_of_le
abbrev aa5:=@List.take_of_length_le
abbrev Z1:=@Nat.mul_pos
abbrev abY:=@Nat.add_mul_mod_self_left
abbrev acj:=@List.getLast?_eq_getElem?
abbrev aaT:=@Nat.lt_of_le_of_lt
abbrev ack:=@Nat.pow_lt_pow_iff_right
abbrev Zn:=@Nat.mul_assoc
abbrev ZY:=@List.length_singleton
abbrev Y9:=@List.drop_zero
abbrev acm:=@List.set_append_right
abbrev acn:=@BitVec.toNat_ofNat
abbrev aco:=@BitVec.ofInt_natCast
abbrev acp:=@List.set_append_left
abbrev abZ:=@Nat.add_mul_div_left
abbrev abk:=@Nat.div_eq_of_lt
abbrev ZL:=@List.append_nil
abbrev aa6:=@Nat.mul_le_mul
abbrev acA:=@Nat.lt_of_mul_lt_mul_right
abbrev abJ:=@Nat.le_div_iff_mul_le
abbrev ZG:=@Classical.byContradiction
abbrev abb:=@Nat.div_lt_iff_lt_mul
structure ES where
 fr:Tr AV
 lv:Tr LB
 nx:Nat
def YX(t:Tr AV):Nat->AV:=λi=>match t.get i with|some x=>x|none=>.undef
def YM(t:Tr LB):Key->LB:=λk=>match t.get k with|some b=>b|none=>.hole
def ES.st(s:ES):aE:=⟨YX s.fr,YM s.lv⟩
def ES.put(s:ES)(dst:Option Nat)(x:AV):Option ES:=
 match dst with
 |none=>some s
 |some d=>match s.fr.set 16 d x with|some fr=>some ⟨fr,s.lv,s.nx⟩|none=>none
def KJ:Tr LB->List (Key×LB)->Option (Tr LB)
 |t,[]=>some t
 |t,p::r=>match t.set 30 p.1 p.2 with|some t=>KJ t r|none=>none
def ES.wr(s:ES)(us:List (Key×LB))(nx:Nat):Option ES:=
 match KJ s.lv us with|some lv=>some ⟨s.fr,lv,nx⟩|none=>none
def jf.tR(p:Key->Bool):jf->Bool
 |.d _=>true
 |.ptr k _=>p k
 |.aD k _ _ _=>p k
def Ref.tR(p:Key->Bool):Ref->Bool
 |.d _=>true
 |.ptr k _=>p k
 |.aD k _ _ _=>p k
 |.agg cs=>cs.all (jf.tR p)
 |.ifc _ x=>x.tR p
def CV.tR(p:Key->Bool):CV->Bool
 |.d _=>true
 |.ptr k _=>p k
 |.aD k _ _ _=>p k
 |.mapr k=>p k
 |.func _ f c=>f.all (Ref.tR p)&&c.all (Ref.tR p)
 |.ifc _ x=>x.tR p
 |.junk=>true
def AV.LY(p:Key->Bool):AV->Bool
 |.c x=>x.tR p
 |.agg cs=>cs.all (CV.tR p)
 |_=>true
def AV.tR(p:Key->Bool):AV->Bool
 |.tup l=>l.all (AV.LY p)
 |x=>x.LY p
def LB.tR(p:Key->Bool):LB->Bool
 |.cells _ _ _ cs=>cs.all (CV.tR p)
 |.map _ es=>es.all λq=>q.2.LY p&&q.2.cH
 |_=>true
section
variable {p:Key->Bool}{i g:Key->Key}(hp:∀k,p k=true->g (i k)=k)
include hp
theorem oq{α:Type}{f:(Key->Key)->α->α}{c:α->Bool}(hf:∀x,c x=true->f g (f i x)=x){l:List α}(h:l.all c=true):(l.map (f i)).map (f g)=l:=by
 rw[Zb]at h;rw[ZC]
 conv=>rhs;rw[<-List.map_id l]
 exact ZP λx hx=>hf x (h x hx)
theorem jf.wO{x:jf}(h:x.tR p=true):(x.bM i).bM g=x:=by
 cases x with
 |d x=>rfl
 |ptr k o=>simp only[jf.bM,hp k h]
 |aD k o l z=>simp only[jf.bM,hp k h]
theorem Ref.wO:∀{x:Ref},x.tR p=true->(x.bM i).bM g=x
 |.d _,_=>rfl
 |.ptr k _,h=>by simp only[Ref.bM,hp k h]
 |.aD k _ _ _,h=>by simp only[Ref.bM,hp k h]
 |.agg cs,h=>by simp only[Ref.bM];rw[oq hp (λx hx=>jf.wO hp hx) h]
 |.ifc t x,h=>by simp only[Ref.bM,Ref.wO (x:=x) h]
theorem CV.wO{x:CV}(h:x.tR p=true):(x.bM i).bM g=x:=by
 cases x with
 |d x=>rfl
 |ptr k o=>simp only[CV.bM,hp k h]
 |aD k o l z=>simp only[CV.bM,hp k h]
 |mapr k=>simp only[CV.bM,hp k h]
 |func fn f c=>
  simp only[CV.tR,cn]at h;simp only[CV.bM];rw[oq hp (λx hx=>Ref.wO hp hx) h.1,oq hp (λx hx=>Ref.wO hp hx) h.2]
 |ifc t x=>simp only[CV.bM,Ref.wO hp (x:=x) h]
 |junk=>rfl
theorem AV.IA(h:x.LY p=true)(ht:x.cH=true):(x.mj i).mj g=x:=by
 cases x with
 |c x=>simp only[AV.mj,CV.wO hp (x:=x) h]
 |agg cs=>simp only[AV.mj];rw[oq hp (λx hx=>CV.wO hp hx) h]
 |tup l=>cases ht
 |undef=>rfl
 |junk=>rfl
theorem AV.wO(h:x.tR p=true)(hf:x.bC=true):(x.bM i).bM g=x:=by
 cases x with
 |c x=>exact AV.IA hp (x:=.c x) h rfl
 |agg cs=>exact AV.IA hp (x:=.agg cs) h rfl
 |tup l=>
  simp only[AV.bC,Zb]at hf;simp only[AV.tR,Zb]at h;simp only[AV.bM,ZC];congr 1
  conv=>rhs;rw[<-List.map_id l]
  refine ZP λx hx=>AV.IA hp (h x hx) ?_;have:=hf x hx
  cases x<;>first|rfl|cases this
 |undef=>rfl
 |junk=>rfl
end
def LB.nX:LB->LB
 |.cells _ fz T cs=>.cells false fz T cs
 |.map _ es=>.map false es
 |x=>x
def LB.RZ{i:Key->Key}(hp:∀k,p k=true->g (i k)=k)(hc:b.tR p=true):b.as (b.bM i) g:=by
 cases b with
 |hole=>rfl
 |dead=>intro h;cases h
 |nils=>rfl
 |cells own fz T cs=>exact⟨own,cs,rfl,(oq hp (λx hx=>CV.wO hp hx) hc).symm,λh=>h⟩
 |map own es=>
  have h2:=hc;simp only[LB.tR,Zb,cn]at h2;refine⟨own,es,rfl,?_,λh=>h,λq hq l=>?_⟩
  ·simp only[ZC]
   conv=>lhs;rw[<-List.map_id es]
   refine(ZP λq hq=>?_);obtain⟨h3,h4⟩:=h2 q hq;simp only[Function.comp,id,AV.IA hp h3 h4]
  ·simp only[ZX]at hq;obtain⟨q0,hq0,rfl⟩:=hq;obtain⟨_,h4⟩:=h2 q0 hq0;intro e
   cases e2:q0.2<;>rw[e2]at h4 e<;>first|(cases h4;done)|(simp only[AV.mj]at e;cases e;done)
def LB.Ku{b':LB}(h:b.as b' g):b.as b'.nX g:=by
 cases b' with
 |cells own fz T cs=>obtain⟨o,c,h1,h2,h3⟩:=h;exact⟨o,c,h1,h2,λe=>by cases e⟩
 |map own es=>obtain⟨o,c,h1,h2,h3,h4⟩:=h;exact⟨o,c,h1,h2,(λe=>by cases e),h4⟩
 |hole=>exact h
 |dead=>exact h
 |nils=>exact h
def jf.ks:jf->List Key
 |.d _=>[]
 |.ptr k _=>[k]
 |.aD k _ _ _=>[k]
def Ref.ks:Ref->List Key
 |.d _=>[]
 |.ptr k _=>[k]
 |.aD k _ _ _=>[k]
 |.agg cs=>cs.flatMap jf.ks
 |.ifc _ x=>x.ks
def CV.ks:CV->List Key
 |.d _=>[]
 |.ptr k _=>[k]
 |.aD k _ _ _=>[k]
 |.mapr k=>[k]
 |.func _ f c=>f.flatMap Ref.ks++c.flatMap Ref.ks
 |.ifc _ x=>x.ks
 |.junk=>[]
def AV.Xz:AV->List Key
 |.c x=>x.ks
 |.agg cs=>cs.flatMap CV.ks
 |_=>[]
def AV.ks:AV->List Key
 |.tup l=>l.flatMap AV.Xz
 |x=>x.Xz
def LB.ks:LB->List Key
 |.cells _ _ _ cs=>cs.flatMap CV.ks
 |.map _ es=>es.flatMap λq=>q.2.Xz
 |_=>[]
def reach(lv:Key->LB):Nat->List Key->Tr Nat->List Key->Nat->Option (Tr Nat×List Key)
 |0,_,_,_,_=>none
 |_+1,[],t,l,_=>some (t,l.reverse)
 |f+1,k::r,t,l,n=>match t.get k with
  |some _=>reach lv f r t l n
  |none=>match t.set 30 k n with
   |some t'=>reach lv f ((lv k).ks++r) t' (k::l) (n+1)
   |none=>none
def rW(t:Tr Nat):Key->Key:=λk=>match t.get k with|some j=>j|none=>0
def pT(t:Tr Nat)(g:Key->Key):Key->Bool:=λk=>match t.get k with|some j=>Nat.beq (g j) k|none=>false
def TD{t:Tr Nat}{k:Key}(h:pT t g k=true):g (rW t k)=k:=by
 unfold pT at h;unfold rW;split at h
 ·rename_i j hj;exact Zr h
 ·cases h
def EG(k:Nat):List Nat->Bool
 |[]=>false
 |a::r=>Nat.beq a k ||EG k r
def oo{k:Nat}:∀{l:List Nat},EG k l=true↔k∈l
 |[]=>by simp[EG]
 |a::r=>by
  simp only[EG,ZK,oo (l:=r),rP];constructor
  ·rintro(h|h)
   ·exact .inl (Zr h).symm
   ·exact .inr h
  ·rintro(h|h)
   ·exact .inl (by subst h;exact Nat.beq_refl k)
   ·exact .inr h
def nodupB:List Nat->Bool
 |[]=>true
 |a::r=>!EG a r&&nodupB r
def A3:∀{l:List Nat},nodupB l=true->l.Nodup
 |[],_=>List.nodup_nil
 |a::r,h=>by
  simp only[nodupB,cn,Zy]at h;refine List.nodup_cons.2 ⟨λhm=>?_,A3 h.2⟩;rw[oo.2 hm]at h;cases h.1
def LB.isHole:LB->Bool
 |.hole=>true
 |_=>false
def LB.nF:b.isHole=true↔b=.hole:=by cases b<;>simp[LB.isHole]
def jD:Nat->Nat->List Nat
 |_,0=>[]
 |a,n+1=>a::jD (a+1) n
def kU:∀(n a:Nat),(jD a n).length=n
 |0,_=>rfl
 |n+1,a=>by simp[jD,kU n]
def ri:∀(n a i:Nat) (h:i<(jD a n).length),(jD a n)[i]=a+i
 |0,_,i,h=>absurd h (ZH i)
 |n+1,a,0,h=>rfl
 |n+1,a,i+1,h=>by
  simp only[jD,List.getElem_cons_succ];rw[ri n];omega
structure Pass where
 us:List AV
 σ:List LB
 sel:List Key
 t:Tr Nat
def FU(lv:Key->LB)(as:List AV):Option Pass:=
 match reach lv 1000000 (as.flatMap AV.ks) .nil [] 0 with
 |some (t,sel)=>some ⟨as.map (AV.bM (rW t)),sel.map λk=>((lv k).bM (rW t)).nX,sel,t⟩
 |none=>none
def yH(lv:Key->LB)(as:List AV)(q:Pass)(nk:List Key)(kh:Key):Bool:=
 let p:=pT q.t (aG q.sel nk kh)
 as.all (λa=>a.tR p&&a.bC)&&q.us.all AV.bC&&q.sel.all (λk=>(lv k).tR p&&!(lv k).isHole)&&q.σ.all LB.pass &&
  nodupB (q.sel++nk)&&!EG kh (q.sel++nk)&&nk.all (λk=>(lv k).isHole)&&(lv kh).isHole&&Nat.ble q.σ.length 1000
def Gn(q:Pass)(nk:List Key)(σ' ν:List LB):Bool:=
 Nat.beq σ'.length q.σ.length&&Nat.beq nk.length ν.length&&(σ'++ν).all (λb=>!b.isHole)
def BI{lv:Key->LB}{p:Key->Bool}{R:List Key}(h1:∀k,p k=true->k∈R)(h2:∀k∈R,(lv k).tR p=true):∀(n:Nat) (x:CV),x.tR p=true->∀k∈fK lv n x,k∈R
 |n+1,.ptr k _,hx,j,hj=>by
  simp only[fK,rP]at hj;rcases hj with rfl|hj
  ·exact h1 _ hx
  ·have h3:=h2 k (h1 _ hx)
   cases e:lv k with
   |cells own fz T cs=>
    rw[e]at hj h3;simp only[aaK]at hj;obtain⟨y,hy,hj⟩:=hj;simp only[LB.tR,Zb]at h3;exact BI h1 h2 n y (h3 y hy) j hj
   |_=>rw[e]at hj;cases hj
 |n+1,.aD k _ _ _,hx,j,hj=>by
  simp only[fK,rP]at hj;rcases hj with rfl|hj
  ·exact h1 _ hx
  ·have h3:=h2 k (h1 _ hx)
   cases e:lv k with
   |cells own fz T cs=>
    rw[e]at hj h3;simp only[aaK]at hj;obtain⟨y,hy,hj⟩:=hj;simp only[LB.tR,Zb]at h3;exact BI h1 h2 n y (h3 y hy) j hj
   |_=>rw[e]at hj;cases hj
 |0,.ptr ..,_,_,hj=>by cases hj
 |0,.aD ..,_,_,hj=>by cases hj
 |n,.d _,_,_,hj=>by cases n<;>cases hj
 |n,.mapr _,_,_,hj=>by cases n<;>cases hj
 |n,.func ..,_,_,hj=>by cases n<;>cases hj
 |n,.ifc ..,_,_,hj=>by cases n<;>cases hj
 |n,.junk,_,_,hj=>by cases n<;>cases hj
def Rj{R:List Key}(h1:∀k,p k=true->k∈R)(h2:∀k∈R,(lv k).tR p=true)(hx:x.tR p=true):∀k∈hO lv x,k∈R:=by
 cases x with
 |c x=>exact BI h1 h2 8 x hx
 |agg cs=>
  intro k hk;simp only[hO,aaK]at hk;obtain⟨y,hy,hk⟩:=hk;simp only[AV.tR,AV.LY,Zb]at hx;exact BI h1 h2 8 y (hx y hy) k hk
 |_=>intro k hk;cases hk
def FQ{sel:List Key}{j:Key}:aG sel nk kh j∈sel\/aG sel nk kh j∈nk\/aG sel nk kh j=kh:=by
 unfold aG;split
 ·rw[Y8]
  by_cases h:j<sel.length
  ·left;rw[cy h];exact bh h
  ·right;right;rw[aa3 (abo h)];rfl
 ·rw[Y8]
  by_cases h:j-1000<nk.length
  ·right;left;rw[cy h];exact bh h
  ·right;right;rw[aa3 (abo h)];rfl
def bV.pass{c:Ctx}{f:FuncId}{as:List AV}{q:Pass}{σ' ν:List LB}(hq:FU lv as=some q)(h1:yH lv as q nk kh=true)(h2:Gn q nk σ' ν=true)
 (hc:aA c.P c.G f q.us q.σ (.ret x σ' ν)):bV c f as lv (x.bM (aG q.sel nk kh)) (bD (aG q.sel nk kh) false q.sel σ'++bD (aG q.sel nk kh) false nk ν) (kh::q.sel++nk):=by
 unfold FU at hq;split at hq
 ·rename_i t sel hr
  simp only[ai]at hq;subst hq;simp only[yH,cn,Zb,Zy]at h1;obtain⟨⟨⟨⟨⟨⟨⟨⟨a1,a2⟩,a3⟩,a4⟩,a5⟩,a6⟩,a7⟩,a8⟩,a9⟩:=h1;simp only[Gn,cn,Zb,Zy]at h2;obtain⟨⟨b1,b2⟩,b3⟩:=h2;have hp:∀k,pT t (aG sel nk kh) k=true->aG sel nk kh (rW t k)=k:=λk h=>TD h
  have e1:=Zr b1;have e2:=Zr b2;have hnh:∀b:LB,b.isHole=false->b≠.hole:=λb h e=>by rw[e]at h;cases h
  refine bV.gen (as.map (AV.bM (rW t))) [] sel nk kh (sel.map λk=>((lv k).bM (rW t)).nX) σ' ν x false (kh::sel++nk) (λz hz=>by cases hz) (by simp) (A3 a5) (λz hz=>by cases hz)
   (λhm=>by rw[oo.2 hm]at a6;cases a6) (λz hz=>by cases hz) (by simp) e1 e2 (Zu a9)
   (λi p q=>?_) (λk hk=>LB.nF.1 (a7 k hk)) (LB.nF.1 a8) a4 (λb hb=>?_) (λh=>by cases h) (by simp) (λi p q=>?_) (λa ha k hk=>.inl ?_) (by simp) hc
  ·have e:(sel.map λk=>((lv k).bM (rW t)).nX)[i]=((lv sel[i]).bM (rW t)).nX:=Za _;show LB.as _ ((sel.map λk=>((lv k).bM (rW t)).nX)[i]) _;rw[e];exact LB.Ku (LB.RZ hp (a3 _ (bh p)).1)
  ·rw[Zo,Z5]at hb;rcases hb with hb|hb
   ·obtain⟨k,hk,rfl⟩:=List.mem_map.1 hb;have h3:=hnh _ (a3 k hk).2;intro e
    cases e2:lv k<;>rw[e2]at e h3<;>simp[LB.bM,LB.nX]at e h3
   ·exact hnh b (b3 b hb)
  ·left;have e:(as.map (AV.bM (rW t)))[i]=(as[i]).bM (rW t):=Za _;show AV.bC ((as.map (AV.bM (rW t)))[i])=true/\_=AV.bM _ ((as.map (AV.bM (rW t)))[i]);rw[e];have ha:=a1 _ (bh p);refine⟨a2 _ ?_,(AV.wO hp ha.1 ha.2).symm⟩;simp only[ZX];exact⟨_,bh p,rfl⟩
  ·have ha:=a1 a ha;refine Rj (p:=pT t (aG sel nk kh)) (lv:=lv) (λk h=>?_) (λk hk'=>?_) ha.1 k (by simpa[dS,aQ]using hk)
   ·have h4:=hp k h;rw[<-h4];rcases FQ (sel:=sel) (nk:=nk) (kh:=kh) (j:=rW t k)with h5|h5|h5
    ·simp[h5]
    ·simp[h5]
    ·rw[h5];simp
   ·simp only[abF,rP,Z5]at hk';rcases hk' with rfl|hk'|hk'
    ·rw[LB.nF.1 a8];rfl
    ·exact(a3 k hk').1
    ·rw[LB.nF.1 (a7 k hk')];rfl
 ·cases hq
end Go.Am
namespace Go.Am
variable {x y v z:AV}{κ i j id u:Nat}{T T' S ty:TypeId}{f:FuncId}{s:aE}{a1 a2 a3 a4 vc a5 a6 φ a7:Prop}{c:Ctx}{xs xs' args:List AV}{Q:Ex->aE->Nat->Prop}{lv:Key->LB}{o:Op}{r:Option Nat}{n:Int}{K:AV->List (Key×LB)->List Key->Nat->Prop}{w:Bool}{α:Type}{G:List (List DV)}{fn:Func}{rds:List Key}{os:List Oper}{ts:Array TypeId}{P:Program}{d:Option Tmp}{a b:Unit->Prop}{ops:Array Oper}{gd:List (Option Tmp)}{fr:Nat->AV}{k k':IntKind}{op:BinOp}{l h:Operand}{code:Code}{pos:String}{af:Array Edge}{parts:Array (Nat×Operand)}
inductive cW where
 |bad (n:Nat) (o:List Op)
 |done (x:AV) (lv:Tb LB) (nx:Nat) (lg:List Key)
 |tr (d:DV) (lv:Tb LB) (nx:Nat) (lg:List Key)
abbrev Gg:=AV->Tb LB->Nat->List Key->cW
abbrev P5:=DV->Tb LB->Nat->List Key->cW
abbrev eG:=FuncId->List AV->Tb LB->Nat->List Key->Gg->P5->cW
abbrev SP:=Ex->Tb AV->Tb LB->Nat->List Key->cW
def mK(x:Option α)(b:cW)(k:α->cW):cW:=Option.rec (motive:=λ_=>cW) b (λa=>k a) x
def eU(x:Bool)(f t:cW):cW:=Bool.rec (motive:=λ_=>cW) f t x
def dW{x:Option α}{b r:cW}{k:α->cW}(h:mK x b k=r)(hb:b≠r):∃a,x=some a/\k a=r:=by
 cases x with
 |none=>exact absurd h hb
 |some a=>exact⟨a,rfl,h⟩
def dy{x:Bool}{f t r:cW}(h:eU x f t=r)(hf:f≠r):x=true/\t=r:=by
 cases x with
 |false=>exact absurd h hf
 |true=>exact⟨rfl,h⟩
section
variable (P:Program) (G:List (List DV))
def zZ(fr:Tb AV)(x:Operand):AV:=
 Operand.rec (motive:=λ_=>AV) (λt=>fr.get .undef (pathOf t)) (λv=>qA v) (λg=>match G[g]? with|some cs=>.c (.d (.ptr cs))|none=>.junk) (λf=>.c (.d (.func (.func f) [] []))) x
def hJ(fr:Tb AV)(l:List Operand):List AV:=
 List.rec (motive:=λ_=>List AV) [] (λx _ ih=>zZ G fr x::ih) l
def Be(us:List (Key×LB))(lv:Tb LB)(lg:List Key)(k:Tb LB->List Key->cW):cW:=
 List.rec (motive:=λ_=>Tb LB->List Key->(Tb LB->List Key->cW)->cW) (λlv lg k=>k lv lg)
  (λp _ ih lv lg k=>dF p.1 λq=>uM p.2 λb=>eU b.okB (.bad 3 []) (Tb.Cw .hole b (pathOf q) lv λlv=>ih lv (q::lg) k)) us lv lg k
def eO(d:Option Nat)(x:AV)(fr:Tb AV)(k:Tb AV->cW):cW:=
 Option.rec (motive:=λ_=>cW) (k fr) (λd=>eC x λx=>Tb.Cw .undef x (pathOf d) fr k) d
def Qr(op:Op)(vals:List AV)(lv:Tb LB)(nx:Nat)(k:AV->List (Key×LB)->List Key->cW):cW:=
 Option.rec (motive:=λ_=>cW) (mK (iu P op vals (aZ lv) nx) (.bad 2 [op]) λr=>k r.1 r.2.1 r.2.2)
  (λr=>eU r.2.2.2 (mK (iu P op vals (aZ lv) nx) (.bad 1 [op]) λr=>k r.1 r.2.1 r.2.2) (k r.1 r.2.1 r.2.2.1)) (tq P op vals (aZ lv) nx)
def NQ(nx:Nat)(us:List (Key×LB))(k:Nat->cW):cW:=
 List.rec (motive:=λ_=>cW) (k nx) (λp _ ih=>eU (Nat.beq p.1 nx) ih (dF nx λn=>k (Nat.succ n))) us
structure Rec where
 x:AV
 us:List (Key×LB)
 rds:List Key
 all:Bool
 lv:Tb LB
 op:Op
 vals:List AV
 nx:Nat
inductive SH where
 |tr (x:Operand)
 |call (cl:Call) (fo:Operand)
 |plain
def uO(op:Op):SH:=
 match op with
 |.panic x=>.tr x
 |.call cl=>match cl.callee with|.value fo=>.call cl fo|_=>.plain
 |_=>.plain
def Ll(x:AV)(k:DV->cW)(b:cW):cW:=
 match x with
 |.c (.d (.iface t d))=>k (.iface t d)
 |_=>b
def MG(f:FuncId)(t:cW):cW:=eU (aJ P f) (.bad 4 []) t
def vS(call:eG)(op:Op)(cl:Call)(fo:Operand)(fr:Tb AV)(lv:Tb LB)(nx:Nat)(lg:List Key)(kr:Gg)(kp:P5):cW:=
 mK (cx (zZ G fr fo)) (.bad 5 [op]) λt=>MG P t.1 (call t.1 (t.2.1++hJ G fr cl.args.toList++t.2.2) lv nx lg kr kp)
def ya(call:eG)(ops:Array Oper)(os:List Oper)(fr:Tb AV)(lv:Tb LB)(nx:Nat)(lg:List Key)(k:SP):cW:=
 List.rec (motive:=λ_=>Tb AV->Tb LB->Nat->List Key->SP->cW) (λfr lv nx lg k=>k .normal fr lv nx lg)
  (λo _ ih fr lv nx lg k=>mK (eB ops o.guard (kH fr)) (.bad 6 [o.op]) λb=>
   eU b (eO o.dst .undef fr λfr=>ih fr lv nx lg k)
    (SH.rec (motive:=λ_=>cW)
     (λx=>Ll (zZ G fr x) (λd=>k (.panic d) fr lv nx lg) (.bad 7 [o.op]))
     (λcl fo=>vS P G call o.op cl fo fr lv nx lg (λx lv nx lg=>eO o.dst x fr λfr=>ih fr lv nx lg k) (λd lv nx lg=>k (.panic d) fr lv nx lg))
     (Qr P o.op (hJ G fr o.op.operands.toList) lv nx λx us _=>NQ nx us λnx'=>eO o.dst x fr λfr=>Be us lv lg λlv lg=>ih fr lv nx' lg k)
     (uO o.op))) os fr lv nx lg k
def NC(σ:List LB)(i:Nat)(lv:Tb LB)(k:Tb LB->cW):cW:=
 List.rec (motive:=λ_=>Nat->Tb LB->(Tb LB->cW)->cW) (λ_ lv k=>k lv) (λx _ ih i lv k=>uM x λx=>Tb.Cw .hole x (pathOf i) lv λlv=>ih (Nat.succ i) lv k) σ i lv k
def KK(lv:Tb LB)(nx:Nat)(as:List AV)(q:Pass)(x:AV)(lv':Tb LB)(n':Nat)(lg:List Key)(k:AV->List (Key×LB)->List Key->Nat->cW):cW:=
 let σ':=(jD 0 q.σ.length).map (aZ lv')
 let ν:=(jD 1000 (n' - 1000)).map (aZ lv')
 let nk:=jD nx ν.length
 let kh:=nx+ν.length
 let g:=aG q.sel nk kh
 eU (lg.all (λa=>Nat.blt a q.σ.length ||(Nat.ble 1000 a&&Nat.blt a n'))&&yH (aZ lv) as q nk kh&&Gn q nk σ' ν) (.bad 40 [])
  (k (x.bM g) (bD g false q.sel σ'++bD g false nk ν) (kh::q.sel++nk) (kh+1))
def WD(r:cW)(k:AV->Tb LB->Nat->List Key->cW):cW:=
 cW.rec (motive:=λ_=>cW) (λn o=>.bad n o) (λx lv nx lg=>k x lv nx lg) (λ_ _ _ _=>.bad 41 []) r
def vv(call:eG)(op:Op)(cl:Call)(fo:Operand)(fr:Tb AV)(lv:Tb LB)(nx:Nat)(k:AV->List (Key×LB)->List Key->Nat->cW):cW:=
 mK (cx (zZ G fr fo)) (.bad 42 [op]) λt=>MG P t.1 (
  mK (FU (aZ lv) (t.2.1++hJ G fr cl.args.toList++t.2.2)) (.bad 43 [op]) λq=>NC q.σ 0 .leaf λl0=>
   WD (call t.1 q.us l0 1000 [] .done .tr) λx lv' n' lg=>KK lv nx (t.2.1++hJ G fr cl.args.toList++t.2.2) q x lv' n' lg k)
def Ta(op:Op):Bool:=
 match op with
 |.alloc _|.box _ _|.buildSlice _ _ _|.insert _ _ _ _|.store _ _ _|.makeMap _ _|.makeSlice _ _ _|.mapUpdate _ _ _ _|.mapEntry _ _ _|.entryStore _ _ _ _=>true
 |.call cl=>match cl.callee with|.builtin .append|.builtin .copy|.builtin .unsafeString|.builtin .clear|.builtin .delete=>true|_=>false
 |_=>false
def Ca:SH->Bool
 |.call _ _=>true
 |_=>false
def Of(ops:Array Oper):Bool:=
 let ms:=iA ops.toList []
 (List.range ops.size).any λj=>(List.range j).any λi=>!(ms.getD j 0).testBit i&&(match ops[i]?,ops[j]? with
  |some o,some o'=>(Ca (uO o.op)&&(Ta o'.op ||Ca (uO o'.op))) ||(Ca (uO o'.op)&&Ta o.op)
  |_,_=>false)
def jn(call:eG)(ops:Array Oper)(os:List Oper)(fr:Tb AV)(lv:Tb LB)(nx:Nat)(lg:List Key)(acc:List Rec)(k:List Rec->Tb AV->Tb LB->Nat->List Key->cW):cW:=
 List.rec (motive:=λ_=>Tb AV->Tb LB->Nat->List Key->List Rec->(List Rec->Tb AV->Tb LB->Nat->List Key->cW)->cW) (λfr lv nx lg acc k=>k acc fr lv nx lg)
  (λo _ ih fr lv nx lg acc k=>mK (eB ops o.guard (kH fr)) (.bad 8 [o.op]) λb=>
   eU b (eO o.dst .undef fr λfr=>ih fr lv nx lg (⟨.undef,[],[],false,lv,o.op,[],nx⟩::acc) k)
    (SH.rec (motive:=λ_=>cW)
     (λ_=>.bad 9 [o.op])
     (λcl fo=>eU (Of ops)
      (vS P G call o.op cl fo fr lv nx [] (λx lv' nx' lg'=>eC x λx=>eO o.dst x fr λfr=>ih fr lv' nx' (lg'++lg) (⟨x,lg'.map λq=>(q,aZ lv' q),[],true,lv,o.op,[],nx⟩::acc) k) (λ_ _ _ _=>.bad 10 [o.op]))
      (vv P G call o.op cl fo fr lv nx λx us rds nx'=>eC x λx=>eO o.dst x fr λfr=>Be us lv lg λlv' lg=>ih fr lv' nx' lg (⟨x,us,rds,false,lv,o.op,[],nx⟩::acc) k))
     (Qr P o.op (hJ G fr o.op.operands.toList) lv nx λx us rds=>NQ nx us λnx'=>eC x λx=>eO o.dst x fr λfr'=>Be us lv lg λlv' lg=>ih fr' lv' nx' lg (⟨x,us,rds,false,lv,o.op,hJ G fr o.op.operands.toList,nx⟩::acc) k)
     (uO o.op))) os fr lv nx lg acc k
end
def MH(a b:DV):Bool:=
 match a,b with
  |.bool x,.bool y=>x==y
  |.int k x,.int k' y=>decide (k=k')&&x==y
  |.str x,.str y=>x==y
  |.nilp,.nilp=>true
  |.nilsl,.nilsl=>true
  |.nilIface,.nilIface=>true
  |.nilFunc,.nilFunc=>true
  |.nilmap,.nilmap=>true
  |_,_=>false
def Kt{a b:DV}(h:MH a b=true):a=b:=by
 unfold MH at h;split at h<;>first|rfl|(simp only[beq_iff_eq]at h;rw[h];done)|(simp only[cn,decide_eq_true_eq,beq_iff_eq]at h;rw[h.1,h.2];done)|cases h
def CV.beq:CV->CV->Bool
 |.d a,.d b=>MH a b
 |.ptr k o,.ptr k' o'=>Nat.beq k k' && Nat.beq o o'
 |.aD k o l z,.aD k' o' l' z'=>Nat.beq k k' && Nat.beq o o' && Nat.beq l l' && Nat.beq z z'
 |.mapr k,.mapr k'=>Nat.beq k k'
 |_,_=>false
def CV.beq_eq{x y:CV}(h:CV.beq x y=true):x=y:=by
 unfold CV.beq at h;split at h
 ·rw[Kt h]
 ·simp only[cn]at h;rw[Zr h.1,Zr h.2]
 ·simp only[cn]at h;rw[Zr h.1.1.1,Zr h.1.1.2,Zr h.1.2,Zr h.2]
 ·rw[Zr h]
 ·cases h
def HP:List CV->List CV->Bool
 |[],[]=>true
 |a::l,b::m=>CV.beq a b&&HP l m
 |_,_=>false
def EO:∀{l m:List CV},HP l m=true->l=m
 |[],[],_=>rfl
 |a::l,b::m,h=>by simp only[HP,cn]at h;rw[CV.beq_eq h.1,EO h.2]
 |[],_::_,h=>by cases h
 |_::_,[],h=>by cases h
def AV.beq:AV->AV->Bool
 |.c a,.c b=>CV.beq a b
 |.agg a,.agg b=>HP a b
 |_,_=>false
def AV.beq_eq(h:AV.beq x y=true):x=y:=by
 unfold AV.beq at h;split at h
 ·rw[CV.beq_eq h]
 ·rw[EO h]
 ·cases h
section
variable (P:Program) (G:List (List DV))
def Ey(f:Rec)(k:Key)(b:LB):Bool:=
 match tq P f.op f.vals (az (aZ f.lv) k b) f.nx with
 |some (x,[],[k'],true)=>AV.beq x f.x&&Nat.beq k' k
 |_=>false
def BR:List α->Bool
 |[]=>true
 |_=>false
def OQ(k:Key):List Key->Bool
 |[a]=>Nat.beq a k
 |_=>false
def Gk(f g:Rec):Bool:=
 (!f.all ||BR g.us)&&(!g.all ||BR f.us)&&f.us.all (λp=>!(g.us.any λq=>Nat.beq q.1 p.1)) &&
 f.us.all (λp=>!EG p.1 g.rds ||(BR g.us&&OQ p.1 g.rds&&Ey P g p.1 (aZ f.lv p.1))) &&
 g.us.all (λp=>!EG p.1 f.rds ||(BR f.us&&OQ p.1 f.rds&&Ey P f p.1 (aQ (λ_=>.hole) (uj g.us) p.1)))
def Rec.quiet(f:Rec):Bool:=BR f.us&&!f.all
def Rec.idle(f:Rec):Bool:=BR f.us&&BR f.rds&&!f.all
def O7(ms:List Nat)(fs:List Rec):Bool:=
 pairs ms fs 0 []
where
 pairs (ms:List Nat):List Rec->Nat->List (Nat×Rec)->Bool
 |[],_,_=>true
 |g::r,j,before=>
  bif Rec.idle g then pairs ms r (j+1) before else
   before.all (λp=>(Rec.quiet g&&Rec.quiet p.2) ||(ms.getD j 0).testBit p.1 ||Gk P p.2 g)&&pairs ms r (j+1) ((j,g)::before)
abbrev RunT:=eG->Nat->Tb AV->Tb LB->Nat->List Key->SP->cW
def Y6(e:Ex)(n:cW)(r:cW)(x:Nat->cW)(p:cW):cW:=
 Ex.rec (motive:=λ_=>cW) n x (λ_=>p) r (λ_=>p) e
def Mt:RunT:=λ_ _ fr lv nx lg k=>k .normal fr lv nx lg
def EA(_:Nat)(ops:Array Oper)(dr:Bool):RunT:=λcall N fr lv nx lg k=>
 eU (cK N ops.toList) (.bad 11 []) (Bool.rec (motive:=λ_=>cW) (ya P G call ops ops.toList fr lv nx lg k)
  (eU (gz ops) (.bad 12 []) (jn P G call ops ops.toList fr lv nx lg [] λacc fr lv nx lg=>eU (O7 P (iA ops.toList []) acc.reverse) (.bad 13 (ops.toList.map (·.op))) (k .normal fr lv nx lg))) dr)
def Qe(_ _:Code)(a b:RunT):RunT:=λcall N fr lv nx lg k=>
 a call N fr lv nx lg λe fr lv nx lg=>Ex.rec (motive:=λ_=>cW) (b call N fr lv nx lg k) (λi=>k (.exit i) fr lv nx lg) (λi=>k (.goto i) fr lv nx lg) (k .ret fr lv nx lg) (λd=>k (.panic d) fr lv nx lg) e
def KM(x:AV)(f t:cW):cW:=
 match x with
 |.c (.d (.bool b))=>eU b f t
 |_=>.bad 14 []
def LW(c:Operand)(_ _:Code)(a b:RunT):RunT:=λcall N fr lv nx lg k=>
 KM (zZ G fr c) (b call N fr lv nx lg k) (a call N fr lv nx lg k)
def H9(id:Nat)(_:Code)(a:RunT):RunT:=λcall N fr lv nx lg k=>
 a call N fr lv nx lg λe fr lv nx lg=>Ex.rec (motive:=λ_=>cW) (k .normal fr lv nx lg) (λi=>Bool.rec (motive:=λ_=>cW) (k (.exit i) fr lv nx lg) (k .normal fr lv nx lg) (Nat.beq i id)) (λi=>k (.goto i) fr lv nx lg) (k .ret fr lv nx lg) (λd=>k (.panic d) fr lv nx lg) e
def Kw(a:RunT)(call:eG)(N:Nat)(n:Nat):Tb AV->Tb LB->Nat->List Key->SP->cW:=
 Nat.rec (motive:=λ_=>Tb AV->Tb LB->Nat->List Key->SP->cW) (λ_ _ _ _ _=>.bad 15 [])
  (λ_ ih fr lv nx lg k=>a call N fr lv nx lg λe fr lv nx lg=>Ex.rec (motive:=λ_=>cW) (ih fr lv nx lg k) (λi=>k (.exit i) fr lv nx lg) (λi=>k (.goto i) fr lv nx lg) (k .ret fr lv nx lg) (λd=>k (.panic d) fr lv nx lg) e) n
def ND(_:Code)(a:RunT):RunT:=λcall N=>Kw a call N 1000000
def RC(id:Nat):RunT:=λ_ _ fr lv nx lg k=>k (.exit id) fr lv nx lg
def RI(id:Nat):RunT:=λ_ _ fr lv nx lg k=>k (.goto id) fr lv nx lg
def Uf:RunT:=λ_ _ fr lv nx lg k=>k .ret fr lv nx lg
def H8:RunT:=λ_ _ _ _ _ _ _=>.bad 16 []
def runK(c:Code):RunT:=
 Code.rec (motive:=λ_=>RunT) Mt (EA P G) Qe (LW G) H9 ND (λ_ _ _ _ _ _=>H8) RC (λ_ _=>H8) (λ_=>Mt) RI Uf (λ_=>H8) c
def Mk(us:List AV)(i:Nat)(fr:Tb AV)(k:Tb AV->cW):cW:=
 List.rec (motive:=λ_=>Nat->Tb AV->(Tb AV->cW)->cW) (λ_ fr k=>k fr) (λx _ ih i fr k=>Tb.Cw .undef x (pathOf i) fr λfr=>ih (Nat.succ i) fr k) us i fr k
inductive Spec where
 |body
 |pure (g:List AV->Option AV)
 |caught
 |self (g:Nat->Nat->Nat->Bool)
def Oq(call:eG)(f:FuncId)(us:List AV)(lv:Tb LB)(nx:Nat)(lg:List Key)(kr:Gg)(kp:P5):cW:=
 mK P.funcs[f]? (.bad 17 []) λfn=>mK fn.body (.bad 18 []) λc=>eU (Nat.ble us.length fn.ntmps) (.bad 19 []) (
  Mk us 0 .leaf λfr=>runK P G c call fn.ntmps fr lv nx lg λe fr lv nx lg=>
   Ex.rec (motive:=λ_=>cW) (mK (cO P ⟨kH fr,aZ lv⟩ fn.results.toList) (.bad 20 []) λx=>eC x λx=>kr x lv nx lg) (λ_=>.bad 21 []) (λ_=>.bad 22 []) (mK (cO P ⟨kH fr,aZ lv⟩ fn.results.toList) (.bad 23 []) λx=>eC x λx=>kr x lv nx lg)
    (λd=>kp d lv nx lg) e)
def xF(ft:TypeId)(call:eG)(us:List AV)(lv:Tb LB)(nx:Nat)(lg:List Key)(kr:Gg):cW:=
 match us with
 |[x]=>mK (cx x) (.bad 24 []) λt=>MG P t.1 (call t.1 (t.2.1++t.2.2) lv nx lg (λ_ lv nx lg=>kr (.c (.d (.int .i64 0))) lv nx lg)
  (λd lv nx lg=>match d with
   |.iface t (.agg [.int .i64 n])=>eU (Nat.beq t ft) (.bad 25 []) (kr (.c (.d (.int .i64 n))) lv nx lg)
   |_=>.bad 26 []))
 |_=>.bad 27 []
def Ii(g:Nat->Nat->Nat->Bool)(us:List AV)(lv:Tb LB)(nx:Nat)(lg:List Key)(kr:Gg):cW:=
 match us with
 |[.c (.ptr k off)]=>(match aZ lv k with
  |.cells own false T cs=>eU (g T off cs.length) (.bad 34 []) (match cs.drop off with
   |.d .nilp::_=>Be [(k,.cells own false T (aj cs off [.ptr k off]))] lv lg λlv lg=>kr (.tup []) lv nx lg
   |.ptr k' off'::_=>eU (Nat.beq k' k&&Nat.beq off' off) (.bad 30 []) (kr (.tup []) lv nx lg)
   |_=>.bad 31 [])
  |_=>.bad 32 [])
 |_=>.bad 33 []
def Sl(sp:Tb Spec)(ft:TypeId)(n:Nat):eG:=
 Nat.rec (motive:=λ_=>eG) (λ_ _ _ _ _ _ _=>.bad 28 [])
  (λ_ ih f us lv nx lg kr kp=>Spec.rec (motive:=λ_=>cW) (Oq P G ih f us lv nx lg kr kp) (λg=>mK (g us) (.bad 29 []) λx=>eC x λx=>kr x lv nx lg) (xF P ft ih us lv nx lg kr) (λg=>Ii g us lv nx lg kr) (sp.get .body (pathOf f))) n
end
def iK(r:Option cw)(κ:Nat)(K:AV->List (Key×LB)->List Key->Nat->Prop):Prop:=
 match r with
 |some (x,us,rds,vc)=>vc/\K x us rds (match us with|[]=>κ|_=>κ+1)
 |none=>False
@[simp↓]def U1:iK (some (x,[],rds,vc)) κ K=(vc/\K x [] rds κ):=rfl
@[simp↓]def UT{p:Key×LB}{us:List (Key×LB)}:iK (some (x,p::us,rds,vc)) κ K=(vc/\K x (p::us) rds (κ+1)):=rfl
@[simp↓]def T7:iK none κ K=False:=rfl
@[congr]def Si{r r':Option cw}(h:∀_:Unit,r=r'):iK r κ K=iK r' κ K:=by rw[h ()]
def l8(w:Option Bool)(a b:Unit->Prop):Prop:=match w with|some true=>a ()|some false=>b ()|none=>False
@[simp↓]def T9:l8 (some true) a b=a ():=rfl
@[simp↓]def Uu:l8 (some false) a b=b ():=rfl
@[congr]def OL{w w':Option Bool}(h:∀_:Unit,w=w'):l8 w a b=l8 w' a b:=by rw[h ()]
def ot(o:Option Tmp)(f:Tmp->Prop):Prop:=match o with|some t=>f t|none=>False
@[simp↓]def Tu{t:Tmp}{f:Tmp->Prop}:ot (some t) f=f t:=rfl
@[congr]def Oc{o o':Option Tmp}{f:Tmp->Prop}(h:∀_:Unit,o=o'):ot o f=ot o' f:=by rw[h ()]
def pq(c:Ctx)(ops:Array Oper)(os:List Oper)(s:aE)(κ:Nat)(K:aE->Nat->Prop):Prop:=gh c ops os s κ [] λs κ _=>K s κ
def mz{c:Ctx}{ops:Array Oper}{K:aE->Nat->Prop}:∀{os:List Oper}{s:aE}{κ:Nat}{acc acc':List Fx},gh c ops os s κ acc (λs κ _=>K s κ)=gh c ops os s κ acc' (λs κ _=>K s κ)
 |[],s,κ,_,_=>rfl
 |o::os,s,κ,acc,acc'=>by
  simp only[gh];split
  ·congr 1;funext x us rds κ';exact mz
  ·exact mz
  ·rfl
section
variable {c:Ctx}{ops:Array Oper}{s:aE}{κ:Nat}{d:Option Tmp}{ty:TypeId}{pos:String}{af:Array Edge}{K:AV->List (Key×LB)->List Key->Nat->Prop}
@[simp↓]def Sx{K:aE->Nat->Prop}:pq c ops [] s κ K=K s κ:=rfl
@[simp↓]def GY{K:aE->Nat->Prop}:pq c ops (⟨d,o,ty,pos,af,none⟩::os) s κ K =
 dR c ⟨d,o,ty,pos,af,none⟩ s κ λx us _ κ'=>pq c ops os (aE.put ⟨s.fr,aQ s.lv us⟩ d x) κ' K:=by
 simp only[pq,gh,eB];congr 1;funext x us rds κ';exact mz
def o5(x:AV)(want:Bool):Option Bool:=
 match x with
 |.c (.d (.bool b))=>some (b==want)
 |.undef=>some false
 |_=>none
@[simp↓]def Eh{K:aE->Nat->Prop}:pq c ops (⟨d,o,ty,pos,af,some (j,w)⟩::os) s κ K =
 ot ((ops[j]?).bind (·.dst)) λt=>l8 (o5 (s.fr t) w)
  (λ_=>dR c ⟨d,o,ty,pos,af,some (j,w)⟩ s κ λx us _ κ'=>pq c ops os (aE.put ⟨s.fr,aQ s.lv us⟩ d x) κ' K)
  (λ_=>pq c ops os (s.put d .undef) κ K):=by
 simp only[pq,gh,eB,ot,l8]
 cases hj:(ops[j]?).bind (·.dst)with
 |none=>rfl
 |some t=>
  simp only[o5]
  cases e:s.fr t with
  |c x=>
   cases x with
   |d x=>cases x with
    |bool b=>
     simp only
     cases b<;>cases w<;>simp only[BEq.rfl,Bool.beq_eq_decide_eq,decide_false,reduceCtorEq]<;>first|(congr 1;funext x us rds κ';exact mz)|exact mz
    |_=>rfl
   |_=>rfl
  |undef=>simp only;exact mz
  |_=>rfl
@[simp]def SC:aQ lv []=lv:=rfl
@[simp]def UK{p:Key×LB}:aQ lv [p]=az lv p.1 p.2:=rfl
def Rl{f:Nat->α}{k t:Nat}{x:α}:az f k x t=if t=k then x else f t:=rfl
@[simp]def UQ{s:aE}:s.put none x=s:=rfl
@[simp]def T8{t:Nat}:aE.put ⟨fr,lv⟩ (some t) x=⟨az fr t x,lv⟩:=rfl
@[simp]def Va{t:Nat}:s.val G (.tmp t)=s.fr t:=rfl
@[simp]def So{v:Value}:s.val G (.const v)=qA v:=rfl
@[simp]def Us:s.val G (.func f)=.c (.d (.func (.func f) [] [])):=rfl
@[simp]def R1{g:Nat}:s.val G (.global g)=match G[g]? with|some cs=>.c (.d (.ptr cs))|none=>.junk:=rfl
@[simp]def S8{b:Bool}:qA (.bool b)=.c (.d (.bool b)):=rfl
def tW(h:k.wrap n=n):qA (.int k n)=.c (.d (.int k n)):=by simp only[qA,Ft,h,if_true]
@[simp]def Vt(h1:-9223372036854775808<=n)(h2:n<=9223372036854775807):qA (.int .i64 n)=.c (.d (.int .i64 n)):=tW (cM ⟨h1,h2⟩)
@[simp]def VY(h1:-2147483648<=n)(h2:n<=2147483647):qA (.int .i32 n)=.c (.d (.int .i32 n)):=tW (cM ⟨h1,h2⟩)
@[simp]def Xf(h1:0<=n)(h2:n<=255):qA (.int .u8 n)=.c (.d (.int .u8 n)):=tW (cM ⟨h1,h2⟩)
@[simp]def VZ(h1:0<=n)(h2:n<=4294967295):qA (.int .u32 n)=.c (.d (.int .u32 n)):=tW (cM ⟨h1,h2⟩)
@[simp]def VI(h1:0<=n)(h2:n<=18446744073709551615):qA (.int .u64 n)=.c (.d (.int .u64 n)):=tW (cM ⟨h1,h2⟩)
@[simp]def Vd{b:ByteArray}(h:b.data.toList.length<=9223372036854775807):qA (.string b)=.c (.d (.str b.data.toList)):=by simp only[qA,Ft,h,if_true]
@[simp]def S6:qA (.pointer none)=.c (.d .nilp):=rfl
@[simp]def SU:qA (.slice none 0 0)=.c (.d .nilsl):=rfl
@[simp]def UJ:qA .nilIface=.c (.d .nilIface):=rfl
@[simp]def Tw:qA .nilFunc=.c (.d .nilFunc):=rfl
@[simp]def T4:qA (.map none)=.c (.d .nilmap):=rfl
@[simp]def U3{a:Array Value}:qA (.agg a)=if a.toList.all (·.oneCell')then .agg (a.toList.map Ft)else .junk:=rfl
variable {g:Option (Nat×Bool)}
@[simp↓]def DF{x:Operand}:dR c ⟨d,.move x,ty,pos,af,g⟩ s κ K=K (s.val c.G x) [] [] κ:=by simp[dR,bK,Op.operands]
@[simp↓]def yX{x:Operand}:dR c ⟨d,.assign x,ty,pos,af,g⟩ s κ K=K (s.val c.G x) [] [] κ:=by simp[dR,bK,Op.operands]
def Bb(t x y:AV):Option cw:=match t with|.c (.d (.bool true))=>some (x,[],[],True)|.c (.d (.bool false))=>some (y,[],[],True)|_=>none
@[simp]def VT:Bb (.c (.d (.bool true))) x y=some (x,[],[],True):=rfl
@[simp]def U4:Bb (.c (.d (.bool false))) x y=some (y,[],[],True):=rfl
@[simp↓]def DN{t x y:Operand}:dR c ⟨d,.pick t x y,ty,pos,af,g⟩ s κ K=iK (Bb (s.val c.G t) (s.val c.G x) (s.val c.G y)) κ K:=by simp[dR,bK,Op.operands,iK,Bb];rfl
def zq(P:Program)(T:TypeId)(lv:Key->LB)(κ:Key):Option cw:=match bz P T,lv κ with|some xs,.hole=>some (.c (.ptr κ 0),[(κ,.cells true false T xs)],[],True)|_,_=>none
@[simp↓]def AE:dR c ⟨d,.alloc T,ty,pos,af,g⟩ s κ K=iK (zq c.P T s.lv κ) κ K:=by simp[dR,bK,Op.operands,iK,zq];rfl
def LM(T:TypeId)(x:AV)(lv:Key->LB)(κ:Key):Option cw:=match x.cells,lv κ with|some xs,.hole=>some (.c (.ptr κ 0),[(κ,.cells true false T xs)],[],True)|_,_=>none
@[simp↓]def HD{x:Operand}:dR c ⟨d,.box T x,ty,pos,af,g⟩ s κ K=iK (LM T (s.val c.G x) s.lv κ) κ K:=by simp[dR,bK,Op.operands,iK,LM];rfl
@[simp↓]def Da{x:Operand}:dR c ⟨d,.load T x,ty,pos,af,g⟩ s κ K=iK (bk c.P T s.lv (s.val c.G x)) κ K:=by simp[dR,bK,Op.operands,iK];rfl
@[simp↓]def A5{x y:Operand}:dR c ⟨d,.store T x y,ty,pos,af,g⟩ s κ K=iK (dn c.P T s.lv (s.val c.G x) (s.val c.G y)) κ K:=by simp[dR,bK,Op.operands,iK];rfl
@[simp↓]def HL{x:Operand}:dR c ⟨d,.nilCheck x,ty,pos,af,g⟩ s κ K=iK (gH s.lv (s.val c.G x)) κ K:=by simp[dR,bK,Op.operands,iK];rfl
@[simp↓]def ID{x y:Operand}:dR c ⟨d,.binOp op T x y T',ty,pos,af,g⟩ s κ K=iK (aI c.P op T (s.val c.G x) (s.val c.G y)) κ K:=by simp[dR,bK,Op.operands,iK];rfl
def Jf(op:UnOp)(x:AV):Option cw:=match x with|.c (.d d)=>(match Te op d with|some d'=>some (.c (.d d'),[],[],True)|none=>none)|_=>none
@[simp↓]def M4{op:UnOp}{x:Operand}:dR c ⟨d,.unOp op T x,ty,pos,af,g⟩ s κ K=iK (Jf op (s.val c.G x)) κ K:=by simp[dR,bK,Op.operands,iK,Jf];rfl
@[simp]def TY{b:Bool}:Jf .not (.c (.d (.bool b)))=some (.c (.d (.bool !b)),[],[],True):=rfl
@[simp]def TO:Jf .neg (.c (.d (.int k n)))=some (.c (.d (.int k (k.wrap (0-n)))),[],[],True):=rfl
def Ew(P:Program)(S T:TypeId)(x:AV):Option cw:=match x with
 |.c (.d (.int _ n))=>match qi P S,qi P T with|some _,some k'=>some (.c (.d (.int k' (k'.wrap n))),[],[],True)|_,_=>none
 |.c (.d (.str l))=>if cF P S&&cF P T then some (.c (.d (.str l)),[],[],True)else none
 |_=>none
@[simp↓]def Dm{x:Operand}:dR c ⟨d,.convert S T x,ty,pos,af,g⟩ s κ K=iK (Ew c.P S T (s.val c.G x)) κ K:=by simp[dR,bK,Op.operands,iK,Ew];rfl
@[simp↓]def qJ{f:Nat}{x:Operand}:dR c ⟨d,.fieldAddr T x f,ty,pos,af,g⟩ s κ K=iK (bW c.P T f s.lv (s.val c.G x)) κ K:=by simp[dR,bK,Op.operands,iK];rfl
def yT(P:Program)(T:TypeId)(f:Nat)(x:AV):Option cw:=match x with|.agg cs=>(match dI P T f with|some (off,ft)=>(match oa P ft cs off with|some y=>some (y,[],[],True)|none=>none)|none=>none)|_=>none
@[simp↓]def AT{f:Nat}{x:Operand}:dR c ⟨d,.field T x f,ty,pos,af,g⟩ s κ K=iK (yT c.P T f (s.val c.G x)) κ K:=by simp[dR,bK,Op.operands,iK,yT];rfl
@[simp↓]def qH{x i:Operand}:dR c ⟨d,.indexAddr T x i,ty,pos,af,g⟩ s κ K=iK (aq c.P T s.lv (s.val c.G x) (s.val c.G i)) κ K:=by simp[dR,bK,Op.operands,iK];rfl
@[simp↓]def AN{x i:Operand}:dR c ⟨d,.index T x i,ty,pos,af,g⟩ s κ K=iK (fQ c.P T (s.val c.G x) (s.val c.G i)) κ K:=by simp[dR,bK,Op.operands,iK];rfl
def uF(i:Nat)(x:AV):Option cw:=match x with|.tup l=>(match l[i]? with|some (.tup _)=>none|some y=>some (y,[],[],True)|none=>none)|_=>none
@[simp↓]def Ig{x:Operand}:dR c ⟨d,.extract x i,ty,pos,af,g⟩ s κ K=iK (uF i (s.val c.G x)) κ K:=by simp[dR,bK,Op.operands,iK,uF];rfl
def NG(P:Program)(T:TypeId)(x:AV):Option cw:=match n7 x with|some d=>if P.concrete T then some (.c (.d (.iface T d)),[],[],True)else none|none=>none
@[simp↓]def HH{x:Operand}:dR c ⟨d,.makeInterface T x,ty,pos,af,g⟩ s κ K=iK (NG c.P T (s.val c.G x)) κ K:=by simp[dR,bK,Op.operands,iK,NG];rfl
@[simp↓]def HY{x y:Operand}:dR c ⟨d,.makeSlice T x y,ty,pos,af,g⟩ s κ K=iK (gp c.P T s.lv κ (s.val c.G x) (s.val c.G y)) κ K:=by simp[dR,bK,Op.operands,iK];rfl
def Xc(P:Program)(T:TypeId)(lv:Key->LB)(x:AV)(lo hi:Option AV):Option cw:=bn P T lv x lo hi
@[simp↓]def vT{x:Operand}:dR c ⟨d,.slice T x none none none,ty,pos,af,g⟩ s κ K=iK (bn c.P T s.lv (s.val c.G x) none none) κ K:=by simp[dR,bK,Op.operands,iK,wL];rfl
@[simp↓]def vF{x:Operand}:dR c ⟨d,.slice T x (some l) none none,ty,pos,af,g⟩ s κ K=iK (bn c.P T s.lv (s.val c.G x) (some (s.val c.G l)) none) κ K:=by simp[dR,bK,Op.operands,iK,wL];rfl
@[simp↓]def vO{x:Operand}:dR c ⟨d,.slice T x none (some h) none,ty,pos,af,g⟩ s κ K=iK (bn c.P T s.lv (s.val c.G x) none (some (s.val c.G h))) κ K:=by simp[dR,bK,Op.operands,iK,wL];rfl
@[simp↓]def vJ{x:Operand}:dR c ⟨d,.slice T x (some l) (some h) none,ty,pos,af,g⟩ s κ K=iK (bn c.P T s.lv (s.val c.G x) (some (s.val c.G l)) (some (s.val c.G h))) κ K:=by simp[dR,bK,Op.operands,iK,wL];rfl
@[simp↓]def HB{x:Operand}:dR c ⟨d,.call { callee:=.builtin .len,args:=#[x],argTypes:=#[T] },ty,pos,af,g⟩ s κ K=iK (match lE c.P T s.lv (s.val c.G x)with|some n=>some (.c (.d (.int .i64 n)),[],keyOf (s.val c.G x),nV (s.val c.G x) n)|none=>none) κ K:=by
 simp[dR,bK,iY,Op.operands,Call.operands,iK];rfl
@[simp↓]def zM{x y:Operand}:dR c ⟨d,.call { callee:=.builtin .append,args:=#[x,y],argTypes:=#[T,T'] },ty,pos,af,g⟩ s κ K=iK (if T=T' then eu c.P T s.lv κ (s.val c.G x) (s.val c.G y)else none) κ K:=by
 simp[dR,bK,iY,Op.operands,Call.operands,iK];rfl
def DI(c:Ctx)(tgt:Option (FuncId×List AV×List AV))(xs:List AV)(lv:Key->LB)(K:AV->List (Key×LB)->List Key->Nat->Prop):Prop:=
 match tgt with
 |some (f,fs,cs)=>aJ c.P f=true/\∃x us rds κ',bV c f (fs++xs++cs) lv x us rds/\K x us rds κ'
 |none=>False
@[simp↓]def Fc{fo:Operand}{xs:Array Operand}:dR c ⟨d,.call { callee:=.value fo,args:=xs,argTypes:=ts },ty,pos,af,g⟩ s κ K=DI c (cx (s.val c.G fo)) (xs.toList.map (s.val c.G)) s.lv K:=rfl
def ag(c:Ctx)(f:FuncId)(xs:List AV)(lv:Key->LB)(K:AV->List (Key×LB)->List Key->Nat->Prop):Prop:=∃x us rds κ',bV c f xs lv x us rds/\K x us rds κ'
@[congr]def O1(h:∀_:Unit,xs=xs'):ag c f xs lv K=ag c f xs' lv K:=by rw[h ()]
@[simp]def R4:DI c (some (f,[],[])) xs lv K=(aJ c.P f=true/\ag c f xs lv K):=by simp[DI,ag]
@[simp]def Pp:cx (.c (.d (.func (.func f) [] [])))=some (f,[],[]):=rfl
@[congr]def Qm{t t':Option (FuncId×List AV×List AV)}(h:∀_:Unit,t=t')(h':∀_:Unit,xs=xs'):DI c t xs lv K=DI c t' xs' lv K:=by rw[h (),h' ()]
end
def AW.Po(hd:cK c.n ops.toList=true)(h:pq c ops ops.toList s κ λs' κ'=>Q .normal s' κ'):AW c r (.region id ops false) s κ Q:=
 AW.region hd h
@[simp↓]def Vb{K:aE->Nat->Prop}:qp K Q .normal s κ=K s κ:=rfl
@[simp↓]def VC{K:aE->Nat->Prop}:qp K Q (.exit i) s κ=Q (.exit i) s κ:=rfl
@[simp↓]def VX{K:aE->Nat->Prop}:qp K Q .ret s κ=Q .ret s κ:=rfl
@[simp↓]def TA:vh i Q .normal s κ=Q .normal s κ:=rfl
@[simp↓]def Ux:vh i Q (.exit j) s κ=if j=i then Q .normal s κ else Q (.exit j) s κ:=rfl
@[simp↓]def Ur:vh i Q .ret s κ=Q .ret s κ:=rfl
@[simp]def U7{x:DV}:nV (.c (.d x)) n=True:=rfl
@[simp]def UY{b:Bool}:o5 (.c (.d (.bool b))) w=some (b==w):=rfl
@[simp]def U8:o5 .undef w=some false:=rfl
def Le(c:Ctx)(s s2:aE):Prop:=∃g,ei c s s2 g
def Le.slots(l:List (Nat×AV))(hl:∀p∈l,p.2.bC=true/\fr p.1=p.2)(hm:∀k own es,lv k=.map own es->∀p∈es,∀l,p.2≠.tup l):
 Le c ⟨fr,lv⟩ ⟨aU l,lv⟩:=⟨_,ei.slots (s:=⟨fr,lv⟩) hl hm⟩
def aaa{x y:Code}(h:∀K:aE->Nat->Prop,(∀s κ,AW c r y s κ Q->K s κ)->AW c r x s κ (qp K Q)):AW c r (.seq x y) s κ Q:=
 AW.seq' (h _ λ_ _ h=>h)
def HM[DecidableEq α](m n:α):(m==n)=decide (m=n):=by
 by_cases h:m=n<;>simp[h]
section
variable {P:Program}{T:TypeId}{k:IntKind}{m n:Int}
@[simp]def Wa:aI P .add T (.c (.d (.int k m))) (.c (.d (.int k n)))=some (.c (.d (.int k (k.wrap (m+n)))),[],[],True):=by simp[aI,lD,ff]
@[simp]def Wj:aI P .sub T (.c (.d (.int k m))) (.c (.d (.int k n)))=some (.c (.d (.int k (k.wrap (m-n)))),[],[],True):=by simp[aI,lD,ff]
@[simp]def Xi:aI P .mul T (.c (.d (.int k m))) (.c (.d (.int k n)))=some (.c (.d (.int k (k.wrap (m*n)))),[],[],True):=by simp[aI,lD,ff]
@[simp]def W1:aI P .quo T (.c (.d (.int k m))) (.c (.d (.int k n)))=some (.c (.d (.int k (k.wrap (m.tdiv n)))),[],[],n≠0):=by simp[aI,lD,ff]
@[simp]def WQ:aI P .rem T (.c (.d (.int k m))) (.c (.d (.int k n)))=some (.c (.d (.int k (m.tmod n))),[],[],n≠0):=by simp[aI,lD,ff]
def Ru:aI P .and T (.c (.d (.int k m))) (.c (.d (.int k n)))=some (.c (.d (.int k (k.wrap (BitVec.ofInt k.bits m&&&BitVec.ofInt k.bits n).toNat))),[],[],True):=by simp[aI,lD,ff]
def SV:aI P .or T (.c (.d (.int k m))) (.c (.d (.int k n)))=some (.c (.d (.int k (k.wrap (BitVec.ofInt k.bits m |||BitVec.ofInt k.bits n).toNat))),[],[],True):=by simp[aI,lD,ff]
@[simp]def Wq:aI P .eql T (.c (.d (.int k m))) (.c (.d (.int k n)))=some (.c (.d (.bool (decide (m=n)))),[],[],True):=by simp[aI,lD,ff,HM]
@[simp]def XH:aI P .neq T (.c (.d (.int k m))) (.c (.d (.int k n)))=some (.c (.d (.bool (!decide (m=n)))),[],[],True):=by simp[aI,lD,ff,bne,HM]
@[simp]def Wf:aI P .lss T (.c (.d (.int k m))) (.c (.d (.int k n)))=some (.c (.d (.bool (decide (m<n)))),[],[],True):=by simp[aI,lD,ff]
@[simp]def Xg:aI P .leq T (.c (.d (.int k m))) (.c (.d (.int k n)))=some (.c (.d (.bool (decide (m<=n)))),[],[],True):=by simp[aI,lD,ff]
@[simp]def X2:aI P .gtr T (.c (.d (.int k m))) (.c (.d (.int k n)))=some (.c (.d (.bool (decide (n<m)))),[],[],True):=by simp[aI,lD,ff]
@[simp]def WV:aI P .geq T (.c (.d (.int k m))) (.c (.d (.int k n)))=some (.c (.d (.bool (decide (n<=m)))),[],[],True):=by simp[aI,lD,ff]
@[simp]def Li:aI P .shl T (.c (.d (.int k m))) (.c (.d (.int k' n)))=some (.c (.d (.int k (k.wrap (m*2^(min n.toNat k.bits))))),[],[],0<=n):=by simp[aI,SA]
@[simp]def XK:aI P .shr T (.c (.d (.int k m))) (.c (.d (.int k' n)))=some (.c (.d (.int k (m.fdiv (2^(min n.toNat k.bits))))),[],[],0<=n):=by simp[aI,SA]
end
def aA.jR{σ:List LB}{o:Out}(i:Nat)(hi:i<args.length)(hφ:∀(V:Vw) v,V.av v args[i]->φ)(k:φ->aA P G f args σ o):aA P G f args σ o:=
 λF β w vs hS hl hv=>k (hφ _ _ (hv i hi (by omega))) F β w vs hS hl hv
def AW.jR(t:Nat)(hφ:∀(V:Vw) v,V.av v (s.fr t)->φ)(k:φ->AW c r code s κ Q):AW c r code s κ Q:=
 λF β a w hs=>k (hφ _ _ (hs.fr t)) F β a w hs
def W(l:List Nat):List (List DV):=l.map λ(x:Nat)=>[DV.int .u32 (x:Int)]
def sY(l:List Nat):AV:=.c (.d (.sl (W l)))
@[simp]def TE(l:List Nat):(W l).length=l.length:=by simp[W]
@[simp]def Yl:W []=[]:=rfl
@[simp]def Yd(l m:List Nat):W (l++m)=W l++W m:=by simp[W]
@[simp]def WY(x:Nat)(l:List Nat):W (x::l)=[DV.int .u32 (x:Int)]::W l:=rfl
def Uh(l:List Nat):∀e∈W l,e.length=1:=by
 intro e he;simp only[W,ZX]at he;obtain⟨x,_,rfl⟩:=he;rfl
def KP{V:Vw}{v:Value}{l:List Nat}(h:V.av v (sY l)):l.length<=9223372036854775807/\∀x∈l,x<=4294967295:=by
 have h1:=Vw.GA h;rw[TE]at h1;refine⟨h1,λx hx=>?_⟩;obtain⟨h,_⟩:=h
 cases h with
 |sl b off cap sz _ vs hl hc hb hm ho hr=>
  obtain⟨i,hi,rfl⟩:=List.mem_iff_getElem.1 hx;have h2:=hr i (by simpa using hi) 0 (by simp[W]);simp only[W,Za,ZJ]at h2
  have h3:u32.wrap (l[i]:Int)=(l[i]:Int):=by
   generalize vs i 0=u at h2
   cases h2;assumption
  rw[oR]at h3;simp only[qj]at h3;omega
structure zU where
 dst:Option Tmp
 op:Op
 g:Option (Option Tmp×Bool)
variable {ps:List zU}
def E4(gd:List (Option Tmp))(o:Oper):zU:=⟨o.dst,o.op,match o.guard with|none=>none|some (j,w)=>some ((gd[j]?).join,w)⟩
def lq(gd:List (Option Tmp)):List Oper->List zU
 |[]=>[]
 |o::os=>E4 gd o::lq gd os
def eR(ops:Array Oper):List zU:=lq (ops.toList.map (·.dst)) ops.toList
def aL(c:Ctx):List zU->aE->Nat->(aE->Nat->Prop)->Prop
 |[],s,κ,K=>K s κ
 |p::ps,s,κ,K=>match p.g with
  |none=>dR c ⟨none,p.op,0, "",#[],none⟩ s κ λx us _ κ'=>aL c ps (aE.put ⟨s.fr,aQ s.lv us⟩ p.dst x) κ' K
  |some (t,w)=>ot t λt=>l8 (o5 (s.fr t) w)
   (λ_=>dR c ⟨none,p.op,0, "",#[],none⟩ s κ λx us _ κ'=>aL c ps (aE.put ⟨s.fr,aQ s.lv us⟩ p.dst x) κ' K)
   (λ_=>aL c ps (s.put p.dst .undef) κ K)
def Lg:((ops.toList.map (·.dst))[j]?).join=(ops[j]?).bind (·.dst):=by
 rw[aba,abR]
 cases ops[j]?<;>rfl
def mG{c:Ctx}{ops:Array Oper}{K:aE->Nat->Prop}:∀{os:List Oper}{s:aE}{κ:Nat},aL c (lq (ops.toList.map (·.dst)) os) s κ K=pq c ops os s κ K
 |[],s,κ=>rfl
 | ⟨d,o,ty,pos,af,none⟩::os,s,κ=>by
  rw[GY];simp only[lq,E4,aL];show dR c ⟨d,o,ty,pos,af,none⟩ s κ _=_;congr 1;funext x us rds κ';exact mG
 | ⟨d,o,ty,pos,af,some (j,w)⟩::os,s,κ=>by
  rw[Eh];simp only[lq,E4,aL,Lg];congr 1;funext t;congr 1
  ·funext _;show dR c ⟨d,o,ty,pos,af,some (j,w)⟩ s κ _=_;congr 1;funext x us rds κ';exact mG
  ·funext _;exact mG
def aat(hd:cK c.n ops.toList=true)(h:aL c (eR ops) s κ λs' κ'=>Q .normal s' κ'):AW c r (.region id ops false) s κ Q:=
 AW.Po hd (by rw[<-mG];exact h)
section
variable {c:Ctx}{s:aE}{κ:Nat}{K:aE->Nat->Prop}
@[simp↓]def SI:aL c [] s κ K=K s κ:=rfl
def aR:aL c (⟨d,o,none⟩::ps) s κ K =
 dR c ⟨none,o,0, "",#[],none⟩ s κ λx us _ κ'=>aL c ps (aE.put ⟨s.fr,aQ s.lv us⟩ d x) κ' K:=rfl
def DJ{t:Tmp}:aL c (⟨d,o,some (some t,w)⟩::ps) s κ K =
 l8 (o5 (s.fr t) w) (λ_=>dR c ⟨none,o,0, "",#[],none⟩ s κ λx us _ κ'=>aL c ps (aE.put ⟨s.fr,aQ s.lv us⟩ d x) κ' K) (λ_=>aL c ps (s.put d .undef) κ K):=rfl
def KS{l:List Oper}:eR l.toArray=lq (l.map (·.dst)) l:=rfl
def JC:lq gd []=[]:=rfl
def GH:lq gd (⟨d,o,ty,pos,af,none⟩::os)=⟨d,o,none⟩::lq gd os:=rfl
def FN:lq gd (⟨d,o,ty,pos,af,some (j,w)⟩::os)=⟨d,o,some ((gd[j]?).join,w)⟩::lq gd os:=rfl
end
section
variable {c:Ctx}{s:aE}{κ:Nat}{K:aE->Nat->Prop}{d:Option Tmp}{o:Op}{ps:List zU}
def aL.step(h:∀K':AV->List (Key×LB)->List Key->Nat->Prop,(∀x us rds κ',aL c ps (aE.put ⟨s.fr,aQ s.lv us⟩ d x) κ' K->K' x us rds κ')->dR c ⟨none,o,0, "",#[],none⟩ s κ K'):
 aL c (⟨d,o,none⟩::ps) s κ K:=by
 rw[aR];exact h _ λ_ _ _ _ h=>h
def aL.bK{t:Tmp}(hw:o5 (s.fr t) w=some false)(h:aL c ps (s.put d .undef) κ K):aL c (⟨d,o,some (some t,w)⟩::ps) s κ K:=by
 rw[DJ,hw];exact h
end
def cj(h:x.pure=true):hO lv x=[]:=by
 cases x with
 |c x=>cases x<;>simp_all [AV.pure,AV.kR,CV.pure,hO,fK]
 |agg cs=>
  simp only[AV.pure,AV.kR,Zb]at h;simp only[hO,List.flatMap_eq_nil_iff];intro x hx;have:=h x hx
  cases x<;>simp_all [CV.pure,fK]
 |_=>rfl
def bV.pure(hc:aa c.P c.G f xs x)(hx:x.pure=true)(hxs:∀a∈xs,a.pure=true)(kh:Key)(hh:lv kh=.hole):bV c f xs lv x [] [kh]:=by
 have key:=bV.gen (c:=c) (f:=f) (as:=xs) (lv:=lv) xs [] [] [] kh [] [] [] x false [kh] (λz hz=>by cases hz) (by simp) (by simp) (λz hz=>by cases hz) (by simp) (λz hz=>by cases hz) rfl rfl rfl (by simp)
  (λi h=>absurd h (ZH i)) (λk hk=>by cases hk) hh (λb hb=>by cases hb) (λb hb=>by cases hb) (λh=>by cases h) rfl
  (λi p q=>.inl ⟨AV.bx (hxs _ (bh q)),(AV.aT (hxs _ (bh q)) _).symm⟩) (λa ha k hk=>by rw[cj (hxs a ha)]at hk;cases hk) (by simp) hc
 rwa[AV.aT hx]at key
def ag.pure(κ:Nat)(kh:Key)(hc:aa c.P c.G f xs x)(hx:x.pure=true)(hxs:∀a∈xs,a.pure=true)(hh:lv kh=.hole)
 (hK:K x [] [kh] κ):ag c f xs lv K:=⟨x,[],[kh],κ,bV.pure hc hx hxs kh hh,hK⟩
def ag.WJ{us:List AV}(κ:Nat)(kh:Key)(k:Key)(T:TypeId)(cs:List CV)(rds:List Key)
 (hc:aa c.P c.G f us x) (hx:x.pure=true) (hk:lv k=.cells true false T cs) (hh:lv kh=.hole) (hkh:kh≠k) (hlen:us.length=xs.length)
 (hxs:∀i (h:i<xs.length) (h':i<us.length),(us[i].pure=true/\xs[i]=us[i])\/eP (az lv k (.cells true true T cs)) xs[i]=some (us[i],[k]))
 (hrd:∀a∈xs,∀j∈hO (az lv k (.cells true true T cs)) a,j∈rds\/j=k) (hrh:kh∈rds)
 (hK:K x [(k,.cells true true T cs)] rds κ):ag c f xs lv K:=by
 have key:=bV.gen (c:=c) (f:=f) (as:=xs) (lv:=lv) us [(k,T,cs)] [] [] kh [] [] [] x false rds (λz hz=>by simp only[ZV]at hz;subst hz;exact hk) (by simp) (by simp) (λz hz=>by simp) (by simp) (λz hz=>by simp only[ZV]at hz;subst hz;exact λe=>hkh e.symm) rfl rfl rfl (by simp)
  (λi h=>absurd h (ZH i)) (λk hk=>by cases hk) hh (λb hb=>by cases hb) (λb hb=>by cases hb) (λh=>by cases h) hlen
  (λi p q=>?_) (λa ha j hj=>?_) hrh hc
 ·rw[AV.aT hx]at key;exact⟨x,_,rds,κ,key,hK⟩
 ·rcases hxs i p q with⟨h1,h2⟩|h1
  ·exact .inl ⟨AV.bx h1,by rw[AV.aT h1];exact h2⟩
  ·refine .inr ⟨[k],h1,λj hj=>?_⟩;simp only[ZV]at hj;subst hj;exact⟨true,T,cs,by simp[dS,aQ,aC]⟩
 ·rcases hrd a ha j hj with h|h
  ·exact .inl h
  ·exact .inr (by simp[h])
def cT(c:Ctx)(ps:List zU)(d:Option Tmp)(s:aE)(κ:Nat)(K:aE->Nat->Prop)(r:Option cw):Prop:=
 iK r κ λx us _ κ'=>aL c ps (aE.put ⟨s.fr,aQ s.lv us⟩ d x) κ' K
def G0(c:Ctx)(o:Op)(ps:List zU)(d:Option Tmp)(s:aE)(κ:Nat)(K:aE->Nat->Prop)(w:Option Bool):Prop:=
 match w with
 |some true=>aL c (⟨d,o,none⟩::ps) s κ K
 |some false=>aL c ps (s.put d .undef) κ K
 |none=>False
def gB(c:Ctx)(f:FuncId)(xs:List AV)(ps:List zU)(d:Option Tmp)(s:aE)(κ:Nat)(K:aE->Nat->Prop):Prop:=
 ag c f xs s.lv λx us _ κ'=>aL c ps (aE.put ⟨s.fr,aQ s.lv us⟩ d x) κ' K
def HI(c:Ctx)(tgt:Option (FuncId×List AV×List AV))(xs:List AV)(ps:List zU)(d:Option Tmp)(s:aE)(κ:Nat)(K:aE->Nat->Prop):Prop:=
 match tgt with
 |some (f,fs,cs)=>aJ c.P f=true/\gB c f (fs++xs++cs) ps d s κ K
 |none=>False
attribute [simp] KS JC GH FN Rl
@[simp]def Qv{t:Nat}:aU [] t=.junk:=rfl
@[simp]def OV{p:Nat×AV}{l:List (Nat×AV)}{t:Nat}:aU (p::l) t=if t=p.1 then p.2 else aU l t:=rfl
section
variable {c:Ctx}{ps:List zU}{d:Option Tmp}{s:aE}{κ:Nat}{K:aE->Nat->Prop}{T:TypeId}{x y z:Operand}
@[simp]theorem Sw:cT c ps d s κ K (some (v,[],rds,vc))=(vc/\aL c ps (s.put d v) κ K):=propext ⟨id,id⟩
@[simp]theorem Ss{p:Key×LB}:cT c ps d s κ K (some (v,[p],rds,vc))=(vc/\aL c ps (aE.put ⟨s.fr,az s.lv p.1 p.2⟩ d v) (κ+1) K):=propext ⟨id,id⟩
@[simp]theorem Sr{p q:Key×LB}:cT c ps d s κ K (some (v,[p,q],rds,vc))=(vc/\aL c ps (aE.put ⟨s.fr,az (az s.lv p.1 p.2) q.1 q.2⟩ d v) (κ+1) K):=propext ⟨id,id⟩
@[simp]theorem Uj:G0 c o ps d s κ K (some true)=aL c (⟨d,o,none⟩::ps) s κ K:=propext ⟨id,id⟩
@[simp]theorem Uq:G0 c o ps d s κ K (some false)=aL c ps (s.put d .undef) κ K:=propext ⟨id,id⟩
@[simp]def QN:HI c (some (f,[],[])) xs ps d s κ K=(aJ c.P f=true/\gB c f xs ps d s κ K):=by simp[HI]
@[simp]theorem Ua{t:Tmp}:aL c (⟨d,o,some (some t,w)⟩::ps) s κ K=G0 c o ps d s κ K (o5 (s.fr t) w):=propext ⟨id,id⟩
@[simp]def Vx:aL c (⟨d,.move x,none⟩::ps) s κ K=aL c ps (s.put d (s.val c.G x)) κ K:=by rw[aR,DF];rfl
@[simp]def Sm:aL c (⟨d,.assign x,none⟩::ps) s κ K=aL c ps (s.put d (s.val c.G x)) κ K:=by rw[aR,yX];rfl
@[simp]def U2:aL c (⟨d,.pick x y z,none⟩::ps) s κ K=cT c ps d s κ K (Bb (s.val c.G x) (s.val c.G y) (s.val c.G z)):=by rw[aR,DN];rfl
@[simp]def SZ:aL c (⟨d,.alloc T,none⟩::ps) s κ K=cT c ps d s κ K (zq c.P T s.lv κ):=by rw[aR,AE];rfl
@[simp]def TZ{f:Nat}:aL c (⟨d,.field T x f,none⟩::ps) s κ K=cT c ps d s κ K (yT c.P T f (s.val c.G x)):=by rw[aR,AT];rfl
@[simp]def Om:aL c (⟨d,.indexAddr T x y,none⟩::ps) s κ K=cT c ps d s κ K (aq c.P T s.lv (s.val c.G x) (s.val c.G y)):=by rw[aR,qH];rfl
@[simp]def Tk:aL c (⟨d,.index T x y,none⟩::ps) s κ K=cT c ps d s κ K (fQ c.P T (s.val c.G x) (s.val c.G y)):=by rw[aR,AN];rfl
@[simp]def Xp:aL c (⟨d,.extract x i,none⟩::ps) s κ K=cT c ps d s κ K (uF i (s.val c.G x)):=by rw[aR,Ig];rfl
@[simp]def Xu:aL c (⟨d,.makeInterface T x,none⟩::ps) s κ K=cT c ps d s κ K (NG c.P T (s.val c.G x)):=by rw[aR,HH];rfl
@[simp]def XB:aL c (⟨d,.makeSlice T x y,none⟩::ps) s κ K=cT c ps d s κ K (gp c.P T s.lv κ (s.val c.G x) (s.val c.G y)):=by rw[aR,HY];rfl
@[simp]def RU:aL c (⟨d,.slice T x none none none,none⟩::ps) s κ K=cT c ps d s κ K (bn c.P T s.lv (s.val c.G x) none none):=by rw[aR,vT];rfl
@[simp]def Rx:aL c (⟨d,.slice T x (some y) none none,none⟩::ps) s κ K=cT c ps d s κ K (bn c.P T s.lv (s.val c.G x) (some (s.val c.G y)) none):=by rw[aR,vF];rfl
@[simp]def RN:aL c (⟨d,.slice T x none (some y) none,none⟩::ps) s κ K=cT c ps d s κ K (bn c.P T s.lv (s.val c.G x) none (some (s.val c.G y))):=by rw[aR,vO];rfl
@[simp]def RG:aL c (⟨d,.slice T x (some y) (some z) none,none⟩::ps) s κ K=cT c ps d s κ K (bn c.P T s.lv (s.val c.G x) (some (s.val c.G y)) (some (s.val c.G z))):=by rw[aR,vJ];rfl
def eJ(P:Program)(T:TypeId)(lv:Key->LB)(x:AV):Option cw:=match lE P T lv x with|some n=>some (.c (.d (.int .i64 n)),[],keyOf x,nV x n)|none=>none
@[simp]def Wi:aL c (⟨d,.call { callee:=.builtin .len,args:=#[x],argTypes:=#[T] },none⟩::ps) s κ K=cT c ps d s κ K (eJ c.P T s.lv (s.val c.G x)):=by rw[aR,HB];rfl
@[simp]def Sg:aL c (⟨d,.call { callee:=.builtin .append,args:=#[x,y],argTypes:=#[T,T'] },none⟩::ps) s κ K=cT c ps d s κ K (if T=T' then eu c.P T s.lv κ (s.val c.G x) (s.val c.G y)else none):=by rw[aR,zM];rfl
@[simp]def Ve{xs:Array Operand}:aL c (⟨d,.call { callee:=.value x,args:=xs,argTypes:=ts },none⟩::ps) s κ K=HI c (cx (s.val c.G x)) (xs.toList.map (s.val c.G)) ps d s κ K:=by
 rw[aR,Fc];rfl
@[simp]def XG:aL c (⟨d,.binOp op T x y T',none⟩::ps) s κ K=cT c ps d s κ K (aI c.P op T (s.val c.G x) (s.val c.G y)):=by rw[aR,ID];rfl
@[simp]def YB{op:UnOp}:aL c (⟨d,.unOp op T x,none⟩::ps) s κ K=cT c ps d s κ K (Jf op (s.val c.G x)):=by rw[aR,M4];rfl
@[simp]def VD:aL c (⟨d,.load T x,none⟩::ps) s κ K=cT c ps d s κ K (bk c.P T s.lv (s.val c.G x)):=by rw[aR,Da];rfl
@[simp]def Ud:aL c (⟨d,.store T x y,none⟩::ps) s κ K=cT c ps d s κ K (dn c.P T s.lv (s.val c.G x) (s.val c.G y)):=by rw[aR,A5];rfl
@[simp]def X1:aL c (⟨d,.box T x,none⟩::ps) s κ K=cT c ps d s κ K (LM T (s.val c.G x) s.lv κ):=by rw[aR,HD];rfl
@[simp]def XW:aL c (⟨d,.nilCheck x,none⟩::ps) s κ K=cT c ps d s κ K (gH s.lv (s.val c.G x)):=by rw[aR,HL];rfl
@[simp]def VJ:aL c (⟨d,.convert S T x,none⟩::ps) s κ K=cT c ps d s κ K (Ew c.P S T (s.val c.G x)):=by rw[aR,Dm];rfl
@[simp]def PW{f:Nat}:aL c (⟨d,.fieldAddr T x f,none⟩::ps) s κ K=cT c ps d s κ K (bW c.P T f s.lv (s.val c.G x)):=by rw[aR,qJ];rfl
def ia(P:Program)(T:TypeId)(ixs:List Nat)(vals:List AV):Option cw:=match bz P T,uc P T with
 |some zs,some place=>if ixs.length=vals.length then(match fM place zs (ixs.zip vals)with|some cs=>some (.agg cs,[],[],True)|none=>none)else none
 |_,_=>none
@[simp]def Tt:aL c (⟨d,.build T parts,none⟩::ps) s κ K=cT c ps d s κ K (ia c.P T (parts.toList.map (·.1)) (parts.toList.map λp=>s.val c.G p.2)):=by
 rw[aR];simp only[dR,bK,Op.operands,cT,iK,ia,ZC,Zt,abc];rfl
@[simp]def NP{n:Nat}:aL c (⟨d,.buildSlice T n parts,none⟩::ps) s κ K=cT c ps d s κ K (ak c.P T n (parts.toList.map (·.1)) s.lv κ (parts.toList.map λp=>s.val c.G p.2)):=by
 rw[aR];simp only[dR,bK,Op.operands,cT,iK,ZC];rfl
@[simp]def UX:aL c (⟨d,.call { callee:=.builtin .copy,args:=#[x,y],argTypes:=#[T,T'] },none⟩::ps) s κ K=cT c ps d s κ K (iz c.P T s.lv (s.val c.G x) (s.val c.G y)):=by
 rw[aR];simp only[dR,bK,iY,Op.operands,Call.operands,cT,iK];rfl
@[simp]def XS{xs:Array Operand}:aL c (⟨d,.call { callee:=.builtin .max,args:=xs,argTypes:=ts },none⟩::ps) s κ K=cT c ps d s κ K (match dL (xs.toList.map (s.val c.G))with
 |some (k,n::l)=>some (.c (.d (.int k (l.foldl (λa b=>if b > a then b else a) n))),[],[],True)
 |_=>none):=by
 rw[aR];simp only[dR,bK,iY,Op.operands,Call.operands,cT,iK,abE];rfl
@[simp]def WA{xs:Array Operand}:aL c (⟨d,.call { callee:=.builtin .min,args:=xs,argTypes:=ts },none⟩::ps) s κ K=cT c ps d s κ K (match dL (xs.toList.map (s.val c.G))with
 |some (k,n::l)=>some (.c (.d (.int k (l.foldl (λa b=>if b<a then b else a) n))),[],[],True)
 |_=>none):=by
 rw[aR];simp only[dR,bK,iY,Op.operands,Call.operands,cT,iK,abE];rfl
end
section
variable {P:Program}{T:TypeId}{lv:Key->LB}{es:List (List DV)}{cs:List DV}{k:IntKind}{n:Int}{κ:Key}{off len sz:Nat}{lo hi:Option AV}{bs:List UInt8}
@[simp]def Yj:aq P T lv (.c (.d (.sl es))) (.c (.d (.int k n)))=(match fh P T with
 |some (_,sz)=>some (.c (.d (.ptr (es.getD n.toNat []))),[],[],0<=n/\n<es.length/\(es.getD n.toNat []).length=sz)
 |none=>none):=rfl
@[simp]def XN:aq P T lv (.c (.aD κ off len sz)) (.c (.d (.int k n)))=(match lv κ,fh P T with
 |.cells ..,some (_,sz')=>if sz=sz' then some (.c (.ptr κ (off+n.toNat*sz)),[],[κ],0<=n/\n<len)else none
 |_,_=>none):=rfl
@[simp]def YH:aq P T lv (.c (.d (.ptr cs))) (.c (.d (.int k n)))=(match ug P T with
 |some (len,_,sz)=>some (.c (.d (.ptr (cs.drop (n.toNat*sz)))),[],[],0<=n/\n<len/\n.toNat*sz<=cs.length)
 |none=>none):=rfl
@[simp]def XZ:aq P T lv (.c (.ptr κ off)) (.c (.d (.int k n)))=(match lv κ,ug P T with
 |.cells ..,some (len,_,sz)=>some (.c (.ptr κ (off+n.toNat*sz)),[],[κ],0<=n/\n<len)
 |_,_=>none):=rfl
@[simp]def XA:bn P T lv (.c (.d (.str bs))) lo hi=if cF P T then(match cU lo 0,cU hi bs.length with
 |some l,some h=>some (.c (.d (.str ((bs.take h.toNat).drop l.toNat))),[],[],0<=l/\l<=h/\h<=bs.length)
 |_,_=>none)else none:=rfl
@[simp]def Yq:bn P T lv (.c (.d (.sl es))) lo hi=(match fh P T with
 |some (_,sz)=>match cU lo 0,cU hi es.length with
  |some l,some h=>some (.c (.d (.sl ((es.take h.toNat).drop l.toNat))),[],[],0<=l/\l<=h/\h<=es.length/\∀e∈es,e.length=sz)
  |_,_=>none
 |none=>none):=rfl
@[simp]def Wo:bn P T lv (.c (.d .nilsl)) lo hi=(match fh P T with
 |some _=>match cU lo 0,cU hi 0 with
  |some l,some h=>some (.c (.d .nilsl),[],[],l=0/\h=0)
  |_,_=>none
 |none=>none):=rfl
@[simp]def W9:bn P T lv (.c (.aD κ off len sz)) lo hi=(match lv κ,fh P T with
 |.cells ..,some (_,sz')=>if sz=sz' then(match cU lo 0,cU hi len with
  |some l,some h=>some (.c (.aD κ (off+l.toNat*sz) (h.toNat-l.toNat) sz),[],[κ],0<=l/\l<=h/\h<=len/\(l<h\/l=0))
  |_,_=>none)else none
 |_,_=>none):=rfl
end
attribute [simp] bk dn gH bW fQ cU gp eu ak zq LM yT Ew NG oa AV.cells
@[simp]def SJ{x:CV}{r:List CV}(h:dj P T=some false):eW P T (x::r)=some (.c x):=by simp[eW,h]
@[simp]def IQ{cs:List CV}(h:dj P T=some true):eW P T cs=if ij P T<=cs.length then some (.agg (cs.take (ij P T)))else none:=by simp[eW,h]
def au.tmp{t:Nat}(hr:fn.results=#[.tmp t])(kh:Key)(hx:s.fr t=x)(hp:x.pure=true)(hh:s.lv kh=.hole)(hn:x.cH=true):au c fn x .ret s κ:=by
 refine⟨[(t,x)],kh,by simp[hp,hx],hh,?_⟩;rw[hr];simp[cO,iT,j8,aU]
def au.TW{t:Nat}(hr:fn.results=#[.tmp t,.tmp u])(kh:Key)(hx:s.fr t=x)(hy:s.fr u=y)(hp:x.pure=true)(hq:y.pure=true)(hh:s.lv kh=.hole)(hn:x.cH=true)(hm:y.cH=true)(htu:t≠u):au c fn (.tup [x,y]) .ret s κ:=by
 refine⟨[(t,x),(u,y)],kh,by simp[hp,hx,hq,hy],hh,?_⟩;rw[hr];have:¬u=t:=λh=>htu h.symm
 simp[cO,iT,j8,aU,this,hn,hm]
def aao{x:Code}(st:α->aE)(kk:Nat)(I:α->Prop)(μ:α->Nat)(a0:α)(hs:Le c s (st a0))(h0:I a0)
 (hr:∀a,I a->AW c r x (st a) kk (qp (λs' _=>∃a',Le c s' (st a')/\I a'/\μ a'<μ a) Q)):AW c r (.loop x) s κ Q:=by
 have key:∀n a,I a->μ a<=n->∀F β ac w,aF c F β (st a) ac w->Code.roundsIn (qb r) 0 c.P x (Post c Q) (n+1) ac w:=by
  intro n
  induction n with
  |zero=>
   intro a hI hn F β ac w hs;rw[roundsIn_succ];refine wpIn_mono (hr a hI F β ac w hs) λe a' w' hp=>?_;obtain⟨e',s',κ',F',β',hq,hs',he⟩:=hp
   cases e' with
   |normal=>obtain⟨a2,h1,h2,h3⟩:=hq;omega
   |exit id=>cases he;exact⟨.exit id,s',κ',F',β',hq,hs',rfl⟩
   |goto l=>cases he;exact⟨.goto l,s',κ',F',β',hq,hs',rfl⟩
   |ret=>cases he;exact⟨.ret,s',κ',F',β',hq,hs',rfl⟩
   |panic d=>obtain⟨v,rfl,hv⟩:=he;exact⟨.panic d,s',κ',F',β',hq,hs',v,rfl,hv⟩
  |succ n ih=>
   intro a hI hn F β ac w hs;rw[roundsIn_succ];refine wpIn_mono (hr a hI F β ac w hs) λe a' w' hp=>?_;obtain⟨e',s',κ',F',β',hq,hs',he⟩:=hp
   cases e' with
   |normal=>
    cases he
    obtain⟨a2,⟨g,h1⟩,h2,h3⟩:=hq;exact ih a2 h2 (by omega) F' _ a' w' (hs'.coarse h1)
   |exit id=>cases he;exact⟨.exit id,s',κ',F',β',hq,hs',rfl⟩
   |goto l=>cases he;exact⟨.goto l,s',κ',F',β',hq,hs',rfl⟩
   |ret=>cases he;exact⟨.ret,s',κ',F',β',hq,hs',rfl⟩
   |panic d=>obtain⟨v,rfl,hv⟩:=he;exact⟨.panic d,s',κ',F',β',hq,hs',v,rfl,hv⟩
 obtain⟨g,hg⟩:=hs;refine AW.coarse (κ2:=0) hg λF β ac w hst=>?_;exact wpIn_loop_rounds _ (key (μ a0) a0 h0 (aY _) F β ac w hst)
@[simp]def VS(h:x.cH=true):uF 0 (.tup [x,y])=some (x,[],[],True):=by
 cases x<;>first|rfl|cases h
@[simp]def Vn(h:y.cH=true):uF 1 (.tup [x,y])=some (y,[],[],True):=by
 cases y<;>first|rfl|cases h
@[simp]def Vs(h:x.cH=true):uF 0 (.tup [x,y,z])=some (x,[],[],True):=by
 cases x<;>first|rfl|cases h
@[simp]def VA(h:y.cH=true):uF 1 (.tup [x,y,z])=some (y,[],[],True):=by
 cases y<;>first|rfl|cases h
@[simp]def VW(h:z.cH=true):uF 2 (.tup [x,y,z])=some (z,[],[],True):=by
 cases z<;>first|rfl|cases h
@[simp]def Vv{x:CV}:(AV.c x).cH=true:=by cases x<;>rfl
@[simp]def Sz{x:List CV}:(AV.agg x).cH=true:=by cases x<;>rfl
def ag.p(κ:Nat)(kh:Key)(hc:aa c.P c.G f xs x)(hK:K x [] [kh] κ)(hx:x.pure=true:=by first|(simp;done)|rfl)(hxs:∀a∈xs,a.pure=true:=by simp)(hh:lv kh=.hole:=by first|rfl|simp):ag c f xs lv K:=ag.pure κ kh hc hx hxs hh hK
def au.t{t:Nat}(hr:fn.results=#[.tmp t])(kh:Key)(hx:s.fr t=x)(hp:x.pure=true:=by first|rfl|simp)(hh:s.lv kh=.hole:=by first|rfl|simp)(hn:x.cH=true:=by first|rfl|simp):au c fn x .ret s κ:=au.tmp hr kh hx hp hh hn
def aag{o:Operand}{x y:Code}(hb:s.val c.G o=.c (.d (.bool true)))(h:AW c r x s κ Q):AW c r (.cond o x y) s κ Q:=aaB (b:=true) hb h
def aaj{o:Operand}{x y:Code}(hb:s.val c.G o=.c (.d (.bool false)))(h:AW c r y s κ Q):AW c r (.cond o x y) s κ Q:=aaB (b:=false) hb h
def aai{o:Operand}{x y:Code}(h:AW c r x s κ Q)(hb:s.val c.G o=.c (.d (.bool true)):=by simp<;>omega):AW c r (.cond o x y) s κ Q:=aaB (b:=true) hb h
def aah{o:Operand}{x y:Code}(h:AW c r y s κ Q)(hb:s.val c.G o=.c (.d (.bool false)):=by simp<;>omega):AW c r (.cond o x y) s κ Q:=aaB (b:=false) hb h
def ah{a b:Prop}(h:b)(g:a:=by omega):a/\b:=⟨g,h⟩
structure Ev where
 w:World
 F:Nat->Prop
 W:Nat->Prop
 q:Key->LB
 b:Key->Nat
def aa.en(hf:P.funcs[f]?=some fn)(hb:fn.body=some code)
 (h:∀z:Ev,AW ⟨P,G,z.w,z.F,z.W,fn.ntmps,z.q,z.b⟩ none code ⟨λt=>args.getD t .undef,λ_=>.hole⟩ 0 (au ⟨P,G,z.w,z.F,z.W,fn.ntmps,z.q,z.b⟩ fn x)) (hl:Nat.ble args.length fn.ntmps=true:=by kernel_rfl):aa P G f args x:=
 aa.nZ hf hb (Zu hl) λ⟨_,_,w,F,W,_,q,b⟩ h1 h2 h3=>by cases h1;cases h2;cases h3;exact h ⟨w,F,W,q,b⟩
section
variable {c:Ctx}{r:Option Nat}{s s':aE}{κ κ':Nat}{Q:Ex->aE->Nat->Prop}{id:Nat}{ops:Array Oper}{y:Code}
def aae(h:Q .ret s 0):AW c r .ret s κ Q:=aal (κ:=0) h
def au.rt{t:Nat}(hr:fn.results=#[.tmp t])(kh:Key)(hx:s.fr t=x)(hp:x.pure=true:=by first|rfl|simp)(hh:s.lv kh=.hole:=by first|rfl|simp)(hn:x.cH=true:=by first|rfl|simp):au c fn x .ret s 0:=au.tmp hr kh hx hp hh hn
def aac(h:aL c (eR ops) s κ λs' κ'=>Q .normal s' κ')(hd:cK c.n ops.toList=true:=by exact rfl):AW c r (.region id ops false) s κ Q:=aat hd h
def aak(h:∀K:aE->Nat->Prop,(∀s κ,AW c r y s κ Q->K s κ)->aL c (eR ops) s κ K)(hd:cK c.n ops.toList=true:=by exact rfl):AW c r (.seq (.region id ops false) y) s κ Q:=
 aaa λK hK=>aat hd (h K hK)
def aab(h:AW c r y s' κ' Q)(hd:cK c.n ops.toList=true:=by exact rfl)(hr:∀K:aE->Nat->Prop,K s' κ'->aL c (eR ops) s κ K:=by intro K k;simp;(repeat refine ah ?_);exact k):AW c r (.seq (.region id ops false) y) s κ Q:=
 aaa λK hK=>aat hd (hr K (hK _ _ h))
def aaD(h:Q .normal s' κ')(hd:cK c.n ops.toList=true:=by exact rfl)(hr:∀K:aE->Nat->Prop,K s' κ'->aL c (eR ops) s κ K:=by intro K k;simp;(repeat refine ah ?_);exact k):AW c r (.region id ops false) s κ Q:=
 aat hd (hr (λs κ=>Q .normal s κ) h)
def aar(κ1:Nat)(hc:aa c.P c.G f xs x)(h:AW c r y s' κ' Q)(hd:cK c.n ops.toList=true:=by exact rfl)(hr:∀κ2,κ2=κ1->aa c.P c.G f xs x->∀K:aE->Nat->Prop,K s' κ'->aL c (eR ops) s κ K:=by intro κ2 e hc K k;simp;refine ag.p κ2 9 hc ?_;subst e;simp;(repeat refine ah ?_);exact k):AW c r (.seq (.region id ops false) y) s κ Q:=
 aaa λK hK=>aat hd (hr κ1 rfl hc K (hK _ _ h))
def AW.m0(κ1:Nat)(hc:aa c.P c.G f xs x)(h:Q .normal s' κ')(hd:cK c.n ops.toList=true:=by exact rfl)(hr:∀κ2,κ2=κ1->aa c.P c.G f xs x->∀K:aE->Nat->Prop,K s' κ'->aL c (eR ops) s κ K:=by intro κ2 e hc K k;simp;refine ag.p κ2 9 hc ?_;subst e;simp;(repeat refine ah ?_);exact k):AW c r (.region id ops false) s κ Q:=
 aat hd (hr κ1 rfl hc (λs κ=>Q .normal s κ) h)
def aam(e1:a1)(h:AW c r y s' κ' Q)(hd:cK c.n ops.toList=true:=by exact rfl)(hr:a1->∀K:aE->Nat->Prop,K s' κ'->aL c (eR ops) s κ K:=by intro e1 K k;simp[e1];(repeat refine ah ?_);exact k):AW c r (.seq (.region id ops false) y) s κ Q:=
 aaa λK hK=>aat hd (hr e1 K (hK _ _ h))
def aas(e1:a1)(h:Q .normal s' κ')(hd:cK c.n ops.toList=true:=by exact rfl)(hr:a1->∀K:aE->Nat->Prop,K s' κ'->aL c (eR ops) s κ K:=by intro e1 K k;simp[e1];(repeat refine ah ?_);exact k):AW c r (.region id ops false) s κ Q:=
 aat hd (hr e1 (λs κ=>Q .normal s κ) h)
def aaw(κ1:Nat)(hc:aa c.P c.G f xs x)(e1:a1)(h:AW c r y s' κ' Q)(hd:cK c.n ops.toList=true:=by exact rfl)(hr:∀κ2,κ2=κ1->a1->aa c.P c.G f xs x->∀K:aE->Nat->Prop,K s' κ'->aL c (eR ops) s κ K:=by intro κ2 e e1 hc K k;simp[e1];refine ag.p κ2 9 hc ?_;subst e;simp[e1];(repeat refine ah ?_);exact k):AW c r (.seq (.region id ops false) y) s κ Q:=
 aaa λK hK=>aat hd (hr κ1 rfl e1 hc K (hK _ _ h))
def aax(κ1:Nat)(hc:aa c.P c.G f xs x)(e1:a1)(h:Q .normal s' κ')(hd:cK c.n ops.toList=true:=by exact rfl)(hr:∀κ2,κ2=κ1->a1->aa c.P c.G f xs x->∀K:aE->Nat->Prop,K s' κ'->aL c (eR ops) s κ K:=by intro κ2 e e1 hc K k;simp[e1];refine ag.p κ2 9 hc ?_;subst e;simp[e1];(repeat refine ah ?_);exact k):AW c r (.region id ops false) s κ Q:=
 aat hd (hr κ1 rfl e1 hc (λs κ=>Q .normal s κ) h)
def aap(e1:a1)(e2:a2)(h:AW c r y s' κ' Q)(hd:cK c.n ops.toList=true:=by exact rfl)(hr:a1->a2->∀K:aE->Nat->Prop,K s' κ'->aL c (eR ops) s κ K:=by intro e1 e2 K k;simp[e1,e2];(repeat refine ah ?_);exact k):AW c r (.seq (.region id ops false) y) s κ Q:=
 aaa λK hK=>aat hd (hr e1 e2 K (hK _ _ h))
def aau(e1:a1)(e2:a2)(h:Q .normal s' κ')(hd:cK c.n ops.toList=true:=by exact rfl)(hr:a1->a2->∀K:aE->Nat->Prop,K s' κ'->aL c (eR ops) s κ K:=by intro e1 e2 K k;simp[e1,e2];(repeat refine ah ?_);exact k):AW c r (.region id ops false) s κ Q:=
 aat hd (hr e1 e2 (λs κ=>Q .normal s κ) h)
def AW.c2(κ1:Nat)(hc:aa c.P c.G f xs x)(e1:a1)(e2:a2)(h:AW c r y s' κ' Q)(hd:cK c.n ops.toList=true:=by exact rfl)(hr:∀κ2,κ2=κ1->a1->a2->aa c.P c.G f xs x->∀K:aE->Nat->Prop,K s' κ'->aL c (eR ops) s κ K:=by intro κ2 e e1 e2 hc K k;simp[e1,e2];refine ag.p κ2 9 hc ?_;subst e;simp[e1,e2];(repeat refine ah ?_);exact k):AW c r (.seq (.region id ops false) y) s κ Q:=
 aaa λK hK=>aat hd (hr κ1 rfl e1 e2 hc K (hK _ _ h))
def AW.m2(κ1:Nat)(hc:aa c.P c.G f xs x)(e1:a1)(e2:a2)(h:Q .normal s' κ')(hd:cK c.n ops.toList=true:=by exact rfl)(hr:∀κ2,κ2=κ1->a1->a2->aa c.P c.G f xs x->∀K:aE->Nat->Prop,K s' κ'->aL c (eR ops) s κ K:=by intro κ2 e e1 e2 hc K k;simp[e1,e2];refine ag.p κ2 9 hc ?_;subst e;simp[e1,e2];(repeat refine ah ?_);exact k):AW c r (.region id ops false) s κ Q:=
 aat hd (hr κ1 rfl e1 e2 hc (λs κ=>Q .normal s κ) h)
def aaC(e1:a1)(e2:a2)(e3:a3)(h:AW c r y s' κ' Q)(hd:cK c.n ops.toList=true:=by exact rfl)(hr:a1->a2->a3->∀K:aE->Nat->Prop,K s' κ'->aL c (eR ops) s κ K:=by intro e1 e2 e3 K k;simp[e1,e2,e3];(repeat refine ah ?_);exact k):AW c r (.seq (.region id ops false) y) s κ Q:=
 aaa λK hK=>aat hd (hr e1 e2 e3 K (hK _ _ h))
def aaA(e1:a1)(e2:a2)(e3:a3)(h:Q .normal s' κ')(hd:cK c.n ops.toList=true:=by exact rfl)(hr:a1->a2->a3->∀K:aE->Nat->Prop,K s' κ'->aL c (eR ops) s κ K:=by intro e1 e2 e3 K k;simp[e1,e2,e3];(repeat refine ah ?_);exact k):AW c r (.region id ops false) s κ Q:=
 aat hd (hr e1 e2 e3 (λs κ=>Q .normal s κ) h)
def AW.c3(κ1:Nat)(hc:aa c.P c.G f xs x)(e1:a1)(e2:a2)(e3:a3)(h:AW c r y s' κ' Q)(hd:cK c.n ops.toList=true:=by exact rfl)(hr:∀κ2,κ2=κ1->a1->a2->a3->aa c.P c.G f xs x->∀K:aE->Nat->Prop,K s' κ'->aL c (eR ops) s κ K:=by intro κ2 e e1 e2 e3 hc K k;simp[e1,e2,e3];refine ag.p κ2 9 hc ?_;subst e;simp[e1,e2,e3];(repeat refine ah ?_);exact k):AW c r (.seq (.region id ops false) y) s κ Q:=
 aaa λK hK=>aat hd (hr κ1 rfl e1 e2 e3 hc K (hK _ _ h))
def aaE(e1:a1)(e2:a2)(e3:a3)(e4:a4)(h:AW c r y s' κ' Q)(hd:cK c.n ops.toList=true:=by exact rfl)(hr:a1->a2->a3->a4->∀K:aE->Nat->Prop,K s' κ'->aL c (eR ops) s κ K:=by intro e1 e2 e3 e4 K k;simp[e1,e2,e3,e4];(repeat refine ah ?_);exact k):AW c r (.seq (.region id ops false) y) s κ Q:=
 aaa λK hK=>aat hd (hr e1 e2 e3 e4 K (hK _ _ h))
def aay(e1:a1)(e2:a2)(e3:a3)(e4:a4)(h:Q .normal s' κ')(hd:cK c.n ops.toList=true:=by exact rfl)(hr:a1->a2->a3->a4->∀K:aE->Nat->Prop,K s' κ'->aL c (eR ops) s κ K:=by intro e1 e2 e3 e4 K k;simp[e1,e2,e3,e4];(repeat refine ah ?_);exact k):AW c r (.region id ops false) s κ Q:=
 aat hd (hr e1 e2 e3 e4 (λs κ=>Q .normal s κ) h)
def AW.c4(κ1:Nat)(hc:aa c.P c.G f xs x)(e1:a1)(e2:a2)(e3:a3)(e4:a4)(h:AW c r y s' κ' Q)(hd:cK c.n ops.toList=true:=by exact rfl)(hr:∀κ2,κ2=κ1->a1->a2->a3->a4->aa c.P c.G f xs x->∀K:aE->Nat->Prop,K s' κ'->aL c (eR ops) s κ K:=by intro κ2 e e1 e2 e3 e4 hc K k;simp[e1,e2,e3,e4];refine ag.p κ2 9 hc ?_;subst e;simp[e1,e2,e3,e4];(repeat refine ah ?_);exact k):AW c r (.seq (.region id ops false) y) s κ Q:=
 aaa λK hK=>aat hd (hr κ1 rfl e1 e2 e3 e4 hc K (hK _ _ h))
def AW.f5(e1:a1)(e2:a2)(e3:a3)(e4:a4)(e5:a5)(h:AW c r y s' κ' Q)(hd:cK c.n ops.toList=true:=by exact rfl)(hr:a1->a2->a3->a4->a5->∀K:aE->Nat->Prop,K s' κ'->aL c (eR ops) s κ K:=by intro e1 e2 e3 e4 e5 K k;simp[e1,e2,e3,e4,e5];(repeat refine ah ?_);exact k):AW c r (.seq (.region id ops false) y) s κ Q:=
 aaa λK hK=>aat hd (hr e1 e2 e3 e4 e5 K (hK _ _ h))
def AW.f6(e1:a1)(e2:a2)(e3:a3)(e4:a4)(e5:a5)(e6:a6)(h:AW c r y s' κ' Q)(hd:cK c.n ops.toList=true:=by exact rfl)(hr:a1->a2->a3->a4->a5->a6->∀K:aE->Nat->Prop,K s' κ'->aL c (eR ops) s κ K:=by intro e1 e2 e3 e4 e5 e6 K k;simp[e1,e2,e3,e4,e5,e6];(repeat refine ah ?_);exact k):AW c r (.seq (.region id ops false) y) s κ Q:=
 aaa λK hK=>aat hd (hr e1 e2 e3 e4 e5 e6 K (hK _ _ h))
def AW.f7(e1:a1)(e2:a2)(e3:a3)(e4:a4)(e5:a5)(e6:a6)(e7:a7)(h:AW c r y s' κ' Q)(hd:cK c.n ops.toList=true:=by exact rfl)(hr:a1->a2->a3->a4->a5->a6->a7->∀K:aE->Nat->Prop,K s' κ'->aL c (eR ops) s κ K:=by intro e1 e2 e3 e4 e5 e6 e7 K k;simp[e1,e2,e3,e4,e5,e6,e7];(repeat refine ah ?_);exact k):AW c r (.seq (.region id ops false) y) s κ Q:=
 aaa λK hK=>aat hd (hr e1 e2 e3 e4 e5 e6 e7 K (hK _ _ h))
def AW.f8{a8:Prop}(e1:a1)(e2:a2)(e3:a3)(e4:a4)(e5:a5)(e6:a6)(e7:a7)(e8:a8)(h:AW c r y s' κ' Q)(hd:cK c.n ops.toList=true:=by exact rfl)(hr:a1->a2->a3->a4->a5->a6->a7->a8->∀K:aE->Nat->Prop,K s' κ'->aL c (eR ops) s κ K:=by intro e1 e2 e3 e4 e5 e6 e7 e8 K k;simp[e1,e2,e3,e4,e5,e6,e7,e8];(repeat refine ah ?_);exact k):AW c r (.seq (.region id ops false) y) s κ Q:=
 aaa λK hK=>aat hd (hr e1 e2 e3 e4 e5 e6 e7 e8 K (hK _ _ h))
def au.t2{y:AV}{t:Nat}(hr:fn.results=#[.tmp t,.tmp u])(kh:Key)(hx:s.fr t=x:=by simp)(hy:s.fr u=y:=by simp)(hp:x.pure=true:=by first|rfl|simp)(hq:y.pure=true:=by first|rfl|simp)(hh:s.lv kh=.hole:=by first|rfl|simp)(hn:x.cH=true:=by first|rfl|simp)(hm:y.cH=true:=by first|rfl|simp)(htu:t≠u:=by decide):au c fn (.tup [x,y]) .ret s 0:=
 au.TW hr kh hx hy hp hq hh hn hm htu
end
end Go.Am
namespace Go.Am.N
variable {B n i m d x:Nat}{l:List Nat}
def val(B:Nat):List Nat->Nat
 |[]=>0
 |d::l=>d+B*val B l
def ok(B:Nat)(l:List Nat):Prop:=∀d∈l,d<B
@[simp]def tH(B:Nat):val B []=0:=rfl
@[simp]def bT(B d:Nat)(l:List Nat):val B (d::l)=d+B*val B l:=rfl
theorem ju(B:Nat)(a b:List Nat):val B (a++b)=val B a+B^a.length*val B b:=by
 induction a with
 |nil=>simp
 |cons d a ih=>
  simp only[abF,bT,ih,ZA,Zl]
  grind
def p7(B n:Nat):val B (List.replicate n 0)=0:=by
 induction n with
 |zero=>rfl
 |succ n ih=>simp[abP,ih]
def cC(B:Nat):ok B []:=λd h=>by cases h
def bJ:ok B (d::l)↔d<B/\ok B l:=by simp[ok]
theorem cA{a b:List Nat}:ok B (a++b)↔ok B a/\ok B b:=by
 simp only[ok,Z5];exact⟨λh=>⟨λd hd=>h d (.inl hd),λd hd=>h d (.inr hd)⟩,λh d hd=>hd.elim (h.1 d) (h.2 d)⟩
def r5(hB:0<B)(n:Nat):ok B (List.replicate n 0):=λd hd=>by rw[List.eq_of_mem_replicate hd];exact hB
theorem lS(h:ok B l)(n:Nat):ok B (l.take n):=λd hd=>h d (aa8 hd)
theorem CW(h:ok B l)(n:Nat):ok B (l.drop n):=λd hd=>h d (aa1 hd)
theorem GI(h:ok B l)(n:Nat)(hx:x<B):ok B (l.set n x):=λd hd=>by
 rcases aci hd with h1|h1
 ·exact h d h1
 ·rw[h1];exact hx
theorem fu{B:Nat}:∀{l:List Nat},ok B l->val B l<B^l.length
 |[],_=>by simp
 |d::l,h=>by
  rw[bJ]at h;have h1:=fu h.2;simp only[bT,ZA,Zl];have h2:B*(val B l+1)<=B*B^l.length:=ZD _ h1;rw[Zc,Zk B (B^_)]at h2;omega
def bA(h:i<l.length):val B (l.take (i+1))=val B (l.take i)+B^i*l[i]:=by
 rw[List.take_succ_eq_append_getElem h,ju,Ze,ZS (by omega)];simp
def cq(l:List Nat)(i:Nat)(h:i<=l.length):val B l=val B (l.take i)+B^i*val B (l.drop i):=by
 conv=>lhs;rw[<-abp i l,ju,Ze,ZS h]
def cL(h:i<l.length):val B (l.drop i)=l[i]+B*val B (l.drop (i+1)):=by
 rw[Z6 h,bT]
def fq(h:l.length<=i):val B (l.drop i)=0:=by
 rw[abj h];rfl
def aN(h:l.length<=i):val B (l.take i)=val B l:=by
 rw[aa5 h]
def can(B:Nat)(l:List Nat):Prop:=ok B l/\∀x,l.getLast?=some x->x≠0
def di(l:List Nat):List Nat:=(l.reverse.dropWhile (·=0)).reverse
@[simp]def Sq:di []=[]:=rfl
def iQ(l:List Nat):di (l++[0])=di l:=by simp[di]
def jI(h:x≠0):di (l++[x])=l++[x]:=by simp[di,h]
def tf{p:List Nat->Prop}(h0:p [])(h1:∀l x,p l->p (l++[x]))(l:List Nat):p l:=by
 have key:∀l:List Nat,p l.reverse:=by
  intro l
  induction l with
  |nil=>exact h0
  |cons x l ih=>rw[List.reverse_cons];exact h1 _ _ ih
 rw[<-List.reverse_reverse l];exact key _
theorem Ly(B:Nat)(l:List Nat):val B (di l)=val B l:=by
 induction l using tf with
 |h0=>rfl
 |h1 l x ih=>
  by_cases h:x=0
  ·subst h;rw[iQ,ih,ju];simp
  ·rw[jI h]
theorem Kz(l:List Nat):(di l).length<=l.length:=by
 induction l using tf with
 |h0=>exact aY _
 |h1 l x ih=>
  by_cases h:x=0
  ·subst h;rw[iQ];simp;omega
  ·rw[jI h];exact aY _
theorem B5(h:ok B l):ok B (di l):=by
 induction l using tf with
 |h0=>exact h
 |h1 l x ih=>
  by_cases e:x=0
  ·subst e;rw[iQ];exact ih (cA.1 h).1
  ·rw[jI e];exact h
theorem LZ(h:ok B l):can B (di l):=by
 refine⟨B5 h,?_⟩;clear h
 induction l using tf with
 |h0=>intro x hx;cases hx
 |h1 l x ih=>
  by_cases e:x=0
  ·subst e;rw[iQ];exact ih
  ·rw[jI e];intro y hy;simp at hy;omega
theorem yW(h:can B (d::l)):can B l:=by
 refine⟨(bJ.1 h.1).2,λx hx=>h.2 x ?_⟩
 cases l with
 |nil=>cases hx
 |cons e l=>rw[List.getLast?_cons_cons];exact hx
theorem iF(h:can B l)(h0:l≠[]):0<val B l:=by
 induction l with
 |nil=>exact absurd rfl h0
 |cons d l ih=>
  simp only[bT]
  by_cases hl:l=[]
  ·subst hl;have:=h.2 d rfl;simp;omega
  ·have h1:=ih (yW h) hl
   have h2:0<B:=by
    have:=(bJ.1 h.1).1;omega
   have:=Z1 h2 h1;omega
def E9(h:can B l)(h0:val B l=0):l=[]:=by
 by_cases e:l=[]
 ·exact e
 ·have:=iF h e;omega
theorem Hq{B:Nat}:∀{a b:List Nat},can B a->can B b->val B a=val B b->a=b
 |[],b,_,hb,h=>(E9 hb h.symm).symm
 |a,[],ha,_,h=>E9 ha h
 |d::a,e::b,ha,hb,h=>by
  simp only[bT]at h;have hd:=(bJ.1 ha.1).1;have he:=(bJ.1 hb.1).1
  have h1:d=e:=by
   have:=congrArg (· % B) h;simp only[abY,ZI hd,ZI he]at this;exact this
  subst h1;have h2:B*val B a=B*val B b:=by omega
  have h3:=Nat.eq_of_mul_eq_mul_left (by omega:0<B) h2;rw[Hq (yW ha) (yW hb) h3]
def DE(B:Nat):Nat->Nat->List Nat
 |0,_=>[]
 |f+1,n=>if n=0 then[]else n%B::DE B f (n/B)
def aK(B n:Nat):List Nat:=DE B n n
def ye{B:Nat}(hB:2<=B):∀{f n:Nat},n<=f->val B (DE B f n)=n
 |0,n,h=>by simp[DE];omega
 |f+1,n,h=>by
  simp only[DE];split
  ·rename_i e;simp[e]
  ·rename_i e
   have h1:n/B<n:=Nat.div_lt_self (by omega) (by omega);rw[bT,ye hB (by omega)];exact Nat.mod_add_div n B
theorem Di{B:Nat}(hB:2<=B):∀{f n:Nat},n<=f->can B (DE B f n)
 |0,n,h=>⟨cC B,λx hx=>by cases hx⟩
 |f+1,n,h=>by
  simp only[DE];split
  ·exact⟨cC B,λx hx=>by cases hx⟩
  ·rename_i e
   have h1:n/B<n:=Nat.div_lt_self (by omega) (by omega);have h2:=Di hB (f:=f) (n:=n/B) (by omega);refine⟨bJ.2 ⟨Zz _ (by omega),h2.1⟩,λx hx=>?_⟩
   cases e2:DE B f (n/B)with
   |nil=>
    rw[e2]at hx;simp at hx;subst hx;have h3:=ye hB (f:=f) (n:=n/B) (by omega);rw[e2]at h3;simp at h3;have h4:=Nat.mod_add_div n B;rw[<-h3]at h4;simp at h4;omega
   |cons d l=>
    rw[e2,List.getLast?_cons_cons]at hx;exact h2.2 x (by rw[e2];exact hx)
def bt(hB:2<=B)(n:Nat):val B (aK B n)=n:=ye hB (aY _)
def bw(hB:2<=B)(n:Nat):can B (aK B n):=Di hB (aY _)
def ig(hB:2<=B)(h:can B l)(hv:val B l=n):l=aK B n:=
 Hq h (bw hB n) (by rw[hv,bt hB])
def dZ(hB:2<=B)(h:ok B l)(hv:val B l=n):di l=aK B n:=
 ig hB (LZ h) (by rw[Ly,hv])
@[simp]def Ts(B:Nat):aK B 0=[]:=rfl
def eA(hB:2<=B):aK B n=[]↔n=0:=
 ⟨λh=>by rw[<-bt hB n,h];rfl,λh=>by rw[h];rfl⟩
def qM(hB:2<=B):n<B^(aK B n).length:=by
 have:=fu (bw hB n).1
 rwa[bt hB]at this
def RM(hB:2<=B)(h:n≠0):B^((aK B n).length-1)<=n:=by
 have hc:=bw hB n;have hv:=bt hB n;have hn:aK B n≠[]:=λe=>h ((eA hB).1 e)
 have hlen:0<(aK B n).length:=List.length_pos_iff.2 hn;have hlast:(aK B n).length-1<(aK B n).length:=by omega
 have h1:=cq (B:=B) (aK B n) ((aK B n).length-1) (by omega);rw[cL hlast,hv]at h1;have h2:(aK B n)[(aK B n).length-1]≠0:=hc.2 _ (by rw[acj,cy hlast])
 have h3:B^((aK B n).length-1)*1<=B^((aK B n).length-1)*((aK B n)[(aK B n).length-1]+B*val B ((aK B n).drop ((aK B n).length-1+1))):=
  ZD _ (by omega)
 omega
def cN(hB:2<=B)(h:n<B^m):(aK B n).length<=m:=by
 by_cases e:n=0
 ·subst e;simp
 ·have h1:=RM hB e;have h2:B^((aK B n).length-1)<B^m:=aaT h1 h;have:=(ack (by omega:1<B)).1 h2;omega
def I0(hB:2<=B)(h0:n≠0)(h:n<B):aK B n=[n]:=
 (ig hB ⟨bJ.2 ⟨h,cC B⟩,λx hx=>by simp at hx;omega⟩ (by simp)).symm
def c9(hB:2<=B)(h:m<=n):(aK B m).length<=(aK B n).length:=
 cN hB (aaT h (qM hB))
def JH(hB:2<=B)(h:(aK B m).length<(aK B n).length):m<n:=by
 by_cases e:m<n
 ·exact e
 ·have:=c9 hB (abo e);omega
end Go.Am.N
namespace Go.Am.N
def oI(B i m:Nat):B^i*(m%B)+B^(i+1)*(m/B)=B^i*m:=by
 rw[Zl,Zn,<-Zc,Nat.mod_add_div]
def eY(B:Nat)(l:List Nat)(x:Nat):val B (l++[x])=val B l+B^l.length*x:=by
 rw[ju];simp
def nH(B:Nat)(l:List Nat)(m:Nat):val B (l++[m%B])+B^(l.length+1)*(m/B)=val B l+B^l.length*m:=by
 rw[eY,aaH,oI]
def xz{B:Nat}:∀{l:List Nat}{i:Nat}(h:i<l.length) (x:Nat),val B (l.set i x)+B^i*l[i]=val B l+B^i*x
 |d::l,0,h,x=>by simp;omega
 |d::l,i+1,h,x=>by
  have ih:=xz (B:=B) (l:=l) (i:=i) (by simpa using h) x;simp only[List.set_cons_succ,bT,List.getElem_cons_succ,Zl];have e1:B^i*B*l[i]'(by simpa using h)=B*(B^i*l[i]'(by simpa using h)):=by rw[Zk (B^i) B,Zn]
  have e2:B^i*B*x=B*(B^i*x):=by rw[Zk (B^i) B,Zn]
  rw[e1,e2,aaH,<-Zc,ih,Zc];omega
end Go.Am.N
namespace Go.Am
open N
variable {T e:TypeId}{k k':IntKind}{P:Program}{lv:Key->LB}{o:Option (List Nat)}{i off len sz:Nat}{n:Int}{l:List Nat}
def dK(k:IntKind)(l:List Nat):List (List DV):=l.map λ(x:Nat)=>[DV.int k (x:Int)]
def nK(k:IntKind):Option (List Nat)->AV
 |none=>.c (.d .nilsl)
 |some l=>.c (.d (.sl (dK k l)))
def dO(o:Option (List Nat)):List Nat:=o.getD []
@[simp]def aX(l:List Nat):dO (some l)=l:=rfl
@[simp]def VO:dO none=[]:=rfl
@[simp]def Vk(k:IntKind)(o:Option (List Nat)):(nK k o).pure=true:=by cases o<;>rfl
@[simp]def Th(k:IntKind)(o:Option (List Nat)):(nK k o).cH=true:=by cases o<;>rfl
@[simp]def Tj(k:IntKind)(o:Option (List Nat)):(nK k o).bC=true:=by cases o<;>rfl
@[simp]def WT(k:IntKind)(o:Option (List Nat))(g:Key->Key):(nK k o).bM g=nK k o:=by cases o<;>rfl
theorem iJ{V:Vw}{v:Value}(h:V.av v (nK k o)):(dO o).length<=9223372036854775807/\∀x∈dO o,(x:Int)<=qj k:=by
 cases o with
 |none=>exact⟨by simp,λx hx=>by cases hx⟩
 |some l=>
  have h1:=Vw.GA h;simp only[dK,Zt]at h1;refine⟨h1,λx hx=>?_⟩;obtain⟨h,_⟩:=h
  cases h with
  |sl b off cap sz _ vs hl hc hb hm ho hr=>
   obtain⟨i,hi,rfl⟩:=List.mem_iff_getElem.1 hx;simp only[aX]at hi;have h2:=hr i (by simpa[dK]using hi) 0 (by simp[dK]);simp only[dK,Za,ZJ]at h2
   have h3:k.wrap (l[i]:Int)=(l[i]:Int):=by
    generalize vs i 0=u at h2
    cases h2;assumption
   rw[oR]at h3;simp only[aX];exact h3.2
def nO{z:Nat}(h:fh P T=some (e,z)):eJ P T lv (nK k o)=some (.c (.d (.int .i64 (dO o).length)),[],[],True):=by
 cases o<;>simp[eJ,lE,nK,h,dK,keyOf,nV]
theorem Lh(h:fh P T=some (e,1))(hi:i<(dO o).length):
 aq P T lv (nK k o) (.c (.d (.int k' (i:Int))))=some (.c (.d (.ptr [DV.int k ((dO o)[i]:Int)])),[],[],True):=by
 cases o with
 |none=>cases hi
 |some l=>
  simp only[aX]at hi;have h1:(dK k l)[i]?.getD []=[DV.int k (l[i]:Int)]:=by simp[dK,hi]
  have h2:(i:Int)<(l.length:Int):=by omega
  simp[nK,aq,h,h1];simp[dK,hi]
@[simp]theorem Dh(h:(fh P T).isSome=true):eJ P T lv (nK k o)=some (.c (.d (.int .i64 (dO o).length)),[],[],True):=by
 obtain⟨⟨e,z⟩,h⟩:=Option.isSome_iff_exists.1 h;exact nO h
@[simp]theorem gA(h:(fh P T).map (·.2)=some 1)(hi:i<(dO o).length):
 aq P T lv (nK k o) (.c (.d (.int k' (i:Int))))=some (.c (.d (.ptr [DV.int k ((dO o)[i]:Int)])),[],[],True):=by
 obtain⟨⟨e,z⟩,h,rfl⟩:=Option.map_eq_some_iff.1 h;exact Lh h hi
@[simp]def SW{k:Key}(h:(fh P T).isSome=true):eJ P T lv (.c (.aD k off len sz))=(match lv k with|.cells ..|.nils=>some (.c (.d (.int .i64 len)),[],[k],nV (.c (.aD k off len sz)) len)|_=>none):=by
 simp only[eJ,lE,h,if_true]
 cases lv k<;>rfl
@[simp]def SQ{k:Key}:nV (.c (.aD k off len sz)) n=(n<=9223372036854775807):=rfl
@[simp]def TN{l:List UInt8}(h:cF P T=true):eJ P T lv (.c (.d (.str l)))=some (.c (.d (.int .i64 l.length)),[],[],True):=by
 simp[eJ,lE,h,keyOf]
attribute [simp] Em
def wK(k:IntKind)(l:List Nat):List CV:=l.map λ(x:Nat)=>CV.d (.int k (x:Int))
@[simp]def LU(k:IntKind)(l:List Nat):(wK k l).length=l.length:=by simp[wK]
def gx(k:IntKind)(n:Nat):List.replicate n (CV.d (.int k 0))=wK k (List.replicate n 0):=by simp[wK]
def fS(k:IntKind)(h:i<l.length)(x:Nat):aj (wK k l) i [CV.d (.int k (x:Int))]=wK k (l.set i x):=by
 simp only[aj,wK,ZY];rw[List.set_eq_take_append_cons_drop,if_pos h];simp[abD,List.map_drop]
def It(ha:dj P T=some false)(k:IntKind)(h:i<l.length):eW P T ((wK k l).drop i)=some (.c (.d (.int k (l[i]:Int)))):=by
 have:(wK k l).drop i=CV.d (.int k (l[i]:Int))::(wK k l).drop (i+1):=by
  rw[Z6 (by simpa using h)];simp[wK]
 rw[this];simp[ha]
attribute [simp] It
def x8{lv:Key->LB}{n:Nat}{k:IntKind}:∀(l:List Nat),fN (cR lv n) (wK k l)=some (l.map λ(x:Nat)=>DV.int k (x:Int),[])
 |[]=>rfl
 |x::l=>by
  have ih:=x8 (lv:=lv) (n:=n) (k:=k) l;simp only[wK,Zm,fN]at ih⊢;rw[ih]
  cases n<;>rfl
theorem pP{α:Type}:∀(l:List α),chunk 1 l.length l=l.map λx=>[x]
 |l=>by
  apply abU
  ·simp[chunk]
  ·intro i h1 h2;simp[chunk]at h1 h2⊢;rw[Z6 (by omega)];rfl
def Ct{κ:Key}{own fz:Bool}(h:lv κ=.cells own fz T (wK k l))(hl:l.length<=9223372036854775807):eP lv (.c (.aD κ 0 l.length 1))=some (nK k (some l),[κ]):=by
 have h1:(wK k l).take l.length=wK k l:=aa5 (by simp);simp only[eP,cR,h,LU,Z0,Zw,aY,hl,and_self,if_true,Y9,h1,x8,Zs];have h2:=pP (l.map λ(x:Nat)=>DV.int k (x:Int));rw[Zt]at h2;rw[h2];simp[nK,dK]
def bF(h1:-9223372036854775808<=n)(h2:n<=9223372036854775807):i64.wrap n=n:=cM ⟨h1,h2⟩
def dH(h1:0<=n)(h2:n<=18446744073709551615):u64.wrap n=n:=cM ⟨h1,h2⟩
def uH(h1:0<=n)(h2:n<=4294967295):u32.wrap n=n:=cM ⟨h1,h2⟩
def qz(n:Int):u32.wrap n=n%4294967296:=by rw[xl];simp[IntKind.signed,IntKind.bits]
def AA(n:Int):u64.wrap n=n%18446744073709551616:=by rw[xl];simp[IntKind.signed,IntKind.bits]
theorem gB.qg{c:Ctx}{f:FuncId}{ps:List zU}{d:Option Tmp}{s:aE}{κ:Nat}{K:aE->Nat->Prop}(κ':Nat)(kh:Key)(κb:Key){x:AV}(hk:s.lv κb=.cells true false T (wK k l))(hl:l.length<=9223372036854775807)
 (hc:aa c.P c.G f [nK k (some l)] x) (hx:x.pure=true) (hh:s.lv kh=.hole) (hkh:kh≠κb) (hK:aL c ps (aE.put ⟨s.fr,az s.lv κb (.cells true true T (wK k l))⟩ d x) κ' K):gB c f [.c (.aD κb 0 l.length 1)] ps d s κ K:=by
 refine ag.WJ κ' kh κb T (wK k l) [kh] hc hx hk hh hkh rfl (λi p q=>?_) (λa ha j hj=>?_) (by simp) hK
 ·have hi:i=0:=by simp at p;omega
  subst hi;right;exact Ct (aC _ _ _) hl
 ·simp only[ZV]at ha;subst ha;simp only[hO,fK,rP,aC]at hj;rcases hj with rfl|hj
  ·exact .inr rfl
  ·simp only[aaK]at hj;obtain⟨y,hy,hj⟩:=hj;simp only[wK,ZX]at hy;obtain⟨z,_,rfl⟩:=hy
   cases hj
end Go.Am
namespace Go.Am
open N
variable {lv lv':Key->LB}{c:Ctx}{fr:Nat->AV}
attribute [simp] BC
@[simp]def VB(x:CV):(AV.c x).bC=true:=rfl
@[simp]def SM(x:List CV):(AV.agg x).bC=true:=rfl
@[simp]def VL(x:DV):(AV.c (.d x)).pure=true:=rfl
def aaz{r:Option Nat}{s:aE}{κ:Nat}{Q:Ex->aE->Nat->Prop}{x:Code}(κ':Nat)(h:AW c r x s κ' Q):AW c r x s κ Q:=h
def gY(lv:Key->LB):Prop:=∀k own es,lv k≠.map own es
@[simp]def bg:gY (λ_=>.hole):=λk own es h=>by cases h
@[simp]def pS(h:gY lv)(k:Key)(own fz:Bool)(T:TypeId)(cs:List CV):gY (az lv k (.cells own fz T cs)):=λk' o es h'=>by
 unfold az at h';split at h'
 ·cases h'
 ·exact h _ _ _ h'
@[simp]def pH(h:gY lv)(k:Key):gY (az lv k .dead):=λk' o es h'=>by
 unfold az at h';split at h'
 ·cases h'
 ·exact h _ _ _ h'
def Le.mk'(l:List (Nat×AV))(he:lv=lv')(hm:gY lv)(hl:∀p∈l,p.2.bC=true/\fr p.1=p.2):Le c ⟨fr,lv⟩ ⟨aU l,lv'⟩:=by
 subst he;exact Le.slots l hl (λk own es h=>absurd h (hm k own es))
def Le.mX(l:List (Nat×AV))(he:lv=lv':=by first|rfl|simp)(hl:∀p∈l,p.2.bC=true/\fr p.1=p.2:=by simp)(hm:gY lv:=by repeat (first|exact bg|refine pS ?_ _ _ _ _ _|(refine pH ?_ _)|(refine Ba ?_ _ _ _)|(refine oh ?_ _)|simp)):Le c ⟨fr,lv⟩ ⟨aU l,lv'⟩:=Le.mk' l he hm hl
def kN(pre:List Nat)(m x:Nat):(pre++List.replicate (m+1) 0).set pre.length x=(pre++[x])++List.replicate m 0:=by
 rw[acm _ _ (aY _)];simp[abP]
end Go.Am
namespace Go.Am
variable {P:Program}{T:TypeId}{k:IntKind}{m n:Int}
def Lr(k:IntKind)(m n:Int):Int:=k.wrap (BitVec.ofInt k.bits m |||BitVec.ofInt k.bits n).toNat
def Wb(k:IntKind)(m n:Int):Int:=k.wrap (BitVec.ofInt k.bits m&&&BitVec.ofInt k.bits n).toNat
@[simp]def Wz:aI P .or T (.c (.d (.int k m))) (.c (.d (.int k n)))=some (.c (.d (.int k (Lr k m n))),[],[],True):=SV
@[simp]def U5:aI P .and T (.c (.d (.int k m))) (.c (.d (.int k n)))=some (.c (.d (.int k (Wb k m n))),[],[],True):=Ru
def QI(m n:Nat)(hm:m<18446744073709551616)(hn:n<18446744073709551616):Lr .u64 (m:Int) (n:Int)=((m |||n:Nat):Int):=by
 have h2:(BitVec.ofNat 64 m |||BitVec.ofNat 64 n).toNat=m |||n:=by
  rw[BitVec.toNat_or,acn,acn,ZI hm,ZI hn]
 have h3:m |||n<18446744073709551616:=Nat.or_lt_two_pow (n:=64) hm hn;show u64.wrap (((BitVec.ofInt 64 (m:Int) |||BitVec.ofInt 64 (n:Int)).toNat:Nat):Int)=_;rw[aco,aco,h2];generalize m |||n=q at h3;exact dH (by omega) (by omega)
def C4(k:IntKind)(m n:Int):Lr k m n=Lr k n m:=by unfold Lr;rw[BitVec.or_comm]
def tQ{m y:Nat}(hm:m<4294967296)(hy:y<4294967296):Lr .u64 ((m*4294967296:Nat):Int) (y:Int)=((m*4294967296+y:Nat):Int):=by
 rw[QI _ _ (by omega) (by omega)];congr 1;have:=Nat.shiftLeft_add_eq_or_of_lt (i:=32) (b:=y) (by simpa using hy) m;rw[Nat.shiftLeft_eq]at this;exact this.symm
def pJ(qs:List Nat)(k x:Nat):(List.replicate (k+1) 0++qs).set k x=List.replicate k 0++(x::qs):=by
 rw[acp _ _ (by simp),List.replicate_succ',acm _ _ (by simp)];simp
end Go.Am
namespace Go.Am
def Rz(m n:Nat)(hm:m<4294967296)(hn:n<4294967296):Lr .u32 (m:Int) (n:Int)=((m |||n:Nat):Int):=by
 have h2:(BitVec.ofNat 32 m |||BitVec.ofNat 32 n).toNat=m |||n:=by
  rw[BitVec.toNat_or,acn,acn,ZI hm,ZI hn]
 have h3:m |||n<4294967296:=Nat.or_lt_two_pow (n:=32) hm hn;show u32.wrap (((BitVec.ofInt 32 (m:Int) |||BitVec.ofInt 32 (n:Int)).toNat:Nat):Int)=_;rw[aco,aco,h2];generalize m |||n=q at h3;exact uH (by omega) (by omega)
def KY{t y s:Nat}(ht:t<2^s)(h:y*2^s+t<4294967296):Lr .u32 (t:Int) ((y*2^s:Nat):Int)=((y*2^s+t:Nat):Int):=by
 rw[C4,Rz _ _ (by omega) (by omega)];congr 1;have:=Nat.shiftLeft_add_eq_or_of_lt (i:=s) (b:=t) ht y;rw[Nat.shiftLeft_eq]at this;exact this.symm
end Go.Am
namespace Go.Am
variable {x:Nat}{lo pre r:List Nat}
def mB{P:Program}{T:TypeId}(ha:dj P T=some false)(k:IntKind){l:List Nat}{i:Nat}(h:l[i]?=some x):eW P T ((wK k l).drop i)=some (.c (.d (.int k (x:Int)))):=by
 obtain⟨hi,rfl⟩:=List.getElem?_eq_some_iff.1 h;exact It ha k hi
def H7(hi:List Nat):(lo++(pre++x::r)++hi)[lo.length+pre.length]?=some x:=by
 rw[Zo,abh (by omega),aaP,Zo,abh (aY _),aa2];rfl
def xw(hi:List Nat)(d:Nat):(lo++(pre++x::r)++hi).set (lo.length+pre.length) d=lo++((pre++[d])++r)++hi:=by
 rw[Zo,acm _ _ (by omega),aaP,Zo,acm _ _ (aY _),aa2];simp
end Go.Am
namespace Go.Am
variable {x i:AV}{c:Ctx}{ops:Array Oper}{s:aE}{κ:Nat}{o:Oper}{K:AV->List (Key×LB)->List Key->Nat->Prop}
def gT:Op->Bool
 |.move _|.assign _|.pick ..|.build ..|.load ..|.nilCheck _|.binOp ..|.unOp ..|.convert ..|.makeInterface ..|.slice ..|.fieldAddr ..|.field ..|.indexAddr ..|.index ..|.extract ..=>true
 |.call cl=>match cl.callee with|.builtin .len|.builtin .max|.builtin .min=>true|_=>false
 |_=>false
section
variable {P:Program}{T:TypeId}{lv:Key->LB}{κ:Key}{v:AV}{us:List (Key×LB)}{rds:List Key}{vc:Prop}
def Uk{op:BinOp}{y:AV}(h:aI P op T x y=some (v,us,rds,vc)):us=[]:=by
 unfold aI at h;(repeat' split at h)<;>simp_all
def Rh(h:bk P T lv x=some (v,us,rds,vc)):us=[]:=by
 unfold bk at h;(repeat' split at h)<;>simp_all
def TV(h:gH lv x=some (v,us,rds,vc)):us=[]:=by
 unfold gH at h;(repeat' split at h)<;>simp_all
def W7{f:Nat}(h:bW P T f lv x=some (v,us,rds,vc)):us=[]:=by
 unfold bW at h;(repeat' split at h)<;>simp_all
def X0(h:aq P T lv x i=some (v,us,rds,vc)):us=[]:=by
 unfold aq at h;(repeat' split at h)<;>simp_all
def V4(h:fQ P T x i=some (v,us,rds,vc)):us=[]:=by
 unfold fQ at h;(repeat' split at h)<;>simp_all
def Wn{lo hi:Option AV}(h:bn P T lv x lo hi=some (v,us,rds,vc)):us=[]:=by
 unfold bn at h;(repeat' split at h)<;>simp_all
def C0{op:Op}{vals:List AV}(hq:gT op=true)(h:bK P op vals lv κ=some (v,us,rds,vc)):us=[]:=by
 unfold bK at h;split at h
 all_goals first
  |exact Uk h
  |exact Rh h
  |exact TV h
  |exact W7 h
  |exact X0 h
  |exact V4 h
  |(cases hq;done)
  |(split at h;(exact Wn h);(cases h;done))
  |((repeat' split at h)<;>first|(cases h;done)|(simp only[ai,fy]at h;exact h.2.1.symm))
  |skip
 ·rename_i cl vals'
  unfold iY at h;simp only[gT]at hq;split at h
  ·(repeat' split at h)<;>first|(cases h;done)|(simp only[ai,fy]at h;exact h.2.1.symm)
  ·rename_i e;rw[e]at hq;cases hq
  ·rename_i e;rw[e]at hq;cases hq
  ·(repeat' split at h)<;>first|(cases h;done)|(simp only[ai,fy]at h;exact h.2.1.symm)
  ·(repeat' split at h)<;>first|(cases h;done)|(simp only[ai,fy]at h;exact h.2.1.symm)
  ·cases h
end
def dR.quiet(hq:gT o.op=true)(h:dR c o s κ K):dR c o s κ λx us rds κ'=>us=[]/\K x us rds κ':=by
 have plain:(match bK c.P o.op (o.op.operands.toList.map (s.val c.G)) s.lv κ with
  |some (x,us,rds,vc)=>vc/\K x us rds (match us with|[]=>κ|_=>κ+1)
  |none=>False)->(match bK c.P o.op (o.op.operands.toList.map (s.val c.G)) s.lv κ with
  |some (x,us,rds,vc)=>vc/\(us=[]/\K x us rds (match us with|[]=>κ|_=>κ+1))
  |none=>False):=by
  intro h;split at h
  ·rename_i x us rds vc hs
   exact⟨h.1,C0 hq hs,h.2⟩
  ·exact h.elim
 unfold dR at h⊢;split at h
 ·rename_i cl ho
  split at h
  ·rename_i fo hf
   rw[ho]at hq;simp only[gT,hf]at hq
   cases hq
  ·exact plain h
 ·exact plain h
def dR.mono{K':AV->List (Key×LB)->List Key->Nat->Prop}(h:dR c o s κ K)(hK:∀x us rds κ',K x us rds κ'->K' x us rds κ'):dR c o s κ K':=by
 unfold dR at h⊢;split at h
 ·split at h
  ·split at h
   ·obtain⟨h1,x,us,rds,κ',h2,h3⟩:=h;exact⟨h1,x,us,rds,κ',h2,hK _ _ _ _ h3⟩
   ·exact h.elim
  ·split at h
   ·exact⟨h.1,hK _ _ _ _ h.2⟩
   ·exact h.elim
 ·split at h
  ·exact⟨h.1,hK _ _ _ _ h.2⟩
  ·exact h.elim
def gh.mono{K K':aE->Nat->List Fx->Prop}:∀{os:List Oper}{s:aE}{κ:Nat}{acc:List Fx},gh c ops os s κ acc K->(∀s κ acc,K s κ acc->K' s κ acc)->gh c ops os s κ acc K'
 |[],s,κ,acc,h,hK=>hK _ _ _ h
 |o::os,s,κ,acc,h,hK=>by
  simp only[gh]at h⊢;split at h
  ·exact dR.mono h λx us rds κ' h3=>gh.mono h3 hK
  ·exact gh.mono h hK
  ·exact h.elim
def gh.quiet{K:aE->Nat->Prop}:∀{os:List Oper}{s:aE}{κ:Nat}{acc:List Fx},os.all (λo=>gT o.op)=true->(∀e∈acc,e.us=[])->gh c ops os s κ acc (λs κ _=>K s κ) ->
 gh c ops os s κ acc (λs κ acc=>(∀e∈acc,e.us=[])/\K s κ)
 |[],s,κ,acc,_,ha,h=>⟨ha,h⟩
 |o::os,s,κ,acc,hq,ha,h=>by
  simp only[abi,cn]at hq;simp only[gh]at h⊢;split at h
  ·rename_i hw
   have h2:=dR.quiet hq.1 h;refine dR.mono h2 λx us rds κ' h3=>?_;obtain⟨rfl,h4⟩:=h3
   exact gh.quiet hq.2 (λe he=>by
    rcases List.mem_cons.1 he with rfl|he
    ·rfl
    ·exact ha e he) h4
  ·exact gh.quiet hq.2 (λe he=>by
    rcases List.mem_cons.1 he with rfl|he
    ·rfl
    ·exact ha e he) h
  ·exact h.elim
def Fu{es:List Fx}(h:∀e∈es,e.us=[]):C8 ops es=true:=by
 simp only[C8,Zb];intro j _;split
 ·rename_i e' he'
  rw[ZK];right;rw[Zb];intro i _;split
  ·rename_i e he
   rw[ZK];right;simp[vp,h e (List.mem_of_getElem? he),h e' (List.mem_of_getElem? he')]
  ·rfl
 ·rfl
def aav{r:Option Nat}{Q:Ex->aE->Nat->Prop}{id:Nat}(hm:c.P.follows .mixedOrders=true)(hst:gz ops=true)(hd:cK c.n ops.toList=true)(hq:ops.toList.all (λo=>gT o.op)=true)
 (h:aL c (eR ops) s κ λs' κ'=>Q .normal s' κ'):AW c r (.region id ops true) s κ Q:=by
 refine AW.draw hm hst hd ?_;have h1:pq c ops ops.toList s κ λs' κ'=>Q .normal s' κ':=by rw[<-mG];exact h
 have h2:=gh.quiet hq (λe he=>by cases he) h1;refine gh.mono h2 λs' κ' acc h3=>⟨Fu λe he=>h3.1 e (List.mem_reverse.1 he),h3.2⟩
end Go.Am
namespace Go.Am.N
variable {m n B:Nat}{a b:List Nat}
def pK{j:Nat}(ha:ok B a)(h1:j<a.length)(h2:j<b.length)(hd:a.drop (j+1)=b.drop (j+1))(h:a[j]<b[j]):val B a<val B b:=by
 have e1:=cq (B:=B) a j (by omega);have e2:=cq (B:=B) b j (by omega);rw[cL h1]at e1;rw[cL h2,<-hd]at e2;have h3:=fu (lS ha j);rw[Ze,ZS (by omega)]at h3;have h4:B^j*(a[j]+B*val B (a.drop (j+1))+1)<=B^j*(b[j]+B*val B (a.drop (j+1))):=ZD _ (by omega);rw[Zc (B^j) _ 1]at h4;omega
def lz(hB:2<=B)(ha:can B a)(hb:can B b)(h:a.length<b.length):val B a<val B b:=by
 have e1:=ig hB ha rfl;have e2:=ig hB hb rfl;rw[e1,e2]at h;exact JH hB h
def ec(m n:Nat):Int:=if m<n then -1 else if n<m then 1 else 0
def jO(h:m<n):ec m n = -1:=by simp[ec,h]
def kI(h:n<m):ec m n=1:=by simp[ec,h];omega
def nU(h:m=n):ec m n=0:=by simp[ec,h]
end Go.Am.N
namespace Go.Am.N
def gq(B:Nat):Nat->Nat->List Nat
 |0,_=>[]
 |L+1,n=>n%B::gq B L (n/B)
def qd{B:Nat}:∀{l:List Nat}{n:Nat},ok B l->val B l=n->l=gq B l.length n
 |[],n,_,_=>rfl
 |d::l,n,h,hv=>by
  have hd:=(bJ.1 h).1;have h1:n%B=d:=by rw[<-hv,bT,abY,ZI hd]
  have h2:n/B=val B l:=by rw[<-hv,bT,abZ _ _ (by omega),abk hd,Zw]
  simp only[ZA,gq,h1,h2];rw[<-qd (bJ.1 h).2 rfl]
def oY(B:Nat):∀(L n:Nat),(gq B L n).length=L
 |0,_=>rfl
 |L+1,n=>by simp[gq,oY B L]
def sQ{B:Nat}(hB:0<B):∀(L n:Nat),ok B (gq B L n)
 |0,_=>cC B
 |L+1,n=>bJ.2 ⟨Zz _ hB,sQ hB L _⟩
def mE{B:Nat}:∀(L n:Nat),val B (gq B L n)=n%B^L
 |0,n=>by simp[gq,Nat.mod_one]
 |L+1,n=>by
  rw[gq,bT,mE L,Zl,Zk (B^L) B,Nat.mod_mul]
end Go.Am.N
namespace Go.Am
variable {s:aE}{κ:Nat}{Q:Ex->aE->Nat->Prop}{c:Ctx}{x:AV}{fn:Func}{b' b:LB}{f:FuncId}{T:TypeId}{own:Bool}{cs:List CV}{P:Program}{G:List (List DV)}{code:Code}{args:List AV}
def xx(Q:Ex->aE->Nat->Prop):Ex->aE->Nat->Prop
 |.goto _,_,_=>False
 |e,s,κ=>Q e s κ
@[simp]def Se:xx Q .normal s κ=Q .normal s κ:=rfl
@[simp]def SG{i:Nat}:xx Q (.exit i) s κ=Q (.exit i) s κ:=rfl
@[simp]def SK:xx Q .ret s κ=Q .ret s κ:=rfl
def AW.scope{x:Code}(h:AW c none x s κ (xx Q)):AW c none (.scope x) s κ Q:=by
 intro F β a w hs;have h1:=(wpIn_wide (n:=0)).1 (h F β a w hs);refine(wpIn_wide (n:=0)).2 (wp_scope_straight (wp_mono h1 λe a' w' hp=>?_));obtain⟨x,s',κ',F',β',hq,hs',he⟩:=hp
 cases x with
 |normal=>cases he;exact⟨.normal,s',κ',F',β',hq,hs',rfl⟩
 |exit id=>cases he;exact⟨.exit id,s',κ',F',β',hq,hs',rfl⟩
 |goto l=>exact hq.elim
 |ret=>cases he;exact⟨.ret,s',κ',F',β',hq,hs',rfl⟩
 |panic d=>obtain⟨v,rfl,hv⟩:=he;exact⟨.panic d,s',κ',F',β',hq,hs',v,rfl,hv⟩
def sC(b:LB):bq [b] []=az (λ_=>.hole) 0 b:=by
 funext k
 by_cases h:k=0
 ·subst h;rfl
 ·rw[aH _ _ h];unfold bq;split
  ·rw[cS (by simp;exact λe=>h e)]
  ·rfl
def LB.aT{fz:Bool}(h:∀x∈cs,x.pure=true)(g:Key->Key):(LB.cells own fz T cs).bM g=.cells own fz T cs:=by
 simp only[LB.bM]
 have:cs.map (CV.bM g)=cs:=by
  conv=>rhs;rw[<-List.map_id cs]
  exact ZP λx hx=>CV.aT (h x hx) g
 rw[this]
def RT(κb:Key)(x u:AV):Prop:=
 (u.pure=true/\x=u)\/(∃off len sz,u=.c (.aD 0 off len sz)/\x=.c (.aD κb off len sz))\/(∃off,u=.c (.ptr 0 off)/\x=.c (.ptr κb off))
def gB.LX{xs us:List AV}{ps:List zU}{d:Option Tmp}{K:aE->Nat->Prop}(κ':Nat)(kh κb:Key){cs':List CV}
 (hk:s.lv κb=.cells own false T cs) (hcs:∀x∈cs,x.pure=true) (hcs':∀x∈cs',x.pure=true)
 (hc:aA c.P c.G f us [.cells false false T cs] (.ret x [.cells false false T cs'] [])) (hx:x.pure=true) (hlen:us.length=xs.length)
 (ha:∀i (h:i<xs.length) (h':i<us.length),RT κb xs[i] us[i]) (hh:s.lv kh=.hole) (hkh:kh≠κb)
 (hK:aL c ps (aE.put ⟨s.fr,az s.lv κb (.cells own false T cs')⟩ d x) κ' K):gB c f xs ps d s κ K:=by
 have g0:aG [κb] [] kh 0=κb:=rfl
 have key:=bV.gen (c:=c) (f:=f) (as:=xs) (lv:=s.lv) us [] [κb] [] kh [.cells false false T cs] [.cells false false T cs'] [] x own [kh,κb] (λz hz=>by cases hz) (by simp) (by simp) (λz hz=>by cases hz) (by simpa using hkh) (λz hz=>by cases hz) rfl rfl rfl (by simp)
  (λi h h'=>by
   have hi:i=0:=by simp at h;omega
   subst hi;show(s.lv κb).as (.cells false false T cs) _;rw[hk];refine⟨own,cs,rfl,?_,λe=>by cases e⟩
   conv=>lhs;rw[<-List.map_id cs]
   exact ZP λx hx=>(CV.aT (hcs x hx) _).symm) (λk hk=>by cases hk) hh (λb hb=>by simp at hb;subst hb;rfl) (λb hb=>by simp at hb;rcases hb with rfl|rfl<;>(intro e;cases e)) (λho k hk'=>by
    simp at hk';subst hk';rw[hk];exact ho) hlen
  (λi p q=>by
   left;rcases ha i p q with⟨h1,h2⟩|⟨off,len,sz,h1,h2⟩|⟨off,h1,h2⟩
   ·exact⟨AV.bx h1,by rw[AV.aT h1];exact h2⟩
   ·rw[h1,h2];exact⟨rfl,rfl⟩
   ·rw[h1,h2];exact⟨rfl,rfl⟩) (λa ha' j hj=>by
   obtain⟨i,hi,rfl⟩:=List.mem_iff_getElem.1 ha';left
   have hrd:∀n,∀j∈(match s.lv κb with|.cells _ _ _ cs=>cs.flatMap (fK s.lv n)|_=>[]),j∈([]:List Key):=by
    intro n j hj;rw[hk]at hj;simp only[aaK]at hj;obtain⟨y,hy,hj⟩:=hj;have:=hcs y hy
    cases y<;>simp_all [CV.pure]
    cases n<;>cases hj
   rcases ha i hi (by omega)with⟨h1,h2⟩|⟨off,len,sz,h1,h2⟩|⟨off,h1,h2⟩
   ·rw[h2,cj h1]at hj;cases hj
   ·rw[h2]at hj;simp only[hO,fK,dS,ZW,aQ,List.foldl_nil,rP]at hj;rcases hj with rfl|hj
    ·simp
    ·exact absurd (hrd 7 j hj) (by simp)
   ·rw[h2]at hj;simp only[hO,fK,dS,ZW,aQ,List.foldl_nil,rP]at hj;rcases hj with rfl|hj
    ·simp
    ·exact absurd (hrd 7 j hj) (by simp)) (by simp) hc
 rw[AV.aT hx]at key;refine⟨x,_,_,κ',key,?_⟩
 have e:aQ s.lv (dS []++bD (aG [κb] [] kh) own [κb] [.cells false false T cs']++bD (aG [κb] [] kh) own [] [])=az s.lv κb (.cells own false T cs'):=by
  simp only[dS,bD,ZW,aaS,acf,List.zipWith_nil_left,ZL,LB.aT hcs',LB.fix,aQ,abC,List.foldl_nil,Bool.false_or,List.zipWith_nil_right]
 show aL c ps (aE.put ⟨s.fr,aQ s.lv _⟩ d x) κ' K;rw[e];exact hK
def DY(c:Ctx)(fn:Func)(x:AV)(b':LB):Ex->aE->Nat->Prop
 |.normal,s,_|.ret,s,_=>∃l,(∀p∈l,p.2.bC=true/\s.fr p.1=p.2)/\gY s.lv/\s.lv=az (λ_=>.hole) 0 b'/\cO c.P ⟨aU l,s.lv⟩ fn.results.toList=some x
 |_,_,_=>False
theorem aA.RR(hf:P.funcs[f]?=some fn)(hb:fn.body=some code)(hl:args.length<=fn.ntmps)
 (h:∀c:Ctx,c.P=P->c.G=G->c.n=fn.ntmps->AW c none code ⟨λt=>args.getD t .undef,az (λ_=>.hole) 0 b⟩ 1000 (DY c fn x b')):aA P G f args [b] (.ret x [b'] []):=by
 refine aA.nZ hf hb hl λc h1 h2 h3 h4=>?_;rw[sC]at h4⊢;refine AW.mono (h c h1 h2 h3) λe s κ hq=>?_
 have fin:(∃l,(∀p∈l,p.2.bC=true/\s.fr p.1=p.2)/\gY s.lv/\s.lv=az (λ_=>.hole) 0 b'/\cO c.P ⟨aU l,s.lv⟩ fn.results.toList=some x)->∃s2 g,ei c s s2 g/\s2.lv=bq [b'] []/\cO c.P s2 fn.results.toList=some x:=by
  rintro⟨l,g1,g2,g3,g4⟩;exact⟨⟨aU l,s.lv⟩,λk=>k,ei.slots g1 (λk own es h=>absurd h (g2 k own es)),by rw[sC];exact g3,g4⟩
 cases e with
 |normal=>exact fin hq
 |ret=>exact fin hq
 |exit id=>exact hq.elim
 |goto l=>exact hq.elim
 |panic d=>exact hq.elim
def aA.Yi(hf:P.funcs[f]?=some fn)(hb:fn.body=some code)
 (h:∀z:Ev,AW ⟨P,G,z.w,z.F,z.W,fn.ntmps,z.q,z.b⟩ none code ⟨λt=>args.getD t .undef,az (λ_=>.hole) 0 b⟩ 1000 (DY ⟨P,G,z.w,z.F,z.W,fn.ntmps,z.q,z.b⟩ fn x b')) (hl:Nat.ble args.length fn.ntmps=true:=by kernel_rfl):aA P G f args [b] (.ret x [b'] []):=
 aA.RR hf hb (Zu hl) λ⟨_,_,w,F,W,_,q,b⟩ h1 h2 h3=>by cases h1;cases h2;cases h3;exact h ⟨w,F,W,q,b⟩
def DY.tmp{t:Nat}(hr:fn.results=#[.tmp t])(hx:s.fr t=x)(hf:x.bC=true)(hm:gY s.lv)(hl:s.lv=az (λ_=>.hole) 0 b'):DY c fn x b' .ret s κ:=by
 refine⟨[(t,x)],by simp[hf,hx],hm,hl,?_⟩;rw[hr];simp[cO,iT,j8,aU]
theorem DY.none{e:Ex}(he:e=.normal\/e=.ret)(hr:fn.results=#[])(hm:gY s.lv)(hl:s.lv=az (λ_=>.hole) 0 b'):DY c fn (.tup []) b' e s κ:=by
 have:∃l:List (Nat×AV),(∀p∈l,p.2.bC=true/\s.fr p.1=p.2)/\gY s.lv/\s.lv=az (λ_=>.hole) 0 b'/\cO c.P ⟨aU l,s.lv⟩ fn.results.toList=some (.tup []):=
  ⟨[],by simp,hm,hl,by rw[hr];simp[cO,iT]⟩
 rcases he with rfl|rfl<;>exact this
end Go.Am
namespace Go.Am.N
variable {g o:Nat}
section
variable {B V W v1 v2 Vl u2 Wl top E qt:Nat}
structure P8(B E V W v1 v2 Vl top u2 Wl:Nat):Prop where
 hV:V=(v1*B+v2)*E+Vl
 hW:W=(top*B+u2)*E+Wl
 SN:Vl<E
 Tl:Wl<E
 Sb:v2<B
 SD:u2<B
 hlt:W<B*V
 E5:0<v1
 hB:0<B
variable (h:P8 B E V W v1 v2 Vl top u2 Wl)
include h
theorem P8.E0:0<E:=by have:=h.SN;omega
theorem P8.V0:0<V:=by
 have h1:1*1<=(v1*B+v2)*E:=aa6 (by have:=Z1 h.E5 h.hB;omega) h.E0;have:=h.hV;omega
theorem P8.RA:top<B*(v1+1):=by
 have h1:top*B*E<=W:=by rw[h.hW,Zh];omega
 have h2:V<(v1+1)*B*E:=by
  have e1:(v1+1)*B*E=(v1*B+B)*E:=by rw[Zh,ZT]
  have e2:(v1*B+v2+1)*E<=(v1*B+B)*E:=Zq _ (by have:=h.Sb;omega);rw[Zh _ 1,ZT]at e2;have:=h.hV;have:=h.SN;omega
 have h3:B*V<B*((v1+1)*B*E):=Nat.mul_lt_mul_of_pos_left h2 h.hB
 have h4:top*(B*E)<B*(v1+1)*(B*E):=by
  have e1:B*((v1+1)*B*E)=B*(v1+1)*(B*E):=by simp only[Zn]
  rw[<-e1,<-Zn];have:=h.hlt;omega
 exact acA h4
theorem P8.first(hq:qt*V<=W):qt<=top/v1:=by
 rw[abJ h.E5];have h1:qt*((v1*B)*E)<=qt*V:=ZD _ (by rw[h.hV,Zh (v1*B)];omega)
 have h2:W<(top+1)*(B*E):=by
  have e1:(top*B+u2+1)*E<=(top*B+B)*E:=Zq _ (by have:=h.SD;omega);rw[Zh _ 1,ZT]at e1;have e2:(top+1)*(B*E)=(top*B+B)*E:=by rw[Zh,Zh,ZT,Zn]
  have:=h.hW;have:=h.Tl;omega
 have h3:qt*v1*(B*E)<(top+1)*(B*E):=by
  have e1:qt*((v1*B)*E)=qt*v1*(B*E):=by simp only[Zn]
  rw[<-e1];omega
 have:=acA h3;omega
theorem P8.over(hq:qt*V<=W)(hg:g*v1+o=top)(ht:o*B+u2<g*v2):qt<g:=by
 apply ZG;intro hn;have h1:g*V<=qt*V:=Zq _ (by omega);have h2:g*((v1*B+v2)*E)<=g*V:=ZD _ (by rw[h.hV];omega)
 have h3:(top*B+u2+1)*E<=g*(v1*B+v2)*E:=by
  refine Zq _ ?_;have e1:g*(v1*B+v2)=g*v1*B+g*v2:=by rw[Zc,Zn]
  have e2:top*B=g*v1*B+o*B:=by rw[<-hg,Zh]
  omega
 rw[Zn]at h3;rw[Zh _ 1,ZT]at h3;have:=h.hW;have:=h.Tl;omega
theorem P8.near(hq:W<(qt+1)*V)(hg:g*v1+o=top)(hgB:g<B)(ht:g*v2<=o*B+u2):g<=qt+1:=by
 apply ZG;intro hn;have h1:(qt+1+1)*V<=g*V:=Zq _ (by omega);rw[Zh (qt+1),ZT]at h1;have h2:g*V=g*(v1*B+v2)*E+g*Vl:=by rw[h.hV,Zc,Zn]
 have h3:g*(v1*B+v2)*E<=(top*B+u2)*E:=by
  refine Zq _ ?_;have e1:g*(v1*B+v2)=g*v1*B+g*v2:=by rw[Zc,Zn]
  have e2:top*B=g*v1*B+o*B:=by rw[<-hg,Zh]
  omega
 have h4:g*Vl<=B*E:=aa6 (by omega) (by have:=h.SN;omega)
 have h5:B*E<=V:=by
  have:1*B*E<=(v1*B+v2)*E:=Zq _ (by have:=Zq B h.E5;omega);rw[ZT]at this;have:=h.hV;omega
 have:=h.hW;omega
end
def xZ{B:Nat}:∀{L n:Nat},n<B^L->gq B (L+1) n=gq B L n++[0]
 |0,n,h=>by
  have:n=0:=by simp at h;exact h
  subst this;simp[gq]
 |L+1,n,h=>by
  have h2:n/B<B^L:=by
   rcases abm B with rfl|hB
   ·simp at h
   ·rw[abb hB];rwa[Zl]at h
  rw[gq,xZ h2];rfl
def Ph{B:Nat}{l:List Nat}(h:ok B l):gq B l.length (val B l)=l:=(qd h rfl).symm
end Go.Am.N
namespace Go.Am
variable {o:Op}{v:AV}{rds:List Key}{vc:Prop}{T':TypeId}{xs:Array Operand}{ts:Array TypeId}{c:Ctx}{s:aE}{κ f:Nat}{p:Key×LB}{parts:Array (Nat×Operand)}
def dR.op{o o':Oper}{K:AV->List (Key×LB)->List Key->Nat->Prop}(ho:o'.op=o.op)(h:dR c o s κ K):dR c o' s κ K:=by
 unfold dR at*;rw[ho];exact h
abbrev AQ:=List Key×List Key
def aV(c:Ctx):List zU->aE->Nat->List AQ->(aE->Nat->List AQ->Prop)->Prop
 |[],s,κ,acc,K=>K s κ acc
 |p::ps,s,κ,acc,K=>match p.g with
  |none=>dR c ⟨none,p.op,0, "",#[],none⟩ s κ λx us rds κ'=>aV c ps (aE.put ⟨s.fr,aQ s.lv us⟩ p.dst x) κ' ((us.map (·.1),rds)::acc) K
  |some (t,w)=>ot t λt=>l8 (o5 (s.fr t) w)
   (λ_=>dR c ⟨none,p.op,0, "",#[],none⟩ s κ λx us rds κ'=>aV c ps (aE.put ⟨s.fr,aQ s.lv us⟩ p.dst x) κ' ((us.map (·.1),rds)::acc) K)
   (λ_=>aV c ps (s.put p.dst .undef) κ (([],[])::acc) K)
def BT(e:Fx):AQ:=(e.us.map (·.1),e.rds)
theorem lA{c:Ctx}{ops:Array Oper}{K:aE->Nat->List AQ->Prop}:∀{os:List Oper}{s:aE}{κ:Nat}{acc:List Fx},aV c (lq (ops.toList.map (·.dst)) os) s κ (acc.map BT) K->gh c ops os s κ acc (λs κ acc=>K s κ (acc.map BT))
 |[],s,κ,acc,h=>h
 | ⟨d,o,ty,pos,af,none⟩::os,s,κ,acc,h=>by
  simp only[lq,E4,aV]at h;simp only[gh,eB];refine dR.mono (dR.op (o:=⟨none,o,0, "",#[],none⟩) rfl h) λx us rds κ' h2=>?_;exact lA (acc:=⟨x,us,rds⟩::acc) h2
 | ⟨d,o,ty,pos,af,some (j,w)⟩::os,s,κ,acc,h=>by
  simp only[lq,E4,aV,Lg,ot,l8]at h;simp only[gh,eB];split at h
  ·rename_i t ht
   rw[ht];simp only;unfold o5 at h;split at h
   ·rename_i hw
    split at hw
    ·rename_i b he
     rw[he];simp only[ai]at hw;simp only[hw];refine dR.mono (dR.op (o:=⟨none,o,0, "",#[],none⟩) rfl h) λx us rds κ' h2=>?_;exact lA (acc:=⟨x,us,rds⟩::acc) h2
    ·cases hw
    ·cases hw
   ·rename_i hw
    split at hw
    ·rename_i b he
     rw[he];simp only[ai]at hw;simp only[hw];exact lA (acc:=⟨.undef,[],[]⟩::acc) h
    ·rename_i he
     rw[he];exact lA (acc:=⟨.undef,[],[]⟩::acc) h
    ·cases hw
   ·exact h.elim
  ·exact h.elim
def Q2(e e':AQ):Bool:=e.1.all (λp=>!(e'.1.any λq=>q==p)&&!e'.2.contains p)&&e'.1.all (λp=>!e.2.contains p)
def At(ops:Array Oper)(es:List AQ):Bool:=
 let ms:=iA ops.toList []
 (List.range es.length).all λj=>match es[j]? with
  |some e'=>(e'.1.isEmpty&&e'.2.isEmpty) ||(List.range j).all λi=>match es[i]? with
   |some e=>(e.1.isEmpty&&e.2.isEmpty) ||(ms.getD j 0).testBit i ||Q2 e e'
   |none=>true
  |none=>true
def JK(e e':Fx):vp e e'=Q2 (BT e) (BT e'):=by
 simp only[vp,Q2,BT,List.all_map,List.any_map];rfl
def Oy(ops:Array Oper)(es:List Fx):C8 ops es=At ops (es.map BT):=by
 have h1:∀e:Fx,idle e=((BT e).1.isEmpty&&(BT e).2.isEmpty):=λe=>by simp[idle,BT]
 simp only[C8,At,Zt,aba];congr 1;funext j
 cases hj:es[j]? with
 |none=>rfl
 |some e'=>
  simp only[Zs,h1];congr 2;funext i
  cases hi:es[i]? with
  |none=>rfl
  |some e=>simp only[Zs,JK]
def aaq{r:Option Nat}{Q:Ex->aE->Nat->Prop}{id:Nat}{ops:Array Oper}(hm:c.P.follows .mixedOrders=true)(hst:gz ops=true)(hd:cK c.n ops.toList=true)
 (h:aV c (eR ops) s κ [] λs' κ' acc=>At ops acc.reverse=true/\Q .normal s' κ'):AW c r (.region id ops true) s κ Q:=by
 refine AW.draw hm hst hd ?_;have h1:=lA (acc:=[]) h;refine gh.mono h1 λs' κ' acc h2=>⟨?_,h2.2⟩
 rw[Oy,List.map_reverse];exact h2.1
def bX(c:Ctx)(ps:List zU)(d:Option Tmp)(s:aE)(κ:Nat)(acc:List AQ)(K:aE->Nat->List AQ->Prop)(r:Option cw):Prop:=
 iK r κ λx us rds κ'=>aV c ps (aE.put ⟨s.fr,aQ s.lv us⟩ d x) κ' ((us.map (·.1),rds)::acc) K
def BH(c:Ctx)(o:Op)(ps:List zU)(d:Option Tmp)(s:aE)(κ:Nat)(acc:List AQ)(K:aE->Nat->List AQ->Prop)(w:Option Bool):Prop:=
 match w with
 |some true=>aV c (⟨d,o,none⟩::ps) s κ acc K
 |some false=>aV c ps (s.put d .undef) κ (([],[])::acc) K
 |none=>False
def uE(c:Ctx)(f:FuncId)(xs:List AV)(ps:List zU)(d:Option Tmp)(s:aE)(κ:Nat)(acc:List AQ)(K:aE->Nat->List AQ->Prop):Prop:=
 ag c f xs s.lv λx us rds κ'=>aV c ps (aE.put ⟨s.fr,aQ s.lv us⟩ d x) κ' ((us.map (·.1),rds)::acc) K
def Gm(c:Ctx)(tgt:Option (FuncId×List AV×List AV))(xs:List AV)(ps:List zU)(d:Option Tmp)(s:aE)(κ:Nat)(acc:List AQ)(K:aE->Nat->List AQ->Prop):Prop:=
 match tgt with
 |some (f,fs,cs)=>aJ c.P f=true/\uE c f (fs++xs++cs) ps d s κ acc K
 |none=>False
section
variable {c:Ctx}{ps:List zU}{d:Option Tmp}{s:aE}{κ:Nat}{acc:List AQ}{K:aE->Nat->List AQ->Prop}{T:TypeId}{x y z:Operand}
def aO:aV c (⟨d,o,none⟩::ps) s κ acc K =
 dR c ⟨none,o,0, "",#[],none⟩ s κ λx us rds κ'=>aV c ps (aE.put ⟨s.fr,aQ s.lv us⟩ d x) κ' ((us.map (·.1),rds)::acc) K:=rfl
@[simp]def R9:aV c [] s κ acc K=K s κ acc:=propext ⟨id,id⟩
@[simp]def QS:bX c ps d s κ acc K (some (v,[],rds,vc))=(vc/\aV c ps (s.put d v) κ (([],rds)::acc) K):=propext ⟨id,id⟩
@[simp]def R6:bX c ps d s κ acc K (some (v,[p],rds,vc))=(vc/\aV c ps (aE.put ⟨s.fr,az s.lv p.1 p.2⟩ d v) (κ+1) (([p.1],rds)::acc) K):=propext ⟨id,id⟩
@[simp]def QY{q:Key×LB}:bX c ps d s κ acc K (some (v,[p,q],rds,vc))=(vc/\aV c ps (aE.put ⟨s.fr,az (az s.lv p.1 p.2) q.1 q.2⟩ d v) (κ+1) (([p.1,q.1],rds)::acc) K):=propext ⟨id,id⟩
@[simp]def Sh:BH c o ps d s κ acc K (some true)=aV c (⟨d,o,none⟩::ps) s κ acc K:=propext ⟨id,id⟩
@[simp]def SR:BH c o ps d s κ acc K (some false)=aV c ps (s.put d .undef) κ (([],[])::acc) K:=propext ⟨id,id⟩
@[simp]def Qt{f:FuncId}{xs:List AV}:Gm c (some (f,[],[])) xs ps d s κ acc K=(aJ c.P f=true/\uE c f xs ps d s κ acc K):=by simp[Gm]
@[simp]def Uv{t:Tmp}{w:Bool}:aV c (⟨d,o,some (some t,w)⟩::ps) s κ acc K=BH c o ps d s κ acc K (o5 (s.fr t) w):=propext ⟨id,id⟩
@[simp]def U6:aV c (⟨d,.move x,none⟩::ps) s κ acc K=aV c ps (s.put d (s.val c.G x)) κ (([],[])::acc) K:=by rw[aO,DF];rfl
@[simp]def Sk:aV c (⟨d,.assign x,none⟩::ps) s κ acc K=aV c ps (s.put d (s.val c.G x)) κ (([],[])::acc) K:=by rw[aO,yX];rfl
@[simp]def VM:aV c (⟨d,.pick x y z,none⟩::ps) s κ acc K=bX c ps d s κ acc K (Bb (s.val c.G x) (s.val c.G y) (s.val c.G z)):=by rw[aO,DN];rfl
@[simp]def T3:aV c (⟨d,.alloc T,none⟩::ps) s κ acc K=bX c ps d s κ acc K (zq c.P T s.lv κ):=by rw[aO,AE];rfl
@[simp]def S4:aV c (⟨d,.field T x f,none⟩::ps) s κ acc K=bX c ps d s κ acc K (yT c.P T f (s.val c.G x)):=by rw[aO,AT];rfl
@[simp]def Og:aV c (⟨d,.indexAddr T x y,none⟩::ps) s κ acc K=bX c ps d s κ acc K (aq c.P T s.lv (s.val c.G x) (s.val c.G y)):=by rw[aO,qH];rfl
@[simp]def Uw:aV c (⟨d,.index T x y,none⟩::ps) s κ acc K=bX c ps d s κ acc K (fQ c.P T (s.val c.G x) (s.val c.G y)):=by rw[aO,AN];rfl
@[simp]def Xm{i:Nat}:aV c (⟨d,.extract x i,none⟩::ps) s κ acc K=bX c ps d s κ acc K (uF i (s.val c.G x)):=by rw[aO,Ig];rfl
@[simp]def XU:aV c (⟨d,.makeInterface T x,none⟩::ps) s κ acc K=bX c ps d s κ acc K (NG c.P T (s.val c.G x)):=by rw[aO,HH];rfl
@[simp]def Xb:aV c (⟨d,.makeSlice T x y,none⟩::ps) s κ acc K=bX c ps d s κ acc K (gp c.P T s.lv κ (s.val c.G x) (s.val c.G y)):=by rw[aO,HY];rfl
@[simp]def R3:aV c (⟨d,.slice T x none none none,none⟩::ps) s κ acc K=bX c ps d s κ acc K (bn c.P T s.lv (s.val c.G x) none none):=by rw[aO,vT];rfl
@[simp]def Q3:aV c (⟨d,.slice T x (some y) none none,none⟩::ps) s κ acc K=bX c ps d s κ acc K (bn c.P T s.lv (s.val c.G x) (some (s.val c.G y)) none):=by rw[aO,vF];rfl
@[simp]def R7:aV c (⟨d,.slice T x none (some y) none,none⟩::ps) s κ acc K=bX c ps d s κ acc K (bn c.P T s.lv (s.val c.G x) none (some (s.val c.G y))):=by rw[aO,vO];rfl
@[simp]def Q8:aV c (⟨d,.slice T x (some y) (some z) none,none⟩::ps) s κ acc K=bX c ps d s κ acc K (bn c.P T s.lv (s.val c.G x) (some (s.val c.G y)) (some (s.val c.G z))):=by rw[aO,vJ];rfl
@[simp]def WS:aV c (⟨d,.call { callee:=.builtin .len,args:=#[x],argTypes:=#[T] },none⟩::ps) s κ acc K=bX c ps d s κ acc K (eJ c.P T s.lv (s.val c.G x)):=by rw[aO,HB];rfl
@[simp]def Sd:aV c (⟨d,.call { callee:=.builtin .append,args:=#[x,y],argTypes:=#[T,T'] },none⟩::ps) s κ acc K=bX c ps d s κ acc K (if T=T' then eu c.P T s.lv κ (s.val c.G x) (s.val c.G y)else none):=by rw[aO,zM];rfl
@[simp]def VQ:aV c (⟨d,.call { callee:=.value x,args:=xs,argTypes:=ts },none⟩::ps) s κ acc K=Gm c (cx (s.val c.G x)) (xs.toList.map (s.val c.G)) ps d s κ acc K:=by
 rw[aO,Fc];rfl
@[simp]def XM{op:BinOp}:aV c (⟨d,.binOp op T x y T',none⟩::ps) s κ acc K=bX c ps d s κ acc K (aI c.P op T (s.val c.G x) (s.val c.G y)):=by rw[aO,ID];rfl
@[simp]def Yv{op:UnOp}:aV c (⟨d,.unOp op T x,none⟩::ps) s κ acc K=bX c ps d s κ acc K (Jf op (s.val c.G x)):=by rw[aO,M4];rfl
@[simp]def VP:aV c (⟨d,.load T x,none⟩::ps) s κ acc K=bX c ps d s κ acc K (bk c.P T s.lv (s.val c.G x)):=by rw[aO,Da];rfl
@[simp]def Td:aV c (⟨d,.store T x y,none⟩::ps) s κ acc K=bX c ps d s κ acc K (dn c.P T s.lv (s.val c.G x) (s.val c.G y)):=by rw[aO,A5];rfl
@[simp]def V5:aV c (⟨d,.box T x,none⟩::ps) s κ acc K=bX c ps d s κ acc K (LM T (s.val c.G x) s.lv κ):=by rw[aO,HD];rfl
@[simp]def NJ:aV c (⟨d,.nilCheck x,none⟩::ps) s κ acc K=bX c ps d s κ acc K (gH s.lv (s.val c.G x)):=by rw[aO,HL];rfl
@[simp]def Vo{S:TypeId}:aV c (⟨d,.convert S T x,none⟩::ps) s κ acc K=bX c ps d s κ acc K (Ew c.P S T (s.val c.G x)):=by rw[aO,Dm];rfl
@[simp]def OR:aV c (⟨d,.fieldAddr T x f,none⟩::ps) s κ acc K=bX c ps d s κ acc K (bW c.P T f s.lv (s.val c.G x)):=by rw[aO,qJ];rfl
@[simp]def TX:aV c (⟨d,.build T parts,none⟩::ps) s κ acc K=bX c ps d s κ acc K (ia c.P T (parts.toList.map (·.1)) (parts.toList.map λp=>s.val c.G p.2)):=by
 rw[aO];simp only[dR,bK,Op.operands,bX,iK,ia,ZC,Zt,abc];rfl
@[simp]def NR{n:Nat}:aV c (⟨d,.buildSlice T n parts,none⟩::ps) s κ acc K=bX c ps d s κ acc K (ak c.P T n (parts.toList.map (·.1)) s.lv κ (parts.toList.map λp=>s.val c.G p.2)):=by
 rw[aO];simp only[dR,bK,Op.operands,bX,iK,ZC];rfl
@[simp]def Vm:aV c (⟨d,.call { callee:=.builtin .copy,args:=#[x,y],argTypes:=#[T,T'] },none⟩::ps) s κ acc K=bX c ps d s κ acc K (iz c.P T s.lv (s.val c.G x) (s.val c.G y)):=by
 rw[aO];simp only[dR,bK,iY,Op.operands,Call.operands,bX,iK];rfl
@[simp]def Xn:aV c (⟨d,.call { callee:=.builtin .max,args:=xs,argTypes:=ts },none⟩::ps) s κ acc K=bX c ps d s κ acc K (match dL (xs.toList.map (s.val c.G))with
 |some (k,n::l)=>some (.c (.d (.int k (l.foldl (λa b=>if b > a then b else a) n))),[],[],True)
 |_=>none):=by
 rw[aO];simp only[dR,bK,iY,Op.operands,Call.operands,bX,iK,abE];rfl
@[simp]def WR:aV c (⟨d,.call { callee:=.builtin .min,args:=xs,argTypes:=ts },none⟩::ps) s κ acc K=bX c ps d s κ acc K (match dL (xs.toList.map (s.val c.G))with
 |some (k,n::l)=>some (.c (.d (.int k (l.foldl (λa b=>if b<a then b else a) n))),[],[],True)
 |_=>none):=by
 rw[aO];simp only[dR,bK,iY,Op.operands,Call.operands,bX,iK,abE];rfl
end
end Go.Am
namespace Go.Am
open N
variable {x y i:AV}{o:Oper}{c:Ctx}{s s' s0:aE}{us:List (Key×LB)}{ops:Array Oper}{a1 a2 a3 a4:Prop}{op:Op}{lv:Tb LB}{κ nx n id N:Nat}{r:cW}{rds l lg:List Key}{vals:List AV}{cl:Call}{fr:Tb AV}{os:List Oper}{fo:Operand}{e:Ex}{a:RunT}{P:Program}{F:Nat->Prop}{β:Key->Nat}{w:World}{lv':Key->LB}{call:eG}{b:LB}{ok:(Key->LB)->Prop}{f g:Rec}{Q:Exit->Act->World->Prop}{d:Option Nat}{k:Key}
theorem uE.qg{f:FuncId}{ps:List zU}{d:Option Tmp}{acc:List AQ}{K:aE->Nat->List AQ->Prop}(κ':Nat)(kh:Key)(κb:Key){T:TypeId}{k:IntKind}{l:List Nat}(n:Nat)(hn:n<=l.length)(hk:s.lv κb=.cells true false T (wK k l))(hl:l.length<=9223372036854775807)
 (hc:aa c.P c.G f [nK k (some (l.take n))] x) (hx:x.pure=true) (hh:s.lv kh=.hole) (hkh:kh≠κb) (hK:aV c ps (aE.put ⟨s.fr,az s.lv κb (.cells true true T (wK k l))⟩ d x) κ' (([κb],[kh])::acc) K):uE c f [.c (.aD κb 0 n 1)] ps d s κ acc K:=by
 refine ag.WJ κ' kh κb T (wK k l) [kh] hc hx hk hh hkh rfl (λi p q=>?_) (λa ha j hj=>?_) (by simp) hK
 ·have hi:i=0:=by simp at p;omega
  subst hi;right;have h1:(wK k l).take n=wK k (l.take n):=by simp[wK,abD]
  have hln:(l.take n).length=n:=by rw[Ze];omega
  simp only[ZJ,eP,cR,aC,LU,Z0,Zw,Y9,h1,x8,Zs];rw[if_pos ⟨hn,by omega⟩];have h2:=pP ((l.take n).map λ(x:Nat)=>DV.int k (x:Int));rw[Zt,hln]at h2;simp only[Zs,h2];simp[nK,dK];rfl
 ·simp only[ZV]at ha;subst ha;simp only[hO,fK,rP,aC]at hj;rcases hj with rfl|hj
  ·exact .inr rfl
  ·simp only[aaK]at hj;obtain⟨y,hy,hj⟩:=hj;simp only[wK,ZX]at hy;obtain⟨z,_,rfl⟩:=hy
   cases hj
section
variable {c:Ctx}{r:Option Nat}{s s':aE}{κ κ':Nat}{Q:Ex->aE->Nat->Prop}{id:Nat}{ops:Array Oper}{y:Code}
def AW.d0(hm:c.P.follows .mixedOrders=true)(h:AW c r y s' κ' Q)(hst:gz ops=true:=by kernel_rfl)(hd:cK c.n ops.toList=true:=by exact rfl)(hr:∀K:aE->Nat->Prop,K s' κ'->aV c (eR ops) s κ [] λs' κ' acc=>At ops acc.reverse=true/\K s' κ':=by intro K k;simp;(repeat refine ah ?_);refine⟨by kernel_rfl,?_⟩;(repeat refine ah ?_);exact k):AW c r (.seq (.region id ops true) y) s κ Q:=
 aaa λK hK=>aaq hm hst hd (hr K (hK _ _ h))
def AW.e0(hm:c.P.follows .mixedOrders=true)(h:AW c r y s' κ' Q)(hst:gz ops=true:=by kernel_rfl)(hd:cK c.n ops.toList=true:=by exact rfl)(hq:ops.toList.all (λo=>gT o.op)=true:=by exact rfl)(hr:∀K:aE->Nat->Prop,K s' κ'->aL c (eR ops) s κ K:=by intro K k;simp;(repeat refine ah ?_);exact k):AW c r (.seq (.region id ops true) y) s κ Q:=
 aaa λK hK=>aav hm hst hd hq (hr K (hK _ _ h))
def AW.d1(hm:c.P.follows .mixedOrders=true)(e1:a1)(h:AW c r y s' κ' Q)(hst:gz ops=true:=by kernel_rfl)(hd:cK c.n ops.toList=true:=by exact rfl)(hr:a1->∀K:aE->Nat->Prop,K s' κ'->aV c (eR ops) s κ [] λs' κ' acc=>At ops acc.reverse=true/\K s' κ':=by intro e1 K k;simp[e1];(repeat refine ah ?_);refine⟨by kernel_rfl,?_⟩;(repeat refine ah ?_);exact k):AW c r (.seq (.region id ops true) y) s κ Q:=
 aaa λK hK=>aaq hm hst hd (hr e1 K (hK _ _ h))
def AW.e1{a1:Prop}(hm:c.P.follows .mixedOrders=true)(e1:a1)(h:AW c r y s' κ' Q)(hst:gz ops=true:=by kernel_rfl)(hd:cK c.n ops.toList=true:=by exact rfl)(hq:ops.toList.all (λo=>gT o.op)=true:=by exact rfl)(hr:a1->∀K:aE->Nat->Prop,K s' κ'->aL c (eR ops) s κ K:=by intro e1 K k;simp[e1];(repeat refine ah ?_);exact k):AW c r (.seq (.region id ops true) y) s κ Q:=
 aaa λK hK=>aav hm hst hd hq (hr e1 K (hK _ _ h))
def AW.d2(hm:c.P.follows .mixedOrders=true)(e1:a1)(e2:a2)(h:AW c r y s' κ' Q)(hst:gz ops=true:=by kernel_rfl)(hd:cK c.n ops.toList=true:=by exact rfl)(hr:a1->a2->∀K:aE->Nat->Prop,K s' κ'->aV c (eR ops) s κ [] λs' κ' acc=>At ops acc.reverse=true/\K s' κ':=by intro e1 e2 K k;simp[e1,e2];(repeat refine ah ?_);refine⟨by kernel_rfl,?_⟩;(repeat refine ah ?_);exact k):AW c r (.seq (.region id ops true) y) s κ Q:=
 aaa λK hK=>aaq hm hst hd (hr e1 e2 K (hK _ _ h))
def AW.YW(hm:c.P.follows .mixedOrders=true)(e1:a1)(e2:a2)(h:Q .normal s' κ')(hst:gz ops=true:=by kernel_rfl)(hd:cK c.n ops.toList=true:=by exact rfl)(hr:a1->a2->∀K:aE->Nat->Prop,K s' κ'->aV c (eR ops) s κ [] λs' κ' acc=>At ops acc.reverse=true/\K s' κ':=by intro e1 e2 K k;simp[e1,e2];(repeat refine ah ?_);refine⟨by kernel_rfl,?_⟩;(repeat refine ah ?_);exact k):AW c r (.region id ops true) s κ Q:=
 aaq hm hst hd (hr e1 e2 (λs κ=>Q .normal s κ) h)
def AW.e2{a1:Prop}{a2:Prop}(hm:c.P.follows .mixedOrders=true)(e1:a1)(e2:a2)(h:AW c r y s' κ' Q)(hst:gz ops=true:=by kernel_rfl)(hd:cK c.n ops.toList=true:=by exact rfl)(hq:ops.toList.all (λo=>gT o.op)=true:=by exact rfl)(hr:a1->a2->∀K:aE->Nat->Prop,K s' κ'->aL c (eR ops) s κ K:=by intro e1 e2 K k;simp[e1,e2];(repeat refine ah ?_);exact k):AW c r (.seq (.region id ops true) y) s κ Q:=
 aaa λK hK=>aav hm hst hd hq (hr e1 e2 K (hK _ _ h))
def AW.d3(hm:c.P.follows .mixedOrders=true)(e1:a1)(e2:a2)(e3:a3)(h:AW c r y s' κ' Q)(hst:gz ops=true:=by kernel_rfl)(hd:cK c.n ops.toList=true:=by exact rfl)(hr:a1->a2->a3->∀K:aE->Nat->Prop,K s' κ'->aV c (eR ops) s κ [] λs' κ' acc=>At ops acc.reverse=true/\K s' κ':=by intro e1 e2 e3 K k;simp[e1,e2,e3];(repeat refine ah ?_);refine⟨by kernel_rfl,?_⟩;(repeat refine ah ?_);exact k):AW c r (.seq (.region id ops true) y) s κ Q:=
 aaa λK hK=>aaq hm hst hd (hr e1 e2 e3 K (hK _ _ h))
def AW.e3{a1:Prop}{a2:Prop}{a3:Prop}(hm:c.P.follows .mixedOrders=true)(e1:a1)(e2:a2)(e3:a3)(h:AW c r y s' κ' Q)(hst:gz ops=true:=by kernel_rfl)(hd:cK c.n ops.toList=true:=by exact rfl)(hq:ops.toList.all (λo=>gT o.op)=true:=by exact rfl)(hr:a1->a2->a3->∀K:aE->Nat->Prop,K s' κ'->aL c (eR ops) s κ K:=by intro e1 e2 e3 K k;simp[e1,e2,e3];(repeat refine ah ?_);exact k):AW c r (.seq (.region id ops true) y) s κ Q:=
 aaa λK hK=>aav hm hst hd hq (hr e1 e2 e3 K (hK _ _ h))
def AW.d4(hm:c.P.follows .mixedOrders=true)(e1:a1)(e2:a2)(e3:a3)(e4:a4)(h:AW c r y s' κ' Q)(hst:gz ops=true:=by kernel_rfl)(hd:cK c.n ops.toList=true:=by exact rfl)(hr:a1->a2->a3->a4->∀K:aE->Nat->Prop,K s' κ'->aV c (eR ops) s κ [] λs' κ' acc=>At ops acc.reverse=true/\K s' κ':=by intro e1 e2 e3 e4 K k;simp[e1,e2,e3,e4];(repeat refine ah ?_);refine⟨by kernel_rfl,?_⟩;(repeat refine ah ?_);exact k):AW c r (.seq (.region id ops true) y) s κ Q:=
 aaa λK hK=>aaq hm hst hd (hr e1 e2 e3 e4 K (hK _ _ h))
def AW.e4{a1:Prop}{a2:Prop}{a3:Prop}{a4:Prop}(hm:c.P.follows .mixedOrders=true)(e1:a1)(e2:a2)(e3:a3)(e4:a4)(h:AW c r y s' κ' Q)(hst:gz ops=true:=by kernel_rfl)(hd:cK c.n ops.toList=true:=by exact rfl)(hq:ops.toList.all (λo=>gT o.op)=true:=by exact rfl)(hr:a1->a2->a3->a4->∀K:aE->Nat->Prop,K s' κ'->aL c (eR ops) s κ K:=by intro e1 e2 e3 e4 K k;simp[e1,e2,e3,e4];(repeat refine ah ?_);exact k):AW c r (.seq (.region id ops true) y) s κ Q:=
 aaa λK hK=>aav hm hst hd hq (hr e1 e2 e3 e4 K (hK _ _ h))
def AW.d5{a5:Prop}(hm:c.P.follows .mixedOrders=true)(e1:a1)(e2:a2)(e3:a3)(e4:a4)(e5:a5)(h:AW c r y s' κ' Q)(hst:gz ops=true:=by kernel_rfl)(hd:cK c.n ops.toList=true:=by exact rfl)(hr:a1->a2->a3->a4->a5->∀K:aE->Nat->Prop,K s' κ'->aV c (eR ops) s κ [] λs' κ' acc=>At ops acc.reverse=true/\K s' κ':=by intro e1 e2 e3 e4 e5 K k;simp[e1,e2,e3,e4,e5];(repeat refine ah ?_);refine⟨by kernel_rfl,?_⟩;(repeat refine ah ?_);exact k):AW c r (.seq (.region id ops true) y) s κ Q:=
 aaa λK hK=>aaq hm hst hd (hr e1 e2 e3 e4 e5 K (hK _ _ h))
def AW.UC(hm:c.P.follows .mixedOrders=true)(e1:a1)(e2:a2)(h:Q .normal s' κ')(hst:gz ops=true:=by kernel_rfl)(hd:cK c.n ops.toList=true:=by exact rfl)(hq:ops.toList.all (λo=>gT o.op)=true:=by exact rfl)(hr:a1->a2->∀K:aE->Nat->Prop,K s' κ'->aL c (eR ops) s κ K:=by intro e1 e2 K k;simp[e1,e2];(repeat refine ah ?_);exact k):AW c r (.region id ops true) s κ Q:=
 aav hm hst hd hq (hr e1 e2 (λs κ=>Q .normal s κ) h)
def AW.Yk(hm:c.P.follows .mixedOrders=true)(e1:a1)(e2:a2)(e3:a3)(h:Q .normal s' κ')(hst:gz ops=true:=by kernel_rfl)(hd:cK c.n ops.toList=true:=by exact rfl)(hq:ops.toList.all (λo=>gT o.op)=true:=by exact rfl)(hr:a1->a2->a3->∀K:aE->Nat->Prop,K s' κ'->aL c (eR ops) s κ K:=by intro e1 e2 e3 K k;simp[e1,e2,e3];(repeat refine ah ?_);exact k):AW c r (.region id ops true) s κ Q:=
 aav hm hst hd hq (hr e1 e2 e3 (λs κ=>Q .normal s κ) h)
end
section
variable {c:Ctx}{r:Option Nat}{ops:Array Oper}
def tO(c:Ctx)(r:Option Nat)(ops:Array Oper)(o:Oper)(s s1:aE):Prop:=
 ∀F β a w K Q,aF c F β s a w->(∀F' β' a' w',aF c F' β' s1 a' w'->K a' w') ->
  if Region.wanted o (yielded ops a.tmps)then o.wpIn (qb r) 0 c.P a w K Q else K (a.put o.dst undef) w
def tO.RJ{e:Fx}(h:cX c r ops o s e):tO c r ops o s (e.app o.dst s):=
 λF β a w K Q hs hK=>h s (λ_ _=>rfl) ⟨λ_ _=>rfl,λ_ _=>rfl⟩ F β a w K Q hs hK
def uZ(c:Ctx)(r:Option Nat)(ops:Array Oper):List Oper->aE->aE->Prop
 |[],s,s'=>s'=s
 |o::os,s,s'=>∃s1,tO c r ops o s s1/\uZ c r ops os s1 s'
def uZ.opers:∀{os:List Oper}{s s':aE}(n:Nat),ops.toList.drop n=os->uZ c r ops os s s' ->
 (∀F' β' a' w',aF c F' β' s' a' w'->Q .normal a' w')->∀F β a w,aF c F β s a w->wpOpsIn (qb r) 0 c.P ops Q (List.range' n os.length) a w
 |[],s,s',n,_,h,hQ=>λF β a w hs=>by
  have h:s'=s:=h;subst h;exact hQ F β a w hs
 |o::os,s,s',n,h1,h,hQ=>λF β a w hs=>by
  obtain⟨s1,h2,h3⟩:=h
  have ho:ops[n]?=some o:=by
   have:(ops.toList.drop n)[0]?=some o:=by rw[h1];rfl
   rw[aaL]at this;simpa using this
  have ih:=uZ.opers (os:=os) (n+1) (by rw[<-aa4,h1];rfl) h3 hQ;have key:=h2 F β a w (wpOpsIn (qb r) 0 c.P ops Q (List.range' (n+1) os.length)) Q hs (λF' β' a' w' h'=>ih F' β' a' w' h');simp only[ZA,abX];rw[wpOpsIn_cons];unfold wpOpIn;rw[ho];simp only;split at key
  ·rename_i hw;rw[if_pos hw];exact key
  ·rename_i hw;rw[if_neg hw];exact⟨λ_ _=>trivial,key⟩
def AW.N4{Q:Ex->aE->Nat->Prop}(h:uZ c r ops ops.toList s s')(hQ:Q .normal s' κ):AW c r (.region id ops false) s κ Q:=by
 intro F β a w hs;refine wpIn_region ?_;have:=uZ.opers (Q:=Post c Q) 0 rfl h (λF' β' a' w' h'=>⟨.normal,s',κ,F',β',hQ,h',rfl⟩) F β a w hs;rw[List.range_eq_range'];simpa using this
end
def cJ.enter{G:List (List DV)}{lv:Key->LB}(hS:cJ (cQ P G w F β lv) F β lv w){fr:Nat->AV}{a:Act}(h1:a.tmps.size=n)(h2:a.defers=[])
 (h3:∀t,(Vw.mk F β lv w).av (a.tmps.getD t undef) (fr t)):aF { cQ P G w F β lv with n:=n } F β ⟨fr,lv⟩ a w:=
 cJ.with (c:={ cQ P G w F β lv with n:=n }) hS h1 h2 h3
section
variable {P:Program}{T:TypeId}{lv:Key->LB}{κ:Key}{v:AV}{us:List (Key×LB)}{rds:List Key}
def F4{op:BinOp}(h:uY P op T x y=some (v,us,rds,true)):∃vc,aI P op T x y=some (v,us,rds,vc)/\vc:=by
 unfold uY at h;unfold aI
 (repeat' split at h)<;>simp_all<;>exact⟨True,trivial⟩
def D5(h:qX P T lv x=some (v,us,rds,true)):∃vc,bk P T lv x=some (v,us,rds,vc)/\vc:=by
 unfold qX at h;unfold bk
 (repeat' split at h)<;>simp_all<;>exact⟨True,trivial⟩
def Cu(h:pF P T lv x y=some (v,us,rds,true)):∃vc,dn P T lv x y=some (v,us,rds,vc)/\vc:=by
 unfold pF at h;unfold dn
 (repeat' split at h)<;>simp_all<;>exact⟨True,trivial⟩
def GM(h:uW lv x=some (v,us,rds,true)):∃vc,gH lv x=some (v,us,rds,vc)/\vc:=by
 unfold uW at h;unfold gH
 (repeat' split at h)<;>simp_all<;>exact⟨True,trivial⟩
def u9{f:Nat}(h:kn P T f lv x=some (v,us,rds,true)):∃vc,bW P T f lv x=some (v,us,rds,vc)/\vc:=by
 unfold kn at h;unfold bW
 (repeat' split at h)<;>simp_all<;>exact⟨True,trivial⟩
def uQ(h:ke P T lv x i=some (v,us,rds,true)):∃vc,aq P T lv x i=some (v,us,rds,vc)/\vc:=by
 unfold ke at h;unfold aq
 (repeat' split at h)<;>first|(cases h;done)|(simp only[ai,fy,decide_eq_true_eq]at h;obtain⟨rfl,rfl,rfl,h⟩:=h;refine⟨_,?_,h⟩;simp only[*,if_true])
def BZ(h:oe P T x i=some (v,us,rds,true)):∃vc,fQ P T x i=some (v,us,rds,vc)/\vc:=by
 unfold oe at h;unfold fQ
 (repeat' split at h)<;>first|(cases h;done)|(simp only[ai,fy,decide_eq_true_eq]at h;obtain⟨rfl,rfl,rfl,h⟩:=h;refine⟨_,?_,h⟩;simp only[*,if_true])
def sn{lo hi:Option AV}(h:oL P T lv x lo hi=some (v,us,rds,true)):∃vc,bn P T lv x lo hi=some (v,us,rds,vc)/\vc:=by
 unfold oL at h;unfold bn
 (repeat' split at h)<;>simp_all<;>exact⟨True,trivial⟩
def Fg(h:qU P T lv κ x y=some (v,us,rds,true)):∃vc,gp P T lv κ x y=some (v,us,rds,vc)/\vc:=by
 unfold qU at h;unfold gp
 (repeat' split at h)<;>simp_all<;>exact⟨True,trivial⟩
def Aj(h:ny P T lv κ x y=some (v,us,rds,true)):∃vc,eu P T lv κ x y=some (v,us,rds,vc)/\vc:=by
 unfold ny at h;unfold eu
 (repeat' split at h)<;>simp_all<;>exact⟨True,trivial⟩
def tv{ixs:List Nat}(h:jA P T n ixs lv κ vals=some (v,us,rds,true)):∃vc,ak P T n ixs lv κ vals=some (v,us,rds,vc)/\vc:=by
 unfold jA at h;unfold ak
 (repeat' split at h)<;>simp_all<;>exact⟨True,trivial⟩
def EZ(h:qL P T lv y x=some (v,us,rds,true)):∃vc,iz P T lv y x=some (v,us,rds,vc)/\vc:=by
 unfold qL at h;unfold iz
 (repeat' split at h)<;>first|(cases h;done)|(simp only[ai,fy,decide_eq_true_eq]at h;obtain⟨rfl,rfl,rfl,h⟩:=h;refine⟨_,?_,h⟩;simp only[*,and_self,if_true])
def Mg(h:Ch P cl vals lv κ=some (v,us,rds,true)):∃vc,iY P cl vals lv κ=some (v,us,rds,vc)/\vc:=by
 unfold Ch at h;unfold iY;split at h
 ·split at h
  ·split at h
   ·simp only[ai,fy]at h;obtain⟨rfl,rfl,rfl,h⟩:=h
    rename_i n hn
    refine⟨_,?_,FG h⟩;simp only[*]
   ·cases h
  ·cases h
 ·split at h
  ·split at h
   ·rename_i hT;subst hT;obtain⟨vc,h1,h2⟩:=Aj h;refine⟨vc,?_,h2⟩;simp only[*,if_true]
   ·cases h
  ·cases h
 ·split at h
  ·obtain⟨vc,h1,h2⟩:=EZ h;refine⟨vc,?_,h2⟩;simp only[*]
  ·cases h
 ·split at h
  ·simp_all;exact⟨True,trivial⟩
  ·cases h
 ·split at h
  ·simp_all;exact⟨True,trivial⟩
  ·cases h
 ·cases h
def Wm(P:Program):Prop:=∀op vals lv κ x us rds,tq P op vals lv κ=some (x,us,rds,true)->∃vc,bK P op vals lv κ=some (x,us,rds,vc)/\vc
theorem TL(P:Program):Wm P:=by
 intro op vals lv κ v us rds h;unfold tq at h;unfold bK;split at h
 all_goals first
  |exact tv h
  |exact D5 h
  |exact Cu h
  |exact GM h
  |exact F4 h
  |exact Fg h
  |exact u9 h
  |exact uQ h
  |exact BZ h
  |exact Mg h
  |(cases h;done)
  |(split at h;(obtain⟨vc,h1,h2⟩:=sn h;refine⟨vc,?_,h2⟩;simp only[*];done);(cases h;done))
  |((repeat' split at h)<;>first|(cases h;done)|(simp only[ai,fy,and_true]at h;obtain⟨rfl,rfl,rfl⟩:=h;refine⟨True,?_,trivial⟩;simp only[*,if_true];done))
  |skip
 split at h
 ·rename_i l hh hb
  obtain⟨vc,h1,h2⟩:=sn h;refine⟨vc,?_,h2⟩;show(match wL _ _ _ with|some (l,h)=>bn P _ lv _ l h|none=>none)=_;rw[hb];exact h1
 ·cases h
end
def Good(r:cW):Prop:=∀n o,r≠.bad n o
def Good.ne(h:Good r){o:List Op}:cW.bad n o≠r:=λe=>h n o e.symm
def SS(fr:Tb AV)(lv:Tb LB):aE:=⟨kH fr,aZ lv⟩
def kD(lv lv':Tb LB)(l:List Key):Prop:=∀k,k∉l->aZ lv' k=aZ lv k
def kD.refl(lv:Tb LB):kD lv lv []:=λ_ _=>rfl
def kD.trans{a b c:Tb LB}{m:List Key}(h1:kD a b l)(h2:kD b c m):kD a c (m++l):=by
 intro k hk;rw[Z5]at hk;rw[h2 k (λh=>hk (.inl h)),h1 k (λh=>hk (.inr h))]
def LP(us:List (Key×LB)):(uj us).map (·.1)=us.map (·.1):=by simp[uj]
def E6:∀{lv lv':Key->LB},(∀k,lv' k=lv k\/lv' k=(lv k).un)->∀k,aQ lv' (uj us) k=aQ lv us k\/aQ lv' (uj us) k=(aQ lv us k).un:=by
 induction us with
 |nil=>intro lv lv' h k;exact h k
 |cons p us ih=>
  intro lv lv' h k;show aQ (az lv' p.1 p.2.un) (uj us) k=aQ (az lv p.1 p.2) us k\/_=(aQ (az lv p.1 p.2) us k).un;refine ih (λj=>?_) k
  by_cases e:j=p.1
  ·subst e;rw[aC,aC];exact .inr rfl
  ·rw[aH _ _ e,aH _ _ e];exact h j
def LB.Q6(x:LB):x.sub x.un:=by cases x<;>simp[LB.un,LB.sub]
def LB.PA(x:LB):x.un.live=x.live:=by
 cases x with
 |cells o fz T cs=>cases fz<;>rfl
 |_=>rfl
def Ez{own:Bool}{b:Nat}(h:eN c own b):eN c false b:=rX h (by simp)
def aF.forget{fr:Nat->AV}{lv:Key->LB}{a:Act}(h:aF c F β ⟨fr,lv⟩ a w)(hl:∀k,lv' k=lv k\/lv' k=(lv k).un):aF c F β ⟨fr,lv'⟩ a w:=by
 have hsub:∀k,(lv k).sub (lv' k):=by
  intro k;rcases hl k with e|e<;>rw[e]
  ·exact LB.bE _
  ·exact LB.Q6 _
 have hlive:∀k,(lv' k).live=(lv k).live:=by
  intro k;rcases hl k with e|e<;>rw[e]
  exact LB.PA _
 refine h.step (λ_ h=>h) (λ_ _=>rfl) hsub (λ_ _ _=>rfl) (λ_=>aY _) ?_ ?_ (λb h=>.inl h) (aY _) (λ_ _ _=>rfl)
 ·intro k hK;have hb:=h.bQ k;unfold Vw.bQ at hb⊢;rcases hl k with e|e
  ·simp only[e]
   cases ek:lv k with
   |cells own fz T cs=>
    simp only[ek]at hb;obtain⟨arr,b1,b2,b3,b4,b5⟩:=hb;exact⟨arr,b1,b2,λi p q=>hK.cv (b3 i p q),b4,b5⟩
   |map own es=>
    simp only[ek]at hb;obtain⟨x,y,b1,b2,b3,b4,b5⟩:=hb;exact⟨x,y,b1,b2,λi p q=>⟨Rd.mono (gG hK.F hK.mem) (b3 i p q).1,hK.n8 (b3 i p q).2⟩,b4,b5⟩
   |_=>trivial
  ·simp only[e]
   cases ek:lv k with
   |cells own fz T cs=>
    simp only[ek]at hb;obtain⟨arr,b1,b2,b3,b4,b5⟩:=hb;exact⟨arr,b1,b2,λi p q=>hK.cv (b3 i p q),b4,Ez b5⟩
   |map own es=>
    simp only[ek]at hb;obtain⟨x,y,b1,b2,b3,b4,b5⟩:=hb;exact⟨x,y,b1,b2,λi p q=>⟨Rd.mono (gG hK.F hK.mem) (b3 i p q).1,hK.n8 (b3 i p q).2⟩,b4,Ez b5⟩
   |_=>trivial
 ·intro k k' h1 h2 he;rw[hlive]at h1 h2;exact h.inj _ _ h1 h2 he
def cg.un(h:cg c o s (aE.put ⟨s.fr,aQ s.lv us⟩ d x)):cg c o s (aE.put ⟨s.fr,aQ s.lv (uj us)⟩ d x):=by
 intro F β a w K Q hs hK;refine h F β a w K Q hs λF' β' a' w' h'=>hK F' β' a' w' ?_;have hl:∀k,aQ s.lv (uj us) k=aQ s.lv us k\/aQ s.lv (uj us) k=(aQ s.lv us k).un:=E6 (λ_=>.inl rfl)
 cases d with
 |none=>exact aF.forget h' hl
 |some d=>exact aF.forget h' hl
def zc:∀{us:List (Key×LB)}{lv:Tb LB}{lg:List Key}{k:Tb LB->List Key->cW}{r:cW},Be us lv lg k=r->Good r->cP (aZ lv) ->
 ∃lv' l,k lv' (l++lg)=r/\aZ lv'=aQ (aZ lv) (uj us)/\cP (aZ lv')/\kD lv lv' l
 |[],lv,lg,k,r,h,hg,ho=>⟨lv,[],h,rfl,ho,kD.refl _⟩
 |p::us,lv,lg,k,r,h,hg,ho=>by
  have h1:(dF p.1 λq=>uM p.2 λb=>eU b.okB (.bad 3 []) (Tb.Cw .hole b (pathOf q) lv λlv=>Be us lv (q::lg) k))=r:=h;rw[iR,Bq]at h1;obtain⟨hb,h1⟩:=dy h1 hg.ne;rw[Tb.lT]at h1;have hset:=E7 lv p.1 p.2.un
  have ho1:cP (aZ (lv.set .hole p.2.un (pathOf p.1))):=by
   intro j;rw[hset]
   by_cases e:j=p.1
   ·subst e;rw[aC];exact hb
   ·rw[aH _ _ e];exact ho j
  obtain⟨lv',l,e1,e2,e3,e4⟩:=zc h1 hg ho1;refine⟨lv',l++[p.1],by simpa using e1,?_,e3,?_⟩
  ·rw[e2,hset];rfl
  ·intro j hj;simp only[Z5,ZV,not_or]at hj;rw[e4 j hj.1,hset,aH _ _ hj.2]
def Lq(d:Option Nat)(x:AV)(fr:Nat->AV):Nat->AV:=match d with|some d=>az fr d x|none=>fr
def sG(d:Option Nat)(x:AV)(fr:Nat->AV)(lv:Key->LB):aE.put ⟨fr,lv⟩ d x=⟨Lq d x fr,lv⟩:=by cases d<;>rfl
def kX{k:Tb AV->cW}(h:eO d x fr k=r):∃fr',k fr'=r/\kH fr'=Lq d x (kH fr):=by
 cases d with
 |none=>exact⟨fr,h,rfl⟩
 |some d=>
  have h1:(eC x λx=>Tb.Cw .undef x (pathOf d) fr k)=r:=h;rw[jv,Tb.lT]at h1;exact⟨_,h1,Fe fr d x⟩
def FD:∀{us:List (Key×LB)}{nx:Nat}{k:Nat->cW}{r:cW},NQ nx us k=r->∃nx',k nx'=r
 |[],nx,k,r,h=>⟨nx,h⟩
 |p::us,nx,k,r,h=>by
  have h1:eU (Nat.beq p.1 nx) (NQ nx us k) (dF nx λn=>k (Nat.succ n))=r:=h
  cases hb:Nat.beq p.1 nx with
  |false=>rw[hb]at h1;exact FD (us:=us) h1
  | true=>rw [hb] at h1;have h2:(dF nx fun n=>k (Nat.succ n))=r:=h1
          rw[iR]at h2;exact⟨_,h2⟩
def uf(G:List (List DV))(fr:Tb AV)(lv:Key->LB)(x:Operand):zZ G fr x=(aE.mk (kH fr) lv).val G x:=by cases x<;>rfl
def pe(G:List (List DV))(fr:Tb AV)(lv:Key->LB):∀(l:List Operand),hJ G fr l=l.map ((aE.mk (kH fr) lv).val G)
 |[]=>rfl
 |x::l=>by
  show zZ G fr x::hJ G fr l=_;rw[uf G fr lv,pe G fr lv l];rfl
def lu(P:Program)(op:Op)(vals:List AV)(lv:Key->LB)(κ:Nat)(x:AV)(us:List (Key×LB))(rds:List Key):Prop:=
 (∃vc,bK P op vals lv κ=some (x,us,rds,vc)/\vc)\/iu P op vals lv κ=some (x,us,rds)
def KW{k:AV->List (Key×LB)->List Key->cW}(h:Qr P op vals lv nx k=r)(hg:Good r):
 ∃x us rds,k x us rds=r/\lu P op vals (aZ lv) nx x us rds:=by
 unfold Qr at h
 cases e:tq P op vals (aZ lv) nx with
 |none=>
  rw[e]at h;obtain⟨q,h1,h2⟩:=dW (x:=iu P op vals (aZ lv) nx) h hg.ne;exact⟨_,_,_,h2,.inr h1⟩
 |some q=>
  rw[e]at h;obtain⟨x,us,rds,b⟩:=q;have h':eU b (mK (iu P op vals (aZ lv) nx) (.bad 1 [op]) λr=>k r.1 r.2.1 r.2.2) (k x us rds)=r:=h
  cases b with
  |true=>
   obtain⟨vc,h1,h2⟩:=TL P _ _ _ _ _ _ _ e;exact⟨x,us,rds,h',.inl ⟨vc,h1,h2⟩⟩
  |false=>
   obtain⟨q,h1,h2⟩:=dW (x:=iu P op vals (aZ lv) nx) h' hg.ne;exact⟨_,_,_,h2,.inr h1⟩
def lu.R8(hd:∀d,o.dst=some d->d<c.n)
 (h:lu c.P o.op (o.op.operands.toList.map (s.val c.G)) s.lv κ x us rds):cg c o s (aE.put ⟨s.fr,aQ s.lv us⟩ o.dst x):=by
 rcases h with⟨vc,h1,h2⟩|h1
 ·exact AI hd rfl rfl h1 h2
 ·exact A6 hd rfl rfl h1
def lu.local{lv:Key->LB}(h:lu P op vals lv κ x us rds)(ha:Agree lv lv' us rds):lu P op vals lv' κ x us rds:=by
 rcases h with⟨vc,h1,h2⟩|h1
 ·exact .inl ⟨vc,oz h1 ha,h2⟩
 ·exact .inr (vL h1 ha)
def ld(P:Program)(G:List (List DV))(call:eG):Prop:=∀f us lv nx lg kr kp r,call f us lv nx lg kr kp=r->Good r->cP (aZ lv) ->
 (∃x lv' nx' l,kr x lv' nx' (l++lg)=r/\b9 P G f us (aZ lv) (.ret x (aZ lv'))/\cP (aZ lv')/\kD lv lv' l) \/
 (∃d lv' nx' l,kp d lv' nx' (l++lg)=r/\b9 P G f us (aZ lv) (.tr d (aZ lv'))/\cP (aZ lv')/\kD lv lv' l)
section
variable {P:Program}{G:List (List DV)}
def Dd(hc:ld P G call){kr:Gg}{kp:P5}
 (h:vS P G call op cl fo fr lv nx lg kr kp=r) (hg:Good r) (ho:cP (aZ lv)) :
 ∃f fs cs,cx ((SS fr lv).val G fo)=some (f,fs,cs)/\aJ P f=true /\
  ((∃x lv' nx' l,kr x lv' nx' (l++lg)=r/\b9 P G f (fs++cl.args.toList.map ((SS fr lv).val G)++cs) (aZ lv) (.ret x (aZ lv'))/\cP (aZ lv')/\kD lv lv' l) \/
  (∃d lv' nx' l,kp d lv' nx' (l++lg)=r/\b9 P G f (fs++cl.args.toList.map ((SS fr lv).val G)++cs) (aZ lv) (.tr d (aZ lv'))/\cP (aZ lv')/\kD lv lv' l)):=by
 unfold vS at h;obtain⟨⟨f,fs,cs⟩,h1,h2⟩:=dW h hg.ne;obtain⟨h3,h4⟩:=dy h2 hg.ne;rw[uf G fr (aZ lv)]at h1;rw[pe G fr (aZ lv)]at h4;exact⟨f,fs,cs,h1,h3,hc _ _ _ _ _ _ _ _ h4 hg ho⟩
def Br(h:uO op=.call cl fo):op=.call cl/\cl.callee=.value fo:=by
 unfold uO at h;split at h
 ·cases h
 ·rename_i cl'
  split at h
  ·rename_i fo' hf;cases h;exact⟨rfl,hf⟩
  ·cases h
 ·cases h
def M7{x:Operand}(h:uO op=.tr x):op=.panic x:=by
 unfold uO at h;split at h
 ·cases h;rfl
 ·split at h<;>cases h
 ·cases h
def PN{k:DV->cW}{b:cW}(h:Ll x k b=r)(hb:b≠r):∃t d,x=.c (.d (.iface t d))/\k (.iface t d)=r:=by
 unfold Ll at h;split at h
 ·exact⟨_,_,rfl,h⟩
 ·exact absurd h hb
theorem FA{x:Operand}{t:TypeId}{d:DV}(ho:o.op=.panic x)(hx:s.val c.G x=.c (.d (.iface t d))):Sa c o s (.iface t d) s:=by
 intro F β a w K Q hs hK;have hv:=hx▸hs.val x;obtain⟨hv,_⟩:=hv;obtain⟨u,hu⟩:∃u,a.eval x=u:=⟨_,rfl⟩
 rw[hu]at hv;have hv':=hv
 cases hv with
 |iface _ u' _ hr=>
  have hrun:(execOp a.eval o).run c.P w=.halt (.panic (.iface t u')) w:=by
   simp[execOp,ho,hu,Instr.panic,goPanic,Sem.run]
  unfold Oper.wp;rw[hrun,Oper.upon_panic];exact hK F β _ a w hs hv'
def fW(P:Program)(G:List (List DV))(ops:Array Oper)(os:List Oper)(s s':aE)(e:Ex):Prop:=
 ∀(c:Ctx) (n:Nat) (Q:Exit->Act->World->Prop),c.P=P->c.G=G->cK c.n os=true->ops.toList.drop n=os ->
  (∀F' β' a' w' ex,aF c F' β' s' a' w'->Dr e ex F' w'->Q ex a' w')->∀F β a w,aF c F β s a w->wpOpsIn (qb none) 0 c.P ops Q (List.range' n os.length) a w
def yF(h:ops.toList.drop n=o::os):ops[n]?=some o/\ops.toList.drop (n+1)=os:=by
 constructor
 ·have:(ops.toList.drop n)[0]?=some o:=by rw[h];rfl
  rw[aaL]at this;simpa using this
 ·rw[<-aa4,h];rfl
def kK(h:cK n (o::os)=true):(∀d,o.dst=some d->d<n)/\cK n os=true:=by
 simp only[cK,abi,cn]at h;refine⟨λd hd=>?_,h.2⟩;have:=h.1;rw[hd]at this;simpa using this
def fW.cons{s1:aE}(hw:eB ops o.guard s.fr=some true)(hdf:∀cl,o.op≠.defer cl)
 (h:∀c:Ctx,c.P=P->c.G=G->(∀d,o.dst=some d->d<c.n)->cg c o s s1) (hk:fW P G ops os s1 s' e):fW P G ops (o::os) s s' e:=by
 intro c n Q hP hG hd hdr hQ F β a w hs;obtain⟨ho,hdr'⟩:=yF hdr;obtain⟨hd1,hd2⟩:=kK hd;have ih:=hk c (n+1) Q hP hG hd2 hdr' hQ;simp only[ZA,abX];rw[wpOpsIn_cons];unfold wpOpIn;rw[ho];simp only;rw[gy hs hw];simp only[if_true];exact tU hdf (h c hP hG hd1 F β a w _ Q hs λF' β' a' w' h'=>ih F' β' a' w' h')
def fW.skip(hw:eB ops o.guard s.fr=some false)
 (hk:fW P G ops os (s.put o.dst .undef) s' e):fW P G ops (o::os) s s' e:=by
 intro c n Q hP hG hd hdr hQ F β a w hs;obtain⟨ho,hdr'⟩:=yF hdr;obtain⟨hd1,hd2⟩:=kK hd;have ih:=hk c (n+1) Q hP hG hd2 hdr' hQ;simp only[ZA,abX];rw[wpOpsIn_cons];unfold wpOpIn;rw[ho];simp only;rw[gy hs hw];simp only[Zj,if_false];exact⟨λ_ _=>trivial,ih F β _ _ (hs.BJ hd1 (nI _))⟩
def fW.tr{d:DV}(hw:eB ops o.guard s.fr=some true)(hdf:∀cl,o.op≠.defer cl)
 (h:∀c:Ctx,c.P=P->c.G=G->Sa c o s d s'):fW P G ops (o::os) s s' (.panic d):=by
 intro c n Q hP hG hd hdr hQ F β a w hs;obtain⟨ho,hdr'⟩:=yF hdr;simp only[ZA,abX];rw[wpOpsIn_cons];unfold wpOpIn;rw[ho];simp only;rw[gy hs hw];simp only[if_true];exact tU hdf (h c hP hG F β a w _ Q hs λF' β' v a' w' h' hv=>hQ F' β' a' w' _ h' ⟨v,rfl,hv⟩)
def xL{call:eG}(hc:ld P G call){ops:Array Oper}:∀{os:List Oper}{fr:Tb AV}{lv:Tb LB}{nx:Nat}{lg:List Key}{k:SP}{r:cW},
 ya P G call ops os fr lv nx lg k=r->Good r->cP (aZ lv) ->
 ∃e fr' lv' nx' l,k e fr' lv' nx' (l++lg)=r/\cP (aZ lv')/\kD lv lv' l/\fW P G ops os (SS fr lv) (SS fr' lv') e
 |[],fr,lv,nx,lg,k,r,h,hg,ho=>by
  refine⟨.normal,fr,lv,nx,[],h,ho,kD.refl _,?_⟩;intro c n Q hP hG hd hdr hQ F β a w hs;exact hQ F β a w .normal hs rfl
 |o::os,fr,lv,nx,lg,k,r,h,hg,ho=>by
  have h0:(mK (eB ops o.guard (kH fr)) (.bad 6 [o.op]) λb=>
   eU b (eO o.dst .undef fr λfr=>ya P G call ops os fr lv nx lg k)
    (SH.rec (motive:=λ_=>cW)
     (λx=>Ll (zZ G fr x) (λd=>k (.panic d) fr lv nx lg) (.bad 7 [o.op]))
     (λcl fo=>vS P G call o.op cl fo fr lv nx lg (λx lv nx lg=>eO o.dst x fr λfr=>ya P G call ops os fr lv nx lg k) (λd lv nx lg=>k (.panic d) fr lv nx lg))
     (Qr P o.op (hJ G fr o.op.operands.toList) lv nx λx us _=>NQ nx us λnx'=>eO o.dst x fr λfr=>Be us lv lg λlv lg=>ya P G call ops os fr lv nx' lg k)
     (uO o.op)))=r:=h
  obtain⟨b,hw,h1⟩:=dW h0 hg.ne
  cases b with
  |false=>
   have h1':eO o.dst .undef fr (λfr=>ya P G call ops os fr lv nx lg k)=r:=h1;obtain⟨fr1,h2,e1⟩:=kX h1';obtain⟨e,fr',lv',nx',l,q1,q2,q3,q4⟩:=xL hc h2 hg ho;refine⟨e,fr',lv',nx',l,q1,q2,q3,fW.skip hw ?_⟩
   have:(SS fr lv).put o.dst .undef=SS fr1 lv:=by
    show aE.put ⟨kH fr,aZ lv⟩ o.dst .undef=_;rw[sG,<-e1];rfl
   rw[this];exact q4
  |true=>
   cases ek:uO o.op with
   |tr x=>
    rw[ek]at h1;have h2:Ll (zZ G fr x) (λd=>k (.panic d) fr lv nx lg) (.bad 7 [o.op])=r:=h1;obtain⟨t,d,e1,e2⟩:=PN h2 hg.ne;have hop:=M7 ek;refine⟨.panic (.iface t d),fr,lv,nx,[],e2,ho,kD.refl _,fW.tr hw (λcl h=>by rw[hop]at h;cases h) λc hP hG=>?_⟩;refine FA hop ?_;rw[hG];rwa[uf G fr (aZ lv)]at e1
   |call cl fo=>
    rw[ek]at h1;obtain⟨hop,hcal⟩:=Br ek;obtain⟨f,fs,cs,c1,c2,c3⟩:=Dd hc h1 hg ho;have hdf:∀cl',o.op≠.defer cl':=λcl' h=>by rw[hop]at h;cases h
    rcases c3 with⟨x,lv1,nx1,l1,d1,d2,d3,d4⟩|⟨d,lv1,nx1,l1,d1,d2,d3,d4⟩
    ·obtain⟨fr1,h2,e1⟩:=kX d1;obtain⟨e,fr',lv',nx',l,q1,q2,q3,q4⟩:=xL hc h2 hg d3;refine⟨e,fr',lv',nx',l++l1,by rw[Zo];exact q1,q2,d4.trans q3,fW.cons hw hdf (s1:=SS fr1 lv1) (λc hP hG hd=>?_) q4⟩;have hsim:=b9.R8 (c:=c) (s:=SS fr lv) (o:=o) (cl:=cl) (fo:=fo) (fv:=(SS fr lv).val c.G fo) (f:=f) (fs:=fs) (cs:=cs) (x:=x) (lv':=aZ lv1) hd hop hcal rfl (by rw[hG];exact c1) (by rw[hP];exact c2) ho (by rw[hP,hG];exact d2);have:aE.put ⟨(SS fr lv).fr,aZ lv1⟩ o.dst x=SS fr1 lv1:=by rw[sG];show aE.mk (Lq o.dst x (kH fr)) (aZ lv1)=_;rw[<-e1];rfl
     rwa[this]at hsim
    ·refine⟨.panic d,fr,lv1,nx1,l1,d1,d3,d4,fW.tr hw hdf λc hP hG=>?_⟩;exact b9.XT (c:=c) (s:=SS fr lv) (o:=o) (cl:=cl) (fo:=fo) (fv:=(SS fr lv).val c.G fo) (f:=f) (fs:=fs) (cs:=cs) (d:=d) (lv':=aZ lv1) hop hcal rfl (by rw[hG];exact c1) (by rw[hP];exact c2) ho (by rw[hP,hG];exact d2)
   |plain=>
    rw[ek]at h1;have h1':Qr P o.op (hJ G fr o.op.operands.toList) lv nx (λx us _=>NQ nx us λnx'=>eO o.dst x fr λfr=>Be us lv lg λlv lg=>ya P G call ops os fr lv nx' lg k)=r:=h1;obtain⟨x,us,rds,h2,hdo⟩:=KW h1' hg;have h2':NQ nx us (λnx'=>eO o.dst x fr λfr=>Be us lv lg λlv lg=>ya P G call ops os fr lv nx' lg k)=r:=h2;obtain⟨nx1,h3⟩:=FD h2';have h3':eO o.dst x fr (λfr=>Be us lv lg λlv lg=>ya P G call ops os fr lv nx1 lg k)=r:=h3;obtain⟨fr1,h4,e1⟩:=kX h3';have h4':Be us lv lg (λlv lg=>ya P G call ops os fr1 lv nx1 lg k)=r:=h4;obtain⟨lv1,l1,h5,e2,e3,e4⟩:=zc h4' hg ho;obtain⟨e,fr',lv',nx',l,q1,q2,q3,q4⟩:=xL hc h5 hg e3
    have hdf:∀cl',o.op≠.defer cl':=λcl' h=>by
     rw[h]at hdo;rcases hdo with⟨vc,g1,_⟩|g1
     ·simp[bK]at g1
     ·simp[iu]at g1
    refine⟨e,fr',lv',nx',l++l1,by rw[Zo];exact q1,q2,e4.trans q3,fW.cons hw hdf (s1:=SS fr1 lv1) (λc hP hG hd=>?_) q4⟩
    have hsim:=(lu.R8 (c:=c) (o:=o) (s:=SS fr lv) (κ:=nx) (x:=x) (us:=us) (rds:=rds) hd (by
     rw[hP,hG];rw[pe G fr (aZ lv)]at hdo;exact hdo)).un
    have:aE.put ⟨(SS fr lv).fr,aQ (SS fr lv).lv (uj us)⟩ o.dst x=SS fr1 lv1:=by
     rw[sG];show aE.mk (Lq o.dst x (kH fr)) (aQ (aZ lv) (uj us))=_;rw[<-e1,<-e2];rfl
    rwa[this]at hsim
end
def jt(P:Program)(f:Rec):Fw:=⟨⟨f.x,uj f.us,f.rds⟩,aZ f.lv,f.all,Ey P f⟩
def QG(h:b.okB=true):b.un=b:=by
 cases b with
 |cells own fz T cs=>simp only[LB.okB,cn,Zy]at h;simp only[LB.un,h.1]
 |map own es=>simp only[LB.okB,Zy]at h;simp only[LB.un,h]
 |_=>rfl
def pX:uj us=[]↔us=[]:=by cases us<;>simp[uj]
def EX{lv:Key->LB}(h:Agree lv lv' (uj us) rds):Agree lv lv' us rds:=
 ⟨h.1,λp hp=>h.2 (p.1,p.2.un) (ace (f:=λp:Key×LB=>(p.1,p.2.un)) hp)⟩
def TC{lv':Tb LB}(h:kD lv lv' l)(ho:cP (aZ lv')):aQ (aZ lv) (uj (l.map λq=>(q,aZ lv' q)))=aZ lv':=by
 have key:∀(m:List Key) (f:Key->LB),(∀k,k∉m->f k=aZ lv' k)->aQ f (uj (m.map λq=>(q,aZ lv' q)))=aZ lv':=by
  intro m
  induction m with
  |nil=>intro f hf;funext k;exact hf k (by simp)
  |cons q m ih=>
   intro f hf;show aQ (az f q (aZ lv' q).un) _=_;refine ih _ λk hk=>?_
   by_cases e:k=q
   ·subst e;rw[aC,QG (ho k)]
   ·rw[aH _ _ e];exact hf k (by simp[e,hk])
 exact key l _ λk hk=>(h k hk).symm
section
variable {P:Program}{G:List (List DV)}
def mY.skip(hd:∀d,o.dst=some d->d<c.n)(hw:eB ops o.guard s0.fr=some false):mY c none ops o s0 ⟨.undef,[],[]⟩ ok:=by
 intro s h1 _ F β a w K Q h hK;rw[gy h ((mN h1).trans hw)];simp only[Zj,if_false];exact hK F β _ _ (h.BJ hd (nI _))
def mY.o4{e:Fx}(hw:eB ops o.guard s0.fr=some true)(hdf:∀cl,o.op≠.defer cl)
 (hs:∀s:aE,(∀x∈o.op.operands.toList,s.val c.G x=s0.val c.G x)->ok s.lv->cg c o s (e.app o.dst s)):mY c none ops o s0 e ok:=by
 intro s h1 h2 F β a w K Q h hK;rw[gy h ((mN h1).trans hw)];simp only[if_true];exact tU hdf (hs s (yb h1) h2 F β a w K Q h hK)
def D6(h:Ey P f k b=true):∃vc,bK P f.op f.vals (az (aZ f.lv) k b) f.nx=some (f.x,[],[k],vc)/\vc:=by
 unfold Ey at h;split at h
 ·rename_i x k' he
  simp only[cn]at h;have e1:=AV.beq_eq h.1;have e2:=Zr h.2;subst e1;subst e2;exact TL P _ _ _ _ _ _ _ he
 ·cases h
def M6{P:Program}{lv:Key->LB}(h:lu P op vals lv κ x us rds):∀cl,op≠.defer cl:=by
 intro cl e;rw[e]at h;rcases h with⟨vc,g1,_⟩|g1
 ·simp[bK]at g1
 ·simp[iu]at g1
def mY.plain(hP:c.P=P)(hG:c.G=G)(hd:∀d,o.dst=some d->d<c.n)(hw:eB ops o.guard (kH fr)=some true)
 (h:lu P o.op (hJ G fr o.op.operands.toList) (aZ lv) nx x us rds) :
 mY c none ops o (SS fr lv) (jt P ⟨x,us,rds,false,lv,o.op,hJ G fr o.op.operands.toList,nx⟩).e (jt P ⟨x,us,rds,false,lv,o.op,hJ G fr o.op.operands.toList,nx⟩).ok:=by
 refine mY.o4 hw (M6 h) λs hv hok=>?_
 have hvals:hJ G fr o.op.operands.toList=o.op.operands.toList.map (s.val c.G):=by
  rw[pe G fr (aZ lv),hG];exact ZP λy hy=>by rw[<-hG];exact(hv y hy).symm
 have fin:∀us',us'=us->lu P o.op (o.op.operands.toList.map (s.val c.G)) s.lv nx x us' rds->cg c o s (Fx.app ⟨x,uj us,rds⟩ o.dst s):=by
  intro us' e h';subst e;exact(lu.R8 hd (by rw[hP];exact h')).un
 rw[hvals]at h;rcases hok with⟨h1,_⟩|⟨_,h1|⟨h1,k,h2,h3⟩⟩
 ·cases h1
 ·exact fin us rfl (h.local (EX h1))
 ·have hu:us=[]:=pX.1 h1;obtain⟨vc,g1,g2⟩:=D6 h3;simp only at g1;have h2':rds=[k]:=h2;rw[hvals]at g1;have g3:=oz (lv':=s.lv) g1 ⟨λj hj=>by rw[List.mem_singleton.1 hj,aC],λp hp=>by cases hp⟩;exact fin [] hu.symm (.inl ⟨vc,by rw[h2'];exact g3,g2⟩)
def mY.ON(hP:c.P=P)(hG:c.G=G){lv':Tb LB}{f:FuncId}{fs cs:List AV}(hd:∀d,o.dst=some d->d<c.n)(hw:eB ops o.guard (kH fr)=some true)
 (hop:o.op=.call cl) (hcal:cl.callee=.value fo) (ht:cx ((SS fr lv).val G fo)=some (f,fs,cs)) (hf:aJ P f=true) (ho:cP (aZ lv)) (ho':cP (aZ lv')) (hl:kD lv lv' l)
 (hc:b9 P G f (fs++cl.args.toList.map ((SS fr lv).val G)++cs) (aZ lv) (.ret x (aZ lv'))) :
 mY c none ops o (SS fr lv) (jt P ⟨x,l.map λq=>(q,aZ lv' q),[],true,lv,o.op,[],nx⟩).e (jt P ⟨x,l.map λq=>(q,aZ lv' q),[],true,lv,o.op,[],nx⟩).ok:=by
 refine mY.o4 hw (λcl' h=>by rw[hop]at h;cases h) λs hv hok=>?_;rcases hok with⟨_,h1⟩|⟨h1,_⟩
 ·have h1':s.lv=aZ lv:=h1;have hfo:fo∈o.op.operands.toList:=by rw[hop];simp[Op.operands,Call.operands,hcal]
  have hargs:cl.args.toList.map (s.val c.G)=cl.args.toList.map ((SS fr lv).val c.G):=ZP λy hy=>hv y (by rw[hop];simp only[Op.operands,Call.operands,hcal];simp at hy⊢;exact .inr hy)
  have hsim:=b9.R8 (c:=c) (s:=s) (o:=o) (cl:=cl) (fo:=fo) (fv:=s.val c.G fo) (f:=f) (fs:=fs) (cs:=cs) (x:=x) (lv':=aZ lv') hd hop hcal rfl (by rw[hv fo hfo,hG];exact ht) (by rw[hP];exact hf) (by rw[h1'];exact ho) (by rw[hP,hargs,hG,h1'];exact hc)
  have:Fx.app ⟨x,uj (l.map λq=>(q,aZ lv' q)),[]⟩ o.dst s=aE.put ⟨s.fr,aZ lv'⟩ o.dst x:=by
   unfold Fx.app;simp only;rw[h1',TC hl ho']
  show cg c o s (Fx.app ⟨x,uj (l.map λq=>(q,aZ lv' q)),[]⟩ o.dst s);rw[this];exact hsim
 ·cases h1
def mY.Mb(h:cX c none ops o s0 ⟨x,us,rds⟩)(hok:∀lv,ok lv->Agree s0.lv lv us rds):
 mY c none ops o s0 ⟨x,uj us,rds⟩ ok:=by
 intro s h1 h2 F β a w K Q hs hK;refine h s h1 (hok _ h2) F β a w K Q hs λF' β' a' w' h'=>hK F' β' a' w' ?_;have hl:∀k,aQ s.lv (uj us) k=aQ s.lv us k\/aQ s.lv (uj us) k=(aQ s.lv us k).un:=E6 (λ_=>.inl rfl);unfold Fx.app at h'⊢;simp only at h' ⊢
 cases hd:o.dst with
 |none=>rw[hd]at h';exact aF.forget h' hl
 |some d=>rw[hd]at h';exact aF.forget h' hl
def Dn:∀{σ:List LB}{i:Nat}{lv:Tb LB}{k:Tb LB->cW}{r:cW},NC σ i lv k=r ->
 ∃lv',k lv'=r/\∀j:Nat,aZ lv' j=if i<=j/\j<i+σ.length then(σ.getD (j-i) .hole).un else aZ lv j
 |[],i,lv,k,r,h=>⟨lv,h,λj=>by rw[if_neg (by simp only[aaG];omega)]⟩
 |b::σ,i,lv,k,r,h=>by
  have h1:(uM b λx=>Tb.Cw .hole x (pathOf i) lv λlv=>NC σ (Nat.succ i) lv k)=r:=h;rw[Bq,Tb.lT]at h1;obtain⟨lv',e1,e2⟩:=Dn h1;refine⟨lv',e1,λj=>?_⟩;rw[e2 j,E7]
  by_cases hj:j=i
  ·subst hj;rw[if_neg (by omega),if_pos (by simp),aC];simp
  ·rw[aH _ _ hj]
   by_cases h2:Nat.succ i<=j/\j<Nat.succ i+σ.length
   ·rw[if_pos h2,if_pos (by simp;omega)];congr 1;have:j-i=(j-Nat.succ i)+1:=by omega
    rw[this];rfl
   ·rw[if_neg h2,if_neg (by simp;omega)]
def Good.done:Good (.done x lv nx lg):=λ_ _ h=>by cases h
def Az(h:b.pass=true):b.un=b/\b.okB=true:=by
 cases b with
 |cells own fz T cs=>
  simp only[LB.pass,cn,Zy]at h;simp[LB.un,LB.okB,h.1,h.2]
 |map own es=>simp only[LB.pass,Zy]at h;simp[LB.un,LB.okB,h]
 |dead=>cases h
 |_=>simp[LB.un,LB.okB]
def IT(hc:ld P G call){k:AV->List (Key×LB)->List Key->Nat->cW}
 (h:vv P G call op cl fo fr lv nx k=r) (hg:Good r) :
 ∃f fs cs x us rds nx',cx ((SS fr lv).val G fo)=some (f,fs,cs)/\aJ P f=true/\k x us rds nx'=r /\
  ∀c:Ctx,c.P=P->c.G=G->bV c f (fs++cl.args.toList.map ((SS fr lv).val G)++cs) (aZ lv) x us rds:=by
 unfold vv at h;obtain⟨⟨f,fs,cs⟩,h1,h2⟩:=dW h hg.ne;obtain⟨h3,h4⟩:=dy h2 hg.ne;obtain⟨q,h5,h6⟩:=dW h4 hg.ne;obtain⟨l0,h7,h8⟩:=Dn h6;simp only at h7 h5;rw[uf G fr (aZ lv)]at h1;rw[pe G fr (aZ lv)]at h5 h7
 cases hin:call f q.us l0 1000 [] .done .tr with
 |bad n o=>rw[hin]at h7;exact absurd h7 hg.ne
 |tr d lv' nx' lg'=>rw[hin]at h7;exact absurd h7 hg.ne
 |done x lv' n' lg=>
  rw[hin]at h7;have h9:KK lv nx (fs++cl.args.toList.map ((SS fr lv).val G)++cs) q x lv' n' lg k=r:=h7;unfold KK at h9;obtain⟨h10,h11⟩:=dy h9 hg.ne;rw[cn,cn]at h10;obtain⟨⟨g1,g2⟩,g3⟩:=h10
  have hpass:∀b∈q.σ,b.pass=true:=by
   unfold yH at g2;simp only[cn,Zb]at g2;exact g2.1.1.1.1.1.2
  have hlen:q.σ.length<=1000:=by
   unfold yH at g2;simp only[cn]at g2;exact Zu g2.2
  have hl0:aZ l0=bq q.σ []:=by
   refine funext λ(j:Nat)=>?_;rw[h8 j];unfold bq
   by_cases hj:j<1000
   ·rw[if_pos hj]
    by_cases hj2:j<q.σ.length
    ·rw[if_pos ⟨Zi _,by omega⟩,Nat.sub_zero,cY hj2];exact(Az (hpass _ (bh hj2))).1
    ·rw[if_neg (by omega),cS hj2];show Tb.get LB.hole .leaf _=_;exact Tb.eH _ _
   ·rw[if_neg hj,if_neg (by omega)];show Tb.get LB.hole .leaf _=_;rw[Tb.eH];simp
  have hall0:cP (aZ l0):=by
   intro(j:Nat);rw[hl0];unfold bq;split
   ·by_cases hj2:j<q.σ.length
    ·rw[cY hj2];exact(Az (hpass _ (bh hj2))).2
    ·rw[cS hj2];rfl
   ·simp[LB.okB]
  have hcall:=hc f q.us l0 1000 [] .done .tr _ hin Good.done hall0;rcases hcall with⟨x',lv'',nx'',l,e1,e2,e3,e4⟩|⟨d,lv'',nx'',l,e1,_⟩
  ·simp only[cW.done.injEq,ZL]at e1;obtain⟨rfl,rfl,rfl,rfl⟩:=e1
   have hlv':aZ lv''=bq ((jD 0 q.σ.length).map (aZ lv'')) ((jD 1000 (nx'' - 1000)).map (aZ lv'')):=by
    refine funext λ(j:Nat)=>?_;have hcl:j∉l->aZ lv'' j=bq q.σ [] j:=λhj=>by rw[e4 j hj,hl0]
    have hlog:j∈l->j<q.σ.length\/(1000<=j/\j<nx''):=by
     intro hj;have:=List.all_eq_true.1 g1 j hj;simp only[ZK,cn,Nat.blt]at this;rcases this with h|⟨h,h'⟩
     ·exact .inl (Zu h)
     ·exact .inr ⟨Zu h,Zu h'⟩
    unfold bq
    by_cases hj:j<1000
    ·rw[if_pos hj]
     by_cases hj2:j<q.σ.length
     ·rw[cY (by simpa[kU]using hj2)];simp[ri]
     ·rw[cS (by simpa[kU]using hj2)];have:j∉l:=λhm=>by rcases hlog hm with h|h<;>omega
      rw[hcl this];unfold bq;rw[if_pos hj,cS hj2]
    ·rw[if_neg hj]
     by_cases hj2:j-1000<nx'' - 1000
     ·rw[cY (by simpa[kU]using hj2)];simp only[Za,ri];have:1000+(j-1000)=j:=by omega
      rw[this]
     ·rw[cS (by simpa[kU]using hj2)];have:j∉l:=λhm=>by rcases hlog hm with h|h<;>omega
      rw[hcl this];unfold bq;rw[if_neg hj];simp
   have hS:aA P G f q.us q.σ (.ret x' ((jD 0 q.σ.length).map (aZ lv'')) ((jD 1000 (nx'' - 1000)).map (aZ lv''))):=by
    intro F β w vs hS hvl hv;rw[hl0]at e2;have:=e2 F β w vs hS hvl hv;rwa[hlv']at this
   refine⟨f,fs,cs,_,_,_,_,h1,h3,h11,λc hP hG=>?_⟩;exact bV.pass h5 g2 g3 (by rw[hP,hG];exact hS)
  ·cases e1
end
section
variable {P:Program}{G:List (List DV)}
def iy{α:Type}{l:List α}:BR l=true↔l=[]:=by cases l<;>simp[BR]
def Hf(h:OQ k l=true):l=[k]:=by
 unfold OQ at h;split at h
 ·rw[Zr h]
 ·cases h
def sR(P:Program)(f:Rec)(d:Option Nat)(fr:Nat->AV)(lv:Key->LB):(jt P f).e.app d ⟨fr,lv⟩=⟨Lq d f.x fr,aQ lv (uj f.us)⟩:=by
 show aE.put ⟨fr,aQ lv (uj f.us)⟩ d f.x=_;rw[sG]
def Jd(h:Gk P f g=true):(jt P f).apart (jt P g):=by
 unfold Gk at h;simp only[cn,ZK,Zy,Zb]at h;obtain⟨⟨⟨⟨h1,h2⟩,h3⟩,h4⟩,h5⟩:=h
 have hmem:∀{us:List (Key×LB)}{k:Key},k∈(uj us).map (·.1)->∃p∈us,p.1=k:=by
  intro us k hk;rw[LP]at hk;simpa using hk
 refine⟨λha=>?_,λha=>?_,?_,?_,?_⟩
 ·rcases h1 with h1|h1
  ·have:f.all=true:=ha;rw[this]at h1;cases h1
  ·exact pX.2 (iy.1 h1)
 ·rcases h2 with h2|h2
  ·have:g.all=true:=ha;rw[this]at h2;cases h2
  ·exact pX.2 (iy.1 h2)
 ·intro k hk hk';obtain⟨p,hp,rfl⟩:=hmem hk;obtain⟨q,hq,e⟩:=hmem hk';have:=h3 p hp;rw[ach]at this;exact this q hq (by rw[e];exact Nat.beq_refl _)
 ·intro k hk;obtain⟨p,hp,rfl⟩:=hmem hk;rcases h4 p hp with h|h
  ·left;intro hm;have hm':p.1∈g.rds:=hm;rw[oo.2 hm']at h;cases h
  ·right;exact⟨pX.2 (iy.1 h.1.1),Hf h.1.2,h.2⟩
 ·intro k hk;obtain⟨p,hp,rfl⟩:=hmem hk;rcases h5 p hp with h|h
  ·left;intro hm;have hm':p.1∈f.rds:=hm;rw[oo.2 hm']at h;cases h
  ·right;exact⟨pX.2 (iy.1 h.1.1),Hf h.1.2,h.2⟩
def ru(h:Rec.idle f=true\/Rec.idle g=true\/(Rec.quiet f=true/\Rec.quiet g=true)):(jt P f).apart (jt P g):=by
 have key:∀{us:List (Key×LB)},us=[]->uj us=[]:=λh=>pX.2 h
 rcases h with h|h|⟨h,h'⟩
 ·unfold Rec.idle at h;simp only[cn,Zy]at h;have h1:=key (iy.1 h.1.1);have h2:=iy.1 h.1.2;refine⟨λha=>?_,λ_=>h1,?_,?_,?_⟩
  ·have:f.all=true:=ha;rw[h.2]at this;cases this
  ·intro k hk;have:(jt P f).e.us=[]:=h1;rw[this]at hk;cases hk
  ·intro k hk;have:(jt P f).e.us=[]:=h1;rw[this]at hk;cases hk
  ·intro k _;left;have:(jt P f).e.rds=[]:=h2;rw[this];simp
 ·unfold Rec.idle at h;simp only[cn,Zy]at h;have h1:=key (iy.1 h.1.1);have h2:=iy.1 h.1.2;refine⟨λ_=>h1,λha=>?_,?_,?_,?_⟩
  ·have:g.all=true:=ha;rw[h.2]at this;cases this
  ·intro k _ hk;have:(jt P g).e.us=[]:=h1;rw[this]at hk;cases hk
  ·intro k _;left;have:(jt P g).e.rds=[]:=h2;rw[this];simp
  ·intro k hk;have:(jt P g).e.us=[]:=h1;rw[this]at hk;cases hk
 ·unfold Rec.quiet at h h';simp only[cn,Zy]at h h';have h1:=key (iy.1 h.1);have h2:=key (iy.1 h'.1);refine⟨λ_=>h2,λ_=>h1,?_,?_,?_⟩
  ·intro k hk;have:(jt P f).e.us=[]:=h1;rw[this]at hk;cases hk
  ·intro k hk;have:(jt P f).e.us=[]:=h1;rw[this]at hk;cases hk
  ·intro k hk;have:(jt P g).e.us=[]:=h2;rw[this]at hk;cases hk
def yw{ms:List Nat}:∀{r:List Rec}{j0:Nat}{before:List (Nat×Rec)},O7.pairs P ms r j0 before=true ->
 (∀(j:Nat) g,r[j]?=some g->∀p∈before,(ms.getD (j0+j) 0).testBit p.1=true\/(jt P p.2).apart (jt P g)) /\
 (∀(i j:Nat) f g,i<j->r[i]?=some f->r[j]?=some g->(ms.getD (j0+j) 0).testBit (j0+i)=true\/(jt P f).apart (jt P g))
 |[],j0,before,h=>⟨λj g hg=>by simp at hg,λi j f g _ hf=>by simp at hf⟩
 |a::r,j0,before,h=>by
  unfold O7.pairs at h
  cases hi:Rec.idle a with
  |true=>
   rw[hi]at h;simp only[cond_true]at h;obtain⟨h1,h2⟩:=yw h;refine⟨λj g hg p hp=>?_,λi j f g hij hf hg=>?_⟩
   ·cases j with
    |zero=>simp only[abH,ai]at hg;subst hg;exact .inr (ru (.inr (.inl hi)))
    |succ j=>
     have:=h1 j g (by simpa using hg) p hp;have e:j0+1+j=j0+(j+1):=by omega
     rwa[e]at this
   ·cases j with
    |zero=>omega
    |succ j=>
     cases i with
     |zero=>simp only[abH,ai]at hf;subst hf;exact .inr (ru (.inl hi))
     |succ i=>
      have:=h2 i j f g (by omega) (by simpa using hf) (by simpa using hg);have e:j0+1+j=j0+(j+1):=by omega
      have e2:j0+1+i=j0+(i+1):=by omega
      rwa[e,e2]at this
  |false=>
   rw[hi]at h;simp only[cond_false,cn,Zb,ZK]at h;obtain⟨h0,h⟩:=h;obtain⟨h1,h2⟩:=yw h;refine⟨λj g hg p hp=>?_,λi j f g hij hf hg=>?_⟩
   ·cases j with
    |zero=>
     simp only[abH,ai]at hg;subst hg;rcases h0 p hp with(h3|h3)|h3
     ·exact .inr (ru (.inr (.inr ⟨h3.2,h3.1⟩)))
     ·exact .inl h3
     ·exact .inr (Jd h3)
    |succ j=>
     have:=h1 j g (by simpa using hg) p (aaI _ hp);have e:j0+1+j=j0+(j+1):=by omega
     rwa[e]at this
   ·cases j with
    |zero=>omega
    |succ j=>
     have e:j0+1+j=j0+(j+1):=by omega
     cases i with
     |zero=>
      simp only[abH,ai]at hf;subst hf;have:=h1 j g (by simpa using hg) (j0,a) (aaJ ..);rwa[e]at this
     |succ i=>
      have:=h2 i j f g (by omega) (by simpa using hf) (by simpa using hg);have e2:j0+1+i=j0+(i+1):=by omega
      rwa[e,e2]at this
def oK{call:eG}(hc:ld P G call){ops:Array Oper}:∀{os:List Oper}{fr:Tb AV}{lv:Tb LB}{nx:Nat}{lg:List Key}{acc:List Rec}{k:List Rec->Tb AV->Tb LB->Nat->List Key->cW}{r:cW},
 jn P G call ops os fr lv nx lg acc k=r->Good r->cP (aZ lv) ->
 ∃(rs:List Rec) (fr':Tb AV) (lv':Tb LB) (nx':Nat) (l:List Key),k (rs.reverse++acc) fr' lv' nx' (l++lg)=r/\cP (aZ lv')/\kD lv lv' l/\∀c:Ctx,c.P=P->c.G=G->cK c.n os=true->ki c none ops os (rs.map (jt P)) (SS fr lv) (SS fr' lv')
 |[],fr,lv,nx,lg,acc,k,r,h,hg,ho=>⟨[],fr,lv,nx,[],h,ho,kD.refl _,λc _ _ _=>rfl⟩
 |o::os,fr,lv,nx,lg,acc,k,r,h,hg,ho=>by
  have h0:(mK (eB ops o.guard (kH fr)) (.bad 8 [o.op]) λb=>
   eU b (eO o.dst .undef fr λfr=>jn P G call ops os fr lv nx lg (⟨.undef,[],[],false,lv,o.op,[],nx⟩::acc) k)
    (SH.rec (motive:=λ_=>cW)
     (λ_=>.bad 9 [o.op])
     (λcl fo=>eU (Of ops)
      (vS P G call o.op cl fo fr lv nx [] (λx lv' nx' lg'=>eC x λx=>eO o.dst x fr λfr=>jn P G call ops os fr lv' nx' (lg'++lg) (⟨x,lg'.map λq=>(q,aZ lv' q),[],true,lv,o.op,[],nx⟩::acc) k) (λ_ _ _ _=>.bad 10 [o.op]))
      (vv P G call o.op cl fo fr lv nx λx us rds nx'=>eC x λx=>eO o.dst x fr λfr=>Be us lv lg λlv' lg=>jn P G call ops os fr lv' nx' lg (⟨x,us,rds,false,lv,o.op,[],nx⟩::acc) k))
     (Qr P o.op (hJ G fr o.op.operands.toList) lv nx λx us rds=>NQ nx us λnx'=>eC x λx=>eO o.dst x fr λfr'=>Be us lv lg λlv' lg=>jn P G call ops os fr' lv' nx' lg (⟨x,us,rds,false,lv,o.op,hJ G fr o.op.operands.toList,nx⟩::acc) k)
     (uO o.op)))=r:=h
  obtain⟨b,hw,h1⟩:=dW h0 hg.ne
  cases b with
  |false=>
   have h1':eO o.dst .undef fr (λfr=>jn P G call ops os fr lv nx lg (⟨.undef,[],[],false,lv,o.op,[],nx⟩::acc) k)=r:=h1;obtain⟨fr1,h2,e1⟩:=kX h1';obtain⟨rs,fr',lv',nx',l,q1,q2,q3,q4⟩:=oK hc h2 hg ho;refine⟨⟨.undef,[],[],false,lv,o.op,[],nx⟩::rs,fr',lv',nx',l,by simpa using q1,q2,q3,λc hP hG hd=>?_⟩;obtain⟨hd1,hd2⟩:=kK hd;refine⟨mY.skip hd1 hw,rfl,?_⟩
   have:(jt P ⟨.undef,[],[],false,lv,o.op,[],nx⟩).e.app o.dst (SS fr lv)=SS fr1 lv:=by
    unfold SS;rw[sR,<-e1];rfl
   rw[this];exact q4 c hP hG hd2
  |true=>
   cases ek:uO o.op with
   |tr x=>rw[ek]at h1;exact absurd h1 hg.ne
   |call cl fo=>
    rw[ek]at h1;obtain⟨hop,hcal⟩:=Br ek
    have h1':eU (Of ops)
     (vS P G call o.op cl fo fr lv nx [] (λx lv' nx' lg'=>eC x λx=>eO o.dst x fr λfr=>jn P G call ops os fr lv' nx' (lg'++lg) (⟨x,lg'.map λq=>(q,aZ lv' q),[],true,lv,o.op,[],nx⟩::acc) k) (λ_ _ _ _=>.bad 10 [o.op]))
     (vv P G call o.op cl fo fr lv nx λx us rds nx'=>eC x λx=>eO o.dst x fr λfr=>Be us lv lg λlv' lg=>jn P G call ops os fr lv' nx' lg (⟨x,us,rds,false,lv,o.op,[],nx⟩::acc) k)=r:=h1
    cases hi:Of ops with
    |false=>
     rw[hi]at h1';have h2:vS P G call o.op cl fo fr lv nx [] (λx lv' nx' lg'=>eC x λx=>eO o.dst x fr λfr=>jn P G call ops os fr lv' nx' (lg'++lg) (⟨x,lg'.map λq=>(q,aZ lv' q),[],true,lv,o.op,[],nx⟩::acc) k) (λ_ _ _ _=>.bad 10 [o.op])=r:=h1';obtain⟨f,fs,cs,c1,c2,c3⟩:=Dd hc h2 hg ho;rcases c3 with⟨x,lv1,nx1,l1,d1,d2,d3,d4⟩|⟨d,lv1,nx1,l1,d1,_⟩
     ·rw[jv,ZL]at d1;have d1':eO o.dst x fr (λfr=>jn P G call ops os fr lv1 nx1 (l1++lg) (⟨x,l1.map λq=>(q,aZ lv1 q),[],true,lv,o.op,[],nx⟩::acc) k)=r:=d1;obtain⟨fr1,h3,e1⟩:=kX d1';obtain⟨rs,fr',lv',nx',l,q1,q2,q3,q4⟩:=oK hc h3 hg d3;refine⟨⟨x,l1.map λq=>(q,aZ lv1 q),[],true,lv,o.op,[],nx⟩::rs,fr',lv',nx',l++l1,by simpa[Zo]using q1,q2,d4.trans q3,λc hP hG hd=>?_⟩;obtain⟨hd1,hd2⟩:=kK hd;refine⟨mY.ON hP hG hd1 hw hop hcal c1 c2 ho d3 d4 d2,rfl,?_⟩
      have:(jt P ⟨x,l1.map λq=>(q,aZ lv1 q),[],true,lv,o.op,[],nx⟩).e.app o.dst (SS fr lv)=SS fr1 lv1:=by
       unfold SS;rw[sR,TC d4 d3,<-e1]
      rw[this];exact q4 c hP hG hd2
     ·exact absurd d1 hg.ne
    |true=>
     rw[hi]at h1';have h2:vv P G call o.op cl fo fr lv nx (λx us rds nx'=>eC x λx=>eO o.dst x fr λfr=>Be us lv lg λlv' lg=>jn P G call ops os fr lv' nx' lg (⟨x,us,rds,false,lv,o.op,[],nx⟩::acc) k)=r:=h1';obtain⟨f,fs,cs,x,us,rds,nx1,c1,c2,d1,c3⟩:=IT hc h2 hg;rw[jv]at d1;have d1':eO o.dst x fr (λfr=>Be us lv lg λlv' lg=>jn P G call ops os fr lv' nx1 lg (⟨x,us,rds,false,lv,o.op,[],nx⟩::acc) k)=r:=d1;obtain⟨fr1,h3,e1⟩:=kX d1';have h3':Be us lv lg (λlv' lg=>jn P G call ops os fr1 lv' nx1 lg (⟨x,us,rds,false,lv,o.op,[],nx⟩::acc) k)=r:=h3;obtain⟨lv1,l1,h5,e2,e3,e4⟩:=zc h3' hg ho;obtain⟨rs,fr',lv',nx',l,q1,q2,q3,q4⟩:=oK hc h5 hg e3;refine⟨⟨x,us,rds,false,lv,o.op,[],nx⟩::rs,fr',lv',nx',l++l1,by simpa[Zo]using q1,q2,e4.trans q3,λc hP hG hd=>?_⟩;obtain⟨hd1,hd2⟩:=kK hd;have heff:cX c none ops o (SS fr lv) ⟨x,us,rds⟩:=cX.call hd1 hw hop hcal (by rw[hG];exact c1) (by rw[hP];exact c2) (by rw[hG];exact c3 c hP hG);refine⟨mY.Mb heff (λlv' hok=>?_),rfl,?_⟩
     ·rcases hok with⟨h1,_⟩|⟨_,h1|⟨h1,j,h2,h3⟩⟩
      ·cases h1
      ·exact EX h1
      ·exfalso;obtain⟨vc,g1,_⟩:=D6 h3;simp only at g1;rw[hop]at g1;have g2:iY P cl [] (az (aZ lv) j (lv' j)) nx=some (x,[],[j],vc):=g1;unfold iY at g2;rw[hcal]at g2;cases g2
     ·have:(jt P ⟨x,us,rds,false,lv,o.op,[],nx⟩).e.app o.dst (SS fr lv)=SS fr1 lv1:=by
       unfold SS;rw[sR,<-e1,<-e2]
      rw[this];exact q4 c hP hG hd2
   |plain=>
    rw[ek]at h1;have h1':Qr P o.op (hJ G fr o.op.operands.toList) lv nx (λx us rds=>NQ nx us λnx'=>eC x λx=>eO o.dst x fr λfr'=>Be us lv lg λlv' lg=>jn P G call ops os fr' lv' nx' lg (⟨x,us,rds,false,lv,o.op,hJ G fr o.op.operands.toList,nx⟩::acc) k)=r:=h1;obtain⟨x,us,rds,h2,hdo⟩:=KW h1' hg;have h2':NQ nx us (λnx'=>eC x λx=>eO o.dst x fr λfr'=>Be us lv lg λlv' lg=>jn P G call ops os fr' lv' nx' lg (⟨x,us,rds,false,lv,o.op,hJ G fr o.op.operands.toList,nx⟩::acc) k)=r:=h2;obtain⟨nx1,h3⟩:=FD h2';rw[jv]at h3;obtain⟨fr1,h4,e1⟩:=kX h3;have h4':Be us lv lg (λlv' lg=>jn P G call ops os fr1 lv' nx1 lg (⟨x,us,rds,false,lv,o.op,hJ G fr o.op.operands.toList,nx⟩::acc) k)=r:=h4;obtain⟨lv1,l1,h5,e2,e3,e4⟩:=zc h4' hg ho;obtain⟨rs,fr',lv',nx',l,q1,q2,q3,q4⟩:=oK hc h5 hg e3;refine⟨⟨x,us,rds,false,lv,o.op,hJ G fr o.op.operands.toList,nx⟩::rs,fr',lv',nx',l++l1,by simpa[Zo]using q1,q2,e4.trans q3,λc hP hG hd=>?_⟩;obtain⟨hd1,hd2⟩:=kK hd;refine⟨mY.plain hP hG hd1 hw hdo,rfl,?_⟩
    have:(jt P ⟨x,us,rds,false,lv,o.op,hJ G fr o.op.operands.toList,nx⟩).e.app o.dst (SS fr lv)=SS fr1 lv1:=by
     unfold SS;rw[sR,<-e1,<-e2]
    rw[this];exact q4 c hP hG hd2
def oU(P:Program)(G:List (List DV))(N:Nat)(x:Code)(s s':aE)(e:Ex):Prop:=
 ∀c:Ctx,c.P=P->c.G=G->c.n=N->∀F β a w,aF c F β s a w->x.wpIn (qb none) 0 c.P (λex a' w'=>∃F' β',aF c F' β' s' a' w'/\Dr e ex F' w') a w
def lZ(P:Program)(G:List (List DV))(x:Code)(run:RunT):Prop:=∀call,ld P G call->∀N fr lv nx lg k r,run call N fr lv nx lg k=r->Good r->cP (aZ lv) ->
 ∃e fr' lv' nx' l,k e fr' lv' nx' (l++lg)=r/\cP (aZ lv')/\kD lv lv' l/\oU P G N x (SS fr lv) (SS fr' lv') e
def Jr(hm:P.follows .mixedOrders=true)(id:Nat)(ops:Array Oper)(dr:Bool):lZ P G (.region id ops dr) (EA P G id ops dr):=by
 intro call hc N fr lv nx lg k r h hg ho
 have h0:eU (cK N ops.toList) (.bad 11 []) (Bool.rec (motive:=λ_=>cW) (ya P G call ops ops.toList fr lv nx lg k)
  (eU (gz ops) (.bad 12 []) (jn P G call ops ops.toList fr lv nx lg [] λacc fr lv nx lg=>eU (O7 P (iA ops.toList []) acc.reverse) (.bad 13 (ops.toList.map (·.op))) (k .normal fr lv nx lg))) dr)=r:=h
 obtain⟨hd,h1⟩:=dy h0 hg.ne
 cases dr with
 |false=>
  obtain⟨e,fr',lv',nx',l,q1,q2,q3,q4⟩:=xL hc h1 hg ho;refine⟨e,fr',lv',nx',l,q1,q2,q3,?_⟩;intro c hP hG hn F β a w hs;refine wpIn_region ?_;have:=q4 c 0 _ hP hG (by rw[hn];exact hd) rfl (λF' β' a' w' ex h1 h2=>(⟨F',β',h1,h2⟩:∃F' β',aF c F' β' (SS fr' lv') a' w'/\Dr e ex F' w')) F β a w hs;rw[List.range_eq_range'];simpa using this
 |true=>
  obtain⟨hst,h2⟩:=dy h1 hg.ne;obtain⟨rs,fr',lv',nx',l,q1,q2,q3,q4⟩:=oK hc h2 hg ho;rw[ZL,List.reverse_reverse]at q1;obtain⟨hi,h3⟩:=dy q1 hg.ne;refine⟨.normal,fr',lv',nx',l,h3,q2,q3,?_⟩;intro c hP hG hn F β a w hs;have hch:=q4 c hP hG (by rw[hn];exact hd);have hp:=yw (P:=P) (ms:=iA ops.toList []) (r:=rs) (j0:=0) (before:=[]) hi;unfold gz at hst;simp only[cn,Zb,abW]at hst;obtain⟨hs1,hs2⟩:=hst;have hanc:∀i j,((iA ops.toList []).getD j 0).testBit i=true->wu ops i j:=k8 ops.toList [] (by simp) (λi j h=>by simp at h)
  refine ki.draw (by rw[hP];exact hm) hch (λi o ho ed hed hb=>oP ops.toList 0 rfl hs1 i o (Zi _) ho ed hed hb) (λi j o o' f g hij ho ho' hf hg=>?_)
   (λF' β' a' w' h'=>⟨F',β',h',rfl⟩) hs
  have hj:j<ops.size:=(Array.getElem?_eq_some_iff.1 ho').1;rw[aba,Zx]at hf hg;obtain⟨f0,hf0,rfl⟩:=hf;obtain⟨g0,hg0,rfl⟩:=hg;have h5:=hs2 j hj i hij;rw[ho,ho']at h5;simp only[ZK]at h5;rcases h5 with h5|h5
  ·exact .inl (hanc i j h5)
  ·rcases hp.2 i j f0 g0 hij hf0 hg0 with h6|h6
   ·simp only[Zw]at h6;exact .inl (hanc i j h6)
   ·exact .inr ⟨h5,h6⟩
def oU.mono{x:Code}(h:oU P G N x s s' e)(hP:c.P=P)(hG:c.G=G)(hn:c.n=N)
 (hQ:∀F' β' a' w' ex,aF c F' β' s' a' w'->Dr e ex F' w'->Q ex a' w'){a:Act}(hs:aF c F β s a w):x.wpIn (qb none) 0 c.P Q a w:=
 wpIn_mono (h c hP hG hn F β a w hs) λex a' w' ⟨F',β',h1,h2⟩=>hQ F' β' a' w' ex h1 h2
def QU{x y:Code}{b:RunT}(ha:lZ P G x a)(hb:lZ P G y b):lZ P G (.seq x y) (Qe x y a b):=by
 intro call hc N fr lv nx lg k r h hg ho;obtain⟨e,fr1,lv1,nx1,l1,q1,q2,q3,q4⟩:=ha call hc N fr lv nx lg _ r h hg ho
 cases e with
 |normal=>
  have q1':b call N fr1 lv1 nx1 (l1++lg) k=r:=q1;obtain⟨e,fr',lv',nx',l,p1,p2,p3,p4⟩:=hb call hc N fr1 lv1 nx1 _ k r q1' hg q2;refine⟨e,fr',lv',nx',l++l1,by rw[Zo];exact p1,p2,q3.trans p3,?_⟩;intro c hP hG hn F β ac w hs;refine wpIn_seq (q4.mono hP hG hn (λF' β' a' w' ex h1 h2=>?_) hs);have:ex=.normal:=h2;subst this;exact p4 c hP hG hn F' β' a' w' h1
 |exit id=>
  refine⟨.exit id,fr1,lv1,nx1,l1,q1,q2,q3,λc hP hG hn F β ac w hs=>wpIn_seq (q4.mono hP hG hn (λF' β' a' w' ex h1 h2=>?_) hs)⟩;have:ex=.exit id:=h2;subst this;exact⟨F',β',h1,rfl⟩
 |goto id=>
  refine⟨.goto id,fr1,lv1,nx1,l1,q1,q2,q3,λc hP hG hn F β ac w hs=>wpIn_seq (q4.mono hP hG hn (λF' β' a' w' ex h1 h2=>?_) hs)⟩;have:ex=.goto id:=h2;subst this;exact⟨F',β',h1,rfl⟩
 |ret=>
  refine⟨.ret,fr1,lv1,nx1,l1,q1,q2,q3,λc hP hG hn F β ac w hs=>wpIn_seq (q4.mono hP hG hn (λF' β' a' w' ex h1 h2=>?_) hs)⟩;have:ex=.ret:=h2;subst this;exact⟨F',β',h1,rfl⟩
 |panic d=>
  refine⟨.panic d,fr1,lv1,nx1,l1,q1,q2,q3,λc hP hG hn F β ac w hs=>wpIn_seq (q4.mono hP hG hn (λF' β' a' w' ex h1 h2=>?_) hs)⟩;obtain⟨v,rfl,hv⟩:=h2;exact⟨F',β',h1,v,rfl,hv⟩
def PF{o:Operand}{x y:Code}{b:RunT}(ha:lZ P G x a)(hb:lZ P G y b):lZ P G (.cond o x y) (LW G o x y a b):=by
 intro call hc N fr lv nx lg k r h hg ho;have h0:KM (zZ G fr o) (b call N fr lv nx lg k) (a call N fr lv nx lg k)=r:=h;unfold KM at h0;split at h0
 ·rename_i t ht
  rw[uf G fr (aZ lv)]at ht
  cases t with
  |false=>
   obtain⟨e,fr',lv',nx',l,p1,p2,p3,p4⟩:=hb call hc N fr lv nx lg k r h0 hg ho;refine⟨e,fr',lv',nx',l,p1,p2,p3,λc hP hG hn F β ac w hs=>?_⟩;have hv:=hs.val o;have ht':(SS fr lv).val c.G o=.c (.d (.bool false)):=by rw[hG];exact ht
   rw[ht']at hv;exact wpIn_cond_false (Vw.rm hv) (p4 c hP hG hn F β ac w hs)
  |true=>
   obtain⟨e,fr',lv',nx',l,p1,p2,p3,p4⟩:=ha call hc N fr lv nx lg k r h0 hg ho;refine⟨e,fr',lv',nx',l,p1,p2,p3,λc hP hG hn F β ac w hs=>?_⟩;have hv:=hs.val o;have ht':(SS fr lv).val c.G o=.c (.d (.bool true)):=by rw[hG];exact ht
   rw[ht']at hv;exact wpIn_cond_true (Vw.rm hv) (p4 c hP hG hn F β ac w hs)
 ·exact absurd h0 hg.ne
def Kj{x:Code}(ha:lZ P G x a):lZ P G (.block id x) (H9 id x a):=by
 intro call hc N fr lv nx lg k r h hg ho;obtain⟨e,fr1,lv1,nx1,l1,q1,q2,q3,q4⟩:=ha call hc N fr lv nx lg _ r h hg ho
 cases e with
 |normal=>
  refine⟨.normal,fr1,lv1,nx1,l1,q1,q2,q3,λc hP hG hn F β ac w hs=>wpIn_block (q4.mono hP hG hn (λF' β' a' w' ex h1 h2=>?_) hs)⟩;have:ex=.normal:=h2;subst this;exact⟨F',β',h1,rfl⟩
 |exit i=>
  have q1':Bool.rec (motive:=λ_=>cW) (k (.exit i) fr1 lv1 nx1 (l1++lg)) (k .normal fr1 lv1 nx1 (l1++lg)) (Nat.beq i id)=r:=q1
  cases hb:Nat.beq i id with
  |true=>
   rw[hb]at q1';have:=Zr hb;subst this;refine⟨.normal,fr1,lv1,nx1,l1,q1',q2,q3,λc hP hG hn F β ac w hs=>wpIn_block (q4.mono hP hG hn (λF' β' a' w' ex h1 h2=>?_) hs)⟩;have:ex=.exit i:=h2;subst this;simp only[Exit.inBlock,if_true];exact⟨F',β',h1,rfl⟩
  |false=>
   rw[hb]at q1';have hne:=abI hb;refine⟨.exit i,fr1,lv1,nx1,l1,q1',q2,q3,λc hP hG hn F β ac w hs=>wpIn_block (q4.mono hP hG hn (λF' β' a' w' ex h1 h2=>?_) hs)⟩;have:ex=.exit i:=h2;subst this;simp only[Exit.inBlock,if_neg hne];exact⟨F',β',h1,rfl⟩
 |goto i=>
  refine⟨.goto i,fr1,lv1,nx1,l1,q1,q2,q3,λc hP hG hn F β ac w hs=>wpIn_block (q4.mono hP hG hn (λF' β' a' w' ex h1 h2=>?_) hs)⟩;have:ex=.goto i:=h2;subst this;exact⟨F',β',h1,rfl⟩
 |ret=>
  refine⟨.ret,fr1,lv1,nx1,l1,q1,q2,q3,λc hP hG hn F β ac w hs=>wpIn_block (q4.mono hP hG hn (λF' β' a' w' ex h1 h2=>?_) hs)⟩;have:ex=.ret:=h2;subst this;exact⟨F',β',h1,rfl⟩
 |panic d=>
  refine⟨.panic d,fr1,lv1,nx1,l1,q1,q2,q3,λc hP hG hn F β ac w hs=>wpIn_block (q4.mono hP hG hn (λF' β' a' w' ex h1 h2=>?_) hs)⟩;obtain⟨v,rfl,hv⟩:=h2;exact⟨F',β',h1,v,rfl,hv⟩
def Pc{x:Code}(ha:lZ P G x a):lZ P G (.loop x) (ND x a):=by
 intro call hc N fr lv nx lg k r h hg ho
 have key:∀m (fr:Tb AV) (lv:Tb LB) (nx:Nat) (lg:List Key),Kw a call N m fr lv nx lg k=r->cP (aZ lv) ->
  ∃e fr' lv' nx' l,k e fr' lv' nx' (l++lg)=r/\cP (aZ lv')/\kD lv lv' l /\
   ∀c:Ctx,c.P=P->c.G=G->c.n=N->∀F β ac w,aF c F β (SS fr lv) ac w->Code.roundsIn (qb none) 0 c.P x (λex a' w'=>∃F' β',aF c F' β' (SS fr' lv') a' w'/\Dr e ex F' w') m ac w:=by
  intro m
  induction m with
  |zero=>intro fr lv nx lg h _;exact absurd h hg.ne
  |succ m ih=>
   intro fr lv nx lg h ho;obtain⟨e,fr1,lv1,nx1,l1,q1,q2,q3,q4⟩:=ha call hc N fr lv nx lg _ r h hg ho
   cases e with
   |normal=>
    have q1':Kw a call N m fr1 lv1 nx1 (l1++lg) k=r:=q1;obtain⟨e,fr',lv',nx',l,p1,p2,p3,p4⟩:=ih fr1 lv1 nx1 _ q1' q2;refine⟨e,fr',lv',nx',l++l1,by rw[Zo];exact p1,p2,q3.trans p3,λc hP hG hn F β ac w hs=>?_⟩;rw[roundsIn_succ];refine q4.mono hP hG hn (λF' β' a' w' ex h1 h2=>?_) hs;have:ex=.normal:=h2;subst this;exact p4 c hP hG hn F' β' a' w' h1
   |exit i=>
    refine⟨.exit i,fr1,lv1,nx1,l1,q1,q2,q3,λc hP hG hn F β ac w hs=>?_⟩;rw[roundsIn_succ];refine q4.mono hP hG hn (λF' β' a' w' ex h1 h2=>?_) hs;have:ex=.exit i:=h2;subst this;exact⟨F',β',h1,rfl⟩
   |goto i=>
    refine⟨.goto i,fr1,lv1,nx1,l1,q1,q2,q3,λc hP hG hn F β ac w hs=>?_⟩;rw[roundsIn_succ];refine q4.mono hP hG hn (λF' β' a' w' ex h1 h2=>?_) hs;have:ex=.goto i:=h2;subst this;exact⟨F',β',h1,rfl⟩
   |ret=>
    refine⟨.ret,fr1,lv1,nx1,l1,q1,q2,q3,λc hP hG hn F β ac w hs=>?_⟩;rw[roundsIn_succ];refine q4.mono hP hG hn (λF' β' a' w' ex h1 h2=>?_) hs;have:ex=.ret:=h2;subst this;exact⟨F',β',h1,rfl⟩
   |panic d=>
    refine⟨.panic d,fr1,lv1,nx1,l1,q1,q2,q3,λc hP hG hn F β ac w hs=>?_⟩;rw[roundsIn_succ];refine q4.mono hP hG hn (λF' β' a' w' ex h1 h2=>?_) hs;obtain⟨v,rfl,hv⟩:=h2;exact⟨F',β',h1,v,rfl,hv⟩
 obtain⟨e,fr',lv',nx',l,p1,p2,p3,p4⟩:=key 1000000 fr lv nx lg h ho;exact⟨e,fr',lv',nx',l,p1,p2,p3,λc hP hG hn F β ac w hs=>wpIn_loop_rounds _ (p4 c hP hG hn F β ac w hs)⟩
def OS(hm:P.follows .mixedOrders=true)(x:Code):lZ P G x (runK P G x):=by
 have leaf:∀{y:Code}{e:Ex},(∀c:Ctx,∀ex,e=ex->True)->(∀(c:Ctx) (s:aE) F β a w,aF c F β s a w->y.wpIn (qb none) 0 c.P (λex a' w'=>∃F' β',aF c F' β' s a' w'/\Dr e ex F' w') a w) ->
  lZ P G y (λ_ _ fr lv nx lg k=>k e fr lv nx lg):=by
  intro y e _ hy call hc N fr lv nx lg k r h hg ho;exact⟨e,fr,lv,nx,[],h,ho,kD.refl _,λc _ _ _ F β a w hs=>hy c _ F β a w hs⟩
 have bad:∀y:Code,lZ P G y H8:=λy call hc N fr lv nx lg k r h hg ho=>absurd h hg.ne
 induction x with
 |skip=>exact leaf (e:=.normal) (λ_ _ _=>trivial) λc s F β a w hs=>wpIn_skip ⟨F,β,hs,rfl⟩
 |region id ops dr=>exact Jr hm id ops dr
 |seq a b iha ihb=>exact QU iha ihb
 |cond o a b iha ihb=>exact PF iha ihb
 |block id a iha=>exact Kj iha
 |loop a iha=>exact Pc iha
 |rangeFunc f ps a b _ _=>exact bad _
 |exit id=>exact leaf (e:=.exit id) (λ_ _ _=>trivial) λc s F β a w hs=>wpIn_exit ⟨F,β,hs,rfl⟩
 |scope a _=>exact bad _
 |label l=>exact leaf (e:=.normal) (λ_ _ _=>trivial) λc s F β a w hs=>wpIn_label ⟨F,β,hs,rfl⟩
 |goto l=>exact leaf (e:=.goto l) (λ_ _ _=>trivial) λc s F β a w hs=>wpIn_goto ⟨F,β,hs,rfl⟩
 |ret=>exact leaf (e:=.ret) (λ_ _ _=>trivial) λc s F β a w hs=>wpIn_ret ⟨F,β,hs,rfl⟩
 |refuse w=>exact bad _
def D9:∀{us:List AV}{i:Nat}{fr:Tb AV}{k:Tb AV->cW}{r:cW},Mk us i fr k=r ->
 ∃fr',k fr'=r/\∀j:Nat,kH fr' j=if i<=j/\j<i+us.length then us.getD (j-i) .undef else kH fr j
 |[],i,fr,k,r,h=>⟨fr,h,λj=>by rw[if_neg (by simp only[aaG];omega)]⟩
 |x::us,i,fr,k,r,h=>by
  have h1:(Tb.Cw .undef x (pathOf i) fr λfr=>Mk us (Nat.succ i) fr k)=r:=h;rw[Tb.lT]at h1;obtain⟨fr',e1,e2⟩:=D9 h1;refine⟨fr',e1,λj=>?_⟩;rw[e2 j,Fe]
  by_cases hj:j=i
  ·subst hj;rw[if_neg (by omega),if_pos (by simp),aC];simp
  ·rw[aH _ _ hj]
   by_cases h2:Nat.succ i<=j/\j<Nat.succ i+us.length
   ·rw[if_pos h2,if_pos (by simp;omega)];have:j-i=(j-Nat.succ i)+1:=by omega
    rw[this];rfl
   ·rw[if_neg h2,if_neg (by simp;omega)]
def oU.aw{x:Code}(h:oU P G N x s s' e)(hP:c.P=P)(hG:c.G=G)(hn:c.n=N){Q:Ex->aE->Nat->Prop}(hQ:Q e s' 0):AW c none x s κ Q:=
 λF β a w hs=>h.mono hP hG hn (λF' β' a' w' ex h1 h2=>⟨e,s',0,F',β',hQ,h1,h2⟩) hs
def OM(hm:P.follows .mixedOrders=true)(hc:ld P G call):ld P G (Oq P G call):=by
 intro f us lv nx lg kr kp r h hg ho;unfold Oq at h;obtain⟨fn,h1,h2⟩:=dW h hg.ne;obtain⟨code,h3,h4⟩:=dW h2 hg.ne;obtain⟨h5,h6⟩:=dy h4 hg.ne;obtain⟨fr,h7,h8⟩:=D9 h6;obtain⟨e,fr',lv',nx',l,q1,q2,q3,q4⟩:=OS hm code call hc fn.ntmps fr lv nx lg _ r h7 hg ho
 have hfr:kH fr=λt=>us.getD t .undef:=by
  funext j;rw[h8 j]
  by_cases hj:j<us.length
  ·rw[if_pos ⟨Zi _,by omega⟩,Nat.sub_zero]
  ·rw[if_neg (by omega),cS hj];show Tb.get AV.undef .leaf _=_;exact Tb.eH _ _
 have hSS:SS fr lv=⟨λt=>us.getD t .undef,aZ lv⟩:=by unfold SS;rw[hfr]
 rw[hSS]at q4
 cases e with
 |normal=>
  have q1':(mK (cO P ⟨kH fr',aZ lv'⟩ fn.results.toList) (.bad 20 []) λx=>eC x λx=>kr x lv' nx' (l++lg))=r:=q1;obtain⟨x,h9,h10⟩:=dW q1' hg.ne;rw[jv]at h10;exact .inl ⟨x,lv',nx',l,h10,b9.nZ (κ:=0) h1 h3 (Zu h5) λc hP hG hn _=>q4.aw hP hG hn ⟨by rw[hP];exact h9,rfl⟩,q2,q3⟩
 |ret=>
  have q1':(mK (cO P ⟨kH fr',aZ lv'⟩ fn.results.toList) (.bad 23 []) λx=>eC x λx=>kr x lv' nx' (l++lg))=r:=q1;obtain⟨x,h9,h10⟩:=dW q1' hg.ne;rw[jv]at h10;exact .inl ⟨x,lv',nx',l,h10,b9.nZ (κ:=0) h1 h3 (Zu h5) λc hP hG hn _=>q4.aw hP hG hn ⟨by rw[hP];exact h9,rfl⟩,q2,q3⟩
 |panic d=>
  have q1':kp d lv' nx' (l++lg)=r:=q1;exact .inr ⟨d,lv',nx',l,q1',b9.nZ (κ:=0) h1 h3 (Zu h5) λc hP hG hn _=>q4.aw hP hG hn ⟨rfl,rfl⟩,q2,q3⟩
 |exit i=>exact absurd q1 hg.ne
 |goto i=>exact absurd q1 hg.ne
structure zu(P:Program)(G:List (List DV))(sp:Tb Spec)(ft:TypeId):Prop where
 pure:∀f g us x,sp.get .body (pathOf f)=.pure g->g us=some x->∀lv,cP lv->b9 P G f us lv (.ret x lv)
 xD:∀f,sp.get .body (pathOf f)=.caught->∀v t fs cs lv lv' x,cx v=some (t,fs,cs)->aJ P t=true->cP lv->b9 P G t (fs++cs) lv (.ret x lv')->b9 P G f [v] lv (.ret (.c (.d (.int .i64 0))) lv')
 xC:∀f,sp.get .body (pathOf f)=.caught->∀v t fs cs lv lv' n,cx v=some (t,fs,cs)->aJ P t=true->cP lv->b9 P G t (fs++cs) lv (.tr (.iface ft (.agg [.int .i64 n])) lv')->b9 P G f [v] lv (.ret (.c (.d (.int .i64 n))) lv')
 Ho:∀f g,sp.get .body (pathOf f)=.self g->∀lv k off T cs r,cP lv->g T off cs.length=true->lv k=.cells false false T cs->cs.drop off=.d .nilp::r->b9 P G f [.c (.ptr k off)] lv (.ret (.tup []) (az lv k (.cells false false T (aj cs off [.ptr k off]))))
 HZ:∀f g,sp.get .body (pathOf f)=.self g->∀lv k off T cs r,cP lv->g T off cs.length=true->lv k=.cells false false T cs->cs.drop off=.ptr k off::r->b9 P G f [.c (.ptr k off)] lv (.ret (.tup []) lv)
def Gx(hm:P.follows .mixedOrders=true){sp:Tb Spec}{ft:TypeId}(hsp:zu P G sp ft):∀n,ld P G (Sl P G sp ft n)
 |0=>λf us lv nx lg kr kp r h hg ho=>absurd h hg.ne
 |n+1=>λf us lv nx lg kr kp r h hg ho=>by
  have ih:=Gx hm hsp n;have h0:Spec.rec (motive:=λ_=>cW) (Oq P G (Sl P G sp ft n) f us lv nx lg kr kp) (λg=>mK (g us) (.bad 29 []) λx=>eC x λx=>kr x lv nx lg) (xF P ft (Sl P G sp ft n) us lv nx lg kr) (λg=>Ii g us lv nx lg kr) (sp.get .body (pathOf f))=r:=h
  cases es:sp.get .body (pathOf f)with
  |body=>rw[es]at h0;exact OM hm ih f us lv nx lg kr kp r h0 hg ho
  |pure g=>
   rw[es]at h0;obtain⟨x,h1,h2⟩:=dW h0 hg.ne;rw[jv]at h2;exact .inl ⟨x,lv,nx,[],h2,hsp.pure f g us x es h1 _ ho,ho,kD.refl _⟩
  |caught=>
   rw[es]at h0;have h1:xF P ft (Sl P G sp ft n) us lv nx lg kr=r:=h0;unfold xF at h1;split at h1
   ·rename_i v
    obtain⟨⟨t,fs,cs⟩,h2,h3⟩:=dW h1 hg.ne;obtain⟨h4,h5⟩:=dy h3 hg.ne;rcases ih _ _ _ _ _ _ _ _ h5 hg ho with⟨x,lv',nx',l,q1,q2,q3,q4⟩|⟨d,lv',nx',l,q1,q2,q3,q4⟩
    ·exact .inl ⟨_,lv',nx',l,q1,hsp.xD f es v t fs cs _ _ x h2 h4 ho q2,q3,q4⟩
    ·split at q1
     ·rename_i t' m
      obtain⟨hb,q5⟩:=dy q1 hg.ne;have:=Zr hb;subst this;exact .inl ⟨_,lv',nx',l,q5,hsp.xC f es v t fs cs _ _ m h2 h4 ho q2,q3,q4⟩
     ·exact absurd q1 hg.ne
   ·exact absurd h1 hg.ne
  |self T0=>
   rw[es]at h0;have h1:Ii T0 us lv nx lg kr=r:=h0;unfold Ii at h1;split at h1
   ·rename_i k off
    split at h1
    ·rename_i own T cs hk
     have hown:own=false:=by have:=ho k;rw[hk]at this;simp only[LB.okB,cn,Zy]at this;exact this.1
     subst hown;obtain⟨hb0,h6⟩:=dy h1 hg.ne;clear h1;split at h6
     ·rename_i y hcs
      obtain⟨lv',l,e1,e2,e3,e4⟩:=zc h6 hg ho;refine .inl ⟨_,lv',nx,l,e1,?_,e3,e4⟩;have:=hsp.Ho f _ es (aZ lv) k off T cs y ho hb0 hk hcs;have e5:aZ lv'=az (aZ lv) k (.cells false false T (aj cs off [.ptr k off])):=by rw[e2];rfl
      rw[e5];exact this
     ·rename_i k' off' y hcs
      obtain⟨hb,h2⟩:=dy h6 hg.ne;simp only[cn]at hb;have b1:=Zr hb.1;have b2:=Zr hb.2;subst b1;subst b2;exact .inl ⟨_,lv,nx,[],h2,hsp.HZ f _ es (aZ lv) _ _ T cs y ho hb0 hk hcs,ho,kD.refl _⟩
     ·exact absurd h6 hg.ne
    ·exact absurd h1 hg.ne
   ·exact absurd h1 hg.ne
end
end Go.Am
