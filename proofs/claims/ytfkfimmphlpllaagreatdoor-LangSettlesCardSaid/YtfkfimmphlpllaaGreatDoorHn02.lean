/- Helpers: an abstract machine for Go functions, and walks of functions of the program. -/
import Derived.Test.YtfkfimmphlpllaaGreatDoorHn01
import Derived.KernelRfl
import Derived.Scope
import Derived.RangeFuncLeaves
import Derived.RangeFuncRecord

set_option linter.all false
set_option maxHeartbeats 8000000
set_option maxRecDepth 100000
namespace Go.Am
variable {x:AV}{g:Key→Key}{b:LB}{p:Key→Bool}{lv:Key→LB}{nk:List Key}{kh:Key}
abbrev aaM:=@List.map_id
abbrev abB:=@List.nodup_nil
abbrev abl:=@List.flatMap_eq_nil_iff
abbrev Zq:=@Nat.pow_succ
abbrev ZG:=@Nat.mul_le_mul_left
abbrev YW:=@Nat.mul_add
abbrev ZR:=@List.drop_eq_getElem_cons
abbrev aa6:=@List.drop_eq_nil_of_le
abbrev ZH:=@List.take_of_length_le
abbrev aaN:=@Nat.mul_pos
abbrev abC:=@Nat.add_mul_mod_self_left
abbrev ab0:=@List.getLast?_eq_getElem?
abbrev aaY:=@Nat.lt_of_le_of_lt
abbrev Zk:=@Nat.mul_assoc
abbrev aaO:=@List.length_singleton
abbrev ab1:=@List.set_eq_take_append_cons_drop
abbrev YV:=@List.drop_zero
abbrev abD:=@List.set_append_right
abbrev abP:=@BitVec.toNat_ofNat
abbrev abQ:=@BitVec.ofInt_natCast
abbrev abR:=@List.mem_of_getElem?
abbrev abE:=@Nat.add_mul_div_left
abbrev abm:=@Nat.div_eq_of_lt
abbrev Zr:=@List.append_nil
abbrev Y6:=@List.not_mem_nil
abbrev aa7:=@Bool.and_true
abbrev aaZ:=@List.mem_of_find?_eq_some
abbrev aa8:=@List.find?_some
abbrev abF:=@List.find?_eq_none
abbrev aa0:=@Nat.mul_le_mul
abbrev Zz:=@Classical.byContradiction
abbrev abn:=@Nat.div_lt_iff_lt_mul
structure ES where
 fr:Tr AV
 lv:Tr LB
 nx:Nat
def YD (t:Tr AV):Nat→AV:=fun i=>match t.get i with|some x=>x|none=>.undef
def Yz (t:Tr LB):Key→LB:=fun k=>match t.get k with|some b=>b|none=>.hole
def ES.st (s:ES):au:=⟨YD s.fr,Yz s.lv⟩
def ES.put (s:ES)(dst:Option Nat)(x:AV):Option ES:=
 match dst with
 | none=>some s
 | some d=>match s.fr.set 16 d x with|some fr=>some ⟨fr,s.lv,s.nx⟩|none=>none
def Ls:Tr LB→List (Key × LB)→Option (Tr LB)
 | t,[]=>some t
 | t,p::r=>match t.set 30 p.1 p.2 with|some t=>Ls t r|none=>none
def ES.wr (s:ES)(us:List (Key × LB))(nx:Nat):Option ES:=
 match Ls s.lv us with|some lv=>some ⟨s.fr,lv,nx⟩|none=>none
def ij.sU (p:Key→Bool):ij→Bool
 | .d _=>true
 | .ptr k _=>p k
 | .aI k _ _ _=>p k
def Ref.sU (p:Key→Bool):Ref→Bool
 | .d _=>true
 | .ptr k _=>p k
 | .aI k _ _ _=>p k
 | .agg cs=>cs.all (ij.sU p)
 | .ifc _ x=>x.sU p
def CV.sU (p:Key→Bool):CV→Bool
 | .d _=>true
 | .ptr k _=>p k
 | .aI k _ _ _=>p k
 | .mapr k=>p k
 | .func _ f c=>f.all (Ref.sU p) && c.all (Ref.sU p)
 | .ifc _ x=>x.sU p
 | .junk=>true
def AV.Lr (p:Key→Bool):AV→Bool
 | .c x=>x.sU p
 | .agg cs=>cs.all (CV.sU p)
 | _=>true
def AV.sU (p:Key→Bool):AV→Bool
 | .tup l=>l.all (AV.Lr p)
 | x=>x.Lr p
def LB.sU (p:Key→Bool):LB→Bool
 | .cells _ _ _ cs=>cs.all (CV.sU p)
 | .map _ es=>es.all fun q=>q.2.Lr p && q.2.bV
 | _=>true
section
variable {p:Key→Bool}{i g:Key→Key}(hp:∀ k,p k=true→g (i k)=k)
include hp
theorem nR {α:Type}{f:(Key→Key)→α→α}{c:α→Bool}(hf:∀ x,c x=true→f g (f i x)=x) {l:List α}(h:l.all c=true):(l.map (f i)).map (f g)=l:=by
 rw [YU] at h;rw [Y7]
 conv=>rhs;rw [← aaM l]
 exact Zj fun x hx=>hf x (h x hx)
theorem ij.vE {x:ij}(h:x.sU p=true):(x.br i).br g=x:=by
 cases x with
 | d x=>rfl
 | ptr k o=>simp only [ij.br,hp k h]
 | aI k o l z=>simp only [ij.br,hp k h]
theorem Ref.vE:∀ {x:Ref},x.sU p=true→(x.br i).br g=x
 | .d _,_=>rfl
 | .ptr k _,h=>by simp only [Ref.br,hp k h]
 | .aI k _ _ _,h=>by simp only [Ref.br,hp k h]
 | .agg cs,h=>by simp only [Ref.br];rw [nR hp (fun x hx=>ij.vE hp hx) h]
 | .ifc t x,h=>by simp only [Ref.br,Ref.vE (x:=x) h]
theorem CV.vE {x:CV}(h:x.sU p=true):(x.br i).br g=x:=by
 cases x with
 | d x=>rfl
 | ptr k o=>simp only [CV.br,hp k h]
 | aI k o l z=>simp only [CV.br,hp k h]
 | mapr k=>simp only [CV.br,hp k h]
 | func fn f c=>
  simp only [CV.sU,cy] at h;simp only [CV.br];rw [nR hp (fun x hx=>Ref.vE hp hx) h.1,nR hp (fun x hx=>Ref.vE hp hx) h.2]
 | ifc t x=>simp only [CV.br,Ref.vE hp (x:=x) h]
 | junk=>rfl
theorem AV.HS(h:x.Lr p=true) (ht:x.bV=true):(x.kM i).kM g=x:=by
 cases x with
 | c x=>simp only [AV.kM,CV.vE hp (x:=x) h]
 | agg cs=>simp only [AV.kM];rw [nR hp (fun x hx=>CV.vE hp hx) h]
 | tup l=>cases ht
 | undef=>rfl
 | junk=>rfl
theorem AV.vE(h:x.sU p=true) (hf:x.bu=true):(x.br i).br g=x:=by
 cases x with
 | c x=>exact AV.HS hp (x:=.c x) h rfl
 | agg cs=>exact AV.HS hp (x:=.agg cs) h rfl
 | tup l=>
  simp only [AV.bu,YU] at hf;simp only [AV.sU,YU] at h;simp only [AV.br,Y7];congr 1
  conv=>rhs;rw [← aaM l]
  refine Zj fun x hx=>AV.HS hp (h x hx) ?_;have:=hf x hx
  cases x <;> first|rfl|cases this
 | undef=>rfl
 | junk=>rfl
end
def LB.nu:LB→LB
 | .cells _ fz T cs=>.cells false fz T cs
 | .map _ es=>.map false es
 | x=>x
theorem LB.PI{i:Key→Key}(hp:∀ k,p k=true→g (i k)=k)(hc:b.sU p=true):b.as (b.br i) g:=by
 cases b with
 | hole=>rfl
 | dead=>intro h;cases h
 | bk=>rfl
 | cells own fz T cs=>exact⟨own,cs,rfl,(nR hp (fun x hx=>CV.vE hp hx) hc).symm,fun h=>h⟩
 | map own es=>
  have h2:=hc;simp only [LB.sU,YU,cy] at h2;refine⟨own,es,rfl,?_,fun h=>h,fun q hq l=>?_⟩
  ·simp only [Y7]
   conv=>lhs;rw [← aaM es]
   refine (Zj fun q hq=>?_);obtain⟨h3,h4⟩:=h2 q hq;simp only [Function.comp,id,AV.HS hp h3 h4]
  ·simp only [Zo] at hq;obtain⟨q0,hq0,rfl⟩:=hq;obtain⟨_,h4⟩:=h2 q0 hq0;intro e
   cases e2:q0.2 <;> rw [e2] at h4 e <;> first|(cases h4;done)|(simp only [AV.kM] at e;cases e;done)
theorem LB.JL {b':LB}(h:b.as b' g):b.as b'.nu g:=by
 cases b' with
 | cells own fz T cs=>obtain⟨o,c,h1,h2,h3⟩:=h;exact⟨o,c,h1,h2,fun e=>by cases e⟩
 | map own es=>obtain⟨o,c,h1,h2,h3,h4⟩:=h;exact⟨o,c,h1,h2,(fun e=>by cases e),h4⟩
 | hole=>exact h
 | dead=>exact h
 | bk=>exact h
def ij.ks:ij→List Key
 | .d _=>[]
 | .ptr k _=>[k]
 | .aI k _ _ _=>[k]
def Ref.ks:Ref→List Key
 | .d _=>[]
 | .ptr k _=>[k]
 | .aI k _ _ _=>[k]
 | .agg cs=>cs.flatMap ij.ks
 | .ifc _ x=>x.ks
def CV.ks:CV→List Key
 | .d _=>[]
 | .ptr k _=>[k]
 | .aI k _ _ _=>[k]
 | .mapr k=>[k]
 | .func _ f c=>f.flatMap Ref.ks++c.flatMap Ref.ks
 | .ifc _ x=>x.ks
 | .junk=>[]
def AV.Vp:AV→List Key
 | .c x=>x.ks
 | .agg cs=>cs.flatMap CV.ks
 | _=>[]
def AV.ks:AV→List Key
 | .tup l=>l.flatMap AV.Vp
 | x=>x.Vp
def LB.ks:LB→List Key
 | .cells _ _ _ cs=>cs.flatMap CV.ks
 | .map _ es=>es.flatMap fun q=>q.2.Vp
 | _=>[]
def reach (lv:Key→LB):Nat→List Key→Tr Nat→List Key→Nat→Option (Tr Nat × List Key)
 | 0,_,_,_,_=>none
 | _+1,[],t,l,_=>some (t,l.reverse)
 | f+1,k::r,t,l,n=>match t.get k with
  | some _=>reach lv f r t l n
  | none=>match t.set 30 k n with
   | some t'=>reach lv f ((lv k).ks++r) t' (k::l) (n+1)
   | none=>none
def qP (t:Tr Nat):Key→Key:=fun k=>match t.get k with|some j=>j|none=>0
def pT (t:Tr Nat)(g:Key→Key):Key→Bool:=fun k=>match t.get k with|some j=>Nat.beq (g j) k|none=>false
theorem Ta {t:Tr Nat}{k:Key}(h:pT t g k=true):g (qP t k)=k:=by
 unfold pT at h;unfold qP;split at h
 ·rename_i j hj;exact Y9 h
 ·cases h
def D1 (k:Nat):List Nat→Bool
 | []=>false
 | a::r=>Nat.beq a k || D1 k r
theorem nF {k:Nat}:∀ {l:List Nat},D1 k l=true↔k∈l
 | []=>by simp [D1]
 | a::r=>by
  simp only [D1,Zp,nF (l:=r),YT];constructor
  ·rintro (h|h)
   ·exact .inl (Y9 h).symm
   ·exact .inr h
  ·rintro (h|h)
   ·exact .inl (by subst h;exact Nat.beq_refl k)
   ·exact .inr h
def nodupB:List Nat→Bool
 | []=>true
 | a::r=>!D1 a r && nodupB r
theorem Ah:∀ {l:List Nat},nodupB l=true→l.Nodup
 | [],_=>abB
 | a::r,h=>by
  simp only [nodupB,cy,Zd] at h;refine List.nodup_cons.2 ⟨fun hm=>?_,Ah h.2⟩;rw [nF.2 hm] at h;cases h.1
def LB.isHole:LB→Bool
 | .hole=>true
 | _=>false
theorem LB.nj:b.isHole=true↔b=.hole:=by cases b <;> simp [LB.isHole]
def jd:Nat→Nat→List Nat
 | _,0=>[]
 | a,n+1=>a::jd (a+1) n
theorem kD:∀ (n a:Nat),(jd a n).length=n
 | 0,_=>rfl
 | n+1,a=>by simp [jd,kD n]
theorem qO:∀ (n a i:Nat) (h:i<(jd a n).length),(jd a n)[i]=a+i
 | 0,_,i,h=>absurd h (ZN i)
 | n+1,a,0,h=>rfl
 | n+1,a,i+1,h=>by
  simp only [jd,List.getElem_cons_succ];rw [qO n];omega
structure Pass where
 us:List AV
 σ:List LB
 sel:List Key
 t:Tr Nat
def Fg (lv:Key→LB)(as:List AV):Option Pass:=
 match reach lv 1000000 (as.flatMap AV.ks) .nil [] 0 with
 | some (t,sel)=>some ⟨as.map (AV.br (qP t)),sel.map fun k=>((lv k).br (qP t)).nu,sel,t⟩
 | none=>none
def xK (lv:Key→LB)(as:List AV)(q:Pass)(nk:List Key)(kh:Key):Bool:=
 let p:=pT q.t (aF q.sel nk kh)
 as.all (fun a=>a.sU p && a.bu) && q.us.all AV.bu && q.sel.all (fun k=>(lv k).sU p && !(lv k).isHole) && q.σ.all LB.pass &&
  nodupB (q.sel++nk) && !D1 kh (q.sel++nk) && nk.all (fun k=>(lv k).isHole) && (lv kh).isHole && Nat.ble q.σ.length 1000
def Fj (q:Pass)(nk:List Key)(σ' ν:List LB):Bool:=
 Nat.beq σ'.length q.σ.length && Nat.beq nk.length ν.length && (σ'++ν).all (fun b=>!b.isHole)
theorem BA {lv:Key→LB}{p:Key→Bool}{R:List Key}(h1:∀ k,p k=true→k∈R) (h2:∀ k∈R,(lv k).sU p=true):∀ (n:Nat) (x:CV),x.sU p=true→∀ k∈fY lv n x,k∈R
 | n+1,.ptr k _,hx,j,hj=>by
  simp only [fY,YT] at hj;rcases hj with rfl|hj
  ·exact h1 _ hx
  ·have h3:=h2 k (h1 _ hx)
   cases e:lv k with
   | cells own fz T cs=>
    rw [e] at hj h3;simp only [ZY] at hj;obtain⟨y,hy,hj⟩:=hj;simp only [LB.sU,YU] at h3;exact BA h1 h2 n y (h3 y hy) j hj
   | _=>rw [e] at hj;cases hj
 | n+1,.aI k _ _ _,hx,j,hj=>by
  simp only [fY,YT] at hj;rcases hj with rfl|hj
  ·exact h1 _ hx
  ·have h3:=h2 k (h1 _ hx)
   cases e:lv k with
   | cells own fz T cs=>
    rw [e] at hj h3;simp only [ZY] at hj;obtain⟨y,hy,hj⟩:=hj;simp only [LB.sU,YU] at h3;exact BA h1 h2 n y (h3 y hy) j hj
   | _=>rw [e] at hj;cases hj
 | 0,.ptr ..,_,_,hj=>by cases hj
 | 0,.aI ..,_,_,hj=>by cases hj
 | n,.d _,_,_,hj=>by cases n <;> cases hj
 | n,.mapr _,_,_,hj=>by cases n <;> cases hj
 | n,.func ..,_,_,hj=>by cases n <;> cases hj
 | n,.ifc ..,_,_,hj=>by cases n <;> cases hj
 | n,.junk,_,_,hj=>by cases n <;> cases hj
theorem Qc{R:List Key}(h1:∀ k,p k=true→k∈R) (h2:∀ k∈R,(lv k).sU p=true)(hx:x.sU p=true):∀ k∈jo lv x,k∈R:=by
 cases x with
 | c x=>exact BA h1 h2 8 x hx
 | agg cs=>
  intro k hk;simp only [jo,ZY] at hk;obtain⟨y,hy,hk⟩:=hk;simp only [AV.sU,AV.Lr,YU] at hx;exact BA h1 h2 8 y (hx y hy) k hk
 | _=>intro k hk;cases hk
theorem FK {sel:List Key}{j:Key}:aF sel nk kh j∈sel∨aF sel nk kh j∈nk∨aF sel nk kh j=kh:=by
 unfold aF;split
 ·rw [hJ]
  by_cases h:j<sel.length
  ·left;rw [cn h];exact cq h
  ·right;right;rw [ZU (abe h)];rfl
 ·rw [hJ]
  by_cases h:j - 1000<nk.length
  ·right;left;rw [cn h];exact cq h
  ·right;right;rw [ZU (abe h)];rfl
theorem bM.pass {c:Ctx}{f:FuncId}{as:List AV}{q:Pass}{σ' ν:List LB}(hq:Fg lv as=some q) (h1:xK lv as q nk kh=true) (h2:Fj q nk σ' ν=true)
 (hc:aG c.P c.G f q.us q.σ (.ret x σ' ν)):bM c f as lv (x.br (aF q.sel nk kh)) (bB (aF q.sel nk kh) false q.sel σ'++bB (aF q.sel nk kh) false nk ν) (kh::q.sel++nk):=by
 unfold Fg at hq;split at hq
 ·rename_i t sel hr
  simp only [ai] at hq;subst hq;simp only [xK,cy,YU,Zd] at h1;obtain⟨⟨⟨⟨⟨⟨⟨⟨a1,a2⟩,a3⟩,a4⟩,a5⟩,a6⟩,a7⟩,a8⟩,a9⟩:=h1;simp only [Fj,cy,YU,Zd] at h2;obtain⟨⟨b1,b2⟩,b3⟩:=h2;have hp:∀ k,pT t (aF sel nk kh) k=true→aF sel nk kh (qP t k)=k:=fun k h=>Ta h
  have e1:=Y9 b1;have e2:=Y9 b2;have hnh:∀ b:LB,b.isHole=false→b≠.hole:=fun b h e=>by rw [e] at h;cases h
  refine bM.gen (as.map (AV.br (qP t))) [] sel nk kh (sel.map fun k=>((lv k).br (qP t)).nu) σ' ν x false (kh::sel++nk) (fun z hz=>by cases hz) (by simp) (Ah a5) (fun z hz=>by cases hz)
   (fun hm=>by rw [nF.2 hm] at a6;cases a6) (fun z hz=>by cases hz) (by simp) e1 e2 (Ze a9)
   (fun i p q=>?_) (fun k hk=>LB.nj.1 (a7 k hk)) (LB.nj.1 a8) a4 (fun b hb=>?_) (fun h=>by cases h) (by simp) (fun i p q=>?_) (fun a ha k hk=>.inl ?_) (by simp) hc
  ·have e:(sel.map fun k=>((lv k).br (qP t)).nu)[i]=((lv sel[i]).br (qP t)).nu:=sr _;show LB.as _ ((sel.map fun k=>((lv k).br (qP t)).nu)[i]) _;rw [e];exact LB.JL (LB.PI hp (a3 _ (cq p)).1)
  ·rw [YZ,ZM] at hb;rcases hb with hb|hb
   ·obtain⟨k,hk,rfl⟩:=List.mem_map.1 hb;have h3:=hnh _ (a3 k hk).2;intro e
    cases e2:lv k <;> rw [e2] at e h3 <;> simp [LB.br,LB.nu] at e h3
   ·exact hnh b (b3 b hb)
  ·left;have e:(as.map (AV.br (qP t)))[i]=(as[i]).br (qP t):=sr _;show AV.bu ((as.map (AV.br (qP t)))[i])=true∧_=AV.br _ ((as.map (AV.br (qP t)))[i]);rw [e];have ha:=a1 _ (cq p);refine⟨a2 _ ?_,(AV.vE hp ha.1 ha.2).symm⟩;simp only [Zo];exact⟨_,cq p,rfl⟩
  ·have ha:=a1 a ha;refine Qc (p:=pT t (aF sel nk kh)) (lv:=lv) (fun k h=>?_) (fun k hk'=>?_) ha.1 k (by simpa [ec,aR] using hk)
   ·have h4:=hp k h;rw [← h4];rcases FK (sel:=sel) (nk:=nk) (kh:=kh) (j:=qP t k) with h5|h5|h5
    ·simp [h5]
    ·simp [h5]
    ·rw [h5];simp
   ·simp only [Z3,YT,ZM] at hk';rcases hk' with rfl|hk'|hk'
    ·rw [LB.nj.1 a8];rfl
    ·exact (a3 k hk').1
    ·rw [LB.nj.1 (a7 k hk')];rfl
 ·cases hq
end Go.Am
namespace Go.Am
variable {x y v z:AV}{κ i j id u:Nat}{T T' S ty:TypeId}{f:FuncId}{s:au}{a1 a2 a3 a4 vc a5 a6 φ a7:Prop}{c:Ctx}{xs xs' args:List AV}{Q:Ex→au→Nat→Prop}{lv:Key→LB}{o:Op}{r:Option Nat}{n:Int}{K:AV→List (Key × LB)→List Key→Nat→Prop}{w:Bool}{α:Type}{G:List (List DV)}{fn:Func}{rds:List Key}{os:List Oper}{ts:Array TypeId}{P:Program}{d:Option Tmp}{a b:Unit→Prop}{ops:Array Oper}{gd:List (Option Tmp)}{fr:Nat→AV}{k k':IntKind}{op:BinOp}{l h:Operand}{code:Code}{pos:String}{af:Array Edge}{parts:Array (Nat × Operand)}
inductive cV where
 | bad (n:Nat) (o:List Op)
 | done (x:AV) (lv:Tb LB) (nx:Nat) (lg:List Key)
 | tq (d:DV) (lv:Tb LB) (nx:Nat) (lg:List Key)
abbrev E2:=AV→Tb LB→Nat→List Key→cV
abbrev Of:=DV→Tb LB→Nat→List Key→cV
abbrev er:=FuncId→List AV→Tb LB→Nat→List Key→E2→Of→cV
abbrev Q4:=Ex→Tb AV→Tb LB→Nat→List Key→cV
noncomputable def lT(x:Option α) (b:cV) (k:α→cV):cV:=Option.rec (motive:=fun _=>cV) b (fun a=>k a) x
noncomputable def eS (x:Bool)(f t:cV):cV:=Bool.rec (motive:=fun _=>cV) f t x
theorem dG{x:Option α}{b r:cV}{k:α→cV}(h:lT x b k=r) (hb:b≠r):∃ a,x=some a∧k a=r:=by
 cases x with
 | none=>exact absurd h hb
 | some a=>exact⟨a,rfl,h⟩
theorem dj {x:Bool}{f t r:cV}(h:eS x f t=r) (hf:f≠r):x=true∧t=r:=by
 cases x with
 | false=>exact absurd h hf
 | true=>exact⟨rfl,h⟩
section
variable (P:Program) (G:List (List DV))
noncomputable def zx (fr:Tb AV)(x:Operand):AV:=
 Operand.rec (motive:=fun _=>AV) (fun t=>fr.get .undef (pathOf t)) (fun v=>qV v) (fun g=>match G[g]? with|some cs=>.c (.d (.ptr cs))|none=>.junk) (fun f=>.c (.d (.func (.func f) [] []))) x
noncomputable def gG (fr:Tb AV)(l:List Operand):List AV:=
 List.rec (motive:=fun _=>List AV) [] (fun x _ ih=>zx G fr x::ih) l
noncomputable def Ao (us:List (Key × LB))(lv:Tb LB)(lg:List Key)(k:Tb LB→List Key→cV):cV:=
 List.rec (motive:=fun _=>Tb LB→List Key→(Tb LB→List Key→cV)→cV) (fun lv lg k=>k lv lg)
  (fun p _ ih lv lg k=>dw p.1 fun q=>uN p.2 fun b=>eS b.okB (.bad 3 []) (Tb.A9 .hole b (pathOf q) lv fun lv=>ih lv (q::lg) k)) us lv lg k
noncomputable def eI (d:Option Nat)(x:AV)(fr:Tb AV)(k:Tb AV→cV):cV:=
 Option.rec (motive:=fun _=>cV) (k fr) (fun d=>dY x fun x=>Tb.A9 .undef x (pathOf d) fr k) d
noncomputable def ON (op:Op)(vals:List AV)(lv:Tb LB)(nx:Nat)(k:AV→List (Key × LB)→List Key→cV):cV:=
 Option.rec (motive:=fun _=>cV) (lT (cU P op vals (aV lv) nx) (.bad 2 [op]) fun r=>k r.1 r.2.1 r.2.2)
  (fun r=>eS r.2.2.2 (lT (cU P op vals (aV lv) nx) (.bad 1 [op]) fun r=>k r.1 r.2.1 r.2.2) (k r.1 r.2.1 r.2.2.1)) (qY P op vals (aV lv) nx)
noncomputable def MF (nx:Nat)(us:List (Key × LB))(k:Nat→cV):cV:=
 List.rec (motive:=fun _=>cV) (k nx) (fun p _ ih=>eS (Nat.beq p.1 nx) ih (dw nx fun n=>k (Nat.succ n))) us
structure Rec where
 x:AV
 us:List (Key × LB)
 rds:List Key
 all:Bool
 lv:Tb LB
 op:Op
 vals:List AV
 nx:Nat
inductive Rr where
 | tq (x:Operand)
 | call (cl:Call) (fo:Operand)
 | plain
def uq (op:Op):Rr:=
 match op with
 | .panic x=>.tq x
 | .call cl=>match cl.callee with|.value fo=>.call cl fo|_=>.plain
 | _=>.plain
noncomputable def JB (x:AV)(k:DV→cV)(b:cV):cV:=
 match x with
 | .c (.d (.iface t d))=>k (.iface t d)
 | _=>b
noncomputable def Mn (f:FuncId)(t:cV):cV:=eS (aT P f) (.bad 4 []) t
noncomputable def uZ (call:er)(op:Op)(cl:Call)(fo:Operand)(fr:Tb AV)(lv:Tb LB)(nx:Nat)(lg:List Key)(kr:E2)(kp:Of):cV:=
 lT (cj (zx G fr fo)) (.bad 5 [op]) fun t=>Mn P t.1 (call t.1 (t.2.1++gG G fr cl.args.toList++t.2.2) lv nx lg kr kp)
noncomputable def xZ (call:er)(ops:Array Oper)(os:List Oper)(fr:Tb AV)(lv:Tb LB)(nx:Nat)(lg:List Key)(k:Q4):cV:=
 List.rec (motive:=fun _=>Tb AV→Tb LB→Nat→List Key→Q4→cV) (fun fr lv nx lg k=>k .normal fr lv nx lg)
  (fun o _ ih fr lv nx lg k=>lT (eC ops o.guard (jO fr)) (.bad 6 [o.op]) fun b=>
   eS b (eI o.dst .undef fr fun fr=>ih fr lv nx lg k)
    (Rr.rec (motive:=fun _=>cV)
     (fun x=>JB (zx G fr x) (fun d=>k (.panic d) fr lv nx lg) (.bad 7 [o.op]))
     (fun cl fo=>uZ P G call o.op cl fo fr lv nx lg (fun x lv nx lg=>eI o.dst x fr fun fr=>ih fr lv nx lg k) (fun d lv nx lg=>k (.panic d) fr lv nx lg))
     (ON P o.op (gG G fr o.op.operands.toList) lv nx fun x us _=>MF nx us fun nx'=>eI o.dst x fr fun fr=>Ao us lv lg fun lv lg=>ih fr lv nx' lg k)
     (uq o.op))) os fr lv nx lg k
noncomputable def Jq (σ:List LB)(i:Nat)(lv:Tb LB)(k:Tb LB→cV):cV:=
 List.rec (motive:=fun _=>Nat→Tb LB→(Tb LB→cV)→cV) (fun _ lv k=>k lv) (fun x _ ih i lv k=>uN x fun x=>Tb.A9 .hole x (pathOf i) lv fun lv=>ih (Nat.succ i) lv k) σ i lv k
noncomputable def JT (lv:Tb LB)(nx:Nat)(as:List AV)(q:Pass)(x:AV)(lv':Tb LB)(n':Nat)(lg:List Key)(k:AV→List (Key × LB)→List Key→Nat→cV):cV:=
 let σ':=(jd 0 q.σ.length).map (aV lv')
 let ν:=(jd 1000 (n' - 1000)).map (aV lv')
 let nk:=jd nx ν.length
 let kh:=nx+ν.length
 let g:=aF q.sel nk kh
 eS (lg.all (fun a=>Nat.blt a q.σ.length || (Nat.ble 1000 a && Nat.blt a n')) && xK (aV lv) as q nk kh && Fj q nk σ' ν) (.bad 40 [])
  (k (x.br g) (bB g false q.sel σ'++bB g false nk ν) (kh::q.sel++nk) (kh+1))
noncomputable def WK (r:cV)(k:AV→Tb LB→Nat→List Key→cV):cV:=
 cV.rec (motive:=fun _=>cV) (fun n o=>.bad n o) (fun x lv nx lg=>k x lv nx lg) (fun _ _ _ _=>.bad 41 []) r
noncomputable def tX (call:er)(op:Op)(cl:Call)(fo:Operand)(fr:Tb AV)(lv:Tb LB)(nx:Nat)(k:AV→List (Key × LB)→List Key→Nat→cV):cV:=
 lT (cj (zx G fr fo)) (.bad 42 [op]) fun t=>Mn P t.1 (
  lT (Fg (aV lv) (t.2.1++gG G fr cl.args.toList++t.2.2)) (.bad 43 [op]) fun q=>Jq q.σ 0 .leaf fun l0=>
   WK (call t.1 q.us l0 1000 [] .done .tq) fun x lv' n' lg=>JT lv nx (t.2.1++gG G fr cl.args.toList++t.2.2) q x lv' n' lg k)
def Ti (op:Op):Bool:=
 match op with
 | .alloc _|.box _ _|.buildSlice _ _ _|.insert _ _ _ _|.store _ _ _|.makeMap _ _|.makeSlice _ _ _|.mapUpdate _ _ _ _|.mapEntry _ _ _|.entryStore _ _ _ _=>true
 | .call cl=>match cl.callee with|.builtin .append|.builtin .copy|.builtin .unsafeString|.builtin .clear|.builtin .delete=>true|_=>false
 | _=>false
def Ch:Rr→Bool
 | .call _ _=>true
 | _=>false
def NX (ops:Array Oper):Bool:=
 let ms:=fX ops.toList []
 (List.range ops.size).any fun j=>(List.range j).any fun i=>!(ms.getD j 0).testBit i && (match ops[i]?,ops[j]? with
  | some o,some o'=>(Ch (uq o.op) && (Ti o'.op || Ch (uq o'.op))) || (Ch (uq o'.op) && Ti o.op)
  | _,_=>false)
noncomputable def iU (call:er)(ops:Array Oper)(os:List Oper)(fr:Tb AV)(lv:Tb LB)(nx:Nat)(lg:List Key)(acc:List Rec)(k:List Rec→Tb AV→Tb LB→Nat→List Key→cV):cV:=
 List.rec (motive:=fun _=>Tb AV→Tb LB→Nat→List Key→List Rec→(List Rec→Tb AV→Tb LB→Nat→List Key→cV)→cV) (fun fr lv nx lg acc k=>k acc fr lv nx lg)
  (fun o _ ih fr lv nx lg acc k=>lT (eC ops o.guard (jO fr)) (.bad 8 [o.op]) fun b=>
   eS b (eI o.dst .undef fr fun fr=>ih fr lv nx lg (⟨.undef,[],[],false,lv,o.op,[],nx⟩::acc) k)
    (Rr.rec (motive:=fun _=>cV)
     (fun _=>.bad 9 [o.op])
     (fun cl fo=>eS (NX ops)
      (uZ P G call o.op cl fo fr lv nx [] (fun x lv' nx' lg'=>dY x fun x=>eI o.dst x fr fun fr=>ih fr lv' nx' (lg'++lg) (⟨x,lg'.map fun q=>(q,aV lv' q),[],true,lv,o.op,[],nx⟩::acc) k) (fun _ _ _ _=>.bad 10 [o.op]))
      (tX P G call o.op cl fo fr lv nx fun x us rds nx'=>dY x fun x=>eI o.dst x fr fun fr=>Ao us lv lg fun lv' lg=>ih fr lv' nx' lg (⟨x,us,rds,false,lv,o.op,[],nx⟩::acc) k))
     (ON P o.op (gG G fr o.op.operands.toList) lv nx fun x us rds=>MF nx us fun nx'=>dY x fun x=>eI o.dst x fr fun fr'=>Ao us lv lg fun lv' lg=>ih fr' lv' nx' lg (⟨x,us,rds,false,lv,o.op,gG G fr o.op.operands.toList,nx⟩::acc) k)
     (uq o.op))) os fr lv nx lg acc k
end
def JH (a b:DV):Bool:=
 match a,b with
  | .bool x,.bool y=>x == y
  | .int k x,.int k' y=>decide (k=k') && x == y
  | .str x,.str y=>x == y
  | .nilp,.nilp=>true
  | .nilsl,.nilsl=>true
  | .nilIface,.nilIface=>true
  | .nilFunc,.nilFunc=>true
  | .nilmap,.nilmap=>true
  | _,_=>false
theorem KH {a b:DV}(h:JH a b=true):a=b:=by
 unfold JH at h;split at h <;> first|rfl|(simp only [beq_iff_eq] at h;rw [h];done)|(simp only [cy,decide_eq_true_eq,beq_iff_eq] at h;rw [h.1,h.2];done)|cases h
def CV.beq:CV→CV→Bool
 | .d a,.d b=>JH a b
 | .ptr k o,.ptr k' o'=>Nat.beq k k' && Nat.beq o o'
 | .aI k o l z,.aI k' o' l' z'=>Nat.beq k k' && Nat.beq o o' && Nat.beq l l' && Nat.beq z z'
 | .mapr k,.mapr k'=>Nat.beq k k'
 | _,_=>false
theorem CV.beq_eq {x y:CV}(h:CV.beq x y=true):x=y:=by
 unfold CV.beq at h;split at h
 ·rw [KH h]
 ·simp only [cy] at h;rw [Y9 h.1,Y9 h.2]
 ·simp only [cy] at h;rw [Y9 h.1.1.1,Y9 h.1.1.2,Y9 h.1.2,Y9 h.2]
 ·rw [Y9 h]
 ·cases h
def HI:List CV→List CV→Bool
 | [],[]=>true
 | a::l,b::m=>CV.beq a b && HI l m
 | _,_=>false
theorem Da:∀ {l m:List CV},HI l m=true→l=m
 | [],[],_=>rfl
 | a::l,b::m,h=>by simp only [HI,cy] at h;rw [CV.beq_eq h.1,Da h.2]
 | [],_::_,h=>by cases h
 | _::_,[],h=>by cases h
def AV.beq:AV→AV→Bool
 | .c a,.c b=>CV.beq a b
 | .agg a,.agg b=>HI a b
 | _,_=>false
theorem AV.beq_eq(h:AV.beq x y=true):x=y:=by
 unfold AV.beq at h;split at h
 ·rw [CV.beq_eq h]
 ·rw [Da h]
 ·cases h
section
variable (P:Program) (G:List (List DV))
noncomputable def Dj (f:Rec)(k:Key)(b:LB):Bool:=
 match qY P f.op f.vals (aD (aV f.lv) k b) f.nx with
 | some (x,[],[k'],true)=>AV.beq x f.x && Nat.beq k' k
 | _=>false
def Bd:List α→Bool
 | []=>true
 | _=>false
def NN (k:Key):List Key→Bool
 | [a]=>Nat.beq a k
 | _=>false
noncomputable def FD (f g:Rec):Bool:=
 (!f.all || Bd g.us) && (!g.all || Bd f.us) && f.us.all (fun p=>!(g.us.any fun q=>Nat.beq q.1 p.1)) &&
 f.us.all (fun p=>!D1 p.1 g.rds || (Bd g.us && NN p.1 g.rds && Dj P g p.1 (aV f.lv p.1))) &&
 g.us.all (fun p=>!D1 p.1 f.rds || (Bd f.us && NN p.1 f.rds && Dj P f p.1 (aR (fun _=>.hole) (tw g.us) p.1)))
noncomputable def Rec.quiet (f:Rec):Bool:=Bd f.us && !f.all
noncomputable def Rec.idle (f:Rec):Bool:=Bd f.us && Bd f.rds && !f.all
noncomputable def Oe (ms:List Nat)(fs:List Rec):Bool:=
 pairs ms fs 0 []
where
 pairs (ms:List Nat):List Rec→Nat→List (Nat × Rec)→Bool
 | [],_,_=>true
 | g::r,j,before=>
  bif Rec.idle g then pairs ms r (j+1) before else
   before.all (fun p=>(Rec.quiet g && Rec.quiet p.2) || (ms.getD j 0).testBit p.1 || FD P p.2 g) && pairs ms r (j+1) ((j,g)::before)
abbrev RunT:=er→Nat→Tb AV→Tb LB→Nat→List Key→Q4→cV
noncomputable def YR (e:Ex)(n:cV)(r:cV)(x:Nat→cV)(p:cV):cV:=
 Ex.rec (motive:=fun _=>cV) n x (fun _=>p) r (fun _=>p) e
noncomputable def Lp:RunT:=fun _ _ fr lv nx lg k=>k .normal fr lv nx lg
noncomputable def C2 (_:Nat)(ops:Array Oper)(dr:Bool):RunT:=fun call N fr lv nx lg k=>
 eS (cu N ops.toList) (.bad 11 []) (Bool.rec (motive:=fun _=>cV) (xZ P G call ops ops.toList fr lv nx lg k)
  (eS (eX ops) (.bad 12 []) (iU P G call ops ops.toList fr lv nx lg [] fun acc fr lv nx lg=>eS (Oe P (fX ops.toList []) acc.reverse) (.bad 13 (ops.toList.map (·.op))) (k .normal fr lv nx lg))) dr)
noncomputable def Pd (_ _:Code)(a b:RunT):RunT:=fun call N fr lv nx lg k=>
 a call N fr lv nx lg fun e fr lv nx lg=>Ex.rec (motive:=fun _=>cV) (b call N fr lv nx lg k) (fun i=>k (.exit i) fr lv nx lg) (fun i=>k (.goto i) fr lv nx lg) (k .ret fr lv nx lg) (fun d=>k (.panic d) fr lv nx lg) e
noncomputable def L4 (x:AV)(f t:cV):cV:=
 match x with
 | .c (.d (.bool b))=>eS b f t
 | _=>.bad 14 []
noncomputable def Jp (c:Operand)(_ _:Code)(a b:RunT):RunT:=fun call N fr lv nx lg k=>
 L4 (zx G fr c) (b call N fr lv nx lg k) (a call N fr lv nx lg k)
noncomputable def Hl (id:Nat)(_:Code)(a:RunT):RunT:=fun call N fr lv nx lg k=>
 a call N fr lv nx lg fun e fr lv nx lg=>Ex.rec (motive:=fun _=>cV) (k .normal fr lv nx lg) (fun i=>Bool.rec (motive:=fun _=>cV) (k (.exit i) fr lv nx lg) (k .normal fr lv nx lg) (Nat.beq i id)) (fun i=>k (.goto i) fr lv nx lg) (k .ret fr lv nx lg) (fun d=>k (.panic d) fr lv nx lg) e
noncomputable def KA (a:RunT)(call:er)(N:Nat)(n:Nat):Tb AV→Tb LB→Nat→List Key→Q4→cV:=
 Nat.rec (motive:=fun _=>Tb AV→Tb LB→Nat→List Key→Q4→cV) (fun _ _ _ _ _=>.bad 15 [])
  (fun _ ih fr lv nx lg k=>a call N fr lv nx lg fun e fr lv nx lg=>Ex.rec (motive:=fun _=>cV) (ih fr lv nx lg k) (fun i=>k (.exit i) fr lv nx lg) (fun i=>k (.goto i) fr lv nx lg) (k .ret fr lv nx lg) (fun d=>k (.panic d) fr lv nx lg) e) n
noncomputable def JX (_:Code)(a:RunT):RunT:=fun call N=>KA a call N 1000000
noncomputable def Px (id:Nat):RunT:=fun _ _ fr lv nx lg k=>k (.exit id) fr lv nx lg
noncomputable def Qb (id:Nat):RunT:=fun _ _ fr lv nx lg k=>k (.goto id) fr lv nx lg
noncomputable def To:RunT:=fun _ _ fr lv nx lg k=>k .ret fr lv nx lg
noncomputable def Hf:RunT:=fun _ _ _ _ _ _ _=>.bad 16 []
noncomputable def runK (c:Code):RunT:=
 Code.rec (motive:=fun _=>RunT) Lp (C2 P G) Pd (Jp G) Hl JX (fun _ _ _ _ _ _=>Hf) Px (fun _ _=>Hf) (fun _=>Lp) Qb To (fun _=>Hf) c
noncomputable def KS (us:List AV)(i:Nat)(fr:Tb AV)(k:Tb AV→cV):cV:=
 List.rec (motive:=fun _=>Nat→Tb AV→(Tb AV→cV)→cV) (fun _ fr k=>k fr) (fun x _ ih i fr k=>Tb.A9 .undef x (pathOf i) fr fun fr=>ih (Nat.succ i) fr k) us i fr k
inductive Spec where
 | body
 | pure (g:List AV→Option AV)
 | caught
 | self (g:Nat→Nat→Nat→Bool)
noncomputable def Nf (call:er)(f:FuncId)(us:List AV)(lv:Tb LB)(nx:Nat)(lg:List Key)(kr:E2)(kp:Of):cV:=
 lT P.funcs[f]? (.bad 17 []) fun fn=>lT fn.body (.bad 18 []) fun c=>eS (Nat.ble us.length fn.ntmps) (.bad 19 []) (
  KS us 0 .leaf fun fr=>runK P G c call fn.ntmps fr lv nx lg fun e fr lv nx lg=>
   Ex.rec (motive:=fun _=>cV) (lT (cM P ⟨jO fr,aV lv⟩ fn.results.toList) (.bad 20 []) fun x=>dY x fun x=>kr x lv nx lg) (fun _=>.bad 21 []) (fun _=>.bad 22 []) (lT (cM P ⟨jO fr,aV lv⟩ fn.results.toList) (.bad 23 []) fun x=>dY x fun x=>kr x lv nx lg)
    (fun d=>kp d lv nx lg) e)
noncomputable def wQ (ft:TypeId)(call:er)(us:List AV)(lv:Tb LB)(nx:Nat)(lg:List Key)(kr:E2):cV:=
 match us with
 | [x]=>lT (cj x) (.bad 24 []) fun t=>Mn P t.1 (call t.1 (t.2.1++t.2.2) lv nx lg (fun _ lv nx lg=>kr (.c (.d (.int .i64 0))) lv nx lg)
  (fun d lv nx lg=>match d with
   | .iface t (.agg [.int .i64 n])=>eS (Nat.beq t ft) (.bad 25 []) (kr (.c (.d (.int .i64 n))) lv nx lg)
   | _=>.bad 26 []))
 | _=>.bad 27 []
noncomputable def Hq (g:Nat→Nat→Nat→Bool)(us:List AV)(lv:Tb LB)(nx:Nat)(lg:List Key)(kr:E2):cV:=
 match us with
 | [.c (.ptr k off)]=>(match aV lv k with
  | .cells own false T cs=>eS (g T off cs.length) (.bad 34 []) (match cs.drop off with
   | .d .nilp::_=>Ao [(k,.cells own false T (aj cs off [.ptr k off]))] lv lg fun lv lg=>kr (.tup []) lv nx lg
   | .ptr k' off'::_=>eS (Nat.beq k' k && Nat.beq off' off) (.bad 30 []) (kr (.tup []) lv nx lg)
   | _=>.bad 31 [])
  | _=>.bad 32 [])
 | _=>.bad 33 []
noncomputable def Rx (sp:Tb Spec)(ft:TypeId)(n:Nat):er:=
 Nat.rec (motive:=fun _=>er) (fun _ _ _ _ _ _ _=>.bad 28 [])
  (fun _ ih f us lv nx lg kr kp=>Spec.rec (motive:=fun _=>cV) (Nf P G ih f us lv nx lg kr kp) (fun g=>lT (g us) (.bad 29 []) fun x=>dY x fun x=>kr x lv nx lg) (wQ P ft ih us lv nx lg kr) (fun g=>Hq g us lv nx lg kr) (sp.get .body (pathOf f))) n
end
def gY (r:Option bW)(κ:Nat)(K:AV→List (Key × LB)→List Key→Nat→Prop):Prop:=
 match r with
 | some (x,us,rds,vc)=>vc∧K x us rds (match us with|[]=>κ|_=>κ+1)
 | none=>False
@[simp ↓] theorem UO:gY (some (x,[],rds,vc)) κ K=(vc∧K x [] rds κ):=rfl
@[simp ↓] theorem TN{p:Key × LB}{us:List (Key × LB)}:gY (some (x,p::us,rds,vc)) κ K=(vc∧K x (p::us) rds (κ+1)):=rfl
@[simp ↓] theorem SR:gY none κ K=False:=rfl
@[congr] theorem Ra {r r':Option bW}(h:∀ _:Unit,r=r'):gY r κ K=gY r' κ K:=by rw [h ()]
def lG (w:Option Bool)(a b:Unit→Prop):Prop:=match w with|some true=>a ()|some false=>b ()|none=>False
@[simp ↓] theorem Sr:lG (some true) a b=a ():=rfl
@[simp ↓] theorem TF:lG (some false) a b=b ():=rfl
@[congr] theorem Oo {w w':Option Bool}(h:∀ _:Unit,w=w'):lG w a b=lG w' a b:=by rw [h ()]
def oy (o:Option Tmp)(f:Tmp→Prop):Prop:=match o with|some t=>f t|none=>False
@[simp ↓] theorem SL {t:Tmp}{f:Tmp→Prop}:oy (some t) f=f t:=rfl
@[congr] theorem Nt {o o':Option Tmp}{f:Tmp→Prop}(h:∀ _:Unit,o=o'):oy o f=oy o' f:=by rw [h ()]
def oz (c:Ctx)(ops:Array Oper)(os:List Oper)(s:au)(κ:Nat)(K:au→Nat→Prop):Prop:=fM c ops os s κ [] fun s κ _=>K s κ
theorem me {c:Ctx}{ops:Array Oper}{K:au→Nat→Prop}:∀ {os:List Oper}{s:au}{κ:Nat}{acc acc':List Fx},fM c ops os s κ acc (fun s κ _=>K s κ)=fM c ops os s κ acc' (fun s κ _=>K s κ)
 | [],s,κ,_,_=>rfl
 | o::os,s,κ,acc,acc'=>by
  simp only [fM];split
  ·congr 1;funext x us rds κ';exact me
  ·exact me
  ·rfl
section
variable {c:Ctx}{ops:Array Oper}{s:au}{κ:Nat}{d:Option Tmp}{ty:TypeId}{pos:String}{af:Array Edge}{K:AV→List (Key × LB)→List Key→Nat→Prop}
@[simp ↓] theorem Rz {K:au→Nat→Prop}:oz c ops [] s κ K=K s κ:=rfl
@[simp ↓] theorem FC{K:au→Nat→Prop}:oz c ops (⟨d,o,ty,pos,af,none⟩::os) s κ K =
 dz c ⟨d,o,ty,pos,af,none⟩ s κ fun x us _ κ'=>oz c ops os (au.put ⟨s.fr,aR s.lv us⟩ d x) κ' K:=by
 simp only [oz,fM,eC];congr 1;funext x us rds κ';exact me
def oE (x:AV)(want:Bool):Option Bool:=
 match x with
 | .c (.d (.bool b))=>some (b == want)
 | .undef=>some false
 | _=>none
@[simp ↓] theorem DJ{K:au→Nat→Prop}:oz c ops (⟨d,o,ty,pos,af,some (j,w)⟩::os) s κ K =
 oy ((ops[j]?).bind (·.dst)) fun t=>lG (oE (s.fr t) w)
  (fun _=>dz c ⟨d,o,ty,pos,af,some (j,w)⟩ s κ fun x us _ κ'=>oz c ops os (au.put ⟨s.fr,aR s.lv us⟩ d x) κ' K)
  (fun _=>oz c ops os (s.put d .undef) κ K):=by
 simp only [oz,fM,eC,oy,lG]
 cases hj:(ops[j]?).bind (·.dst) with
 | none=>rfl
 | some t=>
  simp only [oE]
  cases e:s.fr t with
  | c x=>
   cases x with
   | d x=>cases x with
    | bool b=>
     simp only
     cases b <;> cases w <;> simp only [BEq.rfl,Bool.beq_eq_decide_eq,decide_false,reduceCtorEq] <;> first|(congr 1;funext x us rds κ';exact me)|exact me
    | _=>rfl
   | _=>rfl
  | undef=>simp only;exact me
  | _=>rfl
@[simp] theorem Rg:aR lv []=lv:=rfl
@[simp] theorem RW{p:Key × LB}:aR lv [p]=aD lv p.1 p.2:=rfl
theorem PO{f:Nat→α}{k t:Nat}{x:α}:aD f k x t=if t=k then x else f t:=rfl
@[simp] theorem sW {s:au}:s.put none x=s:=rfl
@[simp] theorem Se{t:Nat}:au.put ⟨fr,lv⟩ (some t) x=⟨aD fr t x,lv⟩:=rfl
@[simp] theorem UC{t:Nat}:s.val G (.tmp t)=s.fr t:=rfl
@[simp] theorem Rc{v:Value}:s.val G (.const v)=qV v:=rfl
@[simp] theorem TJ:s.val G (.func f)=.c (.d (.func (.func f) [] [])):=rfl
@[simp] theorem Qx{g:Nat}:s.val G (.global g)=match G[g]? with|some cs=>.c (.d (.ptr cs))|none=>.junk:=rfl
@[simp] theorem SE {b:Bool}:qV (.bool b)=.c (.d (.bool b)):=rfl
theorem sX(h:k.wrap n=n):qV (.int k n)=.c (.d (.int k n)):=by simp only [qV,Fk,h,if_true]
@[simp] theorem UH(h1:-9223372036854775808≤n) (h2:n≤9223372036854775807):qV (.int .i64 n)=.c (.d (.int .i64 n)):=sX (c9 ⟨h1,h2⟩)
@[simp] theorem Uz(h1:-2147483648≤n) (h2:n≤2147483647):qV (.int .i32 n)=.c (.d (.int .i32 n)):=sX (c9 ⟨h1,h2⟩)
@[simp] theorem VD(h1:0≤n) (h2:n≤255):qV (.int .u8 n)=.c (.d (.int .u8 n)):=sX (c9 ⟨h1,h2⟩)
@[simp] theorem UP(h1:0≤n) (h2:n≤4294967295):qV (.int .u32 n)=.c (.d (.int .u32 n)):=sX (c9 ⟨h1,h2⟩)
@[simp] theorem T9(h1:0≤n) (h2:n≤18446744073709551615):qV (.int .u64 n)=.c (.d (.int .u64 n)):=sX (c9 ⟨h1,h2⟩)
@[simp] theorem Ut {b:ByteArray}(h:b.data.toList.length≤9223372036854775807):qV (.string b)=.c (.d (.str b.data.toList)):=by simp only [qV,Fk,h,if_true]
@[simp] theorem S5:qV (.pointer none)=.c (.d .nilp):=rfl
@[simp] theorem Q8:qV (.slice none 0 0)=.c (.d .nilsl):=rfl
@[simp] theorem TE:qV .nilIface=.c (.d .nilIface):=rfl
@[simp] theorem SP:qV .nilFunc=.c (.d .nilFunc):=rfl
@[simp] theorem SI:qV (.map none)=.c (.d .nilmap):=rfl
@[simp] theorem Uu {a:Array Value}:qV (.agg a)=if a.toList.all (·.oneCell') then .agg (a.toList.map Fk) else .junk:=rfl
variable {g:Option (Nat × Bool)}
@[simp ↓] theorem ki {x:Operand}:dz c ⟨d,.move x,ty,pos,af,g⟩ s κ K=K (s.val c.G x) [] [] κ:=by simp [dz,aZ,Op.operands]
@[simp ↓] theorem xm {x:Operand}:dz c ⟨d,.assign x,ty,pos,af,g⟩ s κ K=K (s.val c.G x) [] [] κ:=by simp [dz,aZ,Op.operands]
def An (t x y:AV):Option bW:=match t with|.c (.d (.bool true))=>some (x,[],[],True)|.c (.d (.bool false))=>some (y,[],[],True)|_=>none
@[simp] theorem UA:An (.c (.d (.bool true))) x y=some (x,[],[],True):=rfl
@[simp] theorem UM:An (.c (.d (.bool false))) x y=some (y,[],[],True):=rfl
@[simp ↓] theorem Es {t x y:Operand}:dz c ⟨d,.pick t x y,ty,pos,af,g⟩ s κ K=gY (An (s.val c.G t) (s.val c.G x) (s.val c.G y)) κ K:=by simp [dz,aZ,Op.operands,gY,An];rfl
def yz (P:Program)(T:TypeId)(lv:Key→LB)(κ:Key):Option bW:=match aY P T,lv κ with|some xs,.hole=>some (.c (.ptr κ 0),[(κ,.cells true false T xs)],[],True)|_,_=>none
@[simp ↓] theorem AE:dz c ⟨d,.alloc T,ty,pos,af,g⟩ s κ K=gY (yz c.P T s.lv κ) κ K:=by simp [dz,aZ,Op.operands,gY,yz];rfl
def K0 (T:TypeId)(x:AV)(lv:Key→LB)(κ:Key):Option bW:=match x.cells,lv κ with|some xs,.hole=>some (.c (.ptr κ 0),[(κ,.cells true false T xs)],[],True)|_,_=>none
@[simp ↓] theorem HP{x:Operand}:dz c ⟨d,.box T x,ty,pos,af,g⟩ s κ K=gY (K0 T (s.val c.G x) s.lv κ) κ K:=by simp [dz,aZ,Op.operands,gY,K0];rfl
@[simp ↓] theorem C9{x:Operand}:dz c ⟨d,.load T x,ty,pos,af,g⟩ s κ K=gY (cx c.P T s.lv (s.val c.G x)) κ K:=by simp [dz,aZ,Op.operands,gY];rfl
@[simp ↓] theorem zU{x y:Operand}:dz c ⟨d,.store T x y,ty,pos,af,g⟩ s κ K=gY (dh c.P T s.lv (s.val c.G x) (s.val c.G y)) κ K:=by simp [dz,aZ,Op.operands,gY];rfl
@[simp ↓] theorem Ho {x:Operand}:dz c ⟨d,.nilCheck x,ty,pos,af,g⟩ s κ K=gY (gk s.lv (s.val c.G x)) κ K:=by simp [dz,aZ,Op.operands,gY];rfl
@[simp ↓] theorem Gv{x y:Operand}:dz c ⟨d,.binOp op T x y T',ty,pos,af,g⟩ s κ K=gY (aJ c.P op T (s.val c.G x) (s.val c.G y)) κ K:=by simp [dz,aZ,Op.operands,gY];rfl
def Je (op:UnOp)(x:AV):Option bW:=match x with|.c (.d d)=>(match Sx op d with|some d'=>some (.c (.d d'),[],[],True)|none=>none)|_=>none
@[simp ↓] theorem LC {op:UnOp}{x:Operand}:dz c ⟨d,.unOp op T x,ty,pos,af,g⟩ s κ K=gY (Je op (s.val c.G x)) κ K:=by simp [dz,aZ,Op.operands,gY,Je];rfl
@[simp] theorem S8 {b:Bool}:Je .not (.c (.d (.bool b)))=some (.c (.d (.bool !b)),[],[],True):=rfl
@[simp] theorem Sg:Je .neg (.c (.d (.int k n)))=some (.c (.d (.int k (k.wrap (0 - n)))),[],[],True):=rfl
def D9 (P:Program)(S T:TypeId)(x:AV):Option bW:=match x with
 | .c (.d (.int _ n))=>match pL P S,pL P T with|some _,some k'=>some (.c (.d (.int k' (k'.wrap n))),[],[],True)|_,_=>none
 | .c (.d (.str l))=>if ct P S && ct P T then some (.c (.d (.str l)),[],[],True) else none
 | _=>none
@[simp ↓] theorem Dh{x:Operand}:dz c ⟨d,.convert S T x,ty,pos,af,g⟩ s κ K=gY (D9 c.P S T (s.val c.G x)) κ K:=by simp [dz,aZ,Op.operands,gY,D9];rfl
@[simp ↓] theorem pZ{f:Nat}{x:Operand}:dz c ⟨d,.fieldAddr T x f,ty,pos,af,g⟩ s κ K=gY (bF c.P T f s.lv (s.val c.G x)) κ K:=by simp [dz,aZ,Op.operands,gY];rfl
def yY (P:Program)(T:TypeId)(f:Nat)(x:AV):Option bW:=match x with|.agg cs=>(match cW P T f with|some (off,ft)=>(match nw P ft cs off with|some y=>some (y,[],[],True)|none=>none)|none=>none)|_=>none
@[simp ↓] theorem zZ{f:Nat}{x:Operand}:dz c ⟨d,.field T x f,ty,pos,af,g⟩ s κ K=gY (yY c.P T f (s.val c.G x)) κ K:=by simp [dz,aZ,Op.operands,gY,yY];rfl
@[simp ↓] theorem pU{x i:Operand}:dz c ⟨d,.indexAddr T x i,ty,pos,af,g⟩ s κ K=gY (aq c.P T s.lv (s.val c.G x) (s.val c.G i)) κ K:=by simp [dz,aZ,Op.operands,gY];rfl
@[simp ↓] theorem Al{x i:Operand}:dz c ⟨d,.index T x i,ty,pos,af,g⟩ s κ K=gY (fI c.P T (s.val c.G x) (s.val c.G i)) κ K:=by simp [dz,aZ,Op.operands,gY];rfl
def uR (i:Nat)(x:AV):Option bW:=match x with|.tup l=>(match l[i]? with|some (.tup _)=>none|some y=>some (y,[],[],True)|none=>none)|_=>none
@[simp ↓] theorem GK{x:Operand}:dz c ⟨d,.extract x i,ty,pos,af,g⟩ s κ K=gY (uR i (s.val c.G x)) κ K:=by simp [dz,aZ,Op.operands,gY,uR];rfl
def KC (P:Program)(T:TypeId)(x:AV):Option bW:=match kW x with|some d=>if P.concrete T then some (.c (.d (.iface T d)),[],[],True) else none|none=>none
@[simp ↓] theorem Gx{x:Operand}:dz c ⟨d,.makeInterface T x,ty,pos,af,g⟩ s κ K=gY (KC c.P T (s.val c.G x)) κ K:=by simp [dz,aZ,Op.operands,gY,KC];rfl
@[simp ↓] theorem HN{x y:Operand}:dz c ⟨d,.makeSlice T x y,ty,pos,af,g⟩ s κ K=gY (fU c.P T s.lv κ (s.val c.G x) (s.val c.G y)) κ K:=by simp [dz,aZ,Op.operands,gY];rfl
def WT (P:Program)(T:TypeId)(lv:Key→LB)(x:AV)(lo hi:Option AV):Option bW:=bh P T lv x lo hi
@[simp ↓] theorem vq{x:Operand}:dz c ⟨d,.slice T x none none none,ty,pos,af,g⟩ s κ K=gY (bh c.P T s.lv (s.val c.G x) none none) κ K:=by simp [dz,aZ,Op.operands,gY,wv];rfl
@[simp ↓] theorem va{x:Operand}:dz c ⟨d,.slice T x (some l) none none,ty,pos,af,g⟩ s κ K=gY (bh c.P T s.lv (s.val c.G x) (some (s.val c.G l)) none) κ K:=by simp [dz,aZ,Op.operands,gY,wv];rfl
@[simp ↓] theorem vm{x:Operand}:dz c ⟨d,.slice T x none (some h) none,ty,pos,af,g⟩ s κ K=gY (bh c.P T s.lv (s.val c.G x) none (some (s.val c.G h))) κ K:=by simp [dz,aZ,Op.operands,gY,wv];rfl
@[simp ↓] theorem vt{x:Operand}:dz c ⟨d,.slice T x (some l) (some h) none,ty,pos,af,g⟩ s κ K=gY (bh c.P T s.lv (s.val c.G x) (some (s.val c.G l)) (some (s.val c.G h))) κ K:=by simp [dz,aZ,Op.operands,gY,wv];rfl
@[simp ↓] theorem GR {x:Operand}:dz c ⟨d,.call { callee:=.builtin .len,args:=#[x],argTypes:=#[T] },ty,pos,af,g⟩ s κ K=gY (match lF c.P T s.lv (s.val c.G x) with|some n=>some (.c (.d (.int .i64 n)),[],keyOf (s.val c.G x),kV (s.val c.G x) n)|none=>none) κ K:=by
 simp [dz,aZ,iy,Op.operands,Call.operands,gY];rfl
@[simp ↓] theorem yF {x y:Operand}:dz c ⟨d,.call { callee:=.builtin .append,args:=#[x,y],argTypes:=#[T,T'] },ty,pos,af,g⟩ s κ K=gY (if T=T' then dM c.P T s.lv κ (s.val c.G x) (s.val c.G y) else none) κ K:=by
 simp [dz,aZ,iy,Op.operands,Call.operands,gY];rfl
def C4 (c:Ctx)(tgt:Option (FuncId × List AV × List AV))(xs:List AV)(lv:Key→LB)(K:AV→List (Key × LB)→List Key→Nat→Prop):Prop:=
 match tgt with
 | some (f,fs,cs)=>aT c.P f=true∧∃ x us rds κ',bM c f (fs++xs++cs) lv x us rds∧K x us rds κ'
 | none=>False
@[simp ↓] theorem Er {fo:Operand}{xs:Array Operand}:dz c ⟨d,.call { callee:=.value fo,args:=xs,argTypes:=ts },ty,pos,af,g⟩ s κ K=C4 c (cj (s.val c.G fo)) (xs.toList.map (s.val c.G)) s.lv K:=rfl
def ag (c:Ctx)(f:FuncId)(xs:List AV)(lv:Key→LB)(K:AV→List (Key × LB)→List Key→Nat→Prop):Prop:=∃ x us rds κ',bM c f xs lv x us rds∧K x us rds κ'
@[congr] theorem OH(h:∀ _:Unit,xs=xs'):ag c f xs lv K=ag c f xs' lv K:=by rw [h ()]
@[simp] theorem P6:C4 c (some (f,[],[])) xs lv K=(aT c.P f=true∧ag c f xs lv K):=by simp [C4,ag]
@[simp] theorem Nu:cj (.c (.d (.func (.func f) [] [])))=some (f,[],[]):=rfl
@[congr] theorem Pf {t t':Option (FuncId × List AV × List AV)}(h:∀ _:Unit,t=t') (h':∀ _:Unit,xs=xs'):C4 c t xs lv K=C4 c t' xs' lv K:=by rw [h (),h' ()]
end
theorem AW.N4(hd:cu c.n ops.toList=true) (h:oz c ops ops.toList s κ fun s' κ'=>Q .normal s' κ'):AW c r (.region id ops false) s κ Q:=
 AW.region hd h
@[simp ↓] theorem TZ {K:au→Nat→Prop}:pR K Q .normal s κ=K s κ:=rfl
@[simp ↓] theorem T4 {K:au→Nat→Prop}:pR K Q (.exit i) s κ=Q (.exit i) s κ:=rfl
@[simp ↓] theorem UF {K:au→Nat→Prop}:pR K Q .ret s κ=Q .ret s κ:=rfl
@[simp ↓] theorem SH:um i Q .normal s κ=Q .normal s κ:=rfl
@[simp ↓] theorem R3:um i Q (.exit j) s κ=if j=i then Q .normal s κ else Q (.exit j) s κ:=rfl
@[simp ↓] theorem Sn:um i Q .ret s κ=Q .ret s κ:=rfl
@[simp] theorem UU {x:DV}:kV (.c (.d x)) n=True:=rfl
@[simp] theorem T5 {b:Bool}:oE (.c (.d (.bool b))) w=some (b == w):=rfl
@[simp] theorem TX:oE .undef w=some false:=rfl
def Le (c:Ctx)(s s2:au):Prop:=∃ g,dn c s s2 g
theorem Le.slots(l:List (Nat × AV)) (hl:∀ p∈l,p.2.bu=true∧fr p.1=p.2) (hm:∀ k own es,lv k=.map own es→∀ p∈es,∀ l,p.2≠.tup l) :
 Le c ⟨fr,lv⟩ ⟨bq l,lv⟩:=⟨_,dn.slots (s:=⟨fr,lv⟩) hl hm⟩
theorem aaa{x y:Code}(h:∀ K:au→Nat→Prop,(∀ s κ,AW c r y s κ Q→K s κ)→AW c r x s κ (pR K Q)):AW c r (.seq x y) s κ Q:=
 AW.seq' (h _ fun _ _ h=>h)
theorem GD[DecidableEq α](m n:α):(m == n)=decide (m=n):=by
 by_cases h:m=n <;> simp [h]
section
variable {P:Program}{T:TypeId}{k:IntKind}{m n:Int}
@[simp] theorem W4:aJ P .add T (.c (.d (.int k m))) (.c (.d (.int k n)))=some (.c (.d (.int k (k.wrap (m+n)))),[],[],True):=by simp [aJ,kJ,eV]
@[simp] theorem U6:aJ P .sub T (.c (.d (.int k m))) (.c (.d (.int k n)))=some (.c (.d (.int k (k.wrap (m - n)))),[],[],True):=by simp [aJ,kJ,eV]
@[simp] theorem VI:aJ P .mul T (.c (.d (.int k m))) (.c (.d (.int k n)))=some (.c (.d (.int k (k.wrap (m*n)))),[],[],True):=by simp [aJ,kJ,eV]
@[simp] theorem WE:aJ P .quo T (.c (.d (.int k m))) (.c (.d (.int k n)))=some (.c (.d (.int k (k.wrap (m.tdiv n)))),[],[],n≠0):=by simp [aJ,kJ,eV]
@[simp] theorem VR:aJ P .rem T (.c (.d (.int k m))) (.c (.d (.int k n)))=some (.c (.d (.int k (m.tmod n))),[],[],n≠0):=by simp [aJ,kJ,eV]
theorem Qg:aJ P .and T (.c (.d (.int k m))) (.c (.d (.int k n)))=some (.c (.d (.int k (k.wrap (BitVec.ofInt k.bits m &&& BitVec.ofInt k.bits n).toNat))),[],[],True):=by simp [aJ,kJ,eV]
theorem Tc:aJ P .or T (.c (.d (.int k m))) (.c (.d (.int k n)))=some (.c (.d (.int k (k.wrap (BitVec.ofInt k.bits m ||| BitVec.ofInt k.bits n).toNat))),[],[],True):=by simp [aJ,kJ,eV]
@[simp] theorem WQ:aJ P .eql T (.c (.d (.int k m))) (.c (.d (.int k n)))=some (.c (.d (.bool (decide (m=n)))),[],[],True):=by simp [aJ,kJ,eV,GD]
@[simp] theorem VL:aJ P .neq T (.c (.d (.int k m))) (.c (.d (.int k n)))=some (.c (.d (.bool (!decide (m=n)))),[],[],True):=by simp [aJ,kJ,eV,bne,GD]
@[simp] theorem VF:aJ P .lss T (.c (.d (.int k m))) (.c (.d (.int k n)))=some (.c (.d (.bool (decide (m<n)))),[],[],True):=by simp [aJ,kJ,eV]
@[simp] theorem Wd:aJ P .leq T (.c (.d (.int k m))) (.c (.d (.int k n)))=some (.c (.d (.bool (decide (m≤n)))),[],[],True):=by simp [aJ,kJ,eV]
@[simp] theorem Vz:aJ P .gtr T (.c (.d (.int k m))) (.c (.d (.int k n)))=some (.c (.d (.bool (decide (n<m)))),[],[],True):=by simp [aJ,kJ,eV]
@[simp] theorem U8:aJ P .geq T (.c (.d (.int k m))) (.c (.d (.int k n)))=some (.c (.d (.bool (decide (n≤m)))),[],[],True):=by simp [aJ,kJ,eV]
@[simp] theorem KB:aJ P .shl T (.c (.d (.int k m))) (.c (.d (.int k' n)))=some (.c (.d (.int k (k.wrap (m*2 ^ (min n.toNat k.bits))))),[],[],0≤n):=by simp [aJ,Rj]
@[simp] theorem U7:aJ P .shr T (.c (.d (.int k m))) (.c (.d (.int k' n)))=some (.c (.d (.int k (m.fdiv (2 ^ (min n.toNat k.bits))))),[],[],0≤n):=by simp [aJ,Rj]
end
theorem aG.iL{σ:List LB}{o:Out}(i:Nat) (hi:i<args.length) (hφ:∀ (V:Vw) v,V.av v args[i]→φ) (k:φ→aG P G f args σ o):aG P G f args σ o:=
 fun F β w vs hS hl hv=>k (hφ _ _ (hv i hi (by omega))) F β w vs hS hl hv
theorem AW.iL(t:Nat) (hφ:∀ (V:Vw) v,V.av v (s.fr t)→φ) (k:φ→AW c r code s κ Q):AW c r code s κ Q:=
 fun F β a w hs=>k (hφ _ _ (hs.fr t)) F β a w hs
def W (l:List Nat):List (List DV):=l.map fun (x:Nat)=>[DV.int .u32 (x:Int)]
def rU (l:List Nat):AV:=.c (.d (.sl (W l)))
@[simp] theorem Tk (l:List Nat):(W l).length=l.length:=by simp [W]
@[simp] theorem XU:W []=[]:=rfl
@[simp] theorem Xc (l m:List Nat):W (l++m)=W l++W m:=by simp [W]
@[simp] theorem VT (x:Nat)(l:List Nat):W (x::l)=[DV.int .u32 (x:Int)]::W l:=rfl
theorem Tt (l:List Nat):∀ e∈W l,e.length=1:=by
 intro e he;simp only [W,Zo] at he;obtain⟨x,_,rfl⟩:=he;rfl
theorem KN {V:Vw}{v:Value}{l:List Nat}(h:V.av v (rU l)):l.length≤9223372036854775807∧∀ x∈l,x≤4294967295:=by
 have h1:=Vw.Fp h;rw [Tk] at h1;refine⟨h1,fun x hx=>?_⟩;obtain⟨h,_⟩:=h
 cases h with
 | sl b off cap sz _ vs hl hc hb hm ho hr=>
  obtain⟨i,hi,rfl⟩:=List.mem_iff_getElem.1 hx;have h2:=hr i (by simpa using hi) 0 (by simp [W]);simp only [W,sr,Zx] at h2
  have h3:IntKind.u32.wrap (l[i]:Int)=(l[i]:Int):=by
   generalize vs i 0=u at h2
   cases h2;assumption
  rw [nO] at h3;simp only [qd] at h3;omega
structure zi where
 dst:Option Tmp
 op:Op
 g:Option (Option Tmp × Bool)
variable {ps:List zi}
def CT (gd:List (Option Tmp))(o:Oper):zi:=⟨o.dst,o.op,match o.guard with|none=>none|some (j,w)=>some ((gd[j]?).join,w)⟩
def jN (gd:List (Option Tmp)):List Oper→List zi
 | []=>[]
 | o::os=>CT gd o::jN gd os
def eF (ops:Array Oper):List zi:=jN (ops.toList.map (·.dst)) ops.toList
def aK (c:Ctx):List zi→au→Nat→(au→Nat→Prop)→Prop
 | [],s,κ,K=>K s κ
 | p::ps,s,κ,K=>match p.g with
  | none=>dz c ⟨none,p.op,0, "",#[],none⟩ s κ fun x us _ κ'=>aK c ps (au.put ⟨s.fr,aR s.lv us⟩ p.dst x) κ' K
  | some (t,w)=>oy t fun t=>lG (oE (s.fr t) w)
   (fun _=>dz c ⟨none,p.op,0, "",#[],none⟩ s κ fun x us _ κ'=>aK c ps (au.put ⟨s.fr,aR s.lv us⟩ p.dst x) κ' K)
   (fun _=>aK c ps (s.put p.dst .undef) κ K)
theorem J2:((ops.toList.map (·.dst))[j]?).join=(ops[j]?).bind (·.dst):=by
 rw [ZO,abr]
 cases ops[j]? <;> rfl
theorem mc {c:Ctx}{ops:Array Oper}{K:au→Nat→Prop}:∀ {os:List Oper}{s:au}{κ:Nat},aK c (jN (ops.toList.map (·.dst)) os) s κ K=oz c ops os s κ K
 | [],s,κ=>rfl
 | ⟨d,o,ty,pos,af,none⟩::os,s,κ=>by
  rw [FC];simp only [jN,CT,aK];show dz c ⟨d,o,ty,pos,af,none⟩ s κ _=_;congr 1;funext x us rds κ';exact mc
 | ⟨d,o,ty,pos,af,some (j,w)⟩::os,s,κ=>by
  rw [DJ];simp only [jN,CT,aK,J2];congr 1;funext t;congr 1
  ·funext _;show dz c ⟨d,o,ty,pos,af,some (j,w)⟩ s κ _=_;congr 1;funext x us rds κ';exact mc
  ·funext _;exact mc
theorem aao(hd:cu c.n ops.toList=true) (h:aK c (eF ops) s κ fun s' κ'=>Q .normal s' κ'):AW c r (.region id ops false) s κ Q:=
 AW.N4 hd (by rw [← mc];exact h)
section
variable {c:Ctx}{s:au}{κ:Nat}{K:au→Nat→Prop}
@[simp ↓] theorem Rb:aK c [] s κ K=K s κ:=rfl
theorem aP:aK c (⟨d,o,none⟩::ps) s κ K =
 dz c ⟨none,o,0, "",#[],none⟩ s κ fun x us _ κ'=>aK c ps (au.put ⟨s.fr,aR s.lv us⟩ d x) κ' K:=rfl
theorem Ds{t:Tmp}:aK c (⟨d,o,some (some t,w)⟩::ps) s κ K =
 lG (oE (s.fr t) w) (fun _=>dz c ⟨none,o,0, "",#[],none⟩ s κ fun x us _ κ'=>aK c ps (au.put ⟨s.fr,aR s.lv us⟩ d x) κ' K) (fun _=>aK c ps (s.put d .undef) κ K):=rfl
theorem Kw {l:List Oper}:eF l.toArray=jN (l.map (·.dst)) l:=rfl
theorem Im:jN gd []=[]:=rfl
theorem FW:jN gd (⟨d,o,ty,pos,af,none⟩::os)=⟨d,o,none⟩::jN gd os:=rfl
theorem FM:jN gd (⟨d,o,ty,pos,af,some (j,w)⟩::os)=⟨d,o,some ((gd[j]?).join,w)⟩::jN gd os:=rfl
end
section
variable {c:Ctx}{s:au}{κ:Nat}{K:au→Nat→Prop}{d:Option Tmp}{o:Op}{ps:List zi}
theorem aK.step (h:∀ K':AV→List (Key × LB)→List Key→Nat→Prop,(∀ x us rds κ',aK c ps (au.put ⟨s.fr,aR s.lv us⟩ d x) κ' K→K' x us rds κ')→dz c ⟨none,o,0, "",#[],none⟩ s κ K') :
 aK c (⟨d,o,none⟩::ps) s κ K:=by
 rw [aP];exact h _ fun _ _ _ _ h=>h
theorem aK.aZ {t:Tmp}(hw:oE (s.fr t) w=some false) (h:aK c ps (s.put d .undef) κ K):aK c (⟨d,o,some (some t,w)⟩::ps) s κ K:=by
 rw [Ds,hw];exact h
end
theorem eD(h:x.pure=true):jo lv x=[]:=by
 cases x with
 | c x=>cases x <;> simp_all [AV.pure,AV.kE,CV.pure,jo,fY]
 | agg cs=>
  simp only [AV.pure,AV.kE,YU] at h;simp only [jo,abl];intro x hx;have:=h x hx
  cases x <;> simp_all [CV.pure,fY]
 | _=>rfl
theorem bM.pure(hc:aa c.P c.G f xs x) (hx:x.pure=true) (hxs:∀ a∈xs,a.pure=true) (kh:Key) (hh:lv kh=.hole):bM c f xs lv x [] [kh]:=by
 have key:=bM.gen (c:=c) (f:=f) (as:=xs) (lv:=lv) xs [] [] [] kh [] [] [] x false [kh] (fun z hz=>by cases hz) (by simp) (by simp) (fun z hz=>by cases hz) (by simp) (fun z hz=>by cases hz) rfl rfl rfl (by simp)
  (fun i h=>absurd h (ZN i)) (fun k hk=>by cases hk) hh (fun b hb=>by cases hb) (fun b hb=>by cases hb) (fun h=>by cases h) rfl
  (fun i p q=>.inl ⟨AV.bQ (hxs _ (cq q)),(AV.aX (hxs _ (cq q)) _).symm⟩) (fun a ha k hk=>by rw [eD (hxs a ha)] at hk;cases hk) (by simp) hc
 rw [AV.aX hx] at key;exact key
theorem ag.pure(κ:Nat) (kh:Key) (hc:aa c.P c.G f xs x) (hx:x.pure=true) (hxs:∀ a∈xs,a.pure=true) (hh:lv kh=.hole)
 (hK:K x [] [kh] κ):ag c f xs lv K:=⟨x,[],[kh],κ,bM.pure hc hx hxs kh hh,hK⟩
theorem ag.Wf{us:List AV}(κ:Nat) (kh:Key) (k:Key) (T:TypeId) (cs:List CV) (rds:List Key)
 (hc:aa c.P c.G f us x) (hx:x.pure=true) (hk:lv k=.cells true false T cs) (hh:lv kh=.hole) (hkh:kh≠k) (hlen:us.length=xs.length)
 (hxs:∀ i (h:i<xs.length) (h':i<us.length),(us[i].pure=true∧xs[i]=us[i])∨fq (aD lv k (.cells true true T cs)) xs[i]=some (us[i],[k]))
 (hrd:∀ a∈xs,∀ j∈jo (aD lv k (.cells true true T cs)) a,j∈rds∨j=k) (hrh:kh∈rds)
 (hK:K x [(k,.cells true true T cs)] rds κ):ag c f xs lv K:=by
 have key:=bM.gen (c:=c) (f:=f) (as:=xs) (lv:=lv) us [(k,T,cs)] [] [] kh [] [] [] x false rds (fun z hz=>by simp only [ZW] at hz;subst hz;exact hk) (by simp) (by simp) (fun z hz=>by simp) (by simp) (fun z hz=>by simp only [ZW] at hz;subst hz;exact fun e=>hkh e.symm) rfl rfl rfl (by simp)
  (fun i h=>absurd h (ZN i)) (fun k hk=>by cases hk) hh (fun b hb=>by cases hb) (fun b hb=>by cases hb) (fun h=>by cases h) hlen
  (fun i p q=>?_) (fun a ha j hj=>?_) hrh hc
 ·rw [AV.aX hx] at key;exact⟨x,_,rds,κ,key,hK⟩
 ·rcases hxs i p q with ⟨h1,h2⟩|h1
  ·exact .inl ⟨AV.bQ h1,by rw [AV.aX h1];exact h2⟩
  ·refine .inr ⟨[k],h1,fun j hj=>?_⟩;simp only [ZW] at hj;subst hj;exact⟨true,T,cs,by simp [ec,aR,az]⟩
 ·rcases hrd a ha j hj with h|h
  ·exact .inl h
  ·exact .inr (by simp [h])
def cT (c:Ctx)(ps:List zi)(d:Option Tmp)(s:au)(κ:Nat)(K:au→Nat→Prop)(r:Option bW):Prop:=
 gY r κ fun x us _ κ'=>aK c ps (au.put ⟨s.fr,aR s.lv us⟩ d x) κ' K
def Fo (c:Ctx)(o:Op)(ps:List zi)(d:Option Tmp)(s:au)(κ:Nat)(K:au→Nat→Prop)(w:Option Bool):Prop:=
 match w with
 | some true=>aK c (⟨d,o,none⟩::ps) s κ K
 | some false=>aK c ps (s.put d .undef) κ K
 | none=>False
def jr (c:Ctx)(f:FuncId)(xs:List AV)(ps:List zi)(d:Option Tmp)(s:au)(κ:Nat)(K:au→Nat→Prop):Prop:=
 ag c f xs s.lv fun x us _ κ'=>aK c ps (au.put ⟨s.fr,aR s.lv us⟩ d x) κ' K
def Gy (c:Ctx)(tgt:Option (FuncId × List AV × List AV))(xs:List AV)(ps:List zi)(d:Option Tmp)(s:au)(κ:Nat)(K:au→Nat→Prop):Prop:=
 match tgt with
 | some (f,fs,cs)=>aT c.P f=true∧jr c f (fs++xs++cs) ps d s κ K
 | none=>False
attribute [simp] Kw Im FW FM PO
@[simp] theorem OJ {t:Nat}:bq [] t=.junk:=rfl
@[simp] theorem N3 {p:Nat × AV}{l:List (Nat × AV)}{t:Nat}:bq (p::l) t=if t=p.1 then p.2 else bq l t:=rfl
section
variable {c:Ctx}{ps:List zi}{d:Option Tmp}{s:au}{κ:Nat}{K:au→Nat→Prop}{T:TypeId}{x y z:Operand}
@[simp] theorem Rt:cT c ps d s κ K (some (v,[],rds,vc))=(vc∧aK c ps (s.put d v) κ K):=propext ⟨id,id⟩
@[simp] theorem Rf{p:Key × LB}:cT c ps d s κ K (some (v,[p],rds,vc))=(vc∧aK c ps (au.put ⟨s.fr,aD s.lv p.1 p.2⟩ d v) (κ+1) K):=propext ⟨id,id⟩
@[simp] theorem RC{p q:Key × LB}:cT c ps d s κ K (some (v,[p,q],rds,vc))=(vc∧aK c ps (au.put ⟨s.fr,aD (aD s.lv p.1 p.2) q.1 q.2⟩ d v) (κ+1) K):=propext ⟨id,id⟩
@[simp] theorem S6:Fo c o ps d s κ K (some true)=aK c (⟨d,o,none⟩::ps) s κ K:=propext ⟨id,id⟩
@[simp] theorem Sf:Fo c o ps d s κ K (some false)=aK c ps (s.put d .undef) κ K:=propext ⟨id,id⟩
@[simp] theorem Qr:Gy c (some (f,[],[])) xs ps d s κ K=(aT c.P f=true∧jr c f xs ps d s κ K):=by simp [Gy]
@[simp] theorem TC{t:Tmp}:aK c (⟨d,o,some (some t,w)⟩::ps) s κ K=Fo c o ps d s κ K (oE (s.fr t) w):=propext ⟨id,id⟩
@[simp] theorem US:aK c (⟨d,.move x,none⟩::ps) s κ K=aK c ps (s.put d (s.val c.G x)) κ K:=by rw [aP,ki];rfl
@[simp] theorem Rs:aK c (⟨d,.assign x,none⟩::ps) s κ K=aK c ps (s.put d (s.val c.G x)) κ K:=by rw [aP,xm];rfl
@[simp] theorem UX:aK c (⟨d,.pick x y z,none⟩::ps) s κ K=cT c ps d s κ K (An (s.val c.G x) (s.val c.G y) (s.val c.G z)):=by rw [aP,Es];rfl
@[simp] theorem SA:aK c (⟨d,.alloc T,none⟩::ps) s κ K=cT c ps d s κ K (yz c.P T s.lv κ):=by rw [aP,AE];rfl
@[simp] theorem Th {f:Nat}:aK c (⟨d,.field T x f,none⟩::ps) s κ K=cT c ps d s κ K (yY c.P T f (s.val c.G x)):=by rw [aP,zZ];rfl
@[simp] theorem NH:aK c (⟨d,.indexAddr T x y,none⟩::ps) s κ K=cT c ps d s κ K (aq c.P T s.lv (s.val c.G x) (s.val c.G y)):=by rw [aP,pU];rfl
@[simp] theorem Sm:aK c (⟨d,.index T x y,none⟩::ps) s κ K=cT c ps d s κ K (fI c.P T (s.val c.G x) (s.val c.G y)):=by rw [aP,Al];rfl
@[simp] theorem Vn:aK c (⟨d,.extract x i,none⟩::ps) s κ K=cT c ps d s κ K (uR i (s.val c.G x)):=by rw [aP,GK];rfl
@[simp] theorem VG:aK c (⟨d,.makeInterface T x,none⟩::ps) s κ K=cT c ps d s κ K (KC c.P T (s.val c.G x)):=by rw [aP,Gx];rfl
@[simp] theorem Wv:aK c (⟨d,.makeSlice T x y,none⟩::ps) s κ K=cT c ps d s κ K (fU c.P T s.lv κ (s.val c.G x) (s.val c.G y)):=by rw [aP,HN];rfl
@[simp] theorem Qh:aK c (⟨d,.slice T x none none none,none⟩::ps) s κ K=cT c ps d s κ K (bh c.P T s.lv (s.val c.G x) none none):=by rw [aP,vq];rfl
@[simp] theorem PS:aK c (⟨d,.slice T x (some y) none none,none⟩::ps) s κ K=cT c ps d s κ K (bh c.P T s.lv (s.val c.G x) (some (s.val c.G y)) none):=by rw [aP,va];rfl
@[simp] theorem Pr:aK c (⟨d,.slice T x none (some y) none,none⟩::ps) s κ K=cT c ps d s κ K (bh c.P T s.lv (s.val c.G x) none (some (s.val c.G y))):=by rw [aP,vm];rfl
@[simp] theorem P8:aK c (⟨d,.slice T x (some y) (some z) none,none⟩::ps) s κ K=cT c ps d s κ K (bh c.P T s.lv (s.val c.G x) (some (s.val c.G y)) (some (s.val c.G z))):=by rw [aP,vt];rfl
def dW (P:Program)(T:TypeId)(lv:Key→LB)(x:AV):Option bW:=match lF P T lv x with|some n=>some (.c (.d (.int .i64 n)),[],keyOf x,kV x n)|none=>none
@[simp] theorem WN:aK c (⟨d,.call { callee:=.builtin .len,args:=#[x],argTypes:=#[T] },none⟩::ps) s κ K=cT c ps d s κ K (dW c.P T s.lv (s.val c.G x)):=by rw [aP,GR];rfl
@[simp] theorem RD:aK c (⟨d,.call { callee:=.builtin .append,args:=#[x,y],argTypes:=#[T,T'] },none⟩::ps) s κ K=cT c ps d s κ K (if T=T' then dM c.P T s.lv κ (s.val c.G x) (s.val c.G y) else none):=by rw [aP,yF];rfl
@[simp] theorem TS {xs:Array Operand}:aK c (⟨d,.call { callee:=.value x,args:=xs,argTypes:=ts },none⟩::ps) s κ K=Gy c (cj (s.val c.G x)) (xs.toList.map (s.val c.G)) ps d s κ K:=by
 rw [aP,Er];rfl
@[simp] theorem Wb:aK c (⟨d,.binOp op T x y T',none⟩::ps) s κ K=cT c ps d s κ K (aJ c.P op T (s.val c.G x) (s.val c.G y)):=by rw [aP,Gv];rfl
@[simp] theorem Xx {op:UnOp}:aK c (⟨d,.unOp op T x,none⟩::ps) s κ K=cT c ps d s κ K (Je op (s.val c.G x)):=by rw [aP,LC];rfl
@[simp] theorem UE:aK c (⟨d,.load T x,none⟩::ps) s κ K=cT c ps d s κ K (cx c.P T s.lv (s.val c.G x)):=by rw [aP,C9];rfl
@[simp] theorem Sy:aK c (⟨d,.store T x y,none⟩::ps) s κ K=cT c ps d s κ K (dh c.P T s.lv (s.val c.G x) (s.val c.G y)):=by rw [aP,zU];rfl
@[simp] theorem WD:aK c (⟨d,.box T x,none⟩::ps) s κ K=cT c ps d s κ K (K0 T (s.val c.G x) s.lv κ):=by rw [aP,HP];rfl
@[simp] theorem WZ:aK c (⟨d,.nilCheck x,none⟩::ps) s κ K=cT c ps d s κ K (gk s.lv (s.val c.G x)):=by rw [aP,Ho];rfl
@[simp] theorem Um:aK c (⟨d,.convert S T x,none⟩::ps) s κ K=cT c ps d s κ K (D9 c.P S T (s.val c.G x)):=by rw [aP,Dh];rfl
@[simp] theorem M4 {f:Nat}:aK c (⟨d,.fieldAddr T x f,none⟩::ps) s κ K=cT c ps d s κ K (bF c.P T f s.lv (s.val c.G x)):=by rw [aP,pZ];rfl
def fK (P:Program)(T:TypeId)(ixs:List Nat)(vals:List AV):Option bW:=match aY P T,sM P T with
 | some zs,some place=>if ixs.length=vals.length then (match iT place zs (ixs.zip vals) with|some cs=>some (.agg cs,[],[],True)|none=>none) else none
 | _,_=>none
@[simp] theorem Tl:aK c (⟨d,.build T parts,none⟩::ps) s κ K=cT c ps d s κ K (fK c.P T (parts.toList.map (·.1)) (parts.toList.map fun p=>s.val c.G p.2)):=by
 rw [aP];simp only [dz,aZ,Op.operands,cT,gY,fK,Y7,YX,aaR];rfl
@[simp] theorem MH {n:Nat}:aK c (⟨d,.buildSlice T n parts,none⟩::ps) s κ K=cT c ps d s κ K (aB c.P T n (parts.toList.map (·.1)) s.lv κ (parts.toList.map fun p=>s.val c.G p.2)):=by
 rw [aP];simp only [dz,aZ,Op.operands,cT,gY,Y7];rfl
@[simp] theorem UN:aK c (⟨d,.call { callee:=.builtin .copy,args:=#[x,y],argTypes:=#[T,T'] },none⟩::ps) s κ K=cT c ps d s κ K (gR c.P T s.lv (s.val c.G x) (s.val c.G y)):=by
 rw [aP];simp only [dz,aZ,iy,Op.operands,Call.operands,cT,gY];rfl
@[simp] theorem VJ {xs:Array Operand}:aK c (⟨d,.call { callee:=.builtin .max,args:=xs,argTypes:=ts },none⟩::ps) s κ K=cT c ps d s κ K (match eN (xs.toList.map (s.val c.G)) with
 | some (k,n::l)=>some (.c (.d (.int k (l.foldl (fun a b=>if b > a then b else a) n))),[],[],True)
 | _=>none):=by
 rw [aP];simp only [dz,aZ,iy,Op.operands,Call.operands,cT,gY,abh];rfl
@[simp] theorem VX {xs:Array Operand}:aK c (⟨d,.call { callee:=.builtin .min,args:=xs,argTypes:=ts },none⟩::ps) s κ K=cT c ps d s κ K (match eN (xs.toList.map (s.val c.G)) with
 | some (k,n::l)=>some (.c (.d (.int k (l.foldl (fun a b=>if b<a then b else a) n))),[],[],True)
 | _=>none):=by
 rw [aP];simp only [dz,aZ,iy,Op.operands,Call.operands,cT,gY,abh];rfl
end
section
variable {P:Program}{T:TypeId}{lv:Key→LB}{es:List (List DV)}{cs:List DV}{k:IntKind}{n:Int}{κ:Key}{off len sz:Nat}{lo hi:Option AV}{bs:List UInt8}
@[simp] theorem Xp:aq P T lv (.c (.d (.sl es))) (.c (.d (.int k n)))=(match ff P T with
 | some (_,sz)=>some (.c (.d (.ptr (es.getD n.toNat []))),[],[],0≤n∧n<es.length∧(es.getD n.toNat []).length=sz)
 | none=>none):=rfl
@[simp] theorem VO:aq P T lv (.c (.aI κ off len sz)) (.c (.d (.int k n)))=(match lv κ,ff P T with
 | .cells ..,some (_,sz')=>if sz=sz' then some (.c (.ptr κ (off+n.toNat*sz)),[],[κ],0≤n∧n<len) else none
 | _,_=>none):=rfl
@[simp] theorem XS:aq P T lv (.c (.d (.ptr cs))) (.c (.d (.int k n)))=(match qX P T with
 | some (len,_,sz)=>some (.c (.d (.ptr (cs.drop (n.toNat*sz)))),[],[],0≤n∧n<len∧n.toNat*sz≤cs.length)
 | none=>none):=rfl
@[simp] theorem Vm:aq P T lv (.c (.ptr κ off)) (.c (.d (.int k n)))=(match lv κ,qX P T with
 | .cells ..,some (len,_,sz)=>some (.c (.ptr κ (off+n.toNat*sz)),[],[κ],0≤n∧n<len)
 | _,_=>none):=rfl
@[simp] theorem Ve:bh P T lv (.c (.d (.str bs))) lo hi=if ct P T then (match dc lo 0,dc hi bs.length with
 | some l,some h=>some (.c (.d (.str ((bs.take h.toNat).drop l.toNat))),[],[],0≤l∧l≤h∧h≤bs.length)
 | _,_=>none) else none:=rfl
@[simp] theorem Xd:bh P T lv (.c (.d (.sl es))) lo hi=(match ff P T with
 | some (_,sz)=>match dc lo 0,dc hi es.length with
  | some l,some h=>some (.c (.d (.sl ((es.take h.toNat).drop l.toNat))),[],[],0≤l∧l≤h∧h≤es.length∧∀ e∈es,e.length=sz)
  | _,_=>none
 | none=>none):=rfl
@[simp] theorem WA:bh P T lv (.c (.d .nilsl)) lo hi=(match ff P T with
 | some _=>match dc lo 0,dc hi 0 with
  | some l,some h=>some (.c (.d .nilsl),[],[],l=0∧h=0)
  | _,_=>none
 | none=>none):=rfl
@[simp] theorem VW:bh P T lv (.c (.aI κ off len sz)) lo hi=(match lv κ,ff P T with
 | .cells ..,some (_,sz')=>if sz=sz' then (match dc lo 0,dc hi len with
  | some l,some h=>some (.c (.aI κ (off+l.toNat*sz) (h.toNat - l.toNat) sz),[],[κ],0≤l∧l≤h∧h≤len∧(l<h∨l=0))
  | _,_=>none) else none
 | _,_=>none):=rfl
end
attribute [simp] cx dh gk bF fI dc fU dM aB yz K0 yY D9 KC nw AV.cells
@[simp] theorem Rq{x:CV}{r:List CV}(h:cR P T=some false):dQ P T (x::r)=some (.c x):=by simp [dQ,h]
@[simp] theorem IZ{cs:List CV}(h:cR P T=some true):dQ P T cs=if gb P T≤cs.length then some (.agg (cs.take (gb P T))) else none:=by simp [dQ,h]
theorem aH.tmp{t:Nat}(hr:fn.results=#[.tmp t]) (kh:Key) (hx:s.fr t=x) (hp:x.pure=true) (hh:s.lv kh=.hole) (hn:x.bV=true):aH c fn x .ret s κ:=by
 refine⟨[(t,x)],kh,by simp [hp,hx],hh,?_⟩;rw [hr];simp [cM,gz,iB,bq]
theorem aH.SD{t:Nat}(hr:fn.results=#[.tmp t,.tmp u]) (kh:Key) (hx:s.fr t=x) (hy:s.fr u=y) (hp:x.pure=true) (hq:y.pure=true) (hh:s.lv kh=.hole) (hn:x.bV=true) (hm:y.bV=true) (htu:t≠u):aH c fn (.tup [x,y]) .ret s κ:=by
 refine⟨[(t,x),(u,y)],kh,by simp [hp,hx,hq,hy],hh,?_⟩;rw [hr];have:¬ u=t:=fun h=>htu h.symm
 simp [cM,gz,iB,bq,this,hn,hm]
theorem aap{x:Code}(st:α→au) (kk:Nat) (I:α→Prop) (μ:α→Nat) (a0:α) (hs:Le c s (st a0)) (h0:I a0)
 (hr:∀ a,I a→AW c r x (st a) kk (pR (fun s' _=>∃ a',Le c s' (st a')∧I a'∧μ a'<μ a) Q)):AW c r (.loop x) s κ Q:=by
 have key:∀ n a,I a→μ a≤n→∀ F β ac w,aE c F β (st a) ac w→Code.roundsIn (nS r) 0 c.P x (Post c Q) (n+1) ac w:=by
  intro n
  induction n with
  | zero=>
   intro a hI hn F β ac w hs;rw [roundsIn_succ];refine wpIn_mono (hr a hI F β ac w hs) fun e a' w' hp=>?_;obtain⟨e',s',κ',F',β',hq,hs',he⟩:=hp
   cases e' with
   | normal=>obtain⟨a2,h1,h2,h3⟩:=hq;omega
   | exit id=>cases he;exact⟨.exit id,s',κ',F',β',hq,hs',rfl⟩
   | goto l=>cases he;exact⟨.goto l,s',κ',F',β',hq,hs',rfl⟩
   | ret=>cases he;exact⟨.ret,s',κ',F',β',hq,hs',rfl⟩
   | panic d=>obtain⟨v,rfl,hv⟩:=he;exact⟨.panic d,s',κ',F',β',hq,hs',v,rfl,hv⟩
  | succ n ih=>
   intro a hI hn F β ac w hs;rw [roundsIn_succ];refine wpIn_mono (hr a hI F β ac w hs) fun e a' w' hp=>?_;obtain⟨e',s',κ',F',β',hq,hs',he⟩:=hp
   cases e' with
   | normal=>
    cases he
    obtain⟨a2,⟨g,h1⟩,h2,h3⟩:=hq;exact ih a2 h2 (by omega) F' _ a' w' (hs'.coarse h1)
   | exit id=>cases he;exact⟨.exit id,s',κ',F',β',hq,hs',rfl⟩
   | goto l=>cases he;exact⟨.goto l,s',κ',F',β',hq,hs',rfl⟩
   | ret=>cases he;exact⟨.ret,s',κ',F',β',hq,hs',rfl⟩
   | panic d=>obtain⟨v,rfl,hv⟩:=he;exact⟨.panic d,s',κ',F',β',hq,hs',v,rfl,hv⟩
 obtain⟨g,hg⟩:=hs;refine AW.coarse (κ2:=0) hg fun F β ac w hst=>?_;exact wpIn_loop_rounds _ (key (μ a0) a0 h0 (aW _) F β ac w hst)
@[simp] theorem Uf(h:x.bV=true):uR 0 (.tup [x,y])=some (x,[],[],True):=by
 cases x <;> first|rfl|cases h
@[simp] theorem UR(h:y.bV=true):uR 1 (.tup [x,y])=some (y,[],[],True):=by
 cases y <;> first|rfl|cases h
@[simp] theorem UQ(h:x.bV=true):uR 0 (.tup [x,y,z])=some (x,[],[],True):=by
 cases x <;> first|rfl|cases h
@[simp] theorem Ur(h:y.bV=true):uR 1 (.tup [x,y,z])=some (y,[],[],True):=by
 cases y <;> first|rfl|cases h
@[simp] theorem Uc(h:z.bV=true):uR 2 (.tup [x,y,z])=some (z,[],[],True):=by
 cases z <;> first|rfl|cases h
@[simp] theorem Uw {x:CV}:(AV.c x).bV=true:=by cases x <;> rfl
@[simp] theorem RF {x:List CV}:(AV.agg x).bV=true:=by cases x <;> rfl
theorem ag.p(κ:Nat) (kh:Key) (hc:aa c.P c.G f xs x) (hK:K x [] [kh] κ) (hx:x.pure=true:=by first|(simp;done)|rfl) (hxs:∀ a∈xs,a.pure=true:=by simp) (hh:lv kh=.hole:=by first|rfl|simp):ag c f xs lv K:=ag.pure κ kh hc hx hxs hh hK
theorem aH.t{t:Nat}(hr:fn.results=#[.tmp t]) (kh:Key) (hx:s.fr t=x) (hp:x.pure=true:=by first|rfl|simp) (hh:s.lv kh=.hole:=by first|rfl|simp) (hn:x.bV=true:=by first|rfl|simp):aH c fn x .ret s κ:=aH.tmp hr kh hx hp hh hn
theorem aaf{o:Operand}{x y:Code}(hb:s.val c.G o=.c (.d (.bool true))) (h:AW c r x s κ Q):AW c r (.cond o x y) s κ Q:=aay (b:=true) hb h
theorem aah{o:Operand}{x y:Code}(hb:s.val c.G o=.c (.d (.bool false))) (h:AW c r y s κ Q):AW c r (.cond o x y) s κ Q:=aay (b:=false) hb h
theorem aak{o:Operand}{x y:Code}(h:AW c r x s κ Q) (hb:s.val c.G o=.c (.d (.bool true)):=by simp <;> omega):AW c r (.cond o x y) s κ Q:=aay (b:=true) hb h
theorem aaj{o:Operand}{x y:Code}(h:AW c r y s κ Q) (hb:s.val c.G o=.c (.d (.bool false)):=by simp <;> omega):AW c r (.cond o x y) s κ Q:=aay (b:=false) hb h
theorem ah {a b:Prop}(h:b) (g:a:=by omega):a∧b:=⟨g,h⟩
structure Ev where
 w:World
 F:Nat→Prop
 W:Nat→Prop
 q:Key→LB
 b:Key→Nat
theorem aa.en(hf:P.funcs[f]?=some fn) (hb:fn.body=some code)
 (h:∀ z:Ev,AW ⟨P,G,z.w,z.F,z.W,fn.ntmps,z.q,z.b⟩ none code ⟨fun t=>args.getD t .undef,fun _=>.hole⟩ 0 (aH ⟨P,G,z.w,z.F,z.W,fn.ntmps,z.q,z.b⟩ fn x)) (hl:Nat.ble args.length fn.ntmps=true:=by kernel_rfl):aa P G f args x:=
 aa.ny hf hb (Ze hl) fun⟨_,_,w,F,W,_,q,b⟩ h1 h2 h3=>by cases h1;cases h2;cases h3;exact h ⟨w,F,W,q,b⟩
section
variable {c:Ctx}{r:Option Nat}{s s':au}{κ κ':Nat}{Q:Ex→au→Nat→Prop}{id:Nat}{ops:Array Oper}{y:Code}
theorem aad (h:Q .ret s 0):AW c r .ret s κ Q:=aam (κ:=0) h
theorem aH.rt{t:Nat}(hr:fn.results=#[.tmp t]) (kh:Key) (hx:s.fr t=x) (hp:x.pure=true:=by first|rfl|simp) (hh:s.lv kh=.hole:=by first|rfl|simp) (hn:x.bV=true:=by first|rfl|simp):aH c fn x .ret s 0:=aH.tmp hr kh hx hp hh hn
theorem aae (h:aK c (eF ops) s κ fun s' κ'=>Q .normal s' κ')(hd:cu c.n ops.toList=true:=by exact rfl):AW c r (.region id ops false) s κ Q:=aao hd h
theorem aai (h:∀ K:au→Nat→Prop,(∀ s κ,AW c r y s κ Q→K s κ)→aK c (eF ops) s κ K)(hd:cu c.n ops.toList=true:=by exact rfl):AW c r (.seq (.region id ops false) y) s κ Q:=
 aaa fun K hK=>aao hd (h K hK)
theorem aab (h:AW c r y s' κ' Q)(hd:cu c.n ops.toList=true:=by exact rfl)(hr:∀ K:au→Nat→Prop,K s' κ'→aK c (eF ops) s κ K:=by intro K k;simp;(repeat refine ah ?_);exact k):AW c r (.seq (.region id ops false) y) s κ Q:=
 aaa fun K hK=>aao hd (hr K (hK _ _ h))
theorem AW.l0 (h:Q .normal s' κ')(hd:cu c.n ops.toList=true:=by exact rfl)(hr:∀ K:au→Nat→Prop,K s' κ'→aK c (eF ops) s κ K:=by intro K k;simp;(repeat refine ah ?_);exact k):AW c r (.region id ops false) s κ Q:=
 aao hd (hr (fun s κ=>Q .normal s κ) h)
theorem aas (κ1:Nat)(hc:aa c.P c.G f xs x) (h:AW c r y s' κ' Q) (hd:cu c.n ops.toList=true:=by exact rfl) (hr:∀ κ2,κ2=κ1→aa c.P c.G f xs x→∀ K:au→Nat→Prop,K s' κ'→aK c (eF ops) s κ K:=by intro κ2 e hc K k;simp;refine ag.p κ2 9 hc ?_;subst e;simp;(repeat refine ah ?_);exact k):AW c r (.seq (.region id ops false) y) s κ Q:=
 aaa fun K hK=>aao hd (hr κ1 rfl hc K (hK _ _ h))
theorem AW.m0 (κ1:Nat)(hc:aa c.P c.G f xs x) (h:Q .normal s' κ') (hd:cu c.n ops.toList=true:=by exact rfl) (hr:∀ κ2,κ2=κ1→aa c.P c.G f xs x→∀ K:au→Nat→Prop,K s' κ'→aK c (eF ops) s κ K:=by intro κ2 e hc K k;simp;refine ag.p κ2 9 hc ?_;subst e;simp;(repeat refine ah ?_);exact k):AW c r (.region id ops false) s κ Q:=
 aao hd (hr κ1 rfl hc (fun s κ=>Q .normal s κ) h)
theorem aal(e1:a1) (h:AW c r y s' κ' Q) (hd:cu c.n ops.toList=true:=by exact rfl) (hr:a1→∀ K:au→Nat→Prop,K s' κ'→aK c (eF ops) s κ K:=by intro e1 K k;simp [e1];(repeat refine ah ?_);exact k):AW c r (.seq (.region id ops false) y) s κ Q:=
 aaa fun K hK=>aao hd (hr e1 K (hK _ _ h))
theorem aat(e1:a1) (h:Q .normal s' κ') (hd:cu c.n ops.toList=true:=by exact rfl) (hr:a1→∀ K:au→Nat→Prop,K s' κ'→aK c (eF ops) s κ K:=by intro e1 K k;simp [e1];(repeat refine ah ?_);exact k):AW c r (.region id ops false) s κ Q:=
 aao hd (hr e1 (fun s κ=>Q .normal s κ) h)
theorem aaA(κ1:Nat)(hc:aa c.P c.G f xs x) (e1:a1) (h:AW c r y s' κ' Q) (hd:cu c.n ops.toList=true:=by exact rfl) (hr:∀ κ2,κ2=κ1→a1→aa c.P c.G f xs x→∀ K:au→Nat→Prop,K s' κ'→aK c (eF ops) s κ K:=by intro κ2 e e1 hc K k;simp [e1];refine ag.p κ2 9 hc ?_;subst e;simp [e1];(repeat refine ah ?_);exact k):AW c r (.seq (.region id ops false) y) s κ Q:=
 aaa fun K hK=>aao hd (hr κ1 rfl e1 hc K (hK _ _ h))
theorem AW.m1(κ1:Nat)(hc:aa c.P c.G f xs x) (e1:a1) (h:Q .normal s' κ') (hd:cu c.n ops.toList=true:=by exact rfl) (hr:∀ κ2,κ2=κ1→a1→aa c.P c.G f xs x→∀ K:au→Nat→Prop,K s' κ'→aK c (eF ops) s κ K:=by intro κ2 e e1 hc K k;simp [e1];refine ag.p κ2 9 hc ?_;subst e;simp [e1];(repeat refine ah ?_);exact k):AW c r (.region id ops false) s κ Q:=
 aao hd (hr κ1 rfl e1 hc (fun s κ=>Q .normal s κ) h)
theorem aar(e1:a1) (e2:a2) (h:AW c r y s' κ' Q) (hd:cu c.n ops.toList=true:=by exact rfl) (hr:a1→a2→∀ K:au→Nat→Prop,K s' κ'→aK c (eF ops) s κ K:=by intro e1 e2 K k;simp [e1,e2];(repeat refine ah ?_);exact k):AW c r (.seq (.region id ops false) y) s κ Q:=
 aaa fun K hK=>aao hd (hr e1 e2 K (hK _ _ h))
theorem aaw(e1:a1) (e2:a2) (h:Q .normal s' κ') (hd:cu c.n ops.toList=true:=by exact rfl) (hr:a1→a2→∀ K:au→Nat→Prop,K s' κ'→aK c (eF ops) s κ K:=by intro e1 e2 K k;simp [e1,e2];(repeat refine ah ?_);exact k):AW c r (.region id ops false) s κ Q:=
 aao hd (hr e1 e2 (fun s κ=>Q .normal s κ) h)
theorem AW.c2(κ1:Nat)(hc:aa c.P c.G f xs x) (e1:a1) (e2:a2) (h:AW c r y s' κ' Q) (hd:cu c.n ops.toList=true:=by exact rfl) (hr:∀ κ2,κ2=κ1→a1→a2→aa c.P c.G f xs x→∀ K:au→Nat→Prop,K s' κ'→aK c (eF ops) s κ K:=by intro κ2 e e1 e2 hc K k;simp [e1,e2];refine ag.p κ2 9 hc ?_;subst e;simp [e1,e2];(repeat refine ah ?_);exact k):AW c r (.seq (.region id ops false) y) s κ Q:=
 aaa fun K hK=>aao hd (hr κ1 rfl e1 e2 hc K (hK _ _ h))
theorem AW.m2(κ1:Nat)(hc:aa c.P c.G f xs x) (e1:a1) (e2:a2) (h:Q .normal s' κ') (hd:cu c.n ops.toList=true:=by exact rfl) (hr:∀ κ2,κ2=κ1→a1→a2→aa c.P c.G f xs x→∀ K:au→Nat→Prop,K s' κ'→aK c (eF ops) s κ K:=by intro κ2 e e1 e2 hc K k;simp [e1,e2];refine ag.p κ2 9 hc ?_;subst e;simp [e1,e2];(repeat refine ah ?_);exact k):AW c r (.region id ops false) s κ Q:=
 aao hd (hr κ1 rfl e1 e2 hc (fun s κ=>Q .normal s κ) h)
theorem aaC(e1:a1) (e2:a2) (e3:a3) (h:AW c r y s' κ' Q) (hd:cu c.n ops.toList=true:=by exact rfl) (hr:a1→a2→a3→∀ K:au→Nat→Prop,K s' κ'→aK c (eF ops) s κ K:=by intro e1 e2 e3 K k;simp [e1,e2,e3];(repeat refine ah ?_);exact k):AW c r (.seq (.region id ops false) y) s κ Q:=
 aaa fun K hK=>aao hd (hr e1 e2 e3 K (hK _ _ h))
theorem aav(e1:a1) (e2:a2) (e3:a3) (h:Q .normal s' κ') (hd:cu c.n ops.toList=true:=by exact rfl) (hr:a1→a2→a3→∀ K:au→Nat→Prop,K s' κ'→aK c (eF ops) s κ K:=by intro e1 e2 e3 K k;simp [e1,e2,e3];(repeat refine ah ?_);exact k):AW c r (.region id ops false) s κ Q:=
 aao hd (hr e1 e2 e3 (fun s κ=>Q .normal s κ) h)
theorem AW.c3(κ1:Nat)(hc:aa c.P c.G f xs x) (e1:a1) (e2:a2) (e3:a3) (h:AW c r y s' κ' Q) (hd:cu c.n ops.toList=true:=by exact rfl) (hr:∀ κ2,κ2=κ1→a1→a2→a3→aa c.P c.G f xs x→∀ K:au→Nat→Prop,K s' κ'→aK c (eF ops) s κ K:=by intro κ2 e e1 e2 e3 hc K k;simp [e1,e2,e3];refine ag.p κ2 9 hc ?_;subst e;simp [e1,e2,e3];(repeat refine ah ?_);exact k):AW c r (.seq (.region id ops false) y) s κ Q:=
 aaa fun K hK=>aao hd (hr κ1 rfl e1 e2 e3 hc K (hK _ _ h))
theorem aaD(e1:a1) (e2:a2) (e3:a3) (e4:a4) (h:AW c r y s' κ' Q) (hd:cu c.n ops.toList=true:=by exact rfl) (hr:a1→a2→a3→a4→∀ K:au→Nat→Prop,K s' κ'→aK c (eF ops) s κ K:=by intro e1 e2 e3 e4 K k;simp [e1,e2,e3,e4];(repeat refine ah ?_);exact k):AW c r (.seq (.region id ops false) y) s κ Q:=
 aaa fun K hK=>aao hd (hr e1 e2 e3 e4 K (hK _ _ h))
theorem aaB(e1:a1) (e2:a2) (e3:a3) (e4:a4) (h:Q .normal s' κ') (hd:cu c.n ops.toList=true:=by exact rfl) (hr:a1→a2→a3→a4→∀ K:au→Nat→Prop,K s' κ'→aK c (eF ops) s κ K:=by intro e1 e2 e3 e4 K k;simp [e1,e2,e3,e4];(repeat refine ah ?_);exact k):AW c r (.region id ops false) s κ Q:=
 aao hd (hr e1 e2 e3 e4 (fun s κ=>Q .normal s κ) h)
theorem AW.c4(κ1:Nat)(hc:aa c.P c.G f xs x) (e1:a1) (e2:a2) (e3:a3) (e4:a4) (h:AW c r y s' κ' Q) (hd:cu c.n ops.toList=true:=by exact rfl) (hr:∀ κ2,κ2=κ1→a1→a2→a3→a4→aa c.P c.G f xs x→∀ K:au→Nat→Prop,K s' κ'→aK c (eF ops) s κ K:=by intro κ2 e e1 e2 e3 e4 hc K k;simp [e1,e2,e3,e4];refine ag.p κ2 9 hc ?_;subst e;simp [e1,e2,e3,e4];(repeat refine ah ?_);exact k):AW c r (.seq (.region id ops false) y) s κ Q:=
 aaa fun K hK=>aao hd (hr κ1 rfl e1 e2 e3 e4 hc K (hK _ _ h))
theorem AW.f5(e1:a1) (e2:a2) (e3:a3) (e4:a4) (e5:a5) (h:AW c r y s' κ' Q) (hd:cu c.n ops.toList=true:=by exact rfl) (hr:a1→a2→a3→a4→a5→∀ K:au→Nat→Prop,K s' κ'→aK c (eF ops) s κ K:=by intro e1 e2 e3 e4 e5 K k;simp [e1,e2,e3,e4,e5];(repeat refine ah ?_);exact k):AW c r (.seq (.region id ops false) y) s κ Q:=
 aaa fun K hK=>aao hd (hr e1 e2 e3 e4 e5 K (hK _ _ h))
theorem AW.f6(e1:a1) (e2:a2) (e3:a3) (e4:a4) (e5:a5) (e6:a6) (h:AW c r y s' κ' Q) (hd:cu c.n ops.toList=true:=by exact rfl) (hr:a1→a2→a3→a4→a5→a6→∀ K:au→Nat→Prop,K s' κ'→aK c (eF ops) s κ K:=by intro e1 e2 e3 e4 e5 e6 K k;simp [e1,e2,e3,e4,e5,e6];(repeat refine ah ?_);exact k):AW c r (.seq (.region id ops false) y) s κ Q:=
 aaa fun K hK=>aao hd (hr e1 e2 e3 e4 e5 e6 K (hK _ _ h))
theorem AW.f7(e1:a1) (e2:a2) (e3:a3) (e4:a4) (e5:a5) (e6:a6) (e7:a7) (h:AW c r y s' κ' Q) (hd:cu c.n ops.toList=true:=by exact rfl) (hr:a1→a2→a3→a4→a5→a6→a7→∀ K:au→Nat→Prop,K s' κ'→aK c (eF ops) s κ K:=by intro e1 e2 e3 e4 e5 e6 e7 K k;simp [e1,e2,e3,e4,e5,e6,e7];(repeat refine ah ?_);exact k):AW c r (.seq (.region id ops false) y) s κ Q:=
 aaa fun K hK=>aao hd (hr e1 e2 e3 e4 e5 e6 e7 K (hK _ _ h))
theorem AW.f8{a8:Prop}(e1:a1) (e2:a2) (e3:a3) (e4:a4) (e5:a5) (e6:a6) (e7:a7) (e8:a8) (h:AW c r y s' κ' Q) (hd:cu c.n ops.toList=true:=by exact rfl) (hr:a1→a2→a3→a4→a5→a6→a7→a8→∀ K:au→Nat→Prop,K s' κ'→aK c (eF ops) s κ K:=by intro e1 e2 e3 e4 e5 e6 e7 e8 K k;simp [e1,e2,e3,e4,e5,e6,e7,e8];(repeat refine ah ?_);exact k):AW c r (.seq (.region id ops false) y) s κ Q:=
 aaa fun K hK=>aao hd (hr e1 e2 e3 e4 e5 e6 e7 e8 K (hK _ _ h))
theorem aH.t2{y:AV}{t:Nat}(hr:fn.results=#[.tmp t,.tmp u]) (kh:Key) (hx:s.fr t=x:=by simp) (hy:s.fr u=y:=by simp) (hp:x.pure=true:=by first|rfl|simp) (hq:y.pure=true:=by first|rfl|simp) (hh:s.lv kh=.hole:=by first|rfl|simp) (hn:x.bV=true:=by first|rfl|simp) (hm:y.bV=true:=by first|rfl|simp) (htu:t≠u:=by decide):aH c fn (.tup [x,y]) .ret s 0:=
 aH.SD hr kh hx hy hp hq hh hn hm htu
end
end Go.Am
namespace Go.Am.N
variable {B n i m d x:Nat}{l:List Nat}
def val (B:Nat):List Nat→Nat
 | []=>0
 | d::l=>d+B*val B l
def ok (B:Nat)(l:List Nat):Prop:=∀ d∈l,d<B
@[simp] theorem ry (B:Nat):val B []=0:=rfl
@[simp] theorem bY (B d:Nat)(l:List Nat):val B (d::l)=d+B*val B l:=rfl
theorem iZ (B:Nat)(a b:List Nat):val B (a++b)=val B a+B ^ a.length*val B b:=by
 induction a with
 | nil=>simp
 | cons d a ih=>
  simp only [Z3,bY,ih,Zn,Zq]
  grind
theorem uM (B n:Nat):val B (List.replicate n 0)=0:=by
 induction n with
 | zero=>rfl
 | succ n ih=>simp [aba,ih]
theorem dX (B:Nat):ok B []:=fun d h=>by cases h
theorem ck:ok B (d::l)↔d<B∧ok B l:=by simp [ok]
theorem dH{a b:List Nat}:ok B (a++b)↔ok B a∧ok B b:=by
 simp only [ok,ZM];exact⟨fun h=>⟨fun d hd=>h d (.inl hd),fun d hd=>h d (.inr hd)⟩,fun h d hd=>hd.elim (h.1 d) (h.2 d)⟩
theorem yD(hB:0<B) (n:Nat):ok B (List.replicate n 0):=fun d hd=>by rw [List.eq_of_mem_replicate hd];exact hB
theorem mo(h:ok B l) (n:Nat):ok B (l.take n):=fun d hd=>h d (Z6 hd)
theorem Bt(h:ok B l) (n:Nat):ok B (l.drop n):=fun d hd=>h d (aaJ hd)
theorem Ly(h:ok B l) (n:Nat)(hx:x<B):ok B (l.set n x):=fun d hd=>by
 rcases List.mem_or_eq_of_mem_set hd with h1|h1
 ·exact h d h1
 ·rw [h1];exact hx
theorem ig {B:Nat}:∀ {l:List Nat},ok B l→val B l<B ^ l.length
 | [],_=>by simp
 | d::l,h=>by
  rw [ck] at h;have h1:=ig h.2;simp only [bY,Zn,Zq];have h2:B*(val B l+1)≤B*B ^ l.length:=ZG _ h1;rw [YW,Zm B (B ^ _)] at h2;omega
theorem cA(h:i<l.length):val B (l.take (i+1))=val B (l.take i)+B ^ i*l[i]:=by
 rw [List.take_succ_eq_append_getElem h,iZ,Zc,ZF (by omega)];simp
theorem cH(l:List Nat) (i:Nat) (h:i≤l.length):val B l=val B (l.take i)+B ^ i*val B (l.drop i):=by
 conv=>lhs;rw [← abw i l,iZ,Zc,ZF h]
theorem ey(h:i<l.length):val B (l.drop i)=l[i]+B*val B (l.drop (i+1)):=by
 rw [ZR h,bY]
theorem hO(h:l.length≤i):val B (l.drop i)=0:=by
 rw [aa6 h];rfl
theorem bR(h:l.length≤i):val B (l.take i)=val B l:=by
 rw [ZH h]
def can (B:Nat)(l:List Nat):Prop:=ok B l∧∀ x,l.getLast?=some x→x≠0
def fF (l:List Nat):List Nat:=(l.reverse.dropWhile (·=0)).reverse
@[simp] theorem RB:fF []=[]:=rfl
theorem jt (l:List Nat):fF (l++[0])=fF l:=by simp [fF]
theorem kf(h:x≠0):fF (l++[x])=l++[x]:=by simp [fF,h]
theorem so {p:List Nat→Prop}(h0:p []) (h1:∀ l x,p l→p (l++[x])) (l:List Nat):p l:=by
 have key:∀ l:List Nat,p l.reverse:=by
  intro l
  induction l with
  | nil=>exact h0
  | cons x l ih=>rw [List.reverse_cons];exact h1 _ _ ih
 rw [← List.reverse_reverse l];exact key _
theorem Lc (B:Nat)(l:List Nat):val B (fF l)=val B l:=by
 induction l using so with
 | h0=>rfl
 | h1 l x ih=>
  by_cases h:x=0
  ·subst h;rw [jt,ih,iZ];simp
  ·rw [kf h]
theorem JN (l:List Nat):(fF l).length≤l.length:=by
 induction l using so with
 | h0=>exact aW _
 | h1 l x ih=>
  by_cases h:x=0
  ·subst h;rw [jt];simp;omega
  ·rw [kf h];exact aW _
theorem Bj(h:ok B l):ok B (fF l):=by
 induction l using so with
 | h0=>exact h
 | h1 l x ih=>
  by_cases e:x=0
  ·subst e;rw [jt];exact ih (dH.1 h).1
  ·rw [kf e];exact h
theorem Jm(h:ok B l):can B (fF l):=by
 refine⟨Bj h,?_⟩;clear h
 induction l using so with
 | h0=>intro x hx;cases hx
 | h1 l x ih=>
  by_cases e:x=0
  ·subst e;rw [jt];exact ih
  ·rw [kf e];intro y hy;simp at hy;omega
theorem yR(h:can B (d::l)):can B l:=by
 refine⟨(ck.1 h.1).2,fun x hx=>h.2 x ?_⟩
 cases l with
 | nil=>cases hx
 | cons e l=>rw [List.getLast?_cons_cons];exact hx
theorem iC(h:can B l) (h0:l≠[]):0<val B l:=by
 induction l with
 | nil=>exact absurd rfl h0
 | cons d l ih=>
  simp only [bY]
  by_cases hl:l=[]
  ·subst hl;have:=h.2 d rfl;simp;omega
  ·have h1:=ih (yR h) hl
   have h2:0<B:=by
    have:=(ck.1 h.1).1;omega
   have:=aaN h2 h1;omega
theorem C8(h:can B l) (h0:val B l=0):l=[]:=by
 by_cases e:l=[]
 ·exact e
 ·have:=iC h e;omega
theorem Hw {B:Nat}:∀ {a b:List Nat},can B a→can B b→val B a=val B b→a=b
 | [],b,_,hb,h=>(C8 hb h.symm).symm
 | a,[],ha,_,h=>C8 ha h
 | d::a,e::b,ha,hb,h=>by
  simp only [bY] at h;have hd:=(ck.1 ha.1).1;have he:=(ck.1 hb.1).1
  have h1:d=e:=by
   have:=congrArg (· % B) h;simp only [abC,ZD hd,ZD he] at this;exact this
  subst h1;have h2:B*val B a=B*val B b:=by omega
  have h3:=Nat.eq_of_mul_eq_mul_left (by omega:0<B) h2;rw [Hw (yR ha) (yR hb) h3]
def DP (B:Nat):Nat→Nat→List Nat
 | 0,_=>[]
 | f+1,n=>if n=0 then [] else n % B::DP B f (n / B)
def cz (B n:Nat):List Nat:=DP B n n
theorem xN {B:Nat}(hB:2≤B):∀ {f n:Nat},n≤f→val B (DP B f n)=n
 | 0,n,h=>by simp [DP];omega
 | f+1,n,h=>by
  simp only [DP];split
  ·rename_i e;simp [e]
  ·rename_i e
   have h1:n / B<n:=Nat.div_lt_self (by omega) (by omega);rw [bY,xN hB (by omega)];exact Nat.mod_add_div n B
theorem DZ {B:Nat}(hB:2≤B):∀ {f n:Nat},n≤f→can B (DP B f n)
 | 0,n,h=>⟨dX B,fun x hx=>by cases hx⟩
 | f+1,n,h=>by
  simp only [DP];split
  ·exact⟨dX B,fun x hx=>by cases hx⟩
  ·rename_i e
   have h1:n / B<n:=Nat.div_lt_self (by omega) (by omega);have h2:=DZ hB (f:=f) (n:=n / B) (by omega);refine⟨ck.2 ⟨Zl _ (by omega),h2.1⟩,fun x hx=>?_⟩
   cases e2:DP B f (n / B) with
   | nil=>
    rw [e2] at hx;simp at hx;subst hx;have h3:=xN hB (f:=f) (n:=n / B) (by omega);rw [e2] at h3;simp at h3;have h4:=Nat.mod_add_div n B;rw [← h3] at h4;simp at h4;omega
   | cons d l=>
    rw [e2,List.getLast?_cons_cons] at hx;exact h2.2 x (by rw [e2];exact hx)
theorem eJ(hB:2≤B) (n:Nat):val B (cz B n)=n:=xN hB (aW _)
theorem ez(hB:2≤B) (n:Nat):can B (cz B n):=DZ hB (aW _)
theorem jC(hB:2≤B)(h:can B l) (hv:val B l=n):l=cz B n:=
 Hw h (ez hB n) (by rw [hv,eJ hB])
theorem iu(hB:2≤B)(h:ok B l) (hv:val B l=n):fF l=cz B n:=
 jC hB (Jm h) (by rw [Lc,hv])
@[simp] theorem Tq (B:Nat):cz B 0=[]:=rfl
theorem lq(hB:2≤B):cz B n=[]↔n=0:=
 ⟨fun h=>by rw [← eJ hB n,h];rfl,fun h=>by rw [h];rfl⟩
theorem yN(hB:2≤B):n<B ^ (cz B n).length:=by
 have:=ig (ez hB n).1
 rwa [eJ hB] at this
theorem Qv(hB:2≤B) (h:n≠0):B ^ ((cz B n).length - 1)≤n:=by
 have hc:=ez hB n;have hv:=eJ hB n;have hn:cz B n≠[]:=fun e=>h ((lq hB).1 e)
 have hlen:0<(cz B n).length:=List.length_pos_iff.2 hn;have hlast:(cz B n).length - 1<(cz B n).length:=by omega
 have h1:=cH (B:=B) (cz B n) ((cz B n).length - 1) (by omega);rw [ey hlast,hv] at h1;have h2:(cz B n)[(cz B n).length - 1]≠0:=hc.2 _ (by rw [ab0,cn hlast])
 have h3:B ^ ((cz B n).length - 1)*1≤B ^ ((cz B n).length - 1)*((cz B n)[(cz B n).length - 1]+B*val B ((cz B n).drop ((cz B n).length - 1+1))):=
  ZG _ (by omega)
 omega
theorem di(hB:2≤B) (h:n<B ^ m):(cz B n).length≤m:=by
 by_cases e:n=0
 ·subst e;simp
 ·have h1:=Qv hB e;have h2:B ^ ((cz B n).length - 1)<B ^ m:=aaY h1 h;have:=(Nat.pow_lt_pow_iff_right (by omega:1<B)).1 h2;omega
theorem I4(hB:2≤B) (h0:n≠0) (h:n<B):cz B n=[n]:=
 (jC hB ⟨ck.2 ⟨h,dX B⟩,fun x hx=>by simp at hx;omega⟩ (by simp)).symm
theorem jR(hB:2≤B) (h:m≤n):(cz B m).length≤(cz B n).length:=
 di hB (aaY h (yN hB))
theorem Ib(hB:2≤B) (h:(cz B m).length<(cz B n).length):m<n:=by
 by_cases e:m<n
 ·exact e
 ·have:=jR hB (abe e);omega
end Go.Am.N
namespace Go.Am.N
theorem nX (B i m:Nat):B ^ i*(m % B)+B ^ (i+1)*(m / B)=B ^ i*m:=by
 rw [Zq,Zk,← YW,Nat.mod_add_div]
theorem jv (B:Nat)(l:List Nat)(x:Nat):val B (l++[x])=val B l+B ^ l.length*x:=by
 rw [iZ];simp
theorem qH (B:Nat)(l:List Nat)(m:Nat):val B (l++[m % B])+B ^ (l.length+1)*(m / B)=val B l+B ^ l.length*m:=by
 rw [jv,ZC,nX]
theorem BY {B:Nat}:∀ {l:List Nat}{i:Nat}(h:i<l.length) (x:Nat),val B (l.set i x)+B ^ i*l[i]=val B l+B ^ i*x
 | d::l,0,h,x=>by simp;omega
 | d::l,i+1,h,x=>by
  have ih:=BY (B:=B) (l:=l) (i:=i) (by simpa using h) x;simp only [List.set_cons_succ,bY,List.getElem_cons_succ,Zq];have e1:B ^ i*B*l[i]'(by simpa using h)=B*(B ^ i*l[i]'(by simpa using h)):=by rw [Zm (B ^ i) B,Zk]
  have e2:B ^ i*B*x=B*(B ^ i*x):=by rw [Zm (B ^ i) B,Zk]
  rw [e1,e2,ZC,← YW,ih,YW];omega
end Go.Am.N
namespace Go.Am
open N
variable {T e:TypeId}{k k':IntKind}{P:Program}{lv:Key→LB}{o:Option (List Nat)}{i off len sz:Nat}{n:Int}{l:List Nat}
def dK (k:IntKind)(l:List Nat):List (List DV):=l.map fun (x:Nat)=>[DV.int k (x:Int)]
def nK (k:IntKind):Option (List Nat)→AV
 | none=>.c (.d .nilsl)
 | some l=>.c (.d (.sl (dK k l)))
def dO (o:Option (List Nat)):List Nat:=o.getD []
@[simp] theorem dB (l:List Nat):dO (some l)=l:=rfl
@[simp] theorem UD:dO none=[]:=rfl
@[simp] theorem T7 (k:IntKind)(o:Option (List Nat)):(nK k o).pure=true:=by cases o <;> rfl
@[simp] theorem SZ (k:IntKind)(o:Option (List Nat)):(nK k o).bV=true:=by cases o <;> rfl
@[simp] theorem Tx (k:IntKind)(o:Option (List Nat)):(nK k o).bu=true:=by cases o <;> rfl
@[simp] theorem W1 (k:IntKind)(o:Option (List Nat))(g:Key→Key):(nK k o).br g=nK k o:=by cases o <;> rfl
theorem jb {V:Vw}{v:Value}(h:V.av v (nK k o)):(dO o).length≤9223372036854775807∧∀ x∈dO o,(x:Int)≤qd k:=by
 cases o with
 | none=>exact⟨by simp,fun x hx=>by cases hx⟩
 | some l=>
  have h1:=Vw.Fp h;simp only [dK,YX] at h1;refine⟨h1,fun x hx=>?_⟩;obtain⟨h,_⟩:=h
  cases h with
  | sl b off cap sz _ vs hl hc hb hm ho hr=>
   obtain⟨i,hi,rfl⟩:=List.mem_iff_getElem.1 hx;simp only [dB] at hi;have h2:=hr i (by simpa [dK] using hi) 0 (by simp [dK]);simp only [dK,sr,Zx] at h2
   have h3:k.wrap (l[i]:Int)=(l[i]:Int):=by
    generalize vs i 0=u at h2
    cases h2;assumption
   rw [nO] at h3;simp only [dB];exact h3.2
theorem mA{z:Nat}(h:ff P T=some (e,z)):dW P T lv (nK k o)=some (.c (.d (.int .i64 (dO o).length)),[],[],True):=by
 cases o <;> simp [dW,lF,nK,h,dK,keyOf,kV]
theorem L3(h:ff P T=some (e,1)) (hi:i<(dO o).length) :
 aq P T lv (nK k o) (.c (.d (.int k' (i:Int))))=some (.c (.d (.ptr [DV.int k ((dO o)[i]:Int)])),[],[],True):=by
 cases o with
 | none=>cases hi
 | some l=>
  simp only [dB] at hi;have h1:(dK k l)[i]?.getD []=[DV.int k (l[i]:Int)]:=by simp [dK,hi]
  have h2:(i:Int)<(l.length:Int):=by omega
  simp [nK,aq,h,h1];simp [dK,hi]
@[simp] theorem Si(h:(ff P T).isSome=true):dW P T lv (nK k o)=some (.c (.d (.int .i64 (dO o).length)),[],[],True):=by
 obtain⟨⟨e,z⟩,h⟩:=Option.isSome_iff_exists.1 h;exact mA h
@[simp] theorem ua(h:(ff P T).map (·.2)=some 1) (hi:i<(dO o).length) :
 aq P T lv (nK k o) (.c (.d (.int k' (i:Int))))=some (.c (.d (.ptr [DV.int k ((dO o)[i]:Int)])),[],[],True):=by
 obtain⟨⟨e,z⟩,h,rfl⟩:=Option.map_eq_some_iff.1 h;exact L3 h hi
@[simp] theorem Tg{k:Key}(h:(ff P T).isSome=true):dW P T lv (.c (.aI k off len sz))=(match lv k with|.cells ..|.bk=>some (.c (.d (.int .i64 len)),[],[k],kV (.c (.aI k off len sz)) len)|_=>none):=by
 simp only [dW,lF,h,if_true]
 cases lv k <;> rfl
@[simp] theorem Rm {k:Key}:kV (.c (.aI k off len sz)) n=(n≤9223372036854775807):=rfl
@[simp] theorem St{l:List UInt8}(h:ct P T=true):dW P T lv (.c (.d (.str l)))=some (.c (.d (.int .i64 l.length)),[],[],True):=by
 simp [dW,lF,h,keyOf]
attribute [simp] D4
def wK (k:IntKind)(l:List Nat):List CV:=l.map fun (x:Nat)=>CV.d (.int k (x:Int))
@[simp] theorem JE (k:IntKind)(l:List Nat):(wK k l).length=l.length:=by simp [wK]
theorem ju (k:IntKind)(n:Nat):List.replicate n (CV.d (.int k 0))=wK k (List.replicate n 0):=by simp [wK]
theorem iD (k:IntKind)(h:i<l.length) (x:Nat):aj (wK k l) i [CV.d (.int k (x:Int))]=wK k (l.set i x):=by
 simp only [aj,wK,aaO];rw [ab1,if_pos h];simp [abf,List.map_drop]
theorem GN(ha:cR P T=some false) (k:IntKind)(h:i<l.length):dQ P T ((wK k l).drop i)=some (.c (.d (.int k (l[i]:Int)))):=by
 have:(wK k l).drop i=CV.d (.int k (l[i]:Int))::(wK k l).drop (i+1):=by
  rw [ZR (by simpa using h)];simp [wK]
 rw [this];simp [ha]
attribute [simp] GN
theorem yO {lv:Key→LB}{n:Nat}{k:IntKind}:∀ (l:List Nat),fG (cC lv n) (wK k l)=some (l.map fun (x:Nat)=>DV.int k (x:Int),[])
 | []=>rfl
 | x::l=>by
  have ih:=yO (lv:=lv) (n:=n) (k:=k) l;simp only [wK,Y0,fG] at ih ⊢;rw [ih]
  cases n <;> rfl
theorem pn {α:Type}:∀ (l:List α),chunk 1 l.length l=l.map fun x=>[x]
 | l=>by
  apply aa3
  ·simp [chunk]
  ·intro i h1 h2;simp [chunk] at h1 h2 ⊢;rw [ZR (by omega)];rfl
theorem NL{κ:Key}{own fz:Bool}(h:lv κ=.cells own fz T (wK k l)) (hl:l.length≤9223372036854775807):fq lv (.c (.aI κ 0 l.length 1))=some (nK k (some l),[κ]):=by
 have h1:(wK k l).take l.length=wK k l:=ZH (by simp);simp only [fq,cC,h,JE,aa5,Y5,aW,hl,and_self,if_true,YV,h1,yO,Zb];have h2:=pn (l.map fun (x:Nat)=>DV.int k (x:Int));rw [YX] at h2;rw [h2];simp [nK,dK]
theorem dF(h1:-9223372036854775808≤n) (h2:n≤9223372036854775807):IntKind.i64.wrap n=n:=c9 ⟨h1,h2⟩
theorem dx(h1:0≤n) (h2:n≤18446744073709551615):IntKind.u64.wrap n=n:=c9 ⟨h1,h2⟩
theorem uJ(h1:0≤n) (h2:n≤4294967295):IntKind.u32.wrap n=n:=c9 ⟨h1,h2⟩
theorem pX (n:Int):IntKind.u32.wrap n=n % 4294967296:=by rw [wZ];simp [IntKind.signed,IntKind.bits]
theorem Ap (n:Int):IntKind.u64.wrap n=n % 18446744073709551616:=by rw [wZ];simp [IntKind.signed,IntKind.bits]
theorem jr.zz {c:Ctx}{f:FuncId}{ps:List zi}{d:Option Tmp}{s:au}{κ:Nat}{K:au→Nat→Prop}(κ':Nat) (kh:Key) (κb:Key){x:AV}(hk:s.lv κb=.cells true false T (wK k l)) (hl:l.length≤9223372036854775807)
 (hc:aa c.P c.G f [nK k (some l)] x) (hx:x.pure=true) (hh:s.lv kh=.hole) (hkh:kh≠κb) (hK:aK c ps (au.put ⟨s.fr,aD s.lv κb (.cells true true T (wK k l))⟩ d x) κ' K):jr c f [.c (.aI κb 0 l.length 1)] ps d s κ K:=by
 refine ag.Wf κ' kh κb T (wK k l) [kh] hc hx hk hh hkh rfl (fun i p q=>?_) (fun a ha j hj=>?_) (by simp) hK
 ·have hi:i=0:=by simp at p;omega
  subst hi;right;exact NL (az _ _ _) hl
 ·simp only [ZW] at ha;subst ha;simp only [jo,fY,YT,az] at hj;rcases hj with rfl|hj
  ·exact .inr rfl
  ·simp only [ZY] at hj;obtain⟨y,hy,hj⟩:=hj;simp only [wK,Zo] at hy;obtain⟨z,_,rfl⟩:=hy
   cases hj
end Go.Am
namespace Go.Am
open N
variable {lv lv':Key→LB}{c:Ctx}{fr:Nat→AV}
attribute [simp] Bf
@[simp] theorem Ug (x:CV):(AV.c x).bu=true:=rfl
@[simp] theorem Ru (x:List CV):(AV.agg x).bu=true:=rfl
@[simp] theorem Ue (x:DV):(AV.c (.d x)).pure=true:=rfl
theorem aax{r:Option Nat}{s:au}{κ:Nat}{Q:Ex→au→Nat→Prop}{x:Code}(κ':Nat) (h:AW c r x s κ' Q):AW c r x s κ Q:=h
def iw (lv:Key→LB):Prop:=∀ k own es,lv k≠.map own es
@[simp] theorem qi:iw (fun _=>.hole):=fun k own es h=>by cases h
@[simp] theorem uw(h:iw lv) (k:Key) (own fz:Bool) (T:TypeId) (cs:List CV):iw (aD lv k (.cells own fz T cs)):=fun k' o es h'=>by
 unfold aD at h';split at h'
 ·cases h'
 ·exact h _ _ _ h'
@[simp] theorem nH(h:iw lv) (k:Key):iw (aD lv k .dead):=fun k' o es h'=>by
 unfold aD at h';split at h'
 ·cases h'
 ·exact h _ _ _ h'
theorem Le.mk'(l:List (Nat × AV)) (he:lv=lv') (hm:iw lv) (hl:∀ p∈l,p.2.bu=true∧fr p.1=p.2):Le c ⟨fr,lv⟩ ⟨bq l,lv'⟩:=by
 subst he;exact Le.slots l hl (fun k own es h=>absurd h (hm k own es))
theorem Le.tG(l:List (Nat × AV)) (he:lv=lv':=by first|rfl|simp) (hl:∀ p∈l,p.2.bu=true∧fr p.1=p.2:=by simp) (hm:iw lv:=by repeat (first|exact qi|refine uw ?_ _ _ _ _ _|(refine nH ?_ _)|(refine AP ?_ _ _ _)|(refine ox ?_ _)|simp)):Le c ⟨fr,lv⟩ ⟨bq l,lv'⟩:=Le.mk' l he hm hl
theorem lQ (pre:List Nat)(m x:Nat):(pre++List.replicate (m+1) 0).set pre.length x=(pre++[x])++List.replicate m 0:=by
 rw [abD _ _ (aW _)];simp [aba]
end Go.Am
namespace Go.Am
variable {P:Program}{T:TypeId}{k:IntKind}{m n:Int}
def JM (k:IntKind)(m n:Int):Int:=k.wrap (BitVec.ofInt k.bits m ||| BitVec.ofInt k.bits n).toNat
def VE (k:IntKind)(m n:Int):Int:=k.wrap (BitVec.ofInt k.bits m &&& BitVec.ofInt k.bits n).toNat
@[simp] theorem Wt:aJ P .or T (.c (.d (.int k m))) (.c (.d (.int k n)))=some (.c (.d (.int k (JM k m n))),[],[],True):=Tc
@[simp] theorem UT:aJ P .and T (.c (.d (.int k m))) (.c (.d (.int k n)))=some (.c (.d (.int k (VE k m n))),[],[],True):=Qg
theorem QT (m n:Nat)(hm:m<18446744073709551616)(hn:n<18446744073709551616):JM .u64 (m:Int) (n:Int)=((m ||| n:Nat):Int):=by
 have h2:(BitVec.ofNat 64 m ||| BitVec.ofNat 64 n).toNat=m ||| n:=by
  rw [BitVec.toNat_or,abP,abP,ZD hm,ZD hn]
 have h3:m ||| n<18446744073709551616:=Nat.or_lt_two_pow (n:=64) hm hn;show IntKind.u64.wrap (((BitVec.ofInt 64 (m:Int) ||| BitVec.ofInt 64 (n:Int)).toNat:Nat):Int)=_;rw [abQ,abQ,h2];generalize m ||| n=q at h3;exact dx (by omega) (by omega)
theorem D0 (k:IntKind)(m n:Int):JM k m n=JM k n m:=by unfold JM;rw [BitVec.or_comm]
theorem tv {m y:Nat}(hm:m<4294967296) (hy:y<4294967296):JM .u64 ((m*4294967296:Nat):Int) (y:Int)=((m*4294967296+y:Nat):Int):=by
 rw [QT _ _ (by omega) (by omega)];congr 1;have:=Nat.shiftLeft_add_eq_or_of_lt (i:=32) (b:=y) (by simpa using hy) m;rw [Nat.shiftLeft_eq] at this;exact this.symm
theorem Ay (qs:List Nat)(k x:Nat):(List.replicate (k+1) 0++qs).set k x=List.replicate k 0++(x::qs):=by
 rw [List.set_append_left _ _ (by simp),List.replicate_succ',abD _ _ (by simp)];simp
end Go.Am
namespace Go.Am
theorem P7 (m n:Nat)(hm:m<4294967296)(hn:n<4294967296):JM .u32 (m:Int) (n:Int)=((m ||| n:Nat):Int):=by
 have h2:(BitVec.ofNat 32 m ||| BitVec.ofNat 32 n).toNat=m ||| n:=by
  rw [BitVec.toNat_or,abP,abP,ZD hm,ZD hn]
 have h3:m ||| n<4294967296:=Nat.or_lt_two_pow (n:=32) hm hn;show IntKind.u32.wrap (((BitVec.ofInt 32 (m:Int) ||| BitVec.ofInt 32 (n:Int)).toNat:Nat):Int)=_;rw [abQ,abQ,h2];generalize m ||| n=q at h3;exact uJ (by omega) (by omega)
theorem L1 {t y s:Nat}(ht:t<2 ^ s) (h:y*2 ^ s+t<4294967296):JM .u32 (t:Int) ((y*2 ^ s:Nat):Int)=((y*2 ^ s+t:Nat):Int):=by
 rw [D0,P7 _ _ (by omega) (by omega)];congr 1;have:=Nat.shiftLeft_add_eq_or_of_lt (i:=s) (b:=t) ht y;rw [Nat.shiftLeft_eq] at this;exact this.symm
end Go.Am
namespace Go.Am
variable {x:Nat}{lo pre r:List Nat}
theorem lZ {P:Program}{T:TypeId}(ha:cR P T=some false) (k:IntKind) {l:List Nat}{i:Nat}(h:l[i]?=some x):dQ P T ((wK k l).drop i)=some (.c (.d (.int k (x:Int)))):=by
 obtain⟨hi,rfl⟩:=List.getElem?_eq_some_iff.1 h;exact GN ha k hi
theorem Hu(hi:List Nat):(lo++(pre++x::r)++hi)[lo.length+pre.length]?=some x:=by
 rw [YZ,Zf (by omega),ZE,YZ,Zf (aW _),ZJ];rfl
theorem wU(hi:List Nat) (d:Nat):(lo++(pre++x::r)++hi).set (lo.length+pre.length) d=lo++((pre++[d])++r)++hi:=by
 rw [YZ,abD _ _ (by omega),ZE,YZ,abD _ _ (aW _),ZJ];simp
end Go.Am
namespace Go.Am
variable {x i:AV}{c:Ctx}{ops:Array Oper}{s:au}{κ:Nat}{o:Oper}{K:AV→List (Key × LB)→List Key→Nat→Prop}
def gT:Op→Bool
 | .move _|.assign _|.pick ..|.build ..|.load ..|.nilCheck _|.binOp ..|.unOp ..|.convert ..|.makeInterface ..|.slice ..|.fieldAddr ..|.field ..|.indexAddr ..|.index ..|.extract ..=>true
 | .call cl=>match cl.callee with|.builtin .len|.builtin .max|.builtin .min=>true|_=>false
 | _=>false
section
variable {P:Program}{T:TypeId}{lv:Key→LB}{κ:Key}{v:AV}{us:List (Key × LB)}{rds:List Key}{vc:Prop}
theorem SB {op:BinOp}{y:AV}(h:aJ P op T x y=some (v,us,rds,vc)):us=[]:=by
 unfold aJ at h;(repeat' split at h) <;> simp_all
theorem PE(h:cx P T lv x=some (v,us,rds,vc)):us=[]:=by
 unfold cx at h;(repeat' split at h) <;> simp_all
theorem SY(h:gk lv x=some (v,us,rds,vc)):us=[]:=by
 unfold gk at h;(repeat' split at h) <;> simp_all
theorem Vc {f:Nat}(h:bF P T f lv x=some (v,us,rds,vc)):us=[]:=by
 unfold bF at h;(repeat' split at h) <;> simp_all
theorem Wn(h:aq P T lv x i=some (v,us,rds,vc)):us=[]:=by
 unfold aq at h;(repeat' split at h) <;> simp_all
theorem Vu(h:fI P T x i=some (v,us,rds,vc)):us=[]:=by
 unfold fI at h;(repeat' split at h) <;> simp_all
theorem Wx{lo hi:Option AV}(h:bh P T lv x lo hi=some (v,us,rds,vc)):us=[]:=by
 unfold bh at h;(repeat' split at h) <;> simp_all
theorem Dm {op:Op}{vals:List AV}(hq:gT op=true) (h:aZ P op vals lv κ=some (v,us,rds,vc)):us=[]:=by
 unfold aZ at h;split at h
 all_goals first
  | exact SB h
  | exact PE h
  | exact SY h
  | exact Vc h
  | exact Wn h
  | exact Vu h
  | (cases hq;done)
  | (split at h;(exact Wx h);(cases h;done))
  | ((repeat' split at h) <;> first|(cases h;done)|(simp only [ai,fy] at h;exact h.2.1.symm))
  | skip
 ·rename_i cl vals'
  unfold iy at h;simp only [gT] at hq;split at h
  ·(repeat' split at h) <;> first|(cases h;done)|(simp only [ai,fy] at h;exact h.2.1.symm)
  ·rename_i e;rw [e] at hq;cases hq
  ·rename_i e;rw [e] at hq;cases hq
  ·(repeat' split at h) <;> first|(cases h;done)|(simp only [ai,fy] at h;exact h.2.1.symm)
  ·(repeat' split at h) <;> first|(cases h;done)|(simp only [ai,fy] at h;exact h.2.1.symm)
  ·cases h
end
theorem dz.quiet(hq:gT o.op=true) (h:dz c o s κ K):dz c o s κ fun x us rds κ'=>us=[]∧K x us rds κ':=by
 have plain:(match aZ c.P o.op (o.op.operands.toList.map (s.val c.G)) s.lv κ with
  | some (x,us,rds,vc)=>vc∧K x us rds (match us with|[]=>κ|_=>κ+1)
  | none=>False)→(match aZ c.P o.op (o.op.operands.toList.map (s.val c.G)) s.lv κ with
  | some (x,us,rds,vc)=>vc∧(us=[]∧K x us rds (match us with|[]=>κ|_=>κ+1))
  | none=>False):=by
  intro h;split at h
  ·rename_i x us rds vc hs
   exact⟨h.1,Dm hq hs,h.2⟩
  ·exact h.elim
 unfold dz at h ⊢;split at h
 ·rename_i cl ho
  split at h
  ·rename_i fo hf
   rw [ho] at hq;simp only [gT,hf] at hq
   cases hq
  ·exact plain h
 ·exact plain h
theorem dz.mono{K':AV→List (Key × LB)→List Key→Nat→Prop}(h:dz c o s κ K) (hK:∀ x us rds κ',K x us rds κ'→K' x us rds κ'):dz c o s κ K':=by
 unfold dz at h ⊢;split at h
 ·split at h
  ·split at h
   ·obtain⟨h1,x,us,rds,κ',h2,h3⟩:=h;exact⟨h1,x,us,rds,κ',h2,hK _ _ _ _ h3⟩
   ·exact h.elim
  ·split at h
   ·exact⟨h.1,hK _ _ _ _ h.2⟩
   ·exact h.elim
 ·split at h
  ·exact⟨h.1,hK _ _ _ _ h.2⟩
  ·exact h.elim
theorem fM.mono{K K':au→Nat→List Fx→Prop}:∀ {os:List Oper}{s:au}{κ:Nat}{acc:List Fx},fM c ops os s κ acc K→(∀ s κ acc,K s κ acc→K' s κ acc)→fM c ops os s κ acc K'
 | [],s,κ,acc,h,hK=>hK _ _ _ h
 | o::os,s,κ,acc,h,hK=>by
  simp only [fM] at h ⊢;split at h
  ·exact dz.mono h fun x us rds κ' h3=>fM.mono h3 hK
  ·exact fM.mono h hK
  ·exact h.elim
theorem fM.quiet{K:au→Nat→Prop}:∀ {os:List Oper}{s:au}{κ:Nat}{acc:List Fx},os.all (fun o=>gT o.op)=true→(∀ e∈acc,e.us=[])→fM c ops os s κ acc (fun s κ _=>K s κ) →
 fM c ops os s κ acc (fun s κ acc=>(∀ e∈acc,e.us=[])∧K s κ)
 | [],s,κ,acc,_,ha,h=>⟨ha,h⟩
 | o::os,s,κ,acc,hq,ha,h=>by
  simp only [aaE,cy] at hq;simp only [fM] at h ⊢;split at h
  ·rename_i hw
   have h2:=dz.quiet hq.1 h;refine dz.mono h2 fun x us rds κ' h3=>?_;obtain⟨rfl,h4⟩:=h3
   exact fM.quiet hq.2 (fun e he=>by
    rcases List.mem_cons.1 he with rfl|he
    ·rfl
    ·exact ha e he) h4
  ·exact fM.quiet hq.2 (fun e he=>by
    rcases List.mem_cons.1 he with rfl|he
    ·rfl
    ·exact ha e he) h
  ·exact h.elim
theorem Gs{es:List Fx}(h:∀ e∈es,e.us=[]):BK ops es=true:=by
 simp only [BK,YU];intro j _;split
 ·rename_i e' he'
  rw [Zp];right;rw [YU];intro i _;split
  ·rename_i e he
   rw [Zp];right;simp [uO,h e (abR he),h e' (abR he')]
  ·rfl
 ·rfl
theorem aau{r:Option Nat}{Q:Ex→au→Nat→Prop}{id:Nat}(hm:c.P.follows .mixedOrders=true) (hst:eX ops=true) (hd:cu c.n ops.toList=true) (hq:ops.toList.all (fun o=>gT o.op)=true)
 (h:aK c (eF ops) s κ fun s' κ'=>Q .normal s' κ'):AW c r (.region id ops true) s κ Q:=by
 refine AW.draw hm hst hd ?_;have h1:oz c ops ops.toList s κ fun s' κ'=>Q .normal s' κ':=by rw [← mc];exact h
 have h2:=fM.quiet hq (fun e he=>by cases he) h1;refine fM.mono h2 fun s' κ' acc h3=>⟨Gs fun e he=>h3.1 e (List.mem_reverse.1 he),h3.2⟩
end Go.Am
namespace Go.Am.N
variable {m n B:Nat}{a b:List Nat}
theorem AG{j:Nat}(ha:ok B a) (h1:j<a.length) (h2:j<b.length) (hd:a.drop (j+1)=b.drop (j+1)) (h:a[j]<b[j]):val B a<val B b:=by
 have e1:=cH (B:=B) a j (by omega);have e2:=cH (B:=B) b j (by omega);rw [ey h1] at e1;rw [ey h2,← hd] at e2;have h3:=ig (mo ha j);rw [Zc,ZF (by omega)] at h3;have h4:B ^ j*(a[j]+B*val B (a.drop (j+1))+1)≤B ^ j*(b[j]+B*val B (a.drop (j+1))):=ZG _ (by omega);rw [YW (B ^ j) _ 1] at h4;omega
theorem qM(hB:2≤B)(ha:can B a) (hb:can B b) (h:a.length<b.length):val B a<val B b:=by
 have e1:=jC hB ha rfl;have e2:=jC hB hb rfl;rw [e1,e2] at h;exact Ib hB h
def kK (m n:Nat):Int:=if m<n then -1 else if n<m then 1 else 0
theorem Br(h:m<n):kK m n = -1:=by simp [kK,h]
theorem Hp(h:n<m):kK m n=1:=by simp [kK,h];omega
theorem Ni(h:m=n):kK m n=0:=by simp [kK,h]
end Go.Am.N
namespace Go.Am.N
def fZ (B:Nat):Nat→Nat→List Nat
 | 0,_=>[]
 | L+1,n=>n % B::fZ B L (n / B)
theorem oH {B:Nat}:∀ {l:List Nat}{n:Nat},ok B l→val B l=n→l=fZ B l.length n
 | [],n,_,_=>rfl
 | d::l,n,h,hv=>by
  have hd:=(ck.1 h).1;have h1:n % B=d:=by rw [← hv,bY,abC,ZD hd]
  have h2:n / B=val B l:=by rw [← hv,bY,abE _ _ (by omega),abm hd,Y5]
  simp only [Zn,fZ,h1,h2];rw [← oH (ck.1 h).2 rfl]
theorem nY (B:Nat):∀ (L n:Nat),(fZ B L n).length=L
 | 0,_=>rfl
 | L+1,n=>by simp [fZ,nY B L]
theorem rW {B:Nat}(hB:0<B):∀ (L n:Nat),ok B (fZ B L n)
 | 0,_=>dX B
 | L+1,n=>ck.2 ⟨Zl _ hB,rW hB L _⟩
theorem lU {B:Nat}:∀ (L n:Nat),val B (fZ B L n)=n % B ^ L
 | 0,n=>by simp [fZ,Nat.mod_one]
 | L+1,n=>by
  rw [fZ,bY,lU L,Zq,Zm (B ^ L) B,Nat.mod_mul]
end Go.Am.N
namespace Go.Am
variable {s:au}{κ i:Nat}{c:Ctx}{Q:Ex→au→Nat→Prop}{f:FuncId}{x v:AV}{fn:Func}{b' b:LB}{o:Op}{rds:List Key}{vc:Prop}{T' T:TypeId}{xs:Array Operand}{ts:Array TypeId}{own:Bool}{cs:List CV}{P:Program}{G:List (List DV)}{code:Code}{args:List AV}{p:Key × LB}{parts:Array (Nat × Operand)}
def wO (Q:Ex→au→Nat→Prop):Ex→au→Nat→Prop
 | .goto _,_,_=>False
 | e,s,κ=>Q e s κ
@[simp] theorem RG:wO Q .normal s κ=Q .normal s κ:=rfl
@[simp] theorem Re:wO Q (.exit i) s κ=Q (.exit i) s κ:=rfl
@[simp] theorem Rk:wO Q .ret s κ=Q .ret s κ:=rfl
theorem AW.scope{x:Code}(h:AW c none x s κ (wO Q)):AW c none (.scope x) s κ Q:=by
 intro F β a w hs;have h1:=(wpIn_wide (n:=0)).1 (h F β a w hs);refine (wpIn_wide (n:=0)).2 (wp_scope_straight (wp_mono h1 fun e a' w' hp=>?_));obtain⟨x,s',κ',F',β',hq,hs',he⟩:=hp
 cases x with
 | normal=>cases he;exact⟨.normal,s',κ',F',β',hq,hs',rfl⟩
 | exit id=>cases he;exact⟨.exit id,s',κ',F',β',hq,hs',rfl⟩
 | goto l=>exact hq.elim
 | ret=>cases he;exact⟨.ret,s',κ',F',β',hq,hs',rfl⟩
 | panic d=>obtain⟨v,rfl,hv⟩:=he;exact⟨.panic d,s',κ',F',β',hq,hs',v,rfl,hv⟩
theorem sG (b:LB):bn [b] []=aD (fun _=>.hole) 0 b:=by
 funext k
 by_cases h:k=0
 ·subst h;rfl
 ·rw [aC _ _ h];unfold bn;split
  ·rw [c8 (by simp;exact fun e=>h e)]
  ·rfl
theorem LB.aX{fz:Bool}(h:∀ x∈cs,x.pure=true) (g:Key→Key):(LB.cells own fz T cs).br g=.cells own fz T cs:=by
 simp only [LB.br]
 have:cs.map (CV.br g)=cs:=by
  conv=>rhs;rw [← aaM cs]
  exact Zj fun x hx=>CV.aX (h x hx) g
 rw [this]
def Pt (κb:Key)(x u:AV):Prop:=
 (u.pure=true∧x=u)∨(∃ off len sz,u=.c (.aI 0 off len sz)∧x=.c (.aI κb off len sz))∨(∃ off,u=.c (.ptr 0 off)∧x=.c (.ptr κb off))
theorem jr.Mm{xs us:List AV}{ps:List zi}{d:Option Tmp}{K:au→Nat→Prop}(κ':Nat) (kh κb:Key){cs':List CV}
 (hk:s.lv κb=.cells own false T cs) (hcs:∀ x∈cs,x.pure=true) (hcs':∀ x∈cs',x.pure=true)
 (hc:aG c.P c.G f us [.cells false false T cs] (.ret x [.cells false false T cs'] [])) (hx:x.pure=true) (hlen:us.length=xs.length)
 (ha:∀ i (h:i<xs.length) (h':i<us.length),Pt κb xs[i] us[i]) (hh:s.lv kh=.hole) (hkh:kh≠κb)
 (hK:aK c ps (au.put ⟨s.fr,aD s.lv κb (.cells own false T cs')⟩ d x) κ' K):jr c f xs ps d s κ K:=by
 have g0:aF [κb] [] kh 0=κb:=rfl
 have key:=bM.gen (c:=c) (f:=f) (as:=xs) (lv:=s.lv) us [] [κb] [] kh [.cells false false T cs] [.cells false false T cs'] [] x own [kh,κb] (fun z hz=>by cases hz) (by simp) (by simp) (fun z hz=>by cases hz) (by simpa using hkh) (fun z hz=>by cases hz) rfl rfl rfl (by simp)
  (fun i h h'=>by
   have hi:i=0:=by simp at h;omega
   subst hi;show (s.lv κb).as (.cells false false T cs) _;rw [hk];refine⟨own,cs,rfl,?_,fun e=>by cases e⟩
   conv=>lhs;rw [← aaM cs]
   exact Zj fun x hx=>(CV.aX (hcs x hx) _).symm) (fun k hk=>by cases hk) hh (fun b hb=>by simp at hb;subst hb;rfl) (fun b hb=>by simp at hb;rcases hb with rfl|rfl <;> (intro e;cases e)) (fun ho k hk'=>by
    simp at hk';subst hk';rw [hk];exact ho) hlen
  (fun i p q=>by
   left;rcases ha i p q with ⟨h1,h2⟩|⟨off,len,sz,h1,h2⟩|⟨off,h1,h2⟩
   ·exact⟨AV.bQ h1,by rw [AV.aX h1];exact h2⟩
   ·rw [h1,h2];exact⟨rfl,rfl⟩
   ·rw [h1,h2];exact⟨rfl,rfl⟩) (fun a ha' j hj=>by
   obtain⟨i,hi,rfl⟩:=List.mem_iff_getElem.1 ha';left
   have hrd:∀ n,∀ j∈(match s.lv κb with|.cells _ _ _ cs=>cs.flatMap (fY s.lv n)|_=>[]),j∈([]:List Key):=by
    intro n j hj;rw [hk] at hj;simp only [ZY] at hj;obtain⟨y,hy,hj⟩:=hj;have:=hcs y hy
    cases y <;> simp_all [CV.pure]
    cases n <;> cases hj
   rcases ha i hi (by omega) with ⟨h1,h2⟩|⟨off,len,sz,h1,h2⟩|⟨off,h1,h2⟩
   ·rw [h2,eD h1] at hj;cases hj
   ·rw [h2] at hj;simp only [jo,fY,ec,Zy,aR,List.foldl_nil,YT] at hj;rcases hj with rfl|hj
    ·simp
    ·exact absurd (hrd 7 j hj) (by simp)
   ·rw [h2] at hj;simp only [jo,fY,ec,Zy,aR,List.foldl_nil,YT] at hj;rcases hj with rfl|hj
    ·simp
    ·exact absurd (hrd 7 j hj) (by simp)) (by simp) hc
 rw [AV.aX hx] at key;refine⟨x,_,_,κ',key,?_⟩
 have e:aR s.lv (ec []++bB (aF [κb] [] kh) own [κb] [.cells false false T cs']++bB (aF [κb] [] kh) own [] [])=aD s.lv κb (.cells own false T cs'):=by
  simp only [ec,bB,Zy,Zt,abz,List.zipWith_nil_left,Zr,LB.aX hcs',LB.fix,aR,abc,List.foldl_nil,abg,List.zipWith_nil_right]
 show aK c ps (au.put ⟨s.fr,aR s.lv _⟩ d x) κ' K;rw [e];exact hK
def EF (c:Ctx)(fn:Func)(x:AV)(b':LB):Ex→au→Nat→Prop
 | .normal,s,_|.ret,s,_=>∃ l,(∀ p∈l,p.2.bu=true∧s.fr p.1=p.2)∧iw s.lv∧s.lv=aD (fun _=>.hole) 0 b'∧cM c.P ⟨bq l,s.lv⟩ fn.results.toList=some x
 | _,_,_=>False
theorem aG.QE(hf:P.funcs[f]?=some fn) (hb:fn.body=some code) (hl:args.length≤fn.ntmps)
 (h:∀ c:Ctx,c.P=P→c.G=G→c.n=fn.ntmps→AW c none code ⟨fun t=>args.getD t .undef,aD (fun _=>.hole) 0 b⟩ 1000 (EF c fn x b')):aG P G f args [b] (.ret x [b'] []):=by
 refine aG.ny hf hb hl fun c h1 h2 h3 h4=>?_;rw [sG] at h4 ⊢;refine AW.mono (h c h1 h2 h3) fun e s κ hq=>?_
 have fin:(∃ l,(∀ p∈l,p.2.bu=true∧s.fr p.1=p.2)∧iw s.lv∧s.lv=aD (fun _=>.hole) 0 b'∧cM c.P ⟨bq l,s.lv⟩ fn.results.toList=some x)→∃ s2 g,dn c s s2 g∧s2.lv=bn [b'] []∧cM c.P s2 fn.results.toList=some x:=by
  rintro⟨l,g1,g2,g3,g4⟩;exact⟨⟨bq l,s.lv⟩,fun k=>k,dn.slots g1 (fun k own es h=>absurd h (g2 k own es)),by rw [sG];exact g3,g4⟩
 cases e with
 | normal=>exact fin hq
 | ret=>exact fin hq
 | exit id=>exact hq.elim
 | goto l=>exact hq.elim
 | panic d=>exact hq.elim
theorem aG.W9(hf:P.funcs[f]?=some fn) (hb:fn.body=some code)
 (h:∀ z:Ev,AW ⟨P,G,z.w,z.F,z.W,fn.ntmps,z.q,z.b⟩ none code ⟨fun t=>args.getD t .undef,aD (fun _=>.hole) 0 b⟩ 1000 (EF ⟨P,G,z.w,z.F,z.W,fn.ntmps,z.q,z.b⟩ fn x b')) (hl:Nat.ble args.length fn.ntmps=true:=by kernel_rfl):aG P G f args [b] (.ret x [b'] []):=
 aG.QE hf hb (Ze hl) fun⟨_,_,w,F,W,_,q,b⟩ h1 h2 h3=>by cases h1;cases h2;cases h3;exact h ⟨w,F,W,q,b⟩
theorem EF.tmp{t:Nat}(hr:fn.results=#[.tmp t]) (hx:s.fr t=x) (hf:x.bu=true) (hm:iw s.lv) (hl:s.lv=aD (fun _=>.hole) 0 b'):EF c fn x b' .ret s κ:=by
 refine⟨[(t,x)],by simp [hf,hx],hm,hl,?_⟩;rw [hr];simp [cM,gz,iB,bq]
theorem EF.none{e:Ex}(he:e=.normal∨e=.ret) (hr:fn.results=#[]) (hm:iw s.lv) (hl:s.lv=aD (fun _=>.hole) 0 b'):EF c fn (.tup []) b' e s κ:=by
 have:∃ l:List (Nat × AV),(∀ p∈l,p.2.bu=true∧s.fr p.1=p.2)∧iw s.lv∧s.lv=aD (fun _=>.hole) 0 b'∧cM c.P ⟨bq l,s.lv⟩ fn.results.toList=some (.tup []):=
  ⟨[],by simp,hm,hl,by rw [hr];simp [cM,gz]⟩
 rcases he with rfl|rfl <;> exact this
theorem dz.op{o o':Oper}{K:AV→List (Key × LB)→List Key→Nat→Prop}(ho:o'.op=o.op) (h:dz c o s κ K):dz c o' s κ K:=by
 unfold dz at *;rw [ho];exact h
abbrev sC:=List Key × List Key
def aQ (c:Ctx):List zi→au→Nat→List sC→(au→Nat→List sC→Prop)→Prop
 | [],s,κ,acc,K=>K s κ acc
 | p::ps,s,κ,acc,K=>match p.g with
  | none=>dz c ⟨none,p.op,0, "",#[],none⟩ s κ fun x us rds κ'=>aQ c ps (au.put ⟨s.fr,aR s.lv us⟩ p.dst x) κ' ((us.map (·.1),rds)::acc) K
  | some (t,w)=>oy t fun t=>lG (oE (s.fr t) w)
   (fun _=>dz c ⟨none,p.op,0, "",#[],none⟩ s κ fun x us rds κ'=>aQ c ps (au.put ⟨s.fr,aR s.lv us⟩ p.dst x) κ' ((us.map (·.1),rds)::acc) K)
   (fun _=>aQ c ps (s.put p.dst .undef) κ (([],[])::acc) K)
def sY (e:Fx):sC:=(e.us.map (·.1),e.rds)
theorem iW {c:Ctx}{ops:Array Oper}{K:au→Nat→List sC→Prop}:∀ {os:List Oper}{s:au}{κ:Nat}{acc:List Fx},aQ c (jN (ops.toList.map (·.dst)) os) s κ (acc.map sY) K→fM c ops os s κ acc (fun s κ acc=>K s κ (acc.map sY))
 | [],s,κ,acc,h=>h
 | ⟨d,o,ty,pos,af,none⟩::os,s,κ,acc,h=>by
  simp only [jN,CT,aQ] at h;simp only [fM,eC];refine dz.mono (dz.op (o:=⟨none,o,0, "",#[],none⟩) rfl h) fun x us rds κ' h2=>?_;exact iW (acc:=⟨x,us,rds⟩::acc) h2
 | ⟨d,o,ty,pos,af,some (j,w)⟩::os,s,κ,acc,h=>by
  simp only [jN,CT,aQ,J2,oy,lG] at h;simp only [fM,eC];split at h
  ·rename_i t ht
   rw [ht];simp only;unfold oE at h;split at h
   ·rename_i hw
    split at hw
    ·rename_i b he
     rw [he];simp only [ai] at hw;simp only [hw];refine dz.mono (dz.op (o:=⟨none,o,0, "",#[],none⟩) rfl h) fun x us rds κ' h2=>?_;exact iW (acc:=⟨x,us,rds⟩::acc) h2
    ·cases hw
    ·cases hw
   ·rename_i hw
    split at hw
    ·rename_i b he
     rw [he];simp only [ai] at hw;simp only [hw];exact iW (acc:=⟨.undef,[],[]⟩::acc) h
    ·rename_i he
     rw [he];exact iW (acc:=⟨.undef,[],[]⟩::acc) h
    ·cases hw
   ·exact h.elim
  ·exact h.elim
def QM (e e':sC):Bool:=e.1.all (fun p=>!(e'.1.any fun q=>q == p) && !e'.2.contains p) && e'.1.all (fun p=>!e.2.contains p)
def sA (ops:Array Oper)(es:List sC):Bool:=
 let ms:=fX ops.toList []
 (List.range es.length).all fun j=>match es[j]? with
  | some e'=>(e'.1.isEmpty && e'.2.isEmpty) || (List.range j).all fun i=>match es[i]? with
   | some e=>(e.1.isEmpty && e.2.isEmpty) || (ms.getD j 0).testBit i || QM e e'
   | none=>true
  | none=>true
theorem Ir (e e':Fx):uO e e'=QM (sY e) (sY e'):=by
 simp only [uO,QM,sY,List.all_map,List.any_map];rfl
theorem B4 (ops:Array Oper)(es:List Fx):BK ops es=sA ops (es.map sY):=by
 have h1:∀ e:Fx,idle e=((sY e).1.isEmpty && (sY e).2.isEmpty):=fun e=>by simp [idle,sY]
 simp only [BK,sA,YX,ZO];congr 1;funext j
 cases hj:es[j]? with
 | none=>rfl
 | some e'=>
  simp only [Zb,h1];congr 2;funext i
  cases hi:es[i]? with
  | none=>rfl
  | some e=>simp only [Zb,Ir]
theorem aaq{r:Option Nat}{id:Nat}{ops:Array Oper}(hm:c.P.follows .mixedOrders=true) (hst:eX ops=true) (hd:cu c.n ops.toList=true)
 (h:aQ c (eF ops) s κ [] fun s' κ' acc=>sA ops acc.reverse=true∧Q .normal s' κ'):AW c r (.region id ops true) s κ Q:=by
 refine AW.draw hm hst hd ?_;have h1:=iW (acc:=[]) h;refine fM.mono h1 fun s' κ' acc h2=>⟨?_,h2.2⟩
 rw [B4,List.map_reverse];exact h2.1
def bH (c:Ctx)(ps:List zi)(d:Option Tmp)(s:au)(κ:Nat)(acc:List sC)(K:au→Nat→List sC→Prop)(r:Option bW):Prop:=
 gY r κ fun x us rds κ'=>aQ c ps (au.put ⟨s.fr,aR s.lv us⟩ d x) κ' ((us.map (·.1),rds)::acc) K
def BC (c:Ctx)(o:Op)(ps:List zi)(d:Option Tmp)(s:au)(κ:Nat)(acc:List sC)(K:au→Nat→List sC→Prop)(w:Option Bool):Prop:=
 match w with
 | some true=>aQ c (⟨d,o,none⟩::ps) s κ acc K
 | some false=>aQ c ps (s.put d .undef) κ (([],[])::acc) K
 | none=>False
def tV (c:Ctx)(f:FuncId)(xs:List AV)(ps:List zi)(d:Option Tmp)(s:au)(κ:Nat)(acc:List sC)(K:au→Nat→List sC→Prop):Prop:=
 ag c f xs s.lv fun x us rds κ'=>aQ c ps (au.put ⟨s.fr,aR s.lv us⟩ d x) κ' ((us.map (·.1),rds)::acc) K
def Fv (c:Ctx)(tgt:Option (FuncId × List AV × List AV))(xs:List AV)(ps:List zi)(d:Option Tmp)(s:au)(κ:Nat)(acc:List sC)(K:au→Nat→List sC→Prop):Prop:=
 match tgt with
 | some (f,fs,cs)=>aT c.P f=true∧tV c f (fs++xs++cs) ps d s κ acc K
 | none=>False
section
variable {c:Ctx}{ps:List zi}{d:Option Tmp}{s:au}{κ:Nat}{acc:List sC}{K:au→Nat→List sC→Prop}{T:TypeId}{x y z:Operand}
theorem aL:aQ c (⟨d,o,none⟩::ps) s κ acc K =
 dz c ⟨none,o,0, "",#[],none⟩ s κ fun x us rds κ'=>aQ c ps (au.put ⟨s.fr,aR s.lv us⟩ d x) κ' ((us.map (·.1),rds)::acc) K:=rfl
@[simp] theorem PL:aQ c [] s κ acc K=K s κ acc:=propext ⟨id,id⟩
@[simp] theorem PY:bH c ps d s κ acc K (some (v,[],rds,vc))=(vc∧aQ c ps (s.put d v) κ (([],rds)::acc) K):=propext ⟨id,id⟩
@[simp] theorem Qf:bH c ps d s κ acc K (some (v,[p],rds,vc))=(vc∧aQ c ps (au.put ⟨s.fr,aD s.lv p.1 p.2⟩ d v) (κ+1) (([p.1],rds)::acc) K):=propext ⟨id,id⟩
@[simp] theorem PT{q:Key × LB}:bH c ps d s κ acc K (some (v,[p,q],rds,vc))=(vc∧aQ c ps (au.put ⟨s.fr,aD (aD s.lv p.1 p.2) q.1 q.2⟩ d v) (κ+1) (([p.1,q.1],rds)::acc) K):=propext ⟨id,id⟩
@[simp] theorem Rv:BC c o ps d s κ acc K (some true)=aQ c (⟨d,o,none⟩::ps) s κ acc K:=propext ⟨id,id⟩
@[simp] theorem Ry:BC c o ps d s κ acc K (some false)=aQ c ps (s.put d .undef) κ (([],[])::acc) K:=propext ⟨id,id⟩
@[simp] theorem O4{xs:List AV}:Fv c (some (f,[],[])) xs ps d s κ acc K=(aT c.P f=true∧tV c f xs ps d s κ acc K):=by simp [Fv]
@[simp] theorem SG{t:Tmp}{w:Bool}:aQ c (⟨d,o,some (some t,w)⟩::ps) s κ acc K=BC c o ps d s κ acc K (oE (s.fr t) w):=propext ⟨id,id⟩
@[simp] theorem Uv:aQ c (⟨d,.move x,none⟩::ps) s κ acc K=aQ c ps (s.put d (s.val c.G x)) κ (([],[])::acc) K:=by rw [aL,ki];rfl
@[simp] theorem Q1:aQ c (⟨d,.assign x,none⟩::ps) s κ acc K=aQ c ps (s.put d (s.val c.G x)) κ (([],[])::acc) K:=by rw [aL,xm];rfl
@[simp] theorem TO:aQ c (⟨d,.pick x y z,none⟩::ps) s κ acc K=bH c ps d s κ acc K (An (s.val c.G x) (s.val c.G y) (s.val c.G z)):=by rw [aL,Es];rfl
@[simp] theorem RH:aQ c (⟨d,.alloc T,none⟩::ps) s κ acc K=bH c ps d s κ acc K (yz c.P T s.lv κ):=by rw [aL,AE];rfl
@[simp] theorem RL {f:Nat}:aQ c (⟨d,.field T x f,none⟩::ps) s κ acc K=bH c ps d s κ acc K (yY c.P T f (s.val c.G x)):=by rw [aL,zZ];rfl
@[simp] theorem N6:aQ c (⟨d,.indexAddr T x y,none⟩::ps) s κ acc K=bH c ps d s κ acc K (aq c.P T s.lv (s.val c.G x) (s.val c.G y)):=by rw [aL,pU];rfl
@[simp] theorem Sh:aQ c (⟨d,.index T x y,none⟩::ps) s κ acc K=bH c ps d s κ acc K (fI c.P T (s.val c.G x) (s.val c.G y)):=by rw [aL,Al];rfl
@[simp] theorem Wr:aQ c (⟨d,.extract x i,none⟩::ps) s κ acc K=bH c ps d s κ acc K (uR i (s.val c.G x)):=by rw [aL,GK];rfl
@[simp] theorem UZ:aQ c (⟨d,.makeInterface T x,none⟩::ps) s κ acc K=bH c ps d s κ acc K (KC c.P T (s.val c.G x)):=by rw [aL,Gx];rfl
@[simp] theorem Vt:aQ c (⟨d,.makeSlice T x y,none⟩::ps) s κ acc K=bH c ps d s κ acc K (fU c.P T s.lv κ (s.val c.G x) (s.val c.G y)):=by rw [aL,HN];rfl
@[simp] theorem P0:aQ c (⟨d,.slice T x none none none,none⟩::ps) s κ acc K=bH c ps d s κ acc K (bh c.P T s.lv (s.val c.G x) none none):=by rw [aL,vq];rfl
@[simp] theorem Qk:aQ c (⟨d,.slice T x (some y) none none,none⟩::ps) s κ acc K=bH c ps d s κ acc K (bh c.P T s.lv (s.val c.G x) (some (s.val c.G y)) none):=by rw [aL,va];rfl
@[simp] theorem Qm:aQ c (⟨d,.slice T x none (some y) none,none⟩::ps) s κ acc K=bH c ps d s κ acc K (bh c.P T s.lv (s.val c.G x) none (some (s.val c.G y))):=by rw [aL,vm];rfl
@[simp] theorem Q0:aQ c (⟨d,.slice T x (some y) (some z) none,none⟩::ps) s κ acc K=bH c ps d s κ acc K (bh c.P T s.lv (s.val c.G x) (some (s.val c.G y)) (some (s.val c.G z))):=by rw [aL,vt];rfl
@[simp] theorem WY:aQ c (⟨d,.call { callee:=.builtin .len,args:=#[x],argTypes:=#[T] },none⟩::ps) s κ acc K=bH c ps d s κ acc K (dW c.P T s.lv (s.val c.G x)):=by rw [aL,GR];rfl
@[simp] theorem Rw:aQ c (⟨d,.call { callee:=.builtin .append,args:=#[x,y],argTypes:=#[T,T'] },none⟩::ps) s κ acc K=bH c ps d s κ acc K (if T=T' then dM c.P T s.lv κ (s.val c.G x) (s.val c.G y) else none):=by rw [aL,yF];rfl
@[simp] theorem Us:aQ c (⟨d,.call { callee:=.value x,args:=xs,argTypes:=ts },none⟩::ps) s κ acc K=Fv c (cj (s.val c.G x)) (xs.toList.map (s.val c.G)) ps d s κ acc K:=by
 rw [aL,Er];rfl
@[simp] theorem Wh {op:BinOp}:aQ c (⟨d,.binOp op T x y T',none⟩::ps) s κ acc K=bH c ps d s κ acc K (aJ c.P op T (s.val c.G x) (s.val c.G y)):=by rw [aL,Gv];rfl
@[simp] theorem Xy {op:UnOp}:aQ c (⟨d,.unOp op T x,none⟩::ps) s κ acc K=bH c ps d s κ acc K (Je op (s.val c.G x)):=by rw [aL,LC];rfl
@[simp] theorem TW:aQ c (⟨d,.load T x,none⟩::ps) s κ acc K=bH c ps d s κ acc K (cx c.P T s.lv (s.val c.G x)):=by rw [aL,C9];rfl
@[simp] theorem RY:aQ c (⟨d,.store T x y,none⟩::ps) s κ acc K=bH c ps d s κ acc K (dh c.P T s.lv (s.val c.G x) (s.val c.G y)):=by rw [aL,zU];rfl
@[simp] theorem U9:aQ c (⟨d,.box T x,none⟩::ps) s κ acc K=bH c ps d s κ acc K (K0 T (s.val c.G x) s.lv κ):=by rw [aL,HP];rfl
@[simp] theorem LK:aQ c (⟨d,.nilCheck x,none⟩::ps) s κ acc K=bH c ps d s κ acc K (gk s.lv (s.val c.G x)):=by rw [aL,Ho];rfl
@[simp] theorem UW {S:TypeId}:aQ c (⟨d,.convert S T x,none⟩::ps) s κ acc K=bH c ps d s κ acc K (D9 c.P S T (s.val c.G x)):=by rw [aL,Dh];rfl
@[simp] theorem Oc {f:Nat}:aQ c (⟨d,.fieldAddr T x f,none⟩::ps) s κ acc K=bH c ps d s κ acc K (bF c.P T f s.lv (s.val c.G x)):=by rw [aL,pZ];rfl
@[simp] theorem Su:aQ c (⟨d,.build T parts,none⟩::ps) s κ acc K=bH c ps d s κ acc K (fK c.P T (parts.toList.map (·.1)) (parts.toList.map fun p=>s.val c.G p.2)):=by
 rw [aL];simp only [dz,aZ,Op.operands,bH,gY,fK,Y7,YX,aaR];rfl
@[simp] theorem MJ {n:Nat}:aQ c (⟨d,.buildSlice T n parts,none⟩::ps) s κ acc K=bH c ps d s κ acc K (aB c.P T n (parts.toList.map (·.1)) s.lv κ (parts.toList.map fun p=>s.val c.G p.2)):=by
 rw [aL];simp only [dz,aZ,Op.operands,bH,gY,Y7];rfl
@[simp] theorem UJ:aQ c (⟨d,.call { callee:=.builtin .copy,args:=#[x,y],argTypes:=#[T,T'] },none⟩::ps) s κ acc K=bH c ps d s κ acc K (gR c.P T s.lv (s.val c.G x) (s.val c.G y)):=by
 rw [aL];simp only [dz,aZ,iy,Op.operands,Call.operands,bH,gY];rfl
@[simp] theorem V7:aQ c (⟨d,.call { callee:=.builtin .max,args:=xs,argTypes:=ts },none⟩::ps) s κ acc K=bH c ps d s κ acc K (match eN (xs.toList.map (s.val c.G)) with
 | some (k,n::l)=>some (.c (.d (.int k (l.foldl (fun a b=>if b > a then b else a) n))),[],[],True)
 | _=>none):=by
 rw [aL];simp only [dz,aZ,iy,Op.operands,Call.operands,bH,gY,abh];rfl
@[simp] theorem V8:aQ c (⟨d,.call { callee:=.builtin .min,args:=xs,argTypes:=ts },none⟩::ps) s κ acc K=bH c ps d s κ acc K (match eN (xs.toList.map (s.val c.G)) with
 | some (k,n::l)=>some (.c (.d (.int k (l.foldl (fun a b=>if b<a then b else a) n))),[],[],True)
 | _=>none):=by
 rw [aL];simp only [dz,aZ,iy,Op.operands,Call.operands,bH,gY,abh];rfl
end
end Go.Am
namespace Go.Am
open N
variable {s:au}{x:AV}{c:Ctx}{g:Key→Key}{κ off n sz id:Nat}{f:FuncId}{os:List Oper}{lv lv':Key→LB}{T T' T0 T1 e:TypeId}{a1 a2 a3 a4:Prop}{cs cs0 cs1 cs':List CV}{o:Oper}{own fz:Bool}{P:Program}{fn:Func}{k W:Key}{G:List (List DV)}{code:Code}{args xs:List AV}{us:List (Key × LB)}{rds:List Key}{Q:Ex→au→Nat→Prop}{fr:Nat→AV}{first caps:Array Operand}{lo hi:Option Operand}{l:Int}{r:Option Nat}{b:LB}{ops:Array Oper}{σ σ' ν:List LB}
theorem tV.zz{ps:List zi}{d:Option Tmp}{acc:List sC}{K:au→Nat→List sC→Prop}(κ':Nat) (kh:Key) (κb:Key){k:IntKind}{l:List Nat}(n:Nat) (hn:n≤l.length) (hk:s.lv κb=.cells true false T (wK k l)) (hl:l.length≤9223372036854775807)
 (hc:aa c.P c.G f [nK k (some (l.take n))] x) (hx:x.pure=true) (hh:s.lv kh=.hole) (hkh:kh≠κb) (hK:aQ c ps (au.put ⟨s.fr,aD s.lv κb (.cells true true T (wK k l))⟩ d x) κ' (([κb],[kh])::acc) K):tV c f [.c (.aI κb 0 n 1)] ps d s κ acc K:=by
 refine ag.Wf κ' kh κb T (wK k l) [kh] hc hx hk hh hkh rfl (fun i p q=>?_) (fun a ha j hj=>?_) (by simp) hK
 ·have hi:i=0:=by simp at p;omega
  subst hi;right;have h1:(wK k l).take n=wK k (l.take n):=by simp [wK,abf]
  have hln:(l.take n).length=n:=by rw [Zc];omega
  simp only [Zx,fq,cC,az,JE,aa5,Y5,YV,h1,yO,Zb];rw [if_pos ⟨hn,by omega⟩];have h2:=pn ((l.take n).map fun (x:Nat)=>DV.int k (x:Int));rw [YX,hln] at h2;simp only [Zb,h2];simp [nK,dK];rfl
 ·simp only [ZW] at ha;subst ha;simp only [jo,fY,YT,az] at hj;rcases hj with rfl|hj
  ·exact .inr rfl
  ·simp only [ZY] at hj;obtain⟨y,hy,hj⟩:=hj;simp only [wK,Zo] at hy;obtain⟨z,_,rfl⟩:=hy
   cases hj
section
variable {c:Ctx}{r:Option Nat}{s s':au}{κ κ':Nat}{Q:Ex→au→Nat→Prop}{id:Nat}{ops:Array Oper}{y:Code}
theorem AW.d0 (hm:c.P.follows .mixedOrders=true)(h:AW c r y s' κ' Q)(hst:eX ops=true:=by kernel_rfl)(hd:cu c.n ops.toList=true:=by exact rfl)(hr:∀ K:au→Nat→Prop,K s' κ'→aQ c (eF ops) s κ [] fun s' κ' acc=>sA ops acc.reverse=true∧K s' κ':=by intro K k;simp;(repeat refine ah ?_);refine⟨by kernel_rfl,?_⟩;(repeat refine ah ?_);exact k):AW c r (.seq (.region id ops true) y) s κ Q:=
 aaa fun K hK=>aaq hm hst hd (hr K (hK _ _ h))
theorem AW.e0 (hm:c.P.follows .mixedOrders=true)(h:AW c r y s' κ' Q)(hst:eX ops=true:=by kernel_rfl)(hd:cu c.n ops.toList=true:=by exact rfl)(hq:ops.toList.all (fun o=>gT o.op)=true:=by exact rfl)(hr:∀ K:au→Nat→Prop,K s' κ'→aK c (eF ops) s κ K:=by intro K k;simp;(repeat refine ah ?_);exact k):AW c r (.seq (.region id ops true) y) s κ Q:=
 aaa fun K hK=>aau hm hst hd hq (hr K (hK _ _ h))
theorem AW.d1(hm:c.P.follows .mixedOrders=true) (e1:a1) (h:AW c r y s' κ' Q) (hst:eX ops=true:=by kernel_rfl) (hd:cu c.n ops.toList=true:=by exact rfl) (hr:a1→∀ K:au→Nat→Prop,K s' κ'→aQ c (eF ops) s κ [] fun s' κ' acc=>sA ops acc.reverse=true∧K s' κ':=by intro e1 K k;simp [e1];(repeat refine ah ?_);refine⟨by kernel_rfl,?_⟩;(repeat refine ah ?_);exact k):AW c r (.seq (.region id ops true) y) s κ Q:=
 aaa fun K hK=>aaq hm hst hd (hr e1 K (hK _ _ h))
theorem AW.X7(hm:c.P.follows .mixedOrders=true) (e1:a1) (h:Q .normal s' κ') (hst:eX ops=true:=by kernel_rfl) (hd:cu c.n ops.toList=true:=by exact rfl) (hr:a1→∀ K:au→Nat→Prop,K s' κ'→aQ c (eF ops) s κ [] fun s' κ' acc=>sA ops acc.reverse=true∧K s' κ':=by intro e1 K k;simp [e1];(repeat refine ah ?_);refine⟨by kernel_rfl,?_⟩;(repeat refine ah ?_);exact k):AW c r (.region id ops true) s κ Q:=
 aaq hm hst hd (hr e1 (fun s κ=>Q .normal s κ) h)
theorem AW.e1 {a1:Prop}(hm:c.P.follows .mixedOrders=true) (e1:a1) (h:AW c r y s' κ' Q) (hst:eX ops=true:=by kernel_rfl) (hd:cu c.n ops.toList=true:=by exact rfl) (hq:ops.toList.all (fun o=>gT o.op)=true:=by exact rfl) (hr:a1→∀ K:au→Nat→Prop,K s' κ'→aK c (eF ops) s κ K:=by intro e1 K k;simp [e1];(repeat refine ah ?_);exact k):AW c r (.seq (.region id ops true) y) s κ Q:=
 aaa fun K hK=>aau hm hst hd hq (hr e1 K (hK _ _ h))
theorem AW.d2(hm:c.P.follows .mixedOrders=true) (e1:a1) (e2:a2) (h:AW c r y s' κ' Q) (hst:eX ops=true:=by kernel_rfl) (hd:cu c.n ops.toList=true:=by exact rfl) (hr:a1→a2→∀ K:au→Nat→Prop,K s' κ'→aQ c (eF ops) s κ [] fun s' κ' acc=>sA ops acc.reverse=true∧K s' κ':=by intro e1 e2 K k;simp [e1,e2];(repeat refine ah ?_);refine⟨by kernel_rfl,?_⟩;(repeat refine ah ?_);exact k):AW c r (.seq (.region id ops true) y) s κ Q:=
 aaa fun K hK=>aaq hm hst hd (hr e1 e2 K (hK _ _ h))
theorem AW.Yy(hm:c.P.follows .mixedOrders=true) (e1:a1) (e2:a2) (h:Q .normal s' κ') (hst:eX ops=true:=by kernel_rfl) (hd:cu c.n ops.toList=true:=by exact rfl) (hr:a1→a2→∀ K:au→Nat→Prop,K s' κ'→aQ c (eF ops) s κ [] fun s' κ' acc=>sA ops acc.reverse=true∧K s' κ':=by intro e1 e2 K k;simp [e1,e2];(repeat refine ah ?_);refine⟨by kernel_rfl,?_⟩;(repeat refine ah ?_);exact k):AW c r (.region id ops true) s κ Q:=
 aaq hm hst hd (hr e1 e2 (fun s κ=>Q .normal s κ) h)
theorem AW.e2 {a1:Prop}{a2:Prop}(hm:c.P.follows .mixedOrders=true) (e1:a1) (e2:a2) (h:AW c r y s' κ' Q) (hst:eX ops=true:=by kernel_rfl) (hd:cu c.n ops.toList=true:=by exact rfl) (hq:ops.toList.all (fun o=>gT o.op)=true:=by exact rfl) (hr:a1→a2→∀ K:au→Nat→Prop,K s' κ'→aK c (eF ops) s κ K:=by intro e1 e2 K k;simp [e1,e2];(repeat refine ah ?_);exact k):AW c r (.seq (.region id ops true) y) s κ Q:=
 aaa fun K hK=>aau hm hst hd hq (hr e1 e2 K (hK _ _ h))
theorem AW.d3(hm:c.P.follows .mixedOrders=true) (e1:a1) (e2:a2) (e3:a3) (h:AW c r y s' κ' Q) (hst:eX ops=true:=by kernel_rfl) (hd:cu c.n ops.toList=true:=by exact rfl) (hr:a1→a2→a3→∀ K:au→Nat→Prop,K s' κ'→aQ c (eF ops) s κ [] fun s' κ' acc=>sA ops acc.reverse=true∧K s' κ':=by intro e1 e2 e3 K k;simp [e1,e2,e3];(repeat refine ah ?_);refine⟨by kernel_rfl,?_⟩;(repeat refine ah ?_);exact k):AW c r (.seq (.region id ops true) y) s κ Q:=
 aaa fun K hK=>aaq hm hst hd (hr e1 e2 e3 K (hK _ _ h))
theorem AW.e3 {a1:Prop}{a2:Prop}{a3:Prop}(hm:c.P.follows .mixedOrders=true) (e1:a1) (e2:a2) (e3:a3) (h:AW c r y s' κ' Q) (hst:eX ops=true:=by kernel_rfl) (hd:cu c.n ops.toList=true:=by exact rfl) (hq:ops.toList.all (fun o=>gT o.op)=true:=by exact rfl) (hr:a1→a2→a3→∀ K:au→Nat→Prop,K s' κ'→aK c (eF ops) s κ K:=by intro e1 e2 e3 K k;simp [e1,e2,e3];(repeat refine ah ?_);exact k):AW c r (.seq (.region id ops true) y) s κ Q:=
 aaa fun K hK=>aau hm hst hd hq (hr e1 e2 e3 K (hK _ _ h))
theorem AW.d4(hm:c.P.follows .mixedOrders=true) (e1:a1) (e2:a2) (e3:a3) (e4:a4) (h:AW c r y s' κ' Q) (hst:eX ops=true:=by kernel_rfl) (hd:cu c.n ops.toList=true:=by exact rfl) (hr:a1→a2→a3→a4→∀ K:au→Nat→Prop,K s' κ'→aQ c (eF ops) s κ [] fun s' κ' acc=>sA ops acc.reverse=true∧K s' κ':=by intro e1 e2 e3 e4 K k;simp [e1,e2,e3,e4];(repeat refine ah ?_);refine⟨by kernel_rfl,?_⟩;(repeat refine ah ?_);exact k):AW c r (.seq (.region id ops true) y) s κ Q:=
 aaa fun K hK=>aaq hm hst hd (hr e1 e2 e3 e4 K (hK _ _ h))
theorem AW.X8(hm:c.P.follows .mixedOrders=true) (e1:a1) (e2:a2) (e3:a3) (e4:a4) (h:Q .normal s' κ') (hst:eX ops=true:=by kernel_rfl) (hd:cu c.n ops.toList=true:=by exact rfl) (hr:a1→a2→a3→a4→∀ K:au→Nat→Prop,K s' κ'→aQ c (eF ops) s κ [] fun s' κ' acc=>sA ops acc.reverse=true∧K s' κ':=by intro e1 e2 e3 e4 K k;simp [e1,e2,e3,e4];(repeat refine ah ?_);refine⟨by kernel_rfl,?_⟩;(repeat refine ah ?_);exact k):AW c r (.region id ops true) s κ Q:=
 aaq hm hst hd (hr e1 e2 e3 e4 (fun s κ=>Q .normal s κ) h)
theorem AW.e4 {a1:Prop}{a2:Prop}{a3:Prop}{a4:Prop}(hm:c.P.follows .mixedOrders=true) (e1:a1) (e2:a2) (e3:a3) (e4:a4) (h:AW c r y s' κ' Q) (hst:eX ops=true:=by kernel_rfl) (hd:cu c.n ops.toList=true:=by exact rfl) (hq:ops.toList.all (fun o=>gT o.op)=true:=by exact rfl) (hr:a1→a2→a3→a4→∀ K:au→Nat→Prop,K s' κ'→aK c (eF ops) s κ K:=by intro e1 e2 e3 e4 K k;simp [e1,e2,e3,e4];(repeat refine ah ?_);exact k):AW c r (.seq (.region id ops true) y) s κ Q:=
 aaa fun K hK=>aau hm hst hd hq (hr e1 e2 e3 e4 K (hK _ _ h))
theorem AW.d5{a5:Prop}(hm:c.P.follows .mixedOrders=true) (e1:a1) (e2:a2) (e3:a3) (e4:a4) (e5:a5) (h:AW c r y s' κ' Q) (hst:eX ops=true:=by kernel_rfl) (hd:cu c.n ops.toList=true:=by exact rfl) (hr:a1→a2→a3→a4→a5→∀ K:au→Nat→Prop,K s' κ'→aQ c (eF ops) s κ [] fun s' κ' acc=>sA ops acc.reverse=true∧K s' κ':=by intro e1 e2 e3 e4 e5 K k;simp [e1,e2,e3,e4,e5];(repeat refine ah ?_);refine⟨by kernel_rfl,?_⟩;(repeat refine ah ?_);exact k):AW c r (.seq (.region id ops true) y) s κ Q:=
 aaa fun K hK=>aaq hm hst hd (hr e1 e2 e3 e4 e5 K (hK _ _ h))
theorem AW.Xi(hm:c.P.follows .mixedOrders=true) (e1:a1) (e2:a2) (e3:a3) (h:Q .normal s' κ') (hst:eX ops=true:=by kernel_rfl) (hd:cu c.n ops.toList=true:=by exact rfl) (hq:ops.toList.all (fun o=>gT o.op)=true:=by exact rfl) (hr:a1→a2→a3→∀ K:au→Nat→Prop,K s' κ'→aK c (eF ops) s κ K:=by intro e1 e2 e3 K k;simp [e1,e2,e3];(repeat refine ah ?_);exact k):AW c r (.region id ops true) s κ Q:=
 aau hm hst hd hq (hr e1 e2 e3 (fun s κ=>Q .normal s κ) h)
end
theorem aa.V6(hf:P.funcs[f]?=some fn) (hb:fn.body=some code)
 (h:∀ z:Ev,AW ⟨P,G,z.w,z.F,z.W,fn.ntmps,fun _=>.hole,z.b⟩ none code ⟨fun t=>args.getD t .undef,fun _=>.hole⟩ 0 (aH ⟨P,G,z.w,z.F,z.W,fn.ntmps,fun _=>.hole,z.b⟩ fn x)) (hl:Nat.ble args.length fn.ntmps=true:=by kernel_rfl):aa P G f args x:=
 aa.Km hf hb (Ze hl) fun⟨_,_,w,F,W,_,q,b⟩ h1 h2 h3 h4=>by cases h1;cases h2;cases h3;cases h4;exact h ⟨w,F,W,fun _=>.hole,b⟩
def Jk (D:List Key)(kh:Key):Key→Key:=fun k=>if k∈D then kh else k
theorem LB.Oy {x:LB}(h:x.br g=x) (hm:∀ own es,x=.map own es→∀ p∈es,∀ l,p.2≠.tup l):x.as x g:=by
 cases x with
 | cells own fz T cs=>
  have h':cs.map (CV.br g)=cs:=by injection h
  exact⟨own,cs,rfl,h'.symm,fun h=>h⟩
 | map own es=>
  have h':es.map (fun p=>(p.1,p.2.kM g))=es:=by injection h
  exact⟨own,es,rfl,h'.symm,fun h=>h,hm own es rfl⟩
 | hole=>rfl
 | dead=>intro h;cases h
 | bk=>rfl
def Ko (g:Key→Key)(lv:Key→LB):Prop:=∀ k,(lv k).br g=lv k
theorem I3:Ko g (fun _=>.hole):=fun _=>rfl
theorem LG(h:Ko g lv) (hb:b.br g=b):Ko g (aD lv k b):=fun k'=>by
 unfold aD;split
 ·exact hb
 ·exact h k'
@[simp] theorem LB.jU:(LB.cells own fz T cs).br g=.cells own fz T (cs.map (CV.br g)):=rfl
@[simp] theorem LB.RR:LB.dead.br g=.dead:=rfl
@[simp] theorem LB.S4:LB.bk.br g=.bk:=rfl
@[simp] theorem CV.XP{x:DV}:(CV.d x).br g=.d x:=rfl
@[simp] theorem CV.UL{o:Nat}:(CV.ptr k o).br g=.ptr (g k) o:=rfl
@[simp] theorem CV.TQ{o l z:Nat}:(CV.aI k o l z).br g=.aI (g k) o l z:=rfl
@[simp] theorem AV.Xs{x:CV}:(AV.c x).br g=.c (x.br g):=rfl
@[simp] theorem AV.Uq:(AV.agg cs).br g=.agg (cs.map (CV.br g)):=rfl
theorem Le.drop(D:List Key) (kh:Key) (l:List (Nat × AV)) (hc:c.js=fun _=>.hole) (hD:∀ k∈D,lv' k=.hole) (hlv:∀ k,k ∉ D→lv k=lv' k) (hh:lv kh=.hole)
 (hm:iw lv') (hr:Ko (Jk D kh) lv') (hl:∀ p∈l,p.2.bu=true∧fr p.1=p.2∧p.2.br (Jk D kh)=p.2):Le c ⟨fr,lv⟩ ⟨bq l,lv'⟩:=by
 refine⟨Jk D kh,fun k=>?_,fun k k' h1 h2 e=>?_,fun t=>?_,fun k hk=>absurd (by rw [hc]) hk⟩
 ·show (lv (Jk D kh k)).as (lv' k) _
  by_cases hk:k∈D
  ·rw [hD k hk];have:Jk D kh k=kh:=if_pos hk;rw [this];exact hh
  ·have:Jk D kh k=k:=if_neg hk;rw [this,hlv k hk];exact LB.Oy (hr k) (fun own es h=>absurd h (hm k own es))
 ·have n1:k ∉ D:=fun h=>by have h1':(lv' k).live=true:=h1;rw [hD k h] at h1';cases h1'
  have n2:k' ∉ D:=fun h=>by have h2':(lv' k').live=true:=h2;rw [hD k' h] at h2';cases h2'
  unfold Jk at e;rwa [if_neg n1,if_neg n2] at e
 ·rcases je (P:=fun t x=>x.bu=true∧fr t=x∧x.br (Jk D kh)=x) hl t with h|⟨h1,h2,h3⟩
  ·exact .inl h
  ·exact .inr ⟨h1,by show fr t=_;rw [h3];exact h2⟩
theorem Le.Mb{l:List (Nat × AV)}(D:List Key) (kh:Key) (hc:c.js=fun _=>.hole:=by exact rfl) (hD:∀ k∈D,lv' k=.hole:=by intro k hk;simp at hk;subst hk;simp [aD]) (hlv:∀ k,k ∉ D→lv k=lv' k:=by intro k hk;simp at hk;simp only [aD];(repeat (any_goals split)) <;> simp_all) (hh:lv kh=.hole:=by simp [aD])
 (hm:iw lv':=by repeat (first|exact qi|refine uw ?_ _ _ _ _ _|(refine nH ?_ _)|(refine AP ?_ _ _ _)|(refine ox ?_ _)|simp)) (hr:Ko (Jk D kh) lv':=by repeat (first|exact I3|refine LG ?_ (by simp [Jk]))) (hl:∀ p∈l,p.2.bu=true∧fr p.1=p.2∧p.2.br (Jk D kh)=p.2:=by simp [Jk]):Le c ⟨fr,lv⟩ ⟨bq l,lv'⟩:=Le.drop D kh l hc hD hlv hh hm hr hl
def IN (fn:Fn)(fs cs:List AV):Option bW:=match qZ fs,qZ cs with
 | some fr,some cr=>some (.c (zI fn fr cr),[],[],True)
 | _,_=>none
theorem AL{fn:Fn}{v:Operand→AV}{κ:Key} :
 aZ P (.makeFunc fn first caps) ((Op.makeFunc fn first caps).operands.toList.map v) lv κ=IN fn (first.toList.map v) (caps.toList.map v):=by
 have e:(Op.makeFunc fn first caps).operands.toList.map v=first.toList.map v++caps.toList.map v:=by simp [Op.operands]
 rw [e];simp only [aZ,YY,YX,aaR,if_true];rw [List.take_left' (by simp),List.drop_left' (by simp)];rfl
section
variable {c:Ctx}{ps:List zi}{d:Option Tmp}{s:au}{κ:Nat}{K:au→Nat→Prop}{acc:List sC}{KD:au→Nat→List sC→Prop}
@[simp] theorem VZ {fn:Fn}:aK c (⟨d,.makeFunc fn first caps,none⟩::ps) s κ K=cT c ps d s κ K (IN fn (first.toList.map (s.val c.G)) (caps.toList.map (s.val c.G))):=by
 rw [aP];simp only [dz,AL,cT,gY];rfl
@[simp] theorem Vo {fn:Fn}:aQ c (⟨d,.makeFunc fn first caps,none⟩::ps) s κ acc KD=bH c ps d s κ acc KD (IN fn (first.toList.map (s.val c.G)) (caps.toList.map (s.val c.G))):=by
 rw [aL];simp only [dz,AL,bH,gY];rfl
theorem Ac {f:FuncId}{xs fs cs:List AV}:Gy c (some (f,fs,cs)) xs ps d s κ K=(aT c.P f=true∧jr c f (fs++xs++cs) ps d s κ K):=propext ⟨id,id⟩
theorem Iw{fs cs:List Ref}:cj (.c (.func (.func f) fs cs))=some (f,fs.map s7,cs.map s7):=rfl
theorem HV {f:FuncId}{fs cs:List DV}:cj (.c (.d (.func (.func f) fs cs)))=some (f,fs.map KR,cs.map KR):=rfl
end
theorem ag.OP{us:List AV}{K:AV→List (Key × LB)→List Key→Nat→Prop}(κ' kh:Key) (own:Bool) (sel:List Key) (σ σ':List LB)(rds:List Key)
 (hc:aG c.P c.G f us σ (.ret x σ' [])) (hn:sel.Nodup) (hkh:kh ∉ sel) (hl1:sel.length=σ.length) (hl2:σ'.length=σ.length) (hb:σ.length≤1000)
 (hsel:∀ i (h:i<sel.length) (h':i<σ.length),(lv sel[i]).as σ[i] (aF sel [] kh)) (hh:lv kh=.hole) (hpass:∀ b∈σ,b.pass=true) (hnh:∀ b,b∈σ++σ'→b≠.hole)
 (hown:own=true→∀ k∈sel,(lv k).wz=true) (hlen:us.length=xs.length)
 (hargs:∀ i (h:i<xs.length) (h':i<us.length),us[i].bu=true∧xs[i]=us[i].br (aF sel [] kh))
 (hrd:∀ a∈xs,∀ k∈jo lv a,k∈rds) (hrh:kh∈rds)
 (hK:K (x.br (aF sel [] kh)) (bB (aF sel [] kh) own sel σ') rds κ'):ag c f xs lv K:=by
 have key:=bM.gen (c:=c) (f:=f) (as:=xs) (lv:=lv) us [] sel [] kh σ σ' [] x own rds (fun z hz=>by cases hz) (by simp) (by simpa using hn) (fun z hz=>by cases hz) (by simpa using hkh) (fun z hz=>by cases hz) hl1 hl2 rfl hb hsel (fun k hk=>by cases hk) hh hpass (by simpa using hnh) hown hlen (fun i p q=>.inl (hargs i p q)) (fun a ha k hk=>.inl (hrd a ha k hk)) hrh hc;have e:ec []++bB (aF sel [] kh) own sel σ'++bB (aF sel [] kh) own [] []=bB (aF sel [] kh) own sel σ':=by simp [ec,bB]
 rw [e] at key;exact⟨_,_,rds,κ',key,hK⟩
theorem ag.Li{us:List AV}{K:AV→List (Key × LB)→List Key→Nat→Prop}(κ' kh k0 k1:Key) (own:Bool)(rds:List Key)
 (hc:aG c.P c.G f us [.cells false false T0 cs0,.cells false false T1 cs1] (.ret x [.cells false false T0 cs0,.cells false false T1 cs1] [])) (hx:x.pure=true)
 (h0:lv k0=.cells own false T0 cs0) (h1:lv k1=.cells own false T1 cs1) (p0:∀ x∈cs0,x.pure=true) (p1:∀ x∈cs1,x.pure=true) (hk:k0≠k1) (hh:lv kh=.hole) (hlen:us.length=xs.length)
 (hargs:∀ i (h:i<xs.length) (h':i<us.length),us[i].bu=true∧xs[i]=us[i].br (aF [k0,k1] [] kh))
 (hrd:∀ a∈xs,∀ k∈jo lv a,k∈rds) (hrh:kh∈rds)
 (hK:K x [(k0,.cells own false T0 cs0),(k1,.cells own false T1 cs1)] rds κ'):ag c f xs lv K:=by
 have r0:∀ g,(LB.cells false false T0 cs0).br g=.cells false false T0 cs0:=fun g=>LB.aX p0 g
 have r1:∀ g,(LB.cells false false T1 cs1).br g=.cells false false T1 cs1:=fun g=>LB.aX p1 g
 have m0:∀ g,cs0.map (CV.br g)=cs0:=fun g=>by have:=r0 g;simp only [LB.jU] at this;injection this
 have m1:∀ g,cs1.map (CV.br g)=cs1:=fun g=>by have:=r1 g;simp only [LB.jU] at this;injection this
 refine ag.OP κ' kh own [k0,k1] _ _ rds hc (by simp [hk]) ?_ rfl rfl (by simp) ?_ hh (by simp [LB.pass]) (by simp) ?_ hlen hargs hrd hrh ?_
 ·intro hm;simp only [YT,Y6,or_false] at hm;rcases hm with rfl|rfl
  ·rw [h0] at hh;cases hh
  ·rw [h1] at hh;cases hh
 ·intro i p q;have hi:i=0∨i=1:=by simp at p;omega
  rcases hi with rfl|rfl
  ·exact⟨own,cs0,h0,(m0 _).symm,fun h=>by cases h⟩
  ·exact⟨own,cs1,h1,(m1 _).symm,fun h=>by cases h⟩
 ·intro ho k hk';simp only [YT,Y6,or_false] at hk';rcases hk' with rfl|rfl
  ·rw [h0];exact ho
  ·rw [h1];exact ho
 ·rw [AV.aX hx]
  have e:bB (aF [k0,k1] [] kh) own [k0,k1] [.cells false false T0 cs0,.cells false false T1 cs1]=[(k0,.cells own false T0 cs0),(k1,.cells own false T1 cs1)]:=by
   simp only [bB,abz,List.zipWith_nil_left,r0,r1,LB.fix,abg]
  rw [e];exact hK
theorem Ez (b b':LB):bn [b,b'] []=aD (aD (fun _=>.hole) 0 b) 1 b':=by
 funext k;unfold bn aD
 by_cases h1:k=1
 ·subst h1;rfl
 ·by_cases h0:k=0
  ·subst h0;rfl
  ·rw [if_neg h1,if_neg h0];split
   ·rw [c8];rcases k with _|_|k
    ·exact absurd rfl h0
    ·exact absurd rfl h1
    ·simp
   ·rfl
def xL (c:Ctx)(fn:Func)(x:AV)(b0 b1:LB):Ex→au→Nat→Prop
 | .normal,s,_|.ret,s,_=>∃ l kh,(∀ p∈l,p.2.pure=true∧s.fr p.1=p.2)∧s.lv kh=.hole∧s.lv 0=b0∧s.lv 1=b1∧cM c.P ⟨bq l,fun _=>.hole⟩ fn.results.toList=some x
 | _,_,_=>False
theorem Ot{l:List (Nat × AV)}{rs:List ResultVar}(hr:∀ r∈rs,∃ t,r=.tmp t):cM P ⟨bq l,lv⟩ rs=cM P ⟨bq l,lv'⟩ rs:=by
 have h1:∀ rs:List ResultVar,(∀ r∈rs,∃ t,r=.tmp t)→gz P ⟨bq l,lv⟩ rs=gz P ⟨bq l,lv'⟩ rs:=by
  intro rs
  induction rs with
  | nil=>intro _;rfl
  | cons r rs ih=>
   intro h;obtain⟨t,rfl⟩:=h r (by simp);have:=ih fun r hr=>h r (by simp [hr])
   simp only [gz,iB,this]
 unfold cM;rw [h1 rs hr]
theorem aG.QD(hf:P.funcs[f]?=some fn) (hb:fn.body=some code) (hl:args.length≤fn.ntmps)
 (hr:∀ r∈fn.results.toList,∃ t,r=.tmp t) (p0:∀ x∈cs0,x.pure=true) (p1:∀ x∈cs1,x.pure=true)
 (h:∀ c:Ctx,c.P=P→c.G=G→c.n=fn.ntmps→AW c none code ⟨fun t=>args.getD t .undef,aD (aD (fun _=>.hole) 0 (.cells false false T0 cs0)) 1 (.cells false false T1 cs1)⟩ 1000 (xL c fn x (.cells false false T0 cs0) (.cells false false T1 cs1))) :
 aG P G f args [.cells false false T0 cs0,.cells false false T1 cs1] (.ret x [.cells false false T0 cs0,.cells false false T1 cs1] []):=by
 have m0:∀ g,cs0.map (CV.br g)=cs0:=fun g=>by have:=LB.aX (T:=T0) (own:=false) (fz:=false) p0 g;simp only [LB.jU] at this;injection this
 have m1:∀ g,cs1.map (CV.br g)=cs1:=fun g=>by have:=LB.aX (T:=T1) (own:=false) (fz:=false) p1 g;simp only [LB.jU] at this;injection this
 refine aG.ny hf hb hl fun c h1 h2 h3 h4=>?_;rw [Ez] at h4 ⊢;refine AW.mono (h c h1 h2 h3) fun e s κ hq=>?_
 have fin:(∃ l kh,(∀ p∈l,p.2.pure=true∧s.fr p.1=p.2)∧s.lv kh=.hole∧s.lv 0=.cells false false T0 cs0∧s.lv 1=.cells false false T1 cs1∧cM c.P ⟨bq l,fun _=>.hole⟩ fn.results.toList=some x) →
  ∃ s2 g,dn c s s2 g∧s2.lv=bn [.cells false false T0 cs0,.cells false false T1 cs1] []∧cM c.P s2 fn.results.toList=some x:=by
  rintro⟨l,kh,g1,g2,g3,g4,g5⟩;refine⟨⟨bq l,aD (aD (fun _=>.hole) 0 (.cells false false T0 cs0)) 1 (.cells false false T1 cs1)⟩,fun k=>if k=0 then 0 else if k=1 then 1 else kh,⟨fun k=>?_,fun k k' e1 e2 e=>?_,fun t=>?_,fun k hk=>?_⟩,by rw [Ez],by rw [Ot hr (lv':=fun _=>.hole)];exact g5⟩
  ·show (s.lv _).as (aD _ 1 _ k) _
   by_cases hk1:k=1
   ·subst hk1;exact⟨false,cs1,g4,(m1 _).symm,fun h=>h⟩
   ·by_cases hk0:k=0
    ·subst hk0;exact⟨false,cs0,g3,(m0 _).symm,fun h=>h⟩
    ·simp only [aD,hk0,hk1,if_false];exact g2
  ·have q:∀ k,(aD (aD (fun _=>LB.hole) 0 (.cells false false T0 cs0)) 1 (.cells false false T1 cs1) k).live=true→k=0∨k=1:=by
    intro k hk;unfold aD at hk
    by_cases hk1:k=1
    ·exact .inr hk1
    ·by_cases hk0:k=0
     ·exact .inl hk0
     ·rw [if_neg hk1,if_neg hk0] at hk;cases hk
   rcases q k e1 with rfl|rfl <;> rcases q k' e2 with rfl|rfl <;> simp_all
  ·rcases je (P:=fun t x=>x.pure=true∧s.fr t=x) g1 t with h|⟨h1,h2⟩
   ·exact .inl h
   ·exact .inr ⟨AV.bQ h1,by rw [AV.aX h1];exact h2⟩
  ·right;rw [h4] at hk;show (if k=0 then 0 else if k=1 then 1 else kh)=k
   by_cases hk1:k=1
   ·subst hk1;rfl
   ·by_cases hk0:k=0
    ·subst hk0;rfl
    ·exfalso;apply hk;simp [aD,hk0,hk1]
 cases e with
 | normal=>exact fin hq
 | ret=>exact fin hq
 | exit id=>exact hq.elim
 | goto l=>exact hq.elim
 | panic d=>exact hq.elim
theorem aG.Vh(hf:P.funcs[f]?=some fn) (hb:fn.body=some code) (p0:∀ x∈cs0,x.pure=true) (p1:∀ x∈cs1,x.pure=true)
 (hr:∀ r∈fn.results.toList,∃ t,r=.tmp t)
 (h:∀ z:Ev,AW ⟨P,G,z.w,z.F,z.W,fn.ntmps,z.q,z.b⟩ none code ⟨fun t=>args.getD t .undef,aD (aD (fun _=>.hole) 0 (.cells false false T0 cs0)) 1 (.cells false false T1 cs1)⟩ 1000 (xL ⟨P,G,z.w,z.F,z.W,fn.ntmps,z.q,z.b⟩ fn x (.cells false false T0 cs0) (.cells false false T1 cs1))) (hl:Nat.ble args.length fn.ntmps=true:=by kernel_rfl) :
 aG P G f args [.cells false false T0 cs0,.cells false false T1 cs1] (.ret x [.cells false false T0 cs0,.cells false false T1 cs1] []):=
 aG.QD hf hb (Ze hl) hr p0 p1 fun⟨_,_,w,F,W,_,q,b⟩ h1 h2 h3=>by cases h1;cases h2;cases h3;exact h ⟨w,F,W,q,b⟩
theorem xL.tmp{t:Nat}{b0 b1:LB}(hr:fn.results=#[.tmp t]) (kh:Key) (hx:s.fr t=x) (hp:x.pure=true) (hh:s.lv kh=.hole) (h0:s.lv 0=b0) (h1:s.lv 1=b1) (hn:x.bV=true):xL c fn x b0 b1 .ret s κ:=by
 refine⟨[(t,x)],kh,by simp [hp,hx],hh,h0,h1,?_⟩;rw [hr];simp [cM,gz,iB,bq]
section
variable {c:Ctx}{r:Option Nat}{ops:Array Oper}{o:Oper}{s0:au}
theorem cO.Jn {κ:Key}(hd:∀ d,o.dst=some d→d<c.n) (hw:eC ops o.guard s0.fr=some true)
 (h:cU c.P o.op (o.op.operands.toList.map (s0.val c.G)) s0.lv κ=some (x,us,rds)):cO c r ops o s0 ⟨x,us,rds⟩:=by
 refine cO.qb hw (fun cl hcl=>?_) (fun s h1 h2=>?_)
 ·rw [hcl] at h;simp [cU] at h
 ·have hl:=vg h (show Agree s0.lv s.lv us rds from h2);exact As hd rfl (Zj h1) hl
theorem Bn{x:Operand}{κ:Key}(hd:∀ d,o.dst=some d→d<c.n) (ho:o.op=.slice T x lo hi none)
 (hx:s.val c.G x=.c (.ptr κ off)) (hk:s.lv κ=.cells own fz T' cs) (hT:qX c.P T=some (n,e,sz)) (hlo:dc (lo.map (s.val c.G)) 0=some l) (hhi:dc (hi.map (s.val c.G)) n=some l)
 (h0:0≤l) (h2:l≤n):bP c o s (s.put o.dst (.c (.d (.sl [])))):=
 bP.aU hd fun F β a w hs=>by
  have hv:=hx ▸ hs.val x;obtain⟨hv,_⟩:=hv;simp only [Vw.de,hk] at hv;have hr:=iq hT (b:=β κ) (o:=off) (gJ (fun x=>hs.val x) hlo) (gJ (fun x=>hs.val x) hhi) h0 (Int.le_refl _) h2 w;refine⟨_,by simp only [execOp,ho,aaS,hv];simp [hr];rfl,?_,rfl⟩;have e1:(if n=l.toNat then (⟨β κ,off,none⟩:Addr) else ⟨β κ,off+l.toNat*sz,none⟩)=⟨β κ,if n=l.toNat then off else off+l.toNat*sz,none⟩:=by split <;> rfl
  rw [e1];exact Rd.sl (β κ) _ (n - l.toNat) sz [] (fun _ _=>.nilIface) (by simp) (by simp) (by simp) (by simp) (by simp) (by simp)
theorem cO.Fl{x:Operand}{κ:Key}(hd:∀ d,o.dst=some d→d<c.n) (hw:eC ops o.guard s0.fr=some true) (ho:o.op=.slice T x lo hi none)
 (hx:s0.val c.G x=.c (.ptr κ off)) (hk:s0.lv κ=.cells own fz T' cs) (hT:qX c.P T=some (n,e,sz)) (hlo:dc (lo.map (s0.val c.G)) 0=some l) (hhi:dc (hi.map (s0.val c.G)) n=some l)
 (h0:0≤l) (h2:l≤n):cO c r ops o s0 ⟨.c (.d (.sl [])),[],[κ]⟩:=by
 refine cO.qb hw (fun cl hcl=>by rw [ho] at hcl;cases hcl) (fun s h1 h3=>?_);have e1:s.val c.G x=s0.val c.G x:=h1 x (by rw [ho];simp [Op.operands])
 have e2:lo.map (s.val c.G)=lo.map (s0.val c.G):=by
  cases lo with
  | none=>rfl
  | some y=>exact congrArg some (h1 y (by rw [ho];simp [Op.operands]))
 have e3:hi.map (s.val c.G)=hi.map (s0.val c.G):=by
  cases hi with
  | none=>rfl
  | some y=>exact congrArg some (h1 y (by rw [ho];simp [Op.operands]))
 have e4:s.lv κ=s0.lv κ:=h3.1 κ (by simp);exact Bn hd ho (e1.trans hx) (e4.trans hk) hT (by rw [e2];exact hlo) (by rw [e3];exact hhi) h0 h2
end
def nA (c:Ctx)(r:Option Nat)(ops:Array Oper)(os:List Oper)(s:au)(κ:Nat)(K:au→Nat→Prop):Prop:=
 ∃ es s' κ',eY c r ops os es s s'∧K s' κ'
section
variable {c:Ctx}{r:Option Nat}{ops:Array Oper}
theorem eY.append {os2:List Oper}{es2:List Fx}{s2:au}:∀ {os1:List Oper}{es1:List Fx}{s s1:au},eY c r ops os1 es1 s s1→eY c r ops os2 es2 s1 s2→eY c r ops (os1++os2) (es1++es2) s s2
 | [],[],s,s1,h,h2=>by have h:s1=s:=h;subst h;exact h2
 | o::os,e::es,s,s1,h,h2=>⟨h.1,eY.append h.2 h2⟩
 | [],_::_,_,_,h,_=>h.elim
 | _::_,[],_,_,h,_=>h.elim
theorem nA.done{K:au→Nat→Prop}(h:K s κ):nA c r ops [] s κ K:=⟨[],s,κ,rfl,h⟩
theorem nA.run{K:au→Nat→Prop}(n:Nat) (hd:cu c.n (os.take n)=true) (h:aK c (jN (ops.toList.map (·.dst)) (os.take n)) s κ fun s' κ'=>nA c r ops (os.drop n) s' κ' K):nA c r ops os s κ K:=by
 rw [mc] at h;obtain⟨es,s',κ',h1,es2,s2,κ2,h2,h3⟩:=fM.chain (r:=r) hd h;refine⟨es++es2,s2,κ2,?_,h3⟩;have:=eY.append h1 h2
 rwa [abw] at this
theorem nA.ME{K:au→Nat→Prop}(κ':Nat) (he:cO c r ops o s ⟨x,us,rds⟩) (h:nA c r ops os (au.put ⟨s.fr,aR s.lv us⟩ o.dst x) κ' K):nA c r ops (o::os) s κ K:=by
 obtain⟨es,s',κ2,h1,h2⟩:=h;exact⟨⟨x,us,rds⟩::es,s',κ2,⟨he,h1⟩,h2⟩
theorem AW.rm(h:nA c r ops ops.toList s κ fun s' κ'=>Q .normal s' κ'):AW c r (.region id ops false) s κ Q:=by
 intro F β a w hs;obtain⟨es,s',κ',h1,h2⟩:=h;exact h1.region (fun F' β' a' w' h'=>⟨.normal,s',κ',F',β',h2,h',rfl⟩) hs
end
theorem nA.cU{K:au→Nat→Prop}(κ':Nat) (hd:cu c.n [o]=true) (hg:o.guard=none)
 (h:Am.cU c.P o.op (o.op.operands.toList.map (s.val c.G)) s.lv κ=some (x,us,rds)) (hK:nA c r ops os (au.put ⟨s.fr,aR s.lv us⟩ o.dst x) κ' K):nA c r ops (o::os) s κ K:=by
 refine nA.ME κ' (cO.Jn (fun d hd'=>?_) (by rw [hg];rfl) h) hK;simp only [cu,aaE,List.all_nil,aa7,hd'] at hd;simpa using hd
theorem nA.Fl{κ0:Nat}{K:au→Nat→Prop}(κ':Nat){x:Operand}{κ:Key}
 (hd:cu c.n [o]=true) (hg:o.guard=none) (ho:o.op=.slice T x lo hi none)
 (hx:s.val c.G x=.c (.ptr κ off)) (hk:s.lv κ=.cells own fz T' cs) (hT:qX c.P T=some (n,e,sz)) (hlo:dc (lo.map (s.val c.G)) 0=some l) (hhi:dc (hi.map (s.val c.G)) n=some l)
 (h0:0≤l) (h2:l≤n) (hK:nA c r ops os (au.put ⟨s.fr,aR s.lv []⟩ o.dst (.c (.d (.sl [])))) κ' K):nA c r ops (o::os) s κ0 K:=by
 refine nA.ME κ' (cO.Fl (fun d hd'=>?_) (by rw [hg];rfl) ho hx hk hT hlo hhi h0 h2) hK;simp only [cu,aaE,List.all_nil,aa7,hd'] at hd;simpa using hd
def cF (m:List (Key × Key × LB))(kh:Key):Key→Key:=fun k=>match m.find? (fun e=>e.1 == k) with
 | some e=>e.2.1
 | none=>kh
@[simp] theorem LB.Jl {o f:Bool}:(LB.cells o f T cs').as (.cells own fz T' cs) g↔(f=fz∧T=T'∧cs'=cs.map (CV.br g)∧(own=true→o=true)):=by
 constructor
 ·rintro⟨own',cs2,h1,h2,h3⟩;injection h1 with e1 e2 e3 e4
  subst e1;subst e4;exact⟨e2,e3,h2,h3⟩
 ·rintro⟨rfl,rfl,h2,h3⟩;exact⟨o,cs',rfl,h2,h3⟩
@[simp] theorem LB.UG {x:LB}:x.as .bk g↔x=.bk:=Iff.rfl
abbrev LB.like (x y:LB)(g:Key→Key):Prop:=x.as y g
@[simp] theorem LB.Gk {o f:Bool}:(LB.cells o f T cs').like (.cells own fz T' cs) g↔(f=fz∧T=T'∧cs'=cs.map (CV.br g)∧(own=true→o=true)):=LB.Jl
@[simp] theorem LB.Rh {x:LB}:x.like .bk g↔x=.bk:=Iff.rfl
theorem zX {m:List (Key × Key × LB)}(hn:(m.map (·.1)).Nodup) :
 aR (fun _=>LB.hole) (m.map fun e=>(e.1,e.2.2)) k=match m.find? (fun e=>e.1 == k) with|some e=>e.2.2|none=>.hole:=by
 cases h:m.find? (fun e=>e.1 == k) with
 | some e=>
  have h1:=aaZ h;have h2:=aa8 h;simp only [beq_iff_eq] at h2;subst h2;have hn':((m.map fun e=>(e.1,e.2.2)).map (·.1)).Nodup:=by rw [Y7];exact hn
  exact jA hn' (List.mem_map.2 ⟨e,h1,rfl⟩)
 | none=>
  rw [abF] at h;rw [bU];intro hk;simp only [Y7,Zo,Function.comp] at hk;obtain⟨e,he,rfl⟩:=hk;exact h e he (by simp)
theorem dn.keys(m:List (Key × Key × LB)) (kh:Key) (l:List (Nat × AV)) (hlv':lv'=aR (fun _=>.hole) (m.map fun e=>(e.1,e.2.2))) (hc:∀ k,c.js k≠.hole→lv' k=.dead∨cF m kh k=k)
 (hn1:(m.map (·.1)).Nodup) (hn2:(m.map (·.2.1)).Nodup) (hh:s.lv kh=.hole) (has:∀ e∈m,(s.lv e.2.1).as e.2.2 (cF m kh)) (hl:∀ p∈l,p.2.bu=true∧s.fr p.1=p.2.br (cF m kh)):dn c s ⟨bq l,lv'⟩ (cF m kh):=by
 have hk:∀ k,lv' k=match m.find? (fun e=>e.1 == k) with|some e=>e.2.2|none=>.hole:=fun k=>by rw [hlv',zX hn1]
 refine⟨fun k=>?_,fun k k' h1 h2 e=>?_,fun t=>?_,hc⟩
 ·show (s.lv (cF m kh k)).as (lv' k) _;rw [hk]
  cases h:m.find? (fun e=>e.1 == k) with
  | some e=>
   have e1:cF m kh k=e.2.1:=by unfold cF;rw [h]
   rw [e1];exact has e (aaZ h)
  | none=>
   have e1:cF m kh k=kh:=by unfold cF;rw [h]
   rw [e1];exact hh
 ·have h1':(lv' k).live=true:=h1;have h2':(lv' k').live=true:=h2;rw [hk] at h1' h2'
  cases f1:m.find? (fun e=>e.1 == k) with
  | none=>rw [f1] at h1';cases h1'
  | some e1=>
   cases f2:m.find? (fun e=>e.1 == k') with
   | none=>rw [f2] at h2';cases h2'
   | some e2=>
    have g1:cF m kh k=e1.2.1:=by unfold cF;rw [f1]
    have g2:cF m kh k'=e2.2.1:=by unfold cF;rw [f2]
    rw [g1,g2] at e;have i1:=aaZ f1;have i2:=aaZ f2;have j1:=aa8 f1;have j2:=aa8 f2;simp only [beq_iff_eq] at j1 j2
    have:e1=e2:=by
     obtain⟨a,ha,rfl⟩:=List.mem_iff_getElem.1 i1;obtain⟨b,hb,rfl⟩:=List.mem_iff_getElem.1 i2
     have hab:a=b:=by
      refine (List.getElem_inj (xs:=m.map (·.2.1)) (i:=a) (j:=b) (h₀:=by simpa using ha) (h₁:=by simpa using hb) hn2).1 ?_;simpa using e
     subst hab;rfl
    rw [← j1,← j2,this]
 ·rcases je (P:=fun t x=>x.bu=true∧s.fr t=x.br (cF m kh)) hl t with h|⟨h1,h2⟩
  ·exact .inl h
  ·exact .inr ⟨h1,h2⟩
theorem Le.keys(m:List (Key × Key × LB)) (kh:Key) (l:List (Nat × AV)) (hlv':lv'=aR (fun _=>.hole) (m.map fun e=>(e.1,e.2.2))) (hc:c.js=fun _=>.hole)
 (hn1:(m.map (·.1)).Nodup) (hn2:(m.map (·.2.1)).Nodup) (hh:lv kh=.hole) (has:∀ e∈m,(lv e.2.1).like e.2.2 (cF m kh)) (hl:∀ p∈l,p.2.bu=true∧fr p.1=p.2.br (cF m kh)):Le c ⟨fr,lv⟩ ⟨bq l,lv'⟩:=
 ⟨_,dn.keys (s:=⟨fr,lv⟩) m kh l hlv' (fun k hk=>absurd (by rw [hc]) hk) hn1 hn2 hh has hl⟩
def Ye (c:Ctx)(fn:Func)(x:AV)(ν:List LB):Ex→au→Nat→Prop
 | .normal,s,_|.ret,s,_=>∃ (m:List (Key × Key × LB)) (kh:Key),bn [] ν=aR (fun _=>.hole) (m.map fun e=>(e.1,e.2.2))∧(m.map (·.1)).Nodup∧(m.map (·.2.1)).Nodup∧s.lv kh=.hole ∧
  (∀ e∈m,(s.lv e.2.1).like e.2.2 (cF m kh))∧x.bu=true∧cM c.P s fn.results.toList=some (x.br (cF m kh))
 | _,_,_=>False
def LJ (c:Ctx)(fn:Func)(x:AV)(σ' ν:List LB):Ex→au→Nat→Prop
 | .normal,s,_|.ret,s,_=>∃ (m:List (Key × Key × LB)) (kh:Key),bn σ' ν=aR (fun _=>.hole) (m.map fun e=>(e.1,e.2.2))∧(m.map (·.1)).Nodup∧(m.map (·.2.1)).Nodup∧s.lv kh=.hole ∧
  (∀ k,c.js k≠.hole→bn σ' ν k=.dead∨cF m kh k=k)∧(∀ e∈m,(s.lv e.2.1).like e.2.2 (cF m kh))∧x.bu=true∧cM c.P s fn.results.toList=some (x.br (cF m kh))
 | _,_,_=>False
theorem aG.L6(hf:P.funcs[f]?=some fn) (hb:fn.body=some code) (hl:args.length≤fn.ntmps)
 (h:∀ c:Ctx,c.P=P→c.G=G→c.n=fn.ntmps→c.js=bn σ []→AW c none code ⟨fun t=>args.getD t .undef,bn σ []⟩ 1000 (LJ c fn x σ' ν)):aG P G f args σ (.ret x σ' ν):=by
 intro F β w vs hS hvl hv;refine xC hf hb hl hS hvl hv (h _ rfl rfl rfl rfl) (fun e s κ hq=>by cases e <;> first|exact .inl rfl|exact .inr rfl|exact hq.elim) fun e s' κ F' β' a' w' hq hX0=>?_;obtain⟨m,kh,g1,g2,g3,g4,g8,g5,g6,g7⟩:∃ (m:List (Key × Key × LB)) (kh:Key),bn σ' ν=aR (fun _=>.hole) (m.map fun e=>(e.1,e.2.2))∧(m.map (·.1)).Nodup∧(m.map (·.2.1)).Nodup∧s'.lv kh=.hole∧(∀ k,bn σ [] k≠.hole→bn σ' ν k=.dead∨cF m kh k=k)∧(∀ e∈m,(s'.lv e.2.1).like e.2.2 (cF m kh))∧x.bu=true∧cM P s' fn.results.toList=some (x.br (cF m kh)):=by cases e <;> first|exact hq|exact hq.elim
 obtain⟨v,h4,hav⟩:=tg hX0 g7;have hco:dn { cQ P G w F β (bn σ []) with n:=fn.ntmps } s' ⟨bq [],bn σ' ν⟩ (cF m kh):=dn.keys m kh [] g1 g8 g2 g3 g4 g5 (fun p hp=>by cases hp);have hs2:=hX0.coarse hco;have hR:(Vw.mk F' β' s'.lv w').Ren (Vw.mk F' (fun k=>β' (cF m kh k)) (bn σ' ν) w') (cF m kh):=⟨rfl,rfl,fun _ _=>rfl,fun k=>LB.yC (hco.as k)⟩
 refine⟨hX0.defers,v,h4,v,F',fun k=>β' (cF m kh k),rfl,?_,hR.av g6 hav⟩;exact hs2.wu
theorem ag.VA{us:List AV}{K:AV→List (Key × LB)→List Key→Nat→Prop}(κ' kh:Key) (Z:List (Key × TypeId × List CV))(rds:List Key)
 (hc:aa c.P c.G f us x) (hx:x.pure=true) (hZ:∀ z∈Z,lv z.1=.cells true false z.2.1 z.2.2) (hZn:(Z.map (·.1)).Nodup) (hh:lv kh=.hole) (hlen:us.length=xs.length)
 (hargs:∀ i (h:i<xs.length) (h':i<us.length),(us[i].pure=true∧xs[i]=us[i])∨∃ ks,fq (aR lv (ec Z)) xs[i]=some (us[i],ks)∧∀ k∈ks,k∈Z.map (·.1))
 (hrd:∀ a∈xs,∀ k∈jo (aR lv (ec Z)) a,k∈rds∨k∈Z.map (·.1)) (hrh:kh∈rds)
 (hK:K x (ec Z) rds κ'):ag c f xs lv K:=by
 have hkZ:∀ z∈Z,z.1≠kh:=fun z hz e=>by have:=hZ z hz;rw [e,hh] at this;cases this
 have key:=bM.gen (c:=c) (f:=f) (as:=xs) (lv:=lv) us Z [] [] kh [] [] [] x false rds hZ hZn (by simp) (fun z hz=>by simp) (by simp) hkZ rfl rfl rfl (by simp)
  (fun i h=>absurd h (ZN i)) (fun k hk=>by cases hk) hh (fun b hb=>by cases hb) (fun b hb=>by cases hb) (fun h=>by cases h) hlen
  (fun i p q=>?_) hrd hrh hc
 ·rw [AV.aX hx] at key;have e:ec Z++bB (aF [] [] kh) false [] []++bB (aF [] [] kh) false [] []=ec Z:=by simp [bB]
  rw [e] at key;exact⟨x,_,rds,κ',key,hK⟩
 ·rcases hargs i p q with ⟨h1,h2⟩|⟨ks,h1,h2⟩
  ·exact .inl ⟨AV.bQ h1,by rw [AV.aX h1];exact h2⟩
  ·refine .inr ⟨ks,h1,fun k hk=>?_⟩;obtain⟨z,hz,rfl⟩:=List.mem_map.1 (h2 k hk);have hn:((ec Z).map (·.1)).Nodup:=by rw [gq];exact hZn
   exact⟨true,z.2.1,z.2.2,jA hn (by simp only [ec,Zo];exact⟨z,hz,rfl⟩)⟩
theorem ag.Ax{us:List AV}{K:AV→List (Key × LB)→List Key→Nat→Prop}(κ' kh:Key) (own:Bool) (sel nk:List Key) (σ σ' ν:List LB)(rds:List Key)
 (hc:aG c.P c.G f us σ (.ret x σ' ν)) (hn:(sel++nk).Nodup) (hkh:kh ∉ sel++nk) (hl1:sel.length=σ.length) (hl2:σ'.length=σ.length) (hl3:nk.length=ν.length) (hb:σ.length≤1000)
 (hsel:∀ i (h:i<sel.length) (h':i<σ.length),(lv sel[i]).as σ[i] (aF sel nk kh)) (hnk:∀ k∈nk,lv k=.hole) (hh:lv kh=.hole) (hpass:∀ b∈σ,b.pass=true) (hnh:∀ b,b∈σ++σ'++ν→b≠.hole)
 (hown:own=true→∀ k∈sel,(lv k).wz=true) (hlen:us.length=xs.length)
 (hargs:∀ i (h:i<xs.length) (h':i<us.length),us[i].bu=true∧xs[i]=us[i].br (aF sel nk kh))
 (hrd:∀ a∈xs,∀ k∈jo lv a,k∈rds) (hrh:kh∈rds)
 (hK:K (x.br (aF sel nk kh)) (bB (aF sel nk kh) own sel σ'++bB (aF sel nk kh) own nk ν) rds κ'):ag c f xs lv K:=by
 have key:=bM.gen (c:=c) (f:=f) (as:=xs) (lv:=lv) us [] sel nk kh σ σ' ν x own rds (fun z hz=>by cases hz) (by simp) (by simpa using hn) (fun z hz=>by cases hz) (by simpa using hkh) (fun z hz=>by cases hz) hl1 hl2 hl3 hb hsel hnk hh hpass (by simpa using hnh) hown hlen (fun i p q=>.inl (hargs i p q)) (fun a ha k hk=>.inl (hrd a ha k hk)) hrh hc;have e:ec []++bB (aF sel nk kh) own sel σ'++bB (aF sel nk kh) own nk ν=bB (aF sel nk kh) own sel σ'++bB (aF sel nk kh) own nk ν:=by simp [ec]
 rw [e] at key;exact⟨_,_,rds,κ',key,hK⟩
theorem aG.Q2{js:Key→LB}(hf:P.funcs[f]?=some fn) (hb:fn.body=some code) (hσ:bn σ []=js)
 (h:∀ z:Ev,AW ⟨P,G,z.w,z.F,z.W,fn.ntmps,js,z.b⟩ none code ⟨fun t=>args.getD t .undef,js⟩ 1000 (LJ ⟨P,G,z.w,z.F,z.W,fn.ntmps,js,z.b⟩ fn x σ' ν)) (hl:Nat.ble args.length fn.ntmps=true:=by kernel_rfl):aG P G f args σ (.ret x σ' ν):=
 aG.L6 hf hb (Ze hl) fun⟨_,_,w,F,W,_,q,b⟩ h1 h2 h3 h4=>by subst hσ;cases h1;cases h2;cases h3;cases h4;exact h ⟨w,F,W,fun _=>.hole,b⟩
theorem Hj (σ ν:List LB)(k:Nat):bn σ ν k=if k<1000 then σ.getD k .hole else ν.getD (k - 1000) .hole:=rfl
theorem AI (σ:List LB)(b:LB)(h:σ.length<1000):bn (σ++[b]) []=aD (bn σ []) σ.length b:=by
 refine funext fun (k:Nat)=>?_;unfold aD;simp only [Hj]
 by_cases hk:k=σ.length
 ·subst hk;rw [if_pos h,if_pos rfl,hJ,Zf (aW _)];simp
 ·rw [if_neg hk]
  by_cases h2:k<1000
  ·rw [if_pos h2,if_pos h2]
   by_cases h3:k<σ.length
   ·rw [hJ,ZQ h3,← hJ]
   ·rw [c8 (by simp;omega),c8 (by omega)]
  ·rw [if_neg h2,if_neg h2]
theorem Bx (a b c:LB):bn [a,b,c] []=aD (aD (aD (fun _=>.hole) 0 a) 1 b) 2 c:=by
 have h:=AI [a,b] c (by simp);rw [show [a,b]++[c]=[a,b,c] from rfl] at h;rw [h];have h:=AI [a] b (by simp);rw [show [a]++[b]=[a,b] from rfl] at h;rw [h,sG];rfl
theorem aE.bk{F:Nat→Prop}{β:Key→Nat}{a:Act}{w:World}(h:aE c F β s a w) {κ:Key}(i sz:Nat)
 (hk:s.lv k=.cells own false T cs) (hi:cs[i]?=some (.d .nilsl)) (hκ:s.lv κ=.hole):aE c F β ⟨s.fr,aD (aD s.lv κ .bk) k (.cells own false T (cs.set i (.aI κ 0 0 sz)))⟩ a w:=by
 have hne:κ≠k:=fun e=>by rw [e,hk] at hκ;cases hκ
 have hlv:∀ k',k'≠k→k'≠κ→aD (aD s.lv κ .bk) k (.cells own false T (cs.set i (.aI κ 0 0 sz))) k'=s.lv k':=fun k' h1 h2=>by rw [aC _ _ h1,aC _ _ h2]
 have hkk:aD (aD s.lv κ .bk) k (.cells own false T (cs.set i (.aI κ 0 0 sz))) κ=.bk:=by rw [aC _ _ hne,az]
 refine h.step (fun _ h=>h) (fun _ _=>rfl) (fun k'=>?_) (fun _ _ _=>rfl) (fun _=>aW _) (fun k' hK=>?_) (fun k1 k2 h1 h2=>?_) (fun _ h=>.inl h) (aW _) (fun _ _ _=>rfl)
 ·by_cases e:k'=k
  ·subst e;rw [az,hk];exact trivial
  ·by_cases e2:k'=κ
   ·subst e2;rw [hκ];exact trivial
   ·rw [hlv _ e e2];exact LB.bl _
 ·by_cases e:k'=k
  ·subst e;have hb:=h.bx k';unfold Vw.bx at hb ⊢;simp only [hk] at hb;simp only [az];obtain⟨arr,b1,b2,b3,b4,b5⟩:=hb;refine⟨arr,b1,by simpa using b2,fun j p q=>?_,b4,b5⟩;have hp:j<cs.length:=by simpa using p
   rw [List.getElem_set]
   by_cases e3:i=j
   ·subst e3;rw [if_pos rfl];have hv:=b3 i hp q;rw [show cs[i]=.d .nilsl by rw [cn hp] at hi;exact Zs hi] at hv;obtain⟨hr,ho⟩:=hv;refine⟨?_,ho⟩;show Vw.cB _ _ _ _ _ _;unfold Vw.cB;simp only [hkk]
    have inv:∀ v:Value,Rd (kI w F) v .nilsl→v=.slice none 0 0:=fun v h=>by
     generalize hd:DV.nilsl=d at h
     cases h <;> first|rfl|cases hd
    exact⟨inv _ hr,trivial,trivial⟩
   ·rw [if_neg e3];exact hK.cv (b3 j hp q)
  ·by_cases e2:k'=κ
   ·subst e2;unfold Vw.bx;simp only [hkk]
   ·exact Vw.bp (h.bx k') hK (hlv _ e e2) rfl rfl (fun _ h=>h)
 ·have g:∀ k',(aD (aD s.lv κ .bk) k (.cells own false T (cs.set i (.aI κ 0 0 sz))) k').live=true→(s.lv k').live=true:=fun k' hl=>by
   by_cases e:k'=k
   ·subst e;rw [hk];rfl
   ·by_cases e2:k'=κ
    ·subst e2;rw [hkk] at hl;cases hl
    ·rwa [hlv _ e e2] at hl
  exact h.inj _ _ (g _ h1) (g _ h2)
theorem AW.bk{κ1:Nat}{x:Code}(k κ:Key) (i sz:Nat)
 (hk:s.lv k=.cells own false T cs) (hi:cs[i]?=some (.d .nilsl)) (hκ:s.lv κ=.hole) (h:AW c r x ⟨s.fr,aD (aD s.lv κ .bk) k (.cells own false T (cs.set i (.aI κ 0 0 sz)))⟩ κ1 Q):AW c r x s κ1 Q:=
 fun F β a w hs=>h F β a w (hs.bk i sz hk hi hκ)
theorem dn.Ts(m:List (Key × Key × LB)) (d:List Key) (kh:Key) (l:List (Nat × AV)) (m':List (Key × Key × LB)) (hm':m'=m++d.map fun k=>(k,k,.dead)) (hlv':lv'=aR (fun _=>.hole) (m'.map fun e=>(e.1,e.2.2)))
 (hc:∀ k,c.js k≠.hole→lv' k=.dead∨cF m' kh k=k)
 (hn1:(m'.map (·.1)).Nodup) (hn2:(m.map (·.2.1)).Nodup) (hh:s.lv kh=.hole) (has:∀ e∈m,(s.lv e.2.1).like e.2.2 (cF m' kh)) (hd:∀ k∈d,s.lv k≠.hole) (hl:∀ p∈l,p.2.bu=true∧s.fr p.1=p.2.br (cF m' kh)):dn c s ⟨bq l,lv'⟩ (cF m' kh):=by
 have hk:∀ k,lv' k=match m'.find? (fun e=>e.1 == k) with|some e=>e.2.2|none=>.hole:=fun k=>by rw [hlv'];exact zX hn1
 have hmem:∀ e∈m',e∈m∨(e.2.1∈d∧e.2.2=.dead):=fun e he=>by
  rw [hm'] at he;rcases List.mem_append.1 he with h|h
  ·exact .inl h
  ·obtain⟨k,hkd,rfl⟩:=List.mem_map.1 h;exact .inr ⟨hkd,rfl⟩
 refine⟨fun k=>?_,fun k k' h1 h2 e=>?_,fun t=>?_,hc⟩
 ·show (s.lv (cF m' kh k)).as (lv' k) _;rw [hk]
  cases h:m'.find? (fun e=>e.1 == k) with
  | some e=>
   have e1:cF m' kh k=e.2.1:=by unfold cF;rw [h]
   rw [e1];rcases hmem e (aaZ h) with h1|⟨h1,h2⟩
   ·exact has e h1
   ·show LB.as _ e.2.2 _;rw [h2];exact hd _ h1
  | none=>
   have e1:cF m' kh k=kh:=by unfold cF;rw [h]
   rw [e1];exact hh
 ·have h1':(lv' k).live=true:=h1;have h2':(lv' k').live=true:=h2;rw [hk] at h1' h2'
  cases f1:m'.find? (fun e=>e.1 == k) with
  | none=>rw [f1] at h1';cases h1'
  | some e1=>
   cases f2:m'.find? (fun e=>e.1 == k') with
   | none=>rw [f2] at h2';cases h2'
   | some e2=>
    rw [f1] at h1';rw [f2] at h2';have g1:cF m' kh k=e1.2.1:=by unfold cF;rw [f1]
    have g2:cF m' kh k'=e2.2.1:=by unfold cF;rw [f2]
    rw [g1,g2] at e;have j1:=aa8 f1;have j2:=aa8 f2;simp only [beq_iff_eq] at j1 j2;rcases hmem e1 (aaZ f1) with i1|⟨-,i1⟩
    ·rcases hmem e2 (aaZ f2) with i2|⟨-,i2⟩
     ·have:e1=e2:=by
       obtain⟨a,ha,rfl⟩:=List.mem_iff_getElem.1 i1;obtain⟨b,hb,rfl⟩:=List.mem_iff_getElem.1 i2
       have hab:a=b:=by
        refine (List.getElem_inj (xs:=m.map (·.2.1)) (i:=a) (j:=b) (h₀:=by simpa using ha) (h₁:=by simpa using hb) hn2).1 ?_;simpa using e
       subst hab;rfl
      rw [← j1,← j2,this]
     ·simp only [i2] at h2';cases h2'
    ·simp only [i1] at h1';cases h1'
 ·rcases je (P:=fun t x=>x.bu=true∧s.fr t=x.br (cF m' kh)) hl t with h|⟨h1,h2⟩
  ·exact .inl h
  ·exact .inr ⟨h1,h2⟩
def tF (c:Ctx)(r:Option Nat)(ops:Array Oper)(os:List Oper)(s:au)(κ:Nat)(acc:List sC)(K:au→Nat→List sC→Prop):Prop:=
 ∃ es s' κ',eY c r ops os es s s'∧K s' κ' ((es.map sY).reverse++acc)
section
variable {c:Ctx}{r:Option Nat}{ops:Array Oper}
theorem tF.done{acc:List sC}{K:au→Nat→List sC→Prop}(h:K s κ acc):tF c r ops [] s κ acc K:=⟨[],s,κ,rfl,h⟩
theorem tF.run{acc:List sC}{K:au→Nat→List sC→Prop}(n:Nat) (hd:cu c.n (os.take n)=true)
 (h:aQ c (jN (ops.toList.map (·.dst)) (os.take n)) s κ acc fun s' κ' acc'=>tF c r ops (os.drop n) s' κ' acc' K):tF c r ops os s κ acc K:=by
 have e:∀ l:List sC,(l.map fun t=>(⟨.undef,t.1.map fun k=>(k,LB.hole),t.2⟩:Fx)).map sY=l:=fun l=>by
  rw [Y7];refine (Zj fun t _=>?_).trans (aaM l);simp only [Function.comp,sY,Y7];show ((t.1.map fun k=>k),t.2)=t;rw [List.map_id']
 rw [← e acc] at h;obtain⟨es,s',κ',h1,es2,s2,κ2,h2,h3⟩:=fM.chain (r:=r) hd (iW h);refine⟨es++es2,s2,κ2,?_,?_⟩
 ·have:=eY.append h1 h2
  rwa [abw] at this
 ·rw [Z2,e,List.map_reverse] at h3;rw [Z2,List.reverse_append,YZ];exact h3
theorem tF.cU{acc:List sC}{K:au→Nat→List sC→Prop}(κ':Nat) (hd:cu c.n [o]=true) (hg:o.guard=none)
 (h:Am.cU c.P o.op (o.op.operands.toList.map (s.val c.G)) s.lv κ=some (x,us,rds)) (hK:tF c r ops os (au.put ⟨s.fr,aR s.lv us⟩ o.dst x) κ' ((us.map (·.1),rds)::acc) K):tF c r ops (o::os) s κ acc K:=by
 obtain⟨es,s',κ2,h1,h2⟩:=hK;refine⟨⟨x,us,rds⟩::es,s',κ2,⟨cO.Jn (fun d hd'=>?_) (by rw [hg];rfl) h,h1⟩,?_⟩
 ·simp only [cu,aaE,List.all_nil,aa7,hd'] at hd;simpa using hd
 ·rw [Y0,List.reverse_cons,YZ];exact h2
theorem AW.Em(hm:c.P.follows .mixedOrders=true) (hst:eX ops=true) (h:tF c r ops ops.toList s κ [] fun s' κ' acc=>sA ops acc.reverse=true∧Q .normal s' κ'):AW c r (.region id ops true) s κ Q:=by
 intro F β a w hs;obtain⟨es,s',κ',h1,h2,h3⟩:=h;rw [Zr,List.reverse_reverse,← B4] at h2;exact h1.draw hm hst h2 (fun F' β' a' w' h'=>⟨.normal,s',κ',F',β',h3,h',rfl⟩) hs
end
structure Tw where
 e:Fx
 lv:Key→LB
 sf:Option (Key × LB)
variable {acc:List Tw}{K:au→List Tw→Prop}
open Classical in
noncomputable def Tw.fw (t:Tw):Fw:=⟨t.e,t.lv,false,fun k b=>match t.sf with|some (W,B)=>decide (k=W∧(b=t.lv W∨b=B))|none=>false⟩
def Tw.Bm (t:Tw):Fx:=match t.sf with|some _=>⟨t.e.x,[],[]⟩|none=>t.e
def Tw.OK (t:Tw):Prop:=∀ W B,t.sf=some (W,B)→t.e.us=[]∧t.e.rds=[W]
def XG (ts:List Tw):List (Tw × Nat):=ts.zipIdx.filter fun p=>p.1.sf.isSome
def Xj (ts:List Tw):List (Tw × Nat):=ts.zipIdx.filter fun p=>!p.1.e.us.isEmpty
def Fy (ops:Array Oper)(i j:Nat):Bool:=((fX ops.toList []).getD (max i j) 0).testBit (min i j)
def QC (ops:Array Oper)(ts:List Tw):Prop:=∀ p∈XG ts,∀ q∈Xj ts,∀ W B,p.1.sf=some (W,B)→W∈q.1.e.us.map (·.1)→Fy ops p.2 q.2=true ∨
 ((q.1.lv W=p.1.lv W∨q.1.lv W=B)∧(aR (fun _=>.hole) q.1.e.us W=p.1.lv W∨aR (fun _=>.hole) q.1.e.us W=B))
theorem Tw.Bp {t:Tw}{B:LB}(h:t.sf=some (W,B)):t.fw.soft k b=true↔k=W∧(b=t.lv W∨b=B):=by
 simp [Tw.fw,h]
def oZ (c:Ctx)(r:Option Nat)(ops:Array Oper)(os:List Oper)(s:au)(acc:List Tw)(K:au→List Tw→Prop):Prop:=
 ∃ ts s',iX c r ops os (ts.map Tw.fw) s s'∧(∀ t∈ts,t.OK)∧K s' (acc++ts)
section
variable {c:Ctx}{r:Option Nat}{ops:Array Oper}
theorem oZ.done(h:K s acc):oZ c r ops [] s acc K:=⟨[],s,rfl,(fun _ h=>by cases h),by rw [Zr];exact h⟩
theorem oZ.put(t:Tw) (he:lS c r ops o s t.e t.fw.ok) (hl:t.lv=s.lv) (ht:t.OK) (h:oZ c r ops os (t.e.app o.dst s) (acc++[t]) K):oZ c r ops (o::os) s acc K:=by
 obtain⟨ts,s',h1,h2,h3⟩:=h;refine⟨t::ts,s',⟨he,hl,h1⟩,fun x hx=>?_,by rw [YZ] at h3;exact h3⟩;rcases List.mem_cons.1 hx with rfl|hx
 ·exact ht
 ·exact h2 x hx
theorem oZ.ME(he:cO c r ops o s ⟨x,us,rds⟩) (h:oZ c r ops os (au.put ⟨s.fr,aR s.lv us⟩ o.dst x) (acc++[⟨⟨x,us,rds⟩,s.lv,none⟩]) K):oZ c r ops (o::os) s acc K:=by
 refine oZ.put ⟨⟨x,us,rds⟩,s.lv,none⟩ (fun s1 h1 h2=>he s1 h1 ?_) rfl (fun W B h=>by cases h) h;rcases h2 with ⟨h2,-⟩|⟨-,h2|⟨-,k,-,h2⟩⟩
 ·cases h2
 ·exact h2
 ·cases h2
theorem oZ.soft(B:LB) (he:cO c r ops o s ⟨x,[],[W]⟩) (he':cO c r ops o ⟨s.fr,aD s.lv W B⟩ ⟨x,[],[W]⟩) (h:oZ c r ops os (au.put ⟨s.fr,s.lv⟩ o.dst x) (acc++[⟨⟨x,[],[W]⟩,s.lv,some (W,B)⟩]) K):oZ c r ops (o::os) s acc K:=by
 refine oZ.put ⟨⟨x,[],[W]⟩,s.lv,some (W,B)⟩ (fun s1 h1 h2=>?_) rfl (fun W' B' h=>by cases h;exact⟨rfl,rfl⟩) h
 have fin:∀ b,s1.lv W=b→(b=s.lv W∨b=B)→∀ F β a w K Q,aE c F β s1 a w→(∀ F' β' a' w',aE c F' β' (Fx.app ⟨x,[],[W]⟩ o.dst s1) a' w'→K a' w') →
  if Region.wanted o (yielded ops a.tmps) then o.wpIn (nS r) 0 c.P a w K Q else K (a.put o.dst Go.undef) w:=by
  intro b hb hor;rcases hor with e|e
  ·exact he s1 h1 ⟨fun k hk=>by rw [List.mem_singleton.1 hk,hb,e],fun p hp=>by cases hp⟩
  ·exact he' s1 h1 ⟨fun k hk=>by rw [List.mem_singleton.1 hk,hb,e];exact (az ..).symm,fun p hp=>by cases hp⟩
 rcases h2 with ⟨h2,-⟩|⟨-,h2|⟨-,k,h3,h2⟩⟩
 ·cases h2
 ·exact fin _ rfl (.inl (h2.1 W (List.mem_singleton.2 rfl)))
 ·obtain⟨h4,h5⟩:=(Tw.Bp (t:=⟨⟨x,[],[W]⟩,s.lv,some (W,B)⟩) rfl).1 h2;rw [h4] at h5;exact fin _ rfl h5
theorem oZ.op(hd:cu c.n [o]=true) (hg:o.guard=none) (h:dz c o s κ fun x us rds _=>oZ c r ops os (au.put ⟨s.fr,aR s.lv us⟩ o.dst x) (acc++[⟨⟨x,us,rds⟩,s.lv,none⟩]) K):oZ c r ops (o::os) s acc K:=by
 obtain⟨x,us,rds,_,he,hK⟩:=dz.ME (r:=r) (ops:=ops) (fun d hd'=>by simp only [cu,aaE,List.all_nil,aa7,hd'] at hd;simpa using hd) (by rw [hg];rfl) h;exact oZ.ME he hK
theorem oZ.read(κ:Nat) (W:Key) (B:LB) (hd:cu c.n [o]=true) (hg:o.guard=none)
 (h1:aZ c.P o.op (o.op.operands.toList.map (s.val c.G)) s.lv κ=some (x,[],[W],True)) (h2:aZ c.P o.op (o.op.operands.toList.map (s.val c.G)) (aD s.lv W B) κ=some (x,[],[W],True))
 (h:oZ c r ops os (au.put ⟨s.fr,s.lv⟩ o.dst x) (acc++[⟨⟨x,[],[W]⟩,s.lv,some (W,B)⟩]) K):oZ c r ops (o::os) s acc K:=by
 have hd2:∀ d,o.dst=some d→d<c.n:=fun d hd'=>by simp only [cu,aaE,List.all_nil,aa7,hd'] at hd;simpa using hd
 exact oZ.soft B (cO.plain hd2 (by rw [hg];rfl) h1 trivial) (cO.plain (s0:=⟨s.fr,aD s.lv W B⟩) hd2 (by rw [hg];rfl) h2 trivial) h
theorem AW.Sv(κ':Nat) (hm:c.P.follows .mixedOrders=true) (hst:eX ops=true) (h:oZ c r ops ops.toList s [] fun s' ts=>sA ops (ts.map fun t=>sY t.Bm)=true∧QC ops ts∧Q .normal s' κ'):AW c r (.region id ops true) s κ Q:=by
 intro F β a w hs;obtain⟨ts,s',h1,h2,h3,h4,h5⟩:=h;rw [Zt] at h3 h4;have hlen:ts.length=ops.size:=by have:=h1.len;simpa using this
 have h3':BK ops (ts.map Tw.Bm)=true:=by rw [B4,Y7];exact h3
 obtain⟨g1,g2⟩:=pV (by simpa using hlen) hst h3'
 have hbit:∀ i j,i<j→Fy ops i j=true∨Fy ops j i=true→uX ops i j:=fun i j hij hb=>by
  refine iF (ops:=ops) ops.toList [] (by simp) (fun i j h=>by simp at h) i j ?_;rcases hb with hb|hb <;> unfold Fy at hb
  ·rwa [Nat.max_eq_right (by omega),ZF (by omega)] at hb
  ·rwa [Nat.max_eq_left (by omega),Nat.min_eq_right (by omega)] at hb
 have hz:∀ (i:Nat) f,ts[i]?=some f→(f,i)∈ts.zipIdx:=fun i f hf=>by rw [List.mem_zipIdx_iff_getElem?];exact hf
 refine h1.draw hm g1 (fun i j o o' f g hij ho ho' hf hg=>?_) (fun F' β' a' w' h'=>⟨.normal,s',κ',F',β',h5,h',rfl⟩) hs;rw [ZO,Y8] at hf hg;obtain⟨f,hf,rfl⟩:=hf;obtain⟨g,hg,rfl⟩:=hg
 by_cases hA:uX ops i j
 ·exact .inl hA
 right;obtain⟨a1,a2,a3⟩:=(g2 i j o o' f.Bm g.Bm hij ho ho' (by rw [ZO,hf];rfl) (by rw [ZO,hg];rfl)).resolve_left hA;refine⟨a1,(fun h=>by cases h),(fun h=>by cases h),?_⟩
 have key:∀ {p q:Tw}{n m:Nat},ts[n]?=some p→ts[m]?=some q→¬ (Fy ops n m=true)→∀ {W B},p.sf=some (W,B)→∀ k∈q.e.us.map (·.1),k ∉ p.e.rds∨(p.e.us=[]∧p.e.rds=[k]∧p.fw.soft k (q.lv k)=true∧p.fw.soft k (aR (fun _=>.hole) q.e.us k)=true):=by
  intro p q n m hp hq hb W B hs k hk;obtain⟨b1,b2⟩:=h2 p (abR hp) W B hs;rw [b2]
  by_cases hkW:k=W
  ·subst hkW;refine .inr ⟨b1,rfl,?_⟩;rw [Tw.Bp hs,Tw.Bp hs];have hq2:q.e.us≠[]:=fun e=>by rw [e] at hk;cases hk
   obtain⟨c1,c2⟩:=(h4 (p,n) (List.mem_filter.2 ⟨hz n p hp,by rw [hs];rfl⟩) (q,m) (List.mem_filter.2 ⟨hz m q hq,by cases h:q.e.us with|nil=>exact absurd h hq2|cons _ _=>rfl⟩) k B hs hk).resolve_left hb;exact⟨⟨rfl,c1⟩,rfl,c2⟩
  ·exact .inl fun h=>hkW (List.mem_singleton.1 h)
 have hb1:¬ (Fy ops i j=true):=fun h=>hA (hbit i j hij (.inl h))
 have hb2:¬ (Fy ops j i=true):=fun h=>hA (hbit i j hij (.inr h))
 have noF:∀ {p:Tw}{n:Nat},ts[n]?=some p→∀ {W B},p.sf=some (W,B)→p.e.us=[]:=fun hp _ _ hs=>(h2 _ (abR hp) _ _ hs).1
 cases hfs:f.sf with
 | some fs=>
  obtain⟨W,B⟩:=fs;have hu:f.e.us=[]:=noF hf hfs;refine⟨fun k hk=>?_,fun k hk=>?_,fun k hk=>?_⟩
  ·change k∈f.e.us.map _ at hk;rw [hu] at hk;cases hk
  ·change k∈f.e.us.map _ at hk;rw [hu] at hk;cases hk
  ·rcases key hf hg hb1 hfs k hk with h|⟨q1,q2,q3,q4⟩
   ·exact .inl h
   ·exact .inr ⟨q1,q2,q4⟩
 | none=>
  have ef:f.Bm=f.e:=by unfold Tw.Bm;rw [hfs]
  cases hgs:g.sf with
  | some gs=>
   obtain⟨W,B⟩:=gs;have hu:g.e.us=[]:=noF hg hgs;refine⟨fun k hk=>?_,fun k hk=>?_,fun k hk=>?_⟩
   ·show k ∉ g.e.us.map _;rw [hu];exact fun h=>by cases h
   ·rcases key hg hf hb2 hgs k hk with h|⟨q1,q2,q3,q4⟩
    ·exact .inl h
    ·exact .inr ⟨q1,q2,q3⟩
   ·change k∈g.e.us.map _ at hk;rw [hu] at hk;cases hk
  | none=>
   have eg:g.Bm=g.e:=by unfold Tw.Bm;rw [hgs]
   rw [ef,eg] at a2 a3;exact⟨fun k hk=>(a2 k hk).1,fun k hk=>.inl (a2 k hk).2,fun k hk=>.inl (a3 k hk)⟩
end
end Go.Am
namespace Go.Am.N
variable {g o:Nat}
section
variable {B V W v1 v2 Vl u2 Wl top E qt:Nat}
structure Ph (B E V W v1 v2 Vl top u2 Wl:Nat):Prop where
 hV:V=(v1*B+v2)*E+Vl
 hW:W=(top*B+u2)*E+Wl
 MC:Vl<E
 Ji:Wl<E
 PB:v2<B
 OV:u2<B
 hlt:W<B*V
 vw:0<v1
 hB:0<B
variable (h:Ph B E V W v1 v2 Vl top u2 Wl)
include h
theorem Ph.E0:0<E:=by have:=h.MC;omega
theorem Ph.V0:0<V:=by
 have h1:1*1≤(v1*B+v2)*E:=aa0 (by have:=aaN h.vw h.hB;omega) h.E0;have:=h.hV;omega
theorem Ph.PX:top<B*(v1+1):=by
 have h1:top*B*E≤W:=by rw [h.hW,Y3];omega
 have h2:V<(v1+1)*B*E:=by
  have e1:(v1+1)*B*E=(v1*B+B)*E:=by rw [Y3,ZK]
  have e2:(v1*B+v2+1)*E≤(v1*B+B)*E:=Zg _ (by have:=h.PB;omega);rw [Y3 _ 1,ZK] at e2;have:=h.hV;have:=h.MC;omega
 have h3:B*V<B*((v1+1)*B*E):=Nat.mul_lt_mul_of_pos_left h2 h.hB
 have h4:top*(B*E)<B*(v1+1)*(B*E):=by
  have e1:B*((v1+1)*B*E)=B*(v1+1)*(B*E):=by simp only [Zk]
  rw [← e1,← Zk];have:=h.hlt;omega
 exact Nat.lt_of_mul_lt_mul_right h4
theorem Ph.first (hq:qt*V≤W):qt≤top / v1:=by
 rw [Nat.le_div_iff_mul_le h.vw];have h1:qt*((v1*B)*E)≤qt*V:=ZG _ (by rw [h.hV,Y3 (v1*B)];omega)
 have h2:W<(top+1)*(B*E):=by
  have e1:(top*B+u2+1)*E≤(top*B+B)*E:=Zg _ (by have:=h.OV;omega);rw [Y3 _ 1,ZK] at e1;have e2:(top+1)*(B*E)=(top*B+B)*E:=by rw [Y3,Y3,ZK,Zk]
  have:=h.hW;have:=h.Ji;omega
 have h3:qt*v1*(B*E)<(top+1)*(B*E):=by
  have e1:qt*((v1*B)*E)=qt*v1*(B*E):=by simp only [Zk]
  rw [← e1];omega
 have:=Nat.lt_of_mul_lt_mul_right h3;omega
theorem Ph.over(hq:qt*V≤W) (hg:g*v1+o=top) (ht:o*B+u2<g*v2):qt<g:=by
 apply Zz;intro hn;have h1:g*V≤qt*V:=Zg _ (by omega);have h2:g*((v1*B+v2)*E)≤g*V:=ZG _ (by rw [h.hV];omega)
 have h3:(top*B+u2+1)*E≤g*(v1*B+v2)*E:=by
  refine Zg _ ?_;have e1:g*(v1*B+v2)=g*v1*B+g*v2:=by rw [YW,Zk]
  have e2:top*B=g*v1*B+o*B:=by rw [← hg,Y3]
  omega
 rw [Zk] at h3;rw [Y3 _ 1,ZK] at h3;have:=h.hW;have:=h.Ji;omega
theorem Ph.near(hq:W<(qt+1)*V) (hg:g*v1+o=top) (hgB:g<B) (ht:g*v2≤o*B+u2):g≤qt+1:=by
 apply Zz;intro hn;have h1:(qt+1+1)*V≤g*V:=Zg _ (by omega);rw [Y3 (qt+1),ZK] at h1;have h2:g*V=g*(v1*B+v2)*E+g*Vl:=by rw [h.hV,YW,Zk]
 have h3:g*(v1*B+v2)*E≤(top*B+u2)*E:=by
  refine Zg _ ?_;have e1:g*(v1*B+v2)=g*v1*B+g*v2:=by rw [YW,Zk]
  have e2:top*B=g*v1*B+o*B:=by rw [← hg,Y3]
  omega
 have h4:g*Vl≤B*E:=aa0 (by omega) (by have:=h.MC;omega)
 have h5:B*E≤V:=by
  have:1*B*E≤(v1*B+v2)*E:=Zg _ (by have:=Zg B h.vw;omega);rw [ZK] at this;have:=h.hV;omega
 have:=h.hW;omega
end
theorem xA {B:Nat}:∀ {L n:Nat},n<B ^ L→fZ B (L+1) n=fZ B L n++[0]
 | 0,n,h=>by
  have:n=0:=by simp at h;exact h
  subst this;simp [fZ]
 | L+1,n,h=>by
  have h2:n / B<B ^ L:=by
   rcases abK B with rfl|hB
   ·simp at h
   ·rw [abn hB];rwa [Zq] at h
  rw [fZ,xA h2];rfl
theorem NO {B:Nat}{l:List Nat}(h:ok B l):fZ B l.length (val B l)=l:=(oH h rfl).symm
end Go.Am.N
namespace Go.Am
variable {x y i:AV}{o:Oper}{c:Ctx}{us:List (Key × LB)}{ops:Array Oper}{s s' s0:au}{op:Op}{lv:Tb LB}{r:cV}{nx n κ:Nat}{rds l lg:List Key}{vals:List AV}{cl:Call}{fr:Tb AV}{os:List Oper}{fo:Operand}{P:Program}{lv':Key→LB}{b:LB}{ok:(Key→LB)→Prop}{e:Fx}{F:Nat→Prop}{β:Key→Nat}{w:World}{a:Act}{d:Option Nat}{call:er}
section
variable {c:Ctx}{r:Option Nat}{ops:Array Oper}
def sH (c:Ctx)(r:Option Nat)(ops:Array Oper)(o:Oper)(s s1:au):Prop:=
 ∀ F β a w K Q,aE c F β s a w→(∀ F' β' a' w',aE c F' β' s1 a' w'→K a' w') →
  if Region.wanted o (yielded ops a.tmps) then o.wpIn (nS r) 0 c.P a w K Q else K (a.put o.dst undef) w
theorem sH.P3(h:cO c r ops o s e):sH c r ops o s (e.app o.dst s):=
 fun F β a w K Q hs hK=>h s (fun _ _=>rfl) ⟨fun _ _=>rfl,fun _ _=>rfl⟩ F β a w K Q hs hK
def tJ (c:Ctx)(r:Option Nat)(ops:Array Oper):List Oper→au→au→Prop
 | [],s,s'=>s'=s
 | o::os,s,s'=>∃ s1,sH c r ops o s s1∧tJ c r ops os s1 s'
theorem tJ.opers {Q:Exit→Act→World→Prop}:∀ {os:List Oper}{s s':au}(n:Nat),ops.toList.drop n=os→tJ c r ops os s s' →
 (∀ F' β' a' w',aE c F' β' s' a' w'→Q .normal a' w')→∀ F β a w,aE c F β s a w→wpOpsIn (nS r) 0 c.P ops Q (List.range' n os.length) a w
 | [],s,s',n,_,h,hQ=>fun F β a w hs=>by
  have h:s'=s:=h;subst h;exact hQ F β a w hs
 | o::os,s,s',n,h1,h,hQ=>fun F β a w hs=>by
  obtain⟨s1,h2,h3⟩:=h
  have ho:ops[n]?=some o:=by
   have:(ops.toList.drop n)[0]?=some o:=by rw [h1];rfl
   rw [Z0] at this;simpa using this
  have ih:=tJ.opers (os:=os) (n+1) (by rw [← Z9,h1];rfl) h3 hQ;have key:=h2 F β a w (wpOpsIn (nS r) 0 c.P ops Q (List.range' (n+1) os.length)) Q hs (fun F' β' a' w' h'=>ih F' β' a' w' h');simp only [Zn,abA];rw [wpOpsIn_cons];unfold wpOpIn;rw [ho];simp only;split at key
  ·rename_i hw;rw [if_pos hw];exact key
  ·rename_i hw;rw [if_neg hw];exact⟨fun _ _=>trivial,key⟩
theorem AW.N7{Q:Ex→au→Nat→Prop}{id:Nat}(h:tJ c r ops ops.toList s s') (hQ:Q .normal s' κ):AW c r (.region id ops false) s κ Q:=by
 intro F β a w hs;refine wpIn_region ?_;have:=tJ.opers (Q:=Post c Q) 0 rfl h (fun F' β' a' w' h'=>⟨.normal,s',κ,F',β',hQ,h',rfl⟩) F β a w hs;rw [List.range_eq_range'];simpa using this
end
theorem cG.enter{G:List (List DV)}{lv:Key→LB}(hS:cG (cQ P G w F β lv) F β lv w){fr:Nat→AV}(h1:a.tmps.size=n) (h2:a.defers=[])
 (h3:∀ t,(Vw.mk F β lv w).av (a.tmps.getD t undef) (fr t)):aE { cQ P G w F β lv with n:=n } F β ⟨fr,lv⟩ a w:=
 cG.with (c:={ cQ P G w F β lv with n:=n }) hS h1 h2 h3
section
variable {P:Program}{T:TypeId}{lv:Key→LB}{κ:Key}{v:AV}{us:List (Key × LB)}{rds:List Key}
theorem FI {op:BinOp}(h:uv P op T x y=some (v,us,rds,true)):∃ vc,aJ P op T x y=some (v,us,rds,vc)∧vc:=by
 unfold uv at h;unfold aJ
 (repeat' split at h) <;> simp_all <;> exact⟨True,trivial⟩
theorem DC(h:qz P T lv x=some (v,us,rds,true)):∃ vc,cx P T lv x=some (v,us,rds,vc)∧vc:=by
 unfold qz at h;unfold cx
 (repeat' split at h) <;> simp_all <;> exact⟨True,trivial⟩
theorem Cz(h:ov P T lv x y=some (v,us,rds,true)):∃ vc,dh P T lv x y=some (v,us,rds,vc)∧vc:=by
 unfold ov at h;unfold dh
 (repeat' split at h) <;> simp_all <;> exact⟨True,trivial⟩
theorem Gf(h:tT lv x=some (v,us,rds,true)):∃ vc,gk lv x=some (v,us,rds,vc)∧vc:=by
 unfold tT at h;unfold gk
 (repeat' split at h) <;> simp_all <;> exact⟨True,trivial⟩
theorem uW {f:Nat}(h:jF P T f lv x=some (v,us,rds,true)):∃ vc,bF P T f lv x=some (v,us,rds,vc)∧vc:=by
 unfold jF at h;unfold bF
 (repeat' split at h) <;> simp_all <;> exact⟨True,trivial⟩
theorem tH(h:jD P T lv x i=some (v,us,rds,true)):∃ vc,aq P T lv x i=some (v,us,rds,vc)∧vc:=by
 unfold jD at h;unfold aq
 (repeat' split at h) <;> first|(cases h;done)|(simp only [ai,fy,decide_eq_true_eq] at h;obtain⟨rfl,rfl,rfl,h⟩:=h;refine⟨_,?_,h⟩;simp only [*,if_true])
theorem B0(h:nL P T x i=some (v,us,rds,true)):∃ vc,fI P T x i=some (v,us,rds,vc)∧vc:=by
 unfold nL at h;unfold fI
 (repeat' split at h) <;> first|(cases h;done)|(simp only [ai,fy,decide_eq_true_eq] at h;obtain⟨rfl,rfl,rfl,h⟩:=h;refine⟨_,?_,h⟩;simp only [*,if_true])
theorem sw{lo hi:Option AV}(h:oc P T lv x lo hi=some (v,us,rds,true)):∃ vc,bh P T lv x lo hi=some (v,us,rds,vc)∧vc:=by
 unfold oc at h;unfold bh
 (repeat' split at h) <;> simp_all <;> exact⟨True,trivial⟩
theorem CU(h:qg P T lv κ x y=some (v,us,rds,true)):∃ vc,fU P T lv κ x y=some (v,us,rds,vc)∧vc:=by
 unfold qg at h;unfold fU
 (repeat' split at h) <;> simp_all <;> exact⟨True,trivial⟩
theorem zo(h:mY P T lv κ x y=some (v,us,rds,true)):∃ vc,dM P T lv κ x y=some (v,us,rds,vc)∧vc:=by
 unfold mY at h;unfold dM
 (repeat' split at h) <;> simp_all <;> exact⟨True,trivial⟩
theorem rF{ixs:List Nat}(h:jh P T n ixs lv κ vals=some (v,us,rds,true)):∃ vc,aB P T n ixs lv κ vals=some (v,us,rds,vc)∧vc:=by
 unfold jh at h;unfold aB
 (repeat' split at h) <;> simp_all <;> exact⟨True,trivial⟩
theorem EJ(h:qA P T lv y x=some (v,us,rds,true)):∃ vc,gR P T lv y x=some (v,us,rds,vc)∧vc:=by
 unfold qA at h;unfold gR
 (repeat' split at h) <;> first|(cases h;done)|(simp only [ai,fy,decide_eq_true_eq] at h;obtain⟨rfl,rfl,rfl,h⟩:=h;refine⟨_,?_,h⟩;simp only [*,and_self,if_true])
theorem Lt(h:BW P cl vals lv κ=some (v,us,rds,true)):∃ vc,iy P cl vals lv κ=some (v,us,rds,vc)∧vc:=by
 unfold BW at h;unfold iy;split at h
 ·split at h
  ·split at h
   ·simp only [ai,fy] at h;obtain⟨rfl,rfl,rfl,h⟩:=h
    rename_i n hn
    refine⟨_,?_,Fs h⟩;simp only [*]
   ·cases h
  ·cases h
 ·split at h
  ·split at h
   ·rename_i hT;subst hT;obtain⟨vc,h1,h2⟩:=zo h;refine⟨vc,?_,h2⟩;simp only [*,if_true]
   ·cases h
  ·cases h
 ·split at h
  ·obtain⟨vc,h1,h2⟩:=EJ h;refine⟨vc,?_,h2⟩;simp only [*]
  ·cases h
 ·split at h
  ·simp_all;exact⟨True,trivial⟩
  ·cases h
 ·split at h
  ·simp_all;exact⟨True,trivial⟩
  ·cases h
 ·cases h
def WH (P:Program):Prop:=∀ op vals lv κ x us rds,qY P op vals lv κ=some (x,us,rds,true)→∃ vc,aZ P op vals lv κ=some (x,us,rds,vc)∧vc
theorem SJ (P:Program):WH P:=by
 intro op vals lv κ v us rds h;unfold qY at h;unfold aZ;split at h
 all_goals first
  | exact rF h
  | exact DC h
  | exact Cz h
  | exact Gf h
  | exact FI h
  | exact CU h
  | exact uW h
  | exact tH h
  | exact B0 h
  | exact Lt h
  | (cases h;done)
  | (split at h;(obtain⟨vc,h1,h2⟩:=sw h;refine⟨vc,?_,h2⟩;simp only [*];done);(cases h;done))
  | ((repeat' split at h) <;> first|(cases h;done)|(simp only [ai,fy,and_true] at h;obtain⟨rfl,rfl,rfl⟩:=h;refine⟨True,?_,trivial⟩;simp only [*,if_true];done))
  | skip
 split at h
 ·rename_i l hh hb
  obtain⟨vc,h1,h2⟩:=sw h;refine⟨vc,?_,h2⟩;show (match wv _ _ _ with|some (l,h)=>bh P _ lv _ l h|none=>none)=_;rw [hb];exact h1
 ·cases h
end
def Good (r:cV):Prop:=∀ n o,r≠.bad n o
theorem Good.ne(h:Good r){o:List Op}:cV.bad n o≠r:=fun e=>h n o e.symm
noncomputable def SS (fr:Tb AV)(lv:Tb LB):au:=⟨jO fr,aV lv⟩
def jP (lv lv':Tb LB)(l:List Key):Prop:=∀ k,k ∉ l→aV lv' k=aV lv k
theorem jP.refl (lv:Tb LB):jP lv lv []:=fun _ _=>rfl
theorem jP.trans {a b c:Tb LB}{m:List Key}(h1:jP a b l) (h2:jP b c m):jP a c (m++l):=by
 intro k hk;rw [ZM] at hk;rw [h2 k (fun h=>hk (.inl h)),h1 k (fun h=>hk (.inr h))]
theorem KV (us:List (Key × LB)):(tw us).map (·.1)=us.map (·.1):=by simp [tw]
theorem DK:∀ {lv lv':Key→LB},(∀ k,lv' k=lv k∨lv' k=(lv k).un)→∀ k,aR lv' (tw us) k=aR lv us k∨aR lv' (tw us) k=(aR lv us k).un:=by
 induction us with
 | nil=>intro lv lv' h k;exact h k
 | cons p us ih=>
  intro lv lv' h k;show aR (aD lv' p.1 p.2.un) (tw us) k=aR (aD lv p.1 p.2) us k∨_=(aR (aD lv p.1 p.2) us k).un;refine ih (fun j=>?_) k
  by_cases e:j=p.1
  ·subst e;rw [az,az];exact .inr rfl
  ·rw [aC _ _ e,aC _ _ e];exact h j
theorem LB.PV (x:LB):x.sub x.un:=by cases x <;> simp [LB.un,LB.sub]
theorem LB.NP (x:LB):x.un.live=x.live:=by
 cases x with
 | cells o fz T cs=>cases fz <;> rfl
 | _=>rfl
theorem DG{own:Bool}{b:Nat}(h:eH c own b):eH c false b:=qm h (by simp)
theorem aE.forget{fr:Nat→AV}{lv:Key→LB}(h:aE c F β ⟨fr,lv⟩ a w) (hl:∀ k,lv' k=lv k∨lv' k=(lv k).un):aE c F β ⟨fr,lv'⟩ a w:=by
 have hsub:∀ k,(lv k).sub (lv' k):=by
  intro k;rcases hl k with e|e <;> rw [e]
  ·exact LB.bl _
  ·exact LB.PV _
 have hlive:∀ k,(lv' k).live=(lv k).live:=by
  intro k;rcases hl k with e|e <;> rw [e]
  exact LB.NP _
 refine h.step (fun _ h=>h) (fun _ _=>rfl) hsub (fun _ _ _=>rfl) (fun _=>aW _) ?_ ?_ (fun b h=>.inl h) (aW _) (fun _ _ _=>rfl)
 ·intro k hK;have hb:=h.bx k;unfold Vw.bx at hb ⊢;rcases hl k with e|e
  ·simp only [e]
   cases ek:lv k with
   | cells own fz T cs=>
    simp only [ek] at hb;obtain⟨arr,b1,b2,b3,b4,b5⟩:=hb;exact⟨arr,b1,b2,fun i p q=>hK.cv (b3 i p q),b4,b5⟩
   | map own es=>
    simp only [ek] at hb;obtain⟨x,y,b1,b2,b3,b4,b5⟩:=hb;exact⟨x,y,b1,b2,fun i p q=>⟨Rd.mono (gm hK.F hK.mem) (b3 i p q).1,hK.kF (b3 i p q).2⟩,b4,b5⟩
   | _=>trivial
  ·simp only [e]
   cases ek:lv k with
   | cells own fz T cs=>
    simp only [ek] at hb;obtain⟨arr,b1,b2,b3,b4,b5⟩:=hb;exact⟨arr,b1,b2,fun i p q=>hK.cv (b3 i p q),b4,DG b5⟩
   | map own es=>
    simp only [ek] at hb;obtain⟨x,y,b1,b2,b3,b4,b5⟩:=hb;exact⟨x,y,b1,b2,fun i p q=>⟨Rd.mono (gm hK.F hK.mem) (b3 i p q).1,hK.kF (b3 i p q).2⟩,b4,DG b5⟩
   | _=>trivial
 ·intro k k' h1 h2 he;rw [hlive] at h1 h2;exact h.inj _ _ h1 h2 he
theorem bP.un(h:bP c o s (au.put ⟨s.fr,aR s.lv us⟩ d x)):bP c o s (au.put ⟨s.fr,aR s.lv (tw us)⟩ d x):=by
 intro F β a w K Q hs hK;refine h F β a w K Q hs fun F' β' a' w' h'=>hK F' β' a' w' ?_;have hl:∀ k,aR s.lv (tw us) k=aR s.lv us k∨aR s.lv (tw us) k=(aR s.lv us k).un:=DK (fun _=>.inl rfl)
 cases d with
 | none=>exact aE.forget h' hl
 | some d=>exact aE.forget h' hl
theorem yI:∀ {us:List (Key × LB)}{lv:Tb LB}{lg:List Key}{k:Tb LB→List Key→cV}{r:cV},Ao us lv lg k=r→Good r→cN (aV lv) →
 ∃ lv' l,k lv' (l++lg)=r∧aV lv'=aR (aV lv) (tw us)∧cN (aV lv')∧jP lv lv' l
 | [],lv,lg,k,r,h,hg,ho=>⟨lv,[],h,rfl,ho,jP.refl _⟩
 | p::us,lv,lg,k,r,h,hg,ho=>by
  have h1:(dw p.1 fun q=>uN p.2 fun b=>eS b.okB (.bad 3 []) (Tb.A9 .hole b (pathOf q) lv fun lv=>Ao us lv (q::lg) k))=r:=h;rw [gZ,zW] at h1;obtain⟨hb,h1⟩:=dj h1 hg.ne;rw [Tb.kN] at h1;have hset:=Ew lv p.1 p.2.un
  have ho1:cN (aV (lv.set .hole p.2.un (pathOf p.1))):=by
   intro j;rw [hset]
   by_cases e:j=p.1
   ·subst e;rw [az];exact hb
   ·rw [aC _ _ e];exact ho j
  obtain⟨lv',l,e1,e2,e3,e4⟩:=yI h1 hg ho1;refine⟨lv',l++[p.1],by simpa using e1,?_,e3,?_⟩
  ·rw [e2,hset];rfl
  ·intro j hj;simp only [ZM,ZW,not_or] at hj;rw [e4 j hj.1,hset,aC _ _ hj.2]
def Ln (d:Option Nat)(x:AV)(fr:Nat→AV):Nat→AV:=match d with|some d=>aD fr d x|none=>fr
theorem rD (d:Option Nat)(x:AV)(fr:Nat→AV)(lv:Key→LB):au.put ⟨fr,lv⟩ d x=⟨Ln d x fr,lv⟩:=by cases d <;> rfl
theorem j9{k:Tb AV→cV}(h:eI d x fr k=r):∃ fr',k fr'=r∧jO fr'=Ln d x (jO fr):=by
 cases d with
 | none=>exact⟨fr,h,rfl⟩
 | some d=>
  have h1:(dY x fun x=>Tb.A9 .undef x (pathOf d) fr k)=r:=h;rw [jc,Tb.kN] at h1;exact⟨_,h1,Ed fr d x⟩
theorem Fq:∀ {us:List (Key × LB)}{nx:Nat}{k:Nat→cV}{r:cV},MF nx us k=r→∃ nx',k nx'=r
 | [],nx,k,r,h=>⟨nx,h⟩
 | p::us,nx,k,r,h=>by
  have h1:eS (Nat.beq p.1 nx) (MF nx us k) (dw nx fun n=>k (Nat.succ n))=r:=h
  cases hb:Nat.beq p.1 nx with
  | false=>rw [hb] at h1;exact Fq (us:=us) h1
  | true=>rw [hb] at h1;have h2:(dw nx fun n=>k (Nat.succ n))=r:=h1
          rw [gZ] at h2;exact⟨_,h2⟩
theorem rz (G:List (List DV))(fr:Tb AV)(lv:Key→LB)(x:Operand):zx G fr x=(au.mk (jO fr) lv).val G x:=by cases x <;> rfl
theorem nW (G:List (List DV))(fr:Tb AV)(lv:Key→LB):∀ (l:List Operand),gG G fr l=l.map ((au.mk (jO fr) lv).val G)
 | []=>rfl
 | x::l=>by
  show zx G fr x::gG G fr l=_;rw [rz G fr lv,nW G fr lv l];rfl
def kg (P:Program)(op:Op)(vals:List AV)(lv:Key→LB)(κ:Nat)(x:AV)(us:List (Key × LB))(rds:List Key):Prop:=
 (∃ vc,aZ P op vals lv κ=some (x,us,rds,vc)∧vc)∨cU P op vals lv κ=some (x,us,rds)
theorem Js{k:AV→List (Key × LB)→List Key→cV}(h:ON P op vals lv nx k=r) (hg:Good r) :
 ∃ x us rds,k x us rds=r∧kg P op vals (aV lv) nx x us rds:=by
 unfold ON at h
 cases e:qY P op vals (aV lv) nx with
 | none=>
  rw [e] at h;obtain⟨q,h1,h2⟩:=dG (x:=cU P op vals (aV lv) nx) h hg.ne;exact⟨_,_,_,h2,.inr h1⟩
 | some q=>
  rw [e] at h;obtain⟨x,us,rds,b⟩:=q;have h':eS b (lT (cU P op vals (aV lv) nx) (.bad 1 [op]) fun r=>k r.1 r.2.1 r.2.2) (k x us rds)=r:=h
  cases b with
  | true=>
   obtain⟨vc,h1,h2⟩:=SJ P _ _ _ _ _ _ _ e;exact⟨x,us,rds,h',.inl ⟨vc,h1,h2⟩⟩
  | false=>
   obtain⟨q,h1,h2⟩:=dG (x:=cU P op vals (aV lv) nx) h' hg.ne;exact⟨_,_,_,h2,.inr h1⟩
theorem kg.Pm(hd:∀ d,o.dst=some d→d<c.n)
 (h:kg c.P o.op (o.op.operands.toList.map (s.val c.G)) s.lv κ x us rds):bP c o s (au.put ⟨s.fr,aR s.lv us⟩ o.dst x):=by
 rcases h with ⟨vc,h1,h2⟩|h1
 ·exact zY hd rfl rfl h1 h2
 ·exact As hd rfl rfl h1
theorem kg.local{lv:Key→LB}(h:kg P op vals lv κ x us rds) (ha:Agree lv lv' us rds):kg P op vals lv' κ x us rds:=by
 rcases h with ⟨vc,h1,h2⟩|h1
 ·exact .inl ⟨vc,nT h1 ha,h2⟩
 ·exact .inr (vg h1 ha)
def ke (P:Program)(G:List (List DV))(call:er):Prop:=∀ f us lv nx lg kr kp r,call f us lv nx lg kr kp=r→Good r→cN (aV lv) →
 (∃ x lv' nx' l,kr x lv' nx' (l++lg)=r∧bO P G f us (aV lv) (.ret x (aV lv'))∧cN (aV lv')∧jP lv lv' l) ∨
 (∃ d lv' nx' l,kp d lv' nx' (l++lg)=r∧bO P G f us (aV lv) (.tq d (aV lv'))∧cN (aV lv')∧jP lv lv' l)
section
variable {P:Program}{G:List (List DV)}
theorem Eo(hc:ke P G call){kr:E2}{kp:Of}
 (h:uZ P G call op cl fo fr lv nx lg kr kp=r) (hg:Good r) (ho:cN (aV lv)) :
 ∃ f fs cs,cj ((SS fr lv).val G fo)=some (f,fs,cs)∧aT P f=true ∧
  ((∃ x lv' nx' l,kr x lv' nx' (l++lg)=r∧bO P G f (fs++cl.args.toList.map ((SS fr lv).val G)++cs) (aV lv) (.ret x (aV lv'))∧cN (aV lv')∧jP lv lv' l) ∨
  (∃ d lv' nx' l,kp d lv' nx' (l++lg)=r∧bO P G f (fs++cl.args.toList.map ((SS fr lv).val G)++cs) (aV lv) (.tq d (aV lv'))∧cN (aV lv')∧jP lv lv' l)):=by
 unfold uZ at h;obtain⟨⟨f,fs,cs⟩,h1,h2⟩:=dG h hg.ne;obtain⟨h3,h4⟩:=dj h2 hg.ne;rw [rz G fr (aV lv)] at h1;rw [nW G fr (aV lv)] at h4;exact⟨f,fs,cs,h1,h3,hc _ _ _ _ _ _ _ _ h4 hg ho⟩
theorem Az(h:uq op=.call cl fo):op=.call cl∧cl.callee=.value fo:=by
 unfold uq at h;split at h
 ·cases h
 ·rename_i cl'
  split at h
  ·rename_i fo' hf;cases h;exact⟨rfl,hf⟩
  ·cases h
 ·cases h
theorem Jz{x:Operand}(h:uq op=.tq x):op=.panic x:=by
 unfold uq at h;split at h
 ·cases h;rfl
 ·split at h <;> cases h
 ·cases h
theorem M1{k:DV→cV}{b:cV}(h:JB x k b=r) (hb:b≠r):∃ t d,x=.c (.d (.iface t d))∧k (.iface t d)=r:=by
 unfold JB at h;split at h
 ·exact⟨_,_,rfl,h⟩
 ·exact absurd h hb
theorem FY{x:Operand}{t:TypeId}{d:DV}(ho:o.op=.panic x) (hx:s.val c.G x=.c (.d (.iface t d))):PK c o s (.iface t d) s:=by
 intro F β a w K Q hs hK;have hv:=hx ▸ hs.val x;obtain⟨hv,_⟩:=hv;obtain⟨u,hu⟩:∃ u,a.eval x=u:=⟨_,rfl⟩
 rw [hu] at hv;have hv':=hv
 cases hv with
 | iface _ u' _ hr=>
  have hrun:(execOp a.eval o).run c.P w=.halt (.panic (.iface t u')) w:=by
   simp [execOp,ho,hu,Instr.panic,goPanic,Sem.run]
  unfold Oper.wp;rw [hrun,Oper.upon_panic];exact hK F β _ a w hs hv'
def fR (P:Program)(G:List (List DV))(ops:Array Oper)(os:List Oper)(s s':au)(e:Ex):Prop:=
 ∀ (c:Ctx) (n:Nat) (Q:Exit→Act→World→Prop),c.P=P→c.G=G→cu c.n os=true→ops.toList.drop n=os →
  (∀ F' β' a' w' ex,aE c F' β' s' a' w'→EC e ex F' w'→Q ex a' w')→∀ F β a w,aE c F β s a w→wpOpsIn (nS none) 0 c.P ops Q (List.range' n os.length) a w
theorem xV(h:ops.toList.drop n=o::os):ops[n]?=some o∧ops.toList.drop (n+1)=os:=by
 constructor
 ·have:(ops.toList.drop n)[0]?=some o:=by rw [h];rfl
  rw [Z0] at this;simpa using this
 ·rw [← Z9,h];rfl
theorem jW(h:cu n (o::os)=true):(∀ d,o.dst=some d→d<n)∧cu n os=true:=by
 simp only [cu,aaE,cy] at h;refine⟨fun d hd=>?_,h.2⟩;have:=h.1;rw [hd] at this;simpa using this
theorem fR.cons{s1:au}{e:Ex}(hw:eC ops o.guard s.fr=some true) (hdf:∀ cl,o.op≠.defer cl)
 (h:∀ c:Ctx,c.P=P→c.G=G→(∀ d,o.dst=some d→d<c.n)→bP c o s s1) (hk:fR P G ops os s1 s' e):fR P G ops (o::os) s s' e:=by
 intro c n Q hP hG hd hdr hQ F β a w hs;obtain⟨ho,hdr'⟩:=xV hdr;obtain⟨hd1,hd2⟩:=jW hd;have ih:=hk c (n+1) Q hP hG hd2 hdr' hQ;simp only [Zn,abA];rw [wpOpsIn_cons];unfold wpOpIn;rw [ho];simp only;rw [ga hs hw];simp only [if_true];exact rI hdf (h c hP hG hd1 F β a w _ Q hs fun F' β' a' w' h'=>ih F' β' a' w' h')
theorem fR.skip{e:Ex}(hw:eC ops o.guard s.fr=some false)
 (hk:fR P G ops os (s.put o.dst .undef) s' e):fR P G ops (o::os) s s' e:=by
 intro c n Q hP hG hd hdr hQ F β a w hs;obtain⟨ho,hdr'⟩:=xV hdr;obtain⟨hd1,hd2⟩:=jW hd;have ih:=hk c (n+1) Q hP hG hd2 hdr' hQ;simp only [Zn,abA];rw [wpOpsIn_cons];unfold wpOpIn;rw [ho];simp only;rw [ga hs hw];simp only [Y2,if_false];exact⟨fun _ _=>trivial,ih F β _ _ (hs.AX hd1 (mU _))⟩
theorem fR.tq{d:DV}(hw:eC ops o.guard s.fr=some true) (hdf:∀ cl,o.op≠.defer cl)
 (h:∀ c:Ctx,c.P=P→c.G=G→PK c o s d s'):fR P G ops (o::os) s s' (.panic d):=by
 intro c n Q hP hG hd hdr hQ F β a w hs;obtain⟨ho,hdr'⟩:=xV hdr;simp only [Zn,abA];rw [wpOpsIn_cons];unfold wpOpIn;rw [ho];simp only;rw [ga hs hw];simp only [if_true];exact rI hdf (h c hP hG F β a w _ Q hs fun F' β' v a' w' h' hv=>hQ F' β' a' w' _ h' ⟨v,rfl,hv⟩)
theorem wL {call:er}(hc:ke P G call) {ops:Array Oper}:∀ {os:List Oper}{fr:Tb AV}{lv:Tb LB}{nx:Nat}{lg:List Key}{k:Q4}{r:cV},
 xZ P G call ops os fr lv nx lg k=r→Good r→cN (aV lv) →
 ∃ e fr' lv' nx' l,k e fr' lv' nx' (l++lg)=r∧cN (aV lv')∧jP lv lv' l∧fR P G ops os (SS fr lv) (SS fr' lv') e
 | [],fr,lv,nx,lg,k,r,h,hg,ho=>by
  refine⟨.normal,fr,lv,nx,[],h,ho,jP.refl _,?_⟩;intro c n Q hP hG hd hdr hQ F β a w hs;exact hQ F β a w .normal hs rfl
 | o::os,fr,lv,nx,lg,k,r,h,hg,ho=>by
  have h0:(lT (eC ops o.guard (jO fr)) (.bad 6 [o.op]) fun b=>
   eS b (eI o.dst .undef fr fun fr=>xZ P G call ops os fr lv nx lg k)
    (Rr.rec (motive:=fun _=>cV)
     (fun x=>JB (zx G fr x) (fun d=>k (.panic d) fr lv nx lg) (.bad 7 [o.op]))
     (fun cl fo=>uZ P G call o.op cl fo fr lv nx lg (fun x lv nx lg=>eI o.dst x fr fun fr=>xZ P G call ops os fr lv nx lg k) (fun d lv nx lg=>k (.panic d) fr lv nx lg))
     (ON P o.op (gG G fr o.op.operands.toList) lv nx fun x us _=>MF nx us fun nx'=>eI o.dst x fr fun fr=>Ao us lv lg fun lv lg=>xZ P G call ops os fr lv nx' lg k)
     (uq o.op)))=r:=h
  obtain⟨b,hw,h1⟩:=dG h0 hg.ne
  cases b with
  | false=>
   have h1':eI o.dst .undef fr (fun fr=>xZ P G call ops os fr lv nx lg k)=r:=h1;obtain⟨fr1,h2,e1⟩:=j9 h1';obtain⟨e,fr',lv',nx',l,q1,q2,q3,q4⟩:=wL hc h2 hg ho;refine⟨e,fr',lv',nx',l,q1,q2,q3,fR.skip hw ?_⟩
   have:(SS fr lv).put o.dst .undef=SS fr1 lv:=by
    show au.put ⟨jO fr,aV lv⟩ o.dst .undef=_;rw [rD,← e1];rfl
   rw [this];exact q4
  | true=>
   cases ek:uq o.op with
   | tq x=>
    rw [ek] at h1;have h2:JB (zx G fr x) (fun d=>k (.panic d) fr lv nx lg) (.bad 7 [o.op])=r:=h1;obtain⟨t,d,e1,e2⟩:=M1 h2 hg.ne;have hop:=Jz ek;refine⟨.panic (.iface t d),fr,lv,nx,[],e2,ho,jP.refl _,fR.tq hw (fun cl h=>by rw [hop] at h;cases h) fun c hP hG=>?_⟩;refine FY hop ?_;rw [hG];rw [rz G fr (aV lv)] at e1;exact e1
   | call cl fo=>
    rw [ek] at h1;obtain⟨hop,hcal⟩:=Az ek;obtain⟨f,fs,cs,c1,c2,c3⟩:=Eo hc h1 hg ho;have hdf:∀ cl',o.op≠.defer cl':=fun cl' h=>by rw [hop] at h;cases h
    rcases c3 with ⟨x,lv1,nx1,l1,d1,d2,d3,d4⟩|⟨d,lv1,nx1,l1,d1,d2,d3,d4⟩
    ·obtain⟨fr1,h2,e1⟩:=j9 d1;obtain⟨e,fr',lv',nx',l,q1,q2,q3,q4⟩:=wL hc h2 hg d3;refine⟨e,fr',lv',nx',l++l1,by rw [YZ];exact q1,q2,d4.trans q3,fR.cons hw hdf (s1:=SS fr1 lv1) (fun c hP hG hd=>?_) q4⟩;have hsim:=bO.Pm (c:=c) (s:=SS fr lv) (o:=o) (cl:=cl) (fo:=fo) (fv:=(SS fr lv).val c.G fo) (f:=f) (fs:=fs) (cs:=cs) (x:=x) (lv':=aV lv1) hd hop hcal rfl (by rw [hG];exact c1) (by rw [hP];exact c2) ho (by rw [hP,hG];exact d2);have:au.put ⟨(SS fr lv).fr,aV lv1⟩ o.dst x=SS fr1 lv1:=by rw [rD];show au.mk (Ln o.dst x (jO fr)) (aV lv1)=_;rw [← e1];rfl
     rw [this] at hsim;exact hsim
    ·refine⟨.panic d,fr,lv1,nx1,l1,d1,d3,d4,fR.tq hw hdf fun c hP hG=>?_⟩;exact bO.Wy (c:=c) (s:=SS fr lv) (o:=o) (cl:=cl) (fo:=fo) (fv:=(SS fr lv).val c.G fo) (f:=f) (fs:=fs) (cs:=cs) (d:=d) (lv':=aV lv1) hop hcal rfl (by rw [hG];exact c1) (by rw [hP];exact c2) ho (by rw [hP,hG];exact d2)
   | plain=>
    rw [ek] at h1;have h1':ON P o.op (gG G fr o.op.operands.toList) lv nx (fun x us _=>MF nx us fun nx'=>eI o.dst x fr fun fr=>Ao us lv lg fun lv lg=>xZ P G call ops os fr lv nx' lg k)=r:=h1;obtain⟨x,us,rds,h2,hdo⟩:=Js h1' hg;have h2':MF nx us (fun nx'=>eI o.dst x fr fun fr=>Ao us lv lg fun lv lg=>xZ P G call ops os fr lv nx' lg k)=r:=h2;obtain⟨nx1,h3⟩:=Fq h2';have h3':eI o.dst x fr (fun fr=>Ao us lv lg fun lv lg=>xZ P G call ops os fr lv nx1 lg k)=r:=h3;obtain⟨fr1,h4,e1⟩:=j9 h3';have h4':Ao us lv lg (fun lv lg=>xZ P G call ops os fr1 lv nx1 lg k)=r:=h4;obtain⟨lv1,l1,h5,e2,e3,e4⟩:=yI h4' hg ho;obtain⟨e,fr',lv',nx',l,q1,q2,q3,q4⟩:=wL hc h5 hg e3
    have hdf:∀ cl',o.op≠.defer cl':=fun cl' h=>by
     rw [h] at hdo;rcases hdo with ⟨vc,g1,_⟩|g1
     ·simp [aZ] at g1
     ·simp [cU] at g1
    refine⟨e,fr',lv',nx',l++l1,by rw [YZ];exact q1,q2,e4.trans q3,fR.cons hw hdf (s1:=SS fr1 lv1) (fun c hP hG hd=>?_) q4⟩
    have hsim:=(kg.Pm (c:=c) (o:=o) (s:=SS fr lv) (κ:=nx) (x:=x) (us:=us) (rds:=rds) hd (by
     rw [hP,hG];rw [nW G fr (aV lv)] at hdo;exact hdo)).un
    have:au.put ⟨(SS fr lv).fr,aR (SS fr lv).lv (tw us)⟩ o.dst x=SS fr1 lv1:=by
     rw [rD];show au.mk (Ln o.dst x (jO fr)) (aR (aV lv) (tw us))=_;rw [← e1,← e2];rfl
    rw [this] at hsim;exact hsim
end
noncomputable def iV (P:Program)(f:Rec):Fw:=⟨⟨f.x,tw f.us,f.rds⟩,aV f.lv,f.all,Dj P f⟩
theorem Py(h:b.okB=true):b.un=b:=by
 cases b with
 | cells own fz T cs=>simp only [LB.okB,cy,Zd] at h;simp only [LB.un,h.1]
 | map own es=>simp only [LB.okB,Zd] at h;simp only [LB.un,h]
 | _=>rfl
theorem oX:tw us=[]↔us=[]:=by cases us <;> simp [tw]
theorem DO {lv:Key→LB}(h:Agree lv lv' (tw us) rds):Agree lv lv' us rds:=
 ⟨h.1,fun p hp=>h.2 (p.1,p.2.un) (abM (f:=fun p:Key × LB=>(p.1,p.2.un)) hp)⟩
theorem Sc {lv':Tb LB}(h:jP lv lv' l) (ho:cN (aV lv')):aR (aV lv) (tw (l.map fun q=>(q,aV lv' q)))=aV lv':=by
 have key:∀ (m:List Key) (f:Key→LB),(∀ k,k ∉ m→f k=aV lv' k)→aR f (tw (m.map fun q=>(q,aV lv' q)))=aV lv':=by
  intro m
  induction m with
  | nil=>intro f hf;funext k;exact hf k (by simp)
  | cons q m ih=>
   intro f hf;show aR (aD f q (aV lv' q).un) _=_;refine ih _ fun k hk=>?_
   by_cases e:k=q
   ·subst e;rw [az,Py (ho k)]
   ·rw [aC _ _ e];exact hf k (by simp [e,hk])
 exact key l _ fun k hk=>(h k hk).symm
section
variable {P:Program}{G:List (List DV)}
theorem lS.skip(hd:∀ d,o.dst=some d→d<c.n) (hw:eC ops o.guard s0.fr=some false):lS c none ops o s0 ⟨.undef,[],[]⟩ ok:=by
 intro s h1 _ F β a w K Q h hK;rw [ga h ((mO h1).trans hw)];simp only [Y2,if_false];exact hK F β _ _ (h.AX hd (mU _))
theorem lS.qb(hw:eC ops o.guard s0.fr=some true) (hdf:∀ cl,o.op≠.defer cl)
 (hs:∀ s:au,(∀ x∈o.op.operands.toList,s.val c.G x=s0.val c.G x)→ok s.lv→bP c o s (e.app o.dst s)):lS c none ops o s0 e ok:=by
 intro s h1 h2 F β a w K Q h hK;rw [ga h ((mO h1).trans hw)];simp only [if_true];exact rI hdf (hs s (xY h1) h2 F β a w K Q h hK)
theorem Dr {f:Rec}{k:Key}(h:Dj P f k b=true):∃ vc,aZ P f.op f.vals (aD (aV f.lv) k b) f.nx=some (f.x,[],[k],vc)∧vc:=by
 unfold Dj at h;split at h
 ·rename_i x k' he
  simp only [cy] at h;have e1:=AV.beq_eq h.1;have e2:=Y9 h.2;subst e1;subst e2;exact SJ P _ _ _ _ _ _ _ he
 ·cases h
theorem KU {P:Program}{lv:Key→LB}(h:kg P op vals lv κ x us rds):∀ cl,op≠.defer cl:=by
 intro cl e;rw [e] at h;rcases h with ⟨vc,g1,_⟩|g1
 ·simp [aZ] at g1
 ·simp [cU] at g1
theorem lS.plain(hP:c.P=P) (hG:c.G=G)(hd:∀ d,o.dst=some d→d<c.n) (hw:eC ops o.guard (jO fr)=some true)
 (h:kg P o.op (gG G fr o.op.operands.toList) (aV lv) nx x us rds) :
 lS c none ops o (SS fr lv) (iV P ⟨x,us,rds,false,lv,o.op,gG G fr o.op.operands.toList,nx⟩).e (iV P ⟨x,us,rds,false,lv,o.op,gG G fr o.op.operands.toList,nx⟩).ok:=by
 refine lS.qb hw (KU h) fun s hv hok=>?_
 have hvals:gG G fr o.op.operands.toList=o.op.operands.toList.map (s.val c.G):=by
  rw [nW G fr (aV lv),hG];exact Zj fun y hy=>by rw [← hG];exact (hv y hy).symm
 have fin:∀ us',us'=us→kg P o.op (o.op.operands.toList.map (s.val c.G)) s.lv nx x us' rds→bP c o s (Fx.app ⟨x,tw us,rds⟩ o.dst s):=by
  intro us' e h';subst e;exact (kg.Pm hd (by rw [hP];exact h')).un
 rw [hvals] at h;rcases hok with ⟨h1,_⟩|⟨_,h1|⟨h1,k,h2,h3⟩⟩
 ·cases h1
 ·exact fin us rfl (h.local (DO h1))
 ·have hu:us=[]:=oX.1 h1;obtain⟨vc,g1,g2⟩:=Dr h3;simp only at g1;have h2':rds=[k]:=h2;rw [hvals] at g1;have g3:=nT (lv':=s.lv) g1 ⟨fun j hj=>by rw [List.mem_singleton.1 hj,az],fun p hp=>by cases hp⟩;exact fin [] hu.symm (.inl ⟨vc,by rw [h2'];exact g3,g2⟩)
theorem lS.N2(hP:c.P=P) (hG:c.G=G){lv':Tb LB}{f:FuncId}{fs cs:List AV}(hd:∀ d,o.dst=some d→d<c.n) (hw:eC ops o.guard (jO fr)=some true)
 (hop:o.op=.call cl) (hcal:cl.callee=.value fo) (ht:cj ((SS fr lv).val G fo)=some (f,fs,cs)) (hf:aT P f=true) (ho:cN (aV lv)) (ho':cN (aV lv')) (hl:jP lv lv' l)
 (hc:bO P G f (fs++cl.args.toList.map ((SS fr lv).val G)++cs) (aV lv) (.ret x (aV lv'))) :
 lS c none ops o (SS fr lv) (iV P ⟨x,l.map fun q=>(q,aV lv' q),[],true,lv,o.op,[],nx⟩).e (iV P ⟨x,l.map fun q=>(q,aV lv' q),[],true,lv,o.op,[],nx⟩).ok:=by
 refine lS.qb hw (fun cl' h=>by rw [hop] at h;cases h) fun s hv hok=>?_;rcases hok with ⟨_,h1⟩|⟨h1,_⟩
 ·have h1':s.lv=aV lv:=h1;have hfo:fo∈o.op.operands.toList:=by rw [hop];simp [Op.operands,Call.operands,hcal]
  have hargs:cl.args.toList.map (s.val c.G)=cl.args.toList.map ((SS fr lv).val c.G):=Zj fun y hy=>hv y (by rw [hop];simp only [Op.operands,Call.operands,hcal];simp at hy ⊢;exact .inr hy)
  have hsim:=bO.Pm (c:=c) (s:=s) (o:=o) (cl:=cl) (fo:=fo) (fv:=s.val c.G fo) (f:=f) (fs:=fs) (cs:=cs) (x:=x) (lv':=aV lv') hd hop hcal rfl (by rw [hv fo hfo,hG];exact ht) (by rw [hP];exact hf) (by rw [h1'];exact ho) (by rw [hP,hargs,hG,h1'];exact hc)
  have:Fx.app ⟨x,tw (l.map fun q=>(q,aV lv' q)),[]⟩ o.dst s=au.put ⟨s.fr,aV lv'⟩ o.dst x:=by
   unfold Fx.app;simp only;rw [h1',Sc hl ho']
  show bP c o s (Fx.app ⟨x,tw (l.map fun q=>(q,aV lv' q)),[]⟩ o.dst s);rw [this];exact hsim
 ·cases h1
theorem lS.JJ(h:cO c none ops o s0 ⟨x,us,rds⟩) (hok:∀ lv,ok lv→Agree s0.lv lv us rds) :
 lS c none ops o s0 ⟨x,tw us,rds⟩ ok:=by
 intro s h1 h2 F β a w K Q hs hK;refine h s h1 (hok _ h2) F β a w K Q hs fun F' β' a' w' h'=>hK F' β' a' w' ?_;have hl:∀ k,aR s.lv (tw us) k=aR s.lv us k∨aR s.lv (tw us) k=(aR s.lv us k).un:=DK (fun _=>.inl rfl);unfold Fx.app at h' ⊢;simp only at h' ⊢
 cases hd:o.dst with
 | none=>rw [hd] at h';exact aE.forget h' hl
 | some d=>rw [hd] at h';exact aE.forget h' hl
theorem DU:∀ {σ:List LB}{i:Nat}{lv:Tb LB}{k:Tb LB→cV}{r:cV},Jq σ i lv k=r →
 ∃ lv',k lv'=r∧∀ j:Nat,aV lv' j=if i≤j∧j<i+σ.length then (σ.getD (j - i) .hole).un else aV lv j
 | [],i,lv,k,r,h=>⟨lv,h,fun j=>by rw [if_neg (by simp only [aaX];omega)]⟩
 | b::σ,i,lv,k,r,h=>by
  have h1:(uN b fun x=>Tb.A9 .hole x (pathOf i) lv fun lv=>Jq σ (Nat.succ i) lv k)=r:=h;rw [zW,Tb.kN] at h1;obtain⟨lv',e1,e2⟩:=DU h1;refine⟨lv',e1,fun j=>?_⟩;rw [e2 j,Ew]
  by_cases hj:j=i
  ·subst hj;rw [if_neg (by omega),if_pos (by simp),az];simp
  ·rw [aC _ _ hj]
   by_cases h2:Nat.succ i≤j∧j<Nat.succ i+σ.length
   ·rw [if_pos h2,if_pos (by simp;omega)];congr 1;have:j - i=(j - Nat.succ i)+1:=by omega
    rw [this];rfl
   ·rw [if_neg h2,if_neg (by simp;omega)]
theorem Good.done:Good (.done x lv nx lg):=fun _ _ h=>by cases h
theorem AS(h:b.pass=true):b.un=b∧b.okB=true:=by
 cases b with
 | cells own fz T cs=>
  simp only [LB.pass,cy,Zd] at h;simp [LB.un,LB.okB,h.1,h.2]
 | map own es=>simp only [LB.pass,Zd] at h;simp [LB.un,LB.okB,h]
 | dead=>cases h
 | _=>simp [LB.un,LB.okB]
theorem I6(hc:ke P G call){k:AV→List (Key × LB)→List Key→Nat→cV}
 (h:tX P G call op cl fo fr lv nx k=r) (hg:Good r) :
 ∃ f fs cs x us rds nx',cj ((SS fr lv).val G fo)=some (f,fs,cs)∧aT P f=true∧k x us rds nx'=r ∧
  ∀ c:Ctx,c.P=P→c.G=G→bM c f (fs++cl.args.toList.map ((SS fr lv).val G)++cs) (aV lv) x us rds:=by
 unfold tX at h;obtain⟨⟨f,fs,cs⟩,h1,h2⟩:=dG h hg.ne;obtain⟨h3,h4⟩:=dj h2 hg.ne;obtain⟨q,h5,h6⟩:=dG h4 hg.ne;obtain⟨l0,h7,h8⟩:=DU h6;simp only at h7 h5;rw [rz G fr (aV lv)] at h1;rw [nW G fr (aV lv)] at h5 h7
 cases hin:call f q.us l0 1000 [] .done .tq with
 | bad n o=>rw [hin] at h7;exact absurd h7 hg.ne
 | tq d lv' nx' lg'=>rw [hin] at h7;exact absurd h7 hg.ne
 | done x lv' n' lg=>
  rw [hin] at h7;have h9:JT lv nx (fs++cl.args.toList.map ((SS fr lv).val G)++cs) q x lv' n' lg k=r:=h7;unfold JT at h9;obtain⟨h10,h11⟩:=dj h9 hg.ne;rw [cy,cy] at h10;obtain⟨⟨g1,g2⟩,g3⟩:=h10
  have hpass:∀ b∈q.σ,b.pass=true:=by
   unfold xK at g2;simp only [cy,YU] at g2;exact g2.1.1.1.1.1.2
  have hlen:q.σ.length≤1000:=by
   unfold xK at g2;simp only [cy] at g2;exact Ze g2.2
  have hl0:aV l0=bn q.σ []:=by
   refine funext fun (j:Nat)=>?_;rw [h8 j];unfold bn
   by_cases hj:j<1000
   ·rw [if_pos hj]
    by_cases hj2:j<q.σ.length
    ·rw [if_pos ⟨Y4 _,by omega⟩,Nat.sub_zero,cZ hj2];exact (AS (hpass _ (cq hj2))).1
    ·rw [if_neg (by omega),c8 hj2];show Tb.get LB.hole .leaf _=_;exact Tb.dZ _ _
   ·rw [if_neg hj,if_neg (by omega)];show Tb.get LB.hole .leaf _=_;rw [Tb.dZ];simp
  have hall0:cN (aV l0):=by
   intro (j:Nat);rw [hl0];unfold bn;split
   ·by_cases hj2:j<q.σ.length
    ·rw [cZ hj2];exact (AS (hpass _ (cq hj2))).2
    ·rw [c8 hj2];rfl
   ·simp [LB.okB]
  have hcall:=hc f q.us l0 1000 [] .done .tq _ hin Good.done hall0;rcases hcall with ⟨x',lv'',nx'',l,e1,e2,e3,e4⟩|⟨d,lv'',nx'',l,e1,_⟩
  ·simp only [cV.done.injEq,Zr] at e1;obtain⟨rfl,rfl,rfl,rfl⟩:=e1
   have hlv':aV lv''=bn ((jd 0 q.σ.length).map (aV lv'')) ((jd 1000 (nx'' - 1000)).map (aV lv'')):=by
    refine funext fun (j:Nat)=>?_;have hcl:j ∉ l→aV lv'' j=bn q.σ [] j:=fun hj=>by rw [e4 j hj,hl0]
    have hlog:j∈l→j<q.σ.length∨(1000≤j∧j<nx''):=by
     intro hj;have:=List.all_eq_true.1 g1 j hj;simp only [Zp,cy,Nat.blt] at this;rcases this with h|⟨h,h'⟩
     ·exact .inl (Ze h)
     ·exact .inr ⟨Ze h,Ze h'⟩
    unfold bn
    by_cases hj:j<1000
    ·rw [if_pos hj]
     by_cases hj2:j<q.σ.length
     ·rw [cZ (by simpa [kD] using hj2)];simp [qO]
     ·rw [c8 (by simpa [kD] using hj2)];have:j ∉ l:=fun hm=>by rcases hlog hm with h|h <;> omega
      rw [hcl this];unfold bn;rw [if_pos hj,c8 hj2]
    ·rw [if_neg hj]
     by_cases hj2:j - 1000<nx'' - 1000
     ·rw [cZ (by simpa [kD] using hj2)];simp only [sr,qO];have:1000+(j - 1000)=j:=by omega
      rw [this]
     ·rw [c8 (by simpa [kD] using hj2)];have:j ∉ l:=fun hm=>by rcases hlog hm with h|h <;> omega
      rw [hcl this];unfold bn;rw [if_neg hj];simp
   have hS:aG P G f q.us q.σ (.ret x' ((jd 0 q.σ.length).map (aV lv'')) ((jd 1000 (nx'' - 1000)).map (aV lv''))):=by
    intro F β w vs hS hvl hv;rw [hl0] at e2;have:=e2 F β w vs hS hvl hv;rw [hlv'] at this;exact this
   refine⟨f,fs,cs,_,_,_,_,h1,h3,h11,fun c hP hG=>?_⟩;exact bM.pass h5 g2 g3 (by rw [hP,hG];exact hS)
  ·cases e1
end
end Go.Am
