/- Helpers: an abstract machine for Go functions, and walks of functions of the program. -/
import Derived.Test.YtanjfmmjpnjkbaaGreatDoorSn01
import Derived.KernelRfl
import Derived.Scope
import Derived.RangeFuncLeaves
import Derived.RangeFuncRecord

set_option linter.all false
set_option maxHeartbeats 8000000
set_option maxRecDepth 100000
namespace Go.Am
variable {x y v z:AV}{T T' S ty:TypeId}{κ t i j id u:Nat}{f:FuncId}{s:aB}{a1 a2 a3 vc a4 a5 a6:Prop}{xs xs' args:List AV}{c:Ctx}{Q:Ex->aB->Nat->Prop}{lv:Key->LB}{o:Op}{n:Int}{r:Option Nat}{K:AV->List (Key×LB)->List Key->Nat->Prop}{G:List (List DV)}{rds:List Key}{w:Bool}{fn:Func}{os:List Oper}{ts:Array TypeId}{P:Program}{a b:Unit->Prop}{α:Type}{ops:Array Oper}{d:Option Tmp}{gd:List (Option Tmp)}{fr:Nat->AV}{k k':IntKind}{op:BinOp}{l h:Operand}{pos:String}{af:Array Edge}{parts:Array (Nat×Operand)}
abbrev adR:=@Nat.pow_succ
abbrev ad9:=@Nat.mul_le_mul_left
abbrev afh:=@List.take_append_drop
abbrev adT:=@List.drop_eq_getElem_cons
abbrev aeH:=@List.drop_eq_nil_of_le
abbrev agx:=@List.reverse_reverse
abbrev aeh:=@Nat.mul_pos
abbrev agy:=@Nat.add_mul_mod_self_left
abbrev afS:=@Nat.div_lt_self
abbrev ae9:=@Nat.lt_of_le_of_lt
abbrev agz:=@Nat.pow_lt_pow_iff_right
abbrev ad5:=@Nat.mul_assoc
abbrev aey:=@Nat.mul_add
abbrev aeU:=@List.length_singleton
abbrev aeu:=@List.drop_zero
abbrev agO:=@BitVec.toNat_ofNat
abbrev agP:=@BitVec.ofInt_natCast
abbrev agQ:=@List.set_append_left
abbrev agR:=@List.replicate_succ'
abbrev agA:=@Nat.add_mul_div_left
abbrev aeY:=@Nat.div_eq_of_lt
abbrev aea:=@Nat.mul_comm
abbrev aei:=@List.append_nil
abbrev aeK:=@Nat.mul_le_mul
abbrev agS:=@Nat.lt_of_mul_lt_mul_right
abbrev agb:=@Nat.le_div_iff_mul_le
abbrev aeL:=@Classical.byContradiction
abbrev afD:=@Nat.div_lt_iff_lt_mul
abbrev agc:=@Nat.sub_zero
abbrev ag2:=@List.mem_of_find?_eq_some
abbrev ae2:=@Rat.add_zero
abbrev afT:=@Rat.natCast_mul
abbrev afE:=@Rat.pow_succ
abbrev afU:=@Rat.mul_comm
abbrev agd:=@Nat.succ_mul
abbrev age:=@Nat.mul_add_div
abbrev afF:=@Nat.div_mul_le_self
abbrev agf:=@Rat.zero_add
abbrev afy:=@Nat.div_add_mod
abbrev afz:=@Rat.mul_one
abbrev agB:=@Rat.mkRat_self
abbrev agT:=@Int.natAbs_natCast
abbrev aeZ:=@Nat.pos_of_ne_zero
abbrev aeN:=@Nat.mul_ne_zero
abbrev ae0:=@Nat.dvd_refl
abbrev ae1:=@Nat.le_mul_of_pos_right
abbrev aeE:=@Nat.ne_of_gt
abbrev aeb:=@Nat.pow_pos
abbrev agU:=@Nat.dvd_mul_right
abbrev afa:=@Nat.pow_add
abbrev ael:=@Nat.pow_le_pow_right
abbrev afi:=@List.take_add_one
abbrev agh:=@List.reverse_cons
def n5(r:Option cG)(κ:Nat)(K:AV->List (Key×LB)->List Key->Nat->Prop):Prop:=
 match r with
 |some (x,us,rds,vc)=>vc/\K x us rds (match us with|[]=>κ|_=>κ+1)
 |none=>False
@[simp ↓]theorem abh:n5 (some (x,[],rds,vc)) κ K=(vc/\K x [] rds κ):=rfl
@[simp ↓]theorem Zk{p:Key×LB}{us:List (Key×LB)}:n5 (some (x,p::us,rds,vc)) κ K=(vc/\K x (p::us) rds (κ+1)):=rfl
@[simp ↓]theorem ZK:n5 none κ K=False:=rfl
@[congr]theorem X1{r r':Option cG}(h:∀_:Unit,r=r'):n5 r κ K=n5 r' κ K:=by rw[h ()]
def nS(w:Option Bool)(a b:Unit->Prop):Prop:=match w with|some true=>a ()|some false=>b ()|none=>False
@[simp ↓]theorem Yp:nS (some true) a b=a ():=rfl
@[simp ↓]theorem aaf:nS (some false) a b=b ():=rfl
@[congr]theorem Tn{w w':Option Bool}(h:∀_:Unit,w=w'):nS w a b=nS w' a b:=by rw[h ()]
def oS(o:Option Tmp)(f:Tmp->Prop):Prop:=match o with|some t=>f t|none=>False
@[simp ↓]theorem Yo{t:Tmp}{f:Tmp->Prop}:oS (some t) f=f t:=rfl
@[congr]theorem Rc{o o':Option Tmp}{f:Tmp->Prop}(h:∀_:Unit,o=o'):oS o f=oS o' f:=by rw[h ()]
def oU(c:Ctx)(ops:Array Oper)(os:List Oper)(s:aB)(κ:Nat)(K:aB->Nat->Prop):Prop:=gr c ops os s κ [] λs κ _=>K s κ
theorem mW{c:Ctx}{ops:Array Oper}{K:aB->Nat->Prop}:∀{os:List Oper}{s:aB}{κ:Nat}{acc acc':List Fx},gr c ops os s κ acc (λs κ _=>K s κ)=gr c ops os s κ acc' (λs κ _=>K s κ)
 |[],s,κ,_,_=>rfl
 |o::os,s,κ,acc,acc'=>by
  simp only[gr];split
  ·congr 1;funext x us rds κ';exact mW
  ·exact mW
  ·rfl
section
variable {c:Ctx}{ops:Array Oper}{s:aB}{κ:Nat}{d:Option Tmp}{ty:TypeId}{pos:String}{af:Array Edge}{K:AV->List (Key×LB)->List Key->Nat->Prop}
@[simp ↓]theorem Xy{K:aB->Nat->Prop}:oU c ops [] s κ K=K s κ:=rfl
@[simp ↓]theorem GW{K:aB->Nat->Prop}:oU c ops (⟨d,o,ty,pos,af,none⟩::os) s κ K =
 gD c ⟨d,o,ty,pos,af,none⟩ s κ λx us _ κ'=>oU c ops os (aB.put ⟨s.fr,bg s.lv us⟩ d x) κ' K:=by
 simp only[oU,gr,dN];congr 1;funext x us rds κ';exact mW
def ue(x:AV)(want:Bool):Option Bool:=
 match x with
 |.c (.d (.bool b))=>some (b == want)
 |.undef=>some false
 |_=>none
@[simp ↓]theorem Fm{K:aB->Nat->Prop}:oU c ops (⟨d,o,ty,pos,af,some (j,w)⟩::os) s κ K =
 oS ((ops[j]?).bind (·.dst)) λt=>nS (ue (s.fr t) w)
  (λ_=>gD c ⟨d,o,ty,pos,af,some (j,w)⟩ s κ λx us _ κ'=>oU c ops os (aB.put ⟨s.fr,bg s.lv us⟩ d x) κ' K)
  (λ_=>oU c ops os (s.put d .undef) κ K):=by
 simp only[oU,gr,dN,oS,nS]
 cases hj:(ops[j]?).bind (·.dst)with
 |none=>rfl
 |some t=>
  simp only[ue]
  cases e:s.fr t with
  |c x=>
   cases x with
   |d x=>cases x with
    |bool b=>
     simp only
     cases b<;>cases w<;>simp only[BEq.rfl,Bool.beq_eq_decide_eq,decide_false,reduceCtorEq]<;>first|(congr 1;funext x us rds κ';exact mW)|exact mW
    |_=>rfl
   |_=>rfl
  |undef=>simp only;exact mW
  |_=>rfl
@[simp]theorem XZ:bg lv []=lv:=rfl
@[simp]theorem ZC{p:Key×LB}:bg lv [p]=az lv p.1 p.2:=rfl
theorem Vj{f:Nat->α}{k:Nat}{x:α}:az f k x t=if t=k then x else f t:=rfl
@[simp]theorem YJ{s:aB}:s.put none x=s:=rfl
@[simp]theorem ZS:aB.put ⟨fr,lv⟩ (some t) x=⟨az fr t x,lv⟩:=rfl
@[simp]theorem aaM:s.val G (.tmp t)=s.fr t:=rfl
@[simp]theorem X5{v:Value}:s.val G (.const v)=uu v:=rfl
@[simp]theorem Y8:s.val G (.func f)=.c (.d (.func (.func f) [] [])):=rfl
@[simp]theorem WT{g:Nat}:s.val G (.global g)=match G[g]? with|some cs=>.c (.d (.ptr cs))|none=>.junk:=rfl
@[simp]theorem YF{b:Bool}:uu (.bool b)=.c (.d (.bool b)):=rfl
theorem s8(h:k.wrap n=n):uu (.int k n)=.c (.d (.int k n)):=by simp only[uu,Hs,h,if_true]
@[simp]theorem aau(h1:-9223372036854775808<=n)(h2:n<=9223372036854775807):uu (.int .i64 n)=.c (.d (.int .i64 n)):=s8 (cj ⟨h1,h2⟩)
@[simp]theorem aaI(h1:-2147483648<=n)(h2:n<=2147483647):uu (.int .i32 n)=.c (.d (.int .i32 n)):=s8 (cj ⟨h1,h2⟩)
@[simp]theorem acJ(h1:0<=n)(h2:n<=255):uu (.int .u8 n)=.c (.d (.int .u8 n)):=s8 (cj ⟨h1,h2⟩)
@[simp]theorem aaG(h1:0<=n)(h2:n<=4294967295):uu (.int .u32 n)=.c (.d (.int .u32 n)):=s8 (cj ⟨h1,h2⟩)
@[simp]theorem aan(h1:0<=n)(h2:n<=18446744073709551615):uu (.int .u64 n)=.c (.d (.int .u64 n)):=s8 (cj ⟨h1,h2⟩)
@[simp]theorem aaS{b:ByteArray}(h:b.data.toList.length<=9223372036854775807):uu (.string b)=.c (.d (.str b.data.toList)):=by simp only[uu,Hs,h,if_true]
@[simp]theorem aac:uu (.pointer none)=.c (.d .nilp):=rfl
@[simp]theorem X6:uu (.slice none 0 0)=.c (.d .nilsl):=rfl
@[simp]theorem Zz:uu .nilIface=.c (.d .nilIface):=rfl
@[simp]theorem X8:uu .nilFunc=.c (.d .nilFunc):=rfl
@[simp]theorem Yt:uu (.map none)=.c (.d .nilmap):=rfl
@[simp]theorem aaJ{a:Array Value}:uu (.agg a)=if a.toList.all (·.oneCell')then .agg (a.toList.map Hs)else .junk:=rfl
variable {g:Option (Nat×Bool)}
@[simp ↓]theorem Fs{x:Operand}:gD c ⟨d,.move x,ty,pos,af,g⟩ s κ K=K (s.val c.G x) [] [] κ:=by simp[gD,dA,Op.operands]
@[simp ↓]theorem yD{x:Operand}:gD c ⟨d,.assign x,ty,pos,af,g⟩ s κ K=K (s.val c.G x) [] [] κ:=by simp[gD,dA,Op.operands]
def Gn(t x y:AV):Option cG:=match t with|.c (.d (.bool true))=>some (x,[],[],True)|.c (.d (.bool false))=>some (y,[],[],True)|_=>none
@[simp]theorem aaL:Gn (.c (.d (.bool true))) x y=some (x,[],[],True):=rfl
@[simp]theorem aa0:Gn (.c (.d (.bool false))) x y=some (y,[],[],True):=rfl
@[simp ↓]theorem YR{t x y:Operand}:gD c ⟨d,.pick t x y,ty,pos,af,g⟩ s κ K=n5 (Gn (s.val c.G t) (s.val c.G x) (s.val c.G y)) κ K:=by rfl
def Dt(P:Program)(T:TypeId)(lv:Key->LB)(κ:Key):Option cG:=match bI P T,lv κ with|some xs,.hole=>some (.c (.ptr κ 0),[(κ,.cells true false T xs)],[],True)|_,_=>none
@[simp ↓]theorem XO:gD c ⟨d,.alloc T,ty,pos,af,g⟩ s κ K=n5 (Dt c.P T s.lv κ) κ K:=by rfl
def So(T:TypeId)(x:AV)(lv:Key->LB)(κ:Key):Option cG:=match x.cells,lv κ with|some xs,.hole=>some (.c (.ptr κ 0),[(κ,.cells true false T xs)],[],True)|_,_=>none
@[simp ↓]theorem aaw{x:Operand}:gD c ⟨d,.box T x,ty,pos,af,g⟩ s κ K=n5 (So T (s.val c.G x) s.lv κ) κ K:=by rfl
@[simp ↓]theorem YH{x:Operand}:gD c ⟨d,.load T x,ty,pos,af,g⟩ s κ K=n5 (aF c.P T s.lv (s.val c.G x)) κ K:=by rfl
@[simp ↓]theorem Xn{x y:Operand}:gD c ⟨d,.store T x y,ty,pos,af,g⟩ s κ K=n5 (aK c.P T s.lv (s.val c.G x) (s.val c.G y)) κ K:=by rfl
@[simp ↓]theorem aay{x:Operand}:gD c ⟨d,.nilCheck x,ty,pos,af,g⟩ s κ K=n5 (gV s.lv (s.val c.G x)) κ K:=by rfl
@[simp ↓]theorem aap{x y:Operand}:gD c ⟨d,.binOp op T x y T',ty,pos,af,g⟩ s κ K=n5 (aO c.P op T (s.val c.G x) (s.val c.G y)) κ K:=by rfl
def MP(op:UnOp)(x:AV):Option cG:=match x with|.c (.d d)=>(match unA op d with|some d'=>some (.c (.d d'),[],[],True)|none=>none)|_=>none
@[simp ↓]theorem ab7{op:UnOp}{x:Operand}:gD c ⟨d,.unOp op T x,ty,pos,af,g⟩ s κ K=n5 (MP op (s.val c.G x)) κ K:=by rfl
@[simp]theorem aag{b:Bool}:MP .not (.c (.d (.bool b)))=some (.c (.d (.bool !b)),[],[],True):=rfl
@[simp]theorem YN:MP .neg (.c (.d (.int k n)))=some (.c (.d (.int k (k.wrap (0-n)))),[],[],True):=rfl
def J5(P:Program)(S T:TypeId)(x:AV):Option cG:=match x with
 |.c (.d (.int _ n))=>match ru P S,ru P T with|some _,some k'=>some (.c (.d (.int k' (k'.wrap n))),[],[],True)|_,_=>none
 |.c (.d (.str l))=>if cP P S&&cP P T then some (.c (.d (.str l)),[],[],True)else none
 |_=>none
@[simp ↓]theorem Z0{x:Operand}:gD c ⟨d,.convert S T x,ty,pos,af,g⟩ s κ K=n5 (J5 c.P S T (s.val c.G x)) κ K:=by rfl
@[simp ↓]theorem Q1{f:Nat}{x:Operand}:gD c ⟨d,.fieldAddr T x f,ty,pos,af,g⟩ s κ K=n5 (bW c.P T f s.lv (s.val c.G x)) κ K:=by rfl
def Dc(P:Program)(T:TypeId)(f:Nat)(x:AV):Option cG:=match x with|.agg cs=>(match jn P T f with|some (off,ft)=>(match ou P ft cs off with|some y=>some (y,[],[],True)|none=>none)|none=>none)|_=>none
@[simp ↓]theorem Xm{f:Nat}{x:Operand}:gD c ⟨d,.field T x f,ty,pos,af,g⟩ s κ K=n5 (Dc c.P T f (s.val c.G x)) κ K:=by rfl
@[simp ↓]theorem QV{x i:Operand}:gD c ⟨d,.indexAddr T x i,ty,pos,af,g⟩ s κ K=n5 (aq c.P T s.lv (s.val c.G x) (s.val c.G i)) κ K:=by rfl
@[simp ↓]theorem XI{x i:Operand}:gD c ⟨d,.index T x i,ty,pos,af,g⟩ s κ K=n5 (gh c.P T (s.val c.G x) (s.val c.G i)) κ K:=by rfl
def ux(i:Nat)(x:AV):Option cG:=match x with|.tup l=>(match l[i]? with|some (.tup _)=>none|some y=>some (y,[],[],True)|none=>none)|_=>none
@[simp ↓]theorem abk{x:Operand}:gD c ⟨d,.extract x i,ty,pos,af,g⟩ s κ K=n5 (ux i (s.val c.G x)) κ K:=by rfl
def Sx(P:Program)(T:TypeId)(x:AV):Option cG:=match oh x with|some d=>if P.concrete T then some (.c (.d (.iface T d)),[],[],True)else none|none=>none
@[simp ↓]theorem aa9{x:Operand}:gD c ⟨d,.makeInterface T x,ty,pos,af,g⟩ s κ K=n5 (Sx c.P T (s.val c.G x)) κ K:=by rfl
@[simp ↓]theorem aa6{x y:Operand}:gD c ⟨d,.makeSlice T x y,ty,pos,af,g⟩ s κ K=n5 (gN c.P T s.lv κ (s.val c.G x) (s.val c.G y)) κ K:=by rfl
@[simp ↓]theorem Ut{x:Operand}:gD c ⟨d,.slice T x none none none,ty,pos,af,g⟩ s κ K=n5 (bG c.P T s.lv (s.val c.G x) none none) κ K:=by rfl
@[simp ↓]theorem Uo{x:Operand}:gD c ⟨d,.slice T x (some l) none none,ty,pos,af,g⟩ s κ K=n5 (bG c.P T s.lv (s.val c.G x) (some (s.val c.G l)) none) κ K:=by rfl
@[simp ↓]theorem UO{x:Operand}:gD c ⟨d,.slice T x none (some h) none,ty,pos,af,g⟩ s κ K=n5 (bG c.P T s.lv (s.val c.G x) none (some (s.val c.G h))) κ K:=by rfl
@[simp ↓]theorem Uq{x:Operand}:gD c ⟨d,.slice T x (some l) (some h) none,ty,pos,af,g⟩ s κ K=n5 (bG c.P T s.lv (s.val c.G x) (some (s.val c.G l)) (some (s.val c.G h))) κ K:=by rfl
@[simp ↓]theorem aaP{x:Operand}:gD c ⟨d,.call { callee:=.builtin .len,args:=#[x],argTypes:=#[T] },ty,pos,af,g⟩ s κ K=n5 (match jA c.P T s.lv (s.val c.G x)with|some n=>some (.c (.d (.int .i64 n)),[],keyOf (s.val c.G x),oo (s.val c.G x) n)|none=>none) κ K:=by
 rfl
@[simp ↓]theorem U9{x y:Operand}:gD c ⟨d,.call { callee:=.builtin .append,args:=#[x,y],argTypes:=#[T,T'] },ty,pos,af,g⟩ s κ K=n5 (if T=T' then eo c.P T s.lv κ (s.val c.G x) (s.val c.G y)else none) κ K:=by
 rfl
def Gh(c:Ctx)(tgt:Option (FuncId×List AV×List AV))(xs:List AV)(lv:Key->LB)(K:AV->List (Key×LB)->List Key->Nat->Prop):Prop:=
 match tgt with
 |some (f,fs,cs)=>aJ c.P f=true/\∃x us rds κ',b7 c f (fs++xs++cs) lv x us rds/\K x us rds κ'
 |none=>False
@[simp ↓]theorem YG{fo:Operand}{xs:Array Operand}:gD c ⟨d,.call { callee:=.value fo,args:=xs,argTypes:=ts },ty,pos,af,g⟩ s κ K=Gh c (jW (s.val c.G fo)) (xs.toList.map (s.val c.G)) s.lv K:=rfl
def ag(c:Ctx)(f:FuncId)(xs:List AV)(lv:Key->LB)(K:AV->List (Key×LB)->List Key->Nat->Prop):Prop:=∃x us rds κ',b7 c f xs lv x us rds/\K x us rds κ'
@[congr]theorem To(h:∀_:Unit,xs=xs'):ag c f xs lv K=ag c f xs' lv K:=by rw[h ()]
@[simp]theorem WS:Gh c (some (f,[],[])) xs lv K=(aJ c.P f=true/\ag c f xs lv K):=by simp[Gh,ag]
@[simp]theorem RM:jW (.c (.d (.func (.func f) [] [])))=some (f,[],[]):=rfl
@[congr]theorem Uc{t t':Option (FuncId×List AV×List AV)}(h:∀_:Unit,t=t')(h':∀_:Unit,xs=xs'):Gh c t xs lv K=Gh c t' xs' lv K:=by simp_all
end
theorem AW.Sh(hd:dM c.n ops.toList=true)(h:oU c ops ops.toList s κ λs' κ'=>Q .normal s' κ'):AW c r (.region id ops false) s κ Q:=
 AW.region hd h
@[simp ↓]theorem aaC{K:aB->Nat->Prop}:uF K Q .normal s κ=K s κ:=rfl
@[simp ↓]theorem aa1{K:aB->Nat->Prop}:uF K Q (.exit i) s κ=Q (.exit i) s κ:=rfl
@[simp ↓]theorem aaz{K:aB->Nat->Prop}:uF K Q .ret s κ=Q .ret s κ:=rfl
@[simp ↓]theorem Zl:vQ i Q .normal s κ=Q .normal s κ:=rfl
@[simp ↓]theorem X9:vQ i Q (.exit j) s κ=if j=i then Q .normal s κ else Q (.exit j) s κ:=rfl
@[simp ↓]theorem Yg:vQ i Q .ret s κ=Q .ret s κ:=rfl
@[simp]theorem aao{x:DV}:oo (.c (.d x)) n=True:=rfl
@[simp]theorem aaV{b:Bool}:ue (.c (.d (.bool b))) w=some (b == w):=rfl
@[simp]theorem aak:ue .undef w=some false:=rfl
def Le(c:Ctx)(s s2:aB):Prop:=∃g,fD c s s2 g
theorem Le.slots(l:List (Nat×AV))(hl:∀p∈l,p.2.bX=true/\fr p.1=p.2)(hm:∀k own es,lv k=.map own es->∀p∈es,∀l,p.2≠.tup l):
 Le c ⟨fr,lv⟩ ⟨aU l,lv⟩:=⟨_,fD.slots (s:=⟨fr,lv⟩) hl hm⟩
theorem aaa{x y:Code}(h:∀K:aB->Nat->Prop,(∀s κ,AW c r y s κ Q->K s κ)->AW c r x s κ (uF K Q)):AW c r (.seq x y) s κ Q:=
 AW.seq' (h _ λ_ _ h=>h)
theorem JR[DecidableEq α](m n:α):(m == n)=decide (m=n):=by
 by_cases h:m=n<;>simp[h]
section
variable {P:Program}{T:TypeId}{k:IntKind}{m n:Int}
@[simp]theorem adb:aO P .add T (.c (.d (.int k m))) (.c (.d (.int k n)))=some (.c (.d (.int k (k.wrap (m+n)))),[],[],True):=by simp[aO,lQ,fF]
@[simp]theorem ab9:aO P .sub T (.c (.d (.int k m))) (.c (.d (.int k n)))=some (.c (.d (.int k (k.wrap (m-n)))),[],[],True):=by simp[aO,lQ,fF]
@[simp]theorem ab2:aO P .mul T (.c (.d (.int k m))) (.c (.d (.int k n)))=some (.c (.d (.int k (k.wrap (m*n)))),[],[],True):=by simp[aO,lQ,fF]
@[simp]theorem ab6:aO P .quo T (.c (.d (.int k m))) (.c (.d (.int k n)))=some (.c (.d (.int k (k.wrap (m.tdiv n)))),[],[],n≠0):=by simp[aO,lQ,fF]
@[simp]theorem ack:aO P .rem T (.c (.d (.int k m))) (.c (.d (.int k n)))=some (.c (.d (.int k (m.tmod n))),[],[],n≠0):=by simp[aO,lQ,fF]
theorem W6:aO P .and T (.c (.d (.int k m))) (.c (.d (.int k n)))=some (.c (.d (.int k (k.wrap (BitVec.ofInt k.bits m&&&BitVec.ofInt k.bits n).toNat))),[],[],True):=by simp[aO,lQ,fF]
theorem Zm:aO P .or T (.c (.d (.int k m))) (.c (.d (.int k n)))=some (.c (.d (.int k (k.wrap (BitVec.ofInt k.bits m |||BitVec.ofInt k.bits n).toNat))),[],[],True):=by simp[aO,lQ,fF]
@[simp]theorem abX:aO P .eql T (.c (.d (.int k m))) (.c (.d (.int k n)))=some (.c (.d (.bool (decide (m=n)))),[],[],True):=by simp[aO,lQ,fF,JR]
@[simp]theorem aco:aO P .neq T (.c (.d (.int k m))) (.c (.d (.int k n)))=some (.c (.d (.bool (!decide (m=n)))),[],[],True):=by simp[aO,lQ,fF,bne,JR]
@[simp]theorem abQ:aO P .lss T (.c (.d (.int k m))) (.c (.d (.int k n)))=some (.c (.d (.bool (decide (m<n)))),[],[],True):=by simp[aO,lQ,fF]
@[simp]theorem acW:aO P .leq T (.c (.d (.int k m))) (.c (.d (.int k n)))=some (.c (.d (.bool (decide (m<=n)))),[],[],True):=by simp[aO,lQ,fF]
@[simp]theorem acv:aO P .gtr T (.c (.d (.int k m))) (.c (.d (.int k n)))=some (.c (.d (.bool (decide (n<m)))),[],[],True):=by simp[aO,lQ,fF]
@[simp]theorem acg:aO P .geq T (.c (.d (.int k m))) (.c (.d (.int k n)))=some (.c (.d (.bool (decide (n<=m)))),[],[],True):=by simp[aO,lQ,fF]
@[simp]theorem ac3:aO P .shl T (.c (.d (.int k m))) (.c (.d (.int k' n)))=some (.c (.d (.int k (k.wrap (m*2^(min n.toNat k.bits))))),[],[],0<=n):=by rfl
@[simp]theorem acN:aO P .shr T (.c (.d (.int k m))) (.c (.d (.int k' n)))=some (.c (.d (.int k (m.fdiv (2^(min n.toNat k.bits))))),[],[],0<=n):=by rfl
end
theorem aI.lJ{σ:List LB}{o:Out}{φ:Prop}(i:Nat)(hi:i<args.length)(hφ:∀(V:Vw) v,V.av v args[i]->φ)(k:φ->aI P G f args σ o):aI P G f args σ o:=
 λF β w vs hS hl hv=>k (hφ _ _ (hv i hi (by omega))) F β w vs hS hl hv
def W(l:List Nat):List (List DV):=l.map λ(x:Nat)=>[DV.int .u32 (x:Int)]
def uM(l:List Nat):AV:=.c (.d (.sl (W l)))
@[simp]theorem Y2(l:List Nat):(W l).length=l.length:=by simp[W]
@[simp]theorem ad4:W []=[]:=rfl
@[simp]theorem adp(l m:List Nat):W (l++m)=W l++W m:=by simp[W]
@[simp]theorem abJ(x:Nat)(l:List Nat):W (x::l)=[DV.int .u32 (x:Int)]::W l:=rfl
theorem Yc(l:List Nat):∀e∈W l,e.length=1:=by
 intro e he;simp only[W,ae7]at he;grind
theorem MY{V:Vw}{v:Value}{l:List Nat}(h:V.av v (uM l)):l.length<=9223372036854775807/\∀x∈l,x<=4294967295:=by
 have h1:=Vw.HW h;rw[Y2]at h1;refine⟨h1,λx hx=>?_⟩;obtain⟨h,_⟩:=h;generalize hW:W l=es at h
 cases h with
 |sl0 _=>cases l with|nil=>cases hx|cons a l=>cases hW
 |sl b off cap sz _ vs hl hc hb hm ho hr=>
  subst hW;obtain⟨i,hi,rfl⟩:=List.mem_iff_getElem.1 hx;have h2:=hr i (by simp_all) 0 (by simp[W]);simp only[W,ab5,aeQ]at h2
  have h3:IntKind.u32.wrap (l[i]:Int)=(l[i]:Int):=by
   generalize vs i 0=u at h2
   cases h2;assumption
  rw[oG]at h3;simp only[og]at h3;omega
structure As where
 dst:Option Tmp
 op:Op
 g:Option (Option Tmp×Bool)
def Em(gd:List (Option Tmp))(o:Oper):As:=⟨o.dst,o.op,match o.guard with|none=>none|some (j,w)=>some ((gd[j]?).join,w)⟩
def kD(gd:List (Option Tmp)):List Oper->List As
 |[]=>[]
 |o::os=>Em gd o::kD gd os
def jc(ops:Array Oper):List As:=kD (ops.toList.map (·.dst)) ops.toList
def aZ(c:Ctx):List As->aB->Nat->(aB->Nat->Prop)->Prop
 |[],s,κ,K=>K s κ
 |p::ps,s,κ,K=>match p.g with
  |none=>gD c ⟨none,p.op,0, "",#[],none⟩ s κ λx us _ κ'=>aZ c ps (aB.put ⟨s.fr,bg s.lv us⟩ p.dst x) κ' K
  |some (t,w)=>oS t λt=>nS (ue (s.fr t) w)
   (λ_=>gD c ⟨none,p.op,0, "",#[],none⟩ s κ λx us _ κ'=>aZ c ps (aB.put ⟨s.fr,bg s.lv us⟩ p.dst x) κ' K)
   (λ_=>aZ c ps (s.put p.dst .undef) κ K)
theorem Pu:((ops.toList.map (·.dst))[j]?).join=(ops[j]?).bind (·.dst):=by
 grind
theorem m8{c:Ctx}{ops:Array Oper}{K:aB->Nat->Prop}:∀{os:List Oper}{s:aB}{κ:Nat},aZ c (kD (ops.toList.map (·.dst)) os) s κ K=oU c ops os s κ K
 |[],s,κ=>rfl
 | ⟨d,o,ty,pos,af,none⟩::os,s,κ=>by
  rw[GW];simp only[kD,Em,aZ];rw[Gb (o:=⟨none,o,0, "",#[],none⟩) (o':=⟨d,o,ty,pos,af,none⟩) rfl];congr 1;funext x us rds κ';exact m8
 | ⟨d,o,ty,pos,af,some (j,w)⟩::os,s,κ=>by
  rw[Fm];simp only[kD,Em,aZ,Pu];congr 1;funext t;congr 1
  ·funext _;rw[Gb (o:=⟨none,o,0, "",#[],none⟩) (o':=⟨d,o,ty,pos,af,some (j,w)⟩) rfl];congr 1;funext x us rds κ';exact m8
  ·funext _;exact m8
theorem acB(hd:dM c.n ops.toList=true)(h:aZ c (jc ops) s κ λs' κ'=>Q .normal s' κ'):AW c r (.region id ops false) s κ Q:=
 AW.Sh hd (by rw[<-m8];exact h)
section
variable {c:Ctx}{s:aB}{κ:Nat}{K:aB->Nat->Prop}
@[simp ↓]theorem XU:aZ c [] s κ K=K s κ:=rfl
theorem iL{ps:List As}:aZ c (⟨d,o,none⟩::ps) s κ K =
 gD c ⟨none,o,0, "",#[],none⟩ s κ λx us _ κ'=>aZ c ps (aB.put ⟨s.fr,bg s.lv us⟩ d x) κ' K:=rfl
theorem Po{l:List Oper}:jc l.toArray=kD (l.map (·.dst)) l:=rfl
theorem Lu:kD gd []=[]:=rfl
theorem GF:kD gd (⟨d,o,ty,pos,af,none⟩::os)=⟨d,o,none⟩::kD gd os:=rfl
theorem Ip:kD gd (⟨d,o,ty,pos,af,some (j,w)⟩::os)=⟨d,o,some ((gd[j]?).join,w)⟩::kD gd os:=rfl
end
section
variable {c:Ctx}{s:aB}{κ:Nat}{K:aB->Nat->Prop}{d:Option Tmp}{o:Op}{ps:List As}
end
theorem kW(h:x.pure=true):wm lv x=[]:=by
 cases x with
 |c x=>cases x<;>simp_all [AV.pure,AV.kX,CV.pure,wm,jb]
 |agg cs=>
  simp only[AV.pure,AV.kX,adV]at h;simp only[wm,List.flatMap_eq_nil_iff];intro x hx;have:=h x hx
  cases x<;>simp_all [CV.pure,jb]
 |_=>rfl
theorem b7.pure(hc:aa c.P c.G f xs x)(hx:x.pure=true)(hxs:∀a∈xs,a.pure=true)(kh:Key)(hh:lv kh=.hole):b7 c f xs lv x [] [kh]:=by
 have key:=b7.gen (c:=c) (f:=f) (as:=xs) (lv:=lv) xs [] [] [] kh [] [] [] x false [kh] (λz hz=>by cases hz) (by simp) (by simp) (λz hz=>by cases hz) (by simp) (λz hz=>by cases hz) rfl rfl rfl (by simp)
  (λi h=>absurd h (aft i)) (λk hk=>by cases hk) hh (λb hb=>by cases hb) (λb hb=>by cases hb) (λh=>by cases h) rfl
  (λi p q=>.inl ⟨AV.iI (hxs _ (aT q)),(AV.cV (hxs _ (aT q)) _).symm⟩) (λa ha k hk=>by rw[kW (hxs a ha)]at hk;cases hk) (by simp) hc
 rw[AV.cV hx]at key;exact key
theorem ag.pure(κ:Nat)(kh:Key)(hc:aa c.P c.G f xs x)(hx:x.pure=true)(hxs:∀a∈xs,a.pure=true)(hh:lv kh=.hole)
 (hK:K x [] [kh] κ):ag c f xs lv K:=⟨x,[],[kh],κ,b7.pure hc hx hxs kh hh,hK⟩
theorem ag.Ya{us:List AV}(κ:Nat)(kh:Key)(k:Key)(T:TypeId)(cs:List CV)(rds:List Key)
 (hc:aa c.P c.G f us x) (hx:x.pure=true) (hk:lv k=.cells true false T cs) (hh:lv kh=.hole) (hkh:kh≠k) (hlen:us.length=xs.length)
 (hxs:∀i (h:i<xs.length) (h':i<us.length),(us[i].pure=true/\xs[i]=us[i])\/eZ (az lv k (.cells true true T cs)) xs[i]=some (us[i],[k]))
 (hrd:∀a∈xs,∀j∈wm (az lv k (.cells true true T cs)) a,j∈rds\/j=k) (hrh:kh∈rds)
 (hK:K x [(k,.cells true true T cs)] rds κ):ag c f xs lv K:=by
 have key:=b7.gen (c:=c) (f:=f) (as:=xs) (lv:=lv) us [(k,T,cs)] [] [] kh [] [] [] x false rds (λz hz=>by grind) (by simp) (by simp) (λz hz=>by simp) (by simp) (λz hz=>by grind) rfl rfl rfl (by simp)
  (λi h=>absurd h (aft i)) (λk hk=>by cases hk) hh (λb hb=>by cases hb) (λb hb=>by cases hb) (λh=>by cases h) hlen
  (λi p q=>?_) (λa ha j hj=>?_) hrh hc
 ·rw[AV.cV hx]at key;exact⟨x,_,rds,κ,key,hK⟩
 ·rcases hxs i p q with⟨h1,h2⟩|h1
  ·exact .inl ⟨AV.iI h1,by rw[AV.cV h1];exact h2⟩
  ·refine .inr ⟨[k],h1,λj hj=>?_⟩;simp only[afe]at hj;subst hj;exact⟨true,T,cs,by simp[fM,bg,aA]⟩
 ·rcases hrd a ha j hj with h|h
  ·grind
  grind
def cX(c:Ctx)(ps:List As)(d:Option Tmp)(s:aB)(κ:Nat)(K:aB->Nat->Prop)(r:Option cG):Prop:=
 n5 r κ λx us _ κ'=>aZ c ps (aB.put ⟨s.fr,bg s.lv us⟩ d x) κ' K
def G3(c:Ctx)(o:Op)(ps:List As)(d:Option Tmp)(s:aB)(κ:Nat)(K:aB->Nat->Prop)(w:Option Bool):Prop:=
 match w with
 |some true=>aZ c (⟨d,o,none⟩::ps) s κ K
 |some false=>aZ c ps (s.put d .undef) κ K
 |none=>False
def gH(c:Ctx)(f:FuncId)(xs:List AV)(ps:List As)(d:Option Tmp)(s:aB)(κ:Nat)(K:aB->Nat->Prop):Prop:=
 ag c f xs s.lv λx us _ κ'=>aZ c ps (aB.put ⟨s.fr,bg s.lv us⟩ d x) κ' K
def Of(c:Ctx)(tgt:Option (FuncId×List AV×List AV))(xs:List AV)(ps:List As)(d:Option Tmp)(s:aB)(κ:Nat)(K:aB->Nat->Prop):Prop:=
 match tgt with
 |some (f,fs,cs)=>aJ c.P f=true/\gH c f (fs++xs++cs) ps d s κ K
 |none=>False
attribute [simp] Po Lu GF Ip Vj
@[simp]theorem Uy:aU [] t=.junk:=rfl
@[simp]theorem RW{p:Nat×AV}{l:List (Nat×AV)}:aU (p::l) t=if t=p.1 then p.2 else aU l t:=rfl
section
variable {c:Ctx}{ps:List As}{d:Option Tmp}{s:aB}{κ:Nat}{K:aB->Nat->Prop}{T:TypeId}{x y z:Operand}
@[simp]theorem X0:cX c ps d s κ K (some (v,[],rds,vc))=(vc/\aZ c ps (s.put d v) κ K):=propext ⟨id,id⟩
@[simp]theorem XM{p:Key×LB}:cX c ps d s κ K (some (v,[p],rds,vc))=(vc/\aZ c ps (aB.put ⟨s.fr,az s.lv p.1 p.2⟩ d v) (κ+1) K):=propext ⟨id,id⟩
@[simp]theorem XX{p q:Key×LB}:cX c ps d s κ K (some (v,[p,q],rds,vc))=(vc/\aZ c ps (aB.put ⟨s.fr,az (az s.lv p.1 p.2) q.1 q.2⟩ d v) (κ+1) K):=propext ⟨id,id⟩
@[simp]theorem YB:G3 c o ps d s κ K (some true)=aZ c (⟨d,o,none⟩::ps) s κ K:=propext ⟨id,id⟩
@[simp]theorem YW:G3 c o ps d s κ K (some false)=aZ c ps (s.put d .undef) κ K:=propext ⟨id,id⟩
@[simp]theorem Xc:Of c (some (f,[],[])) xs ps d s κ K=(aJ c.P f=true/\gH c f xs ps d s κ K):=by simp[Of]
@[simp]theorem Yh{t:Tmp}:aZ c (⟨d,o,some (some t,w)⟩::ps) s κ K=G3 c o ps d s κ K (ue (s.fr t) w):=propext ⟨id,id⟩
@[simp]theorem aaT:aZ c (⟨d,.move x,none⟩::ps) s κ K=aZ c ps (s.put d (s.val c.G x)) κ K:=by rw[iL,Fs];rfl
@[simp]theorem XC:aZ c (⟨d,.assign x,none⟩::ps) s κ K=aZ c ps (s.put d (s.val c.G x)) κ K:=by rw[iL,yD];rfl
@[simp]theorem abj:aZ c (⟨d,.pick x y z,none⟩::ps) s κ K=cX c ps d s κ K (Gn (s.val c.G x) (s.val c.G y) (s.val c.G z)):=by rfl
@[simp]theorem Zt:aZ c (⟨d,.alloc T,none⟩::ps) s κ K=cX c ps d s κ K (Dt c.P T s.lv κ):=by rfl
@[simp]theorem Yl{f:Nat}:aZ c (⟨d,.field T x f,none⟩::ps) s κ K=cX c ps d s κ K (Dc c.P T f (s.val c.G x)):=by rfl
@[simp]theorem RH:aZ c (⟨d,.indexAddr T x y,none⟩::ps) s κ K=cX c ps d s κ K (aq c.P T s.lv (s.val c.G x) (s.val c.G y)):=by rfl
@[simp]theorem Y9:aZ c (⟨d,.index T x y,none⟩::ps) s κ K=cX c ps d s κ K (gh c.P T (s.val c.G x) (s.val c.G y)):=by rfl
@[simp]theorem acs:aZ c (⟨d,.extract x i,none⟩::ps) s κ K=cX c ps d s κ K (ux i (s.val c.G x)):=by rfl
@[simp]theorem ac2:aZ c (⟨d,.makeInterface T x,none⟩::ps) s κ K=cX c ps d s κ K (Sx c.P T (s.val c.G x)):=by rfl
@[simp]theorem ach:aZ c (⟨d,.makeSlice T x y,none⟩::ps) s κ K=cX c ps d s κ K (gN c.P T s.lv κ (s.val c.G x) (s.val c.G y)):=by rfl
@[simp]theorem V4:aZ c (⟨d,.slice T x none none none,none⟩::ps) s κ K=cX c ps d s κ K (bG c.P T s.lv (s.val c.G x) none none):=by rfl
@[simp]theorem V5:aZ c (⟨d,.slice T x (some y) none none,none⟩::ps) s κ K=cX c ps d s κ K (bG c.P T s.lv (s.val c.G x) (some (s.val c.G y)) none):=by rfl
@[simp]theorem VV:aZ c (⟨d,.slice T x none (some y) none,none⟩::ps) s κ K=cX c ps d s κ K (bG c.P T s.lv (s.val c.G x) none (some (s.val c.G y))):=by rfl
@[simp]theorem VK:aZ c (⟨d,.slice T x (some y) (some z) none,none⟩::ps) s κ K=cX c ps d s κ K (bG c.P T s.lv (s.val c.G x) (some (s.val c.G y)) (some (s.val c.G z))):=by rfl
def fX(P:Program)(T:TypeId)(lv:Key->LB)(x:AV):Option cG:=match jA P T lv x with|some n=>some (.c (.d (.int .i64 n)),[],keyOf x,oo x n)|none=>none
@[simp]theorem acZ:aZ c (⟨d,.call { callee:=.builtin .len,args:=#[x],argTypes:=#[T] },none⟩::ps) s κ K=cX c ps d s κ K (fX c.P T s.lv (s.val c.G x)):=by rfl
@[simp]theorem X7:aZ c (⟨d,.call { callee:=.builtin .append,args:=#[x,y],argTypes:=#[T,T'] },none⟩::ps) s κ K=cX c ps d s κ K (if T=T' then eo c.P T s.lv κ (s.val c.G x) (s.val c.G y)else none):=by rfl
@[simp]theorem aaq{xs:Array Operand}:aZ c (⟨d,.call { callee:=.value x,args:=xs,argTypes:=ts },none⟩::ps) s κ K=Of c (jW (s.val c.G x)) (xs.toList.map (s.val c.G)) ps d s κ K:=by
 rfl
@[simp]theorem abZ:aZ c (⟨d,.binOp op T x y T',none⟩::ps) s κ K=cX c ps d s κ K (aO c.P op T (s.val c.G x) (s.val c.G y)):=by rfl
@[simp]theorem adP{op:UnOp}:aZ c (⟨d,.unOp op T x,none⟩::ps) s κ K=cX c ps d s κ K (MP op (s.val c.G x)):=by rfl
@[simp]theorem abt:aZ c (⟨d,.load T x,none⟩::ps) s κ K=cX c ps d s κ K (aF c.P T s.lv (s.val c.G x)):=by rfl
@[simp]theorem Y7:aZ c (⟨d,.store T x y,none⟩::ps) s κ K=cX c ps d s κ K (aK c.P T s.lv (s.val c.G x) (s.val c.G y)):=by rfl
@[simp]theorem acw:aZ c (⟨d,.box T x,none⟩::ps) s κ K=cX c ps d s κ K (So T (s.val c.G x) s.lv κ):=by rfl
@[simp]theorem acS:aZ c (⟨d,.nilCheck x,none⟩::ps) s κ K=cX c ps d s κ K (gV s.lv (s.val c.G x)):=by rfl
@[simp]theorem aa5:aZ c (⟨d,.convert S T x,none⟩::ps) s κ K=cX c ps d s κ K (J5 c.P S T (s.val c.G x)):=by rfl
@[simp]theorem SX{f:Nat}:aZ c (⟨d,.fieldAddr T x f,none⟩::ps) s κ K=cX c ps d s κ K (bW c.P T f s.lv (s.val c.G x)):=by rfl
def eS(P:Program)(T:TypeId)(ixs:List Nat)(vals:List AV):Option cG:=match bI P T,tJ P T with
 |some zs,some place=>if ixs.length=vals.length then(match kE place zs (ixs.zip vals)with|some cs=>some (.agg cs,[],[],True)|none=>none)else none
 |_,_=>none
@[simp]theorem ZH:aZ c (⟨d,.build T parts,none⟩::ps) s κ K=cX c ps d s κ K (eS c.P T (parts.toList.map (·.1)) (parts.toList.map λp=>s.val c.G p.2)):=by
 rw[iL];simp only[gD,dA,Op.operands,cX,n5,eS,aed,ab0,afJ];rfl
@[simp]theorem Q6{n:Nat}:aZ c (⟨d,.buildSlice T n parts,none⟩::ps) s κ K=cX c ps d s κ K (ak c.P T n (parts.toList.map (·.1)) s.lv κ (parts.toList.map λp=>s.val c.G p.2)):=by
 rw[iL];simp only[gD,dA,Op.operands,cX,n5,aed];rfl
@[simp]theorem aaN:aZ c (⟨d,.call { callee:=.builtin .copy,args:=#[x,y],argTypes:=#[T,T'] },none⟩::ps) s κ K=cX c ps d s κ K (iw c.P T s.lv (s.val c.G x) (s.val c.G y)):=by
 rfl
@[simp]theorem aby{xs:Array Operand}:aZ c (⟨d,.call { callee:=.builtin .max,args:=xs,argTypes:=ts },none⟩::ps) s κ K=cX c ps d s κ K (match dF (xs.toList.map (s.val c.G))with
 |some (k,n::l)=>some (.c (.d (.int k (l.foldl (λa b=>if b > a then b else a) n))),[],[],True)
 |_=>none):=by
 rw[iL];simp only[gD,dA,lC,Op.operands,Call.operands,cX,n5,af7];rfl
@[simp]theorem abL{xs:Array Operand}:aZ c (⟨d,.call { callee:=.builtin .min,args:=xs,argTypes:=ts },none⟩::ps) s κ K=cX c ps d s κ K (match dF (xs.toList.map (s.val c.G))with
 |some (k,n::l)=>some (.c (.d (.int k (l.foldl (λa b=>if b<a then b else a) n))),[],[],True)
 |_=>none):=by
 rw[iL];simp only[gD,dA,lC,Op.operands,Call.operands,cX,n5,af7];rfl
end
section
variable {P:Program}{T:TypeId}{lv:Key->LB}{es:List (List DV)}{cs:List DV}{k:IntKind}{n:Int}{κ:Key}{off len sz:Nat}{lo hi:Option AV}{bs:List UInt8}
@[simp]theorem adO:aq P T lv (.c (.d (.sl es))) (.c (.d (.int k n)))=(match eW P T with
 |some (_,sz)=>some (.c (.d (.ptr (es.getD n.toNat []))),[],[],0<=n/\n<es.length/\(es.getD n.toNat []).length=sz)
 |none=>none):=rfl
@[simp]theorem acy:aq P T lv (.c (.aH κ off len sz)) (.c (.d (.int k n)))=(match lv κ,eW P T with
 |.cells ..,some (_,sz')=>if sz=sz' then some (.c (.ptr κ (off+n.toNat*sz)),[],[κ],0<=n/\n<len)else none
 |_,_=>none):=rfl
@[simp]theorem adv:aq P T lv (.c (.d (.ptr cs))) (.c (.d (.int k n)))=(match Ag P T with
 |some (len,_,sz)=>some (.c (.d (.ptr (cs.drop (n.toNat*sz)))),[],[],0<=n/\n<len/\n.toNat*sz<=cs.length)
 |none=>none):=rfl
@[simp]theorem acR:aq P T lv (.c (.ptr κ off)) (.c (.d (.int k n)))=(match lv κ,Ag P T with
 |.cells ..,some (len,_,sz)=>some (.c (.ptr κ (off+n.toNat*sz)),[],[κ],0<=n/\n<len)
 |_,_=>none):=rfl
@[simp]theorem acL:bG P T lv (.c (.d (.str bs))) lo hi=if cP P T then(match ec lo 0,ec hi bs.length with
 |some l,some h=>some (.c (.d (.str ((bs.take h.toNat).drop l.toNat))),[],[],0<=l/\l<=h/\h<=bs.length)
 |_,_=>none)else none:=rfl
@[simp]theorem adM:bG P T lv (.c (.d (.sl es))) lo hi=(match eW P T with
 |some (_,sz)=>match ec lo 0,ec hi es.length with
  |some l,some h=>some (.c (.d (.sl ((es.take h.toNat).drop l.toNat))),[],[],0<=l/\l<=h/\h<=es.length/\∀e∈es,e.length=sz)
  |_,_=>none
 |none=>none):=rfl
@[simp]theorem acC:bG P T lv (.c (.d .nilsl)) lo hi=(match eW P T with
 |some _=>match ec lo 0,ec hi 0 with
  |some l,some h=>some (.c (.d .nilsl),[],[],l=0/\h=0)
  |_,_=>none
 |none=>none):=rfl
@[simp]theorem acI:bG P T lv (.c (.aH κ off len sz)) lo hi=(match lv κ,eW P T with
 |.cells ..,some (_,sz')=>if sz=sz' then(match ec lo 0,ec hi len with
  |some l,some h=>some (.c (.aH κ (off+l.toNat*sz) (h.toNat-l.toNat) sz),[],[κ],0<=l/\l<=h/\h<=len/\(l<h\/l=0))
  |_,_=>none)else none
 |_,_=>none):=rfl
end
attribute [simp] aF aK gV bW gh ec gN eo ak Dt So Dc J5 Sx ou AV.cells
@[simp]theorem XE{x:CV}{r:List CV}(h:eF P T=some false):gA P T (x::r)=some (.c x):=by simp[gA,h]
@[simp]theorem XG{cs:List CV}(h:eF P T=some true):gA P T cs=if jf P T<=cs.length then some (.agg (cs.take (jf P T)))else none:=by simp[gA,h]
theorem aN.tmp(hr:fn.results=#[.tmp t])(kh:Key)(hx:s.fr t=x)(hp:x.pure=true)(hh:s.lv kh=.hole)(hn:x.bZ=true):aN c fn x .ret s κ:=by
 refine⟨[(t,x)],kh,by grind,hh,?_⟩;rw[hr];simp[eE,kZ,mN,aU]
theorem aN.YL(hr:fn.results=#[.tmp t,.tmp u])(kh:Key)(hx:s.fr t=x)(hy:s.fr u=y)(hp:x.pure=true)(hq:y.pure=true)(hh:s.lv kh=.hole)(hn:x.bZ=true)(hm:y.bZ=true)(htu:t≠u):aN c fn (.tup [x,y]) .ret s κ:=by
 refine⟨[(t,x),(u,y)],kh,by grind,hh,?_⟩;rw[hr];have:¬u=t:=λh=>htu h.symm
 simp[eE,kZ,mN,aU,this,hn,hm]
theorem abr{x:Code}(st:α->aB)(kk:Nat)(I:α->Prop)(μ:α->Nat)(a0:α)(hs:Le c s (st a0))(h0:I a0)
 (hr:∀a,I a->AW c r x (st a) kk (uF (λs' _=>∃a',Le c s' (st a')/\I a'/\μ a'<μ a) Q)):AW c r (.loop x) s κ Q:=by
 have key:∀n a,I a->μ a<=n->∀F β ac w,aD c F β (st a) ac w->Code.roundsIn (sX r) 0 c.P x (Post c Q) (n+1) ac w:=by
  intro n
  induction n with
  |zero=>
   intro a hI hn F β ac w hs;rw[roundsIn_succ];refine wpIn_mono (hr a hI F β ac w hs) λe a' w' hp=>?_;obtain⟨e',s',κ',F',β',hq,hs',he⟩:=hp
   cases e' with
   |normal=>simp_all
   |exit id=>cases he;exact⟨.exit id,s',κ',F',β',hq,hs',rfl⟩
   |goto l=>cases he;exact⟨.goto l,s',κ',F',β',hq,hs',rfl⟩
   |ret=>cases he;exact⟨.ret,s',κ',F',β',hq,hs',rfl⟩
   |panic d=>obtain⟨v,rfl,hv⟩:=he;exact⟨.panic d,s',κ',F',β',hq,hs',v,rfl,hv⟩
  |succ n ih=>
   intro a hI hn F β ac w hs;rw[roundsIn_succ];refine wpIn_mono (hr a hI F β ac w hs) λe a' w' hp=>?_;obtain⟨e',s',κ',F',β',hq,hs',he⟩:=hp
   cases e' with
   |normal=>
    cases he
    obtain⟨a2,⟨g,h1⟩,h2,h3⟩:=hq;exact ih a2 h2 (by omega) F' _ a' w' (hs'.coarse h1)
   |exit id=>cases he;exact⟨.exit id,s',κ',F',β',hq,hs',rfl⟩
   |goto l=>cases he;exact⟨.goto l,s',κ',F',β',hq,hs',rfl⟩
   |ret=>cases he;exact⟨.ret,s',κ',F',β',hq,hs',rfl⟩
   |panic d=>obtain⟨v,rfl,hv⟩:=he;exact⟨.panic d,s',κ',F',β',hq,hs',v,rfl,hv⟩
 obtain⟨g,hg⟩:=hs;refine AW.coarse (κ2:=0) hg λF β ac w hst=>?_;exact wpIn_loop_rounds _ (key (μ a0) a0 h0 (bh _) F β ac w hst)
@[simp]theorem aam(h:x.bZ=true):ux 0 (.tup [x,y])=some (x,[],[],True):=by
 cases x<;>first|rfl|cases h
@[simp]theorem abb(h:y.bZ=true):ux 1 (.tup [x,y])=some (y,[],[],True):=by
 cases y<;>first|rfl|cases h
@[simp]theorem abq(h:x.bZ=true):ux 0 (.tup [x,y,z])=some (x,[],[],True):=by
 cases x<;>first|rfl|cases h
@[simp]theorem aaK(h:y.bZ=true):ux 1 (.tup [x,y,z])=some (y,[],[],True):=by
 cases y<;>first|rfl|cases h
@[simp]theorem aaD(h:z.bZ=true):ux 2 (.tup [x,y,z])=some (z,[],[],True):=by
 cases z<;>first|rfl|cases h
@[simp]theorem abm{x:CV}:(AV.c x).bZ=true:=by cases x<;>rfl
@[simp]theorem Xt{x:List CV}:(AV.agg x).bZ=true:=by cases x<;>rfl
theorem ag.p(κ:Nat)(kh:Key)(hc:aa c.P c.G f xs x)(hK:K x [] [kh] κ)(hx:x.pure=true:=by first|(simp;done)|rfl)(hxs:∀a∈xs,a.pure=true:=by simp)(hh:lv kh=.hole:=by first|rfl|simp):ag c f xs lv K:=ag.pure κ kh hc hx hxs hh hK
theorem aaX{o:Operand}{x y:Code}(hb:s.val c.G o=.c (.d (.bool true)))(h:AW c r x s κ Q):AW c r (.cond o x y) s κ Q:=adi (b:=true) hb h
theorem abd{o:Operand}{x y:Code}(hb:s.val c.G o=.c (.d (.bool false)))(h:AW c r y s κ Q):AW c r (.cond o x y) s κ Q:=adi (b:=false) hb h
theorem abl{o:Operand}{x y:Code}(h:AW c r x s κ Q)(hb:s.val c.G o=.c (.d (.bool true)):=by simp<;>omega):AW c r (.cond o x y) s κ Q:=adi (b:=true) hb h
theorem aba{o:Operand}{x y:Code}(h:AW c r y s κ Q)(hb:s.val c.G o=.c (.d (.bool false)):=by simp<;>omega):AW c r (.cond o x y) s κ Q:=adi (b:=false) hb h
theorem aj{a b:Prop}(h:b)(g:a:=by omega):a/\b:=⟨g,h⟩
structure Ev where
 w:World
 F:Nat->Prop
 W:Nat->Prop
 q:Key->LB
 b:Key->Nat
 d:List Deferred
theorem aa.en{code:Code}(hf:P.funcs[f]?=some fn)(hb:fn.body=some code)
 (h:∀z:Ev,AW ⟨P,G,z.w,z.F,z.W,fn.ntmps,z.q,z.b,z.d⟩ none code ⟨λt=>args.getD t .undef,λ_=>.hole⟩ 0 (aN ⟨P,G,z.w,z.F,z.W,fn.ntmps,z.q,z.b,z.d⟩ fn x)) (hl:Nat.ble args.length fn.ntmps=true:=by kernel_rfl):aa P G f args x:=
 aa.mw hf hb (ad1 hl) λ⟨_,_,w,F,W,_,q,b,d⟩ h1 h2 h3=>by cases h1;cases h2;cases h3;exact h ⟨w,F,W,q,b,d⟩
section
variable {c:Ctx}{r:Option Nat}{s s':aB}{κ κ':Nat}{Q:Ex->aB->Nat->Prop}{id:Nat}{ops:Array Oper}{y:Code}
theorem abe(h:Q .ret s 0):AW c r .ret s κ Q:=aaH (κ:=0) h
theorem aN.rt(hr:fn.results=#[.tmp t])(kh:Key)(hx:s.fr t=x)(hp:x.pure=true:=by first|rfl|simp)(hh:s.lv kh=.hole:=by first|rfl|simp)(hn:x.bZ=true:=by first|rfl|simp):aN c fn x .ret s 0:=aN.tmp hr kh hx hp hh hn
theorem aar(h:aZ c (jc ops) s κ λs' κ'=>Q .normal s' κ')(hd:dM c.n ops.toList=true:=by exact rfl):AW c r (.region id ops false) s κ Q:=acB hd h
theorem aaF(h:∀K:aB->Nat->Prop,(∀s κ,AW c r y s κ Q->K s κ)->aZ c (jc ops) s κ K)(hd:dM c.n ops.toList=true:=by exact rfl):AW c r (.seq (.region id ops false) y) s κ Q:=
 aaa λK hK=>acB hd (h K hK)
theorem aah(h:AW c r y s' κ' Q)(hd:dM c.n ops.toList=true:=by exact rfl)(hr:∀K:aB->Nat->Prop,K s' κ'->aZ c (jc ops) s κ K:=by intro K k;simp;(repeat refine aj ?_);exact k):AW c r (.seq (.region id ops false) y) s κ Q:=
 aaa λK hK=>acB hd (hr K (hK _ _ h))
theorem adl(h:Q .normal s' κ')(hd:dM c.n ops.toList=true:=by exact rfl)(hr:∀K:aB->Nat->Prop,K s' κ'->aZ c (jc ops) s κ K:=by intro K k;simp;(repeat refine aj ?_);exact k):AW c r (.region id ops false) s κ Q:=
 acB hd (hr (λs κ=>Q .normal s κ) h)
theorem acH(κ1:Nat)(hc:aa c.P c.G f xs x)(h:AW c r y s' κ' Q)(hd:dM c.n ops.toList=true:=by exact rfl)(hr:∀κ2,κ2=κ1->aa c.P c.G f xs x->∀K:aB->Nat->Prop,K s' κ'->aZ c (jc ops) s κ K:=by intro κ2 e hc K k;simp;refine ag.p κ2 9 hc ?_;subst e;simp;(repeat refine aj ?_);exact k):AW c r (.seq (.region id ops false) y) s κ Q:=
 aaa λK hK=>acB hd (hr κ1 rfl hc K (hK _ _ h))
theorem AW.m0(κ1:Nat)(hc:aa c.P c.G f xs x)(h:Q .normal s' κ')(hd:dM c.n ops.toList=true:=by exact rfl)(hr:∀κ2,κ2=κ1->aa c.P c.G f xs x->∀K:aB->Nat->Prop,K s' κ'->aZ c (jc ops) s κ K:=by intro κ2 e hc K k;simp;refine ag.p κ2 9 hc ?_;subst e;simp;(repeat refine aj ?_);exact k):AW c r (.region id ops false) s κ Q:=
 acB hd (hr κ1 rfl hc (λs κ=>Q .normal s κ) h)
theorem abf(e1:a1)(h:AW c r y s' κ' Q)(hd:dM c.n ops.toList=true:=by exact rfl)(hr:a1->∀K:aB->Nat->Prop,K s' κ'->aZ c (jc ops) s κ K:=by intro e1 K k;simp[e1];(repeat refine aj ?_);exact k):AW c r (.seq (.region id ops false) y) s κ Q:=
 aaa λK hK=>acB hd (hr e1 K (hK _ _ h))
theorem acK(e1:a1)(h:Q .normal s' κ')(hd:dM c.n ops.toList=true:=by exact rfl)(hr:a1->∀K:aB->Nat->Prop,K s' κ'->aZ c (jc ops) s κ K:=by intro e1 K k;simp[e1];(repeat refine aj ?_);exact k):AW c r (.region id ops false) s κ Q:=
 acB hd (hr e1 (λs κ=>Q .normal s κ) h)
theorem acA(κ1:Nat)(hc:aa c.P c.G f xs x)(e1:a1)(h:AW c r y s' κ' Q)(hd:dM c.n ops.toList=true:=by exact rfl)(hr:∀κ2,κ2=κ1->a1->aa c.P c.G f xs x->∀K:aB->Nat->Prop,K s' κ'->aZ c (jc ops) s κ K:=by intro κ2 e e1 hc K k;simp[e1];refine ag.p κ2 9 hc ?_;subst e;simp[e1];(repeat refine aj ?_);exact k):AW c r (.seq (.region id ops false) y) s κ Q:=
 aaa λK hK=>acB hd (hr κ1 rfl e1 hc K (hK _ _ h))
theorem adq(κ1:Nat)(hc:aa c.P c.G f xs x)(e1:a1)(h:Q .normal s' κ')(hd:dM c.n ops.toList=true:=by exact rfl)(hr:∀κ2,κ2=κ1->a1->aa c.P c.G f xs x->∀K:aB->Nat->Prop,K s' κ'->aZ c (jc ops) s κ K:=by intro κ2 e e1 hc K k;simp[e1];refine ag.p κ2 9 hc ?_;subst e;simp[e1];(repeat refine aj ?_);exact k):AW c r (.region id ops false) s κ Q:=
 acB hd (hr κ1 rfl e1 hc (λs κ=>Q .normal s κ) h)
theorem ace(e1:a1)(e2:a2)(h:AW c r y s' κ' Q)(hd:dM c.n ops.toList=true:=by exact rfl)(hr:a1->a2->∀K:aB->Nat->Prop,K s' κ'->aZ c (jc ops) s κ K:=by intro e1 e2 K k;simp[e1,e2];(repeat refine aj ?_);exact k):AW c r (.seq (.region id ops false) y) s κ Q:=
 aaa λK hK=>acB hd (hr e1 e2 K (hK _ _ h))
theorem acT(e1:a1)(e2:a2)(h:Q .normal s' κ')(hd:dM c.n ops.toList=true:=by exact rfl)(hr:a1->a2->∀K:aB->Nat->Prop,K s' κ'->aZ c (jc ops) s κ K:=by intro e1 e2 K k;simp[e1,e2];(repeat refine aj ?_);exact k):AW c r (.region id ops false) s κ Q:=
 acB hd (hr e1 e2 (λs κ=>Q .normal s κ) h)
theorem adF(κ1:Nat)(hc:aa c.P c.G f xs x)(e1:a1)(e2:a2)(h:AW c r y s' κ' Q)(hd:dM c.n ops.toList=true:=by exact rfl)(hr:∀κ2,κ2=κ1->a1->a2->aa c.P c.G f xs x->∀K:aB->Nat->Prop,K s' κ'->aZ c (jc ops) s κ K:=by intro κ2 e e1 e2 hc K k;simp[e1,e2];refine ag.p κ2 9 hc ?_;subst e;simp[e1,e2];(repeat refine aj ?_);exact k):AW c r (.seq (.region id ops false) y) s κ Q:=
 aaa λK hK=>acB hd (hr κ1 rfl e1 e2 hc K (hK _ _ h))
theorem AW.m2(κ1:Nat)(hc:aa c.P c.G f xs x)(e1:a1)(e2:a2)(h:Q .normal s' κ')(hd:dM c.n ops.toList=true:=by exact rfl)(hr:∀κ2,κ2=κ1->a1->a2->aa c.P c.G f xs x->∀K:aB->Nat->Prop,K s' κ'->aZ c (jc ops) s κ K:=by intro κ2 e e1 e2 hc K k;simp[e1,e2];refine ag.p κ2 9 hc ?_;subst e;simp[e1,e2];(repeat refine aj ?_);exact k):AW c r (.region id ops false) s κ Q:=
 acB hd (hr κ1 rfl e1 e2 hc (λs κ=>Q .normal s κ) h)
theorem adG(e1:a1)(e2:a2)(e3:a3)(h:AW c r y s' κ' Q)(hd:dM c.n ops.toList=true:=by exact rfl)(hr:a1->a2->a3->∀K:aB->Nat->Prop,K s' κ'->aZ c (jc ops) s κ K:=by intro e1 e2 e3 K k;simp[e1,e2,e3];(repeat refine aj ?_);exact k):AW c r (.seq (.region id ops false) y) s κ Q:=
 aaa λK hK=>acB hd (hr e1 e2 e3 K (hK _ _ h))
theorem AW.l3(e1:a1)(e2:a2)(e3:a3)(h:Q .normal s' κ')(hd:dM c.n ops.toList=true:=by exact rfl)(hr:a1->a2->a3->∀K:aB->Nat->Prop,K s' κ'->aZ c (jc ops) s κ K:=by intro e1 e2 e3 K k;simp[e1,e2,e3];(repeat refine aj ?_);exact k):AW c r (.region id ops false) s κ Q:=
 acB hd (hr e1 e2 e3 (λs κ=>Q .normal s κ) h)
theorem AW.c3(κ1:Nat)(hc:aa c.P c.G f xs x)(e1:a1)(e2:a2)(e3:a3)(h:AW c r y s' κ' Q)(hd:dM c.n ops.toList=true:=by exact rfl)(hr:∀κ2,κ2=κ1->a1->a2->a3->aa c.P c.G f xs x->∀K:aB->Nat->Prop,K s' κ'->aZ c (jc ops) s κ K:=by intro κ2 e e1 e2 e3 hc K k;simp[e1,e2,e3];refine ag.p κ2 9 hc ?_;subst e;simp[e1,e2,e3];(repeat refine aj ?_);exact k):AW c r (.seq (.region id ops false) y) s κ Q:=
 aaa λK hK=>acB hd (hr κ1 rfl e1 e2 e3 hc K (hK _ _ h))
theorem adw(e1:a1)(e2:a2)(e3:a3)(e4:a4)(h:AW c r y s' κ' Q)(hd:dM c.n ops.toList=true:=by exact rfl)(hr:a1->a2->a3->a4->∀K:aB->Nat->Prop,K s' κ'->aZ c (jc ops) s κ K:=by intro e1 e2 e3 e4 K k;simp[e1,e2,e3,e4];(repeat refine aj ?_);exact k):AW c r (.seq (.region id ops false) y) s κ Q:=
 aaa λK hK=>acB hd (hr e1 e2 e3 e4 K (hK _ _ h))
theorem adH(e1:a1)(e2:a2)(e3:a3)(e4:a4)(h:Q .normal s' κ')(hd:dM c.n ops.toList=true:=by exact rfl)(hr:a1->a2->a3->a4->∀K:aB->Nat->Prop,K s' κ'->aZ c (jc ops) s κ K:=by intro e1 e2 e3 e4 K k;simp[e1,e2,e3,e4];(repeat refine aj ?_);exact k):AW c r (.region id ops false) s κ Q:=
 acB hd (hr e1 e2 e3 e4 (λs κ=>Q .normal s κ) h)
theorem ads(e1:a1)(e2:a2)(e3:a3)(e4:a4)(e5:a5)(h:AW c r y s' κ' Q)(hd:dM c.n ops.toList=true:=by exact rfl)(hr:a1->a2->a3->a4->a5->∀K:aB->Nat->Prop,K s' κ'->aZ c (jc ops) s κ K:=by intro e1 e2 e3 e4 e5 K k;simp[e1,e2,e3,e4,e5];(repeat refine aj ?_);exact k):AW c r (.seq (.region id ops false) y) s κ Q:=
 aaa λK hK=>acB hd (hr e1 e2 e3 e4 e5 K (hK _ _ h))
theorem AW.f6(e1:a1)(e2:a2)(e3:a3)(e4:a4)(e5:a5)(e6:a6)(h:AW c r y s' κ' Q)(hd:dM c.n ops.toList=true:=by exact rfl)(hr:a1->a2->a3->a4->a5->a6->∀K:aB->Nat->Prop,K s' κ'->aZ c (jc ops) s κ K:=by intro e1 e2 e3 e4 e5 e6 K k;simp[e1,e2,e3,e4,e5,e6];(repeat refine aj ?_);exact k):AW c r (.seq (.region id ops false) y) s κ Q:=
 aaa λK hK=>acB hd (hr e1 e2 e3 e4 e5 e6 K (hK _ _ h))
theorem AW.f7{a7:Prop}(e1:a1)(e2:a2)(e3:a3)(e4:a4)(e5:a5)(e6:a6)(e7:a7)(h:AW c r y s' κ' Q)(hd:dM c.n ops.toList=true:=by exact rfl)(hr:a1->a2->a3->a4->a5->a6->a7->∀K:aB->Nat->Prop,K s' κ'->aZ c (jc ops) s κ K:=by intro e1 e2 e3 e4 e5 e6 e7 K k;simp[e1,e2,e3,e4,e5,e6,e7];(repeat refine aj ?_);exact k):AW c r (.seq (.region id ops false) y) s κ Q:=
 aaa λK hK=>acB hd (hr e1 e2 e3 e4 e5 e6 e7 K (hK _ _ h))
theorem aN.t2{y:AV}(hr:fn.results=#[.tmp t,.tmp u])(kh:Key)(hx:s.fr t=x:=by simp)(hy:s.fr u=y:=by simp)(hp:x.pure=true:=by first|rfl|simp)(hq:y.pure=true:=by first|rfl|simp)(hh:s.lv kh=.hole:=by first|rfl|simp)(hn:x.bZ=true:=by first|rfl|simp)(hm:y.bZ=true:=by first|rfl|simp)(htu:t≠u:=by decide):aN c fn (.tup [x,y]) .ret s 0:=
 aN.YL hr kh hx hy hp hq hh hn hm htu
end
end Go.Am
namespace Go.Am.N
variable {B n i m d x:Nat}{l:List Nat}
def val(B:Nat):List Nat->Nat
 |[]=>0
 |d::l=>d+B*val B l
def ok(B:Nat)(l:List Nat):Prop:=∀d∈l,d<B
@[simp]theorem tG(B:Nat):val B []=0:=rfl
@[simp]theorem bP(B d:Nat)(l:List Nat):val B (d::l)=d+B*val B l:=rfl
theorem jQ(B:Nat)(a b:List Nat):val B (a++b)=val B a+B^a.length*val B b:=by
 induction a with
 |nil=>simp
 |cons d a ih=>
  simp only[aeX,bP,ih,aef,adR]
  grind
theorem qk(B n:Nat):val B (List.replicate n 0)=0:=by
 induction n with
 |zero=>rfl
 |succ n ih=>simp[List.replicate_succ,ih]
theorem cJ(B:Nat):ok B []:=λd h=>by cases h
theorem bD:ok B (d::l)↔d<B/\ok B l:=by simp[ok]
theorem cH{a b:List Nat}:ok B (a++b)↔ok B a/\ok B b:=by
 simp only[ok,afo]
 grind
theorem tW(hB:0<B)(n:Nat):ok B (List.replicate n 0):=λd hd=>by grind
theorem lT(h:ok B l)(n:Nat):ok B (l.take n):=λd hd=>h d (afK hd)
theorem CZ(h:ok B l)(n:Nat):ok B (l.drop n):=λd hd=>h d (afv hd)
theorem GS(h:ok B l)(n:Nat)(hx:x<B):ok B (l.set n x):=λd hd=>by
 rcases List.mem_or_eq_of_mem_set hd with h1|h1
 ·exact h d h1
 omega
theorem fL{B:Nat}:∀{l:List Nat},ok B l->val B l<B^l.length
 |[],_=>by simp
 |d::l,h=>by
  rw[bD]at h;have h1:=fL h.2;simp only[bP,aef,adR];have h2:B*(val B l+1)<=B*B^l.length:=ad9 _ h1
  grind
theorem bA(h:i<l.length):val B (l.take (i+1))=val B (l.take i)+B^i*l[i]:=by
 rw[List.take_succ_eq_append_getElem h,jQ,aej,aeM (by omega)];simp
theorem cA(l:List Nat)(i:Nat)(h:i<=l.length):val B l=val B (l.take i)+B^i*val B (l.drop i):=by
 conv=>lhs;rw[<-afh i l,jQ,aej,aeM h]
theorem cR(h:i<l.length):val B (l.drop i)=l[i]+B*val B (l.drop (i+1)):=by
 rw[adT h,bP]
theorem fJ(h:l.length<=i):val B (l.drop i)=0:=by
 rw[aeH h];rfl
theorem aP(h:l.length<=i):val B (l.take i)=val B l:=by
 rw[ae6 h]
def can(B:Nat)(l:List Nat):Prop:=ok B l/\∀x,l.getLast?=some x->x≠0
def dg(l:List Nat):List Nat:=(l.reverse.dropWhile (·=0)).reverse
@[simp]theorem X4:dg []=[]:=rfl
theorem iZ(l:List Nat):dg (l++[0])=dg l:=by simp[dg]
theorem jV(h:x≠0):dg (l++[x])=l++[x]:=by simp[dg,h]
theorem uc{p:List Nat->Prop}(h0:p [])(h1:∀l x,p l->p (l++[x]))(l:List Nat):p l:=by
 have key:∀l:List Nat,p l.reverse:=by
  intro l
  induction l with
  |nil=>exact h0
  |cons x l ih=>grind
 rw[<-agx l];grind
theorem OU(B:Nat)(l:List Nat):val B (dg l)=val B l:=by
 induction l using uc with
 |h0=>rfl
 |h1 l x ih=>
  by_cases h:x=0
  ·subst h;rw[iZ,ih,jQ];simp
  ·rw[jV h]
theorem PZ(l:List Nat):(dg l).length<=l.length:=by
 induction l using uc with
 |h0=>simp
 |h1 l x ih=>
  by_cases h:x=0
  ·subst h;rw[iZ];grind
  ·rw[jV h];simp
theorem BU(h:ok B l):ok B (dg l):=by
 induction l using uc with
 |h0=>exact h
 |h1 l x ih=>
  by_cases e:x=0
  ·subst e;rw[iZ];exact ih (cH.1 h).1
  ·rw[jV e];exact h
theorem O9(h:ok B l):can B (dg l):=by
 refine⟨BU h,?_⟩;clear h
 induction l using uc with
 |h0=>simp
 |h1 l x ih=>
  by_cases e:x=0
  ·subst e;rw[iZ];exact ih
  ·rw[jV e];grind
theorem zu(h:can B (d::l)):can B l:=by
 refine⟨(bD.1 h.1).2,λx hx=>h.2 x ?_⟩
 grind
theorem iC(h:can B l)(h0:l≠[]):0<val B l:=by
 induction l with
 |nil=>grind
 |cons d l ih=>
  simp only[bP]
  by_cases hl:l=[]
  ·subst hl;have:=h.2 d rfl;omega
  ·have h1:=ih (zu h) hl
   have h2:0<B:=by
    have:=(bD.1 h.1).1;omega
   have:=aeh h2 h1;omega
theorem E3(h:can B l)(h0:val B l=0):l=[]:=by
 by_cases e:l=[]
 ·exact e
 ·have:=iC h e;omega
theorem JY{B:Nat}:∀{a b:List Nat},can B a->can B b->val B a=val B b->a=b
 |[],b,_,hb,h=>(E3 hb h.symm).symm
 |a,[],ha,_,h=>E3 ha h
 |d::a,e::b,ha,hb,h=>by
  simp only[bP]at h;have hd:=(bD.1 ha.1).1;have he:=(bD.1 hb.1).1
  have h1:d=e:=by
   have:=congrArg (· % B) h;simp only[agy,aem hd,aem he]at this;exact this
  subst h1;have h2:B*val B a=B*val B b:=by omega
  have h3:=Nat.eq_of_mul_eq_mul_left (by omega:0<B) h2;rw[JY (zu ha) (zu hb) h3]
def D3(B:Nat):Nat->Nat->List Nat
 |0,_=>[]
 |f+1,n=>if n=0 then[]else n%B::D3 B f (n/B)
def aG(B n:Nat):List Nat:=D3 B n n
theorem zV{B:Nat}(hB:2<=B):∀{f n:Nat},n<=f->val B (D3 B f n)=n
 |0,n,h=>by simp[D3];omega
 |f+1,n,h=>by
  simp only[D3];split
  ·simp_all
  ·rename_i e
   have h1:n/B<n:=afS (by omega) (by omega);rw[bP,zV hB (by omega)];exact Nat.mod_add_div n B
theorem Gm{B:Nat}(hB:2<=B):∀{f n:Nat},n<=f->can B (D3 B f n)
 |0,n,h=>⟨cJ B,λx hx=>by cases hx⟩
 |f+1,n,h=>by
  simp only[D3];split
  ·exact⟨cJ B,λx hx=>by cases hx⟩
  ·rename_i e
   have h1:n/B<n:=afS (by omega) (by omega);have h2:=Gm hB (f:=f) (n:=n/B) (by omega);refine⟨bD.2 ⟨adZ _ (by omega),h2.1⟩,λx hx=>?_⟩
   cases e2:D3 B f (n/B)with
   |nil=>
    rw[e2]at hx;simp at hx;subst hx;have h3:=zV hB (f:=f) (n:=n/B) (by omega);rw[e2]at h3;simp at h3;have h4:=Nat.mod_add_div n B
    grind
   |cons d l=>
    rw[e2,List.getLast?_cons_cons]at hx;exact h2.2 x (by grind)
theorem bn(hB:2<=B)(n:Nat):val B (aG B n)=n:=zV hB (bh _)
theorem bx(hB:2<=B)(n:Nat):can B (aG B n):=Gm hB (bh _)
theorem gK(hB:2<=B)(h:can B l)(hv:val B l=n):l=aG B n:=
 JY h (bx hB n) (by rw[hv,bn hB])
theorem ei(hB:2<=B)(h:ok B l)(hv:val B l=n):dg l=aG B n:=
 gK hB (O9 h) (by rw[OU,hv])
@[simp]theorem ZD(B:Nat):aG B 0=[]:=rfl
theorem cL(hB:2<=B):aG B n=[]↔n=0:=
 ⟨λh=>by rw[<-bn hB n,h];rfl,λh=>by rw[h];rfl⟩
theorem nU(hB:2<=B):n<B^(aG B n).length:=by
 have:=fL (bx hB n).1
 rwa[bn hB]at this
theorem Vz(hB:2<=B)(h:n≠0):B^((aG B n).length-1)<=n:=by
 have hc:=bx hB n;have hv:=bn hB n;have hn:aG B n≠[]:=λe=>h ((cL hB).1 e)
 have hlen:0<(aG B n).length:=List.length_pos_iff.2 hn;have hlast:(aG B n).length-1<(aG B n).length:=by omega
 have h1:=cA (B:=B) (aG B n) ((aG B n).length-1) (by omega);rw[cR hlast,hv]at h1;have h2:(aG B n)[(aG B n).length-1]≠0:=hc.2 _ (by grind)
 have h3:B^((aG B n).length-1)*1<=B^((aG B n).length-1)*((aG B n)[(aG B n).length-1]+B*val B ((aG B n).drop ((aG B n).length-1+1))):=
  ad9 _ (by omega)
 omega
theorem bS(hB:2<=B)(h:n<B^m):(aG B n).length<=m:=by
 by_cases e:n=0
 ·simp_all
 ·have h1:=Vz hB e;have h2:B^((aG B n).length-1)<B^m:=ae9 h1 h;have:=(agz (by omega:1<B)).1 h2;omega
theorem KM(hB:2<=B)(h0:n≠0)(h:n<B):aG B n=[n]:=
 (gK hB ⟨bD.2 ⟨h,cJ B⟩,λx hx=>by grind⟩ (by simp)).symm
theorem cS(hB:2<=B)(h:m<=n):(aG B m).length<=(aG B n).length:=
 bS hB (ae9 h (nU hB))
theorem KF(hB:2<=B)(h:(aG B m).length<(aG B n).length):m<n:=by
 by_cases e:m<n
 ·exact e
 ·have:=cS hB (Nat.le_of_not_lt e);omega
end Go.Am.N
namespace Go.Am.N
theorem pH(B i m:Nat):B^i*(m%B)+B^(i+1)*(m/B)=B^i*m:=by
 rw[adR,ad5,<-aey,Nat.mod_add_div]
theorem fB(B:Nat)(l:List Nat)(x:Nat):val B (l++[x])=val B l+B^l.length*x:=by
 rw[jQ];simp
theorem nV(B:Nat)(l:List Nat)(m:Nat):val B (l++[m%B])+B^(l.length+1)*(m/B)=val B l+B^l.length*m:=by
 rw[fB,afl,pH]
theorem xP{B:Nat}:∀{l:List Nat}{i:Nat}(h:i<l.length) (x:Nat),val B (l.set i x)+B^i*l[i]=val B l+B^i*x
 |d::l,0,h,x=>by simp;omega
 |d::l,i+1,h,x=>by
  have ih:=xP (B:=B) (l:=l) (i:=i) (by grind) x;simp only[List.set_cons_succ,bP,List.getElem_cons_succ,adR]
  grind
end Go.Am.N
namespace Go.Am
open N
variable {T e:TypeId}{k k':IntKind}{P:Program}{lv:Key->LB}{o:Option (List Nat)}{i off len sz:Nat}{n:Int}{l:List Nat}
def dK(k:IntKind)(l:List Nat):List (List DV):=l.map λ(x:Nat)=>[DV.int k (x:Int)]
def nK(k:IntKind):Option (List Nat)->AV
 |none=>.c (.d .nilsl)
 |some l=>.c (.d (.sl (dK k l)))
def dO(o:Option (List Nat)):List Nat:=o.getD []
@[simp]theorem aR(l:List Nat):dO (some l)=l:=rfl
@[simp]theorem aaR:dO none=[]:=rfl
@[simp]theorem kG(k:IntKind)(o:Option (List Nat)):(nK k o).pure=true:=by cases o<;>rfl
@[simp]theorem Ze(k:IntKind)(o:Option (List Nat)):(nK k o).bZ=true:=by cases o<;>rfl
@[simp]theorem ZY(k:IntKind)(o:Option (List Nat)):(nK k o).bX=true:=by cases o<;>rfl
@[simp]theorem abY(k:IntKind)(o:Option (List Nat))(g:Key->Key):(nK k o).bY g=nK k o:=by cases o<;>rfl
theorem iH{V:Vw}{v:Value}(h:V.av v (nK k o)):(dO o).length<=9223372036854775807/\∀x∈dO o,(x:Int)<=og k:=by
 cases o with
 |none=>simp
 |some l=>
  have h1:=Vw.HW h;simp only[dK,ab0]at h1;refine⟨h1,λx hx=>?_⟩;obtain⟨h,_⟩:=h;generalize hW:dK k l=es at h
  cases h with
  |sl0 _=>cases l with|nil=>cases hx|cons a l=>cases hW
  |sl b off cap sz _ vs hl hc hb hm ho hr=>
   subst hW;obtain⟨i,hi,rfl⟩:=List.mem_iff_getElem.1 hx;simp only[aR]at hi;have h2:=hr i (by simpa[dK]using hi) 0 (by simp[dK]);simp only[dK,ab5,aeQ]at h2
   have h3:k.wrap (l[i]:Int)=(l[i]:Int):=by
    generalize vs i 0=u at h2
    cases h2;assumption
   rw[oG]at h3
   simp_all
theorem qy{z:Nat}(h:eW P T=some (e,z)):fX P T lv (nK k o)=some (.c (.d (.int .i64 (dO o).length)),[],[],True):=by
 cases o<;>simp[fX,jA,nK,h,dK,keyOf,oo]
theorem Qc(h:eW P T=some (e,1))(hi:i<(dO o).length):
 aq P T lv (nK k o) (.c (.d (.int k' (i:Int))))=some (.c (.d (.ptr [DV.int k ((dO o)[i]:Int)])),[],[],True):=by
 cases o with
 |none=>cases hi
 |some l=>
  simp only[aR]at hi;have h1:(dK k l)[i]?.getD []=[DV.int k (l[i]:Int)]:=by simp[dK,hi]
  have h2:(i:Int)<(l.length:Int):=by omega
  simp[nK,aq,h,h1]
  grind
@[simp]theorem Yy(h:(eW P T).isSome=true):fX P T lv (nK k o)=some (.c (.d (.int .i64 (dO o).length)),[],[],True):=by
 obtain⟨⟨e,z⟩,h⟩:=Option.isSome_iff_exists.1 h;exact qy h
@[simp]theorem gL(h:(eW P T).map (·.2)=some 1)(hi:i<(dO o).length):
 aq P T lv (nK k o) (.c (.d (.int k' (i:Int))))=some (.c (.d (.ptr [DV.int k ((dO o)[i]:Int)])),[],[],True):=by
 obtain⟨⟨e,z⟩,h,rfl⟩:=Option.map_eq_some_iff.1 h;exact Qc h hi
@[simp]theorem YA{k:Key}(h:(eW P T).isSome=true):fX P T lv (.c (.aH k off len sz))=(match lv k with|.cells ..|.nils=>some (.c (.d (.int .i64 len)),[],[k],oo (.c (.aH k off len sz)) len)|_=>none):=by
 simp only[fX,jA,h,if_true]
 cases lv k<;>rfl
@[simp]theorem XP{k:Key}:oo (.c (.aH k off len sz)) n=(n<=9223372036854775807):=rfl
@[simp]theorem YU{l:List UInt8}(h:cP P T=true):fX P T lv (.c (.d (.str l)))=some (.c (.d (.int .i64 l.length)),[],[],True):=by
 simp[fX,jA,h,keyOf]
attribute [simp] FK
def wK(k:IntKind)(l:List Nat):List CV:=l.map λ(x:Nat)=>CV.d (.int k (x:Int))
@[simp]theorem OG(k:IntKind)(l:List Nat):(wK k l).length=l.length:=by simp[wK]
theorem gI(k:IntKind)(n:Nat):List.replicate n (CV.d (.int k 0))=wK k (List.replicate n 0):=by simp[wK]
theorem gw(k:IntKind)(h:i<l.length)(x:Nat):ai (wK k l) i [CV.d (.int k (x:Int))]=wK k (l.set i x):=by
 simp only[ai,wK,aeU];rw[List.set_eq_take_append_cons_drop,if_pos h];simp
theorem Q9(ha:eF P T=some false)(k:IntKind)(h:i<l.length):gA P T ((wK k l).drop i)=some (.c (.d (.int k (l[i]:Int)))):=by
 have:(wK k l).drop i=CV.d (.int k (l[i]:Int))::(wK k l).drop (i+1):=by
  rw[adT (by simp_all)];simp[wK]
 simp_all
attribute [simp] Q9
theorem yE{lv:Key->LB}{n:Nat}{k:IntKind}:∀(l:List Nat),iY (gu lv n) (wK k l)=some (l.map λ(x:Nat)=>DV.int k (x:Int),[])
 |[]=>rfl
 |x::l=>by
  have ih:=yE (lv:=lv) (n:=n) (k:=k) l;simp only[wK,adK,iY]at ih ⊢;rw[ih]
  cases n<;>rfl
theorem Bo{α:Type}:∀(l:List α),chunk 1 l.length l=l.map λx=>[x]
 |l=>by
  apply ags
  ·simp[chunk]
  ·intro i h1 h2;simp[chunk]at h1 h2 ⊢;rw[adT (by omega)];rfl
theorem Cv{κ:Key}{own fz:Bool}(h:lv κ=.cells own fz T (wK k l))(hl:l.length<=9223372036854775807):eZ lv (.c (.aH κ 0 l.length 1))=some (nK k (some l),[κ]):=by
 have h1:(wK k l).take l.length=wK k l:=ae6 (by simp);simp only[eZ,gu,h,OG,afC,aeC,bh,hl,and_self,if_true,aeu,h1,yE,aeJ];have h2:=Bo (l.map λ(x:Nat)=>DV.int k (x:Int));rw[ab0]at h2;rw[h2];simp[nK,dK]
theorem bB(h1:-9223372036854775808<=n)(h2:n<=9223372036854775807):IntKind.i64.wrap n=n:=cj ⟨h1,h2⟩
theorem dj(h1:0<=n)(h2:n<=18446744073709551615):IntKind.u64.wrap n=n:=cj ⟨h1,h2⟩
theorem bN(h1:0<=n)(h2:n<=4294967295):IntKind.u32.wrap n=n:=cj ⟨h1,h2⟩
theorem rK(n:Int):IntKind.u32.wrap n=n%4294967296:=by rfl
theorem AT(n:Int):IntKind.u64.wrap n=n%18446744073709551616:=by rfl
theorem gH.qG{c:Ctx}{f:FuncId}{ps:List As}{d:Option Tmp}{s:aB}{κ:Nat}{K:aB->Nat->Prop}(κ':Nat)(kh:Key)(κb:Key){x:AV}(hk:s.lv κb=.cells true false T (wK k l))(hl:l.length<=9223372036854775807)
 (hc:aa c.P c.G f [nK k (some l)] x) (hx:x.pure=true) (hh:s.lv kh=.hole) (hkh:kh≠κb) (hK:aZ c ps (aB.put ⟨s.fr,az s.lv κb (.cells true true T (wK k l))⟩ d x) κ' K):gH c f [.c (.aH κb 0 l.length 1)] ps d s κ K:=by
 refine ag.Ya κ' kh κb T (wK k l) [kh] hc hx hk hh hkh rfl (λi p q=>?_) (λa ha j hj=>?_) (by simp) hK
 ·have hi:i=0:=by simp at p;omega
  subst hi;right;exact Cv (aA _ _ _) hl
 ·simp only[afe]at ha;subst ha;simp only[wm,jb,aY,aA]at hj;rcases hj with rfl|hj
  ·simp
  ·simp only[afn]at hj;obtain⟨y,hy,hj⟩:=hj;simp only[wK,ae7]at hy;obtain⟨z,_,rfl⟩:=hy
   cases hj
end Go.Am
namespace Go.Am
open N
variable {lv lv':Key->LB}{c:Ctx}{fr:Nat->AV}
attribute [simp] B9
@[simp]theorem aaj(x:CV):(AV.c x).bX=true:=rfl
@[simp]theorem XD(x:List CV):(AV.agg x).bX=true:=rfl
@[simp]theorem aaU(x:DV):(AV.c (.d x)).pure=true:=rfl
theorem acO{r:Option Nat}{s:aB}{κ:Nat}{Q:Ex->aB->Nat->Prop}{x:Code}(κ':Nat)(h:AW c r x s κ' Q):AW c r x s κ Q:=h
def lE(lv:Key->LB):Prop:=∀k own es,lv k≠.map own es
@[simp]theorem bu:lE (λ_=>.hole):=λk own es h=>by cases h
@[simp]theorem vD(h:lE lv)(k:Key)(own fz:Bool)(T:TypeId)(cs:List CV):lE (az lv k (.cells own fz T cs)):=λk' o es h'=>by
 unfold az at h';split at h'
 ·cases h'
 ·exact h _ _ _ h'
@[simp]theorem lq(h:lE lv)(k:Key):lE (az lv k .dead):=λk' o es h'=>by
 unfold az at h';split at h'
 ·cases h'
 ·exact h _ _ _ h'
theorem Le.mk'(l:List (Nat×AV))(he:lv=lv')(hm:lE lv)(hl:∀p∈l,p.2.bX=true/\fr p.1=p.2):Le c ⟨fr,lv⟩ ⟨aU l,lv'⟩:=by
 subst he;exact Le.slots l hl (λk own es h=>absurd h (hm k own es))
theorem Le.eY(l:List (Nat×AV))(he:lv=lv':=by first|rfl|simp)(hl:∀p∈l,p.2.bX=true/\fr p.1=p.2:=by simp)(hm:lE lv:=by repeat (first|exact bu|refine vD ?_ _ _ _ _ _|(refine lq ?_ _)|(refine noMap_blS ?_ _ _ _)|(refine noMap_upd_nils ?_ _)|simp)):Le c ⟨fr,lv⟩ ⟨aU l,lv'⟩:=Le.mk' l he hm hl
theorem kN(pre:List Nat)(m x:Nat):(pre++List.replicate (m+1) 0).set pre.length x=(pre++[x])++List.replicate m 0:=by
 grind
end Go.Am
namespace Go.Am
variable {P:Program}{T:TypeId}{k:IntKind}{m n:Int}
def Qa(k:IntKind)(m n:Int):Int:=k.wrap (BitVec.ofInt k.bits m |||BitVec.ofInt k.bits n).toNat
def ab4(k:IntKind)(m n:Int):Int:=k.wrap (BitVec.ofInt k.bits m&&&BitVec.ofInt k.bits n).toNat
@[simp]theorem acP:aO P .or T (.c (.d (.int k m))) (.c (.d (.int k n)))=some (.c (.d (.int k (Qa k m n))),[],[],True):=Zm
@[simp]theorem aat:aO P .and T (.c (.d (.int k m))) (.c (.d (.int k n)))=some (.c (.d (.int k (ab4 k m n))),[],[],True):=W6
theorem W7(m n:Nat)(hm:m<18446744073709551616)(hn:n<18446744073709551616):Qa .u64 (m:Int) (n:Int)=((m |||n:Nat):Int):=by
 have h2:(BitVec.ofNat 64 m |||BitVec.ofNat 64 n).toNat=m |||n:=by
  rw[BitVec.toNat_or,agO,agO,aem hm,aem hn]
 have h3:m |||n<18446744073709551616:=Nat.or_lt_two_pow (n:=64) hm hn;show IntKind.u64.wrap (((BitVec.ofInt 64 (m:Int) |||BitVec.ofInt 64 (n:Int)).toNat:Nat):Int)=_;rw[agP,agP,h2];generalize m |||n=q at h3;exact dj (by omega) (by omega)
theorem Ej(k:IntKind)(m n:Int):Qa k m n=Qa k n m:=by unfold Qa;grind
theorem ur{m y:Nat}(hm:m<4294967296)(hy:y<4294967296):Qa .u64 ((m*4294967296:Nat):Int) (y:Int)=((m*4294967296+y:Nat):Int):=by
 rw[W7 _ _ (by omega) (by omega)];congr 1;have:=Nat.shiftLeft_add_eq_or_of_lt (i:=32) (b:=y) (by omega) m;rw[Nat.shiftLeft_eq]at this
 grind
theorem pU(qs:List Nat)(k x:Nat):(List.replicate (k+1) 0++qs).set k x=List.replicate k 0++(x::qs):=by
 rw[agQ _ _ (by simp),agR,List.set_append_right _ _ (by simp)];simp
end Go.Am
namespace Go.Am
theorem Xe(m n:Nat)(hm:m<4294967296)(hn:n<4294967296):Qa .u32 (m:Int) (n:Int)=((m |||n:Nat):Int):=by
 have h2:(BitVec.ofNat 32 m |||BitVec.ofNat 32 n).toNat=m |||n:=by
  rw[BitVec.toNat_or,agO,agO,aem hm,aem hn]
 have h3:m |||n<4294967296:=Nat.or_lt_two_pow (n:=32) hm hn;show IntKind.u32.wrap (((BitVec.ofInt 32 (m:Int) |||BitVec.ofInt 32 (n:Int)).toNat:Nat):Int)=_;rw[agP,agP,h2];generalize m |||n=q at h3;exact bN (by omega) (by omega)
theorem Ns{t y s:Nat}(ht:t<2^s)(h:y*2^s+t<4294967296):Qa .u32 (t:Int) ((y*2^s:Nat):Int)=((y*2^s+t:Nat):Int):=by
 rw[Ej,Xe _ _ (by omega) (by omega)];congr 1;have:=Nat.shiftLeft_add_eq_or_of_lt (i:=s) (b:=t) ht y;rw[Nat.shiftLeft_eq]at this;omega
end Go.Am
namespace Go.Am
variable {x:Nat}{lo pre r:List Nat}
theorem m5{P:Program}{T:TypeId}(ha:eF P T=some false)(k:IntKind){l:List Nat}{i:Nat}(h:l[i]?=some x):gA P T ((wK k l).drop i)=some (.c (.d (.int k (x:Int)))):=by
 obtain⟨hi,rfl⟩:=List.getElem?_eq_some_iff.1 h
 simp_all
theorem Kl(hi:List Nat):(lo++(pre++x::r)++hi)[lo.length+pre.length]?=some x:=by
 simp
theorem xo(hi:List Nat)(d:Nat):(lo++(pre++x::r)++hi).set (lo.length+pre.length) d=lo++((pre++[d])++r)++hi:=by
 simp
end Go.Am
namespace Go.Am
variable {x i:AV}{c:Ctx}{ops:Array Oper}{s:aB}{κ len cap:Nat}{a:Addr}{o:Oper}{K:AV->List (Key×LB)->List Key->Nat->Prop}
def l9:Op->Bool
 |.move _|.assign _|.pick ..|.build ..|.load ..|.nilCheck _|.binOp ..|.unOp ..|.convert ..|.makeInterface ..|.slice ..|.fieldAddr ..|.field ..|.indexAddr ..|.index ..|.extract ..=>true
 |.call cl=>match cl.callee with|.builtin .len|.builtin .max|.builtin .min=>true|_=>false
 |_=>false
section
variable {P:Program}{T:TypeId}{lv:Key->LB}{κ:Key}{v:AV}{us:List (Key×LB)}{rds:List Key}{vc:Prop}
theorem ZT{op:BinOp}{y:AV}(h:aO P op T x y=some (v,us,rds,vc)):us=[]:=by
 unfold aO at h;grind
theorem Wj(h:aF P T lv x=some (v,us,rds,vc)):us=[]:=by
 unfold aF at h;grind
theorem Z6(h:gV lv x=some (v,us,rds,vc)):us=[]:=by
 unfold gV at h;grind
theorem abT{f:Nat}(h:bW P T f lv x=some (v,us,rds,vc)):us=[]:=by
 unfold bW at h;grind
theorem abK(h:aq P T lv x i=some (v,us,rds,vc)):us=[]:=by
 unfold aq at h;grind
theorem acM(h:gh P T x i=some (v,us,rds,vc)):us=[]:=by
 unfold gh at h;grind
theorem acf{lo hi:Option AV}(h:bG P T lv x lo hi=some (v,us,rds,vc)):us=[]:=by
 unfold bG at h;grind
theorem D8{op:Op}{vals:List AV}(hq:l9 op=true)(h:dA P op vals lv κ=some (v,us,rds,vc)):us=[]:=by
 unfold dA at h;split at h
 all_goals first
  |exact ZT h
  |exact Wj h
  |exact Z6 h
  |exact abT h
  |exact abK h
  |exact acM h
  |(cases hq;done)
  |(split at h;(exact acf h);(grind))
  |((repeat' split at h)<;>first|(cases h;done)|(simp only[ah,M1]at h;exact h.2.1.symm))
  |skip
 ·rename_i cl vals'
  unfold lC at h;simp only[l9]at hq
  grind
end
theorem gD.quiet(hq:l9 o.op=true)(h:gD c o s κ K):gD c o s κ λx us rds κ'=>us=[]/\K x us rds κ':=by
 have plain:(match dA c.P o.op (o.op.operands.toList.map (s.val c.G)) s.lv κ with
  |some (x,us,rds,vc)=>vc/\K x us rds (match us with|[]=>κ|_=>κ+1)
  |none=>False)->(match dA c.P o.op (o.op.operands.toList.map (s.val c.G)) s.lv κ with
  |some (x,us,rds,vc)=>vc/\(us=[]/\K x us rds (match us with|[]=>κ|_=>κ+1))
  |none=>False):=by
  intro h;split at h
  ·rename_i x us rds vc hs
   exact⟨h.1,D8 hq hs,h.2⟩
  ·omega
 unfold gD at h ⊢;split at h
 ·rename_i cl ho
  split at h
  ·exact plain h
  ·rename_i hne
   exfalso;rw[ho]at hq
   cases hcal:cl.callee with
   |builtin b=>exact hne b hcal
   |_=>simp only[l9,hcal]at hq;cases hq
 ·exact plain h
theorem gD.mono{K':AV->List (Key×LB)->List Key->Nat->Prop}(h:gD c o s κ K)(hK:∀x us rds κ',K x us rds κ'->K' x us rds κ'):gD c o s κ K':=by
 unfold gD at h ⊢;split at h
 ·split at h
  ·split at h
   ·exact⟨h.1,hK _ _ _ _ h.2⟩
   ·exact h.elim
  ·split at h
   ·obtain⟨h1,x,us,rds,κ',h2,h3⟩:=h;exact⟨h1,x,us,rds,κ',h2,hK _ _ _ _ h3⟩
   ·exact h.elim
 ·split at h
  ·exact⟨h.1,hK _ _ _ _ h.2⟩
  ·exact h.elim
theorem gr.mono{K K':aB->Nat->List Fx->Prop}:∀{os:List Oper}{s:aB}{κ:Nat}{acc:List Fx},gr c ops os s κ acc K->(∀s κ acc,K s κ acc->K' s κ acc)->gr c ops os s κ acc K'
 |[],s,κ,acc,h,hK=>hK _ _ _ h
 |o::os,s,κ,acc,h,hK=>by
  simp only[gr]at h ⊢;split at h
  ·exact gD.mono h λx us rds κ' h3=>gr.mono h3 hK
  ·exact gr.mono h hK
  omega
theorem gr.quiet{K:aB->Nat->Prop}:∀{os:List Oper}{s:aB}{κ:Nat}{acc:List Fx},os.all (λo=>l9 o.op)=true->(∀e∈acc,e.us=[])->gr c ops os s κ acc (λs κ _=>K s κ) ->
 gr c ops os s κ acc (λs κ acc=>(∀e∈acc,e.us=[])/\K s κ)
 |[],s,κ,acc,_,ha,h=>⟨ha,h⟩
 |o::os,s,κ,acc,hq,ha,h=>by
  simp only[afx,rP]at hq;simp only[gr]at h ⊢;split at h
  ·rename_i hw
   have h2:=gD.quiet hq.1 h;refine gD.mono h2 λx us rds κ' h3=>?_;obtain⟨rfl,h4⟩:=h3
   exact gr.quiet hq.2 (λe he=>by
    grind) h4
  ·exact gr.quiet hq.2 (λe he=>by
    grind) h
  omega
theorem HY{es:List Fx}(h:∀e∈es,e.us=[]):Ek ops es=true:=by
 simp only[Ek,adV];intro j _;split
 ·rename_i e' he'
  rw[aeV];right;rw[adV];intro i _;split
  ·rename_i e he
   rw[aeV];right;simp[vP,h e (afg he),h e' (afg he')]
  ·rfl
 ·rfl
theorem acX{r:Option Nat}{Q:Ex->aB->Nat->Prop}{id:Nat}(hm:c.P.follows .mixedOrders=true)(hst:mU ops=true)(hd:dM c.n ops.toList=true)(hq:ops.toList.all (λo=>l9 o.op)=true)
 (h:aZ c (jc ops) s κ λs' κ'=>Q .normal s' κ'):AW c r (.region id ops true) s κ Q:=by
 refine AW.draw hm hst hd ?_;have h1:oU c ops ops.toList s κ λs' κ'=>Q .normal s' κ':=by rw[<-m8];exact h
 have h2:=gr.quiet hq (λe he=>by cases he) h1;refine gr.mono h2 λs' κ' acc h3=>⟨HY λe he=>h3.1 e (List.mem_reverse.1 he),h3.2⟩
def uw(P:Program):Nat->TypeId->Bool
 |0,_=>false
 |n+1,t=>match P.underlying t with
  |some .bool=>true
  |some (.int _)=>true
  |some .string=>true
  |some (.slice e)=>uw P n e&&Nat.ble 1 (P.cellsOf e)
  |some (.struct fs)=>fs.toList.all λf=>uw P n f.type
  |_=>false
theorem Rd.MG{M:Mem}{es:List (List DV)}(h:Rd M (.slice (some a) len cap) (.sl es)):len=es.length:=by
 cases h<;>rfl
theorem FN{n:Nat}(hn:n=0)(h:(a.add n).spot=none):a.spot=none:=by
 subst hn;exact h
theorem LL{H:Type}{enc:TypeId×Value->H}{P:Program}{w:World}{base:Nat}{spare:Nat->Bool}{held:Bool}{e:TypeId}{m:Nat}{elems rest:List (DataW H×List MemPlace)}(hspare:∀b,spare b=true)(hc:1<=P.cellsOf e)(hlc:len<=cap)
 (hel:elems.length=len) (hget:∀i,i<len->(w.cells? base (a.add (i*P.cellsOf e)) (P.cellsOf e)).bind (DataW.trod enc P w base spare held m e)=elems[i]?)
 (hrest:spare a.block=true->rest.length=cap-len/\∀j,j<cap-len->(w.cells? base (a.add ((len+j)*P.cellsOf e)) (P.cellsOf e)).bind (DataW.trod enc P w base spare held m e)=rest[j]?):a.spot=none\/cap=0:=by
 by_cases h0:cap=0
 ·exact .inr h0
 refine .inl ?_;obtain⟨hr1,hr2⟩:=hrest (hspare _)
 have key:∀i x,i=0->(w.cells? base (a.add (i*P.cellsOf e)) (P.cellsOf e)).bind (DataW.trod enc P w base spare held m e)=some x->a.spot=none:=by
  intro i x h0 hx;obtain⟨c,hc1,_⟩:=Option.bind_eq_some_iff.1 hx;obtain⟨_,h2,h3⟩:=agr hc1;have h4:=h3 0 (by omega);rw[fy (by omega)]at h4;exact FN (by rw[h0,Nat.zero_mul]) (FN rfl (World.cell?_spot h4))
 by_cases hl:0<len
 ·have h1:=hget 0 hl;rw[fy (by omega)]at h1;exact key _ _ rfl h1
 ·have h1:=hr2 0 (by omega);rw[fy (by omega)]at h1;exact key _ _ (by omega) h1
theorem yK{H:Type}{enc:TypeId×Value->H}{P:Program}{w:World}{base:Nat}{spare:Nat->Bool}{held:Bool}{T:TypeId->Prop}(K:Kids P T)(hspare:∀b,spare b=true):
 ∀(n:Nat) (t:TypeId) (fuel:Nat) (cs:List Value) (x:DataW H×List MemPlace),T t->uw P n t=true ->
  DataW.trod enc P w base spare held fuel t cs=some x->∃l,mR P n t l/\gq (allM w) cs l
 |0,_,_,_,_,_,h,_=>by simp[uw]at h
 |n+1,t,fuel,cs,x,hT,hp,h=>by
  unfold uw at hp;split at hp
  ·rename_i hu
   obtain⟨b,rfl,rfl⟩:=DataW.trod_bool hu h;exact⟨[.bool b],by simp[mR,hu],gq.one (.bool b) rfl⟩
  ·rename_i k hu
   obtain⟨i,rfl,rfl,hw⟩:=DataW.trod_int hu h;exact⟨[.int k i],by simp[mR,hu],gq.one (.int k i (wf_wrap hw)) rfl⟩
  ·rename_i hu
   obtain⟨b,rfl,rfl,hl⟩:=DataW.trod_string hu h;refine⟨[.str b.data.toList],by simp[mR,hu],gq.one (.str b ?_) rfl⟩;have e:b.data.toList.length=b.size:=by simp
   rw[e];simp only[maxLen]at hl;omega
  ·rename_i e hu
   simp only[rP]at hp;obtain⟨hp,hce⟩:=hp;have hce:=ad1 hce;rcases DataW.trod_slice hu h with⟨rfl,rfl⟩|⟨a,len,cap,elems,rest,m,rfl,rfl,rfl,hb,hlc,hcm,hel,hget,hrest,_⟩
   ·exact⟨[.nilsl],by simp[mR,hu],gq.one .nilsl rfl⟩
   ·rcases LL hspare hce hlc hel hget hrest with hsp|h0
    rotate_left
    ·obtain rfl:cap=0:=h0;obtain rfl:len=0:=by omega
     exact⟨[.sl []],by simp[mR,hu],gq.one (.sl0 a) rfl⟩
    obtain⟨b,off,sp⟩:=a;simp only at hsp;subst hsp
    obtain⟨l,hl,hq⟩:=iW (α:=List Value×List DV) len (λi q=>w.cells? base (Addr.add ⟨b,off,none⟩ (i*P.cellsOf e)) (P.cellsOf e)=some q.1/\mR P n e q.2/\gq (allM w) q.1 q.2) (by
     intro i hi;have h1:=hget i hi;rw[fy (by omega)]at h1;obtain⟨c,hc,ht⟩:=Option.bind_eq_some_iff.1 h1;obtain⟨l,h2,h3⟩:=yK K hspare n e m c _ (K.slice hT hu) hp ht;exact⟨(c,l),hc,h2,h3⟩)
    subst hl;have hlen:∀i (h:i<l.length),(l[i].1).length=P.cellsOf e:=λi h=>(agr (hq i h).1).2.1
    have hcell:∀i (h:i<l.length) j (hj:j<P.cellsOf e),w.cell? ⟨b,off+i*P.cellsOf e+j,none⟩=some ((l[i].1).getD j undef):=by
     intro i h j hj;have h1:=(agr (hq i h).1).2.2 j hj
     have h2:(Addr.add (Addr.add ⟨b,off,none⟩ (i*P.cellsOf e)) j)=⟨b,off+i*P.cellsOf e+j,none⟩:=by
      unfold Addr.add;split<;>split<;>simp_all
     rw[h2]at h1;rw[h1,adS,fy (by grind)];rfl
    have hR:=Rd.sl (M:=allM w) b off cap (P.cellsOf e) (l.map (·.2)) (λi j=>(l.getD i ([],[])).1.getD j undef)
     (by
      intro x hx;obtain⟨q,hq',rfl⟩:=List.mem_map.1 hx;obtain⟨i,hi,rfl⟩:=afw hq';rw[<-(hq i hi).2.2.1,hlen i hi])
     (by grind) (by simp only[maxLen]at hcm;grind)
     (by
      intro i hi j hj;have hi':i<l.length:=by simpa using hi
      have:=hcell i hi' j hj;refine⟨xI this,?_⟩
      grind)
     (by
      intro i hi j hj;have hi':i<l.length:=by simpa using hi
      have hj':j<(l[i].1).length:=by rw[hlen i hi'];exact hj
      have:=((hq i hi').2.2.2 j hj' (by rw[<-(hq i hi').2.2.1];exact hj')).2
      grind)
     (by
      intro i hi j hj;have hi':i<l.length:=by simpa using hi
      have hj2:j<(l[i].2).length:=by simpa using hj
      have hj':j<(l[i].1).length:=by rw[(hq i hi').2.2.1];exact hj2
      have:=((hq i hi').2.2.2 j hj' hj2).1
      grind)
    refine⟨[.sl (l.map (·.2))],?_,gq.one ?_ rfl⟩
    ·simp only[mR,hu];refine .inr ⟨_,rfl,λx hx=>?_⟩;obtain⟨q,hq',rfl⟩:=List.mem_map.1 hx;obtain⟨i,hi,rfl⟩:=afw hq'
     grind
    grind
  ·rename_i fs hu
   obtain⟨xs,m,rfl,rfl,hlen,hxs,hget⟩:=DataW.trod_struct hu h;obtain⟨k1,k2,k3⟩:=K.struct hT hu
   have hstep:∀i,i<fs.size->∃l,∀(hi:i<fs.size) (hx:i<xs.length),mR P n fs[i].type l/\gq (allM w) ((cs.drop fs[i].offset).take (P.cellsOf fs[i].type)) l:=by
    intro i hi;have h1:=hget i fs[i] (by simp[hi]);rw[fy (by omega)]at h1;have hm:fs[i]∈fs.toList:=by simp
    obtain⟨l,h2,h3⟩:=yK K hspare n fs[i].type m _ _ (k1 _ hm) (List.all_eq_true.1 hp _ hm) h1;exact⟨l,λ_ _=>⟨h2,h3⟩⟩
   obtain⟨ls,hl,hq⟩:=iW fs.size _ hstep;refine⟨ls.flatten,?_,?_⟩
   ·simp only[mR,hu]
    grind
   ·refine gq.Sr (fs.toList.map λf=>P.cellsOf f.type) cs ls (by simp[hl]) (by omega) λi h h'=>?_;have hi:i<fs.size:=by simpa using h
    have h3:=(hq i h' hi (by omega)).2;have ho:=k3 i fs[i] (by simp[hi])
    simp_all
  ·cases hp
end Go.Am
namespace Go.Am.N
variable {m n B:Nat}{a b:List Nat}
theorem pR{j:Nat}(ha:ok B a)(h1:j<a.length)(h2:j<b.length)(hd:a.drop (j+1)=b.drop (j+1))(h:a[j]<b[j]):val B a<val B b:=by
 have e1:=cA (B:=B) a j (by omega);have e2:=cA (B:=B) b j (by omega);rw[cR h1]at e1;rw[cR h2,<-hd]at e2;have h3:=fL (lT ha j);rw[aej,aeM (by omega)]at h3;have h4:B^j*(a[j]+B*val B (a.drop (j+1))+1)<=B^j*(b[j]+B*val B (a.drop (j+1))):=ad9 _ (by omega)
 grind
theorem lH(hB:2<=B)(ha:can B a)(hb:can B b)(h:a.length<b.length):val B a<val B b:=by
 have e1:=gK hB ha rfl;have e2:=gK hB hb rfl;rw[e1,e2]at h;exact KF hB h
def eC(m n:Nat):Int:=if m<n then -1 else if n<m then 1 else 0
theorem kH(h:m<n):eC m n = -1:=by simp[eC,h]
theorem mh(h:n<m):eC m n=1:=by simp[eC,h];omega
theorem qu(h:m=n):eC m n=0:=by simp[eC,h]
end Go.Am.N
namespace Go.Am.N
def gQ(B:Nat):Nat->Nat->List Nat
 |0,_=>[]
 |L+1,n=>n%B::gQ B L (n/B)
theorem qn{B:Nat}:∀{l:List Nat}{n:Nat},ok B l->val B l=n->l=gQ B l.length n
 |[],n,_,_=>rfl
 |d::l,n,h,hv=>by
  have hd:=(bD.1 h).1;have h1:n%B=d:=by rw[<-hv,bP,agy,aem hd]
  have h2:n/B=val B l:=by rw[<-hv,bP,agA _ _ (by omega),aeY hd,aeC]
  simp only[aef,gQ,h1,h2];rw[<-qn (bD.1 h).2 rfl]
theorem oV(B:Nat):∀(L n:Nat),(gQ B L n).length=L
 |0,_=>rfl
 |L+1,n=>by simp[gQ,oV B L]
theorem uo{B:Nat}(hB:0<B):∀(L n:Nat),ok B (gQ B L n)
 |0,_=>cJ B
 |L+1,n=>bD.2 ⟨adZ _ hB,uo hB L _⟩
theorem nr{B:Nat}:∀(L n:Nat),val B (gQ B L n)=n%B^L
 |0,n=>by simp[gQ,Nat.mod_one]
 |L+1,n=>by
  rw[gQ,bP,nr L,adR,aea (B^L) B,Nat.mod_mul]
end Go.Am.N
namespace Go.Am
variable {s:aB}{κ:Nat}{Q:Ex->aB->Nat->Prop}{c:Ctx}{x:AV}{fn:Func}{b' b:LB}{f:FuncId}{T:TypeId}{own:Bool}{cs:List CV}{P:Program}{G:List (List DV)}{code:Code}{args:List AV}
def xK(Q:Ex->aB->Nat->Prop):Ex->aB->Nat->Prop
 |.goto _,_,_=>False
 |e,s,κ=>Q e s κ
@[simp]theorem Xr:xK Q .normal s κ=Q .normal s κ:=rfl
@[simp]theorem XR{i:Nat}:xK Q (.exit i) s κ=Q (.exit i) s κ:=rfl
@[simp]theorem XW:xK Q .ret s κ=Q .ret s κ:=rfl
theorem AW.scope{x:Code}(h:AW c none x s κ (xK Q)):AW c none (.scope x) s κ Q:=by
 intro F β a w hs;have h1:=(wpIn_wide (n:=0)).1 (h F β a w hs);refine(wpIn_wide (n:=0)).2 (wp_scope_straight (wp_mono h1 λe a' w' hp=>?_));obtain⟨x,s',κ',F',β',hq,hs',he⟩:=hp
 cases x with
 |normal=>cases he;exact⟨.normal,s',κ',F',β',hq,hs',rfl⟩
 |exit id=>cases he;exact⟨.exit id,s',κ',F',β',hq,hs',rfl⟩
 |goto l=>exact hq.elim
 |ret=>cases he;exact⟨.ret,s',κ',F',β',hq,hs',rfl⟩
 |panic d=>obtain⟨v,rfl,hv⟩:=he;exact⟨.panic d,s',κ',F',β',hq,hs',v,rfl,hv⟩
theorem Fq(b:LB):bL [b] []=az (λ_=>.hole) 0 b:=by
 funext k
 by_cases h:k=0
 ·subst h;rfl
 ·rw[aE _ _ h];unfold bL
  grind
theorem LB.cV{fz:Bool}(h:∀x∈cs,x.pure=true)(g:Key->Key):(LB.cells own fz T cs).bY g=.cells own fz T cs:=by
 simp only[LB.bY]
 have:cs.map (CV.bY g)=cs:=by
  conv=>rhs;rw[<-List.map_id cs]
  exact aes λx hx=>CV.cV (h x hx) g
 rw[this]
def WC(κb:Key)(x u:AV):Prop:=
 (u.pure=true/\x=u)\/(∃off len sz,u=.c (.aH 0 off len sz)/\x=.c (.aH κb off len sz))\/(∃off,u=.c (.ptr 0 off)/\x=.c (.ptr κb off))
theorem gH.Jo{xs us:List AV}{ps:List As}{d:Option Tmp}{K:aB->Nat->Prop}(κ':Nat)(kh κb:Key){cs':List CV}
 (hk:s.lv κb=.cells own false T cs) (hcs:∀x∈cs,x.pure=true) (hcs':∀x∈cs',x.pure=true)
 (hc:aI c.P c.G f us [.cells false false T cs] (.ret x [.cells false false T cs'] [])) (hx:x.pure=true) (hlen:us.length=xs.length)
 (ha:∀i (h:i<xs.length) (h':i<us.length),WC κb xs[i] us[i]) (hh:s.lv kh=.hole) (hkh:kh≠κb)
 (hK:aZ c ps (aB.put ⟨s.fr,az s.lv κb (.cells own false T cs')⟩ d x) κ' K):gH c f xs ps d s κ K:=by
 have g0:aQ [κb] [] kh 0=κb:=rfl
 have key:=b7.gen (c:=c) (f:=f) (as:=xs) (lv:=s.lv) us [] [κb] [] kh [.cells false false T cs] [.cells false false T cs'] [] x own [kh,κb] (λz hz=>by cases hz) (by simp) (by simp) (λz hz=>by cases hz) (by grind) (λz hz=>by cases hz) rfl rfl rfl (by simp)
  (λi h h'=>by
   have hi:i=0:=by simp at h;omega
   subst hi;show(s.lv κb).as (.cells false false T cs) _;rw[hk];refine⟨own,cs,rfl,?_,λe=>by cases e⟩
   conv=>lhs;rw[<-List.map_id cs]
   exact aes λx hx=>(CV.cV (hcs x hx) _).symm) (λk hk=>by cases hk) hh (λb hb=>by simp at hb;subst hb;rfl) (λb hb=>by grind) (λho k hk'=>by
    simp at hk';subst hk';rw[hk];exact ho) hlen
  (λi p q=>by
   left;rcases ha i p q with⟨h1,h2⟩|⟨off,len,sz,h1,h2⟩|⟨off,h1,h2⟩
   ·exact⟨AV.iI h1,by rw[AV.cV h1];exact h2⟩
   ·rw[h1,h2];exact⟨rfl,rfl⟩
   ·rw[h1,h2];exact⟨rfl,rfl⟩) (λa ha' j hj=>by
   obtain⟨i,hi,rfl⟩:=List.mem_iff_getElem.1 ha';left
   have hrd:∀n,∀j∈(match s.lv κb with|.cells _ _ _ cs=>cs.flatMap (jb s.lv n)|_=>[]),j∈([]:List Key):=by
    intro n j hj;rw[hk]at hj;simp only[afn]at hj;obtain⟨y,hy,hj⟩:=hj;have:=hcs y hy
    cases y<;>simp_all [CV.pure]
    cases n<;>cases hj
   rcases ha i hi (by omega)with⟨h1,h2⟩|⟨off,len,sz,h1,h2⟩|⟨off,h1,h2⟩
   ·rw[h2,kW h1]at hj;cases hj
   ·rw[h2]at hj;simp only[wm,jb,fM,aeD,bg,List.foldl_nil,aY]at hj;rcases hj with rfl|hj
    ·simp
    ·exact absurd (hrd 7 j hj) (by simp)
   ·rw[h2]at hj;simp only[wm,jb,fM,aeD,bg,List.foldl_nil,aY]at hj;rcases hj with rfl|hj
    ·simp
    ·exact absurd (hrd 7 j hj) (by simp)) (by simp) hc
 rw[AV.cV hx]at key;refine⟨x,_,_,κ',key,?_⟩
 have e:bg s.lv (fM []++cF (aQ [κb] [] kh) own [κb] [.cells false false T cs']++cF (aQ [κb] [] kh) own [] [])=az s.lv κb (.cells own false T cs'):=by
  simp only[fM,cF,aeD,aeT,List.zipWith_cons_cons,List.zipWith_nil_left,aei,LB.cV hcs',LB.fix,bg,afO,List.foldl_nil,Bool.false_or,List.zipWith_nil_right]
 show aZ c ps (aB.put ⟨s.fr,bg s.lv _⟩ d x) κ' K;rw[e];exact hK
def sV(c:Ctx)(fn:Func)(x:AV)(b':LB):Ex->aB->Nat->Prop
 |.normal,s,_|.ret,s,_=>∃l,(∀p∈l,p.2.bX=true/\s.fr p.1=p.2)/\lE s.lv/\s.lv=az (λ_=>.hole) 0 b'/\eE c.P ⟨aU l,s.lv⟩ fn.results.toList=some x
 |_,_,_=>False
theorem aI.V3(hf:P.funcs[f]?=some fn)(hb:fn.body=some code)(hl:args.length<=fn.ntmps)
 (h:∀c:Ctx,c.P=P->c.G=G->c.n=fn.ntmps->AW c none code ⟨λt=>args.getD t .undef,az (λ_=>.hole) 0 b⟩ 1000 (sV c fn x b')):aI P G f args [b] (.ret x [b'] []):=by
 refine aI.mw hf hb hl λc h1 h2 h3 h4=>?_;rw[Fq]at h4 ⊢;refine AW.mono (h c h1 h2 h3) λe s κ hq=>?_
 have fin:(∃l,(∀p∈l,p.2.bX=true/\s.fr p.1=p.2)/\lE s.lv/\s.lv=az (λ_=>.hole) 0 b'/\eE c.P ⟨aU l,s.lv⟩ fn.results.toList=some x)->∃s2 g,fD c s s2 g/\s2.lv=bL [b'] []/\eE c.P s2 fn.results.toList=some x:=by
  rintro⟨l,g1,g2,g3,g4⟩;exact⟨⟨aU l,s.lv⟩,λk=>k,fD.slots g1 (λk own es h=>absurd h (g2 k own es)),by rw[Fq];exact g3,g4⟩
 cases e with
 |normal=>exact fin hq
 |ret=>exact fin hq
 |exit id=>exact hq.elim
 |goto l=>exact hq.elim
 |panic d=>exact hq.elim
theorem aI.Rv(hf:P.funcs[f]?=some fn)(hb:fn.body=some code)
 (h:∀z:Ev,AW ⟨P,G,z.w,z.F,z.W,fn.ntmps,z.q,z.b,z.d⟩ none code ⟨λt=>args.getD t .undef,az (λ_=>.hole) 0 b⟩ 1000 (sV ⟨P,G,z.w,z.F,z.W,fn.ntmps,z.q,z.b,z.d⟩ fn x b')) (hl:Nat.ble args.length fn.ntmps=true:=by kernel_rfl):aI P G f args [b] (.ret x [b'] []):=
 aI.V3 hf hb (ad1 hl) λ⟨_,_,w,F,W,_,q,b,d⟩ h1 h2 h3=>by cases h1;cases h2;cases h3;exact h ⟨w,F,W,q,b,d⟩
theorem sV.tmp{t:Nat}(hr:fn.results=#[.tmp t])(hx:s.fr t=x)(hf:x.bX=true)(hm:lE s.lv)(hl:s.lv=az (λ_=>.hole) 0 b'):sV c fn x b' .ret s κ:=by
 refine⟨[(t,x)],by grind,hm,hl,?_⟩;rw[hr];simp[eE,kZ,mN,aU]
theorem sV.none{e:Ex}(he:e=.normal\/e=.ret)(hr:fn.results=#[])(hm:lE s.lv)(hl:s.lv=az (λ_=>.hole) 0 b'):sV c fn (.tup []) b' e s κ:=by
 have:∃l:List (Nat×AV),(∀p∈l,p.2.bX=true/\s.fr p.1=p.2)/\lE s.lv/\s.lv=az (λ_=>.hole) 0 b'/\eE c.P ⟨aU l,s.lv⟩ fn.results.toList=some (.tup []):=
  ⟨[],by simp,hm,hl,by rw[hr];rfl⟩
 rcases he with rfl|rfl<;>exact this
end Go.Am
namespace Go.Am.N
variable {g o:Nat}
section
variable {B V W v1 v2 Vl u2 Wl top E qt:Nat}
structure Ub(B E V W v1 v2 Vl top u2 Wl:Nat):Prop where
 hV:V=(v1*B+v2)*E+Vl
 hW:W=(top*B+u2)*E+Wl
 XA:Vl<E
 Yr:Wl<E
 UI:v2<B
 Xw:u2<B
 hlt:W<B*V
 DE:0<v1
 hB:0<B
variable (h:Ub B E V W v1 v2 Vl top u2 Wl)
include h
theorem Ub.E0:0<E:=by have:=h.XA;omega
theorem Ub.V0:0<V:=by
 have h1:1*1<=(v1*B+v2)*E:=aeK (by have:=aeh h.DE h.hB;omega) h.E0;have:=h.hV;omega
theorem Ub.VA:top<B*(v1+1):=by
 have h1:top*B*E<=W:=by rw[h.hW,ad7];omega
 have h2:V<(v1+1)*B*E:=by
  have e1:(v1+1)*B*E=(v1*B+B)*E:=by rw[ad7,aeS]
  have e2:(v1*B+v2+1)*E<=(v1*B+B)*E:=adJ _ (by have:=h.UI;omega);rw[ad7 _ 1,aeS]at e2;have:=h.hV;have:=h.XA;omega
 have h3:B*V<B*((v1+1)*B*E):=Nat.mul_lt_mul_of_pos_left h2 h.hB
 have h4:top*(B*E)<B*(v1+1)*(B*E):=by
  have e1:B*((v1+1)*B*E)=B*(v1+1)*(B*E):=by simp only[ad5]
  rw[<-e1,<-ad5];have:=h.hlt;omega
 exact agS h4
theorem Ub.first(hq:qt*V<=W):qt<=top/v1:=by
 rw[agb h.DE];have h1:qt*((v1*B)*E)<=qt*V:=ad9 _ (by rw[h.hV,ad7 (v1*B)];omega)
 have h2:W<(top+1)*(B*E):=by
  have e1:(top*B+u2+1)*E<=(top*B+B)*E:=adJ _ (by have:=h.Xw;omega);rw[ad7 _ 1,aeS]at e1;have e2:(top+1)*(B*E)=(top*B+B)*E:=by rw[ad7,ad7,aeS,ad5]
  have:=h.hW;have:=h.Yr;omega
 have h3:qt*v1*(B*E)<(top+1)*(B*E):=by
  have e1:qt*((v1*B)*E)=qt*v1*(B*E):=by simp only[ad5]
  rw[<-e1];omega
 have:=agS h3;omega
theorem Ub.over(hq:qt*V<=W)(hg:g*v1+o=top)(ht:o*B+u2<g*v2):qt<g:=by
 apply aeL;intro hn;have h1:g*V<=qt*V:=adJ _ (by omega);have h2:g*((v1*B+v2)*E)<=g*V:=ad9 _ (by rw[h.hV];omega)
 have h3:(top*B+u2+1)*E<=g*(v1*B+v2)*E:=by
  refine adJ _ ?_;have e1:g*(v1*B+v2)=g*v1*B+g*v2:=by rw[aey,ad5]
  have e2:top*B=g*v1*B+o*B:=by rw[<-hg,ad7]
  omega
 rw[ad5]at h3;rw[ad7 _ 1,aeS]at h3;have:=h.hW;have:=h.Yr;omega
theorem Ub.near(hq:W<(qt+1)*V)(hg:g*v1+o=top)(hgB:g<B)(ht:g*v2<=o*B+u2):g<=qt+1:=by
 apply aeL;intro hn;have h1:(qt+1+1)*V<=g*V:=adJ _ (by omega);rw[ad7 (qt+1),aeS]at h1;have h2:g*V=g*(v1*B+v2)*E+g*Vl:=by rw[h.hV,aey,ad5]
 have h3:g*(v1*B+v2)*E<=(top*B+u2)*E:=by
  refine adJ _ ?_;have e1:g*(v1*B+v2)=g*v1*B+g*v2:=by rw[aey,ad5]
  have e2:top*B=g*v1*B+o*B:=by rw[<-hg,ad7]
  omega
 have h4:g*Vl<=B*E:=aeK (by omega) (by have:=h.XA;omega)
 have h5:B*E<=V:=by
  have:1*B*E<=(v1*B+v2)*E:=adJ _ (by have:=adJ B h.DE;omega);rw[aeS]at this;have:=h.hV;omega
 have:=h.hW;omega
end
theorem zk{B:Nat}:∀{L n:Nat},n<B^L->gQ B (L+1) n=gQ B L n++[0]
 |0,n,h=>by
  have:n=0:=by simp at h;exact h
  subst this;rfl
 |L+1,n,h=>by
  have h2:n/B<B^L:=by
   rcases ago B with rfl|hB
   ·simp at h
   ·rw[afD hB];grind
  rw[gQ,zk h2];rfl
theorem Sf{B:Nat}{l:List Nat}(h:ok B l):gQ B l.length (val B l)=l:=(qn h rfl).symm
end Go.Am.N
namespace Go.Am
variable {o:Op}{v:AV}{rds:List Key}{vc:Prop}{T':TypeId}{xs:Array Operand}{ts:Array TypeId}{c:Ctx}{s:aB}{κ f:Nat}{p:Key×LB}{parts:Array (Nat×Operand)}
theorem gD.op{o o':Oper}{K:AV->List (Key×LB)->List Key->Nat->Prop}(ho:o'.op=o.op)(h:gD c o s κ K):gD c o' s κ K:=by
 unfold gD at *;grind
abbrev tq:=List Key×List Key
def bk(c:Ctx):List As->aB->Nat->List tq->(aB->Nat->List tq->Prop)->Prop
 |[],s,κ,acc,K=>K s κ acc
 |p::ps,s,κ,acc,K=>match p.g with
  |none=>gD c ⟨none,p.op,0, "",#[],none⟩ s κ λx us rds κ'=>bk c ps (aB.put ⟨s.fr,bg s.lv us⟩ p.dst x) κ' ((us.map (·.1),rds)::acc) K
  |some (t,w)=>oS t λt=>nS (ue (s.fr t) w)
   (λ_=>gD c ⟨none,p.op,0, "",#[],none⟩ s κ λx us rds κ'=>bk c ps (aB.put ⟨s.fr,bg s.lv us⟩ p.dst x) κ' ((us.map (·.1),rds)::acc) K)
   (λ_=>bk c ps (s.put p.dst .undef) κ (([],[])::acc) K)
def wQ(e:Fx):tq:=(e.us.map (·.1),e.rds)
theorem jF{c:Ctx}{ops:Array Oper}{K:aB->Nat->List tq->Prop}:∀{os:List Oper}{s:aB}{κ:Nat}{acc:List Fx},bk c (kD (ops.toList.map (·.dst)) os) s κ (acc.map wQ) K->gr c ops os s κ acc (λs κ acc=>K s κ (acc.map wQ))
 |[],s,κ,acc,h=>h
 | ⟨d,o,ty,pos,af,none⟩::os,s,κ,acc,h=>by
  simp only[kD,Em,bk]at h;simp only[gr,dN];refine gD.mono (gD.op (o:=⟨none,o,0, "",#[],none⟩) rfl h) λx us rds κ' h2=>?_;exact jF (acc:=⟨x,us,rds⟩::acc) h2
 | ⟨d,o,ty,pos,af,some (j,w)⟩::os,s,κ,acc,h=>by
  simp only[kD,Em,bk,Pu,oS,nS]at h;simp only[gr,dN];split at h
  ·rename_i t ht
   (try rw[ht];simp only)
   unfold ue at h;split at h
   ·rename_i hw
    split at hw
    ·rename_i b he
     (try rw[he];simp only[ah]at hw;simp only[hw])
     refine gD.mono (gD.op (o:=⟨none,o,0, "",#[],none⟩) rfl h) λx us rds κ' h2=>?_;exact jF (acc:=⟨x,us,rds⟩::acc) h2
    ·cases hw
    grind
   ·rename_i hw
    split at hw
    ·rename_i b he
     (try rw[he];simp only[ah]at hw;simp only[hw])
     exact jF (acc:=⟨.undef,[],[]⟩::acc) h
    ·rename_i he
     (try rw[he])
     exact jF (acc:=⟨.undef,[],[]⟩::acc) h
    grind
   grind
  grind
def WV(e e':tq):Bool:=e.1.all (λp=>!(e'.1.any λq=>q == p)&&!e'.2.contains p)&&e'.1.all (λp=>!e.2.contains p)
def Qq(ops:Array Oper)(es:List tq):Bool:=
 let ms:=iy ops.toList []
 (List.range es.length).all λj=>match es[j]? with
  |some e'=>(e'.1.isEmpty&&e'.2.isEmpty) ||(List.range j).all λi=>match es[i]? with
   |some e=>(e.1.isEmpty&&e.2.isEmpty) ||(ms.getD j 0).testBit i ||WV e e'
   |none=>true
  |none=>true
theorem Lx(e e':Fx):vP e e'=WV (wQ e) (wQ e'):=by
 simp only[vP,WV,wQ,List.all_map,List.any_map];rfl
theorem Ko(ops:Array Oper)(es:List Fx):Ek ops es=Qq ops (es.map wQ):=by
 have h1:∀e:Fx,idle e=((wQ e).1.isEmpty&&(wQ e).2.isEmpty):=λe=>by simp[idle,wQ]
 simp only[Ek,Qq,ab0,aeP];congr 1;funext j
 cases hj:es[j]? with
 |none=>rfl
 |some e'=>
  simp only[aeJ,h1];congr 2;funext i
  cases hi:es[i]? with
  |none=>rfl
  |some e=>simp only[aeJ,Lx]
theorem abx{r:Option Nat}{Q:Ex->aB->Nat->Prop}{id:Nat}{ops:Array Oper}(hm:c.P.follows .mixedOrders=true)(hst:mU ops=true)(hd:dM c.n ops.toList=true)
 (h:bk c (jc ops) s κ [] λs' κ' acc=>Qq ops acc.reverse=true/\Q .normal s' κ'):AW c r (.region id ops true) s κ Q:=by
 refine AW.draw hm hst hd ?_;have h1:=jF (acc:=[]) h;refine gr.mono h1 λs' κ' acc h2=>⟨?_,h2.2⟩
 rw[Ko,List.map_reverse];grind
def b9(c:Ctx)(ps:List As)(d:Option Tmp)(s:aB)(κ:Nat)(acc:List tq)(K:aB->Nat->List tq->Prop)(r:Option cG):Prop:=
 n5 r κ λx us rds κ'=>bk c ps (aB.put ⟨s.fr,bg s.lv us⟩ d x) κ' ((us.map (·.1),rds)::acc) K
def C0(c:Ctx)(o:Op)(ps:List As)(d:Option Tmp)(s:aB)(κ:Nat)(acc:List tq)(K:aB->Nat->List tq->Prop)(w:Option Bool):Prop:=
 match w with
 |some true=>bk c (⟨d,o,none⟩::ps) s κ acc K
 |some false=>bk c ps (s.put d .undef) κ (([],[])::acc) K
 |none=>False
def vF(c:Ctx)(f:FuncId)(xs:List AV)(ps:List As)(d:Option Tmp)(s:aB)(κ:Nat)(acc:List tq)(K:aB->Nat->List tq->Prop):Prop:=
 ag c f xs s.lv λx us rds κ'=>bk c ps (aB.put ⟨s.fr,bg s.lv us⟩ d x) κ' ((us.map (·.1),rds)::acc) K
def HR(c:Ctx)(tgt:Option (FuncId×List AV×List AV))(xs:List AV)(ps:List As)(d:Option Tmp)(s:aB)(κ:Nat)(acc:List tq)(K:aB->Nat->List tq->Prop):Prop:=
 match tgt with
 |some (f,fs,cs)=>aJ c.P f=true/\vF c f (fs++xs++cs) ps d s κ acc K
 |none=>False
section
variable {c:Ctx}{ps:List As}{d:Option Tmp}{s:aB}{κ:Nat}{acc:List tq}{K:aB->Nat->List tq->Prop}{T:TypeId}{x y z:Operand}
theorem gJ:bk c (⟨d,o,none⟩::ps) s κ acc K =
 gD c ⟨none,o,0, "",#[],none⟩ s κ λx us rds κ'=>bk c ps (aB.put ⟨s.fr,bg s.lv us⟩ d x) κ' ((us.map (·.1),rds)::acc) K:=rfl
@[simp]theorem Wc:bk c [] s κ acc K=K s κ acc:=propext ⟨id,id⟩
@[simp]theorem Ws:b9 c ps d s κ acc K (some (v,[],rds,vc))=(vc/\bk c ps (s.put d v) κ (([],rds)::acc) K):=propext ⟨id,id⟩
@[simp]theorem W8:b9 c ps d s κ acc K (some (v,[p],rds,vc))=(vc/\bk c ps (aB.put ⟨s.fr,az s.lv p.1 p.2⟩ d v) (κ+1) (([p.1],rds)::acc) K):=propext ⟨id,id⟩
@[simp]theorem WH{q:Key×LB}:b9 c ps d s κ acc K (some (v,[p,q],rds,vc))=(vc/\bk c ps (aB.put ⟨s.fr,az (az s.lv p.1 p.2) q.1 q.2⟩ d v) (κ+1) (([p.1,q.1],rds)::acc) K):=propext ⟨id,id⟩
@[simp]theorem X3:C0 c o ps d s κ acc K (some true)=bk c (⟨d,o,none⟩::ps) s κ acc K:=propext ⟨id,id⟩
@[simp]theorem XK:C0 c o ps d s κ acc K (some false)=bk c ps (s.put d .undef) κ (([],[])::acc) K:=propext ⟨id,id⟩
@[simp]theorem UP{f:FuncId}{xs:List AV}:HR c (some (f,[],[])) xs ps d s κ acc K=(aJ c.P f=true/\vF c f xs ps d s κ acc K):=by simp[HR]
@[simp]theorem ZB{t:Tmp}{w:Bool}:bk c (⟨d,o,some (some t,w)⟩::ps) s κ acc K=C0 c o ps d s κ acc K (ue (s.fr t) w):=propext ⟨id,id⟩
@[simp]theorem aaB:bk c (⟨d,.move x,none⟩::ps) s κ acc K=bk c ps (s.put d (s.val c.G x)) κ (([],[])::acc) K:=by rw[gJ,Fs];rfl
@[simp]theorem Xo:bk c (⟨d,.assign x,none⟩::ps) s κ acc K=bk c ps (s.put d (s.val c.G x)) κ (([],[])::acc) K:=by rw[gJ,yD];rfl
@[simp]theorem abo:bk c (⟨d,.pick x y z,none⟩::ps) s κ acc K=b9 c ps d s κ acc K (Gn (s.val c.G x) (s.val c.G y) (s.val c.G z)):=by rfl
@[simp]theorem ZQ:bk c (⟨d,.alloc T,none⟩::ps) s κ acc K=b9 c ps d s κ acc K (Dt c.P T s.lv κ):=by rfl
@[simp]theorem ZF:bk c (⟨d,.field T x f,none⟩::ps) s κ acc K=b9 c ps d s κ acc K (Dc c.P T f (s.val c.G x)):=by rfl
@[simp]theorem Tz:bk c (⟨d,.indexAddr T x y,none⟩::ps) s κ acc K=b9 c ps d s κ acc K (aq c.P T s.lv (s.val c.G x) (s.val c.G y)):=by rfl
@[simp]theorem Zs:bk c (⟨d,.index T x y,none⟩::ps) s κ acc K=b9 c ps d s κ acc K (gh c.P T (s.val c.G x) (s.val c.G y)):=by rfl
@[simp]theorem acj{i:Nat}:bk c (⟨d,.extract x i,none⟩::ps) s κ acc K=b9 c ps d s κ acc K (ux i (s.val c.G x)):=by rfl
@[simp]theorem abR:bk c (⟨d,.makeInterface T x,none⟩::ps) s κ acc K=b9 c ps d s κ acc K (Sx c.P T (s.val c.G x)):=by rfl
@[simp]theorem acm:bk c (⟨d,.makeSlice T x y,none⟩::ps) s κ acc K=b9 c ps d s κ acc K (gN c.P T s.lv κ (s.val c.G x) (s.val c.G y)):=by rfl
@[simp]theorem Wk:bk c (⟨d,.slice T x none none none,none⟩::ps) s κ acc K=b9 c ps d s κ acc K (bG c.P T s.lv (s.val c.G x) none none):=by rfl
@[simp]theorem Wo:bk c (⟨d,.slice T x (some y) none none,none⟩::ps) s κ acc K=b9 c ps d s κ acc K (bG c.P T s.lv (s.val c.G x) (some (s.val c.G y)) none):=by rfl
@[simp]theorem Wa:bk c (⟨d,.slice T x none (some y) none,none⟩::ps) s κ acc K=b9 c ps d s κ acc K (bG c.P T s.lv (s.val c.G x) none (some (s.val c.G y))):=by rfl
@[simp]theorem U8:bk c (⟨d,.slice T x (some y) (some z) none,none⟩::ps) s κ acc K=b9 c ps d s κ acc K (bG c.P T s.lv (s.val c.G x) (some (s.val c.G y)) (some (s.val c.G z))):=by rfl
@[simp]theorem acd:bk c (⟨d,.call { callee:=.builtin .len,args:=#[x],argTypes:=#[T] },none⟩::ps) s κ acc K=b9 c ps d s κ acc K (fX c.P T s.lv (s.val c.G x)):=by rfl
@[simp]theorem XN:bk c (⟨d,.call { callee:=.builtin .append,args:=#[x,y],argTypes:=#[T,T'] },none⟩::ps) s κ acc K=b9 c ps d s κ acc K (if T=T' then eo c.P T s.lv κ (s.val c.G x) (s.val c.G y)else none):=by rfl
@[simp]theorem aaQ:bk c (⟨d,.call { callee:=.value x,args:=xs,argTypes:=ts },none⟩::ps) s κ acc K=HR c (jW (s.val c.G x)) (xs.toList.map (s.val c.G)) ps d s κ acc K:=by
 rfl
@[simp]theorem acz{op:BinOp}:bk c (⟨d,.binOp op T x y T',none⟩::ps) s κ acc K=b9 c ps d s κ acc K (aO c.P op T (s.val c.G x) (s.val c.G y)):=by rfl
@[simp]theorem adQ{op:UnOp}:bk c (⟨d,.unOp op T x,none⟩::ps) s κ acc K=b9 c ps d s κ acc K (MP op (s.val c.G x)):=by rfl
@[simp]theorem abg:bk c (⟨d,.load T x,none⟩::ps) s κ acc K=b9 c ps d s κ acc K (aF c.P T s.lv (s.val c.G x)):=by rfl
@[simp]theorem Za:bk c (⟨d,.store T x y,none⟩::ps) s κ acc K=b9 c ps d s κ acc K (aK c.P T s.lv (s.val c.G x) (s.val c.G y)):=by rfl
@[simp]theorem acG:bk c (⟨d,.box T x,none⟩::ps) s κ acc K=b9 c ps d s κ acc K (So T (s.val c.G x) s.lv κ):=by rfl
@[simp]theorem QL:bk c (⟨d,.nilCheck x,none⟩::ps) s κ acc K=b9 c ps d s κ acc K (gV s.lv (s.val c.G x)):=by rfl
@[simp]theorem abu{S:TypeId}:bk c (⟨d,.convert S T x,none⟩::ps) s κ acc K=b9 c ps d s κ acc K (J5 c.P S T (s.val c.G x)):=by rfl
@[simp]theorem R2:bk c (⟨d,.fieldAddr T x f,none⟩::ps) s κ acc K=b9 c ps d s κ acc K (bW c.P T f s.lv (s.val c.G x)):=by rfl
@[simp]theorem ZJ:bk c (⟨d,.build T parts,none⟩::ps) s κ acc K=b9 c ps d s κ acc K (eS c.P T (parts.toList.map (·.1)) (parts.toList.map λp=>s.val c.G p.2)):=by
 rw[gJ];simp only[gD,dA,Op.operands,b9,n5,eS,aed,ab0,afJ];rfl
@[simp]theorem Q5{n:Nat}:bk c (⟨d,.buildSlice T n parts,none⟩::ps) s κ acc K=b9 c ps d s κ acc K (ak c.P T n (parts.toList.map (·.1)) s.lv κ (parts.toList.map λp=>s.val c.G p.2)):=by
 rw[gJ];simp only[gD,dA,Op.operands,b9,n5,aed];rfl
@[simp]theorem aa8:bk c (⟨d,.call { callee:=.builtin .copy,args:=#[x,y],argTypes:=#[T,T'] },none⟩::ps) s κ acc K=b9 c ps d s κ acc K (iw c.P T s.lv (s.val c.G x) (s.val c.G y)):=by
 rfl
@[simp]theorem ac6:bk c (⟨d,.call { callee:=.builtin .max,args:=xs,argTypes:=ts },none⟩::ps) s κ acc K=b9 c ps d s κ acc K (match dF (xs.toList.map (s.val c.G))with
 |some (k,n::l)=>some (.c (.d (.int k (l.foldl (λa b=>if b > a then b else a) n))),[],[],True)
 |_=>none):=by
 rw[gJ];simp only[gD,dA,lC,Op.operands,Call.operands,b9,n5,af7];rfl
@[simp]theorem acp:bk c (⟨d,.call { callee:=.builtin .min,args:=xs,argTypes:=ts },none⟩::ps) s κ acc K=b9 c ps d s κ acc K (match dF (xs.toList.map (s.val c.G))with
 |some (k,n::l)=>some (.c (.d (.int k (l.foldl (λa b=>if b<a then b else a) n))),[],[],True)
 |_=>none):=by
 rw[gJ];simp only[gD,dA,lC,Op.operands,Call.operands,b9,n5,af7];rfl
end
end Go.Am
namespace Go.Am
open N
variable {x y:AV}{c:Ctx}{n D B κ j k i nx E id N C q W:Nat}{s s' s0:aB}{o:Oper}{g:Key->Key}{lv lv':Key->LB}{us:List (Key×LB)}{f:FuncId}{ops:Array Oper}{P:Program}{rds l lg:List Key}{os:List Oper}{op:Op}{rf d:Option Nat}{G:List (List DV)}{r:dm}{fr:Nat->AV}{vals args xs:List AV}{cl:Call}{fn:Func}{code:Code}{T T':TypeId}{own fz:Bool}{e:Ex}{b:LB}{cs cs':List CV}{K:aB->Nat->Prop}{ν σ σ':List LB}{w lo:Rat}{Q:Ex->aB->Nat->Prop}{F:Nat->Prop}{β:Key->Nat}{call:eJ}{fo:Operand}{ok:(Key->LB)->Prop}{first caps:Array Operand}
theorem vF.qG{ps:List As}{d:Option Tmp}{acc:List tq}{K:aB->Nat->List tq->Prop}(κ':Nat)(kh:Key)(κb:Key){k:IntKind}{l:List Nat}(n:Nat)(hn:n<=l.length)(hk:s.lv κb=.cells true false T (wK k l))(hl:l.length<=9223372036854775807)
 (hc:aa c.P c.G f [nK k (some (l.take n))] x) (hx:x.pure=true) (hh:s.lv kh=.hole) (hkh:kh≠κb) (hK:bk c ps (aB.put ⟨s.fr,az s.lv κb (.cells true true T (wK k l))⟩ d x) κ' (([κb],[kh])::acc) K):vF c f [.c (.aH κb 0 n 1)] ps d s κ acc K:=by
 refine ag.Ya κ' kh κb T (wK k l) [kh] hc hx hk hh hkh rfl (λi p q=>?_) (λa ha j hj=>?_) (by simp) hK
 ·have hi:i=0:=by simp at p;omega
  subst hi;right;have h1:(wK k l).take n=wK k (l.take n):=by simp[wK,List.map_take]
  have hln:(l.take n).length=n:=by rw[aej];omega
  simp only[aeQ,eZ,gu,aA,OG,afC,aeC,aeu,h1,yE,aeJ];rw[if_pos ⟨hn,by omega⟩];have h2:=Bo ((l.take n).map λ(x:Nat)=>DV.int k (x:Int));rw[ab0,hln]at h2;simp only[aeJ,h2];simp[nK,dK];rfl
 ·simp only[afe]at ha;subst ha;simp only[wm,jb,aY,aA]at hj;rcases hj with rfl|hj
  ·simp
  ·simp only[afn]at hj;obtain⟨y,hy,hj⟩:=hj;simp only[wK,ae7]at hy;obtain⟨z,_,rfl⟩:=hy
   cases hj
section
variable {c:Ctx}{r:Option Nat}{s s':aB}{κ κ':Nat}{Q:Ex->aB->Nat->Prop}{id:Nat}{ops:Array Oper}{y:Code}
theorem AW.e1{a1:Prop}(hm:c.P.follows .mixedOrders=true)(e1:a1)(h:AW c r y s' κ' Q)(hst:mU ops=true:=by kernel_rfl)(hd:dM c.n ops.toList=true:=by exact rfl)(hq:ops.toList.all (λo=>l9 o.op)=true:=by exact rfl)(hr:a1->∀K:aB->Nat->Prop,K s' κ'->aZ c (jc ops) s κ K:=by intro e1 K k;simp[e1];(repeat refine aj ?_);exact k):AW c r (.seq (.region id ops true) y) s κ Q:=
 aaa λK hK=>acX hm hst hd hq (hr e1 K (hK _ _ h))
theorem AW.d3{a1:Prop}{a2:Prop}{a3:Prop}(hm:c.P.follows .mixedOrders=true)(e1:a1)(e2:a2)(e3:a3)(h:AW c r y s' κ' Q)(hst:mU ops=true:=by kernel_rfl)(hd:dM c.n ops.toList=true:=by exact rfl)(hr:a1->a2->a3->∀K:aB->Nat->Prop,K s' κ'->bk c (jc ops) s κ [] λs' κ' acc=>Qq ops acc.reverse=true/\K s' κ':=by intro e1 e2 e3 K k;simp[e1,e2,e3];(repeat refine aj ?_);refine⟨by kernel_rfl,?_⟩;(repeat refine aj ?_);exact k):AW c r (.seq (.region id ops true) y) s κ Q:=
 aaa λK hK=>abx hm hst hd (hr e1 e2 e3 K (hK _ _ h))
theorem AW.e4{a1:Prop}{a2:Prop}{a3:Prop}{a4:Prop}(hm:c.P.follows .mixedOrders=true)(e1:a1)(e2:a2)(e3:a3)(e4:a4)(h:AW c r y s' κ' Q)(hst:mU ops=true:=by kernel_rfl)(hd:dM c.n ops.toList=true:=by exact rfl)(hq:ops.toList.all (λo=>l9 o.op)=true:=by exact rfl)(hr:a1->a2->a3->a4->∀K:aB->Nat->Prop,K s' κ'->aZ c (jc ops) s κ K:=by intro e1 e2 e3 e4 K k;simp[e1,e2,e3,e4];(repeat refine aj ?_);exact k):AW c r (.seq (.region id ops true) y) s κ Q:=
 aaa λK hK=>acX hm hst hd hq (hr e1 e2 e3 e4 K (hK _ _ h))
end
section
variable {c:Ctx}{r:Option Nat}{ops:Array Oper}
def fY(c:Ctx)(r:Option Nat)(ops:Array Oper)(o:Oper)(s s1:aB):Prop:=
 ∀F β a w K Q,aD c F β s a w->(∀F' β' a' w',aD c F' β' s1 a' w'->K a' w') ->
  if Region.wanted o (yielded ops a.tmps)then o.wpIn (sX r) 0 c.P a w K Q else K (a.put o.dst undef) w
theorem fY.PD{e:Fx}(h:cY c r ops o s e):fY c r ops o s (e.app o.dst s):=
 λF β a w K Q hs hK=>h s (λ_ _=>rfl) ⟨λ_ _=>rfl,λ_ _=>rfl⟩ F β a w K Q hs hK
def r4(c:Ctx)(r:Option Nat)(ops:Array Oper):List Oper->aB->aB->Prop
 |[],s,s'=>s'=s
 |o::os,s,s'=>∃s1,fY c r ops o s s1/\r4 c r ops os s1 s'
theorem r4.opers{Q:Exit->Act->World->Prop}:∀{os:List Oper}{s s':aB}(n:Nat),ops.toList.drop n=os->r4 c r ops os s s' ->
 (∀F' β' a' w',aD c F' β' s' a' w'->Q .normal a' w')->∀F β a w,aD c F β s a w->wpOpsIn (sX r) 0 c.P ops Q (List.range' n os.length) a w
 |[],s,s',n,_,h,hQ=>λF β a w hs=>by
  have h:s'=s:=h;subst h;exact hQ F β a w hs
 |o::os,s,s',n,h1,h,hQ=>λF β a w hs=>by
  obtain⟨s1,h2,h3⟩:=h
  have ho:ops[n]?=some o:=by
   have:(ops.toList.drop n)[0]?=some o:=by rw[h1];rfl
   rw[afL]at this;simpa using this
  have ih:=r4.opers (os:=os) (n+1) (by rw[<-afB,h1];rfl) h3 hQ;have key:=h2 F β a w (wpOpsIn (sX r) 0 c.P ops Q (List.range' (n+1) os.length)) Q hs (λF' β' a' w' h'=>ih F' β' a' w' h');simp only[aef,agw];rw[wpOpsIn_cons];unfold wpOpIn;rw[ho];simp only;split at key
  ·grind
  ·rename_i hw;rw[if_neg hw];exact⟨λ_ _=>trivial,key⟩
theorem AW.JT(h:r4 c r ops ops.toList s s')(hQ:Q .normal s' κ):AW c r (.region id ops false) s κ Q:=by
 intro F β a w hs;refine wpIn_region ?_;have:=r4.opers (Q:=Post c Q) 0 rfl h (λF' β' a' w' h'=>⟨.normal,s',κ,F',β',hQ,h',rfl⟩) F β a w hs;rw[List.range_eq_range']
 grind
end
theorem di.enter{w:World}(hS:di (dW P G w F β lv) F β lv w){a:Act}(h1:a.tmps.size=n)(h2:a.defers=[])
 (h3:∀t,(Vw.mk F β lv w).av (a.tmps.getD t undef) (fr t)):aD { dW P G w F β lv with n:=n } F β ⟨fr,lv⟩ a w:=
 di.with (c:={ dW P G w F β lv with n:=n }) hS h1 h2 h3
section
variable {P:Program}{T:TypeId}{lv:Key->LB}{κ:Key}{v:AV}{us:List (Key×LB)}{rds:List Key}
theorem Ik{op:BinOp}(h:vf P op T x y=some (v,us,rds,true)):∃vc,aO P op T x y=some (v,us,rds,vc)/\vc:=by
 unfold vf at h;unfold aO
 (repeat' split at h)<;>simp_all<;>exact⟨True,trivial⟩
theorem D7(h:sg P T lv x=some (v,us,rds,true)):∃vc,aF P T lv x=some (v,us,rds,vc)/\vc:=by
 unfold sg at h;unfold aF
 (repeat' split at h)<;>simp_all<;>exact⟨True,trivial⟩
theorem BN(h:oH P T lv x y=some (v,us,rds,true)):∃vc,aK P T lv x y=some (v,us,rds,vc)/\vc:=by
 unfold oH at h;unfold aK
 (repeat' split at h)<;>simp_all<;>exact⟨True,trivial⟩
theorem HE(h:vn lv x=some (v,us,rds,true)):∃vc,gV lv x=some (v,us,rds,vc)/\vc:=by
 unfold vn at h;unfold gV
 (repeat' split at h)<;>simp_all<;>exact⟨True,trivial⟩
theorem vu{f:Nat}(h:ku P T f lv x=some (v,us,rds,true)):∃vc,bW P T f lv x=some (v,us,rds,vc)/\vc:=by
 unfold ku at h;unfold bW
 (repeat' split at h)<;>simp_all<;>exact⟨True,trivial⟩
theorem vg{i:AV}(h:kz P T lv x i=some (v,us,rds,true)):∃vc,aq P T lv x i=some (v,us,rds,vc)/\vc:=by
 unfold kz at h;unfold aq
 (repeat' split at h)<;>first|(cases h;done)|(simp only[ah,M1,decide_eq_true_eq]at h;obtain⟨rfl,rfl,rfl,h⟩:=h;refine⟨_,?_,h⟩;grind)
theorem Di{i:AV}(h:pJ P T x i=some (v,us,rds,true)):∃vc,gh P T x i=some (v,us,rds,vc)/\vc:=by
 unfold pJ at h;unfold gh
 (repeat' split at h)<;>first|(cases h;done)|(simp only[ah,M1,decide_eq_true_eq]at h;obtain⟨rfl,rfl,rfl,h⟩:=h;refine⟨_,?_,h⟩;grind)
theorem tI{lo hi:Option AV}(h:oL P T lv x lo hi=some (v,us,rds,true)):∃vc,bG P T lv x lo hi=some (v,us,rds,vc)/\vc:=by
 unfold oL at h;unfold bG
 (repeat' split at h)<;>simp_all<;>exact⟨True,trivial⟩
theorem EN(h:rY P T lv κ x y=some (v,us,rds,true)):∃vc,gN P T lv κ x y=some (v,us,rds,vc)/\vc:=by
 unfold rY at h;unfold gN
 (repeat' split at h)<;>simp_all<;>exact⟨True,trivial⟩
theorem Az(h:nv P T lv κ x y=some (v,us,rds,true)):∃vc,eo P T lv κ x y=some (v,us,rds,vc)/\vc:=by
 unfold nv at h;unfold eo
 (repeat' split at h)<;>simp_all<;>exact⟨True,trivial⟩
theorem uE{ixs:List Nat}(h:jH P T n ixs lv κ vals=some (v,us,rds,true)):∃vc,ak P T n ixs lv κ vals=some (v,us,rds,vc)/\vc:=by
 unfold jH at h;unfold ak
 (repeat' split at h)<;>simp_all<;>exact⟨True,trivial⟩
theorem Gr(h:r5 P T lv y x=some (v,us,rds,true)):∃vc,iw P T lv y x=some (v,us,rds,vc)/\vc:=by
 unfold r5 at h;unfold iw
 (repeat' split at h)<;>first|(cases h;done)|(simp only[ah,M1,decide_eq_true_eq]at h;obtain⟨rfl,rfl,rfl,h⟩:=h;refine⟨_,?_,h⟩;grind)
theorem OY(h:CC P cl vals lv κ=some (v,us,rds,true)):∃vc,lC P cl vals lv κ=some (v,us,rds,vc)/\vc:=by
 unfold CC at h;unfold lC;split at h
 ·split at h
  ·split at h
   ·simp only[ah,M1]at h;obtain⟨rfl,rfl,rfl,h⟩:=h
    rename_i n hn
    refine⟨_,?_,HF h⟩;grind
   grind
  grind
 ·split at h
  ·split at h
   ·rename_i hT;subst hT;obtain⟨vc,h1,h2⟩:=Az h;grind
   grind
  grind
 ·split at h
  ·obtain⟨vc,h1,h2⟩:=Gr h;grind
  grind
 ·split at h
  ·simp_all;exact⟨True,trivial⟩
  grind
 ·split at h
  ·simp_all;exact⟨True,trivial⟩
  grind
 grind
def abB(P:Program):Prop:=∀op vals lv κ x us rds,uv P op vals lv κ=some (x,us,rds,true)->∃vc,dA P op vals lv κ=some (x,us,rds,vc)/\vc
theorem ZX(P:Program):abB P:=by
 intro op vals lv κ v us rds h;unfold uv at h;unfold dA;split at h
 all_goals first
  |exact uE h
  |exact D7 h
  |exact BN h
  |exact HE h
  |exact Ik h
  |exact EN h
  |exact vu h
  |exact vg h
  |exact Di h
  |exact OY h
  |(cases h;done)
  |(split at h;(obtain⟨vc,h1,h2⟩:=tI h;refine⟨vc,?_,h2⟩;simp only[*];done);(cases h;done))
  |((repeat' split at h)<;>first|(cases h;done)|(simp only[ah,M1,and_true]at h;obtain⟨rfl,rfl,rfl⟩:=h;refine⟨True,?_,trivial⟩;simp only[*,if_true];done))
  |skip
 split at h
 ·rename_i l hh hb
  obtain⟨vc,h1,h2⟩:=tI h
  grind
 grind
end
def Good(r:dm):Prop:=∀n o,r≠.bad n o
theorem Good.ne(h:Good r){o:List Op}:dm.bad n o≠r:=λe=>h n o e.symm
noncomputable def SS(fr:Tb AV)(lv:Tb LB):aB:=⟨kF fr,bf lv⟩
def ko(lv lv':Tb LB)(l:List Key):Prop:=∀k,k ∉ l->bf lv' k=bf lv k
theorem ko.refl(lv:Tb LB):ko lv lv []:=λ_ _=>rfl
theorem ko.trans{a b c:Tb LB}{m:List Key}(h1:ko a b l)(h2:ko b c m):ko a c (m++l):=by
 intro k hk;rw[afo]at hk;rw[h2 k (λh=>hk (.inl h)),h1 k (λh=>hk (.inr h))]
theorem QN(us:List (Key×LB)):(uQ us).map (·.1)=us.map (·.1):=by simp[uQ]
theorem Ea:∀{lv lv':Key->LB},(∀k,lv' k=lv k\/lv' k=(lv k).un)->∀k,bg lv' (uQ us) k=bg lv us k\/bg lv' (uQ us) k=(bg lv us k).un:=by
 induction us with
 |nil=>intro lv lv' h k;exact h k
 |cons p us ih=>
  intro lv lv' h k;show bg (az lv' p.1 p.2.un) (uQ us) k=bg (az lv p.1 p.2) us k\/_=(bg (az lv p.1 p.2) us k).un;refine ih (λj=>?_) k
  by_cases e:j=p.1
  ·subst e;rw[aA,aA];simp
  ·rw[aE _ _ e,aE _ _ e];exact h j
theorem LB.Vk(x:LB):x.sub x.un:=by cases x<;>simp[LB.un,LB.sub]
theorem LB.Ru(x:LB):x.un.live=x.live:=by
 cases x with
 |cells o fz T cs=>cases fz<;>rfl
 |_=>rfl
theorem D6{b:Nat}(h:eU c own b):eU c false b:=rZ h (by simp)
theorem aD.forget{a:Act}{w:World}(h:aD c F β ⟨fr,lv⟩ a w)(hl:∀k,lv' k=lv k\/lv' k=(lv k).un):aD c F β ⟨fr,lv'⟩ a w:=by
 have hsub:∀k,(lv k).sub (lv' k):=by
  intro k;rcases hl k with e|e<;>rw[e]
  ·exact LB.bE _
  ·exact LB.Vk _
 have hlive:∀k,(lv' k).live=(lv k).live:=by
  intro k;rcases hl k with e|e<;>rw[e]
  exact LB.Ru _
 refine h.step (λ_ h=>h) (λ_ _=>rfl) hsub (λ_ _ _=>rfl) (λ_=>bh _) ?_ ?_ (λb h=>.inl h) (bh _) (λ_ _ _=>rfl)
 ·intro k hK;have hb:=h.bK k;unfold Vw.bK at hb ⊢;rcases hl k with e|e
  ·simp only[e]
   cases ek:lv k with
   |cells own fz T cs=>
    simp only[ek]at hb;obtain⟨arr,b1,b2,b3,b4,b5⟩:=hb;exact⟨arr,b1,b2,λi p q=>hK.cv (b3 i p q),b4,b5⟩
   |map own es=>
    simp only[ek]at hb;obtain⟨x,y,b1,b2,b3,b4,b5⟩:=hb;exact⟨x,y,b1,b2,λi p q=>⟨Rd.mono (gT hK.F hK.mem) (b3 i p q).1,hK.oq (b3 i p q).2⟩,b4,b5⟩
   |_=>trivial
  ·simp only[e]
   cases ek:lv k with
   |cells own fz T cs=>
    simp only[ek]at hb;obtain⟨arr,b1,b2,b3,b4,b5⟩:=hb;exact⟨arr,b1,b2,λi p q=>hK.cv (b3 i p q),b4,D6 b5⟩
   |map own es=>
    simp only[ek]at hb;obtain⟨x,y,b1,b2,b3,b4,b5⟩:=hb;exact⟨x,y,b1,b2,λi p q=>⟨Rd.mono (gT hK.F hK.mem) (b3 i p q).1,hK.oq (b3 i p q).2⟩,b4,D6 b5⟩
   |_=>trivial
 ·intro k k' h1 h2 he;rw[hlive]at h1 h2;exact h.inj _ _ h1 h2 he
theorem bT.un(h:bT c o s (aB.put ⟨s.fr,bg s.lv us⟩ d x)):bT c o s (aB.put ⟨s.fr,bg s.lv (uQ us)⟩ d x):=by
 intro F β a w K Q hs hK;refine h F β a w K Q hs λF' β' a' w' h'=>hK F' β' a' w' ?_;have hl:∀k,bg s.lv (uQ us) k=bg s.lv us k\/bg s.lv (uQ us) k=(bg s.lv us k).un:=Ea (λ_=>.inl rfl)
 cases d with
 |none=>exact aD.forget h' hl
 |some d=>exact aD.forget h' hl
theorem zA:∀{us:List (Key×LB)}{lv:Tb LB}{lg:List Key}{k:Tb LB->List Key->dm}{r:dm},AY us lv lg k=r->Good r->cD (bf lv) ->
 ∃lv' l,k lv' (l++lg)=r/\bf lv'=bg (bf lv) (uQ us)/\cD (bf lv')/\ko lv lv' l
 |[],lv,lg,k,r,h,hg,ho=>⟨lv,[],h,rfl,ho,ko.refl _⟩
 |p::us,lv,lg,k,r,h,hg,ho=>by
  have h1:(cO p.1 λq=>vO p.2 λb=>fu b.okB (.bad 3 []) (Tb.Ct .hole b (pathOf q) lv λlv=>AY us lv (q::lg) k))=r:=h;rw[iU,A4]at h1;obtain⟨hb,h1⟩:=dH h1 hg.ne;rw[Tb.me]at h1;have hset:=Et lv p.1 p.2.un
  have ho1:cD (bf (lv.set .hole p.2.un (pathOf p.1))):=by
   intro j;rw[hset]
   by_cases e:j=p.1
   ·subst e;rw[aA];exact hb
   ·rw[aE _ _ e];exact ho j
  obtain⟨lv',l,e1,e2,e3,e4⟩:=zA h1 hg ho1;refine⟨lv',l++[p.1],by grind,?_,e3,?_⟩
  ·rw[e2,hset];rfl
  ·intro j hj;simp only[afo,afe,not_or]at hj;rw[e4 j hj.1,hset,aE _ _ hj.2]
def Ox(d:Option Nat)(x:AV)(fr:Nat->AV):Nat->AV:=match d with|some d=>az fr d x|none=>fr
theorem tZ(d:Option Nat)(x:AV)(fr:Nat->AV)(lv:Key->LB):aB.put ⟨fr,lv⟩ d x=⟨Ox d x fr,lv⟩:=by cases d<;>rfl
theorem lp{fr:Tb AV}{k:Tb AV->dm}(h:eX d x fr k=r):∃fr',k fr'=r/\kF fr'=Ox d x (kF fr):=by
 cases d with
 |none=>exact⟨fr,h,rfl⟩
 |some d=>
  have h1:(dS x λx=>Tb.Ct .undef x (pathOf d) fr k)=r:=h;rw[iR,Tb.me]at h1;exact⟨_,h1,DQ fr d x⟩
theorem Ia:∀{us:List (Key×LB)}{nx:Nat}{k:Nat->dm}{r:dm},QY nx us k=r->∃nx',k nx'=r
 |[],nx,k,r,h=>⟨nx,h⟩
 |p::us,nx,k,r,h=>by
  have h1:fu (Nat.beq p.1 nx) (QY nx us k) (cO nx λn=>k (Nat.succ n))=r:=h
  cases hb:Nat.beq p.1 nx with
  |false=>rw[hb]at h1;exact Ia (us:=us) h1
  | true=>rw [hb] at h1;have h2:(cO nx fun n=>k (Nat.succ n))=r:=h1
          rw[iU]at h2;grind
theorem s6(G:List (List DV))(fr:Tb AV)(lv:Key->LB)(x:Operand):vm G fr x=(aB.mk (kF fr) lv).val G x:=by cases x<;>rfl
theorem pe(G:List (List DV))(fr:Tb AV)(lv:Key->LB):∀(l:List Operand),gZ G fr l=l.map ((aB.mk (kF fr) lv).val G)
 |[]=>rfl
 |x::l=>by
  show vm G fr x::gZ G fr l=_;rw[s6 G fr lv,pe G fr lv l];rfl
def lD(P:Program)(op:Op)(vals:List AV)(lv:Key->LB)(κ:Nat)(x:AV)(us:List (Key×LB))(rds:List Key):Prop:=
 (∃vc,dA P op vals lv κ=some (x,us,rds,vc)/\vc)\/fj P op vals lv κ=some (x,us,rds)
theorem QA{lv:Tb LB}{k:AV->List (Key×LB)->List Key->dm}(h:UX P op vals lv nx k=r)(hg:Good r):
 ∃x us rds,k x us rds=r/\lD P op vals (bf lv) nx x us rds:=by
 unfold UX at h
 cases e:uv P op vals (bf lv) nx with
 |none=>
  rw[e]at h;obtain⟨q,h1,h2⟩:=dw (x:=fj P op vals (bf lv) nx) h hg.ne;exact⟨_,_,_,h2,.inr h1⟩
 |some q=>
  rw[e]at h;obtain⟨x,us,rds,b⟩:=q;have h':fu b (lR (fj P op vals (bf lv) nx) (.bad 1 [op]) λr=>k r.1 r.2.1 r.2.2) (k x us rds)=r:=h
  cases b with
  |true=>
   obtain⟨vc,h1,h2⟩:=ZX P _ _ _ _ _ _ _ e;exact⟨x,us,rds,h',.inl ⟨vc,h1,h2⟩⟩
  |false=>
   obtain⟨q,h1,h2⟩:=dw (x:=fj P op vals (bf lv) nx) h' hg.ne;exact⟨_,_,_,h2,.inr h1⟩
theorem lD.UF(hd:∀d,o.dst=some d->d<c.n)
 (h:lD c.P o.op (o.op.operands.toList.map (s.val c.G)) s.lv κ x us rds):bT c o s (aB.put ⟨s.fr,bg s.lv us⟩ o.dst x):=by
 rcases h with⟨vc,h1,h2⟩|h1
 ·exact Bv hd rfl rfl h1 h2
 ·exact Ba hd rfl rfl h1
theorem lD.local(h:lD P op vals lv κ x us rds)(ha:Agree lv lv' us rds):lD P op vals lv' κ x us rds:=by
 rcases h with⟨vc,h1,h2⟩|h1
 ·exact .inl ⟨vc,oZ h1 ha,h2⟩
 ·exact .inr (vZ h1 ha)
def kg(P:Program)(G:List (List DV))(call:eJ):Prop:=∀f us lv nx lg kr kp r,call f us lv nx lg kr kp=r->Good r->cD (bf lv) ->
 (∃x lv' nx' l,kr x lv' nx' (l++lg)=r/\aW P G f us (bf lv) (.ret x (bf lv'))/\cD (bf lv')/\ko lv lv' l) \/
 (∃d lv' nx' l,kp d lv' nx' (l++lg)=r/\aW P G f us (bf lv) (.uR d (bf lv'))/\cD (bf lv')/\ko lv lv' l)
section
variable {P:Program}{G:List (List DV)}
theorem Fp(hc:kg P G call){fr:Tb AV}{lv:Tb LB}{kr:IB}{kp:TA}
 (h:wC P G call op cl fo fr lv nx lg kr kp=r) (hg:Good r) (ho:cD (bf lv)) :
 ∃f fs cs,nR P ((SS fr lv).val G) cl.callee=some (f,fs,cs)/\aJ P f=true /\
  ((∃x lv' nx' l,kr x lv' nx' (l++lg)=r/\aW P G f (fs++cl.args.toList.map ((SS fr lv).val G)++cs) (bf lv) (.ret x (bf lv'))/\cD (bf lv')/\ko lv lv' l) \/
  (∃d lv' nx' l,kp d lv' nx' (l++lg)=r/\aW P G f (fs++cl.args.toList.map ((SS fr lv).val G)++cs) (bf lv) (.uR d (bf lv'))/\cD (bf lv')/\ko lv lv' l)):=by
 unfold wC at h;obtain⟨⟨f,fs,cs⟩,h1,h2⟩:=dw h hg.ne;obtain⟨h3,h4⟩:=dH h2 hg.ne;rw[show vm G fr=(SS fr lv).val G from funext (s6 G fr (bf lv))]at h1;rw[pe G fr (bf lv)]at h4;exact⟨f,fs,cs,h1,h3,hc _ _ _ _ _ _ _ _ h4 hg ho⟩
theorem Be(h:vo op=.call cl fo):op=.call cl/\∀b,cl.callee≠.builtin b:=by
 unfold vo at h;split at h
 ·cases h
 ·rename_i cl'
  split at h
  ·rename_i e;cases h;exact⟨rfl,λb hb=>by rw[e]at hb;cases hb⟩
  ·rename_i e;cases h;exact⟨rfl,λb hb=>by rw[e]at hb;cases hb⟩
  ·cases h
 ·cases h
theorem Mv{x:Operand}(h:vo op=.uR x):op=.panic x:=by
 unfold vo at h
 grind
theorem R5{k:DV->dm}{b:dm}(h:Qo x k b=r)(hb:b≠r):∃t d,x=.c (.d (.iface t d))/\k (.iface t d)=r:=by
 unfold Qo at h
 grind
theorem G9{x:Operand}{t:TypeId}{d:DV}(ho:o.op=.panic x)(hx:s.val c.G x=.c (.d (.iface t d))):VO c o s (.iface t d) s:=by
 intro F β a w K Q hs hK;have hv:=hx▸hs.val x;obtain⟨hv,_⟩:=hv;obtain⟨u,hu⟩:∃u,a.eval x=u:=⟨_,rfl⟩
 rw[hu]at hv;have hv':=hv
 cases hv with
 |iface _ u' _ hr=>
  have hrun:(execOp a.eval o).run c.P w=.halt (.panic (.iface t u')) w:=by
   simp[execOp,ho,hu,Instr.panic,goPanic,Sem.run]
  unfold Oper.wp;rw[hrun,Oper.upon_panic];exact hK F β _ a w hs hv'
def gB(P:Program)(G:List (List DV))(ops:Array Oper)(os:List Oper)(s s':aB)(e:Ex):Prop:=
 ∀(c:Ctx) (rf:Option Nat) (n:Nat) (Q:Exit->Act->World->Prop),c.P=P->c.G=G->dM c.n os=true->ops.toList.drop n=os ->
  (∀F' β' a' w' ex,aD c F' β' s' a' w'->Eh e ex F' w'->Q ex a' w')->∀F β a w,aD c F β s a w->wpOpsIn (sX rf) 0 c.P ops Q (List.range' n os.length) a w
theorem zo(h:ops.toList.drop n=o::os):ops[n]?=some o/\ops.toList.drop (n+1)=os:=by
 constructor
 ·have:(ops.toList.drop n)[0]?=some o:=by rw[h];rfl
  grind
 ·rw[<-afB,h];rfl
theorem kQ(h:dM n (o::os)=true):(∀d,o.dst=some d->d<n)/\dM n os=true:=by
 simp only[dM,afx,rP]at h;refine⟨λd hd=>?_,h.2⟩
 grind
theorem gB.cons{s1:aB}(hw:dN ops o.guard s.fr=some true)(hdf:∀cl,o.op≠.defer cl)
 (h:∀c:Ctx,c.P=P->c.G=G->(∀d,o.dst=some d->d<c.n)->bT c o s s1) (hk:gB P G ops os s1 s' e):gB P G ops (o::os) s s' e:=by
 intro c rf n Q hP hG hd hdr hQ F β a w hs;obtain⟨ho,hdr'⟩:=zo hdr;obtain⟨hd1,hd2⟩:=kQ hd;have ih:=hk c rf (n+1) Q hP hG hd2 hdr' hQ;simp only[aef,agw];rw[wpOpsIn_cons];unfold wpOpIn;rw[ho];simp only;rw[fI hs hw];simp only[if_true];exact oK hdf (h c hP hG hd1 F β a w _ Q hs λF' β' a' w' h'=>ih F' β' a' w' h')
theorem gB.skip(hw:dN ops o.guard s.fr=some false)
 (hk:gB P G ops os (s.put o.dst .undef) s' e):gB P G ops (o::os) s s' e:=by
 intro c rf n Q hP hG hd hdr hQ F β a w hs;obtain⟨ho,hdr'⟩:=zo hdr;obtain⟨hd1,hd2⟩:=kQ hd;have ih:=hk c rf (n+1) Q hP hG hd2 hdr' hQ;simp only[aef,agw];rw[wpOpsIn_cons];unfold wpOpIn;rw[ho];simp only;rw[fI hs hw];simp only[aeF,if_false];exact⟨λ_ _=>trivial,ih F β _ _ (hs.CS hd1 (nX _))⟩
theorem gB.uR{d:DV}(hw:dN ops o.guard s.fr=some true)(hdf:∀cl,o.op≠.defer cl)
 (h:∀c:Ctx,c.P=P->c.G=G->VO c o s d s'):gB P G ops (o::os) s s' (.panic d):=by
 intro c rf n Q hP hG hd hdr hQ F β a w hs;obtain⟨ho,hdr'⟩:=zo hdr;simp only[aef,agw];rw[wpOpsIn_cons];unfold wpOpIn;rw[ho];simp only;rw[fI hs hw];simp only[if_true];exact oK hdf (h c hP hG F β a w _ Q hs λF' β' v a' w' h' hv=>hQ F' β' a' w' _ h' ⟨v,rfl,hv⟩)
theorem xH{call:eJ}(hc:kg P G call){ops:Array Oper}:∀{os:List Oper}{fr:Tb AV}{lv:Tb LB}{nx:Nat}{lg:List Key}{k:Xx}{r:dm},
 zf P G call ops os fr lv nx lg k=r->Good r->cD (bf lv) ->
 ∃e fr' lv' nx' l,k e fr' lv' nx' (l++lg)=r/\cD (bf lv')/\ko lv lv' l/\gB P G ops os (SS fr lv) (SS fr' lv') e
 |[],fr,lv,nx,lg,k,r,h,hg,ho=>by
  refine⟨.normal,fr,lv,nx,[],h,ho,ko.refl _,?_⟩;intro c rf n Q hP hG hd hdr hQ F β a w hs;exact hQ F β a w .normal hs rfl
 |o::os,fr,lv,nx,lg,k,r,h,hg,ho=>by
  have h0:(lR (dN ops o.guard (kF fr)) (.bad 6 [o.op]) λb=>
   fu b (eX o.dst .undef fr λfr=>zf P G call ops os fr lv nx lg k)
    (Xu.rec (motive:=λ_=>dm)
     (λx=>Qo (vm G fr x) (λd=>k (.panic d) fr lv nx lg) (.bad 7 [o.op]))
     (λcl fo=>wC P G call o.op cl fo fr lv nx lg (λx lv nx lg=>eX o.dst x fr λfr=>zf P G call ops os fr lv nx lg k) (λd lv nx lg=>k (.panic d) fr lv nx lg))
     (UX P o.op (gZ G fr o.op.operands.toList) lv nx λx us _=>QY nx us λnx'=>eX o.dst x fr λfr=>AY us lv lg λlv lg=>zf P G call ops os fr lv nx' lg k)
     (vo o.op)))=r:=h
  obtain⟨b,hw,h1⟩:=dw h0 hg.ne
  cases b with
  |false=>
   have h1':eX o.dst .undef fr (λfr=>zf P G call ops os fr lv nx lg k)=r:=h1;obtain⟨fr1,h2,e1⟩:=lp h1';obtain⟨e,fr',lv',nx',l,q1,q2,q3,q4⟩:=xH hc h2 hg ho;refine⟨e,fr',lv',nx',l,q1,q2,q3,gB.skip hw ?_⟩
   have:(SS fr lv).put o.dst .undef=SS fr1 lv:=by
    show aB.put ⟨kF fr,bf lv⟩ o.dst .undef=_;rw[tZ,<-e1];rfl
   rw[this];exact q4
  |true=>
   cases ek:vo o.op with
   |uR x=>
    rw[ek]at h1;have h2:Qo (vm G fr x) (λd=>k (.panic d) fr lv nx lg) (.bad 7 [o.op])=r:=h1;obtain⟨t,d,e1,e2⟩:=R5 h2 hg.ne;have hop:=Mv ek;refine⟨.panic (.iface t d),fr,lv,nx,[],e2,ho,ko.refl _,gB.uR hw (λcl h=>by rw[hop]at h;cases h) λc hP hG=>?_⟩;refine G9 hop ?_;rw[hG];rw[s6 G fr (bf lv)]at e1;exact e1
   |call cl fo=>
    rw[ek]at h1;obtain⟨hop,hcal⟩:=Be ek;obtain⟨f,fs,cs,c1,c2,c3⟩:=Fp (fo:=fo) hc h1 hg ho;have hdf:∀cl',o.op≠.defer cl':=λcl' h=>by rw[hop]at h;cases h
    rcases c3 with⟨x,lv1,nx1,l1,d1,d2,d3,d4⟩|⟨d,lv1,nx1,l1,d1,d2,d3,d4⟩
    ·obtain⟨fr1,h2,e1⟩:=lp d1;obtain⟨e,fr',lv',nx',l,q1,q2,q3,q4⟩:=xH hc h2 hg d3;refine⟨e,fr',lv',nx',l++l1,by rw[adX];exact q1,q2,d4.trans q3,gB.cons hw hdf (s1:=SS fr1 lv1) (λc hP hG hd=>?_) q4⟩;have hsim:=aW.UF (c:=c) (s:=SS fr lv) (o:=o) (cl:=cl) (f:=f) (fs:=fs) (cs:=cs) (x:=x) (lv':=bf lv1) hd hop (by rw[hP,hG];exact c1) (by rw[hP];exact c2) ho (by rw[hP,hG];exact d2);have:aB.put ⟨(SS fr lv).fr,bf lv1⟩ o.dst x=SS fr1 lv1:=by rw[tZ];show aB.mk (Ox o.dst x (kF fr)) (bf lv1)=_;rw[<-e1];rfl
     rw[this]at hsim;exact hsim
    ·refine⟨.panic d,fr,lv1,nx1,l1,d1,d3,d4,gB.uR hw hdf λc hP hG=>?_⟩;exact aW.abN (c:=c) (s:=SS fr lv) (o:=o) (cl:=cl) (f:=f) (fs:=fs) (cs:=cs) (d:=d) (lv':=bf lv1) hop (by rw[hP,hG];exact c1) (by rw[hP];exact c2) ho (by rw[hP,hG];exact d2)
   |plain=>
    rw[ek]at h1;have h1':UX P o.op (gZ G fr o.op.operands.toList) lv nx (λx us _=>QY nx us λnx'=>eX o.dst x fr λfr=>AY us lv lg λlv lg=>zf P G call ops os fr lv nx' lg k)=r:=h1;obtain⟨x,us,rds,h2,hdo⟩:=QA h1' hg;have h2':QY nx us (λnx'=>eX o.dst x fr λfr=>AY us lv lg λlv lg=>zf P G call ops os fr lv nx' lg k)=r:=h2;obtain⟨nx1,h3⟩:=Ia h2';have h3':eX o.dst x fr (λfr=>AY us lv lg λlv lg=>zf P G call ops os fr lv nx1 lg k)=r:=h3;obtain⟨fr1,h4,e1⟩:=lp h3';have h4':AY us lv lg (λlv lg=>zf P G call ops os fr1 lv nx1 lg k)=r:=h4;obtain⟨lv1,l1,h5,e2,e3,e4⟩:=zA h4' hg ho;obtain⟨e,fr',lv',nx',l,q1,q2,q3,q4⟩:=xH hc h5 hg e3
    have hdf:∀cl',o.op≠.defer cl':=λcl' h=>by
     rw[h]at hdo;rcases hdo with⟨vc,g1,_⟩|g1
     ·simp[dA]at g1
     ·simp[fj]at g1
    refine⟨e,fr',lv',nx',l++l1,by rw[adX];exact q1,q2,e4.trans q3,gB.cons hw hdf (s1:=SS fr1 lv1) (λc hP hG hd=>?_) q4⟩
    have hsim:=(lD.UF (c:=c) (o:=o) (s:=SS fr lv) (κ:=nx) (x:=x) (us:=us) (rds:=rds) hd (by
     rw[hP,hG];rw[pe G fr (bf lv)]at hdo;exact hdo)).un
    have:aB.put ⟨(SS fr lv).fr,bg (SS fr lv).lv (uQ us)⟩ o.dst x=SS fr1 lv1:=by
     rw[tZ];show aB.mk (Ox o.dst x (kF fr)) (bg (bf lv) (uQ us))=_;rw[<-e1,<-e2];rfl
    rw[this]at hsim;exact hsim
end
noncomputable def jG(P:Program)(f:Rec):Fw:=⟨⟨f.x,uQ f.us,f.rds⟩,bf f.lv,f.all,FH P f⟩
theorem WY(h:b.okB=true):b.un=b:=by
 cases b with
 |cells own fz T cs=>simp only[LB.okB,rP,aee]at h;simp only[LB.un,h.1]
 |map own es=>simp only[LB.okB,aee]at h;simp only[LB.un,h]
 |_=>rfl
theorem qh:uQ us=[]↔us=[]:=by cases us<;>simp[uQ]
theorem Gg(h:Agree lv lv' (uQ us) rds):Agree lv lv' us rds:=
 ⟨h.1,λp hp=>h.2 (p.1,p.2.un) (List.mem_map_of_mem (f:=λp:Key×LB=>(p.1,p.2.un)) hp)⟩
theorem Zq{lv lv':Tb LB}(h:ko lv lv' l)(ho:cD (bf lv')):bg (bf lv) (uQ (l.map λq=>(q,bf lv' q)))=bf lv':=by
 have key:∀(m:List Key) (f:Key->LB),(∀k,k ∉ m->f k=bf lv' k)->bg f (uQ (m.map λq=>(q,bf lv' q)))=bf lv':=by
  intro m
  induction m with
  |nil=>intro f hf;funext k;exact hf k (by simp)
  |cons q m ih=>
   intro f hf;show bg (az f q (bf lv' q).un) _=_;refine ih _ λk hk=>?_
   by_cases e:k=q
   ·subst e;rw[aA,WY (ho k)]
   ·rw[aE _ _ e];grind
 exact key l _ λk hk=>(h k hk).symm
section
variable {P:Program}{G:List (List DV)}
theorem nL.skip(hd:∀d,o.dst=some d->d<c.n)(hw:dN ops o.guard s0.fr=some false):nL c rf ops o s0 ⟨.undef,[],[]⟩ ok:=by
 intro s h1 _ F β a w K Q h hK;rw[fI h ((oa h1).trans hw)];simp only[aeF,if_false];exact hK F β _ _ (h.CS hd (nX _))
theorem nL.mE{e:Fx}(hw:dN ops o.guard s0.fr=some true)(hdf:∀cl,o.op≠.defer cl)
 (hs:∀s:aB,(∀x∈o.op.operands.toList,s.val c.G x=s0.val c.G x)->ok s.lv->bT c o s (e.app o.dst s)):nL c rf ops o s0 e ok:=by
 intro s h1 h2 F β a w K Q h hK;rw[fI h ((oa h1).trans hw)];simp only[if_true];exact oK hdf (hs s (yz h1) h2 F β a w K Q h hK)
theorem Eg{f:Rec}{k:Key}(h:FH P f k b=true):∃vc,dA P f.op f.vals (az (bf f.lv) k b) f.nx=some (f.x,[],[k],vc)/\vc:=by
 unfold FH at h;split at h
 ·rename_i x k' he
  simp only[rP]at h;have e1:=AV.beq_eq h.1;have e2:=ae8 h.2;subst e1;subst e2;exact ZX P _ _ _ _ _ _ _ he
 grind
theorem N9{P:Program}(h:lD P op vals lv κ x us rds):∀cl,op≠.defer cl:=by
 intro cl e;rw[e]at h;rcases h with⟨vc,g1,_⟩|g1
 ·simp[dA]at g1
 ·simp[fj]at g1
theorem nL.plain(hP:c.P=P)(hG:c.G=G){fr:Tb AV}{lv:Tb LB}(hd:∀d,o.dst=some d->d<c.n)(hw:dN ops o.guard (kF fr)=some true)
 (h:lD P o.op (gZ G fr o.op.operands.toList) (bf lv) nx x us rds) :
 nL c rf ops o (SS fr lv) (jG P ⟨x,us,rds,false,lv,o.op,gZ G fr o.op.operands.toList,nx⟩).e (jG P ⟨x,us,rds,false,lv,o.op,gZ G fr o.op.operands.toList,nx⟩).ok:=by
 refine nL.mE hw (N9 h) λs hv hok=>?_
 have hvals:gZ G fr o.op.operands.toList=o.op.operands.toList.map (s.val c.G):=by
  rw[pe G fr (bf lv),hG];exact aes λy hy=>by rw[<-hG];exact(hv y hy).symm
 have fin:∀us',us'=us->lD P o.op (o.op.operands.toList.map (s.val c.G)) s.lv nx x us' rds->bT c o s (Fx.app ⟨x,uQ us,rds⟩ o.dst s):=by
  intro us' e h';subst e;exact(lD.UF hd (by rw[hP];exact h')).un
 rw[hvals]at h;rcases hok with⟨h1,_⟩|⟨_,h1|⟨h1,k,h2,h3⟩⟩
 ·cases h1
 ·exact fin us rfl (h.local (Gg h1))
 ·have hu:us=[]:=qh.1 h1;obtain⟨vc,g1,g2⟩:=Eg h3;simp only at g1;have h2':rds=[k]:=h2;rw[hvals]at g1;have g3:=oZ (lv':=s.lv) g1 ⟨λj hj=>by rw[List.mem_singleton.1 hj,aA],λp hp=>by cases hp⟩;exact fin [] hu.symm (.inl ⟨vc,by grind,g2⟩)
theorem nL.SU(hP:c.P=P)(hG:c.G=G){fr:Tb AV}{lv lv':Tb LB}{fs cs:List AV}(hd:∀d,o.dst=some d->d<c.n)(hw:dN ops o.guard (kF fr)=some true)
 (hop:o.op=.call cl) (ht:nR P ((SS fr lv).val G) cl.callee=some (f,fs,cs)) (hf:aJ P f=true) (ho:cD (bf lv)) (ho':cD (bf lv')) (hl:ko lv lv' l)
 (hc:aW P G f (fs++cl.args.toList.map ((SS fr lv).val G)++cs) (bf lv) (.ret x (bf lv'))) :
 nL c rf ops o (SS fr lv) (jG P ⟨x,l.map λq=>(q,bf lv' q),[],true,lv,o.op,[],nx⟩).e (jG P ⟨x,l.map λq=>(q,bf lv' q),[],true,lv,o.op,[],nx⟩).ok:=by
 refine nL.mE hw (λcl' h=>by rw[hop]at h;cases h) λs hv hok=>?_;rcases hok with⟨_,h1⟩|⟨h1,_⟩
 ·have h1':s.lv=bf lv:=h1;obtain⟨e1,hargs⟩:=yC (P:=P) (cl:=cl) (val:=s.val c.G) (val':=(SS fr lv).val c.G) (λy hy=>hv y (by rw[hop];exact hy));have hsim:=aW.UF (c:=c) (s:=s) (o:=o) (cl:=cl) (f:=f) (fs:=fs) (cs:=cs) (x:=x) (lv':=bf lv') hd hop (by rw[hP,e1,hG];exact ht) (by rw[hP];exact hf) (by rw[h1'];exact ho) (by rw[hP,hargs,hG,h1'];exact hc)
  have:Fx.app ⟨x,uQ (l.map λq=>(q,bf lv' q)),[]⟩ o.dst s=aB.put ⟨s.fr,bf lv'⟩ o.dst x:=by
   unfold Fx.app;simp only;rw[h1',Zq hl ho']
  show bT c o s (Fx.app ⟨x,uQ (l.map λq=>(q,bf lv' q)),[]⟩ o.dst s);rw[this];exact hsim
 ·cases h1
theorem nL.Pq(h:cY c rf ops o s0 ⟨x,us,rds⟩)(hok:∀lv,ok lv->Agree s0.lv lv us rds):
 nL c rf ops o s0 ⟨x,uQ us,rds⟩ ok:=by
 intro s h1 h2 F β a w K Q hs hK;refine h s h1 (hok _ h2) F β a w K Q hs λF' β' a' w' h'=>hK F' β' a' w' ?_;have hl:∀k,bg s.lv (uQ us) k=bg s.lv us k\/bg s.lv (uQ us) k=(bg s.lv us k).un:=Ea (λ_=>.inl rfl);unfold Fx.app at h' ⊢;simp only at h' ⊢
 cases hd:o.dst with
 |none=>rw[hd]at h';exact aD.forget h' hl
 |some d=>rw[hd]at h';exact aD.forget h' hl
theorem DY:∀{σ:List LB}{i:Nat}{lv:Tb LB}{k:Tb LB->dm}{r:dm},Qd σ i lv k=r ->
 ∃lv',k lv'=r/\∀j:Nat,bf lv' j=if i<=j/\j<i+σ.length then(σ.getD (j-i) .hole).un else bf lv j
 |[],i,lv,k,r,h=>⟨lv,h,λj=>by grind⟩
 |b::σ,i,lv,k,r,h=>by
  have h1:(vO b λx=>Tb.Ct .hole x (pathOf i) lv λlv=>Qd σ (Nat.succ i) lv k)=r:=h;rw[A4,Tb.me]at h1;obtain⟨lv',e1,e2⟩:=DY h1;refine⟨lv',e1,λj=>?_⟩;rw[e2 j,Et]
  by_cases hj:j=i
  ·subst hj;rw[if_neg (by omega),if_pos (by simp),aA];simp
  ·rw[aE _ _ hj]
   grind
theorem Good.done{lv:Tb LB}:Good (.done x lv nx lg):=λ_ _ h=>by cases h
theorem BF(h:b.pass=true):b.un=b/\b.okB=true:=by
 cases b with
 |cells own fz T cs=>
  simp only[LB.pass,rP,aee]at h;simp[LB.un,LB.okB,h.1,h.2]
 |map own es=>simp only[LB.pass,aee]at h;simp[LB.un,LB.okB,h]
 |dead=>cases h
 |_=>simp[LB.un,LB.okB]
theorem KK(hc:kg P G call){fr:Tb AV}{lv:Tb LB}{k:AV->List (Key×LB)->List Key->Nat->dm}
 (h:vN P G call op cl fo fr lv nx k=r) (hg:Good r) :
 ∃f fs cs x us rds nx',nR P ((SS fr lv).val G) cl.callee=some (f,fs,cs)/\aJ P f=true/\k x us rds nx'=r /\
  ∀c:Ctx,c.P=P->c.G=G->b7 c f (fs++cl.args.toList.map ((SS fr lv).val G)++cs) (bf lv) x us rds:=by
 unfold vN at h;obtain⟨⟨f,fs,cs⟩,h1,h2⟩:=dw h hg.ne;obtain⟨h3,h4⟩:=dH h2 hg.ne;obtain⟨q,h5,h6⟩:=dw h4 hg.ne;obtain⟨l0,h7,h8⟩:=DY h6;simp only at h7 h5;rw[show vm G fr=(SS fr lv).val G from funext (s6 G fr (bf lv))]at h1;rw[pe G fr (bf lv)]at h5 h7
 cases hin:call f q.us l0 1000 [] .done .uR with
 |bad n o=>rw[hin]at h7;exact absurd h7 hg.ne
 |uR d lv' nx' lg'=>rw[hin]at h7;exact absurd h7 hg.ne
 |done x lv' n' lg=>
  rw[hin]at h7;have h9:Mt lv nx (fs++cl.args.toList.map ((SS fr lv).val G)++cs) q x lv' n' lg k=r:=h7;unfold Mt at h9;obtain⟨h10,h11⟩:=dH h9 hg.ne;rw[rP,rP]at h10;obtain⟨⟨g1,g2⟩,g3⟩:=h10
  have hpass:∀b∈q.σ,b.pass=true:=by
   unfold zB at g2;simp only[rP,adV]at g2;exact g2.1.1.1.1.1.2
  have hlen:q.σ.length<=1000:=by
   unfold zB at g2;simp only[rP]at g2;exact ad1 g2.2
  have hl0:bf l0=bL q.σ []:=by
   refine funext λ(j:Nat)=>?_;rw[h8 j];unfold bL
   by_cases hj:j<1000
   ·rw[if_pos hj]
    by_cases hj2:j<q.σ.length
    ·rw[if_pos ⟨aa2 _,by omega⟩,agc,dP hj2];exact(BF (hpass _ (aT hj2))).1
    ·rw[if_neg (by omega),gz hj2];show Tb.get LB.hole .leaf _=_;exact Tb.eI _ _
   ·rw[if_neg hj,if_neg (by omega)];show Tb.get LB.hole .leaf _=_;rw[Tb.eI];simp
  have hall0:cD (bf l0):=by
   intro(j:Nat);rw[hl0];unfold bL;split
   ·by_cases hj2:j<q.σ.length
    ·rw[dP hj2];exact(BF (hpass _ (aT hj2))).2
    ·rw[gz hj2];rfl
   ·simp[LB.okB]
  have hcall:=hc f q.us l0 1000 [] .done .uR _ hin Good.done hall0;rcases hcall with⟨x',lv'',nx'',l,e1,e2,e3,e4⟩|⟨d,lv'',nx'',l,e1,_⟩
  ·simp only[dm.done.injEq,aei]at e1;obtain⟨rfl,rfl,rfl,rfl⟩:=e1
   have hlv':bf lv''=bL ((jU 0 q.σ.length).map (bf lv'')) ((jU 1000 (nx'' - 1000)).map (bf lv'')):=by
    refine funext λ(j:Nat)=>?_;have hcl:j ∉ l->bf lv'' j=bL q.σ [] j:=λhj=>by rw[e4 j hj,hl0]
    have hlog:j∈l->j<q.σ.length\/(1000<=j/\j<nx''):=by
     intro hj;have:=List.all_eq_true.1 g1 j hj;simp only[aeV,rP,Nat.blt]at this;rcases this with h|⟨h,h'⟩
     ·exact .inl (ad1 h)
     ·exact .inr ⟨ad1 h,ad1 h'⟩
    unfold bL
    by_cases hj:j<1000
    ·rw[if_pos hj]
     by_cases hj2:j<q.σ.length
     ·rw[dP (by simpa[lK]using hj2)];simp[rT]
     ·rw[gz (by simpa[lK]using hj2)];have:j ∉ l:=λhm=>by rcases hlog hm with h|h<;>omega
      rw[hcl this];unfold bL;rw[if_pos hj,gz hj2]
    ·rw[if_neg hj]
     by_cases hj2:j-1000<nx'' - 1000
     ·rw[dP (by simpa[lK]using hj2)];simp only[ab5,rT];have:1000+(j-1000)=j:=by omega
      rw[this]
     ·rw[gz (by simpa[lK]using hj2)];have:j ∉ l:=λhm=>by rcases hlog hm with h|h<;>omega
      rw[hcl this];unfold bL;rw[if_neg hj];simp
   have hS:aI P G f q.us q.σ (.ret x' ((jU 0 q.σ.length).map (bf lv'')) ((jU 1000 (nx'' - 1000)).map (bf lv''))):=by
    intro F β w vs hS hvl hv;rw[hl0]at e2;have:=e2 F β w vs hS hvl hv;rw[hlv']at this;exact this
   refine⟨f,fs,cs,_,_,_,_,h1,h3,h11,λc hP hG=>?_⟩;exact b7.pass h5 g2 g3 (by rw[hP,hG];exact hS)
  ·cases e1
end
section
variable {P:Program}{G:List (List DV)}
theorem ij{α:Type}{l:List α}:Dd l=true↔l=[]:=by cases l<;>simp[Dd]
theorem I6{k:Key}(h:SQ k l=true):l=[k]:=by
 unfold SQ at h;split at h
 ·simp_all
 grind
theorem uA(P:Program)(f:Rec)(d:Option Nat)(fr:Nat->AV)(lv:Key->LB):(jG P f).e.app d ⟨fr,lv⟩=⟨Ox d f.x fr,bg lv (uQ f.us)⟩:=by
 show aB.put ⟨fr,bg lv (uQ f.us)⟩ d f.x=_;rw[tZ]
theorem KR{f g:Rec}(h:G1 P f g=true):(jG P f).apart (jG P g):=by
 unfold G1 at h;simp only[rP,aeV,aee,adV]at h;obtain⟨⟨⟨⟨h1,h2⟩,h3⟩,h4⟩,h5⟩:=h
 have hmem:∀{us:List (Key×LB)}{k:Key},k∈(uQ us).map (·.1)->∃p∈us,p.1=k:=by
  intro us k hk;rw[QN]at hk;simpa using hk
 refine⟨λha=>?_,λha=>?_,?_,?_,?_⟩
 ·rcases h1 with h1|h1
  ·have:f.all=true:=ha
   grind
  ·exact qh.2 (ij.1 h1)
 ·rcases h2 with h2|h2
  ·have:g.all=true:=ha
   grind
  ·exact qh.2 (ij.1 h2)
 ·intro k hk hk';obtain⟨p,hp,rfl⟩:=hmem hk;obtain⟨q,hq,e⟩:=hmem hk';have:=h3 p hp;rw[List.any_eq_false]at this;exact this q hq (by simp_all)
 ·intro k hk;obtain⟨p,hp,rfl⟩:=hmem hk;rcases h4 p hp with h|h
  ·left;intro hm;have hm':p.1∈g.rds:=hm;rw[pz.2 hm']at h;cases h
  ·right;exact⟨qh.2 (ij.1 h.1.1),I6 h.1.2,h.2⟩
 ·intro k hk;obtain⟨p,hp,rfl⟩:=hmem hk;rcases h5 p hp with h|h
  ·left;intro hm;have hm':p.1∈f.rds:=hm;rw[pz.2 hm']at h;cases h
  ·right;exact⟨qh.2 (ij.1 h.1.1),I6 h.1.2,h.2⟩
theorem sA{f g:Rec}(h:Rec.idle f=true\/Rec.idle g=true\/(Rec.quiet f=true/\Rec.quiet g=true)):(jG P f).apart (jG P g):=by
 have key:∀{us:List (Key×LB)},us=[]->uQ us=[]:=λh=>qh.2 h
 rcases h with h|h|⟨h,h'⟩
 ·unfold Rec.idle at h;simp only[rP,aee]at h;have h1:=key (ij.1 h.1.1);have h2:=ij.1 h.1.2;refine⟨λha=>?_,λ_=>h1,?_,?_,?_⟩
  ·have:f.all=true:=ha
   grind
  ·intro k hk;have:(jG P f).e.us=[]:=h1
   grind
  ·intro k hk;have:(jG P f).e.us=[]:=h1
   grind
  ·intro k _;left;have:(jG P f).e.rds=[]:=h2
   grind
 ·unfold Rec.idle at h;simp only[rP,aee]at h;have h1:=key (ij.1 h.1.1);have h2:=ij.1 h.1.2;refine⟨λ_=>h1,λha=>?_,?_,?_,?_⟩
  ·have:g.all=true:=ha
   grind
  ·intro k _ hk;have:(jG P g).e.us=[]:=h1
   grind
  ·intro k _;left;have:(jG P g).e.rds=[]:=h2
   grind
  ·intro k hk;have:(jG P g).e.us=[]:=h1
   grind
 ·unfold Rec.quiet at h h';simp only[rP,aee]at h h';have h1:=key (ij.1 h.1);have h2:=key (ij.1 h'.1);refine⟨λ_=>h2,λ_=>h1,?_,?_,?_⟩
  ·intro k hk;have:(jG P f).e.us=[]:=h1
   grind
  ·intro k hk;have:(jG P f).e.us=[]:=h1
   grind
  ·intro k hk;have:(jG P g).e.us=[]:=h2
   grind
theorem zC{ms:List Nat}:∀{r:List Rec}{j0:Nat}{before:List (Nat×Rec)},Tp.pairs P ms r j0 before=true ->
 (∀(j:Nat) g,r[j]?=some g->∀p∈before,(ms.getD (j0+j) 0).testBit p.1=true\/(jG P p.2).apart (jG P g)) /\
 (∀(i j:Nat) f g,i<j->r[i]?=some f->r[j]?=some g->(ms.getD (j0+j) 0).testBit (j0+i)=true\/(jG P f).apart (jG P g))
 |[],j0,before,h=>⟨λj g hg=>by simp at hg,λi j f g _ hf=>by simp at hf⟩
 |a::r,j0,before,h=>by
  unfold Tp.pairs at h
  cases hi:Rec.idle a with
  |true=>
   rw[hi]at h;simp only[cond_true]at h;obtain⟨h1,h2⟩:=zC h;refine⟨λj g hg p hp=>?_,λi j f g hij hf hg=>?_⟩
   ·cases j with
    |zero=>simp only[aga,ah]at hg;subst hg;exact .inr (sA (.inr (.inl hi)))
    |succ j=>
     grind
   ·cases j with
    |zero=>omega
    |succ j=>
     cases i with
     |zero=>simp only[aga,ah]at hf;subst hf;exact .inr (sA (.inl hi))
     |succ i=>
      grind
  |false=>
   rw[hi]at h;simp only[cond_false,rP,adV,aeV]at h;obtain⟨h0,h⟩:=h;obtain⟨h1,h2⟩:=zC h;refine⟨λj g hg p hp=>?_,λi j f g hij hf hg=>?_⟩
   ·cases j with
    |zero=>
     simp only[aga,ah]at hg;subst hg;rcases h0 p hp with(h3|h3)|h3
     ·exact .inr (sA (.inr (.inr ⟨h3.2,h3.1⟩)))
     ·grind
     ·exact .inr (KR h3)
    |succ j=>
     grind
   ·cases j with
    |zero=>omega
    |succ j=>
     have e:j0+1+j=j0+(j+1):=by omega
     cases i with
     |zero=>
      simp only[aga,ah]at hf;subst hf;have:=h1 j g (by grind) (j0,a) (aen ..)
      grind
     |succ i=>
      grind
theorem oT{call:eJ}(hc:kg P G call){ops:Array Oper}:∀{os:List Oper}{fr:Tb AV}{lv:Tb LB}{nx:Nat}{lg:List Key}{acc:List Rec}{k:List Rec->Tb AV->Tb LB->Nat->List Key->dm}{r:dm},
 jE P G call ops os fr lv nx lg acc k=r->Good r->cD (bf lv) ->
 ∃(rs:List Rec) (fr':Tb AV) (lv':Tb LB) (nx':Nat) (l:List Key),k (rs.reverse++acc) fr' lv' nx' (l++lg)=r/\cD (bf lv')/\ko lv lv' l/\∀(c:Ctx) (rf:Option Nat),c.P=P->c.G=G->dM c.n os=true->jT c rf ops os (rs.map (jG P)) (SS fr lv) (SS fr' lv')
 |[],fr,lv,nx,lg,acc,k,r,h,hg,ho=>⟨[],fr,lv,nx,[],h,ho,ko.refl _,λc _ _ _ _=>rfl⟩
 |o::os,fr,lv,nx,lg,acc,k,r,h,hg,ho=>by
  have h0:(lR (dN ops o.guard (kF fr)) (.bad 8 [o.op]) λb=>
   fu b (eX o.dst .undef fr λfr=>jE P G call ops os fr lv nx lg (⟨.undef,[],[],false,lv,o.op,[],nx⟩::acc) k)
    (Xu.rec (motive:=λ_=>dm)
     (λ_=>.bad 9 [o.op])
     (λcl fo=>fu (TB ops)
      (wC P G call o.op cl fo fr lv nx [] (λx lv' nx' lg'=>dS x λx=>eX o.dst x fr λfr=>jE P G call ops os fr lv' nx' (lg'++lg) (⟨x,lg'.map λq=>(q,bf lv' q),[],true,lv,o.op,[],nx⟩::acc) k) (λ_ _ _ _=>.bad 10 [o.op]))
      (vN P G call o.op cl fo fr lv nx λx us rds nx'=>dS x λx=>eX o.dst x fr λfr=>AY us lv lg λlv' lg=>jE P G call ops os fr lv' nx' lg (⟨x,us,rds,false,lv,o.op,[],nx⟩::acc) k))
     (UX P o.op (gZ G fr o.op.operands.toList) lv nx λx us rds=>QY nx us λnx'=>dS x λx=>eX o.dst x fr λfr'=>AY us lv lg λlv' lg=>jE P G call ops os fr' lv' nx' lg (⟨x,us,rds,false,lv,o.op,gZ G fr o.op.operands.toList,nx⟩::acc) k)
     (vo o.op)))=r:=h
  obtain⟨b,hw,h1⟩:=dw h0 hg.ne
  cases b with
  |false=>
   have h1':eX o.dst .undef fr (λfr=>jE P G call ops os fr lv nx lg (⟨.undef,[],[],false,lv,o.op,[],nx⟩::acc) k)=r:=h1;obtain⟨fr1,h2,e1⟩:=lp h1';obtain⟨rs,fr',lv',nx',l,q1,q2,q3,q4⟩:=oT hc h2 hg ho;refine⟨⟨.undef,[],[],false,lv,o.op,[],nx⟩::rs,fr',lv',nx',l,by simpa using q1,q2,q3,λc rf hP hG hd=>?_⟩;obtain⟨hd1,hd2⟩:=kQ hd;refine⟨nL.skip hd1 hw,rfl,?_⟩
   have:(jG P ⟨.undef,[],[],false,lv,o.op,[],nx⟩).e.app o.dst (SS fr lv)=SS fr1 lv:=by
    unfold SS;rw[uA,<-e1];rfl
   rw[this];exact q4 c rf hP hG hd2
  |true=>
   cases ek:vo o.op with
   |uR x=>rw[ek]at h1;exact absurd h1 hg.ne
   |call cl fo=>
    rw[ek]at h1;obtain⟨hop,hcal⟩:=Be ek
    have h1':fu (TB ops)
     (wC P G call o.op cl fo fr lv nx [] (λx lv' nx' lg'=>dS x λx=>eX o.dst x fr λfr=>jE P G call ops os fr lv' nx' (lg'++lg) (⟨x,lg'.map λq=>(q,bf lv' q),[],true,lv,o.op,[],nx⟩::acc) k) (λ_ _ _ _=>.bad 10 [o.op]))
     (vN P G call o.op cl fo fr lv nx λx us rds nx'=>dS x λx=>eX o.dst x fr λfr=>AY us lv lg λlv' lg=>jE P G call ops os fr lv' nx' lg (⟨x,us,rds,false,lv,o.op,[],nx⟩::acc) k)=r:=h1
    cases hi:TB ops with
    |false=>
     rw[hi]at h1';have h2:wC P G call o.op cl fo fr lv nx [] (λx lv' nx' lg'=>dS x λx=>eX o.dst x fr λfr=>jE P G call ops os fr lv' nx' (lg'++lg) (⟨x,lg'.map λq=>(q,bf lv' q),[],true,lv,o.op,[],nx⟩::acc) k) (λ_ _ _ _=>.bad 10 [o.op])=r:=h1';obtain⟨f,fs,cs,c1,c2,c3⟩:=Fp (fo:=fo) hc h2 hg ho;rcases c3 with⟨x,lv1,nx1,l1,d1,d2,d3,d4⟩|⟨d,lv1,nx1,l1,d1,_⟩
     ·rw[iR,aei]at d1;have d1':eX o.dst x fr (λfr=>jE P G call ops os fr lv1 nx1 (l1++lg) (⟨x,l1.map λq=>(q,bf lv1 q),[],true,lv,o.op,[],nx⟩::acc) k)=r:=d1;obtain⟨fr1,h3,e1⟩:=lp d1';obtain⟨rs,fr',lv',nx',l,q1,q2,q3,q4⟩:=oT hc h3 hg d3;refine⟨⟨x,l1.map λq=>(q,bf lv1 q),[],true,lv,o.op,[],nx⟩::rs,fr',lv',nx',l++l1,by simpa[adX]using q1,q2,d4.trans q3,λc rf hP hG hd=>?_⟩;obtain⟨hd1,hd2⟩:=kQ hd;refine⟨nL.SU hP hG hd1 hw hop c1 c2 ho d3 d4 d2,rfl,?_⟩
      have:(jG P ⟨x,l1.map λq=>(q,bf lv1 q),[],true,lv,o.op,[],nx⟩).e.app o.dst (SS fr lv)=SS fr1 lv1:=by
       unfold SS;rw[uA,Zq d4 d3,<-e1]
      rw[this];exact q4 c rf hP hG hd2
     ·exact absurd d1 hg.ne
    |true=>
     rw[hi]at h1';have h2:vN P G call o.op cl fo fr lv nx (λx us rds nx'=>dS x λx=>eX o.dst x fr λfr=>AY us lv lg λlv' lg=>jE P G call ops os fr lv' nx' lg (⟨x,us,rds,false,lv,o.op,[],nx⟩::acc) k)=r:=h1';obtain⟨f,fs,cs,x,us,rds,nx1,c1,c2,d1,c3⟩:=KK (fo:=fo) hc h2 hg;rw[iR]at d1;have d1':eX o.dst x fr (λfr=>AY us lv lg λlv' lg=>jE P G call ops os fr lv' nx1 lg (⟨x,us,rds,false,lv,o.op,[],nx⟩::acc) k)=r:=d1;obtain⟨fr1,h3,e1⟩:=lp d1';have h3':AY us lv lg (λlv' lg=>jE P G call ops os fr1 lv' nx1 lg (⟨x,us,rds,false,lv,o.op,[],nx⟩::acc) k)=r:=h3;obtain⟨lv1,l1,h5,e2,e3,e4⟩:=zA h3' hg ho;obtain⟨rs,fr',lv',nx',l,q1,q2,q3,q4⟩:=oT hc h5 hg e3;refine⟨⟨x,us,rds,false,lv,o.op,[],nx⟩::rs,fr',lv',nx',l++l1,by simpa[adX]using q1,q2,e4.trans q3,λc rf hP hG hd=>?_⟩;obtain⟨hd1,hd2⟩:=kQ hd;have heff:cY c rf ops o (SS fr lv) ⟨x,us,rds⟩:=cY.call hd1 hw hop (by rw[hP,hG];exact c1) (by rw[hP];exact c2) (by rw[hG];exact c3 c hP hG);refine⟨nL.Pq heff (λlv' hok=>?_),rfl,?_⟩
     ·rcases hok with⟨h1,_⟩|⟨_,h1|⟨h1,j,h2,h3⟩⟩
      ·cases h1
      ·exact Gg h1
      ·exfalso;obtain⟨vc,g1,_⟩:=Eg h3;simp only at g1;rw[hop]at g1;have g2:lC P cl [] (az (bf lv) j (lv' j)) nx=some (x,[],[j],vc):=g1;unfold lC at g2;split at g2<;>first|exact absurd (by assumption) (hcal _)|cases g2
     ·have:(jG P ⟨x,us,rds,false,lv,o.op,[],nx⟩).e.app o.dst (SS fr lv)=SS fr1 lv1:=by
       unfold SS;rw[uA,<-e1,<-e2]
      rw[this];exact q4 c rf hP hG hd2
   |plain=>
    rw[ek]at h1;have h1':UX P o.op (gZ G fr o.op.operands.toList) lv nx (λx us rds=>QY nx us λnx'=>dS x λx=>eX o.dst x fr λfr'=>AY us lv lg λlv' lg=>jE P G call ops os fr' lv' nx' lg (⟨x,us,rds,false,lv,o.op,gZ G fr o.op.operands.toList,nx⟩::acc) k)=r:=h1;obtain⟨x,us,rds,h2,hdo⟩:=QA h1' hg;have h2':QY nx us (λnx'=>dS x λx=>eX o.dst x fr λfr'=>AY us lv lg λlv' lg=>jE P G call ops os fr' lv' nx' lg (⟨x,us,rds,false,lv,o.op,gZ G fr o.op.operands.toList,nx⟩::acc) k)=r:=h2;obtain⟨nx1,h3⟩:=Ia h2';rw[iR]at h3;obtain⟨fr1,h4,e1⟩:=lp h3;have h4':AY us lv lg (λlv' lg=>jE P G call ops os fr1 lv' nx1 lg (⟨x,us,rds,false,lv,o.op,gZ G fr o.op.operands.toList,nx⟩::acc) k)=r:=h4;obtain⟨lv1,l1,h5,e2,e3,e4⟩:=zA h4' hg ho;obtain⟨rs,fr',lv',nx',l,q1,q2,q3,q4⟩:=oT hc h5 hg e3;refine⟨⟨x,us,rds,false,lv,o.op,gZ G fr o.op.operands.toList,nx⟩::rs,fr',lv',nx',l++l1,by simpa[adX]using q1,q2,e4.trans q3,λc rf hP hG hd=>?_⟩;obtain⟨hd1,hd2⟩:=kQ hd;refine⟨nL.plain hP hG hd1 hw hdo,rfl,?_⟩
    have:(jG P ⟨x,us,rds,false,lv,o.op,gZ G fr o.op.operands.toList,nx⟩).e.app o.dst (SS fr lv)=SS fr1 lv1:=by
     unfold SS;rw[uA,<-e1,<-e2]
    rw[this];exact q4 c rf hP hG hd2
def o6(C:Option Nat->Nat->Ctx->Prop)(N:Nat)(x:Code)(s s':aB)(e:Ex):Prop:=
 ∀(c:Ctx) (rf:Option Nat),C rf N c->∀F β a w,aD c F β s a w->x.wpIn (sX rf) 0 c.P (λex a' w'=>∃F' β',aD c F' β' s' a' w'/\Eh e ex F' w') a w
def jq(P:Program)(G:List (List DV))(C:Option Nat->Nat->Ctx->Prop)(S:Tb AV->Tb LB->aB)(x:Code)(run:RunT):Prop:=∀call,kg P G call->∀N fr lv nx lg k r,run call N fr lv nx lg k=r->Good r->cD (bf lv) ->
 ∃e fr' lv' nx' l,k e fr' lv' nx' (l++lg)=r/\cD (bf lv')/\ko lv lv' l/\o6 C N x (S fr lv) (S fr' lv') e
def Cb(P:Program)(G:List (List DV)):Option Nat->Nat->Ctx->Prop:=λ_ N c=>c.P=P/\c.G=G/\c.n=N
theorem Md(hm:P.follows .mixedOrders=true)(id:Nat)(ops:Array Oper)(dr:Bool):jq P G (Cb P G) SS (.region id ops dr) (y6 P G id ops dr):=by
 intro call hc N fr lv nx lg k r h hg ho
 have h0:fu (dM N ops.toList) (.bad 11 []) (Bool.rec (motive:=λ_=>dm) (zf P G call ops ops.toList fr lv nx lg k)
  (fu (mU ops) (.bad 12 []) (jE P G call ops ops.toList fr lv nx lg [] λacc fr lv nx lg=>fu (Tp P (iy ops.toList []) acc.reverse) (.bad 13 (ops.toList.map (·.op))) (k .normal fr lv nx lg))) dr)=r:=h
 obtain⟨hd,h1⟩:=dH h0 hg.ne
 cases dr with
 |false=>
  obtain⟨e,fr',lv',nx',l,q1,q2,q3,q4⟩:=xH hc h1 hg ho;refine⟨e,fr',lv',nx',l,q1,q2,q3,?_⟩;rintro c rf ⟨hP,hG,hn⟩ F β a w hs;refine wpIn_region ?_;have:=q4 c rf 0 _ hP hG (by grind) rfl (λF' β' a' w' ex h1 h2=>(⟨F',β',h1,h2⟩:∃F' β',aD c F' β' (SS fr' lv') a' w'/\Eh e ex F' w')) F β a w hs;rw[List.range_eq_range'];omega
 |true=>
  obtain⟨hst,h2⟩:=dH h1 hg.ne;obtain⟨rs,fr',lv',nx',l,q1,q2,q3,q4⟩:=oT hc h2 hg ho;rw[aei,agx]at q1;obtain⟨hi,h3⟩:=dH q1 hg.ne;refine⟨.normal,fr',lv',nx',l,h3,q2,q3,?_⟩;rintro c rf ⟨hP,hG,hn⟩ F β a w hs;have hch:=q4 c rf hP hG (by grind);have hp:=zC (P:=P) (ms:=iy ops.toList []) (r:=rs) (j0:=0) (before:=[]) hi;unfold mU at hst;simp only[rP,adV,agu]at hst;obtain⟨hs1,hs2⟩:=hst;have hanc:∀i j,((iy ops.toList []).getD j 0).testBit i=true->Ae ops i j:=lu ops.toList [] (by simp) (λi j h=>by simp at h)
  refine jT.draw (by grind) hch (λi o ho ed hed hb=>pg ops.toList 0 rfl hs1 i o (aa2 _) ho ed hed hb) (λi j o o' f g hij ho ho' hf hg=>?_)
   (λF' β' a' w' h'=>⟨F',β',h',rfl⟩) hs
  grind
variable {C:Option Nat->Nat->Ctx->Prop}{S:Tb AV->Tb LB->aB}
theorem o6.mono{x:Code}(h:o6 C N x s s' e)(hC:C rf N c){Q:Exit->Act->World->Prop}
 (hQ:∀F' β' a' w' ex,aD c F' β' s' a' w'->Eh e ex F' w'->Q ex a' w'){a:Act}{w:World}(hs:aD c F β s a w):x.wpIn (sX rf) 0 c.P Q a w:=
 wpIn_mono (h c rf hC F β a w hs) λex a' w' ⟨F',β',h1,h2⟩=>hQ F' β' a' w' ex h1 h2
theorem U2{x y:Code}{a b:RunT}(ha:jq P G C S x a)(hb:jq P G C S y b):jq P G C S (.seq x y) (Pc x y a b):=by
 intro call hc N fr lv nx lg k r h hg ho;obtain⟨e,fr1,lv1,nx1,l1,q1,q2,q3,q4⟩:=ha call hc N fr lv nx lg _ r h hg ho
 cases e with
 |normal=>
  have q1':b call N fr1 lv1 nx1 (l1++lg) k=r:=q1;obtain⟨e,fr',lv',nx',l,p1,p2,p3,p4⟩:=hb call hc N fr1 lv1 nx1 _ k r q1' hg q2;refine⟨e,fr',lv',nx',l++l1,by grind,p2,q3.trans p3,?_⟩;intro c rf hC F β ac w hs;refine wpIn_seq (q4.mono hC (λF' β' a' w' ex h1 h2=>?_) hs);have:ex=.normal:=h2;subst this;exact p4 c rf hC F' β' a' w' h1
 |exit id=>
  refine⟨.exit id,fr1,lv1,nx1,l1,q1,q2,q3,λc rf hC F β ac w hs=>wpIn_seq (q4.mono hC (λF' β' a' w' ex h1 h2=>?_) hs)⟩;have:ex=.exit id:=h2;subst this;exact⟨F',β',h1,rfl⟩
 |goto id=>
  refine⟨.goto id,fr1,lv1,nx1,l1,q1,q2,q3,λc rf hC F β ac w hs=>wpIn_seq (q4.mono hC (λF' β' a' w' ex h1 h2=>?_) hs)⟩;have:ex=.goto id:=h2;subst this;exact⟨F',β',h1,rfl⟩
 |ret=>
  refine⟨.ret,fr1,lv1,nx1,l1,q1,q2,q3,λc rf hC F β ac w hs=>wpIn_seq (q4.mono hC (λF' β' a' w' ex h1 h2=>?_) hs)⟩;have:ex=.ret:=h2;subst this;exact⟨F',β',h1,rfl⟩
 |panic d=>
  refine⟨.panic d,fr1,lv1,nx1,l1,q1,q2,q3,λc rf hC F β ac w hs=>wpIn_seq (q4.mono hC (λF' β' a' w' ex h1 h2=>?_) hs)⟩;obtain⟨v,rfl,hv⟩:=h2;exact⟨F',β',h1,v,rfl,hv⟩
theorem Rf(hCG:∀{rf N c},C rf N c->c.G=G)(hS:∀fr lv o b,vm G fr o=.c (.d (.bool b))->(S fr lv).val G o=.c (.d (.bool b))){o:Operand}{x y:Code}{a b:RunT}(ha:jq P G C S x a)(hb:jq P G C S y b):jq P G C S (.cond o x y) (Hg G o x y a b):=by
 intro call hc N fr lv nx lg k r h hg ho;have h0:M7 (vm G fr o) (b call N fr lv nx lg k) (a call N fr lv nx lg k)=r:=h;unfold M7 at h0;split at h0
 ·rename_i t ht
  have ht:=hS fr lv o t ht
  cases t with
  |false=>
   obtain⟨e,fr',lv',nx',l,p1,p2,p3,p4⟩:=hb call hc N fr lv nx lg k r h0 hg ho;refine⟨e,fr',lv',nx',l,p1,p2,p3,λc rf hC F β ac w hs=>?_⟩;have hv:=hs.val o;have ht':(S fr lv).val c.G o=.c (.d (.bool false)):=by rw[hCG hC];exact ht
   rw[ht']at hv;exact wpIn_cond_false (Vw.sw hv) (p4 c rf hC F β ac w hs)
  |true=>
   obtain⟨e,fr',lv',nx',l,p1,p2,p3,p4⟩:=ha call hc N fr lv nx lg k r h0 hg ho;refine⟨e,fr',lv',nx',l,p1,p2,p3,λc rf hC F β ac w hs=>?_⟩;have hv:=hs.val o;have ht':(S fr lv).val c.G o=.c (.d (.bool true)):=by rw[hCG hC];exact ht
   rw[ht']at hv;exact wpIn_cond_true (Vw.sw hv) (p4 c rf hC F β ac w hs)
 ·exact absurd h0 hg.ne
theorem MW{x:Code}{a:RunT}(ha:jq P G C S x a):jq P G C S (.block id x) (CR id x a):=by
 intro call hc N fr lv nx lg k r h hg ho;obtain⟨e,fr1,lv1,nx1,l1,q1,q2,q3,q4⟩:=ha call hc N fr lv nx lg _ r h hg ho
 cases e with
 |normal=>
  refine⟨.normal,fr1,lv1,nx1,l1,q1,q2,q3,λc rf hC F β ac w hs=>wpIn_block (q4.mono hC (λF' β' a' w' ex h1 h2=>?_) hs)⟩;have:ex=.normal:=h2;subst this;exact⟨F',β',h1,rfl⟩
 |exit i=>
  have q1':Bool.rec (motive:=λ_=>dm) (k (.exit i) fr1 lv1 nx1 (l1++lg)) (k .normal fr1 lv1 nx1 (l1++lg)) (Nat.beq i id)=r:=q1
  cases hb:Nat.beq i id with
  |true=>
   rw[hb]at q1';have:=ae8 hb;subst this;refine⟨.normal,fr1,lv1,nx1,l1,q1',q2,q3,λc rf hC F β ac w hs=>wpIn_block (q4.mono hC (λF' β' a' w' ex h1 h2=>?_) hs)⟩;have:ex=.exit i:=h2;subst this;simp only[Exit.inBlock,if_true];exact⟨F',β',h1,rfl⟩
  |false=>
   rw[hb]at q1';have hne:=Nat.ne_of_beq_eq_false hb;refine⟨.exit i,fr1,lv1,nx1,l1,q1',q2,q3,λc rf hC F β ac w hs=>wpIn_block (q4.mono hC (λF' β' a' w' ex h1 h2=>?_) hs)⟩;have:ex=.exit i:=h2;subst this;simp only[Exit.inBlock,if_neg hne]
   grind
 |goto i=>
  refine⟨.goto i,fr1,lv1,nx1,l1,q1,q2,q3,λc rf hC F β ac w hs=>wpIn_block (q4.mono hC (λF' β' a' w' ex h1 h2=>?_) hs)⟩;have:ex=.goto i:=h2;subst this;exact⟨F',β',h1,rfl⟩
 |ret=>
  refine⟨.ret,fr1,lv1,nx1,l1,q1,q2,q3,λc rf hC F β ac w hs=>wpIn_block (q4.mono hC (λF' β' a' w' ex h1 h2=>?_) hs)⟩;have:ex=.ret:=h2;subst this;exact⟨F',β',h1,rfl⟩
 |panic d=>
  refine⟨.panic d,fr1,lv1,nx1,l1,q1,q2,q3,λc rf hC F β ac w hs=>wpIn_block (q4.mono hC (λF' β' a' w' ex h1 h2=>?_) hs)⟩;obtain⟨v,rfl,hv⟩:=h2;exact⟨F',β',h1,v,rfl,hv⟩
theorem Ss{x:Code}{a:RunT}(ha:jq P G C S x a):jq P G C S (.loop x) (Ir x a):=by
 intro call hc N fr lv nx lg k r h hg ho
 have key:∀m (fr:Tb AV) (lv:Tb LB) (nx:Nat) (lg:List Key),Mr a call N m fr lv nx lg k=r->cD (bf lv) ->
  ∃e fr' lv' nx' l,k e fr' lv' nx' (l++lg)=r/\cD (bf lv')/\ko lv lv' l /\
   ∀(c:Ctx) (rf:Option Nat),C rf N c->∀F β ac w,aD c F β (S fr lv) ac w->Code.roundsIn (sX rf) 0 c.P x (λex a' w'=>∃F' β',aD c F' β' (S fr' lv') a' w'/\Eh e ex F' w') m ac w:=by
  intro m
  induction m with
  |zero=>intro fr lv nx lg h _;exact absurd h hg.ne
  |succ m ih=>
   intro fr lv nx lg h ho;obtain⟨e,fr1,lv1,nx1,l1,q1,q2,q3,q4⟩:=ha call hc N fr lv nx lg _ r h hg ho
   cases e with
   |normal=>
    have q1':Mr a call N m fr1 lv1 nx1 (l1++lg) k=r:=q1;obtain⟨e,fr',lv',nx',l,p1,p2,p3,p4⟩:=ih fr1 lv1 nx1 _ q1' q2;refine⟨e,fr',lv',nx',l++l1,by grind,p2,q3.trans p3,λc rf hC F β ac w hs=>?_⟩;rw[roundsIn_succ];refine q4.mono hC (λF' β' a' w' ex h1 h2=>?_) hs;have:ex=.normal:=h2;subst this;exact p4 c rf hC F' β' a' w' h1
   |exit i=>
    refine⟨.exit i,fr1,lv1,nx1,l1,q1,q2,q3,λc rf hC F β ac w hs=>?_⟩;rw[roundsIn_succ];refine q4.mono hC (λF' β' a' w' ex h1 h2=>?_) hs;have:ex=.exit i:=h2;subst this;exact⟨F',β',h1,rfl⟩
   |goto i=>
    refine⟨.goto i,fr1,lv1,nx1,l1,q1,q2,q3,λc rf hC F β ac w hs=>?_⟩;rw[roundsIn_succ];refine q4.mono hC (λF' β' a' w' ex h1 h2=>?_) hs;have:ex=.goto i:=h2;subst this;exact⟨F',β',h1,rfl⟩
   |ret=>
    refine⟨.ret,fr1,lv1,nx1,l1,q1,q2,q3,λc rf hC F β ac w hs=>?_⟩;rw[roundsIn_succ];refine q4.mono hC (λF' β' a' w' ex h1 h2=>?_) hs;have:ex=.ret:=h2;subst this;exact⟨F',β',h1,rfl⟩
   |panic d=>
    refine⟨.panic d,fr1,lv1,nx1,l1,q1,q2,q3,λc rf hC F β ac w hs=>?_⟩;rw[roundsIn_succ];refine q4.mono hC (λF' β' a' w' ex h1 h2=>?_) hs;obtain⟨v,rfl,hv⟩:=h2;exact⟨F',β',h1,v,rfl,hv⟩
 obtain⟨e,fr',lv',nx',l,p1,p2,p3,p4⟩:=key 1000000 fr lv nx lg h ho;exact⟨e,fr',lv',nx',l,p1,p2,p3,λc rf hC F β ac w hs=>wpIn_loop_rounds _ (p4 c rf hC F β ac w hs)⟩
noncomputable def ab8(mc:Operand->Code->Code->RunT->RunT->RunT)(mr:Nat->Array Oper->Bool->RunT)(c:Code):RunT:=
 Code.rec (motive:=λ_=>RunT) BZ mr Pc mc CR Ir (λ_ _ _ _ _ _=>zv) ME (λ_ _=>zv) (λ_=>BZ) QK UW (λ_=>zv) c
theorem SR{mc:Operand->Code->Code->RunT->RunT->RunT}{mr:Nat->Array Oper->Bool->RunT}(hcn:∀o x y a b,jq P G C S x a->jq P G C S y b->jq P G C S (.cond o x y) (mc o x y a b))(hr:∀id ops dr,jq P G C S (.region id ops dr) (mr id ops dr))(x:Code):jq P G C S x (ab8 mc mr x):=by
 have leaf:∀{y:Code}{e:Ex},(∀c:Ctx,∀ex,e=ex->True)->(∀(c:Ctx) (rf:Option Nat) (s:aB) F β a w,aD c F β s a w->y.wpIn (sX rf) 0 c.P (λex a' w'=>∃F' β',aD c F' β' s a' w'/\Eh e ex F' w') a w) ->
  jq P G C S y (λ_ _ fr lv nx lg k=>k e fr lv nx lg):=by
  intro y e _ hy call hc N fr lv nx lg k r h hg ho;exact⟨e,fr,lv,nx,[],h,ho,ko.refl _,λc rf _ F β a w hs=>hy c rf _ F β a w hs⟩
 have bad:∀y:Code,jq P G C S y zv:=λy call hc N fr lv nx lg k r h hg ho=>absurd h hg.ne
 induction x with
 |skip=>exact leaf (e:=.normal) (λ_ _ _=>trivial) λc _ s F β a w hs=>wpIn_skip ⟨F,β,hs,rfl⟩
 |region id ops dr=>exact hr id ops dr
 |seq a b iha ihb=>exact U2 iha ihb
 |cond o a b iha ihb=>exact hcn _ _ _ _ _ iha ihb
 |block id a iha=>exact MW iha
 |loop a iha=>exact Ss iha
 |rangeFunc f ps a b _ _=>exact bad _
 |exit id=>exact leaf (e:=.exit id) (λ_ _ _=>trivial) λc _ s F β a w hs=>wpIn_exit ⟨F,β,hs,rfl⟩
 |scope a _=>exact bad _
 |label l=>exact leaf (e:=.normal) (λ_ _ _=>trivial) λc _ s F β a w hs=>wpIn_label ⟨F,β,hs,rfl⟩
 |goto l=>exact leaf (e:=.goto l) (λ_ _ _=>trivial) λc _ s F β a w hs=>wpIn_goto ⟨F,β,hs,rfl⟩
 |ret=>exact leaf (e:=.ret) (λ_ _ _=>trivial) λc _ s F β a w hs=>wpIn_ret ⟨F,β,hs,rfl⟩
 |refuse w=>exact bad _
theorem Rj(hm:P.follows .mixedOrders=true)(x:Code):jq P G (Cb P G) SS x (runK P G x):=
 SR (mc:=Hg G) (mr:=y6 P G) (λ_ _ _ _ _ ha hb=>Rf (λh=>h.2.1) (λfr lv o b h=>by rw[s6 G fr (bf lv)]at h;exact h) ha hb) (Md hm) x
theorem FF:∀{us:List AV}{i:Nat}{fr:Tb AV}{k:Tb AV->dm}{r:dm},NR us i fr k=r ->
 ∃fr',k fr'=r/\∀j:Nat,kF fr' j=if i<=j/\j<i+us.length then us.getD (j-i) .undef else kF fr j
 |[],i,fr,k,r,h=>⟨fr,h,λj=>by grind⟩
 |x::us,i,fr,k,r,h=>by
  have h1:(Tb.Ct .undef x (pathOf i) fr λfr=>NR us (Nat.succ i) fr k)=r:=h;rw[Tb.me]at h1;obtain⟨fr',e1,e2⟩:=FF h1;refine⟨fr',e1,λj=>?_⟩;rw[e2 j,DQ]
  by_cases hj:j=i
  ·subst hj;rw[if_neg (by omega),if_pos (by simp),aA];simp
  ·rw[aE _ _ hj]
   grind
theorem o6.aw{x:Code}(h:o6 C N x s s' e)(hC:C rf N c)(hQ:Q e s' 0):AW c rf x s κ Q:=
 λF β a w hs=>h.mono hC (λF' β' a' w' ex h1 h2=>⟨e,s',0,F',β',hQ,h1,h2⟩) hs
theorem RV(hm:P.follows .mixedOrders=true)(hc:kg P G call):kg P G (Tq P G call):=by
 intro f us lv nx lg kr kp r h hg ho;unfold Tq at h;obtain⟨fn,h1,h2⟩:=dw h hg.ne;obtain⟨code,h3,h4⟩:=dw h2 hg.ne;obtain⟨h5,h6⟩:=dH h4 hg.ne;obtain⟨fr,h7,h8⟩:=FF h6;obtain⟨e,fr',lv',nx',l,q1,q2,q3,q4⟩:=Rj hm code call hc fn.ntmps fr lv nx lg _ r h7 hg ho
 have hfr:kF fr=λt=>us.getD t .undef:=by
  funext j;rw[h8 j]
  by_cases hj:j<us.length
  ·grind
  ·rw[if_neg (by omega),gz hj];show Tb.get AV.undef .leaf _=_;exact Tb.eI _ _
 have hSS:SS fr lv=⟨λt=>us.getD t .undef,bf lv⟩:=by unfold SS;rw[hfr]
 rw[hSS]at q4
 cases e with
 |normal=>
  have q1':(lR (eE P ⟨kF fr',bf lv'⟩ fn.results.toList) (.bad 20 []) λx=>dS x λx=>kr x lv' nx' (l++lg))=r:=q1;obtain⟨x,h9,h10⟩:=dw q1' hg.ne;rw[iR]at h10;exact .inl ⟨x,lv',nx',l,h10,aW.mw (κ:=0) h1 h3 (ad1 h5) λc hP hG hn _=>q4.aw ⟨hP,hG,hn⟩ ⟨by rw[hP];exact h9,rfl⟩,q2,q3⟩
 |ret=>
  have q1':(lR (eE P ⟨kF fr',bf lv'⟩ fn.results.toList) (.bad 23 []) λx=>dS x λx=>kr x lv' nx' (l++lg))=r:=q1;obtain⟨x,h9,h10⟩:=dw q1' hg.ne;rw[iR]at h10;exact .inl ⟨x,lv',nx',l,h10,aW.mw (κ:=0) h1 h3 (ad1 h5) λc hP hG hn _=>q4.aw ⟨hP,hG,hn⟩ ⟨by rw[hP];exact h9,rfl⟩,q2,q3⟩
 |panic d=>
  have q1':kp d lv' nx' (l++lg)=r:=q1;exact .inr ⟨d,lv',nx',l,q1',aW.mw (κ:=0) h1 h3 (ad1 h5) λc hP hG hn _=>q4.aw ⟨hP,hG,hn⟩ ⟨rfl,rfl⟩,q2,q3⟩
 |exit i=>exact absurd q1 hg.ne
 |goto i=>exact absurd q1 hg.ne
structure mK(P:Program)(G:List (List DV))(sp:Tb Spec)(ft:TypeId):Prop where
 pure:∀f g us x,sp.get .body (pathOf f)=.pure g->g us=some x->∀lv,cD lv->aW P G f us lv (.ret x lv)
 xm:∀f,sp.get .body (pathOf f)=.caught->∀v t fs cs lv lv' x,jW v=some (t,fs,cs)->aJ P t=true->cD lv->aW P G t (fs++cs) lv (.ret x lv')->aW P G f [v] lv (.ret (.c (.d (.int .i64 0))) lv')
 xx:∀f,sp.get .body (pathOf f)=.caught->∀v t fs cs lv lv' n,jW v=some (t,fs,cs)->aJ P t=true->cD lv->aW P G t (fs++cs) lv (.uR (.iface ft (.agg [.int .i64 n])) lv')->aW P G f [v] lv (.ret (.c (.d (.int .i64 n))) lv')
 JK:∀f g,sp.get .body (pathOf f)=.self g->∀lv k off T cs r,cD lv->g T off cs.length=true->lv k=.cells false false T cs->cs.drop off=.d .nilp::r->aW P G f [.c (.ptr k off)] lv (.ret (.tup []) (az lv k (.cells false false T (ai cs off [.ptr k off]))))
 JZ:∀f g,sp.get .body (pathOf f)=.self g->∀lv k off T cs r,cD lv->g T off cs.length=true->lv k=.cells false false T cs->cs.drop off=.ptr k off::r->aW P G f [.c (.ptr k off)] lv (.ret (.tup []) lv)
 live:∀f g us lv x,sp.get .body (pathOf f)=.live g->g us lv=some x->cD (bf lv)->aW P G f us (bf lv) (.ret x (bf lv))
theorem CG(hm:P.follows .mixedOrders=true){sp:Tb Spec}{ft:TypeId}(hsp:mK P G sp ft):∀n,kg P G (RD P G sp ft n)
 |0=>λf us lv nx lg kr kp r h hg ho=>absurd h hg.ne
 |n+1=>λf us lv nx lg kr kp r h hg ho=>by
  have ih:=CG hm hsp n;have h0:Spec.rec (motive:=λ_=>dm) (Tq P G (RD P G sp ft n) f us lv nx lg kr kp) (λg=>lR (g us) (.bad 29 []) λx=>dS x λx=>kr x lv nx lg) (wY P ft (RD P G sp ft n) us lv nx lg kr) (λg=>I3 g us lv nx lg kr) (λg=>lR (g us lv) (.bad 35 []) λx=>dS x λx=>kr x lv nx lg) (sp.get .body (pathOf f))=r:=h
  cases es:sp.get .body (pathOf f)with
  |body=>rw[es]at h0;exact RV hm ih f us lv nx lg kr kp r h0 hg ho
  |pure g=>
   rw[es]at h0;obtain⟨x,h1,h2⟩:=dw h0 hg.ne;rw[iR]at h2;exact .inl ⟨x,lv,nx,[],h2,hsp.pure f g us x es h1 _ ho,ho,ko.refl _⟩
  |live g=>
   rw[es]at h0;obtain⟨x,h1,h2⟩:=dw h0 hg.ne;rw[iR]at h2;exact .inl ⟨x,lv,nx,[],h2,hsp.live f g us lv x es h1 ho,ho,ko.refl _⟩
  |caught=>
   rw[es]at h0;have h1:wY P ft (RD P G sp ft n) us lv nx lg kr=r:=h0;unfold wY at h1;split at h1
   ·rename_i v
    obtain⟨⟨t,fs,cs⟩,h2,h3⟩:=dw h1 hg.ne;obtain⟨h4,h5⟩:=dH h3 hg.ne;rcases ih _ _ _ _ _ _ _ _ h5 hg ho with⟨x,lv',nx',l,q1,q2,q3,q4⟩|⟨d,lv',nx',l,q1,q2,q3,q4⟩
    ·exact .inl ⟨_,lv',nx',l,q1,hsp.xm f es v t fs cs _ _ x h2 h4 ho q2,q3,q4⟩
    ·split at q1
     ·rename_i t' m
      obtain⟨hb,q5⟩:=dH q1 hg.ne;have:=ae8 hb;subst this;exact .inl ⟨_,lv',nx',l,q5,hsp.xx f es v t fs cs _ _ m h2 h4 ho q2,q3,q4⟩
     ·exact absurd q1 hg.ne
   ·exact absurd h1 hg.ne
  |self T0=>
   rw[es]at h0;have h1:I3 T0 us lv nx lg kr=r:=h0;unfold I3 at h1;split at h1
   ·rename_i k off
    split at h1
    ·rename_i own T cs hk
     have hown:own=false:=by have:=ho k;rw[hk]at this;simp only[LB.okB,rP,aee]at this;exact this.1
     subst hown;obtain⟨hb0,h6⟩:=dH h1 hg.ne;clear h1;split at h6
     ·rename_i y hcs
      obtain⟨lv',l,e1,e2,e3,e4⟩:=zA h6 hg ho;refine .inl ⟨_,lv',nx,l,e1,?_,e3,e4⟩;have:=hsp.JK f _ es (bf lv) k off T cs y ho hb0 hk hcs;have e5:bf lv'=az (bf lv) k (.cells false false T (ai cs off [.ptr k off])):=by rw[e2];rfl
      grind
     ·rename_i k' off' y hcs
      obtain⟨hb,h2⟩:=dH h6 hg.ne;simp only[rP]at hb;have b1:=ae8 hb.1;have b2:=ae8 hb.2;subst b1;subst b2;exact .inl ⟨_,lv,nx,[],h2,hsp.JZ f _ es (bf lv) _ _ T cs y ho hb0 hk hcs,ho,ko.refl _⟩
     ·exact absurd h6 hg.ne
    ·exact absurd h1 hg.ne
   ·exact absurd h1 hg.ne
end
def iJ(x y:Rat):Rat:=if x<y then x else y
def jz(x y:Rat):Rat:=if x<y then y else x
def EH(x:Rat):Rat:=if x<0 then -x else x
abbrev Iv:=Rat×Rat
def Iv.has(a:Iv)(x:Rat):Prop:=a.1<=x/\x<=a.2
def Iv.neg(a:Iv):Iv:=(-a.2,-a.1)
def Iv.add(a b:Iv):Iv:=(a.1+b.1,a.2+b.2)
def Iv.sub(a b:Iv):Iv:=(a.1-b.2,a.2-b.1)
def tg(w x y z:Rat):Iv:=(iJ (iJ (iJ w x) y) z,jz (jz (jz w x) y) z)
def Iv.mul(a b:Iv):Iv:=tg (a.1*b.1) (a.1*b.2) (a.2*b.1) (a.2*b.2)
theorem Iv.mul_pos{a b:Iv}(h1:a.1<=a.2)(h2:b.1<=b.2)(h3:0<=a.1)(h4:0<=b.1):a.mul b=(a.1*b.1,a.2*b.2):=by
 have m:∀{x y:Rat},0<=x->0<=y->0<=x*y:=λhx hy=>Rat.mul_nonneg hx hy
 have e1:=m h3 (show 0<=b.2-b.1 by grind);have e2:=m h4 (show 0<=a.2-a.1 by grind);have e3:=m (show 0<=a.2 by grind) (show 0<=b.2-b.1 by grind);have e4:=m (show 0<=b.2 by grind) (show 0<=a.2-a.1 by grind);simp only[Iv.mul,tg,iJ,jz,M1];constructor<;>grind
theorem Iv.MU(a b:Iv):(a.neg.mul b).neg=a.mul b:=by
 simp only[Iv.neg,Iv.mul,tg,iJ,jz,M1,Rat.neg_mul];constructor<;>grind
theorem Iv.ND(a b:Iv):(a.mul b.neg).neg=a.mul b:=by
 simp only[Iv.neg,Iv.mul,tg,iJ,jz,M1,Rat.mul_neg];constructor<;>grind
instance (a:Iv)(x:Rat):Decidable (a.has x):=inferInstanceAs (Decidable (_/\_))
def Iv.quo(a b:Iv):Iv:=a.mul (1/b.2,1/b.1)
def opR(op:Int)(x y:Rat):Rat:=if op=1 then x-y else if op=2 then x*y else if op=3 then x/y else x+y
def Mq(a b:Iv)(op:Int)(x:Rat):Prop:=opR op a.1 b.1=x\/opR op a.1 b.2=x\/opR op a.2 b.1=x\/opR op a.2 b.2=x
def exR(a b c:Iv)(op:Int)(x:Rat):Prop:=c.has x/\Mq a b op c.1/\Mq a b op c.2
instance (a b:Iv)(op:Int)(x:Rat):Decidable (Mq a b op x):=inferInstanceAs (Decidable (_\/_))
instance (a b c:Iv)(op:Int)(x:Rat):Decidable (exR a b c op x):=inferInstanceAs (Decidable (_/\_))
def Iv.size(a:Iv):Rat:=jz (EH a.1) (EH a.2)
def Iv.near(a:Iv):Rat:=if a.has 0 then 0 else iJ (EH a.1) (EH a.2)
def Iv.join(a b:Iv):Iv:=(iJ a.1 b.1,jz a.2 b.2)
def Iv.meet(a b:Iv):Iv:=(jz a.1 b.1,iJ a.2 b.2)
theorem aa.Uk(hf:P.funcs[f]?=some fn)(hb:fn.body=some code)
 (h:∀z:Ev,AW ⟨P,G,z.w,z.F,z.W,fn.ntmps,λ_=>.hole,z.b,z.d⟩ none code ⟨λt=>args.getD t .undef,λ_=>.hole⟩ 0 (aN ⟨P,G,z.w,z.F,z.W,fn.ntmps,λ_=>.hole,z.b,z.d⟩ fn x)) (hl:Nat.ble args.length fn.ntmps=true:=by kernel_rfl):aa P G f args x:=
 aa.Ny hf hb (ad1 hl) λ⟨_,_,w,F,W,_,q,b,d⟩ h1 h2 h3 h4=>by cases h1;cases h2;cases h3;cases h4;exact h ⟨w,F,W,λ_=>.hole,b,d⟩
def Ml(D:List Key)(kh:Key):Key->Key:=λk=>if k∈D then kh else k
theorem LB.SL{x:LB}(h:x.bY g=x)(hm:∀own es,x=.map own es->∀p∈es,∀l,p.2≠.tup l):x.as x g:=by
 cases x with
 |cells own fz T cs=>
  have h':cs.map (CV.bY g)=cs:=by injection h
  exact⟨own,cs,rfl,h'.symm,λh=>h⟩
 |map own es=>
  have h':es.map (λp=>(p.1,p.2.mD g))=es:=by injection h
  exact⟨own,es,rfl,h'.symm,λh=>h,hm own es rfl⟩
 |hole=>rfl
 |dead=>intro h;cases h
 |nils=>rfl
def QS(g:Key->Key)(lv:Key->LB):Prop:=∀k,(lv k).bY g=lv k
theorem LY:QS g (λ_=>.hole):=λ_=>rfl
theorem Py{k:Key}(h:QS g lv)(hb:b.bY g=b):QS g (az lv k b):=λk'=>by
 unfold az;split
 ·exact hb
 ·exact h k'
@[simp]theorem LB.Xz:(LB.cells own fz T cs).bY g=.cells own fz T (cs.map (CV.bY g)):=rfl
@[simp]theorem LB.YY:LB.dead.bY g=.dead:=rfl
@[simp]theorem LB.YP:LB.nils.bY g=.nils:=rfl
@[simp]theorem CV.adY{x:DV}:(CV.d x).bY g=.d x:=rfl
@[simp]theorem CV.aa3{k:Key}{o:Nat}:(CV.ptr k o).bY g=.ptr (g k) o:=rfl
@[simp]theorem CV.aas{k:Key}{o l z:Nat}:(CV.aH k o l z).bY g=.aH (g k) o l z:=rfl
@[simp]theorem AV.adD{x:CV}:(AV.c x).bY g=.c (x.bY g):=rfl
@[simp]theorem AV.abp:(AV.agg cs).bY g=.agg (cs.map (CV.bY g)):=rfl
theorem Le.drop(D:List Key)(kh:Key)(l:List (Nat×AV))(hc:c.iN=λ_=>.hole)(hD:∀k∈D,lv' k=.hole)(hlv:∀k,k ∉ D->lv k=lv' k)(hh:lv kh=.hole)
 (hm:lE lv') (hr:QS (Ml D kh) lv') (hl:∀p∈l,p.2.bX=true/\fr p.1=p.2/\p.2.bY (Ml D kh)=p.2):Le c ⟨fr,lv⟩ ⟨aU l,lv'⟩:=by
 refine⟨Ml D kh,λk=>?_,λk k' h1 h2 e=>?_,λt=>?_,λk hk=>absurd (by rw[hc]) hk⟩
 ·show(lv (Ml D kh k)).as (lv' k) _
  by_cases hk:k∈D
  ·rw[hD k hk];have:Ml D kh k=kh:=if_pos hk;rw[this];exact hh
  ·have:Ml D kh k=k:=if_neg hk;rw[this,hlv k hk];exact LB.SL (hr k) (λown es h=>absurd h (hm k own es))
 ·have n1:k ∉ D:=λh=>by have h1':(lv' k).live=true:=h1;rw[hD k h]at h1';cases h1'
  have n2:k' ∉ D:=λh=>by have h2':(lv' k').live=true:=h2;rw[hD k' h]at h2';cases h2'
  unfold Ml at e;grind
 ·rcases nY (P:=λt x=>x.bX=true/\fr t=x/\x.bY (Ml D kh)=x) hl t with h|⟨h1,h2,h3⟩
  ·grind
  grind
theorem Le.Bt{l:List (Nat×AV)}(D:List Key)(kh:Key)(hc:c.iN=λ_=>.hole:=by exact rfl)(hD:∀k∈D,lv' k=.hole:=by intro k hk;simp at hk;subst hk;simp[az])(hlv:∀k,k ∉ D->lv k=lv' k:=by intro k hk;simp at hk;simp only[az];(repeat (any_goals split))<;>simp_all)(hh:lv kh=.hole:=by simp[az])
 (hm:lE lv':=by repeat (first|exact bu|refine vD ?_ _ _ _ _ _|(refine lq ?_ _)|(refine noMap_blS ?_ _ _ _)|(refine noMap_upd_nils ?_ _)|simp)) (hr:QS (Ml D kh) lv':=by repeat (first|exact LY|refine Py ?_ (by simp[Ml]))) (hl:∀p∈l,p.2.bX=true/\fr p.1=p.2/\p.2.bY (Ml D kh)=p.2:=by simp[Ml]):Le c ⟨fr,lv⟩ ⟨aU l,lv'⟩:=Le.drop D kh l hc hD hlv hh hm hr hl
def PR(fn:Fn)(fs cs:List AV):Option cG:=match uL fs,uL cs with
 |some fr,some cr=>some (.c (AF fn fr cr),[],[],True)
 |_,_=>none
theorem AJ{fn:Fn}{v:Operand->AV}{κ:Key}:
 dA P (.makeFunc fn first caps) ((Op.makeFunc fn first caps).operands.toList.map v) lv κ=PR fn (first.toList.map v) (caps.toList.map v):=by
 have e:(Op.makeFunc fn first caps).operands.toList.map v=first.toList.map v++caps.toList.map v:=by simp[Op.operands]
 rw[e];simp only[dA,ad6,ab0,afJ,if_true];rw[List.take_left' (by simp),afQ (by simp)];rfl
section
variable {c:Ctx}{ps:List As}{d:Option Tmp}{s:aB}{κ:Nat}{K:aB->Nat->Prop}{acc:List tq}{KD:aB->Nat->List tq->Prop}
@[simp]theorem ac1{fn:Fn}:aZ c (⟨d,.makeFunc fn first caps,none⟩::ps) s κ K=cX c ps d s κ K (PR fn (first.toList.map (s.val c.G)) (caps.toList.map (s.val c.G))):=by
 rw[iL];simp only[gD,AJ,cX,n5];rfl
@[simp]theorem abC{fn:Fn}:bk c (⟨d,.makeFunc fn first caps,none⟩::ps) s κ acc KD=b9 c ps d s κ acc KD (PR fn (first.toList.map (s.val c.G)) (caps.toList.map (s.val c.G))):=by
 rw[gJ];simp only[gD,AJ,b9,n5];rfl
end
section
variable {c:Ctx}{r:Option Nat}{ops:Array Oper}{o:Oper}{s0:aB}
theorem cY.Nx{κ:Key}(hd:∀d,o.dst=some d->d<c.n)(hw:dN ops o.guard s0.fr=some true)
 (h:fj c.P o.op (o.op.operands.toList.map (s0.val c.G)) s0.lv κ=some (x,us,rds)):cY c r ops o s0 ⟨x,us,rds⟩:=by
 refine cY.mE hw (λcl hcl=>?_) (λs h1 h2=>?_)
 ·rw[hcl]at h;simp[fj]at h
 ·have hl:=vZ h (show Agree s0.lv s.lv us rds from h2);exact Ba hd rfl (aes h1) hl
end
def mO(c:Ctx)(r:Option Nat)(ops:Array Oper)(os:List Oper)(s:aB)(κ:Nat)(K:aB->Nat->Prop):Prop:=
 ∃es s' κ',gY c r ops os es s s'/\K s' κ'
section
variable {c:Ctx}{r:Option Nat}{ops:Array Oper}
theorem gY.append{os2:List Oper}{es2:List Fx}{s2:aB}:∀{os1:List Oper}{es1:List Fx}{s s1:aB},gY c r ops os1 es1 s s1->gY c r ops os2 es2 s1 s2->gY c r ops (os1++os2) (es1++es2) s s2
 |[],[],s,s1,h,h2=>by have h:s1=s:=h;grind
 |o::os,e::es,s,s1,h,h2=>⟨h.1,gY.append h.2 h2⟩
 |[],_::_,_,_,h,_=>h.elim
 |_::_,[],_,_,h,_=>h.elim
theorem mO.done(h:K s κ):mO c r ops [] s κ K:=⟨[],s,κ,rfl,h⟩
theorem mO.run(n:Nat)(hd:dM c.n (os.take n)=true)(h:aZ c (kD (ops.toList.map (·.dst)) (os.take n)) s κ λs' κ'=>mO c r ops (os.drop n) s' κ' K):mO c r ops os s κ K:=by
 rw[m8]at h;obtain⟨es,s',κ',h1,es2,s2,κ2,h2,h3⟩:=gr.chain (r:=r) hd h;refine⟨es++es2,s2,κ2,?_,h3⟩;have:=gY.append h1 h2
 simp_all
theorem mO.GC(κ':Nat)(he:cY c r ops o s ⟨x,us,rds⟩)(h:mO c r ops os (aB.put ⟨s.fr,bg s.lv us⟩ o.dst x) κ' K):mO c r ops (o::os) s κ K:=by
 obtain⟨es,s',κ2,h1,h2⟩:=h;exact⟨⟨x,us,rds⟩::es,s',κ2,⟨he,h1⟩,h2⟩
theorem AW.tK(h:mO c r ops ops.toList s κ λs' κ'=>Q .normal s' κ'):AW c r (.region id ops false) s κ Q:=by
 intro F β a w hs;obtain⟨es,s',κ',h1,h2⟩:=h;exact h1.region (λF' β' a' w' h'=>⟨.normal,s',κ',F',β',h2,h',rfl⟩) hs
end
theorem mO.fj{r:Option Nat}(κ':Nat)(hd:dM c.n [o]=true)(hg:o.guard=none)
 (h:Am.fj c.P o.op (o.op.operands.toList.map (s.val c.G)) s.lv κ=some (x,us,rds)) (hK:mO c r ops os (aB.put ⟨s.fr,bg s.lv us⟩ o.dst x) κ' K):mO c r ops (o::os) s κ K:=by
 refine mO.GC κ' (cY.Nx (λd hd'=>?_) (by rw[hg];rfl) h) hK;simp only[dM,afx,List.all_nil,Bool.and_true,hd']at hd
 grind
def b6(m:List (Key×Key×LB))(kh:Key):Key->Key:=λk=>match m.find? (λe=>e.1 == k)with
 |some e=>e.2.1
 |none=>kh
@[simp]theorem LB.OV{o f:Bool}:(LB.cells o f T cs').as (.cells own fz T' cs) g↔(f=fz/\T=T'/\cs'=cs.map (CV.bY g)/\(own=true->o=true)):=by
 constructor
 ·rintro⟨own',cs2,h1,h2,h3⟩;injection h1 with e1 e2 e3 e4
  subst e1;subst e4;exact⟨e2,e3,h2,h3⟩
 ·rintro⟨rfl,rfl,h2,h3⟩;exact⟨o,cs',rfl,h2,h3⟩
@[simp]theorem LB.aa7{x:LB}:x.as .nils g↔x=.nils:=Iff.rfl
abbrev LB.like(x y:LB)(g:Key->Key):Prop:=x.as y g
@[simp]theorem LB.aC{o f:Bool}:(LB.cells o f T cs').like (.cells own fz T' cs) g↔(f=fz/\T=T'/\cs'=cs.map (CV.bY g)/\(own=true->o=true)):=LB.OV
@[simp]theorem LB.Xs{x:LB}:x.like .nils g↔x=.nils:=Iff.rfl
theorem LF{m:List (Key×Key×LB)}{k:Key}(hn:(m.map (·.1)).Nodup):
 bg (λ_=>LB.hole) (m.map λe=>(e.1,e.2.2)) k=match m.find? (λe=>e.1 == k)with|some e=>e.2.2|none=>.hole:=by
 cases h:m.find? (λe=>e.1 == k)with
 |some e=>
  have h1:=ag2 h;have h2:=List.find?_some h;simp only[beq_iff_eq]at h2;subst h2;have hn':((m.map λe=>(e.1,e.2.2)).map (·.1)).Nodup:=by rw[aed];exact hn
  exact k9 hn' (List.mem_map.2 ⟨e,h1,rfl⟩)
 |none=>
  rw[List.find?_eq_none]at h;rw[de]
  grind
theorem fD.keys(m:List (Key×Key×LB))(kh:Key)(l:List (Nat×AV))(hlv':lv'=bg (λ_=>.hole) (m.map λe=>(e.1,e.2.2)))(hc:∀k,c.iN k≠.hole->lv' k=.dead\/b6 m kh k=k)
 (hn1:(m.map (·.1)).Nodup) (hn2:(m.map (·.2.1)).Nodup) (hh:s.lv kh=.hole) (has:∀e∈m,(s.lv e.2.1).as e.2.2 (b6 m kh)) (hl:∀p∈l,p.2.bX=true/\s.fr p.1=p.2.bY (b6 m kh)):fD c s ⟨aU l,lv'⟩ (b6 m kh):=by
 have hk:∀k,lv' k=match m.find? (λe=>e.1 == k)with|some e=>e.2.2|none=>.hole:=λk=>by rw[hlv',LF hn1]
 refine⟨λk=>?_,λk k' h1 h2 e=>?_,λt=>?_,hc⟩
 ·show(s.lv (b6 m kh k)).as (lv' k) _;rw[hk]
  cases h:m.find? (λe=>e.1 == k)with
  |some e=>
   have e1:b6 m kh k=e.2.1:=by unfold b6;rw[h]
   grind
  |none=>
   have e1:b6 m kh k=kh:=by unfold b6;rw[h]
   rw[e1];exact hh
 ·have h1':(lv' k).live=true:=h1;have h2':(lv' k').live=true:=h2;rw[hk]at h1' h2'
  cases f1:m.find? (λe=>e.1 == k)with
  |none=>rw[f1]at h1';cases h1'
  |some e1=>
   cases f2:m.find? (λe=>e.1 == k')with
   |none=>rw[f2]at h2';cases h2'
   |some e2=>
    have g1:b6 m kh k=e1.2.1:=by unfold b6;rw[f1]
    have g2:b6 m kh k'=e2.2.1:=by unfold b6;rw[f2]
    rw[g1,g2]at e;have i1:=ag2 f1;have i2:=ag2 f2;have j1:=List.find?_some f1;have j2:=List.find?_some f2;simp only[beq_iff_eq]at j1 j2
    have:e1=e2:=by
     obtain⟨a,ha,rfl⟩:=List.mem_iff_getElem.1 i1;obtain⟨b,hb,rfl⟩:=List.mem_iff_getElem.1 i2
     have hab:a=b:=by
      refine(List.getElem_inj (xs:=m.map (·.2.1)) (i:=a) (j:=b) (h₀:=by grind) (h₁:=by grind) hn2).1 ?_;simpa using e
     subst hab;rfl
    grind
 ·rcases nY (P:=λt x=>x.bX=true/\s.fr t=x.bY (b6 m kh)) hl t with h|⟨h1,h2⟩
  ·grind
  grind
theorem Le.keys(m:List (Key×Key×LB))(kh:Key)(l:List (Nat×AV))(hlv':lv'=bg (λ_=>.hole) (m.map λe=>(e.1,e.2.2)))(hc:c.iN=λ_=>.hole)
 (hn1:(m.map (·.1)).Nodup) (hn2:(m.map (·.2.1)).Nodup) (hh:lv kh=.hole) (has:∀e∈m,(lv e.2.1).like e.2.2 (b6 m kh)) (hl:∀p∈l,p.2.bX=true/\fr p.1=p.2.bY (b6 m kh)):Le c ⟨fr,lv⟩ ⟨aU l,lv'⟩:=
 ⟨_,fD.keys (s:=⟨fr,lv⟩) m kh l hlv' (λk hk=>absurd (by rw[hc]) hk) hn1 hn2 hh has hl⟩
theorem ag.Yq{K:AV->List (Key×LB)->List Key->Nat->Prop}(κ' kh:Key)(nk:List Key)(ν:List LB)(hc:aI c.P c.G f xs [] (.ret x [] ν))(hxs:∀a∈xs,a.pure=true)
 (hn:nk.Nodup) (hkh:kh ∉ nk) (hl:nk.length=ν.length) (hnk:∀k∈nk,lv k=.hole) (hh:lv kh=.hole) (hnh:∀b∈ν,b≠.hole)
 (hK:K (x.bY (aQ [] nk kh)) (cF (aQ [] nk kh) true nk ν) [kh] κ'):ag c f xs lv K:=by
 have key:=b7.gen (c:=c) (f:=f) (as:=xs) (lv:=lv) xs [] [] nk kh [] [] ν x true [kh] (λz hz=>by cases hz) (by simp) (by simpa using hn) (λz hz=>by cases hz) (by simpa using hkh) (λz hz=>by cases hz) rfl rfl hl (by simp) (λi h=>absurd h (aft i)) hnk hh (λb hb=>by cases hb) (by simpa using hnh) (λ_ k hk=>by cases hk) rfl
  (λi p q=>.inl ⟨AV.iI (hxs _ (aT q)),(AV.cV (hxs _ (aT q)) _).symm⟩) (λa ha k hk=>by rw[kW (hxs a ha)]at hk;cases hk) (by simp) hc
 have e:fM []++cF (aQ [] nk kh) true [] []++cF (aQ [] nk kh) true nk ν=cF (aQ [] nk kh) true nk ν:=by simp[fM,cF]
 rw[e]at key;exact⟨_,_,[kh],κ',key,hK⟩
theorem QB(ν:List LB)(k:Nat)(h:∀j,j<ν.length->k≠1000+j):bL [] ν k=.hole:=by
 unfold bL
 grind
def Zr(c:Ctx)(fn:Func)(x:AV)(ν:List LB):Ex->aB->Nat->Prop
 |.normal,s,_|.ret,s,_=>∃(m:List (Key×Key×LB)) (kh:Key),bL [] ν=bg (λ_=>.hole) (m.map λe=>(e.1,e.2.2))/\(m.map (·.1)).Nodup/\(m.map (·.2.1)).Nodup/\s.lv kh=.hole /\
  (∀e∈m,(s.lv e.2.1).like e.2.2 (b6 m kh))/\x.bX=true/\eE c.P s fn.results.toList=some (x.bY (b6 m kh))
 |_,_,_=>False
def YT(c:Ctx)(fn:Func)(x:AV)(σ' ν:List LB):Ex->aB->Nat->Prop
 |.normal,s,_|.ret,s,_=>∃(m:List (Key×Key×LB)) (kh:Key),bL σ' ν=bg (λ_=>.hole) (m.map λe=>(e.1,e.2.2))/\(m.map (·.1)).Nodup/\(m.map (·.2.1)).Nodup/\s.lv kh=.hole /\
  (∀k,c.iN k≠.hole->bL σ' ν k=.dead\/b6 m kh k=k)/\(∀e∈m,(s.lv e.2.1).like e.2.2 (b6 m kh))/\x.bX=true/\eE c.P s fn.results.toList=some (x.bY (b6 m kh))
 |_,_,_=>False
theorem aI.NT(hf:P.funcs[f]?=some fn)(hb:fn.body=some code)(hl:args.length<=fn.ntmps)
 (h:∀c:Ctx,c.P=P->c.G=G->c.n=fn.ntmps->c.iN=bL σ []->AW c none code ⟨λt=>args.getD t .undef,bL σ []⟩ 1000 (YT c fn x σ' ν)):aI P G f args σ (.ret x σ' ν):=by
 intro F β w vs hS hvl hv;refine yT hf hb hl hS hvl hv (h _ rfl rfl rfl rfl) (λe s κ hq=>by cases e<;>first|exact .inl rfl|exact .inr rfl|exact hq.elim) λe s' κ F' β' a' w' hq hX0=>?_;obtain⟨m,kh,g1,g2,g3,g4,g8,g5,g6,g7⟩:∃(m:List (Key×Key×LB)) (kh:Key),bL σ' ν=bg (λ_=>.hole) (m.map λe=>(e.1,e.2.2))/\(m.map (·.1)).Nodup/\(m.map (·.2.1)).Nodup/\s'.lv kh=.hole/\(∀k,bL σ [] k≠.hole->bL σ' ν k=.dead\/b6 m kh k=k)/\(∀e∈m,(s'.lv e.2.1).like e.2.2 (b6 m kh))/\x.bX=true/\eE P s' fn.results.toList=some (x.bY (b6 m kh)):=by cases e<;>first|exact hq|exact hq.elim
 obtain⟨v,h4,hav⟩:=uh hX0 g7;have hco:fD { dW P G w F β (bL σ [])with n:=fn.ntmps } s' ⟨aU [],bL σ' ν⟩ (b6 m kh):=fD.keys m kh [] g1 g8 g2 g3 g4 g5 (λp hp=>by cases hp);have hs2:=hX0.coarse hco;have hR:(Vw.mk F' β' s'.lv w').Ren (Vw.mk F' (λk=>β' (b6 m kh k)) (bL σ' ν) w') (b6 m kh):=⟨rfl,rfl,λ_ _=>rfl,λk=>LB.xZ (hco.as k)⟩
 refine⟨hX0.defers,v,h4,v,F',λk=>β' (b6 m kh k),rfl,?_,hR.av g6 hav⟩;exact hs2.uD
theorem aI.Wz(hf:P.funcs[f]?=some fn)(hb:fn.body=some code)(hl:args.length<=fn.ntmps)
 (h:∀c:Ctx,c.P=P->c.G=G->c.n=fn.ntmps->c.iN=(λ_=>.hole)->AW c none code ⟨λt=>args.getD t .undef,λ_=>.hole⟩ 0 (Zr c fn x ν)):aI P G f args [] (.ret x [] ν):=by
 refine aI.NT hf hb hl λc h1 h2 h3 h4=>?_;rw[gU]at h4 ⊢;refine(AW.mono (λF β a w hs=>h c h1 h2 h3 h4 F β a w hs) λe s κ hq=>?_:AW c none code _ 1000 _)
 cases e<;>first|exact hq.elim|(obtain⟨m,kh,g1,g2,g3,g4,g5,g6,g7⟩:=hq;exact⟨m,kh,g1,g2,g3,g4,λk hk=>absurd (by rw[h4]) hk,g5,g6,g7⟩)
theorem aI.enn(hf:P.funcs[f]?=some fn)(hb:fn.body=some code)
 (h:∀z:Ev,AW ⟨P,G,z.w,z.F,z.W,fn.ntmps,λ_=>.hole,z.b,z.d⟩ none code ⟨λt=>args.getD t .undef,λ_=>.hole⟩ 0 (Zr ⟨P,G,z.w,z.F,z.W,fn.ntmps,λ_=>.hole,z.b,z.d⟩ fn x ν)) (hl:Nat.ble args.length fn.ntmps=true:=by kernel_rfl):aI P G f args [] (.ret x [] ν):=
 aI.Wz hf hb (ad1 hl) λ⟨_,_,w,F,W,_,q,b,d⟩ h1 h2 h3 h4=>by cases h1;cases h2;cases h3;cases h4;exact h ⟨w,F,W,λ_=>.hole,b,d⟩
theorem ag.abD{us:List AV}{K:AV->List (Key×LB)->List Key->Nat->Prop}(κ' kh:Key)(Z:List (Key×TypeId×List CV))(rds:List Key)
 (hc:aa c.P c.G f us x) (hx:x.pure=true) (hZ:∀z∈Z,lv z.1=.cells true false z.2.1 z.2.2) (hZn:(Z.map (·.1)).Nodup) (hh:lv kh=.hole) (hlen:us.length=xs.length)
 (hargs:∀i (h:i<xs.length) (h':i<us.length),(us[i].pure=true/\xs[i]=us[i])\/∃ks,eZ (bg lv (fM Z)) xs[i]=some (us[i],ks)/\∀k∈ks,k∈Z.map (·.1))
 (hrd:∀a∈xs,∀k∈wm (bg lv (fM Z)) a,k∈rds\/k∈Z.map (·.1)) (hrh:kh∈rds)
 (hK:K x (fM Z) rds κ'):ag c f xs lv K:=by
 have hkZ:∀z∈Z,z.1≠kh:=λz hz e=>by grind
 have key:=b7.gen (c:=c) (f:=f) (as:=xs) (lv:=lv) us Z [] [] kh [] [] [] x false rds hZ hZn (by simp) (λz hz=>by simp) (by simp) hkZ rfl rfl rfl (by simp)
  (λi h=>absurd h (aft i)) (λk hk=>by cases hk) hh (λb hb=>by cases hb) (λb hb=>by cases hb) (λh=>by cases h) hlen
  (λi p q=>?_) hrd hrh hc
 ·rw[AV.cV hx]at key;have e:fM Z++cF (aQ [] [] kh) false [] []++cF (aQ [] [] kh) false [] []=fM Z:=by simp[cF]
  rw[e]at key;exact⟨x,_,rds,κ',key,hK⟩
 ·rcases hargs i p q with⟨h1,h2⟩|⟨ks,h1,h2⟩
  ·exact .inl ⟨AV.iI h1,by rw[AV.cV h1];exact h2⟩
  ·refine .inr ⟨ks,h1,λk hk=>?_⟩;obtain⟨z,hz,rfl⟩:=List.mem_map.1 (h2 k hk);have hn:((fM Z).map (·.1)).Nodup:=by rw[m7];exact hZn
   exact⟨true,z.2.1,z.2.2,k9 hn (by simp only[fM,ae7];grind)⟩
abbrev Sq:=Nat->Rat
variable {a:Sq}{L:Sq->Rat}
def eR:Nat->Rat->Sq->Rat
 |0,_,a=>a 0
 |n+1,x,a=>a 0+x*eR n x (λk=>a (k+1))
def O6:Nat->Rat->Sq->Rat
 |0,_,b=>b 0
 |n+1,t,b=>O6 n t (λk=>(1-t)*b k+t*b (k+1))
def Li:Nat->Rat->Sq->Rat
 |0,_,d=>d 0
 |n+1,t,d=>Li n t (λk=>d k+t*d (k+1))
def oy:Nat->Sq->Rat
 |0,d=>d 0
 |m+1,d=>oy m d+oy m (λk=>d (k+1))
theorem J3(m:Nat)(x:Rat)(f g:Sq):oy m (λk=>x*f k+g k)=x*oy m f+oy m g:=by
 induction m generalizing f g with
 |zero=>rfl
 |succ m ih=>simp only[oy];rw[ih,ih];grind
theorem P4(n:Nat)(t:Rat)(d:Sq):O6 n t (λm=>oy m d)=Li n t d:=by
 induction n generalizing d with
 |zero=>rfl
 |succ n ih=>
  simp only[O6,Li];rw[<-ih];congr 1;funext k;have h:=J3 k t (λk=>d (k+1)) d;have e:(λk=>d k+t*d (k+1))=λk=>t*d (k+1)+d k:=by funext k;exact Rat.add_comm _ _
  rw[e,h];simp only[oy]
  grind
def lZ(x:Rat):Nat->Sq->Sq
 |0,a,k=>a k
 |n+1,a,0=>a 0+x*lZ x n (λk=>a (k+1)) 0
 |n+1,a,k+1=>lZ x n (λk=>a (k+1)) k
theorem Ch(x y:Rat)(n:Nat)(a:Sq):eR (n+1) y a=lZ x (n+1) a 0+(y-x)*eR n y (λk=>lZ x (n+1) a (k+1)):=by
 induction n generalizing a with
 |zero=>simp only[eR,lZ];grind
 |succ n ih=>
  have h:=ih (λk=>a (k+1));have e:eR (n+2) y a=a 0+y*eR (n+1) y (λk=>a (k+1)):=rfl;have e2:eR (n+1) y (λk=>lZ x (n+2) a (k+1))=lZ x (n+1) (λk=>a (k+1)) 0+y*eR n y (λk=>lZ x (n+1) (λk=>a (k+1)) (k+1)):=rfl;have e3:lZ x (n+2) a 0=a 0+x*lZ x (n+1) (λk=>a (k+1)) 0:=rfl;rw[e,e2,e3,h]
  grind
def uS(x:Rat):Nat->Sq->Sq
 |0,a=>a
 |n+1,a=>λk=>match k with
  |0=>lZ x (n+1) a 0
  |k+1=>uS x n (λk=>lZ x (n+1) a (k+1)) k
theorem Su(x y:Rat)(n:Nat)(a:Sq):eR n (y-x) (uS x n a)=eR n y a:=by
 induction n generalizing a with
 |zero=>rfl
 |succ n ih=>
  rw[Ch x y n a];have e:eR (n+1) (y-x) (uS x (n+1) a)=lZ x (n+1) a 0+(y-x)*eR n (y-x) (uS x n (λk=>lZ x (n+1) a (k+1))):=rfl;rw[e,ih]
def ch:Nat->Nat->Nat
 |_,0=>1
 |0,_+1=>0
 |n+1,k+1=>ch n k+ch n (k+1)
theorem yl(h:n<k):ch n k=0:=by
 induction n generalizing k with
 |zero=>cases k with|zero=>omega|succ k=>rfl
 |succ n ih=>
  cases k with
  |zero=>omega
  |succ k=>simp only[ch];rw[ih (by omega),ih (by omega)]
theorem I9(n k:Nat)(h:k<=n):(k+1)*ch n (k+1)=(n-k)*ch n k:=by
 induction n generalizing k with
 | zero=>have:k=0:=by omega
         subst this;rfl
 |succ n ih=>
  cases k with
  |zero=>
   have h1:=ih 0 (by omega);have e0:ch n 0=1:=by cases n<;>rfl
   have e1:ch (n+1) 0=1:=rfl;have e2:ch (n+1) 1=ch n 0+ch n 1:=rfl;rw[e1,e2];rw[e0]at h1 ⊢;simp only[aeC,aeS,agc,afC]at h1 ⊢;omega
  |succ k=>
   have e1:ch (n+1) (k+2)=ch n (k+1)+ch n (k+2):=rfl;have e2:ch (n+1) (k+1)=ch n k+ch n (k+1):=rfl;rw[e1,e2]
   by_cases hk:k+1<=n
   ·have h1:=ih k (by omega);have h2:=ih (k+1) hk;obtain⟨j,rfl⟩:∃j,n=k+1+j:=⟨n-(k+1),by omega⟩
    have s1:k+1+j-k=j+1:=by omega
    have s2:k+1+j-(k+1)=j:=by omega
    have s3:k+1+j+1-(k+1)=j+1:=by omega
    rw[s1]at h1;rw[s2]at h2;rw[s3]
    grind
   ·have hkn:k=n:=by omega
    subst hkn;rw[yl (show k<k+1 by omega),yl (show k<k+2 by omega)];simp
theorem PM{x:Rat}{b:Sq}(h:∀k,k<=n->a k=b k):eR n x a=eR n x b:=by
 induction n generalizing a b with
 |zero=>exact h 0 (by omega)
 |succ n ih=>simp only[eR];rw[h 0 (by omega),ih (λk hk=>h (k+1) (by omega))]
theorem s9(n:Nat)(x y:Rat)(f g:Sq):eR n x (λk=>y*f k+g k)=y*eR n x f+eR n x g:=by
 induction n generalizing f g with
 |zero=>rfl
 |succ n ih=>simp only[eR];rw[ih];grind
theorem Rw(n:Nat)(t:Rat)(d:Sq):Li n t d=eR n t (λk=>(ch n k:Rat)*d k):=by
 induction n generalizing d with
 |zero=>simp[Li,eR,ch]
 |succ n ih=>
  simp only[Li];rw[ih];have e0:∀n,ch n 0=1:=λn=>by cases n<;>rfl
  have key:∀(m:Nat) (f g:Sq),eR m t f+t*eR m t g=f 0+t*eR m t (λk=>g k+(if k+1<=m then f (k+1)else 0)):=by
   intro m
   induction m with
   |zero=>intro f g;simp[eR,ae2]
   |succ m ihm=>
    intro f g;have h1:=ihm (λk=>f (k+1)) (λk=>g (k+1));simp only[eR];simp only[show(0+1<=m+1)=True by simp,if_true]
    have e:eR m t (λk=>g (k+1)+(if k+1+1<=m+1 then f (k+1+1)else 0))=eR m t (λk=>g (k+1)+(if k+1<=m then f (k+1+1)else 0)):=by
     congr 1;funext k;simp only[Nat.add_le_add_iff_right]
    rw[e]
    grind
  have e1:(λk=>(ch n k:Rat)*(d k+t*d (k+1)))=λk=>t*((ch n k:Rat)*d (k+1))+(ch n k:Rat)*d k:=by funext k;grind
  rw[e1,s9];have h:=key n (λk=>(ch n k:Rat)*d k) (λk=>(ch n k:Rat)*d (k+1));have e2:eR (n+1) t (λk=>(ch (n+1) k:Rat)*d k)=(ch (n+1) 0:Rat)*d 0+t*eR n t (λk=>(ch (n+1) (k+1):Rat)*d (k+1)):=rfl;rw[e2,e0];rw[Rat.add_comm,h,e0];congr 1;congr 1;refine PM λk hk=>?_;simp only[ch];split
  ·rw[Rat.natCast_add];grind
  ·have:n<k+1:=by omega
   rw[yl this];simp[ae2]
def ni(n:Nat)(w:Rat):Nat->Rat
 |0=>1
 |k+1=>ni n w k*w*((k+1:Nat):Rat)/((n-k:Nat):Rat)
theorem MA(n:Nat)(w:Rat)(k:Nat)(h:k<=n):(ch n k:Rat)*ni n w k=w^k:=by
 induction k with
 |zero=>cases n<;>simp[ch,ni]
 |succ k ih=>
  have h1:=ih (by omega);have h2:=I9 n k (by omega);have h3:((k+1:Nat):Rat)*(ch n (k+1):Rat)=((n-k:Nat):Rat)*(ch n k:Rat):=by rw[<-afT,<-afT,h2]
  have h4:((n-k:Nat):Rat)≠0:=by
   intro e;have:n-k=0:=by exact_mod_cast e
   omega
  simp only[ni];rw[afE,<-h1]
  grind
def oJ(n:Nat)(lo w:Rat)(a:Sq):Sq:=λm=>oy m (λk=>uS lo n a k*ni n w k)
def GB(L:Sq->Rat):Prop:=∀(x:Rat) (f g:Sq),L (λk=>x*f k+g k)=x*L f+L g
def Loc(n:Nat)(L:Sq->Rat):Prop:=∀(f g:Sq),(∀k,k<=n->f k=g k)->L f=L g
theorem GB.zero(h:GB L):L (λ_=>0)=0:=by
 have:=h 1 (λ_=>0) (λ_=>0);simp[ae2]at this
 grind
theorem GB.add(h:GB L)(f g:Sq):L (λk=>f k+g k)=L f+L g:=by
 have:=h 1 f g;simpa using this
theorem GB.mul(h:GB L)(x:Rat)(f:Sq):L (λk=>x*f k)=x*L f:=by
 have:=h x f (λ_=>0);rw[h.zero]at this;simpa[ae2]using this
theorem Nf(n:Nat)(x:Rat):GB (eR n x):=λy f g=>s9 n x y f g
def Com(M:Sq->Sq):Prop:=∀(L:Sq->Rat),GB L->∀(c:Nat->Sq) (k:Nat),L (λi=>M (λl=>c l i) k)=M (λl=>L (λi=>c l i)) k
theorem RR(L:Sq->Rat)(h:GB L)(c:Nat->Sq)(m:Nat):L (λi=>oy m (λl=>c l i))=oy m (λl=>L (λi=>c l i)):=by
 induction m generalizing c with
 |zero=>rfl
 |succ m ih=>simp only[oy];rw[h.add,ih,ih (λl=>c (l+1))]
theorem KE(x:Rat)(n:Nat):Com (lZ x n):=by
 intro L h
 induction n with
 |zero=>intro c k;rfl
 |succ n ih=>
  intro c k
  cases k with
  |zero=>
   simp only[lZ];have:=ih (λl=>c (l+1)) 0;rw[h.add,h.mul,this]
  |succ k=>exact ih (λl=>c (l+1)) k
theorem SM(x:Rat)(n:Nat):Com (uS x n):=by
 intro L h
 induction n with
 |zero=>intro c k;rfl
 |succ n ih=>
  intro c k
  cases k with
  |zero=>exact KE x (n+1) L h c 0
  |succ k=>
   have h1:=ih (λl i=>lZ x (n+1) (λl=>c l i) (l+1)) k
   have e:(λl=>L (λi=>lZ x (n+1) (λl=>c l i) (l+1)))=λl=>lZ x (n+1) (λl=>L (λi=>c l i)) (l+1):=by
    funext l;exact KE x (n+1) L h c (l+1)
   rw[e]at h1;exact h1
theorem Tx(n:Nat)(lo w:Rat):Com (oJ n lo w):=by
 intro L h c m;unfold oJ;rw[RR L h (λk i=>uS lo n (λl=>c l i) k*ni n w k)];congr 1;funext k;have e:(λi=>uS lo n (λl=>c l i) k*ni n w k)=λi=>ni n w k*uS lo n (λl=>c l i) k:=by funext i;exact afU _ _
 rw[e,h.mul,SM lo n L h c k,afU]
abbrev DB:=Nat×(Sq->Rat)
def mS:List DB->Nat
 |[]=>1
 |d::ds=>(d.1+1)*mS ds
theorem tf:∀ds:List DB,0<mS ds
 |[]=>by decide
 |d::ds=>aeh (Nat.succ_pos _) (tf ds)
def yN:List DB->Sq->Rat
 |[],c=>c 0
 |d::ds,c=>d.2 (λk=>yN ds (λi=>c (k*mS ds+i)))
theorem tU:∀{ds:List DB},(∀d∈ds,GB d.2)->GB (yN ds)
 |[],_=>λ_ _ _=>rfl
 |d::ds,h=>λx f g=>by
  have ih:=tU (ds:=ds) λe he=>h e (aew _ he)
  simp only[yN];rw[<-h d (aen ..)];refine congrArg d.2 (funext λk=>?_);exact ih x (λi=>f (k*mS ds+i)) (λi=>g (k*mS ds+i))
theorem B1:∀{ds:List DB},(∀d∈ds,Loc d.1 d.2)->∀{f g:Sq},(∀i,i<mS ds->f i=g i)->yN ds f=yN ds g
 |[],_,f,g,he=>he 0 (by decide)
 |d::ds,h,f,g,he=>by
  simp only[yN];refine h d (aen ..) _ _ λk hk=>B1 (λe he=>h e (aew _ he)) λi hi=>he _ ?_;have:k*mS ds+mS ds<=(d.1+1)*mS ds:=by rw[<-agd];exact adJ _ (by omega)
  show k*mS ds+i<(d.1+1)*mS ds;omega
def tr(n s:Nat)(M:Sq->Sq)(c:Sq):Sq:=λi=>M (λk=>c (i-i/s%(n+1)*s+k*s)) (i/s%(n+1))
theorem J9:∀(ds1:List DB) (d:DB) (ds2:List DB),∃q,mS (ds1++d::ds2)=q*((d.1+1)*mS ds2)
 |[],d,ds2=>⟨1,by simp[mS]⟩
 |e::ds1,d,ds2=>by
  obtain⟨q,h⟩:=J9 ds1 d ds2;exact⟨(e.1+1)*q,by simp only[aeX,mS];rw[h,ad5]⟩
theorem FY{n:Nat}{F F':Sq->Rat}:∀(ds1 ds2:List DB),mS (ds1++(n,F)::ds2)=mS (ds1++(n,F')::ds2)
 |[],ds2=>rfl
 |e::ds1,ds2=>by simp only[aeX,mS];rw[FY ds1 ds2]
theorem Oz{n:Nat}{F F':Sq->Rat}{M:Sq->Sq}(hM:Com M)(hF:∀a,F' (M a)=F a)(hl':Loc n F'){ds2:List DB}(h1:∀d∈ds2,GB d.2)(h2:∀d∈ds2,Loc d.1 d.2):
 ∀(ds1:List DB) (c:Sq),yN (ds1++(n,F')::ds2) (tr n (mS ds2) M c)=yN (ds1++(n,F)::ds2) c
 |[],c=>by
  have hs:=tf ds2;simp only[aeT,yN];rw[<-hF];refine hl' _ _ λk hk=>?_;have h3:=hM (yN ds2) (tU h1) (λl i=>c (l*mS ds2+i)) k;rw[<-h3];refine B1 h2 λi hi=>?_;unfold tr;have e1:(k*mS ds2+i)/mS ds2=k:=by rw[aea,age hs,aeY hi,aeI]
  rw[e1,aem (by omega:k<n+1)];congr 1;funext l;congr 1;omega
 |e::ds1,c=>by
  have hs:=tf ds2;simp only[aeX,yN];rw[FY (F:=F') (F':=F) ds1 ds2];refine congrArg e.2 (funext λk=>?_);rw[<-Oz hM hF hl' h1 h2 ds1];congr 1;funext i;unfold tr;obtain⟨q,hq⟩:=J9 ds1 (n,F) ds2;simp only at hq;rw[hq];have e1:k*(q*((n+1)*mS ds2))+i=mS ds2*(k*q*(n+1))+i:=by grind
  have e2:(k*(q*((n+1)*mS ds2))+i)/mS ds2%(n+1)=i/mS ds2%(n+1):=by
   rw[e1,age hs,aea (k*q),Nat.mul_add_mod]
  rw[e2];congr 1;funext l;congr 1;have h4:i/mS ds2%(n+1)*mS ds2<=i:=Ju (adJ _ (Nat.mod_le _ _)) (afF _ _);omega
theorem OK(n:Nat)(b:Sq):O6 n 1 b=b n:=by
 induction n generalizing b with
 |zero=>rfl
 |succ n ih=>simp only[O6];rw[ih];grind
theorem Bu{k0:Nat}(h:k0<=n)(x v:Rat):eR n x (λk=>if k=k0 then v else 0)=x^k0*v:=by
 induction n generalizing k0 with
 | zero=>have:k0=0:=by omega
         subst this;simp[eR]
 |succ n ih=>
  cases k0 with
  |zero=>
   have h0:=(Nf n x).zero;simp[eR,h0,ae2]
  |succ k0=>
   have h1:=ih (k0:=k0) (by omega);simp[eR,h1,agf];rw[afE];grind
structure Ax where
 n:Nat
 lo:Rat
 w:Rat
def ia:List Ax->Nat
 |[]=>1
 |a::l=>(a.n+1)*ia l
def Kr:List Ax->Sq->Sq
 |[],c=>c
 |a::l,c=>Kr l (tr a.n (ia l) (oJ a.n a.lo a.w) c)
def DC(c0:Sq)(ts:List (Rat×List Nat))(pl:List Nat->Nat):Sq:=ts.foldl (λc t i=>if i=pl t.2 then c i+t.1 else c i) c0
theorem BQ(x:Rat):∀(n:Nat) (a:Sq) (k:Nat),k<n->lZ x n a k=a k+x*lZ x n a (k+1)
 |n+1,a,0,_=>by
  show a 0+x*_=a 0+x*_
  cases n<;>rfl
 |n+1,a,k+1,h=>BQ x n (λk=>a (k+1)) k (by omega)
theorem tL(x:Rat):∀(n:Nat) (a:Sq),lZ x n a n=a n
 |0,_=>rfl
 |n+1,a=>tL x n λk=>a (k+1)
theorem KX{x0:Rat}(h:∀y,x0<y->eR n y a=0):∀k,k<=n->a k=0:=by
 induction n generalizing a x0 with
 |zero=>
  intro k hk;have:k=0:=by omega
  subst this;exact h (x0+1) (by grind)
 |succ n ih=>
  obtain⟨x,hx⟩:∃x,x0+1=x:=⟨_,rfl⟩
  have h0:lZ x (n+1) a 0=0:=by
   have e:=Ch x x n a;rw[h x (by grind)]at e
   grind
  have h1:=ih (a:=λk=>lZ x (n+1) a (k+1)) (x0:=x) λy hy=>by
   have e:=Ch x y n a;rw[h y (by grind),h0]at e;have e:(y-x)*eR n y (λk=>lZ x (n+1) a (k+1))=0:=by grind
   rcases Rat.mul_eq_zero.1 e with e|e
   ·grind
   ·exact e
  have h2:∀k,k<=n+1->lZ x (n+1) a k=0:=λk hk=>by
   cases k with
   |zero=>exact h0
   |succ k=>exact h1 k (by omega)
  intro k hk
  by_cases e:k=n+1
  ·subst e;rw[<-tL x (n+1) a];exact h2 _ (by omega)
  ·have:=BQ x (n+1) a k (by omega);rw[h2 k hk,h2 (k+1) (by omega)]at this
   grind
theorem SW{m:Nat}{d e:Sq}(h:∀k,k<=m->d k=e k):oy m d=oy m e:=by
 induction m generalizing d e with
 |zero=>exact h 0 (by omega)
 |succ m ih=>simp only[oy];rw[ih λk hk=>h k (by omega),ih λk hk=>h (k+1) (by omega)]
theorem BJ(h:k<=n):0<ch n k:=by
 induction n generalizing k with
 | zero=>have:k=0:=by omega
         subst this;decide
 |succ n ih=>
  cases k with
  |zero=>exact Nat.one_pos
  |succ k=>have:=ih (k:=k) (by omega);simp only[ch];omega
theorem xW(x:Rat):∀(n k:Nat),GB (λa=>lZ x n a k)
 |0,k=>λ_ _ _=>rfl
 |n+1,0=>λy f g=>by
  have:=xW x n 0 y (λk=>f (k+1)) (λk=>g (k+1));simp only[lZ];simp only at this;rw[this];grind
 |n+1,k+1=>λy f g=>xW x n k y (λk=>f (k+1)) (λk=>g (k+1))
theorem IP(x:Rat):∀(n k:Nat),GB (λa=>uS x n a k)
 |0,k=>λ_ _ _=>rfl
 |n+1,0=>xW x (n+1) 0
 |n+1,k+1=>λy f g=>by
  have:=IP x n k y (λk=>lZ x (n+1) f (k+1)) (λk=>lZ x (n+1) g (k+1));simp only[uS];simp only at this;rw[<-this];congr 1;funext j;exact xW x (n+1) (j+1) y f g
theorem SJ(n:Nat)(lo w:Rat)(m:Nat):GB (λa=>oJ n lo w a m):=λy f g=>by
 show oy m _=y*oy m _+oy m _;rw[<-J3];congr 1;funext k;have:=IP lo n k y f g;simp only at this;rw[this];grind
theorem xC(x:Rat):∀(n k:Nat),k<=n->Loc n (λa=>lZ x n a k)
 |0,k,h=>λf g e=>e k h
 |n+1,0,_=>λf g e=>by
  have:=xC x n 0 (by omega) (λk=>f (k+1)) (λk=>g (k+1)) λk hk=>e (k+1) (by omega)
  simp only[lZ];simp only at this;rw[this,e 0 (by omega)]
 |n+1,k+1,h=>λf g e=>xC x n k (by omega) (λk=>f (k+1)) (λk=>g (k+1)) λk hk=>e (k+1) (by omega)
theorem J1(x:Rat):∀(n k:Nat),k<=n->Loc n (λa=>uS x n a k)
 |0,k,h=>λf g e=>e k h
 |n+1,0,_=>xC x (n+1) 0 (by omega)
 |n+1,k+1,h=>λf g e=>J1 x n k (by omega) (λk=>lZ x (n+1) f (k+1)) (λk=>lZ x (n+1) g (k+1)) λj hj=>xC x (n+1) (j+1) (by omega) f g e
theorem IZ(n:Nat)(lo w:Rat)(m:Nat)(h:m<=n):Loc n (λa=>oJ n lo w a m):=λf g e=>SW λk hk=>by
 have:=J1 lo n k (by omega) f g e;simp only at this ⊢;rw[this]
structure Q4(n:Nat)(G:Sq->Rat):Prop where
 Vm:GB G
 loc:Loc n G
theorem Q4.oJ{G:Sq->Rat}(h:Q4 n G)(lo w:Rat):Q4 n (λa=>G (Am.oJ n lo w a)) where
 Vm:=λy f g=>by
  show G _=y*G _+G _;rw[<-h.Vm];congr 1;funext m;exact SJ n lo w m y f g
 loc:=λf g e=>h.loc _ _ λk hk=>IZ n lo w k hk f g e
def XS(p:Ax×(Sq->Rat)):DB:=(p.1.n,p.2)
def WD(p:Ax×(Sq->Rat)):DB:=(p.1.n,λa=>p.2 (oJ p.1.n p.1.lo p.1.w a))
theorem Nq:∀(l:List (Ax×(Sq->Rat))),mS (l.map WD)=ia (l.map (·.1))
 |[]=>rfl
 |p::l=>by show(p.1.n+1)*_=(p.1.n+1)*_;rw[Nq l]
theorem Jt:∀(l:List (Ax×(Sq->Rat))),mS (l.map XS)=ia (l.map (·.1))
 |[]=>rfl
 |p::l=>by show(p.1.n+1)*_=(p.1.n+1)*_;rw[Jt l]
theorem Jq:∀(l:List (Ax×(Sq->Rat))),(∀p∈l,Q4 p.1.n p.2)->∀(ds:List DB) (c:Sq),yN (ds++l.map XS) (Kr (l.map (·.1)) c)=yN (ds++l.map WD) c
 |[],_,_,_=>rfl
 |p::l,hl,ds,c=>by
  have hp:=hl p (aen ..);have hl':∀q∈l,Q4 q.1.n q.2:=λq hq=>hl q (aew _ hq)
  have h:=Jq l hl' (ds++[XS p]) (tr p.1.n (ia (l.map (·.1))) (oJ p.1.n p.1.lo p.1.w) c);rw[adX,adX]at h;refine h.trans ?_
  have h2:=Oz (n:=p.1.n) (F:=λa=>p.2 (oJ p.1.n p.1.lo p.1.w a)) (F':=p.2) (Tx p.1.n p.1.lo p.1.w) (λa=>rfl) hp.loc (ds2:=l.map WD)
   (λd hd=>by obtain⟨q,hq,rfl⟩:=List.mem_map.1 hd;exact((hl' q hq).oJ _ _).Vm) (λd hd=>by obtain⟨q,hq,rfl⟩:=List.mem_map.1 hd;exact((hl' q hq).oJ _ _).loc) ds c
  rw[Nq]at h2;exact h2
def Mh:List Ax->Nat->List (Ax×(Sq->Rat))
 |[],_=>[]
 |a::l,i=>(a,λb=>b (i/ia l))::Mh l (i%ia l)
theorem xD:∀(l:List Ax) (i:Nat),(Mh l i).map (·.1)=l
 |[],_=>rfl
 |a::l,i=>by simp only[Mh,adK,xD l]
theorem oW:∀l:List Ax,0<ia l
 |[]=>by decide
 |_::l=>aeh (Nat.succ_pos _) (oW l)
theorem Kf:∀(l:List Ax) (i:Nat) (c:Sq),i<ia l->yN ((Mh l i).map XS) c=c i
 | [],i,c,h=>by have:i=0:=by simpa [ia] using h
                subst this;rfl
 |a::l,i,c,h=>by
  show yN ((Mh l (i%ia l)).map XS) (λj=>c (i/ia l*mS ((Mh l (i%ia l)).map XS)+j))=c i;rw[Jt,xD,Kf l _ _ (adZ _ (oW l)),aea,afy]
inductive Hr:List Ax->List Ax->Prop where
 |nil:Hr [] []
 |same (a:Ax) {l l':List Ax}(h:Hr l l'):Hr (a::l) (a::l')
 |low (a:Ax) {l l':List Ax}(h:Hr l l'):Hr (a::l) (⟨a.n,a.lo,a.w/2⟩::l')
 |high (a:Ax) {l l':List Ax}(h:Hr l l'):Hr (a::l) (⟨a.n,a.lo+a.w/2,a.w/2⟩::l')
def FE(x:Rat)(n:Nat)(a:Sq):Nat->Sq
 |0=>a
 |i+1=>λk=>lZ x (n-i) (FE x n a i) (k+1)
theorem MM(x:Rat)(n:Nat)(a:Sq)(i:Nat):FE x (n+1) a (i+1)=FE x n (λk=>lZ x (n+1) a (k+1)) i:=by
 induction i with
 |zero=>rfl
 |succ i ih=>
  have e:FE x (n+1) a (i+2)=λk=>lZ x (n+1-(i+1)) (FE x (n+1) a (i+1)) (k+1):=rfl
  rw[e,ih,show n+1-(i+1)=n-i by omega];rfl
theorem BK(x:Rat)(n:Nat)(a:Sq)(i:Nat)(h:i<=n):uS x n a i=lZ x (n-i) (FE x n a i) 0:=by
 induction n generalizing a i with
 | zero=>have:i=0:=by omega
         subst this;rfl
 |succ n ih=>
  cases i with
  |zero=>rfl
  |succ i=>
   have h1:=ih (λk=>lZ x (n+1) a (k+1)) i (by omega);rw[MM,show n+1-(i+1)=n-i by omega,<-h1];rfl
def qY(x:Rat)(n:Nat)(a:Sq)(i k:Nat):Sq:=λj=>if j<i then uS x n a j else if j<k then FE x n a i (j-i)else lZ x (n-i) (FE x n a i) (j-i)
theorem MR(x:Rat)(n:Nat)(a:Sq)(h:j<=n):qY x n a 0 n j=a j:=by
 unfold qY;rw[if_neg (by omega)]
 by_cases e:j=n
 ·subst e;rw[if_neg (by omega)];exact tL x j a
 ·rw[if_pos (by omega)];rfl
theorem Qr(x:Rat)(n:Nat)(a:Sq)(hi:i<=k)(hk:k<n):(λj=>if j=k then qY x n a i (k+1) k+qY x n a i (k+1) (k+1)*x else qY x n a i (k+1) j)=qY x n a i k:=by
 funext j;unfold qY
 by_cases e:j=k
 ·subst e;rw[if_pos rfl,if_neg (by omega),if_pos (by omega),if_neg (by omega),if_neg (by omega),if_neg (by omega),if_neg (by omega),BQ x (n-i) _ (j-i) (by omega),show j+1-i=j-i+1 by omega]
  grind
 ·rw[if_neg e]
  by_cases h1:j<i
  ·rw[if_pos h1,if_pos h1]
  ·rw[if_neg h1,if_neg h1]
   by_cases h2:j<k
   ·rw[if_pos (by omega),if_pos h2]
   ·rw[if_neg (by omega),if_neg h2]
theorem Ni(x:Rat)(n:Nat)(a:Sq)(hi:i<n)(hj:j<=n):qY x n a i i j=qY x n a (i+1) n j:=by
 unfold qY
 by_cases h1:j<i
 ·rw[if_pos h1,if_pos (by omega)]
 ·rw[if_neg h1]
  by_cases h2:j=i
  ·subst h2;rw[if_neg (by omega),if_pos (by omega),BK x n a j (by omega),afk]
  ·rw[if_neg (by omega),if_neg (by omega)]
   have e:FE x n a (i+1) (j-(i+1))=lZ x (n-i) (FE x n a i) (j-i):=by
    show lZ x (n-i) (FE x n a i) (j-(i+1)+1)=_;rw[show j-(i+1)+1=j-i by omega]
   by_cases h3:j<n
   ·rw[if_pos h3,e]
   ·have:j=n:=by omega
    subst this;rw[if_neg (by omega),tL x (j-(i+1)) (FE x j a (i+1)),e]
theorem I0(x:Rat)(n:Nat)(a:Sq)(hj:j<=n):qY x n a n n j=uS x n a j:=by
 unfold qY
 by_cases h1:j<n
 ·rw[if_pos h1]
 ·have:j=n:=by omega
  subst this;rw[if_neg (by omega),if_neg (by omega),BK x j a j (by omega),afk]
def Ad(n:Nat)(x w:Rat)(a:Sq)(k:Nat):Sq:=λj=>if j<k then uS x n a j*ni n w j else uS x n a j
theorem Rx(n:Nat)(x w:Rat)(a:Sq):Ad n x w a 1=uS x n a:=by
 funext j;unfold Ad;split
 ·have:j=0:=by omega
  subst this;exact afz _
 ·rfl
theorem QJ(n:Nat)(x w:Rat)(a:Sq)(k:Nat):(λj=>if j=k then Ad n x w a k k*ni n w k else Ad n x w a k j)=Ad n x w a (k+1):=by
 funext j;unfold Ad
 by_cases e:j=k
 ·subst e;rw[if_pos rfl,if_neg (by omega),if_pos (by omega)]
 ·rw[if_neg e]
  by_cases h:j<k
  ·rw[if_pos h,if_pos (by omega)]
  ·rw[if_neg h,if_neg (by omega)]
def qZ(d:Sq)(i k:Nat):Sq:=λj=>if j<i then d j else if j<k then oy (j-i+1) (λl=>d (i-1+l))else oy (j-i) (λl=>d (i+l))
theorem L1(d:Sq)(n j:Nat)(h:j<=n):qZ d n n j=d j:=by
 unfold qZ
 by_cases e:j<n
 ·rw[if_pos e]
 ·have:j=n:=by omega
  subst this;rw[if_neg (by omega),if_neg (by omega),afk];rfl
theorem O5(d:Sq)(h0:0<i)(hk:i<=k):(λj=>if j=k then qZ d i k k+qZ d i k (k-1)else qZ d i k j)=qZ d i (k+1):=by
 funext j;unfold qZ
 by_cases e:j=k
 ·subst e;rw[if_pos rfl]
  have hp:oy (j-i+1) (λl=>d (i-1+l))=oy (j-i) (λl=>d (i-1+l))+oy (j-i) (λl=>d (i+l)):=by
   show oy (j-i) (λl=>d (i-1+l))+oy (j-i) (λl=>d (i-1+(l+1)))=_;rw[show(λl=>d (i-1+(l+1)))=λl=>d (i+l) from funext λl=>congrArg d (by omega)]
  have a1:(if j<i then d j else if j<j then oy (j-i+1) (λl=>d (i-1+l))else oy (j-i) (λl=>d (i+l)))=oy (j-i) (λl=>d (i+l)):=by
   rw[if_neg (by omega),if_neg (by omega)]
  have a2:(if j-1<i then d (j-1)else if j-1<j then oy (j-1-i+1) (λl=>d (i-1+l))else oy (j-1-i) (λl=>d (i+l)))=oy (j-i) (λl=>d (i-1+l)):=by
   by_cases e2:j=i
   ·subst e2;rw[if_pos (by omega),afk];rfl
   ·rw[if_neg (by omega),if_pos (by omega),show j-1-i+1=j-i by omega]
  have a3:(if j<i then d j else if j<j+1 then oy (j-i+1) (λl=>d (i-1+l))else oy (j-i) (λl=>d (i+l)))=oy (j-i+1) (λl=>d (i-1+l)):=by
   rw[if_neg (by omega),if_pos (by omega)]
  rw[a1,a2,a3,hp];exact Rat.add_comm _ _
 ·rw[if_neg e]
  by_cases h1:j<i
  ·rw[if_pos h1,if_pos h1]
  ·rw[if_neg h1,if_neg h1]
   by_cases h2:j<k
   ·rw[if_pos h2,if_pos (by omega)]
   ·rw[if_neg h2,if_neg (by omega)]
theorem Pf(d:Sq)(h0:0<i)(hj:j<=n):qZ d i (n+1) j=qZ d (i-1) (i-1) j:=by
 unfold qZ
 by_cases h1:j<i
 ·rw[if_pos h1]
  by_cases h2:j<i-1
  ·rw[if_pos h2]
  ·have:j=i-1:=by omega
   subst this;rw[if_neg (by omega),if_neg (by omega),afk];rfl
 ·rw[if_neg h1,if_pos (by omega),if_neg (by omega),if_neg (by omega),show j-(i-1)=j-i+1 by omega]
theorem SY(d:Sq)(j:Nat):qZ d 0 0 j=oy j d:=by
 unfold qZ;rw[if_neg (by omega),if_neg (by omega),agc];congr 1;funext l;rw[aeC]
theorem JB(n:Nat)(lo w:Rat)(a:Sq)(j:Nat):oJ n lo w a j=qZ (λk=>uS lo n a k*ni n w k) 0 0 j:=by
 rw[SY];rfl
def bq(D B:Nat)(x:Rat):Prop:=x.den ∣ D/\x.num.natAbs<=B*x.den
theorem o4(hD:D≠0){x:Rat}:bq D B x↔∃z:Int,x=(z:Rat)/(D:Rat)/\z.natAbs<=B*D:=by
 have hDq:(D:Rat)≠0:=λe=>hD (by exact_mod_cast e)
 constructor
 ·rintro⟨⟨q,hq⟩,h⟩;refine⟨x.num*q,?_,?_⟩
  ·have hx:(x.num:Rat)=x*(x.den:Rat):=by
    have h0:=agB x;rw[Rat.mkRat_eq_div]at h0;have hd:(x.den:Rat)≠0:=λe=>x.den_nz (by exact_mod_cast e)
    have h1:(x.num:Rat)/(x.den:Rat)=x:=h0
    grind
   have e1:(D:Rat)=(x.den:Rat)*(q:Rat):=by rw[hq,afT]
   rw[Rat.intCast_mul,Rat.intCast_natCast,hx]
   grind
  ·rw[Int.natAbs_mul,agT];have hq':B*D=B*x.den*q:=by rw[ad5,<-hq]
   rw[hq'];exact adJ _ h
 ·rintro⟨z,rfl,h⟩;have e:(z:Rat)/(D:Rat)=mkRat z D:=by rw[Rat.mkRat_eq_div]
  rw[e]
  have h1:(mkRat z D).num*D=z*(mkRat z D).den:=by
   have h2:mkRat (mkRat z D).num (mkRat z D).den=mkRat z D:=agB _;exact(Rat.mkRat_eq_iff (mkRat z D).den_nz hD).1 h2
  have hc:(mkRat z D).num.natAbs.Coprime (mkRat z D).den:=(mkRat z D).reduced
  have h3:(mkRat z D).num.natAbs*D=z.natAbs*(mkRat z D).den:=by
   have:=congrArg Int.natAbs h1
   rwa[Int.natAbs_mul,Int.natAbs_mul,agT,agT]at this
  refine⟨hc.symm.dvd_of_dvd_mul_left (h3▸Nat.dvd_mul_left _ _),?_⟩;have hpos:0<D:=aeZ hD;refine Nat.le_of_mul_le_mul_right ?_ hpos;rw[h3];have:z.natAbs*(mkRat z D).den<=B*D*(mkRat z D).den:=adJ _ h;refine Ju this ?_;rw[ad5,ad5,aea D];exact bh _
theorem GL(hD:D≠0){x y:Rat}(hx:bq D B x)(hy:bq D C y):bq D (B+C) (x+y):=by
 obtain⟨z,rfl,hz⟩:=(o4 hD).1 hx;obtain⟨u,rfl,hu⟩:=(o4 hD).1 hy;refine(o4 hD).2 ⟨z+u,?_,?_⟩
 ·rw[Rat.intCast_add];grind
 ·have:=Int.natAbs_add_le z u;rw[ad7];omega
theorem Dr(hD:D≠0)(hE:E≠0){x y:Rat}(hx:bq D B x)(hy:bq E C y):bq (D*E) (B*C) (x*y):=by
 obtain⟨z,rfl,hz⟩:=(o4 hD).1 hx;obtain⟨u,rfl,hu⟩:=(o4 hE).1 hy;refine(o4 (aeN hD hE)).2 ⟨z*u,?_,?_⟩
 ·rw[Rat.intCast_mul,afT];have hDq:(D:Rat)≠0:=λe=>hD (by exact_mod_cast e)
  have hEq:(E:Rat)≠0:=λe=>hE (by exact_mod_cast e)
  grind
 ·rw[Int.natAbs_mul];refine Ju (aeK hz hu) ?_;have:B*D*(C*E)=B*C*(D*E):=by grind
  omega
theorem fh{x:Rat}(h:bq D B x)(h1:D ∣ E)(h2:B<=C):bq E C x:=⟨Nat.dvd_trans h.1 h1,Ju h.2 (adJ _ h2)⟩
theorem TW(D B:Nat):bq D B 0:=⟨⟨D,by simp⟩,by simp⟩
theorem tX(x:Rat):bq x.den x.num.natAbs x:=⟨ae0 _,ae1 _ x.den_pos⟩
theorem jR(h:q≠0):q^k≠0:=aeE (aeb (aeZ h))
section
variable {D q B A:Nat}{x:Rat}
theorem P3(hD:D≠0)(hq:q≠0)(hx:bq q A x):∀{m:Nat}{T:Sq},(∀j,j<=m->bq (D*q^(m-j)) B (T j))->∀k,k<=m->bq (D*q^(m-k)) (B*(1+A)^(m-k)) (lZ x m T k):=by
 intro m T hT k hk;obtain⟨e,he⟩:∃e,m-k=e:=⟨_,rfl⟩
 induction e generalizing k with
 |zero=>
  have:k=m:=by omega
  subst this;rw[tL];refine fh (hT k hk) (by rw[he];exact ae0 _) (by rw[he];simp)
 |succ e ih=>
  have h1:=ih (k+1) (by omega) (by omega);rw[BQ x m T k (by omega)];have hm:m-(k+1)=e:=by omega
  rw[hm]at h1;have h2:=Dr hq (aeN hD (jR hq)) hx h1;rw[he];have h3:=hT k hk;rw[he]at h3;have e1:q*(D*q^e)=D*q^(e+1):=by rw[adR];grind
  rw[e1]at h2;refine fh (GL (aeN hD (jR hq)) h3 h2) (ae0 _) ?_;have e2:B*(1+A)^(e+1)=B*(1+A)^e+A*(B*(1+A)^e):=by rw[adR];grind
  rw[e2];have:B<=B*(1+A)^e:=ae1 _ (aeb (by omega));omega
theorem OH(hD:D≠0)(hq:q≠0)(hx:bq q A x)(ha:∀j,j<=n->bq D B (a j)):∀i,i<=n->∀k,k<=n-i->bq (D*q^(n-i-k)) (B*(1+A)^(n*i)) (FE x n a i k):=by
 intro i
 induction i with
 |zero=>intro _ k hk;exact fh (ha k (by omega)) (agU _ _) (by simp)
 |succ i ih=>
  intro hi k hk;have h:=P3 hD hq hx (m:=n-i) (T:=FE x n a i) (B:=B*(1+A)^(n*i)) (λj hj=>ih (by omega) j hj) (k+1) (by omega);refine fh h ?_ ?_
  ·rw[show n-(i+1)-k=n-i-(k+1) by omega];exact ae0 _
  ·rw[ad5,<-afa];refine ad9 _ (ael (by omega) ?_);rw[Nat.mul_succ];omega
theorem O3(hD:D≠0)(hq:q≠0)(hx:bq q A x)(ha:∀j,j<=n->bq D B (a j))(hi:i<=n)(hj:j<=n):bq (D*q^n) (B*(1+A)^(n*n+n)) (qY x n a i k j):=by
 have key:∀i,i<=n->∀k,k<=n-i->bq (D*q^n) (B*(1+A)^(n*n+n)) (FE x n a i k):=λi hi k hk=>by
  refine fh (OH hD hq hx ha i hi k hk) (Nat.mul_dvd_mul (ae0 _) (Nat.pow_dvd_pow _ (by omega))) (ad9 _ (ael (by omega) ?_));have:n*i<=n*n:=ad9 _ hi;omega
 have key2:∀i,i<=n->∀k,k<=n-i->bq (D*q^n) (B*(1+A)^(n*n+n)) (lZ x (n-i) (FE x n a i) k):=λi hi k hk=>by
  refine fh (P3 hD hq hx (m:=n-i) (T:=FE x n a i) (B:=B*(1+A)^(n*i)) (λj hj=>OH hD hq hx ha i hi j hj) k hk) (Nat.mul_dvd_mul (ae0 _) (Nat.pow_dvd_pow _ (by omega))) ?_;rw[ad5,<-afa];refine ad9 _ (ael (by omega) ?_);have:n*i<=n*n:=ad9 _ hi;omega
 unfold qY;split
 ·rw[BK x n a j hj];exact key2 j hj 0 (by omega)
 split
 ·exact key i hi _ (by omega)
 ·exact key2 i hi _ (by omega)
theorem MZ(hD:D≠0)(hq:q≠0)(hx:bq q A x)(ha:∀j,j<=n->bq D B (a j))(hj:j<=n):bq (D*q^n) (B*(1+A)^(n*n+n)) (uS x n a j):=by
 rw[<-I0 x n a hj];exact O3 hD hq hx ha (bh _) hj
end
theorem V8(hD:D≠0){x:Rat}(h:bq D B x)(k:Nat):bq (D^k) (B^k) (x^k):=by
 induction k with
 |zero=>exact⟨by simp,by simp⟩
 |succ k ih=>rw[adR,adR,afE];exact Dr (jR hD) hD ih h
theorem UY{c:Nat}(hD:D≠0)(hc:c≠0){x y:Rat}(h:bq D B x)(hy:(c:Rat)*y=x):bq (D*c) B y:=by
 obtain⟨z,rfl,hz⟩:=(o4 hD).1 h;refine(o4 (aeN hD hc)).2 ⟨z,?_,?_⟩
 ·have hcq:(c:Rat)≠0:=λe=>hc (by exact_mod_cast e)
  have hDq:(D:Rat)≠0:=λe=>hD (by exact_mod_cast e)
  rw[afT]
  grind
 ·refine Ju hz ?_;rw[<-ad5];exact ae1 _ (aeZ hc)
def DL(n:Nat):Nat->Nat
 |0=>1
 |k+1=>DL n k*ch n k
theorem Jk(n:Nat):∀{m k:Nat},k<m->ch n k ∣ DL n m
 |m+1,k,h=>by
  by_cases e:k=m
  ·subst e;exact Nat.dvd_mul_left _ _
  ·exact Nat.dvd_trans (Jk n (m:=m) (by omega)) (agU _ _)
theorem y7(n:Nat):∀m,m<=n+1->DL n m≠0
 |0,_=>Nat.one_ne_zero
 |m+1,h=>aeN (y7 n m (by omega)) (by have:=BJ (n:=n) (k:=m) (by omega);omega)
theorem OM(hE:E≠0)(hw:bq E W w)(hW:1<=W)(hk:k<=n):bq (E^n*DL n (n+1)) (W^n) (ni n w k):=by
 have h1:=UY (jR hE) (by have:=BJ hk;omega) (V8 hE hw k) (MA n w k hk);exact fh h1 (Nat.mul_dvd_mul (Nat.pow_dvd_pow _ hk) (Jk n (by omega))) (ael hW hk)
theorem B2{D B:Nat}(hD:D≠0):∀{m:Nat}{d:Sq},(∀k,k<=m->bq D B (d k))->bq D (B*2^m) (oy m d)
 |0,d,h=>fh (h 0 (by omega)) (ae0 _) (by simp)
 |m+1,d,h=>by
  have h1:=B2 hD (m:=m) (d:=d) λk hk=>h k (by omega)
  have h2:=B2 hD (m:=m) (d:=λk=>d (k+1)) λk hk=>h (k+1) (by omega)
  refine fh (GL hD h1 h2) (ae0 _) ?_;rw[adR,<-ad5];omega
theorem Ou(hD:D≠0){d:Sq}(h:∀k,k<=n->bq D B (d k))(hj:j<=n)(h0:0<i\/k=0):bq D (B*2^n) (qZ d i k j):=by
 have hB:B<=B*2^n:=ae1 _ (aeb (by omega));unfold qZ;split
 ·exact fh (h j hj) (ae0 _) hB
 split
 ·refine fh (B2 hD (m:=j-i+1) λl hl=>h _ (by omega)) (ae0 _) (ad9 _ (ael (by omega) (by omega)))
 ·refine fh (B2 hD (m:=j-i) λl hl=>h _ (by omega)) (ae0 _) (ad9 _ (ael (by omega) (by omega)))
theorem Xf{A:Nat}(hD:D≠0)(hq:q≠0)(hE:E≠0)(hx:bq q A lo)(hw:bq E W w)(hW:1<=W)(ha:∀j,j<=n->bq D B (a j))(hj:j<=n):
 bq (D*q^n*(E^n*DL n (n+1))) (B*(1+A)^(n*n+n)*W^n*2^n) (oJ n lo w a j):=by
 have hc:=y7 n (n+1) (bh _)
 have hd:∀k,k<=n->bq (D*q^n*(E^n*DL n (n+1))) (B*(1+A)^(n*n+n)*W^n) (uS lo n a k*ni n w k):=λk hk=>
  Dr (aeN hD (jR hq)) (aeN (jR hE) hc) (MZ hD hq hx ha hk) (OM hE hw hW hk)
 rw[JB];exact Ou (aeN (aeN hD (jR hq)) (aeN (jR hE) hc)) hd hj (.inr rfl)
theorem ag.Np{us:List AV}{K:AV->List (Key×LB)->List Key->Nat->Prop}(κ' kh:Key)(own:Bool)(sel nk:List Key)(σ σ' ν:List LB)(rds:List Key)
 (hc:aI c.P c.G f us σ (.ret x σ' ν)) (hn:(sel++nk).Nodup) (hkh:kh ∉ sel++nk) (hl1:sel.length=σ.length) (hl2:σ'.length=σ.length) (hl3:nk.length=ν.length) (hb:σ.length<=1000)
 (hsel:∀i (h:i<sel.length) (h':i<σ.length),(lv sel[i]).as σ[i] (aQ sel nk kh)) (hnk:∀k∈nk,lv k=.hole) (hh:lv kh=.hole) (hpass:∀b∈σ,b.pass=true) (hnh:∀b,b∈σ++σ'++ν->b≠.hole)
 (hown:own=true->∀k∈sel,(lv k).LN=true) (hlen:us.length=xs.length)
 (hargs:∀i (h:i<xs.length) (h':i<us.length),us[i].bX=true/\xs[i]=us[i].bY (aQ sel nk kh))
 (hrd:∀a∈xs,∀k∈wm lv a,k∈rds) (hrh:kh∈rds)
 (hK:K (x.bY (aQ sel nk kh)) (cF (aQ sel nk kh) own sel σ'++cF (aQ sel nk kh) own nk ν) rds κ'):ag c f xs lv K:=by
 have key:=b7.gen (c:=c) (f:=f) (as:=xs) (lv:=lv) us [] sel nk kh σ σ' ν x own rds (λz hz=>by cases hz) (by simp) (by omega) (λz hz=>by cases hz) (by omega) (λz hz=>by cases hz) hl1 hl2 hl3 hb hsel hnk hh hpass (by omega) hown hlen (λi p q=>.inl (hargs i p q)) (λa ha k hk=>.inl (hrd a ha k hk)) hrh hc;have e:fM []++cF (aQ sel nk kh) own sel σ'++cF (aQ sel nk kh) own nk ν=cF (aQ sel nk kh) own sel σ'++cF (aQ sel nk kh) own nk ν:=by simp[fM]
 rw[e]at key;exact⟨_,_,rds,κ',key,hK⟩
theorem aI.enm{iN:Key->LB}(hf:P.funcs[f]?=some fn)(hb:fn.body=some code)(hσ:bL σ []=iN)
 (h:∀z:Ev,AW ⟨P,G,z.w,z.F,z.W,fn.ntmps,iN,z.b,z.d⟩ none code ⟨λt=>args.getD t .undef,iN⟩ 1000 (YT ⟨P,G,z.w,z.F,z.W,fn.ntmps,iN,z.b,z.d⟩ fn x σ' ν)) (hl:Nat.ble args.length fn.ntmps=true:=by kernel_rfl):aI P G f args σ (.ret x σ' ν):=
 aI.NT hf hb (ad1 hl) λ⟨_,_,w,F,W,_,q,b,d⟩ h1 h2 h3 h4=>by subst hσ;cases h1;cases h2;cases h3;cases h4;exact h ⟨w,F,W,λ_=>.hole,b,d⟩
def bH:List Nat->Nat
 |[]=>1
 |n::l=>(n+1)*bH l
theorem iz:∀l:List Nat,0<bH l
 |[]=>by decide
 |_::l=>aeh (Nat.succ_pos _) (iz l)
theorem BC(l:List Nat)(n:Nat):bH (l++[n])=bH l*(n+1):=by
 induction l with
 |nil=>simp[bH]
 |cons a l ih=>simp only[aeX,bH,ih,ad5]
theorem zY(l l':List Nat):bH (l++l')=bH l*bH l':=by
 induction l with
 |nil=>simp[bH]
 |cons a l ih=>simp only[aeX,bH,ih,ad5]
theorem kJ(l:List Nat)(i:Nat):bH (l.take i)<=bH l:=by
 have h:=zY (l.take i) (l.drop i);rw[afh]at h;rw[h];exact ae1 _ (iz _)
theorem nc{l:List Nat}(h:i<l.length):bH (l.take (i+1))=bH (l.take i)*(l[i]+1):=by
 rw[afi,fy h];exact BC _ _
def vt:List Nat->List Nat->Nat
 |n::l,k::ks=>k*bH l+vt l ks
 |_,_=>0
def hpl:Nat->List Nat->List Nat->Nat
 |a,n::l,k::ks=>hpl (a*(n+1)+k) l ks
 |a,_,_=>a
theorem GX:∀(a:Nat) (l ks:List Nat),l.length=ks.length->hpl a l ks=a*bH l+vt l ks
 |a,[],[],_=>by simp[hpl,bH,vt]
 |a,n::l,k::ks,h=>by
  have ih:=GX (a*(n+1)+k) l ks (by simpa using h);simp only[hpl,bH,vt,ih];rw[ad7,ad5];omega
 |a,[],_::_,h=>by simp at h
 |a,_::_,[],h=>by simp at h
theorem OS(a:Nat)(l ks:List Nat)(h:l.length=ks.length):a<=hpl a l ks:=by
 rw[GX a l ks h];have:a<=a*bH l:=ae1 _ (iz l);omega
def yg:List Nat->List Nat->Prop
 |n::l,k::ks=>k<=n/\yg l ks
 |[],[]=>True
 |_,_=>False
theorem GK:∀{l ks:List Nat},yg l ks->vt l ks<bH l
 |[],[],_=>by decide
 |n::l,k::ks,h=>by
  have h1:=GK h.2;have:k*bH l+bH l<=(n+1)*bH l:=by rw[<-agd];exact adJ _ (by have:=h.1;omega)
  show k*bH l+vt l ks<(n+1)*bH l;omega
 |[],_::_,h=>h.elim
 |_::_,[],h=>h.elim
theorem Gx:∀{l ks:List Nat},yg l ks->l.length=ks.length
 |[],[],_=>rfl
 |n::l,k::ks,h=>by simp[Gx h.2]
 |[],_::_,h=>h.elim
 |_::_,[],h=>h.elim
theorem JI:∀{l ks:List Nat},l.length=ks.length->(∀j,j<l.length->ks.getD j 0<=l.getD j 0)->yg l ks
 |[],[],_,_=>trivial
 |n::l,k::ks,h,h2=>⟨h2 0 (by simp),JI (by simpa using h) λj hj=>by have:=h2 (j+1) (by simpa using hj);simpa using this⟩
 |[],_::_,h,_=>by simp at h
 |_::_,[],h,_=>by simp at h
theorem Dy:∀l:List Ax,ia l=bH (l.map (·.n))
 |[]=>rfl
 |a::l=>by show(a.n+1)*_=(a.n+1)*_;rw[Dy l]
abbrev hO:=Rat×List Nat
variable {ts:List hO}{t:hO}
def gX(ts:List hO)(j:Nat):Nat:=ts.foldl (λm t=>max m (t.2.getD j 0)) 0
theorem Ge(ts:List hO)(t:hO)(j:Nat):gX (ts++[t]) j=max (gX ts j) (t.2.getD j 0):=by
 unfold gX;rw[af8];rfl
theorem EZ(f:hO->Nat):∀(ts:List hO) (a:Nat),a<=ts.foldl (λm t=>max m (f t)) a/\∀t∈ts,f t<=ts.foldl (λm t=>max m (f t)) a
 |[],a=>⟨bh _,λt h=>by cases h⟩
 |t::ts,a=>by
  obtain⟨h1,h2⟩:=EZ f ts (max a (f t));simp only[afO];refine⟨by omega,λu hu=>?_⟩;rcases List.mem_cons.1 hu with rfl|hu
  ·omega
  ·exact h2 u hu
theorem We(h:t∈ts)(j:Nat):t.2.getD j 0<=gX ts j:=(EZ (λt=>t.2.getD j 0) ts 0).2 t h
theorem OO(h:∀t∈ts,∀j,t.2.getD j 0<=B)(j:Nat):gX ts j<=B:=by
 unfold gX
 have:∀(ts:List hO) (a:Nat),a<=B->(∀t∈ts,∀j,t.2.getD j 0<=B)->ts.foldl (λm t=>max m (t.2.getD j 0)) a<=B:=by
  intro ts
  induction ts with
  |nil=>intro a ha _;exact ha
  |cons t ts ih=>
   intro a ha hh;simp only[afO];exact ih _ (by have:=hh t (aen ..) j;omega) λu hu=>hh u (aew _ hu)
 exact this ts 0 (aa2 _) h
def jZ(ts:List hO)(N:Nat):List Nat:=(List.range N).map (gX ts)
theorem kK(ts:List hO)(N:Nat):(jZ ts N).length=N:=by simp[jZ]
theorem nt(ts:List hO)(N:Nat)(h:j<(jZ ts N).length):(jZ ts N)[j]=gX ts j:=by simp[jZ]
theorem Jl(h:t∈ts)(hl:t.2.length=N):yg (jZ ts N) t.2:=by
 refine JI (by rw[kK,hl]) λj hj=>?_;rw[kK]at hj;have:(jZ ts N).getD j 0=gX ts j:=by simp[jZ,hj]
 rw[this];exact We h j
theorem E1(c0:Sq)(ts:List hO)(t:hO)(pl:List Nat->Nat):DC c0 (ts++[t]) pl=λi=>if i=pl t.2 then DC c0 ts pl i+t.1 else DC c0 ts pl i:=by
 unfold DC;rw[af8];rfl
def OT(ts:List hO):Nat:=ts.foldl (λd t=>d*t.1.den) 1
def UE(ts:List hO):Nat:=ts.foldl (λd t=>d+t.1.num.natAbs) 0
theorem FI(ts:List hO)(t:hO):OT (ts++[t])=OT ts*t.1.den:=by unfold OT;rw[af8];rfl
theorem Eo(ts:List hO)(t:hO):UE (ts++[t])=UE ts+t.1.num.natAbs:=by unfold UE;rw[af8];rfl
theorem Uz{x:Rat}(h:bq D B x)(hn:n≠0):bq (D*n) B x:=⟨Nat.dvd_trans h.1 (agU _ _),h.2⟩
theorem Wg(pl:List Nat->Nat)(ts:List hO):OT ts≠0/\∀i,bq (OT ts) (UE ts) (DC (λ_=>0) ts pl i):=by
 have key:∀(r:List hO),OT r.reverse≠0/\∀i,bq (OT r.reverse) (UE r.reverse) (DC (λ_=>0) r.reverse pl i):=by
  intro r
  induction r with
  |nil=>exact⟨Nat.one_ne_zero,λi=>TW _ _⟩
  |cons t r ih=>
   rw[agh,FI,Eo,E1];obtain⟨h1,h2⟩:=ih;refine⟨aeN h1 t.1.den_nz,λi=>?_⟩;have h3:=Uz (h2 i) t.1.den_nz;have h4:bq (OT r.reverse*t.1.den) t.1.num.natAbs t.1:=by rw[aea];exact Uz (tX t.1) h1
   simp only;split
   ·exact GL (aeN h1 t.1.den_nz) h3 h4
   ·exact fh h3 (ae0 _) (by omega)
 have:=key ts.reverse;rw[agx]at this;exact this
structure Ow(p:Rat->Prop)(n:Nat)(lo w:Rat)(A:Sq):Prop where
 h1:∀i k j,i<=n->j<=n->p (qY lo n A i k j)
 h2:∀k,k<=n->p (ni n w k)
 h3:∀k j,j<=n->p (Ad n lo w A k j)
 h4:∀i k j,j<=n->0<i\/k=0->p (qZ (λk=>uS lo n A k*ni n w k) i k j)
def QW(D n:Nat)(lo w:Rat):Nat:=D*lo.den^n*(w.den^n*DL n (n+1))
def Uw(B n:Nat)(lo w:Rat):Nat:=B*(1+lo.num.natAbs)^(n*n+n)*(w.num.natAbs+1)^n*2^n
theorem QH(D:Nat)(lo w:Rat):QW D 0 lo w=D:=by simp[QW,DL,ch]
theorem Nu(B:Nat)(lo w:Rat):Uw B 0 lo w=B:=by simp[Uw]
theorem Hf(hD:D≠0)(n:Nat)(lo w:Rat):QW D n lo w≠0:=
 aeN (aeN hD (jR lo.den_nz)) (aeN (jR w.den_nz) (y7 n (n+1) (bh _)))
theorem wbq(w:Rat):bq w.den (w.num.natAbs+1) w:=fh (tX w) (ae0 _) (by omega)
theorem TU{A:Sq}(hD:D≠0)(hA:∀j,j<=n->bq D B (A j))(p:Rat->Prop)(hp:∀x,bq (QW D n lo w) (Uw B n lo w) x->p x)
 (hp2:∀x,bq (w.den^n*DL n (n+1)) ((w.num.natAbs+1)^n) x->p x):Ow p n lo w A:=by
 have hq:=lo.den_nz;have hE:=w.den_nz;have hc:=y7 n (n+1) (bh _);have hW1:1<=(w.num.natAbs+1)^n:=aeb (by omega);have h21:1<=2^n:=aeb (by omega);have hP1:1<=(w.num.natAbs+1)^n*2^n:=aeh hW1 h21
 have up1:∀{x},bq (D*lo.den^n) (B*(1+lo.num.natAbs)^(n*n+n)) x->p x:=λ{x} h=>hp x (fh h (agU _ _) (by
  unfold Uw;rw[ad5 _ ((w.num.natAbs+1)^n)];exact ae1 _ hP1))
 have up2:∀{x},bq (QW D n lo w) (B*(1+lo.num.natAbs)^(n*n+n)*(w.num.natAbs+1)^n) x->p x:=λ{x} h=>hp x (fh h (ae0 _) (ae1 _ h21))
 have hs:∀k,k<=n->bq (D*lo.den^n) (B*(1+lo.num.natAbs)^(n*n+n)) (uS lo n A k):=λk hk=>MZ hD hq (tX lo) hA hk
 have hcl:∀k,k<=n->bq (w.den^n*DL n (n+1)) ((w.num.natAbs+1)^n) (ni n w k):=λk hk=>OM hE (wbq w) (by omega) hk
 have hd:∀k,k<=n->bq (QW D n lo w) (B*(1+lo.num.natAbs)^(n*n+n)*(w.num.natAbs+1)^n) (uS lo n A k*ni n w k):=λk hk=>
  Dr (aeN hD (jR hq)) (aeN (jR hE) hc) (hs k hk) (hcl k hk)
 refine⟨λi k j hi hj=>up1 (O3 hD hq (tX lo) hA hi hj),λk hk=>hp2 _ (hcl k hk),λk j hj=>?_,λi k j hj h0=>?_⟩
 ·unfold Ad;split
  ·exact up2 (hd j hj)
  ·exact up1 (hs j hj)
 ·exact hp _ (Ou (Hf hD n lo w) hd hj h0)
theorem Ye{s:Nat}{c:Sq}(hD:D≠0)(h:∀i,bq D B (c i))(i:Nat):bq (QW D n lo w) (Uw B n lo w) (tr n s (oJ n lo w) c i):=by
 unfold tr;exact Xf hD lo.den_nz w.den_nz (tX lo) (wbq w) (by omega) (λj _=>h _) (by have:=adZ (i/s) (show 0<n+1 by omega);omega)
end Go.Am
