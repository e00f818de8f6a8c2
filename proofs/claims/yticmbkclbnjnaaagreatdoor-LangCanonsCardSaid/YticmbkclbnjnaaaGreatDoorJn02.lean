/- Helpers. -/
import Derived.Test.YticmbkclbnjnaaaGreatDoorJn01
import Derived.KernelRfl
import Derived.Scope
import Derived.RangeFuncLeaves
import Derived.RangeFuncRecord

set_option linter.all false
set_option maxHeartbeats 8000000
set_option maxRecDepth 100000
open Go.IntKind
namespace Go.Am
variable {x y v z:AV}{a1 a2 a3 a4 vc a5 a6:Prop}{f:FuncId}{c:Ctx}{xs args:List AV}{s:az}{κ t j u:Nat}{r:Option Nat}{Q:Ex->az->Nat->Prop}{o:Op}{lv:Key->LB}{fn:Func}{P:Program}{d:Option Tmp}{gd:List (Option Tmp)}{K:AV->List (Key×LB)->List Key->Nat->Prop}{rds:List Key}{T' ty T:TypeId}{ts:Array TypeId}{G:List (List DV)}{ops:Array Oper}{pos:String}{af:Array Edge}{os:List Oper}{w:Bool}{parts:Array (Nat×Operand)}
abbrev afF:=@List.flatMap_eq_nil_iff
abbrev adl:=@Nat.pow_succ
abbrev adB:=@Nat.mul_le_mul_left
abbrev afn:=@List.take_append_drop
abbrev adV:=@List.drop_eq_getElem_cons
abbrev aeE:=@List.drop_eq_nil_of_le
abbrev adQ:=@List.take_of_length_le
abbrev ad4:=@Nat.mul_pos
abbrev afo:=@Nat.add_mul_mod_self_left
abbrev aee:=@Nat.lt_of_le_of_lt
abbrev afG:=@Nat.pow_lt_pow_iff_right
abbrev adz:=@Nat.mul_assoc
abbrev adF:=@Nat.mul_add
abbrev adY:=@List.length_singleton
abbrev afV:=@List.set_eq_take_append_cons_drop
abbrev adJ:=@List.drop_zero
abbrev afH:=@BitVec.toNat_ofNat
abbrev afI:=@BitVec.ofInt_natCast
abbrev afJ:=@List.set_append_left
abbrev afp:=@List.mem_of_getElem?
abbrev afq:=@Nat.add_mul_div_left
abbrev aeF:=@Nat.div_eq_of_lt
abbrev adR:=@Nat.mul_comm
abbrev afK:=@List.zipWith_nil_left
abbrev adv:=@List.append_nil
abbrev aeo:=@Nat.mul_le_mul
abbrev afW:=@Nat.lt_of_mul_lt_mul_right
abbrev ae8:=@Nat.le_div_iff_mul_le
abbrev adK:=@Classical.byContradiction
abbrev aeG:=@Nat.div_lt_iff_lt_mul
abbrev aa8:=@List.not_mem_nil
abbrev ae9:=@List.all_nil
abbrev afa:=@Bool.and_true
abbrev afb:=@List.mem_of_find?_eq_some
abbrev afr:=@List.find?_some
theorem aD.kK{σ:List LB}{o:Out}{φ:Prop}(i:Nat)(hi:i<args.length)(hφ:∀(V:Vw) v,V.av v args[i]->φ)(k:φ->aD P G f args σ o):aD P G f args σ o:=
 λF β w vs hS hl hv=>k (hφ _ _ (hv i hi (by omega))) F β w vs hS hl hv
def W(l:List Nat):List (List DV):=l.map λ(x:Nat)=>[DV.int .u32 (x:Int)]
def tY(l:List Nat):AV:=.c (.d (.sl (W l)))
@[simp]theorem Xn(l:List Nat):(W l).length=l.length:=by simp[W]
@[simp]theorem acn:W []=[]:=rfl
@[simp]theorem acK(l m:List Nat):W (l++m)=W l++W m:=by simp[W]
@[simp]theorem aaN(x:Nat)(l:List Nat):W (x::l)=[DV.int .u32 (x:Int)]::W l:=rfl
theorem X1(l:List Nat):∀e∈W l,e.length=1:=by
 intro e he;simp only[W,adX]at he;grind
theorem NQ{V:Vw}{v:Value}{l:List Nat}(h:V.av v (tY l)):l.length<=9223372036854775807/\∀x∈l,x<=4294967295:=by
 have h1:=Vw.IP h;rw[Xn]at h1;refine⟨h1,λx hx=>?_⟩;obtain⟨h,_⟩:=h
 cases h with
 |sl b off cap sz _ vs hl hc hb hm ho hr=>
  obtain⟨i,hi,rfl⟩:=List.mem_iff_getElem.1 hx;have h2:=hr i (by simp_all) 0 (by simp[W]);simp only[W,BH,adW]at h2
  have h3:u32.wrap (l[i]:Int)=(l[i]:Int):=by
   generalize vs i 0=u at h2
   cases h2;assumption
  rw[qf]at h3;simp only[rR]at h3;omega
structure BJ where
 dst:Option Tmp
 op:Op
 g:Option (Option Tmp×Bool)
def EU(gd:List (Option Tmp))(o:Oper):BJ:=⟨o.dst,o.op,match o.guard with|none=>none|some (j,w)=>some ((gd[j]?).join,w)⟩
def kR(gd:List (Option Tmp)):List Oper->List BJ
 |[]=>[]
 |o::os=>EU gd o::kR gd os
def gz(ops:Array Oper):List BJ:=kR (ops.toList.map (·.dst)) ops.toList
def aT(c:Ctx):List BJ->az->Nat->(az->Nat->Prop)->Prop
 |[],s,κ,K=>K s κ
 |p::ps,s,κ,K=>match p.g with
  |none=>gJ c ⟨none,p.op,0, "",#[],none⟩ s κ λx us _ κ'=>aT c ps (az.put ⟨s.fr,bk s.lv us⟩ p.dst x) κ' K
  |some (t,w)=>pN t λt=>oH (uc (s.fr t) w)
   (λ_=>gJ c ⟨none,p.op,0, "",#[],none⟩ s κ λx us _ κ'=>aT c ps (az.put ⟨s.fr,bk s.lv us⟩ p.dst x) κ' K)
   (λ_=>aT c ps (s.put p.dst .undef) κ K)
theorem OX:((ops.toList.map (·.dst))[j]?).join=(ops[j]?).bind (·.dst):=by
 grind
theorem nO{c:Ctx}{ops:Array Oper}{K:az->Nat->Prop}:∀{os:List Oper}{s:az}{κ:Nat},aT c (kR (ops.toList.map (·.dst)) os) s κ K=qj c ops os s κ K
 |[],s,κ=>rfl
 | ⟨d,o,ty,pos,af,none⟩::os,s,κ=>by
  rw[Ic];simp only[kR,EU,aT];show gJ c ⟨d,o,ty,pos,af,none⟩ s κ _=_;congr 1;funext x us rds κ';exact nO
 | ⟨d,o,ty,pos,af,some (j,w)⟩::os,s,κ=>by
  rw[FM];simp only[kR,EU,aT,OX];congr 1;funext t;congr 1
  ·funext _;show gJ c ⟨d,o,ty,pos,af,some (j,w)⟩ s κ _=_;congr 1;funext x us rds κ';exact nO
  ·funext _;exact nO
theorem acE{id:Nat}(hd:cR c.n ops.toList=true)(h:aT c (gz ops) s κ λs' κ'=>Q .normal s' κ'):AW c r (.region id ops false) s κ Q:=
 AW.RA hd (by rw[<-nO];exact h)
section
variable {c:Ctx}{s:az}{κ:Nat}{K:az->Nat->Prop}
@[simp↓]theorem V8:aT c [] s κ K=K s κ:=rfl
theorem iW{ps:List BJ}:aT c (⟨d,o,none⟩::ps) s κ K =
 gJ c ⟨none,o,0, "",#[],none⟩ s κ λx us _ κ'=>aT c ps (az.put ⟨s.fr,bk s.lv us⟩ d x) κ' K:=rfl
theorem Pc{l:List Oper}:gz l.toArray=kR (l.map (·.dst)) l:=rfl
theorem Mx:kR gd []=[]:=rfl
theorem HE:kR gd (⟨d,o,ty,pos,af,none⟩::os)=⟨d,o,none⟩::kR gd os:=rfl
theorem Je:kR gd (⟨d,o,ty,pos,af,some (j,w)⟩::os)=⟨d,o,some ((gd[j]?).join,w)⟩::kR gd os:=rfl
end
section
variable {c:Ctx}{s:az}{κ:Nat}{K:az->Nat->Prop}{d:Option Tmp}{o:Op}{ps:List BJ}
end
theorem jr(h:x.pure=true):pz lv x=[]:=by
 cases x with
 |c x=>cases x<;>simp_all [AV.pure,AV.lH,CV.pure,pz,kM]
 |agg cs=>
  simp only[AV.pure,AV.lH,ab3]at h;simp only[pz,afF];intro x hx;have:=h x hx
  cases x<;>simp_all [CV.pure,kM]
 |_=>rfl
theorem cw.pure(hc:aa c.P c.G f xs x)(hx:x.pure=true)(hxs:∀a∈xs,a.pure=true)(kh:Key)(hh:lv kh=.hole):cw c f xs lv x [] [kh]:=by
 have key:=cw.gen (c:=c) (f:=f) (as:=xs) (lv:=lv) xs [] [] [] kh [] [] [] x false [kh] (λz hz=>by cases hz) (by simp) (by simp) (λz hz=>by cases hz) (by simp) (λz hz=>by cases hz) rfl rfl rfl (by simp)
  (λi h=>absurd h (adT i)) (λk hk=>by cases hk) hh (λb hb=>by cases hb) (λb hb=>by cases hb) (λh=>by cases h) rfl
  (λi p q=>.inl ⟨AV.eB (hxs _ (aZ q)),(AV.bM (hxs _ (aZ q)) _).symm⟩) (λa ha k hk=>by rw[jr (hxs a ha)]at hk;cases hk) (by simp) hc
 rwa[AV.bM hx]at key
theorem ag.pure(κ:Nat)(kh:Key)(hc:aa c.P c.G f xs x)(hx:x.pure=true)(hxs:∀a∈xs,a.pure=true)(hh:lv kh=.hole)
 (hK:K x [] [kh] κ):ag c f xs lv K:=⟨x,[],[kh],κ,cw.pure hc hx hxs kh hh,hK⟩
theorem ag.Z2{us:List AV}(κ:Nat)(kh:Key)(k:Key)(T:TypeId)(cs:List CV)(rds:List Key)
 (hc:aa c.P c.G f us x) (hx:x.pure=true) (hk:lv k=.cells true false T cs) (hh:lv kh=.hole) (hkh:kh≠k) (hlen:us.length=xs.length)
 (hxs:∀i (h:i<xs.length) (h':i<us.length),(us[i].pure=true/\xs[i]=us[i])\/fu (au lv k (.cells true true T cs)) xs[i]=some (us[i],[k]))
 (hrd:∀a∈xs,∀j∈pz (au lv k (.cells true true T cs)) a,j∈rds\/j=k) (hrh:kh∈rds)
 (hK:K x [(k,.cells true true T cs)] rds κ):ag c f xs lv K:=by
 have key:=cw.gen (c:=c) (f:=f) (as:=xs) (lv:=lv) us [(k,T,cs)] [] [] kh [] [] [] x false rds (λz hz=>by grind) (by simp) (by simp) (λz hz=>by simp) (by simp) (λz hz=>by grind) rfl rfl rfl (by simp)
  (λi h=>absurd h (adT i)) (λk hk=>by cases hk) hh (λb hb=>by cases hb) (λb hb=>by cases hb) (λh=>by cases h) hlen
  (λi p q=>?_) (λa ha j hj=>?_) hrh hc
 ·rw[AV.bM hx]at key;exact⟨x,_,rds,κ,key,hK⟩
 ·rcases hxs i p q with⟨h1,h2⟩|h1
  ·exact .inl ⟨AV.eB h1,by rw[AV.bM h1];exact h2⟩
  ·refine .inr ⟨[k],h1,λj hj=>?_⟩;simp only[ad8]at hj;subst hj;exact⟨true,T,cs,by simp[fU,bk,aC]⟩
 ·rcases hrd a ha j hj with h|h
  ·grind
  grind
def dn(c:Ctx)(ps:List BJ)(d:Option Tmp)(s:az)(κ:Nat)(K:az->Nat->Prop)(r:Option cH):Prop:=
 nY r κ λx us _ κ'=>aT c ps (az.put ⟨s.fr,bk s.lv us⟩ d x) κ' K
def IV(c:Ctx)(o:Op)(ps:List BJ)(d:Option Tmp)(s:az)(κ:Nat)(K:az->Nat->Prop)(w:Option Bool):Prop:=
 match w with
 |some true=>aT c (⟨d,o,none⟩::ps) s κ K
 |some false=>aT c ps (s.put d .undef) κ K
 |none=>False
def gM(c:Ctx)(f:FuncId)(xs:List AV)(ps:List BJ)(d:Option Tmp)(s:az)(κ:Nat)(K:az->Nat->Prop):Prop:=
 ag c f xs s.lv λx us _ κ'=>aT c ps (az.put ⟨s.fr,bk s.lv us⟩ d x) κ' K
def Ju(c:Ctx)(tgt:Option (FuncId×List AV×List AV))(xs:List AV)(ps:List BJ)(d:Option Tmp)(s:az)(κ:Nat)(K:az->Nat->Prop):Prop:=
 match tgt with
 |some (f,fs,cs)=>aH c.P f=true/\gM c f (fs++xs++cs) ps d s κ K
 |none=>False
attribute [simp] Pc Mx HE Je Va
@[simp]theorem TD:aJ [] t=.junk:=rfl
@[simp]theorem Q3{p:Nat×AV}{l:List (Nat×AV)}:aJ (p::l) t=if t=p.1 then p.2 else aJ l t:=rfl
section
variable {c:Ctx}{ps:List BJ}{d:Option Tmp}{s:az}{κ:Nat}{K:az->Nat->Prop}{T:TypeId}{x y z:Operand}
@[simp]theorem VH:dn c ps d s κ K (some (v,[],rds,vc))=(vc/\aT c ps (s.put d v) κ K):=propext ⟨id,id⟩
@[simp]theorem VN{p:Key×LB}:dn c ps d s κ K (some (v,[p],rds,vc))=(vc/\aT c ps (az.put ⟨s.fr,au s.lv p.1 p.2⟩ d v) (κ+1) K):=propext ⟨id,id⟩
@[simp]theorem V5{p q:Key×LB}:dn c ps d s κ K (some (v,[p,q],rds,vc))=(vc/\aT c ps (az.put ⟨s.fr,au (au s.lv p.1 p.2) q.1 q.2⟩ d v) (κ+1) K):=propext ⟨id,id⟩
@[simp]theorem WH:IV c o ps d s κ K (some true)=aT c (⟨d,o,none⟩::ps) s κ K:=propext ⟨id,id⟩
@[simp]theorem WK:IV c o ps d s κ K (some false)=aT c ps (s.put d .undef) κ K:=propext ⟨id,id⟩
@[simp]theorem Vt:Ju c (some (f,[],[])) xs ps d s κ K=(aH c.P f=true/\gM c f xs ps d s κ K):=by simp[Ju]
@[simp]theorem XX{t:Tmp}:aT c (⟨d,o,some (some t,w)⟩::ps) s κ K=IV c o ps d s κ K (uc (s.fr t) w):=propext ⟨id,id⟩
@[simp]theorem Zw:aT c (⟨d,.move x,none⟩::ps) s κ K=aT c ps (s.put d (s.val c.G x)) κ K:=by rw[iW,lX];rfl
@[simp]theorem Wd:aT c (⟨d,.assign x,none⟩::ps) s κ K=aT c ps (s.put d (s.val c.G x)) κ K:=by rw[iW,y6];rfl
@[simp]theorem ZU:aT c (⟨d,.pick x y z,none⟩::ps) s κ K=dn c ps d s κ K (G6 (s.val c.G x) (s.val c.G y) (s.val c.G z)):=by rfl
@[simp]theorem WM:aT c (⟨d,.alloc T,none⟩::ps) s κ K=dn c ps d s κ K (EI c.P T s.lv κ):=by rfl
@[simp]theorem WN{f:Nat}:aT c (⟨d,.field T x f,none⟩::ps) s κ K=dn c ps d s κ K (Dh c.P T f (s.val c.G x)):=by rfl
@[simp]theorem SH:aT c (⟨d,.indexAddr T x y,none⟩::ps) s κ K=dn c ps d s κ K (ak c.P T s.lv (s.val c.G x) (s.val c.G y)):=by rfl
@[simp]theorem XV:aT c (⟨d,.index T x y,none⟩::ps) s κ K=dn c ps d s κ K (gq c.P T (s.val c.G x) (s.val c.G y)):=by rfl
@[simp]theorem aab{i:Nat}:aT c (⟨d,.extract x i,none⟩::ps) s κ K=dn c ps d s κ K (xE i (s.val c.G x)):=by rfl
@[simp]theorem abp:aT c (⟨d,.makeInterface T x,none⟩::ps) s κ K=dn c ps d s κ K (QE c.P T (s.val c.G x)):=by rfl
@[simp]theorem abO:aT c (⟨d,.makeSlice T x y,none⟩::ps) s κ K=dn c ps d s κ K (gV c.P T s.lv κ (s.val c.G x) (s.val c.G y)):=by rfl
@[simp]theorem UX:aT c (⟨d,.slice T x none none none,none⟩::ps) s κ K=dn c ps d s κ K (bP c.P T s.lv (s.val c.G x) none none):=by rfl
@[simp]theorem Vc:aT c (⟨d,.slice T x (some y) none none,none⟩::ps) s κ K=dn c ps d s κ K (bP c.P T s.lv (s.val c.G x) (some (s.val c.G y)) none):=by rfl
@[simp]theorem TZ:aT c (⟨d,.slice T x none (some y) none,none⟩::ps) s κ K=dn c ps d s κ K (bP c.P T s.lv (s.val c.G x) none (some (s.val c.G y))):=by rfl
@[simp]theorem UM:aT c (⟨d,.slice T x (some y) (some z) none,none⟩::ps) s κ K=dn c ps d s κ K (bP c.P T s.lv (s.val c.G x) (some (s.val c.G y)) (some (s.val c.G z))):=by rfl
def dm(P:Program)(T:TypeId)(lv:Key->LB)(x:AV):Option cH:=match ku P T lv x with|some n=>some (.c (.d (.int .i64 n)),[],keyOf x,kQ x n)|none=>none
@[simp]theorem abo:aT c (⟨d,.call { callee:=.builtin .len,args:=#[x],argTypes:=#[T] },none⟩::ps) s κ K=dn c ps d s κ K (dm c.P T s.lv (s.val c.G x)):=by rfl
@[simp]theorem VY:aT c (⟨d,.call { callee:=.builtin .append,args:=#[x,y],argTypes:=#[T,T'] },none⟩::ps) s κ K=dn c ps d s κ K (if T=T' then eu c.P T s.lv κ (s.val c.G x) (s.val c.G y)else none):=by rfl
@[simp]theorem Zp{xs:Array Operand}:aT c (⟨d,.call { callee:=.value x,args:=xs,argTypes:=ts },none⟩::ps) s κ K=Ju c (cG (s.val c.G x)) (xs.toList.map (s.val c.G)) ps d s κ K:=by
 rfl
@[simp]theorem aaf{op:BinOp}:aT c (⟨d,.binOp op T x y T',none⟩::ps) s κ K=dn c ps d s κ K (aK c.P op T (s.val c.G x) (s.val c.G y)):=by rfl
@[simp]theorem acr{op:UnOp}:aT c (⟨d,.unOp op T x,none⟩::ps) s κ K=dn c ps d s κ K (OP op (s.val c.G x)):=by rfl
@[simp]theorem Y1:aT c (⟨d,.load T x,none⟩::ps) s κ K=dn c ps d s κ K (bh c.P T s.lv (s.val c.G x)):=by rfl
@[simp]theorem XZ:aT c (⟨d,.store T x y,none⟩::ps) s κ K=dn c ps d s κ K (ec c.P T s.lv (s.val c.G x) (s.val c.G y)):=by rfl
@[simp]theorem aa5:aT c (⟨d,.box T x,none⟩::ps) s κ K=dn c ps d s κ K (Sb T (s.val c.G x) s.lv κ):=by rfl
@[simp]theorem abu:aT c (⟨d,.nilCheck x,none⟩::ps) s κ K=dn c ps d s κ K (ig s.lv (s.val c.G x)):=by rfl
@[simp]theorem Zo{S:TypeId}:aT c (⟨d,.convert S T x,none⟩::ps) s κ K=dn c ps d s κ K (KB c.P S T (s.val c.G x)):=by rfl
@[simp]theorem RY{f:Nat}:aT c (⟨d,.fieldAddr T x f,none⟩::ps) s κ K=dn c ps d s κ K (cj c.P T f s.lv (s.val c.G x)):=by rfl
def eO(P:Program)(T:TypeId)(ixs:List Nat)(vals:List AV):Option cH:=match bg P T,uz P T with
 |some zs,some place=>if ixs.length=vals.length then(match jf place zs (ixs.zip vals)with|some cs=>some (.agg cs,[],[],True)|none=>none)else none
 |_,_=>none
@[simp]theorem XU:aT c (⟨d,.build T parts,none⟩::ps) s κ K=dn c ps d s κ K (eO c.P T (parts.toList.map (·.1)) (parts.toList.map λp=>s.val c.G p.2)):=by
 rw[iW];simp only[gJ,cX,Op.operands,dn,nY,eO,ady,ac5,aeJ];rfl
@[simp]theorem Qr{n:Nat}:aT c (⟨d,.buildSlice T n parts,none⟩::ps) s κ K=dn c ps d s κ K (ai c.P T n (parts.toList.map (·.1)) s.lv κ (parts.toList.map λp=>s.val c.G p.2)):=by
 rw[iW];simp only[gJ,cX,Op.operands,dn,nY,ady];rfl
@[simp]theorem Zy:aT c (⟨d,.call { callee:=.builtin .copy,args:=#[x,y],argTypes:=#[T,T'] },none⟩::ps) s κ K=dn c ps d s κ K (iI c.P T s.lv (s.val c.G x) (s.val c.G y)):=by
 rfl
@[simp]theorem aas{xs:Array Operand}:aT c (⟨d,.call { callee:=.builtin .max,args:=xs,argTypes:=ts },none⟩::ps) s κ K=dn c ps d s κ K (match eF (xs.toList.map (s.val c.G))with
 |some (k,n::l)=>some (.c (.d (.int k (l.foldl (λa b=>if b > a then b else a) n))),[],[],True)
 |_=>none):=by
 rw[iW];simp only[gJ,cX,lW,Op.operands,Call.operands,dn,nY,ae4];rfl
@[simp]theorem abf{xs:Array Operand}:aT c (⟨d,.call { callee:=.builtin .min,args:=xs,argTypes:=ts },none⟩::ps) s κ K=dn c ps d s κ K (match eF (xs.toList.map (s.val c.G))with
 |some (k,n::l)=>some (.c (.d (.int k (l.foldl (λa b=>if b<a then b else a) n))),[],[],True)
 |_=>none):=by
 rw[iW];simp only[gJ,cX,lW,Op.operands,Call.operands,dn,nY,ae4];rfl
end
section
variable {P:Program}{T:TypeId}{lv:Key->LB}{es:List (List DV)}{cs:List DV}{k:IntKind}{n:Int}{κ:Key}{off len sz:Nat}{lo hi:Option AV}{bs:List UInt8}
@[simp]theorem acP:ak P T lv (.c (.d (.sl es))) (.c (.d (.int k n)))=(match fk P T with
 |some (_,sz)=>some (.c (.d (.ptr (es.getD n.toNat []))),[],[],0<=n/\n<es.length/\(es.getD n.toNat []).length=sz)
 |none=>none):=rfl
@[simp]theorem aa0:ak P T lv (.c (.aE κ off len sz)) (.c (.d (.int k n)))=(match lv κ,fk P T with
 |.cells ..,some (_,sz')=>if sz=sz' then some (.c (.ptr κ (off+n.toNat*sz)),[],[κ],0<=n/\n<len)else none
 |_,_=>none):=rfl
@[simp]theorem ab6:ak P T lv (.c (.d (.ptr cs))) (.c (.d (.int k n)))=(match tv P T with
 |some (len,_,sz)=>some (.c (.d (.ptr (cs.drop (n.toNat*sz)))),[],[],0<=n/\n<len/\n.toNat*sz<=cs.length)
 |none=>none):=rfl
@[simp]theorem aaB:ak P T lv (.c (.ptr κ off)) (.c (.d (.int k n)))=(match lv κ,tv P T with
 |.cells ..,some (len,_,sz)=>some (.c (.ptr κ (off+n.toNat*sz)),[],[κ],0<=n/\n<len)
 |_,_=>none):=rfl
@[simp]theorem aai:bP P T lv (.c (.d (.str bs))) lo hi=if cA P T then(match dy lo 0,dy hi bs.length with
 |some l,some h=>some (.c (.d (.str ((bs.take h.toNat).drop l.toNat))),[],[],0<=l/\l<=h/\h<=bs.length)
 |_,_=>none)else none:=rfl
@[simp]theorem acB:bP P T lv (.c (.d (.sl es))) lo hi=(match fk P T with
 |some (_,sz)=>match dy lo 0,dy hi es.length with
  |some l,some h=>some (.c (.d (.sl ((es.take h.toNat).drop l.toNat))),[],[],0<=l/\l<=h/\h<=es.length/\∀e∈es,e.length=sz)
  |_,_=>none
 |none=>none):=rfl
@[simp]theorem aat:bP P T lv (.c (.d .nilsl)) lo hi=(match fk P T with
 |some _=>match dy lo 0,dy hi 0 with
  |some l,some h=>some (.c (.d .nilsl),[],[],l=0/\h=0)
  |_,_=>none
 |none=>none):=rfl
@[simp]theorem abG:bP P T lv (.c (.aE κ off len sz)) lo hi=(match lv κ,fk P T with
 |.cells ..,some (_,sz')=>if sz=sz' then(match dy lo 0,dy hi len with
  |some l,some h=>some (.c (.aE κ (off+l.toNat*sz) (h.toNat-l.toNat) sz),[],[κ],0<=l/\l<=h/\h<=len/\(l<h\/l=0))
  |_,_=>none)else none
 |_,_=>none):=rfl
end
attribute [simp] bh ec ig cj gq dy gV eu ai EI Sb Dh KB QE pn AV.cells
@[simp]theorem VW{x:CV}{r:List CV}(h:cZ P T=some false):fq P T (x::r)=some (.c x):=by simp[fq,h]
@[simp]theorem LS{cs:List CV}(h:cZ P T=some true):fq P T cs=if gS P T<=cs.length then some (.agg (cs.take (gS P T)))else none:=by simp[fq,h]
theorem aq.tmp(hr:fn.results=#[.tmp t])(kh:Key)(hx:s.fr t=x)(hp:x.pure=true)(hh:s.lv kh=.hole)(hn:x.cD=true):aq c fn x .ret s κ:=by
 refine⟨[(t,x)],kh,by grind,hh,?_⟩;rw[hr];simp[eD,l8,pE,aJ]
theorem aq.QH(hr:fn.results=#[.tmp t,.tmp u])(kh:Key)(hx:s.fr t=x)(hy:s.fr u=y)(hp:x.pure=true)(hq:y.pure=true)(hh:s.lv kh=.hole)(hn:x.cD=true)(hm:y.cD=true)(htu:t≠u):aq c fn (.tup [x,y]) .ret s κ:=by
 refine⟨[(t,x),(u,y)],kh,by grind,hh,?_⟩;rw[hr];have:¬u=t:=λh=>htu h.symm
 simp[eD,l8,pE,aJ,this,hn,hm]
theorem aco{α:Type}{x:Code}(st:α->az)(kk:Nat)(I:α->Prop)(μ:α->Nat)(a0:α)(hs:Le c s (st a0))(h0:I a0)
 (hr:∀a,I a->AW c r x (st a) kk (vk (λs' _=>∃a',Le c s' (st a')/\I a'/\μ a'<μ a) Q)):AW c r (.loop x) s κ Q:=by
 have key:∀n a,I a->μ a<=n->∀F β ac w,aA c F β (st a) ac w->Code.roundsIn (rM r) 0 c.P x (Post c Q) (n+1) ac w:=by
  intro n
  induction n with
  |zero=>
   intro a hI hn F β ac w hs;rw[roundsIn_succ];refine wpIn_mono (hr a hI F β ac w hs) λe a' w' hp=>?_;obtain⟨e',s',κ',F',β',hq,hs',he⟩:=hp
   cases e' with
   |normal=>simp_all
   |exit id=>cases he;exact⟨.exit id,s',κ',F',β',hq,hs',rfl⟩
   |goto l=>cases he;exact⟨.goto l,s',κ',F',β',hq,hs',rfl⟩
   |ret=>cases he;exact⟨.ret,s',κ',F',β',hq,hs',rfl⟩
   |panic d=>obtain⟨v,rfl,hv⟩:=he;exact⟨.panic d,s',κ',F',β',hq,hs',v,rfl,hv⟩
  |succ n ih=>
   intro a hI hn F β ac w hs;rw[roundsIn_succ];refine wpIn_mono (hr a hI F β ac w hs) λe a' w' hp=>?_;obtain⟨e',s',κ',F',β',hq,hs',he⟩:=hp
   cases e' with
   |normal=>
    cases he
    obtain⟨a2,⟨g,h1⟩,h2,h3⟩:=hq;exact ih a2 h2 (by omega) F' _ a' w' (hs'.coarse h1)
   |exit id=>cases he;exact⟨.exit id,s',κ',F',β',hq,hs',rfl⟩
   |goto l=>cases he;exact⟨.goto l,s',κ',F',β',hq,hs',rfl⟩
   |ret=>cases he;exact⟨.ret,s',κ',F',β',hq,hs',rfl⟩
   |panic d=>obtain⟨v,rfl,hv⟩:=he;exact⟨.panic d,s',κ',F',β',hq,hs',v,rfl,hv⟩
 obtain⟨g,hg⟩:=hs;refine AW.coarse (κ2:=0) hg λF β ac w hst=>?_;exact wpIn_loop_rounds _ (key (μ a0) a0 h0 (aU _) F β ac w hst)
@[simp]theorem Zg(h:x.cD=true):xE 0 (.tup [x,y])=some (x,[],[],True):=by
 cases x<;>first|rfl|cases h
@[simp]theorem YT(h:y.cD=true):xE 1 (.tup [x,y])=some (y,[],[],True):=by
 cases y<;>first|rfl|cases h
@[simp]theorem Y7(h:x.cD=true):xE 0 (.tup [x,y,z])=some (x,[],[],True):=by
 cases x<;>first|rfl|cases h
@[simp]theorem ZI(h:y.cD=true):xE 1 (.tup [x,y,z])=some (y,[],[],True):=by
 cases y<;>first|rfl|cases h
@[simp]theorem Ze(h:z.cD=true):xE 2 (.tup [x,y,z])=some (z,[],[],True):=by
 cases z<;>first|rfl|cases h
@[simp]theorem YW{x:CV}:(AV.c x).cD=true:=by cases x<;>rfl
@[simp]theorem VG{x:List CV}:(AV.agg x).cD=true:=by cases x<;>rfl
theorem ag.p(κ:Nat)(kh:Key)(hc:aa c.P c.G f xs x)(hK:K x [] [kh] κ)(hx:x.pure=true:=by first|(simp;done)|rfl)(hxs:∀a∈xs,a.pure=true:=by simp)(hh:lv kh=.hole:=by first|rfl|simp):ag c f xs lv K:=ag.pure κ kh hc hx hxs hh hK
theorem abz{o:Operand}{x y:Code}(hb:s.val c.G o=.c (.d (.bool true)))(h:AW c r x s κ Q):AW c r (.cond o x y) s κ Q:=adf (b:=true) hb h
theorem abD{o:Operand}{x y:Code}(hb:s.val c.G o=.c (.d (.bool false)))(h:AW c r y s κ Q):AW c r (.cond o x y) s κ Q:=adf (b:=false) hb h
theorem abA{o:Operand}{x y:Code}(h:AW c r x s κ Q)(hb:s.val c.G o=.c (.d (.bool true)):=by simp<;>omega):AW c r (.cond o x y) s κ Q:=adf (b:=true) hb h
theorem abg{o:Operand}{x y:Code}(h:AW c r y s κ Q)(hb:s.val c.G o=.c (.d (.bool false)):=by simp<;>omega):AW c r (.cond o x y) s κ Q:=adf (b:=false) hb h
theorem aL{a b:Prop}(h:b)(g:a:=by omega):a/\b:=⟨g,h⟩
structure Ev where
 w:World
 F:Nat->Prop
 W:Nat->Prop
 q:Key->LB
 b:Key->Nat
theorem aa.en{code:Code}(hf:P.funcs[f]?=some fn)(hb:fn.body=some code)
 (h:∀z:Ev,AW ⟨P,G,z.w,z.F,z.W,fn.ntmps,z.q,z.b⟩ none code ⟨λt=>args.getD t .undef,λ_=>.hole⟩ 0 (aq ⟨P,G,z.w,z.F,z.W,fn.ntmps,z.q,z.b⟩ fn x)) (hl:Nat.ble args.length fn.ntmps=true:=by kernel_rfl):aa P G f args x:=
 aa.o9 hf hb (adE hl) λ⟨_,_,w,F,W,_,q,b⟩ h1 h2 h3=>by cases h1;cases h2;cases h3;exact h ⟨w,F,W,q,b⟩
section
variable {c:Ctx}{r:Option Nat}{s s':az}{κ κ':Nat}{Q:Ex->az->Nat->Prop}{id:Nat}{ops:Array Oper}{y:Code}
theorem aaV(h:Q .ret s 0):AW c r .ret s κ Q:=acm (κ:=0) h
theorem aq.rt(hr:fn.results=#[.tmp t])(kh:Key)(hx:s.fr t=x)(hp:x.pure=true:=by first|rfl|simp)(hh:s.lv kh=.hole:=by first|rfl|simp)(hn:x.cD=true:=by first|rfl|simp):aq c fn x .ret s 0:=aq.tmp hr kh hx hp hh hn
theorem aaJ(h:aT c (gz ops) s κ λs' κ'=>Q .normal s' κ')(hd:cR c.n ops.toList=true:=by exact rfl):AW c r (.region id ops false) s κ Q:=acE hd h
theorem abU(h:∀K:az->Nat->Prop,(∀s κ,AW c r y s κ Q->K s κ)->aT c (gz ops) s κ K)(hd:cR c.n ops.toList=true:=by exact rfl):AW c r (.seq (.region id ops false) y) s κ Q:=
 aae λK hK=>acE hd (h K hK)
theorem aar(h:AW c r y s' κ' Q)(hd:cR c.n ops.toList=true:=by exact rfl)(hr:∀K:az->Nat->Prop,K s' κ'->aT c (gz ops) s κ K:=by intro K k;simp;(repeat refine aL ?_);exact k):AW c r (.seq (.region id ops false) y) s κ Q:=
 aae λK hK=>acE hd (hr K (hK _ _ h))
theorem adg(h:Q .normal s' κ')(hd:cR c.n ops.toList=true:=by exact rfl)(hr:∀K:az->Nat->Prop,K s' κ'->aT c (gz ops) s κ K:=by intro K k;simp;(repeat refine aL ?_);exact k):AW c r (.region id ops false) s κ Q:=
 acE hd (hr (λs κ=>Q .normal s κ) h)
theorem acF(κ1:Nat)(hc:aa c.P c.G f xs x)(h:AW c r y s' κ' Q)(hd:cR c.n ops.toList=true:=by exact rfl)(hr:∀κ2,κ2=κ1->aa c.P c.G f xs x->∀K:az->Nat->Prop,K s' κ'->aT c (gz ops) s κ K:=by intro κ2 e hc K k;simp;refine ag.p κ2 9 hc ?_;subst e;simp;(repeat refine aL ?_);exact k):AW c r (.seq (.region id ops false) y) s κ Q:=
 aae λK hK=>acE hd (hr κ1 rfl hc K (hK _ _ h))
theorem AW.m0(κ1:Nat)(hc:aa c.P c.G f xs x)(h:Q .normal s' κ')(hd:cR c.n ops.toList=true:=by exact rfl)(hr:∀κ2,κ2=κ1->aa c.P c.G f xs x->∀K:az->Nat->Prop,K s' κ'->aT c (gz ops) s κ K:=by intro κ2 e hc K k;simp;refine ag.p κ2 9 hc ?_;subst e;simp;(repeat refine aL ?_);exact k):AW c r (.region id ops false) s κ Q:=
 acE hd (hr κ1 rfl hc (λs κ=>Q .normal s κ) h)
theorem acf(e1:a1)(h:AW c r y s' κ' Q)(hd:cR c.n ops.toList=true:=by exact rfl)(hr:a1->∀K:az->Nat->Prop,K s' κ'->aT c (gz ops) s κ K:=by intro e1 K k;simp[e1];(repeat refine aL ?_);exact k):AW c r (.seq (.region id ops false) y) s κ Q:=
 aae λK hK=>acE hd (hr e1 K (hK _ _ h))
theorem acC(e1:a1)(h:Q .normal s' κ')(hd:cR c.n ops.toList=true:=by exact rfl)(hr:a1->∀K:az->Nat->Prop,K s' κ'->aT c (gz ops) s κ K:=by intro e1 K k;simp[e1];(repeat refine aL ?_);exact k):AW c r (.region id ops false) s κ Q:=
 acE hd (hr e1 (λs κ=>Q .normal s κ) h)
theorem acX(κ1:Nat)(hc:aa c.P c.G f xs x)(e1:a1)(h:AW c r y s' κ' Q)(hd:cR c.n ops.toList=true:=by exact rfl)(hr:∀κ2,κ2=κ1->a1->aa c.P c.G f xs x->∀K:az->Nat->Prop,K s' κ'->aT c (gz ops) s κ K:=by intro κ2 e e1 hc K k;simp[e1];refine ag.p κ2 9 hc ?_;subst e;simp[e1];(repeat refine aL ?_);exact k):AW c r (.seq (.region id ops false) y) s κ Q:=
 aae λK hK=>acE hd (hr κ1 rfl e1 hc K (hK _ _ h))
theorem ada(κ1:Nat)(hc:aa c.P c.G f xs x)(e1:a1)(h:Q .normal s' κ')(hd:cR c.n ops.toList=true:=by exact rfl)(hr:∀κ2,κ2=κ1->a1->aa c.P c.G f xs x->∀K:az->Nat->Prop,K s' κ'->aT c (gz ops) s κ K:=by intro κ2 e e1 hc K k;simp[e1];refine ag.p κ2 9 hc ?_;subst e;simp[e1];(repeat refine aL ?_);exact k):AW c r (.region id ops false) s κ Q:=
 acE hd (hr κ1 rfl e1 hc (λs κ=>Q .normal s κ) h)
theorem acv(e1:a1)(e2:a2)(h:AW c r y s' κ' Q)(hd:cR c.n ops.toList=true:=by exact rfl)(hr:a1->a2->∀K:az->Nat->Prop,K s' κ'->aT c (gz ops) s κ K:=by intro e1 e2 K k;simp[e1,e2];(repeat refine aL ?_);exact k):AW c r (.seq (.region id ops false) y) s κ Q:=
 aae λK hK=>acE hd (hr e1 e2 K (hK _ _ h))
theorem acJ(e1:a1)(e2:a2)(h:Q .normal s' κ')(hd:cR c.n ops.toList=true:=by exact rfl)(hr:a1->a2->∀K:az->Nat->Prop,K s' κ'->aT c (gz ops) s κ K:=by intro e1 e2 K k;simp[e1,e2];(repeat refine aL ?_);exact k):AW c r (.region id ops false) s κ Q:=
 acE hd (hr e1 e2 (λs κ=>Q .normal s κ) h)
theorem AW.c2(κ1:Nat)(hc:aa c.P c.G f xs x)(e1:a1)(e2:a2)(h:AW c r y s' κ' Q)(hd:cR c.n ops.toList=true:=by exact rfl)(hr:∀κ2,κ2=κ1->a1->a2->aa c.P c.G f xs x->∀K:az->Nat->Prop,K s' κ'->aT c (gz ops) s κ K:=by intro κ2 e e1 e2 hc K k;simp[e1,e2];refine ag.p κ2 9 hc ?_;subst e;simp[e1,e2];(repeat refine aL ?_);exact k):AW c r (.seq (.region id ops false) y) s κ Q:=
 aae λK hK=>acE hd (hr κ1 rfl e1 e2 hc K (hK _ _ h))
theorem AW.m2(κ1:Nat)(hc:aa c.P c.G f xs x)(e1:a1)(e2:a2)(h:Q .normal s' κ')(hd:cR c.n ops.toList=true:=by exact rfl)(hr:∀κ2,κ2=κ1->a1->a2->aa c.P c.G f xs x->∀K:az->Nat->Prop,K s' κ'->aT c (gz ops) s κ K:=by intro κ2 e e1 e2 hc K k;simp[e1,e2];refine ag.p κ2 9 hc ?_;subst e;simp[e1,e2];(repeat refine aL ?_);exact k):AW c r (.region id ops false) s κ Q:=
 acE hd (hr κ1 rfl e1 e2 hc (λs κ=>Q .normal s κ) h)
theorem adb(e1:a1)(e2:a2)(e3:a3)(h:AW c r y s' κ' Q)(hd:cR c.n ops.toList=true:=by exact rfl)(hr:a1->a2->a3->∀K:az->Nat->Prop,K s' κ'->aT c (gz ops) s κ K:=by intro e1 e2 e3 K k;simp[e1,e2,e3];(repeat refine aL ?_);exact k):AW c r (.seq (.region id ops false) y) s κ Q:=
 aae λK hK=>acE hd (hr e1 e2 e3 K (hK _ _ h))
theorem acZ(e1:a1)(e2:a2)(e3:a3)(h:Q .normal s' κ')(hd:cR c.n ops.toList=true:=by exact rfl)(hr:a1->a2->a3->∀K:az->Nat->Prop,K s' κ'->aT c (gz ops) s κ K:=by intro e1 e2 e3 K k;simp[e1,e2,e3];(repeat refine aL ?_);exact k):AW c r (.region id ops false) s κ Q:=
 acE hd (hr e1 e2 e3 (λs κ=>Q .normal s κ) h)
theorem adi(e1:a1)(e2:a2)(e3:a3)(e4:a4)(h:AW c r y s' κ' Q)(hd:cR c.n ops.toList=true:=by exact rfl)(hr:a1->a2->a3->a4->∀K:az->Nat->Prop,K s' κ'->aT c (gz ops) s κ K:=by intro e1 e2 e3 e4 K k;simp[e1,e2,e3,e4];(repeat refine aL ?_);exact k):AW c r (.seq (.region id ops false) y) s κ Q:=
 aae λK hK=>acE hd (hr e1 e2 e3 e4 K (hK _ _ h))
theorem acY(e1:a1)(e2:a2)(e3:a3)(e4:a4)(h:Q .normal s' κ')(hd:cR c.n ops.toList=true:=by exact rfl)(hr:a1->a2->a3->a4->∀K:az->Nat->Prop,K s' κ'->aT c (gz ops) s κ K:=by intro e1 e2 e3 e4 K k;simp[e1,e2,e3,e4];(repeat refine aL ?_);exact k):AW c r (.region id ops false) s κ Q:=
 acE hd (hr e1 e2 e3 e4 (λs κ=>Q .normal s κ) h)
theorem AW.c4(κ1:Nat)(hc:aa c.P c.G f xs x)(e1:a1)(e2:a2)(e3:a3)(e4:a4)(h:AW c r y s' κ' Q)(hd:cR c.n ops.toList=true:=by exact rfl)(hr:∀κ2,κ2=κ1->a1->a2->a3->a4->aa c.P c.G f xs x->∀K:az->Nat->Prop,K s' κ'->aT c (gz ops) s κ K:=by intro κ2 e e1 e2 e3 e4 hc K k;simp[e1,e2,e3,e4];refine ag.p κ2 9 hc ?_;subst e;simp[e1,e2,e3,e4];(repeat refine aL ?_);exact k):AW c r (.seq (.region id ops false) y) s κ Q:=
 aae λK hK=>acE hd (hr κ1 rfl e1 e2 e3 e4 hc K (hK _ _ h))
theorem AW.f5(e1:a1)(e2:a2)(e3:a3)(e4:a4)(e5:a5)(h:AW c r y s' κ' Q)(hd:cR c.n ops.toList=true:=by exact rfl)(hr:a1->a2->a3->a4->a5->∀K:az->Nat->Prop,K s' κ'->aT c (gz ops) s κ K:=by intro e1 e2 e3 e4 e5 K k;simp[e1,e2,e3,e4,e5];(repeat refine aL ?_);exact k):AW c r (.seq (.region id ops false) y) s κ Q:=
 aae λK hK=>acE hd (hr e1 e2 e3 e4 e5 K (hK _ _ h))
theorem AW.f6(e1:a1)(e2:a2)(e3:a3)(e4:a4)(e5:a5)(e6:a6)(h:AW c r y s' κ' Q)(hd:cR c.n ops.toList=true:=by exact rfl)(hr:a1->a2->a3->a4->a5->a6->∀K:az->Nat->Prop,K s' κ'->aT c (gz ops) s κ K:=by intro e1 e2 e3 e4 e5 e6 K k;simp[e1,e2,e3,e4,e5,e6];(repeat refine aL ?_);exact k):AW c r (.seq (.region id ops false) y) s κ Q:=
 aae λK hK=>acE hd (hr e1 e2 e3 e4 e5 e6 K (hK _ _ h))
theorem AW.f7{a7:Prop}(e1:a1)(e2:a2)(e3:a3)(e4:a4)(e5:a5)(e6:a6)(e7:a7)(h:AW c r y s' κ' Q)(hd:cR c.n ops.toList=true:=by exact rfl)(hr:a1->a2->a3->a4->a5->a6->a7->∀K:az->Nat->Prop,K s' κ'->aT c (gz ops) s κ K:=by intro e1 e2 e3 e4 e5 e6 e7 K k;simp[e1,e2,e3,e4,e5,e6,e7];(repeat refine aL ?_);exact k):AW c r (.seq (.region id ops false) y) s κ Q:=
 aae λK hK=>acE hd (hr e1 e2 e3 e4 e5 e6 e7 K (hK _ _ h))
theorem aq.t2{y:AV}(hr:fn.results=#[.tmp t,.tmp u])(kh:Key)(hx:s.fr t=x:=by simp)(hy:s.fr u=y:=by simp)(hp:x.pure=true:=by first|rfl|simp)(hq:y.pure=true:=by first|rfl|simp)(hh:s.lv kh=.hole:=by first|rfl|simp)(hn:x.cD=true:=by first|rfl|simp)(hm:y.cD=true:=by first|rfl|simp)(htu:t≠u:=by decide):aq c fn (.tup [x,y]) .ret s 0:=
 aq.QH hr kh hx hy hp hq hh hn hm htu
end
end Go.Am
namespace Go.Am.N
variable {B n i m d x:Nat}{l:List Nat}
def val(B:Nat):List Nat->Nat
 |[]=>0
 |d::l=>d+B*val B l
def ok(B:Nat)(l:List Nat):Prop:=∀d∈l,d<B
@[simp]theorem vt(B:Nat):val B []=0:=rfl
@[simp]theorem bW(B d:Nat)(l:List Nat):val B (d::l)=d+B*val B l:=rfl
theorem jN(B:Nat)(a b:List Nat):val B (a++b)=val B a+B^a.length*val B b:=by
 induction a with
 |nil=>simp
 |cons d a ih=>
  simp only[ad6,bW,ih,adN,adl]
  grind
theorem rK(B n:Nat):val B (List.replicate n 0)=0:=by
 induction n with
 |zero=>rfl
 |succ n ih=>simp[afi,ih]
theorem cK(B:Nat):ok B []:=λd h=>by cases h
theorem bS:ok B (d::l)↔d<B/\ok B l:=by simp[ok]
theorem cJ{a b:List Nat}:ok B (a++b)↔ok B a/\ok B b:=by
 simp only[ok,aem]
 grind
theorem vi(hB:0<B)(n:Nat):ok B (List.replicate n 0):=λd hd=>by grind
theorem mF(h:ok B l)(n:Nat):ok B (l.take n):=λd hd=>h d (aey hd)
theorem Dr(h:ok B l)(n:Nat):ok B (l.drop n):=λd hd=>h d (aeK hd)
theorem HF(h:ok B l)(n:Nat)(hx:x<B):ok B (l.set n x):=λd hd=>by
 rcases List.mem_or_eq_of_mem_set hd with h1|h1
 ·exact h d h1
 omega
theorem fV{B:Nat}:∀{l:List Nat},ok B l->val B l<B^l.length
 |[],_=>by simp
 |d::l,h=>by
  rw[bS]at h;have h1:=fV h.2;simp only[bW,adN,adl];have h2:B*(val B l+1)<=B*B^l.length:=adB _ h1
  grind
theorem bz(h:i<l.length):val B (l.take (i+1))=val B (l.take i)+B^i*l[i]:=by
 rw[List.take_succ_eq_append_getElem h,jN,ac7,adO (by omega)];simp
theorem cB(l:List Nat)(i:Nat)(h:i<=l.length):val B l=val B (l.take i)+B^i*val B (l.drop i):=by
 conv=>lhs;rw[<-afn i l,jN,ac7,adO h]
theorem c7(h:i<l.length):val B (l.drop i)=l[i]+B*val B (l.drop (i+1)):=by
 rw[adV h,bW]
theorem fR(h:l.length<=i):val B (l.drop i)=0:=by
 rw[aeE h];rfl
theorem aM(h:l.length<=i):val B (l.take i)=val B l:=by
 rw[adQ h]
def can(B:Nat)(l:List Nat):Prop:=ok B l/\∀x,l.getLast?=some x->x≠0
def dG(l:List Nat):List Nat:=(l.reverse.dropWhile (·=0)).reverse
@[simp]theorem Wf:dG []=[]:=rfl
theorem iZ(l:List Nat):dG (l++[0])=dG l:=by simp[dG]
theorem jJ(h:x≠0):dG (l++[x])=l++[x]:=by simp[dG,h]
theorem vg{p:List Nat->Prop}(h0:p [])(h1:∀l x,p l->p (l++[x]))(l:List Nat):p l:=by
 have key:∀l:List Nat,p l.reverse:=by
  intro l
  induction l with
  |nil=>exact h0
  |cons x l ih=>grind
 rw[<-List.reverse_reverse l];grind
theorem PZ(B:Nat)(l:List Nat):val B (dG l)=val B l:=by
 induction l using vg with
 |h0=>rfl
 |h1 l x ih=>
  by_cases h:x=0
  ·subst h;rw[iZ,ih,jN];simp
  ·rw[jJ h]
theorem MQ(l:List Nat):(dG l).length<=l.length:=by
 induction l using vg with
 |h0=>simp
 |h1 l x ih=>
  by_cases h:x=0
  ·subst h;rw[iZ];grind
  ·rw[jJ h];simp
theorem Dg(h:ok B l):ok B (dG l):=by
 induction l using vg with
 |h0=>exact h
 |h1 l x ih=>
  by_cases e:x=0
  ·subst e;rw[iZ];exact ih (cJ.1 h).1
  ·rw[jJ e];exact h
theorem PW(h:ok B l):can B (dG l):=by
 refine⟨Dg h,?_⟩;clear h
 induction l using vg with
 |h0=>simp
 |h1 l x ih=>
  by_cases e:x=0
  ·subst e;rw[iZ];exact ih
  ·rw[jJ e];grind
theorem zI(h:can B (d::l)):can B l:=by
 refine⟨(bS.1 h.1).2,λx hx=>h.2 x ?_⟩
 grind
theorem iP(h:can B l)(h0:l≠[]):0<val B l:=by
 induction l with
 |nil=>grind
 |cons d l ih=>
  simp only[bW]
  by_cases hl:l=[]
  ·subst hl;have:=h.2 d rfl;omega
  ·have h1:=ih (zI h) hl
   have h2:0<B:=by
    have:=(bS.1 h.1).1;omega
   have:=ad4 h2 h1;omega
theorem F9(h:can B l)(h0:val B l=0):l=[]:=by
 by_cases e:l=[]
 ·exact e
 ·have:=iP h e;omega
theorem JV{B:Nat}:∀{a b:List Nat},can B a->can B b->val B a=val B b->a=b
 |[],b,_,hb,h=>(F9 hb h.symm).symm
 |a,[],ha,_,h=>F9 ha h
 |d::a,e::b,ha,hb,h=>by
  simp only[bW]at h;have hd:=(bS.1 ha.1).1;have he:=(bS.1 hb.1).1
  have h1:d=e:=by
   have:=congrArg (· % B) h;simp only[afo,adL hd,adL he]at this;exact this
  subst h1;have h2:B*val B a=B*val B b:=by omega
  have h3:=Nat.eq_of_mul_eq_mul_left (by omega:0<B) h2;rw[JV (zI ha) (zI hb) h3]
def Gp(B:Nat):Nat->Nat->List Nat
 |0,_=>[]
 |f+1,n=>if n=0 then[]else n%B::Gp B f (n/B)
def aI(B n:Nat):List Nat:=Gp B n n
theorem zl{B:Nat}(hB:2<=B):∀{f n:Nat},n<=f->val B (Gp B f n)=n
 |0,n,h=>by simp[Gp];omega
 |f+1,n,h=>by
  simp only[Gp];split
  ·simp_all
  ·rename_i e
   have h1:n/B<n:=Nat.div_lt_self (by omega) (by omega);rw[bW,zl hB (by omega)];exact Nat.mod_add_div n B
theorem GU{B:Nat}(hB:2<=B):∀{f n:Nat},n<=f->can B (Gp B f n)
 |0,n,h=>⟨cK B,λx hx=>by cases hx⟩
 |f+1,n,h=>by
  simp only[Gp];split
  ·exact⟨cK B,λx hx=>by cases hx⟩
  ·rename_i e
   have h1:n/B<n:=Nat.div_lt_self (by omega) (by omega);have h2:=GU hB (f:=f) (n:=n/B) (by omega);refine⟨bS.2 ⟨adw _ (by omega),h2.1⟩,λx hx=>?_⟩
   cases e2:Gp B f (n/B)with
   |nil=>
    rw[e2]at hx;simp at hx;subst hx;have h3:=zl hB (f:=f) (n:=n/B) (by omega);rw[e2]at h3;simp at h3;have h4:=Nat.mod_add_div n B
    grind
   |cons d l=>
    rw[e2,List.getLast?_cons_cons]at hx;exact h2.2 x (by grind)
theorem bq(hB:2<=B)(n:Nat):val B (aI B n)=n:=zl hB (aU _)
theorem bx(hB:2<=B)(n:Nat):can B (aI B n):=GU hB (aU _)
theorem iE(hB:2<=B)(h:can B l)(hv:val B l=n):l=aI B n:=
 JV h (bx hB n) (by rw[hv,bq hB])
theorem eC(hB:2<=B)(h:ok B l)(hv:val B l=n):dG l=aI B n:=
 iE hB (PW h) (by rw[PZ,hv])
@[simp]theorem Xj(B:Nat):aI B 0=[]:=rfl
theorem eH(hB:2<=B):aI B n=[]↔n=0:=
 ⟨λh=>by rw[<-bq hB n,h];rfl,λh=>by rw[h];rfl⟩
theorem sH(hB:2<=B):n<B^(aI B n).length:=by
 have:=fV (bx hB n).1
 rwa[bq hB]at this
theorem UN(hB:2<=B)(h:n≠0):B^((aI B n).length-1)<=n:=by
 have hc:=bx hB n;have hv:=bq hB n;have hn:aI B n≠[]:=λe=>h ((eH hB).1 e)
 have hlen:0<(aI B n).length:=List.length_pos_iff.2 hn;have hlast:(aI B n).length-1<(aI B n).length:=by omega
 have h1:=cB (B:=B) (aI B n) ((aI B n).length-1) (by omega);rw[c7 hlast,hv]at h1;have h2:(aI B n)[(aI B n).length-1]≠0:=hc.2 _ (by grind)
 have h3:B^((aI B n).length-1)*1<=B^((aI B n).length-1)*((aI B n)[(aI B n).length-1]+B*val B ((aI B n).drop ((aI B n).length-1+1))):=
  adB _ (by omega)
 omega
theorem c8(hB:2<=B)(h:n<B^m):(aI B n).length<=m:=by
 by_cases e:n=0
 ·simp_all
 ·have h1:=UN hB e;have h2:B^((aI B n).length-1)<B^m:=aee h1 h;have:=(afG (by omega:1<B)).1 h2;omega
theorem VL(hB:2<=B)(h0:n≠0)(h:n<B):aI B n=[n]:=
 (iE hB ⟨bS.2 ⟨h,cK B⟩,λx hx=>by grind⟩ (by simp)).symm
theorem dB(hB:2<=B)(h:m<=n):(aI B m).length<=(aI B n).length:=
 c8 hB (aee h (sH hB))
theorem LW(hB:2<=B)(h:(aI B m).length<(aI B n).length):m<n:=by
 by_cases e:m<n
 ·exact e
 ·have:=dB hB (Nat.le_of_not_lt e);omega
end Go.Am.N
namespace Go.Am.N
def p9(B i m:Nat):B^i*(m%B)+B^(i+1)*(m/B)=B^i*m:=by
 rw[adl,adz,<-adF,Nat.mod_add_div]
def fF(B:Nat)(l:List Nat)(x:Nat):val B (l++[x])=val B l+B^l.length*x:=by
 rw[jN];simp
def oS(B:Nat)(l:List Nat)(m:Nat):val B (l++[m%B])+B^(l.length+1)*(m/B)=val B l+B^l.length*m:=by
 rw[fF,aez,p9]
def yI{B:Nat}:∀{l:List Nat}{i:Nat}(h:i<l.length) (x:Nat),val B (l.set i x)+B^i*l[i]=val B l+B^i*x
 |d::l,0,h,x=>by simp;omega
 |d::l,i+1,h,x=>by
  have ih:=yI (B:=B) (l:=l) (i:=i) (by grind) x;simp only[List.set_cons_succ,bW,List.getElem_cons_succ,adl]
  grind
end Go.Am.N
namespace Go.Am
open N
variable {T e:TypeId}{k k':IntKind}{P:Program}{lv:Key->LB}{o:Option (List Nat)}{i off len sz:Nat}{n:Int}{l:List Nat}
def dK(k:IntKind)(l:List Nat):List (List DV):=l.map λ(x:Nat)=>[DV.int k (x:Int)]
def nK(k:IntKind):Option (List Nat)->AV
 |none=>.c (.d .nilsl)
 |some l=>.c (.d (.sl (dK k l)))
def dO(o:Option (List Nat)):List Nat:=o.getD []
@[simp]theorem bf(l:List Nat):dO (some l)=l:=rfl
@[simp]theorem ZA:dO none=[]:=rfl
@[simp]theorem YV(k:IntKind)(o:Option (List Nat)):(nK k o).pure=true:=by cases o<;>rfl
@[simp]theorem YD(k:IntKind)(o:Option (List Nat)):(nK k o).cD=true:=by cases o<;>rfl
@[simp]theorem WD(k:IntKind)(o:Option (List Nat)):(nK k o).bF=true:=by cases o<;>rfl
@[simp]theorem aaw(k:IntKind)(o:Option (List Nat))(g:Key->Key):(nK k o).bJ g=nK k o:=by cases o<;>rfl
theorem iT{V:Vw}{v:Value}(h:V.av v (nK k o)):(dO o).length<=9223372036854775807/\∀x∈dO o,(x:Int)<=rR k:=by
 cases o with
 |none=>simp
 |some l=>
  have h1:=Vw.IP h;simp only[dK,ac5]at h1;refine⟨h1,λx hx=>?_⟩;obtain⟨h,_⟩:=h
  cases h with
  |sl b off cap sz _ vs hl hc hb hm ho hr=>
   obtain⟨i,hi,rfl⟩:=List.mem_iff_getElem.1 hx;simp only[bf]at hi;have h2:=hr i (by simpa[dK]using hi) 0 (by simp[dK]);simp only[dK,BH,adW]at h2
   have h3:k.wrap (l[i]:Int)=(l[i]:Int):=by
    generalize vs i 0=u at h2
    cases h2;assumption
   rw[qf]at h3
   simp_all
theorem qT{z:Nat}(h:fk P T=some (e,z)):dm P T lv (nK k o)=some (.c (.d (.int .i64 (dO o).length)),[],[],True):=by
 cases o<;>simp[dm,ku,nK,h,dK,keyOf,kQ]
theorem NV(h:fk P T=some (e,1))(hi:i<(dO o).length):
 ak P T lv (nK k o) (.c (.d (.int k' (i:Int))))=some (.c (.d (.ptr [DV.int k ((dO o)[i]:Int)])),[],[],True):=by
 cases o with
 |none=>cases hi
 |some l=>
  simp only[bf]at hi;have h1:(dK k l)[i]?.getD []=[DV.int k (l[i]:Int)]:=by simp[dK,hi]
  have h2:(i:Int)<(l.length:Int):=by omega
  simp[nK,ak,h,h1]
  grind
@[simp]theorem OI(h:(fk P T).isSome=true):dm P T lv (nK k o)=some (.c (.d (.int .i64 (dO o).length)),[],[],True):=by
 obtain⟨⟨e,z⟩,h⟩:=Option.isSome_iff_exists.1 h;exact qT h
@[simp]theorem gU(h:(fk P T).map (·.2)=some 1)(hi:i<(dO o).length):
 ak P T lv (nK k o) (.c (.d (.int k' (i:Int))))=some (.c (.d (.ptr [DV.int k ((dO o)[i]:Int)])),[],[],True):=by
 obtain⟨⟨e,z⟩,h,rfl⟩:=Option.map_eq_some_iff.1 h;exact NV h hi
@[simp]theorem Wy{k:Key}(h:(fk P T).isSome=true):dm P T lv (.c (.aE k off len sz))=(match lv k with|.cells ..|.bO=>some (.c (.d (.int .i64 len)),[],[k],kQ (.c (.aE k off len sz)) len)|_=>none):=by
 simp only[dm,ku,h,if_true]
 cases lv k<;>rfl
@[simp]theorem Wk{k:Key}:kQ (.c (.aE k off len sz)) n=(n<=9223372036854775807):=rfl
@[simp]theorem Ww{l:List UInt8}(h:cA P T=true):dm P T lv (.c (.d (.str l)))=some (.c (.d (.int .i64 l.length)),[],[],True):=by
 simp[dm,ku,h,keyOf]
attribute [simp] GL
def wK(k:IntKind)(l:List Nat):List CV:=l.map λ(x:Nat)=>CV.d (.int k (x:Int))
@[simp]theorem OQ(k:IntKind)(l:List Nat):(wK k l).length=l.length:=by simp[wK]
theorem gW(k:IntKind)(n:Nat):List.replicate n (CV.d (.int k 0))=wK k (List.replicate n 0):=by simp[wK]
theorem gx(k:IntKind)(h:i<l.length)(x:Nat):aj (wK k l) i [CV.d (.int k (x:Int))]=wK k (l.set i x):=by
 simp only[aj,wK,adY];rw[afV,if_pos h];simp
theorem Rq(ha:cZ P T=some false)(k:IntKind)(h:i<l.length):fq P T ((wK k l).drop i)=some (.c (.d (.int k (l[i]:Int)))):=by
 have:(wK k l).drop i=CV.d (.int k (l[i]:Int))::(wK k l).drop (i+1):=by
  rw[adV (by simp_all)];simp[wK]
 simp_all
attribute [simp] Rq
theorem Ad{lv:Key->LB}{n:Nat}{k:IntKind}:∀(l:List Nat),fO (cP lv n) (wK k l)=some (l.map λ(x:Nat)=>DV.int k (x:Int),[])
 |[]=>rfl
 |x::l=>by
  have ih:=Ad (lv:=lv) (n:=n) (k:=k) l;simp only[wK,ac4,fO]at ih⊢;rw[ih]
  cases n<;>rfl
theorem nJ{α:Type}:∀(l:List α),chunk 1 l.length l=l.map λx=>[x]
 |l=>by
  apply List.ext_getElem
  ·simp[chunk]
  ·intro i h1 h2;simp[chunk]at h1 h2⊢;rw[adV (by omega)];rfl
theorem Ei{κ:Key}{own fz:Bool}(h:lv κ=.cells own fz T (wK k l))(hl:l.length<=9223372036854775807):fu lv (.c (.aE κ 0 l.length 1))=some (nK k (some l),[κ]):=by
 have h1:(wK k l).take l.length=wK k l:=adQ (by simp);simp only[fu,cP,h,OQ,ad3,adx,aU,hl,and_self,if_true,adJ,h1,Ad,adm];have h2:=nJ (l.map λ(x:Nat)=>DV.int k (x:Int));rw[ac5]at h2;rw[h2];simp[nK,dK]
theorem bE(h1:-9223372036854775808<=n)(h2:n<=9223372036854775807):i64.wrap n=n:=c6 ⟨h1,h2⟩
theorem dR(h1:0<=n)(h2:n<=18446744073709551615):u64.wrap n=n:=c6 ⟨h1,h2⟩
theorem wP(h1:0<=n)(h2:n<=4294967295):u32.wrap n=n:=c6 ⟨h1,h2⟩
theorem r8(n:Int):u32.wrap n=n%4294967296:=by rfl
theorem BT(n:Int):u64.wrap n=n%18446744073709551616:=by rfl
theorem gM.rT{c:Ctx}{f:FuncId}{ps:List BJ}{d:Option Tmp}{s:az}{κ:Nat}{K:az->Nat->Prop}(κ':Nat)(kh:Key)(κb:Key){x:AV}(hk:s.lv κb=.cells true false T (wK k l))(hl:l.length<=9223372036854775807)
 (hc:aa c.P c.G f [nK k (some l)] x) (hx:x.pure=true) (hh:s.lv kh=.hole) (hkh:kh≠κb) (hK:aT c ps (az.put ⟨s.fr,au s.lv κb (.cells true true T (wK k l))⟩ d x) κ' K):gM c f [.c (.aE κb 0 l.length 1)] ps d s κ K:=by
 refine ag.Z2 κ' kh κb T (wK k l) [kh] hc hx hk hh hkh rfl (λi p q=>?_) (λa ha j hj=>?_) (by simp) hK
 ·have hi:i=0:=by simp at p;omega
  subst hi;right;exact Ei (aC _ _ _) hl
 ·simp only[ad8]at ha;subst ha;simp only[pz,kM,fy,aC]at hj;rcases hj with rfl|hj
  ·simp
  ·simp only[aec]at hj;obtain⟨y,hy,hj⟩:=hj;simp only[wK,adX]at hy;obtain⟨z,_,rfl⟩:=hy
   cases hj
end Go.Am
namespace Go.Am
open N
variable {lv lv':Key->LB}{c:Ctx}{fr:Nat->AV}
attribute [simp] D0
@[simp]theorem Y2(x:CV):(AV.c x).bF=true:=rfl
@[simp]theorem We(x:List CV):(AV.agg x).bF=true:=rfl
@[simp]theorem ZW(x:DV):(AV.c (.d x)).pure=true:=rfl
theorem acW{r:Option Nat}{s:az}{κ:Nat}{Q:Ex->az->Nat->Prop}{x:Code}(κ':Nat)(h:AW c r x s κ' Q):AW c r x s κ Q:=h
def jk(lv:Key->LB):Prop:=∀k own es,lv k≠.map own es
@[simp]theorem aW:jk (λ_=>.hole):=λk own es h=>by cases h
@[simp]theorem wm(h:jk lv)(k:Key)(own fz:Bool)(T:TypeId)(cs:List CV):jk (au lv k (.cells own fz T cs)):=λk' o es h'=>by
 unfold au at h';split at h'
 ·cases h'
 ·exact h _ _ _ h'
@[simp]theorem qn(h:jk lv)(k:Key):jk (au lv k .dead):=λk' o es h'=>by
 unfold au at h';split at h'
 ·cases h'
 ·exact h _ _ _ h'
theorem Le.mk'(l:List (Nat×AV))(he:lv=lv')(hm:jk lv)(hl:∀p∈l,p.2.bF=true/\fr p.1=p.2):Le c ⟨fr,lv⟩ ⟨aJ l,lv'⟩:=by
 subst he;exact Le.slots l hl (λk own es h=>absurd h (hm k own es))
theorem Le.pq(l:List (Nat×AV))(he:lv=lv':=by first|rfl|simp)(hl:∀p∈l,p.2.bF=true/\fr p.1=p.2:=by simp)(hm:jk lv:=by repeat (first|exact aW|refine wm ?_ _ _ _ _ _|(refine qn ?_ _)|(refine Cj ?_ _ _ _)|(refine pW ?_ _)|simp)):Le c ⟨fr,lv⟩ ⟨aJ l,lv'⟩:=Le.mk' l he hm hl
theorem lA(pre:List Nat)(m x:Nat):(pre++List.replicate (m+1) 0).set pre.length x=(pre++[x])++List.replicate m 0:=by
 grind
end Go.Am
namespace Go.Am
variable {P:Program}{T:TypeId}{k:IntKind}{m n:Int}
def Nu(k:IntKind)(m n:Int):Int:=k.wrap (BitVec.ofInt k.bits m |||BitVec.ofInt k.bits n).toNat
def aak(k:IntKind)(m n:Int):Int:=k.wrap (BitVec.ofInt k.bits m&&&BitVec.ofInt k.bits n).toNat
@[simp]theorem aaq:aK P .or T (.c (.d (.int k m))) (.c (.d (.int k n)))=some (.c (.d (.int k (Nu k m n))),[],[],True):=Yu
@[simp]theorem Zv:aK P .and T (.c (.d (.int k m))) (.c (.d (.int k n)))=some (.c (.d (.int k (aak k m n))),[],[],True):=U5
theorem Vh(m n:Nat)(hm:m<18446744073709551616)(hn:n<18446744073709551616):Nu .u64 (m:Int) (n:Int)=((m |||n:Nat):Int):=by
 have h2:(BitVec.ofNat 64 m |||BitVec.ofNat 64 n).toNat=m |||n:=by
  rw[BitVec.toNat_or,afH,afH,adL hm,adL hn]
 have h3:m |||n<18446744073709551616:=Nat.or_lt_two_pow (n:=64) hm hn;show u64.wrap (((BitVec.ofInt 64 (m:Int) |||BitVec.ofInt 64 (n:Int)).toNat:Nat):Int)=_;rw[afI,afI,h2];generalize m |||n=q at h3;exact dR (by omega) (by omega)
theorem EO(k:IntKind)(m n:Int):Nu k m n=Nu k n m:=by unfold Nu;grind
theorem vw{m y:Nat}(hm:m<4294967296)(hy:y<4294967296):Nu .u64 ((m*4294967296:Nat):Int) (y:Int)=((m*4294967296+y:Nat):Int):=by
 rw[Vh _ _ (by omega) (by omega)];congr 1;have:=Nat.shiftLeft_add_eq_or_of_lt (i:=32) (b:=y) (by omega) m;rw[Nat.shiftLeft_eq]at this
 grind
theorem qH(qs:List Nat)(k x:Nat):(List.replicate (k+1) 0++qs).set k x=List.replicate k 0++(x::qs):=by
 rw[afJ _ _ (by simp),List.replicate_succ',List.set_append_right _ _ (by simp)];simp
end Go.Am
namespace Go.Am
def VE(m n:Nat)(hm:m<4294967296)(hn:n<4294967296):Nu .u32 (m:Int) (n:Int)=((m |||n:Nat):Int):=by
 have h2:(BitVec.ofNat 32 m |||BitVec.ofNat 32 n).toNat=m |||n:=by
  rw[BitVec.toNat_or,afH,afH,adL hm,adL hn]
 have h3:m |||n<4294967296:=Nat.or_lt_two_pow (n:=32) hm hn;show u32.wrap (((BitVec.ofInt 32 (m:Int) |||BitVec.ofInt 32 (n:Int)).toNat:Nat):Int)=_;rw[afI,afI,h2];generalize m |||n=q at h3;exact wP (by omega) (by omega)
def Nl{t y s:Nat}(ht:t<2^s)(h:y*2^s+t<4294967296):Nu .u32 (t:Int) ((y*2^s:Nat):Int)=((y*2^s+t:Nat):Int):=by
 rw[EO,VE _ _ (by omega) (by omega)];congr 1;have:=Nat.shiftLeft_add_eq_or_of_lt (i:=s) (b:=t) ht y;rw[Nat.shiftLeft_eq]at this;omega
end Go.Am
namespace Go.Am
variable {x:Nat}{lo pre r:List Nat}
theorem nu{P:Program}{T:TypeId}(ha:cZ P T=some false)(k:IntKind){l:List Nat}{i:Nat}(h:l[i]?=some x):fq P T ((wK k l).drop i)=some (.c (.d (.int k (x:Int)))):=by
 obtain⟨hi,rfl⟩:=List.getElem?_eq_some_iff.1 h
 simp_all
theorem Kg(hi:List Nat):(lo++(pre++x::r)++hi)[lo.length+pre.length]?=some x:=by
 simp
theorem yH(hi:List Nat)(d:Nat):(lo++(pre++x::r)++hi).set (lo.length+pre.length) d=lo++((pre++[d])++r)++hi:=by
 simp
end Go.Am
namespace Go.Am
variable {x i:AV}{c:Ctx}{ops:Array Oper}{s:az}{κ:Nat}{o:Oper}{K:AV->List (Key×LB)->List Key->Nat->Prop}
def kV:Op->Bool
 |.move _|.assign _|.pick ..|.build ..|.load ..|.nilCheck _|.binOp ..|.unOp ..|.convert ..|.makeInterface ..|.slice ..|.fieldAddr ..|.field ..|.indexAddr ..|.index ..|.extract ..=>true
 |.call cl=>match cl.callee with|.builtin .len|.builtin .max|.builtin .min=>true|_=>false
 |_=>false
section
variable {P:Program}{T:TypeId}{lv:Key->LB}{κ:Key}{v:AV}{us:List (Key×LB)}{rds:List Key}{vc:Prop}
theorem WS{op:BinOp}{y:AV}(h:aK P op T x y=some (v,us,rds,vc)):us=[]:=by
 unfold aK at h;grind
theorem Vk(h:bh P T lv x=some (v,us,rds,vc)):us=[]:=by
 unfold bh at h;grind
theorem WA(h:ig lv x=some (v,us,rds,vc)):us=[]:=by
 unfold ig at h;grind
theorem aay{f:Nat}(h:cj P T f lv x=some (v,us,rds,vc)):us=[]:=by
 unfold cj at h;grind
theorem abK(h:ak P T lv x i=some (v,us,rds,vc)):us=[]:=by
 unfold ak at h;grind
theorem aaa(h:gq P T x i=some (v,us,rds,vc)):us=[]:=by
 unfold gq at h;grind
theorem aaS{lo hi:Option AV}(h:bP P T lv x lo hi=some (v,us,rds,vc)):us=[]:=by
 unfold bP at h;grind
theorem FX{op:Op}{vals:List AV}(hq:kV op=true)(h:cX P op vals lv κ=some (v,us,rds,vc)):us=[]:=by
 unfold cX at h;split at h
 all_goals first
  |exact WS h
  |exact Vk h
  |exact WA h
  |exact aay h
  |exact abK h
  |exact aaa h
  |(cases hq;done)
  |(split at h;(exact aaS h);(grind))
  |((repeat' split at h)<;>first|(cases h;done)|(simp only[ah,rP]at h;exact h.2.1.symm))
  |skip
 ·rename_i cl vals'
  unfold lW at h;simp only[kV]at hq
  grind
end
theorem gJ.quiet(hq:kV o.op=true)(h:gJ c o s κ K):gJ c o s κ λx us rds κ'=>us=[]/\K x us rds κ':=by
 have plain:(match cX c.P o.op (o.op.operands.toList.map (s.val c.G)) s.lv κ with
  |some (x,us,rds,vc)=>vc/\K x us rds (match us with|[]=>κ|_=>κ+1)
  |none=>False)->(match cX c.P o.op (o.op.operands.toList.map (s.val c.G)) s.lv κ with
  |some (x,us,rds,vc)=>vc/\(us=[]/\K x us rds (match us with|[]=>κ|_=>κ+1))
  |none=>False):=by
  intro h;split at h
  ·rename_i x us rds vc hs
   exact⟨h.1,FX hq hs,h.2⟩
  ·omega
 unfold gJ at h⊢;split at h
 ·rename_i cl ho
  split at h
  ·rename_i fo hf
   rw[ho]at hq;simp only[kV,hf]at hq
   cases hq
  grind
 grind
theorem gJ.mono{K':AV->List (Key×LB)->List Key->Nat->Prop}(h:gJ c o s κ K)(hK:∀x us rds κ',K x us rds κ'->K' x us rds κ'):gJ c o s κ K':=by
 unfold gJ at h⊢;split at h
 ·grind
 grind
theorem gy.mono{K K':az->Nat->List Fx->Prop}:∀{os:List Oper}{s:az}{κ:Nat}{acc:List Fx},gy c ops os s κ acc K->(∀s κ acc,K s κ acc->K' s κ acc)->gy c ops os s κ acc K'
 |[],s,κ,acc,h,hK=>hK _ _ _ h
 |o::os,s,κ,acc,h,hK=>by
  simp only[gy]at h⊢;split at h
  ·exact gJ.mono h λx us rds κ' h3=>gy.mono h3 hK
  ·exact gy.mono h hK
  omega
theorem gy.quiet{K:az->Nat->Prop}:∀{os:List Oper}{s:az}{κ:Nat}{acc:List Fx},os.all (λo=>kV o.op)=true->(∀e∈acc,e.us=[])->gy c ops os s κ acc (λs κ _=>K s κ) ->
 gy c ops os s κ acc (λs κ acc=>(∀e∈acc,e.us=[])/\K s κ)
 |[],s,κ,acc,_,ha,h=>⟨ha,h⟩
 |o::os,s,κ,acc,hq,ha,h=>by
  simp only[aed,cy]at hq;simp only[gy]at h⊢;split at h
  ·rename_i hw
   have h2:=gJ.quiet hq.1 h;refine gJ.mono h2 λx us rds κ' h3=>?_;obtain⟨rfl,h4⟩:=h3
   exact gy.quiet hq.2 (λe he=>by
    grind) h4
  ·exact gy.quiet hq.2 (λe he=>by
    grind) h
  omega
theorem ID{es:List Fx}(h:∀e∈es,e.us=[]):En ops es=true:=by
 simp only[En,ab3];intro j _;split
 ·rename_i e' he'
  rw[ad2];right;rw[ab3];intro i _;split
  ·rename_i e he
   rw[ad2];right;simp[wL,h e (afp he),h e' (afp he')]
  ·rfl
 ·rfl
theorem acV{r:Option Nat}{Q:Ex->az->Nat->Prop}{id:Nat}(hm:c.P.follows .mixedOrders=true)(hst:iB ops=true)(hd:cR c.n ops.toList=true)(hq:ops.toList.all (λo=>kV o.op)=true)
 (h:aT c (gz ops) s κ λs' κ'=>Q .normal s' κ'):AW c r (.region id ops true) s κ Q:=by
 refine AW.draw hm hst hd ?_;have h1:qj c ops ops.toList s κ λs' κ'=>Q .normal s' κ':=by rw[<-nO];exact h
 have h2:=gy.quiet hq (λe he=>by cases he) h1;refine gy.mono h2 λs' κ' acc h3=>⟨ID λe he=>h3.1 e (List.mem_reverse.1 he),h3.2⟩
end Go.Am
namespace Go.Am.N
variable {m n B:Nat}{a b:List Nat}
theorem qO{j:Nat}(ha:ok B a)(h1:j<a.length)(h2:j<b.length)(hd:a.drop (j+1)=b.drop (j+1))(h:a[j]<b[j]):val B a<val B b:=by
 have e1:=cB (B:=B) a j (by omega);have e2:=cB (B:=B) b j (by omega);rw[c7 h1]at e1;rw[c7 h2,<-hd]at e2;have h3:=fV (mF ha j);rw[ac7,adO (by omega)]at h3;have h4:B^j*(a[j]+B*val B (a.drop (j+1))+1)<=B^j*(b[j]+B*val B (a.drop (j+1))):=adB _ (by omega)
 grind
theorem lZ(hB:2<=B)(ha:can B a)(hb:can B b)(h:a.length<b.length):val B a<val B b:=by
 have e1:=iE hB ha rfl;have e2:=iE hB hb rfl;rw[e1,e2]at h;exact LW hB h
def eA(m n:Nat):Int:=if m<n then -1 else if n<m then 1 else 0
theorem kf(h:m<n):eA m n = -1:=by simp[eA,h]
theorem kW(h:n<m):eA m n=1:=by simp[eA,h];omega
theorem nX(h:m=n):eA m n=0:=by simp[eA,h]
end Go.Am.N
namespace Go.Am.N
def iA(B:Nat):Nat->Nat->List Nat
 |0,_=>[]
 |L+1,n=>n%B::iA B L (n/B)
def rz{B:Nat}:∀{l:List Nat}{n:Nat},ok B l->val B l=n->l=iA B l.length n
 |[],n,_,_=>rfl
 |d::l,n,h,hv=>by
  have hd:=(bS.1 h).1;have h1:n%B=d:=by rw[<-hv,bW,afo,adL hd]
  have h2:n/B=val B l:=by rw[<-hv,bW,afq _ _ (by omega),aeF hd,adx]
  simp only[adN,iA,h1,h2];rw[<-rz (bS.1 h).2 rfl]
def qk(B:Nat):∀(L n:Nat),(iA B L n).length=L
 |0,_=>rfl
 |L+1,n=>by simp[iA,qk B L]
def ve{B:Nat}(hB:0<B):∀(L n:Nat),ok B (iA B L n)
 |0,_=>cK B
 |L+1,n=>bS.2 ⟨adw _ hB,ve hB L _⟩
def nt{B:Nat}:∀(L n:Nat),val B (iA B L n)=n%B^L
 |0,n=>by simp[iA,Nat.mod_one]
 |L+1,n=>by
  rw[iA,bW,nt L,adl,adR (B^L) B,Nat.mod_mul]
end Go.Am.N
namespace Go.Am
variable {s:az}{κ:Nat}{Q:Ex->az->Nat->Prop}{c:Ctx}{x:AV}{fn:Func}{b' b:LB}{f:FuncId}{T:TypeId}{own:Bool}{cs:List CV}{P:Program}{G:List (List DV)}{code:Code}{args:List AV}
def yu(Q:Ex->az->Nat->Prop):Ex->az->Nat->Prop
 |.goto _,_,_=>False
 |e,s,κ=>Q e s κ
@[simp]theorem Wb:yu Q .normal s κ=Q .normal s κ:=rfl
@[simp]theorem VS{i:Nat}:yu Q (.exit i) s κ=Q (.exit i) s κ:=rfl
@[simp]theorem VI:yu Q .ret s κ=Q .ret s κ:=rfl
theorem AW.scope{x:Code}(h:AW c none x s κ (yu Q)):AW c none (.scope x) s κ Q:=by
 intro F β a w hs;have h1:=(wpIn_wide (n:=0)).1 (h F β a w hs);refine(wpIn_wide (n:=0)).2 (wp_scope_straight (wp_mono h1 λe a' w' hp=>?_));obtain⟨x,s',κ',F',β',hq,hs',he⟩:=hp
 cases x with
 |normal=>cases he;exact⟨.normal,s',κ',F',β',hq,hs',rfl⟩
 |exit id=>cases he;exact⟨.exit id,s',κ',F',β',hq,hs',rfl⟩
 |goto l=>exact hq.elim
 |ret=>cases he;exact⟨.ret,s',κ',F',β',hq,hs',rfl⟩
 |panic d=>obtain⟨v,rfl,hv⟩:=he;exact⟨.panic d,s',κ',F',β',hq,hs',v,rfl,hv⟩
theorem tU(b:LB):bu [b] []=au (λ_=>.hole) 0 b:=by
 funext k
 by_cases h:k=0
 ·subst h;rfl
 ·rw[aF _ _ h];unfold bu
  grind
theorem LB.bM{fz:Bool}(h:∀x∈cs,x.pure=true)(g:Key->Key):(LB.cells own fz T cs).bJ g=.cells own fz T cs:=by
 simp only[LB.bJ]
 have:cs.map (CV.bJ g)=cs:=by
  conv=>rhs;rw[<-aeS cs]
  exact adI λx hx=>CV.bM (h x hx) g
 rw[this]
def Um(κb:Key)(x u:AV):Prop:=
 (u.pure=true/\x=u)\/(∃off len sz,u=.c (.aE 0 off len sz)/\x=.c (.aE κb off len sz))\/(∃off,u=.c (.ptr 0 off)/\x=.c (.ptr κb off))
theorem gM.N8{xs us:List AV}{ps:List BJ}{d:Option Tmp}{K:az->Nat->Prop}(κ':Nat)(kh κb:Key){cs':List CV}
 (hk:s.lv κb=.cells own false T cs) (hcs:∀x∈cs,x.pure=true) (hcs':∀x∈cs',x.pure=true)
 (hc:aD c.P c.G f us [.cells false false T cs] (.ret x [.cells false false T cs'] [])) (hx:x.pure=true) (hlen:us.length=xs.length)
 (ha:∀i (h:i<xs.length) (h':i<us.length),Um κb xs[i] us[i]) (hh:s.lv kh=.hole) (hkh:kh≠κb)
 (hK:aT c ps (az.put ⟨s.fr,au s.lv κb (.cells own false T cs')⟩ d x) κ' K):gM c f xs ps d s κ K:=by
 have g0:aG [κb] [] kh 0=κb:=rfl
 have key:=cw.gen (c:=c) (f:=f) (as:=xs) (lv:=s.lv) us [] [κb] [] kh [.cells false false T cs] [.cells false false T cs'] [] x own [kh,κb] (λz hz=>by cases hz) (by simp) (by simp) (λz hz=>by cases hz) (by grind) (λz hz=>by cases hz) rfl rfl rfl (by simp)
  (λi h h'=>by
   have hi:i=0:=by simp at h;omega
   subst hi;show(s.lv κb).as (.cells false false T cs) _;rw[hk];refine⟨own,cs,rfl,?_,λe=>by cases e⟩
   conv=>lhs;rw[<-aeS cs]
   exact adI λx hx=>(CV.bM (hcs x hx) _).symm) (λk hk=>by cases hk) hh (λb hb=>by simp at hb;subst hb;rfl) (λb hb=>by grind) (λho k hk'=>by
    simp at hk';subst hk';rw[hk];exact ho) hlen
  (λi p q=>by
   left;rcases ha i p q with⟨h1,h2⟩|⟨off,len,sz,h1,h2⟩|⟨off,h1,h2⟩
   ·exact⟨AV.eB h1,by rw[AV.bM h1];exact h2⟩
   ·rw[h1,h2];exact⟨rfl,rfl⟩
   ·rw[h1,h2];exact⟨rfl,rfl⟩) (λa ha' j hj=>by
   obtain⟨i,hi,rfl⟩:=List.mem_iff_getElem.1 ha';left
   have hrd:∀n,∀j∈(match s.lv κb with|.cells _ _ _ cs=>cs.flatMap (kM s.lv n)|_=>[]),j∈([]:List Key):=by
    intro n j hj;rw[hk]at hj;simp only[aec]at hj;obtain⟨y,hy,hj⟩:=hj;have:=hcs y hy
    cases y<;>simp_all [CV.pure]
    cases n<;>cases hj
   rcases ha i hi (by omega)with⟨h1,h2⟩|⟨off,len,sz,h1,h2⟩|⟨off,h1,h2⟩
   ·rw[h2,jr h1]at hj;cases hj
   ·rw[h2]at hj;simp only[pz,kM,fU,adP,bk,List.foldl_nil,fy]at hj;rcases hj with rfl|hj
    ·simp
    ·exact absurd (hrd 7 j hj) (by simp)
   ·rw[h2]at hj;simp only[pz,kM,fU,adP,bk,List.foldl_nil,fy]at hj;rcases hj with rfl|hj
    ·simp
    ·exact absurd (hrd 7 j hj) (by simp)) (by simp) hc
 rw[AV.bM hx]at key;refine⟨x,_,_,κ',key,?_⟩
 have e:bk s.lv (fU []++cq (aG [κb] [] kh) own [κb] [.cells false false T cs']++cq (aG [κb] [] kh) own [] [])=au s.lv κb (.cells own false T cs'):=by
  simp only[fU,cq,adP,adM,ae5,afK,adv,LB.bM hcs',LB.fix,bk,ae2,List.foldl_nil,ae3,List.zipWith_nil_right]
 show aT c ps (az.put ⟨s.fr,bk s.lv _⟩ d x) κ' K;rw[e];exact hK
def GF(c:Ctx)(fn:Func)(x:AV)(b':LB):Ex->az->Nat->Prop
 |.normal,s,_|.ret,s,_=>∃l,(∀p∈l,p.2.bF=true/\s.fr p.1=p.2)/\jk s.lv/\s.lv=au (λ_=>.hole) 0 b'/\eD c.P ⟨aJ l,s.lv⟩ fn.results.toList=some x
 |_,_,_=>False
theorem aD.UP(hf:P.funcs[f]?=some fn)(hb:fn.body=some code)(hl:args.length<=fn.ntmps)
 (h:∀c:Ctx,c.P=P->c.G=G->c.n=fn.ntmps->AW c none code ⟨λt=>args.getD t .undef,au (λ_=>.hole) 0 b⟩ 1000 (GF c fn x b')):aD P G f args [b] (.ret x [b'] []):=by
 refine aD.o9 hf hb hl λc h1 h2 h3 h4=>?_;rw[tU]at h4⊢;refine AW.mono (h c h1 h2 h3) λe s κ hq=>?_
 have fin:(∃l,(∀p∈l,p.2.bF=true/\s.fr p.1=p.2)/\jk s.lv/\s.lv=au (λ_=>.hole) 0 b'/\eD c.P ⟨aJ l,s.lv⟩ fn.results.toList=some x)->∃s2 g,dQ c s s2 g/\s2.lv=bu [b'] []/\eD c.P s2 fn.results.toList=some x:=by
  rintro⟨l,g1,g2,g3,g4⟩;exact⟨⟨aJ l,s.lv⟩,λk=>k,dQ.slots g1 (λk own es h=>absurd h (g2 k own es)),by rw[tU];exact g3,g4⟩
 cases e with
 |normal=>exact fin hq
 |ret=>exact fin hq
 |exit id=>exact hq.elim
 |goto l=>exact hq.elim
 |panic d=>exact hq.elim
theorem aD.en1(hf:P.funcs[f]?=some fn)(hb:fn.body=some code)
 (h:∀z:Ev,AW ⟨P,G,z.w,z.F,z.W,fn.ntmps,z.q,z.b⟩ none code ⟨λt=>args.getD t .undef,au (λ_=>.hole) 0 b⟩ 1000 (GF ⟨P,G,z.w,z.F,z.W,fn.ntmps,z.q,z.b⟩ fn x b')) (hl:Nat.ble args.length fn.ntmps=true:=by kernel_rfl):aD P G f args [b] (.ret x [b'] []):=
 aD.UP hf hb (adE hl) λ⟨_,_,w,F,W,_,q,b⟩ h1 h2 h3=>by cases h1;cases h2;cases h3;exact h ⟨w,F,W,q,b⟩
theorem GF.tmp{t:Nat}(hr:fn.results=#[.tmp t])(hx:s.fr t=x)(hf:x.bF=true)(hm:jk s.lv)(hl:s.lv=au (λ_=>.hole) 0 b'):GF c fn x b' .ret s κ:=by
 refine⟨[(t,x)],by grind,hm,hl,?_⟩;rw[hr];simp[eD,l8,pE,aJ]
theorem GF.none{e:Ex}(he:e=.normal\/e=.ret)(hr:fn.results=#[])(hm:jk s.lv)(hl:s.lv=au (λ_=>.hole) 0 b'):GF c fn (.tup []) b' e s κ:=by
 have:∃l:List (Nat×AV),(∀p∈l,p.2.bF=true/\s.fr p.1=p.2)/\jk s.lv/\s.lv=au (λ_=>.hole) 0 b'/\eD c.P ⟨aJ l,s.lv⟩ fn.results.toList=some (.tup []):=
  ⟨[],by simp,hm,hl,by rw[hr];rfl⟩
 rcases he with rfl|rfl<;>exact this
end Go.Am
namespace Go.Am.N
variable {g o:Nat}
section
variable {B V W v1 v2 Vl u2 Wl top E qt:Nat}
structure Ts(B E V W v1 v2 Vl top u2 Wl:Nat):Prop where
 hV:V=(v1*B+v2)*E+Vl
 hW:W=(top*B+u2)*E+Wl
 Qs:Vl<E
 XQ:Wl<E
 UB:v2<B
 Tp:u2<B
 hlt:W<B*V
 yf:0<v1
 hB:0<B
variable (h:Ts B E V W v1 v2 Vl top u2 Wl)
include h
theorem Ts.E0:0<E:=by have:=h.Qs;omega
theorem Ts.V0:0<V:=by
 have h1:1*1<=(v1*B+v2)*E:=aeo (by have:=ad4 h.yf h.hB;omega) h.E0;have:=h.hV;omega
theorem Ts.T6:top<B*(v1+1):=by
 have h1:top*B*E<=W:=by rw[h.hW,adr];omega
 have h2:V<(v1+1)*B*E:=by
  have e1:(v1+1)*B*E=(v1*B+B)*E:=by rw[adr,ad1]
  have e2:(v1*B+v2+1)*E<=(v1*B+B)*E:=adn _ (by have:=h.UB;omega);rw[adr _ 1,ad1]at e2;have:=h.hV;have:=h.Qs;omega
 have h3:B*V<B*((v1+1)*B*E):=Nat.mul_lt_mul_of_pos_left h2 h.hB
 have h4:top*(B*E)<B*(v1+1)*(B*E):=by
  have e1:B*((v1+1)*B*E)=B*(v1+1)*(B*E):=by simp only[adz]
  rw[<-e1,<-adz];have:=h.hlt;omega
 exact afW h4
theorem Ts.first(hq:qt*V<=W):qt<=top/v1:=by
 rw[ae8 h.yf];have h1:qt*((v1*B)*E)<=qt*V:=adB _ (by rw[h.hV,adr (v1*B)];omega)
 have h2:W<(top+1)*(B*E):=by
  have e1:(top*B+u2+1)*E<=(top*B+B)*E:=adn _ (by have:=h.Tp;omega);rw[adr _ 1,ad1]at e1;have e2:(top+1)*(B*E)=(top*B+B)*E:=by rw[adr,adr,ad1,adz]
  have:=h.hW;have:=h.XQ;omega
 have h3:qt*v1*(B*E)<(top+1)*(B*E):=by
  have e1:qt*((v1*B)*E)=qt*v1*(B*E):=by simp only[adz]
  rw[<-e1];omega
 have:=afW h3;omega
theorem Ts.over(hq:qt*V<=W)(hg:g*v1+o=top)(ht:o*B+u2<g*v2):qt<g:=by
 apply adK;intro hn;have h1:g*V<=qt*V:=adn _ (by omega);have h2:g*((v1*B+v2)*E)<=g*V:=adB _ (by rw[h.hV];omega)
 have h3:(top*B+u2+1)*E<=g*(v1*B+v2)*E:=by
  refine adn _ ?_;have e1:g*(v1*B+v2)=g*v1*B+g*v2:=by rw[adF,adz]
  have e2:top*B=g*v1*B+o*B:=by rw[<-hg,adr]
  omega
 rw[adz]at h3;rw[adr _ 1,ad1]at h3;have:=h.hW;have:=h.XQ;omega
theorem Ts.near(hq:W<(qt+1)*V)(hg:g*v1+o=top)(hgB:g<B)(ht:g*v2<=o*B+u2):g<=qt+1:=by
 apply adK;intro hn;have h1:(qt+1+1)*V<=g*V:=adn _ (by omega);rw[adr (qt+1),ad1]at h1;have h2:g*V=g*(v1*B+v2)*E+g*Vl:=by rw[h.hV,adF,adz]
 have h3:g*(v1*B+v2)*E<=(top*B+u2)*E:=by
  refine adn _ ?_;have e1:g*(v1*B+v2)=g*v1*B+g*v2:=by rw[adF,adz]
  have e2:top*B=g*v1*B+o*B:=by rw[<-hg,adr]
  omega
 have h4:g*Vl<=B*E:=aeo (by omega) (by have:=h.Qs;omega)
 have h5:B*E<=V:=by
  have:1*B*E<=(v1*B+v2)*E:=adn _ (by have:=adn B h.yf;omega);rw[ad1]at this;have:=h.hV;omega
 have:=h.hW;omega
end
theorem yU{B:Nat}:∀{L n:Nat},n<B^L->iA B (L+1) n=iA B L n++[0]
 |0,n,h=>by
  have:n=0:=by simp at h;exact h
  subst this;rfl
 |L+1,n,h=>by
  have h2:n/B<B^L:=by
   rcases ae1 B with rfl|hB
   ·simp at h
   ·rw[aeG hB];grind
  rw[iA,yU h2];rfl
theorem RF{B:Nat}{l:List Nat}(h:ok B l):iA B l.length (val B l)=l:=(rz h rfl).symm
end Go.Am.N
namespace Go.Am
variable {o:Op}{v:AV}{rds:List Key}{vc:Prop}{T':TypeId}{xs:Array Operand}{ts:Array TypeId}{c:Ctx}{s:az}{κ f:Nat}{p:Key×LB}{parts:Array (Nat×Operand)}
theorem gJ.op{o o':Oper}{K:AV->List (Key×LB)->List Key->Nat->Prop}(ho:o'.op=o.op)(h:gJ c o s κ K):gJ c o' s κ K:=by
 unfold gJ at*;grind
abbrev vf:=List Key×List Key
def aS(c:Ctx):List BJ->az->Nat->List vf->(az->Nat->List vf->Prop)->Prop
 |[],s,κ,acc,K=>K s κ acc
 |p::ps,s,κ,acc,K=>match p.g with
  |none=>gJ c ⟨none,p.op,0, "",#[],none⟩ s κ λx us rds κ'=>aS c ps (az.put ⟨s.fr,bk s.lv us⟩ p.dst x) κ' ((us.map (·.1),rds)::acc) K
  |some (t,w)=>pN t λt=>oH (uc (s.fr t) w)
   (λ_=>gJ c ⟨none,p.op,0, "",#[],none⟩ s κ λx us rds κ'=>aS c ps (az.put ⟨s.fr,bk s.lv us⟩ p.dst x) κ' ((us.map (·.1),rds)::acc) K)
   (λ_=>aS c ps (s.put p.dst .undef) κ (([],[])::acc) K)
def uK(e:Fx):vf:=(e.us.map (·.1),e.rds)
theorem jU{c:Ctx}{ops:Array Oper}{K:az->Nat->List vf->Prop}:∀{os:List Oper}{s:az}{κ:Nat}{acc:List Fx},aS c (kR (ops.toList.map (·.dst)) os) s κ (acc.map uK) K->gy c ops os s κ acc (λs κ acc=>K s κ (acc.map uK))
 |[],s,κ,acc,h=>h
 | ⟨d,o,ty,pos,af,none⟩::os,s,κ,acc,h=>by
  simp only[kR,EU,aS]at h;simp only[gy,eK];refine gJ.mono (gJ.op (o:=⟨none,o,0, "",#[],none⟩) rfl h) λx us rds κ' h2=>?_;exact jU (acc:=⟨x,us,rds⟩::acc) h2
 | ⟨d,o,ty,pos,af,some (j,w)⟩::os,s,κ,acc,h=>by
  simp only[kR,EU,aS,OX,pN,oH]at h;simp only[gy,eK];split at h
  ·rename_i t ht
   (try rw[ht];simp only);unfold uc at h;split at h
   ·rename_i hw
    split at hw
    ·rename_i b he
     (try rw[he];simp only[ah]at hw;simp only[hw]);refine gJ.mono (gJ.op (o:=⟨none,o,0, "",#[],none⟩) rfl h) λx us rds κ' h2=>?_;exact jU (acc:=⟨x,us,rds⟩::acc) h2
    ·cases hw
    grind
   ·rename_i hw
    split at hw
    ·rename_i b he
     (try rw[he];simp only[ah]at hw;simp only[hw]);exact jU (acc:=⟨.undef,[],[]⟩::acc) h
    ·rename_i he
     (try rw[he]);exact jU (acc:=⟨.undef,[],[]⟩::acc) h
    grind
   grind
  grind
def UU(e e':vf):Bool:=e.1.all (λp=>!(e'.1.any λq=>q==p)&&!e'.2.contains p)&&e'.1.all (λp=>!e.2.contains p)
def v8(ops:Array Oper)(es:List vf):Bool:=
 let ms:=gY ops.toList []
 (List.range es.length).all λj=>match es[j]? with
  |some e'=>(e'.1.isEmpty&&e'.2.isEmpty) ||(List.range j).all λi=>match es[i]? with
   |some e=>(e.1.isEmpty&&e.2.isEmpty) ||(ms.getD j 0).testBit i ||UU e e'
   |none=>true
  |none=>true
theorem LD(e e':Fx):wL e e'=UU (uK e) (uK e'):=by
 simp only[wL,UU,uK,List.all_map,List.any_map];rfl
theorem CR(ops:Array Oper)(es:List Fx):En ops es=v8 ops (es.map uK):=by
 have h1:∀e:Fx,idle e=((uK e).1.isEmpty&&(uK e).2.isEmpty):=λe=>by simp[idle,uK]
 simp only[En,v8,ac5,aet];congr 1;funext j
 cases hj:es[j]? with
 |none=>rfl
 |some e'=>
  simp only[adm,h1];congr 2;funext i
  cases hi:es[i]? with
  |none=>rfl
  |some e=>simp only[adm,LD]
theorem acs{r:Option Nat}{Q:Ex->az->Nat->Prop}{id:Nat}{ops:Array Oper}(hm:c.P.follows .mixedOrders=true)(hst:iB ops=true)(hd:cR c.n ops.toList=true)
 (h:aS c (gz ops) s κ [] λs' κ' acc=>v8 ops acc.reverse=true/\Q .normal s' κ'):AW c r (.region id ops true) s κ Q:=by
 refine AW.draw hm hst hd ?_;have h1:=jU (acc:=[]) h;refine gy.mono h1 λs' κ' acc h2=>⟨?_,h2.2⟩
 rw[CR,List.map_reverse];grind
def cz(c:Ctx)(ps:List BJ)(d:Option Tmp)(s:az)(κ:Nat)(acc:List vf)(K:az->Nat->List vf->Prop)(r:Option cH):Prop:=
 nY r κ λx us rds κ'=>aS c ps (az.put ⟨s.fr,bk s.lv us⟩ d x) κ' ((us.map (·.1),rds)::acc) K
def Eg(c:Ctx)(o:Op)(ps:List BJ)(d:Option Tmp)(s:az)(κ:Nat)(acc:List vf)(K:az->Nat->List vf->Prop)(w:Option Bool):Prop:=
 match w with
 |some true=>aS c (⟨d,o,none⟩::ps) s κ acc K
 |some false=>aS c ps (s.put d .undef) κ (([],[])::acc) K
 |none=>False
def vI(c:Ctx)(f:FuncId)(xs:List AV)(ps:List BJ)(d:Option Tmp)(s:az)(κ:Nat)(acc:List vf)(K:az->Nat->List vf->Prop):Prop:=
 ag c f xs s.lv λx us rds κ'=>aS c ps (az.put ⟨s.fr,bk s.lv us⟩ d x) κ' ((us.map (·.1),rds)::acc) K
def Ip(c:Ctx)(tgt:Option (FuncId×List AV×List AV))(xs:List AV)(ps:List BJ)(d:Option Tmp)(s:az)(κ:Nat)(acc:List vf)(K:az->Nat->List vf->Prop):Prop:=
 match tgt with
 |some (f,fs,cs)=>aH c.P f=true/\vI c f (fs++xs++cs) ps d s κ acc K
 |none=>False
section
variable {c:Ctx}{ps:List BJ}{d:Option Tmp}{s:az}{κ:Nat}{acc:List vf}{K:az->Nat->List vf->Prop}{T:TypeId}{x y z:Operand}
theorem gZ:aS c (⟨d,o,none⟩::ps) s κ acc K =
 gJ c ⟨none,o,0, "",#[],none⟩ s κ λx us rds κ'=>aS c ps (az.put ⟨s.fr,bk s.lv us⟩ d x) κ' ((us.map (·.1),rds)::acc) K:=rfl
@[simp]theorem Vy:aS c [] s κ acc K=K s κ acc:=propext ⟨id,id⟩
@[simp]theorem TW:cz c ps d s κ acc K (some (v,[],rds,vc))=(vc/\aS c ps (s.put d v) κ (([],rds)::acc) K):=propext ⟨id,id⟩
@[simp]theorem VA:cz c ps d s κ acc K (some (v,[p],rds,vc))=(vc/\aS c ps (az.put ⟨s.fr,au s.lv p.1 p.2⟩ d v) (κ+1) (([p.1],rds)::acc) K):=propext ⟨id,id⟩
@[simp]theorem T9{q:Key×LB}:cz c ps d s κ acc K (some (v,[p,q],rds,vc))=(vc/\aS c ps (az.put ⟨s.fr,au (au s.lv p.1 p.2) q.1 q.2⟩ d v) (κ+1) (([p.1,q.1],rds)::acc) K):=propext ⟨id,id⟩
@[simp]theorem VO:Eg c o ps d s κ acc K (some true)=aS c (⟨d,o,none⟩::ps) s κ acc K:=propext ⟨id,id⟩
@[simp]theorem Ws:Eg c o ps d s κ acc K (some false)=aS c ps (s.put d .undef) κ (([],[])::acc) K:=propext ⟨id,id⟩
@[simp]theorem Tg{f:FuncId}{xs:List AV}:Ip c (some (f,[],[])) xs ps d s κ acc K=(aH c.P f=true/\vI c f xs ps d s κ acc K):=by simp[Ip]
@[simp]theorem WR{t:Tmp}{w:Bool}:aS c (⟨d,o,some (some t,w)⟩::ps) s κ acc K=Eg c o ps d s κ acc K (uc (s.fr t) w):=propext ⟨id,id⟩
@[simp]theorem YP:aS c (⟨d,.move x,none⟩::ps) s κ acc K=aS c ps (s.put d (s.val c.G x)) κ (([],[])::acc) K:=by rw[gZ,lX];rfl
@[simp]theorem Wq:aS c (⟨d,.assign x,none⟩::ps) s κ acc K=aS c ps (s.put d (s.val c.G x)) κ (([],[])::acc) K:=by rw[gZ,y6];rfl
@[simp]theorem ZO:aS c (⟨d,.pick x y z,none⟩::ps) s κ acc K=cz c ps d s κ acc K (G6 (s.val c.G x) (s.val c.G y) (s.val c.G z)):=by rfl
@[simp]theorem Wx:aS c (⟨d,.alloc T,none⟩::ps) s κ acc K=cz c ps d s κ acc K (EI c.P T s.lv κ):=by rfl
@[simp]theorem Yt:aS c (⟨d,.field T x f,none⟩::ps) s κ acc K=cz c ps d s κ acc K (Dh c.P T f (s.val c.G x)):=by rfl
@[simp]theorem RZ:aS c (⟨d,.indexAddr T x y,none⟩::ps) s κ acc K=cz c ps d s κ acc K (ak c.P T s.lv (s.val c.G x) (s.val c.G y)):=by rfl
@[simp]theorem W3:aS c (⟨d,.index T x y,none⟩::ps) s κ acc K=cz c ps d s κ acc K (gq c.P T (s.val c.G x) (s.val c.G y)):=by rfl
@[simp]theorem aav{i:Nat}:aS c (⟨d,.extract x i,none⟩::ps) s κ acc K=cz c ps d s κ acc K (xE i (s.val c.G x)):=by rfl
@[simp]theorem aag:aS c (⟨d,.makeInterface T x,none⟩::ps) s κ acc K=cz c ps d s κ acc K (QE c.P T (s.val c.G x)):=by rfl
@[simp]theorem aal:aS c (⟨d,.makeSlice T x y,none⟩::ps) s κ acc K=cz c ps d s κ acc K (gV c.P T s.lv κ (s.val c.G x) (s.val c.G y)):=by rfl
@[simp]theorem Ug:aS c (⟨d,.slice T x none none none,none⟩::ps) s κ acc K=cz c ps d s κ acc K (bP c.P T s.lv (s.val c.G x) none none):=by rfl
@[simp]theorem TQ:aS c (⟨d,.slice T x (some y) none none,none⟩::ps) s κ acc K=cz c ps d s κ acc K (bP c.P T s.lv (s.val c.G x) (some (s.val c.G y)) none):=by rfl
@[simp]theorem U4:aS c (⟨d,.slice T x none (some y) none,none⟩::ps) s κ acc K=cz c ps d s κ acc K (bP c.P T s.lv (s.val c.G x) none (some (s.val c.G y))):=by rfl
@[simp]theorem Un:aS c (⟨d,.slice T x (some y) (some z) none,none⟩::ps) s κ acc K=cz c ps d s κ acc K (bP c.P T s.lv (s.val c.G x) (some (s.val c.G y)) (some (s.val c.G z))):=by rfl
@[simp]theorem abv:aS c (⟨d,.call { callee:=.builtin .len,args:=#[x],argTypes:=#[T] },none⟩::ps) s κ acc K=cz c ps d s κ acc K (dm c.P T s.lv (s.val c.G x)):=by rfl
@[simp]theorem VP:aS c (⟨d,.call { callee:=.builtin .append,args:=#[x,y],argTypes:=#[T,T'] },none⟩::ps) s κ acc K=cz c ps d s κ acc K (if T=T' then eu c.P T s.lv κ (s.val c.G x) (s.val c.G y)else none):=by rfl
@[simp]theorem YN:aS c (⟨d,.call { callee:=.value x,args:=xs,argTypes:=ts },none⟩::ps) s κ acc K=Ip c (cG (s.val c.G x)) (xs.toList.map (s.val c.G)) ps d s κ acc K:=by
 rfl
@[simp]theorem aa4{op:BinOp}:aS c (⟨d,.binOp op T x y T',none⟩::ps) s κ acc K=cz c ps d s κ acc K (aK c.P op T (s.val c.G x) (s.val c.G y)):=by rfl
@[simp]theorem acd{op:UnOp}:aS c (⟨d,.unOp op T x,none⟩::ps) s κ acc K=cz c ps d s κ acc K (OP op (s.val c.G x)):=by rfl
@[simp]theorem ZV:aS c (⟨d,.load T x,none⟩::ps) s κ acc K=cz c ps d s κ acc K (bh c.P T s.lv (s.val c.G x)):=by rfl
@[simp]theorem WY:aS c (⟨d,.store T x y,none⟩::ps) s κ acc K=cz c ps d s κ acc K (ec c.P T s.lv (s.val c.G x) (s.val c.G y)):=by rfl
@[simp]theorem aaK:aS c (⟨d,.box T x,none⟩::ps) s κ acc K=cz c ps d s κ acc K (Sb T (s.val c.G x) s.lv κ):=by rfl
@[simp]theorem N2:aS c (⟨d,.nilCheck x,none⟩::ps) s κ acc K=cz c ps d s κ acc K (ig s.lv (s.val c.G x)):=by rfl
@[simp]theorem ZL{S:TypeId}:aS c (⟨d,.convert S T x,none⟩::ps) s κ acc K=cz c ps d s κ acc K (KB c.P S T (s.val c.G x)):=by rfl
@[simp]theorem Rb:aS c (⟨d,.fieldAddr T x f,none⟩::ps) s κ acc K=cz c ps d s κ acc K (cj c.P T f s.lv (s.val c.G x)):=by rfl
@[simp]theorem X7:aS c (⟨d,.build T parts,none⟩::ps) s κ acc K=cz c ps d s κ acc K (eO c.P T (parts.toList.map (·.1)) (parts.toList.map λp=>s.val c.G p.2)):=by
 rw[gZ];simp only[gJ,cX,Op.operands,cz,nY,eO,ady,ac5,aeJ];rfl
@[simp]theorem Qq{n:Nat}:aS c (⟨d,.buildSlice T n parts,none⟩::ps) s κ acc K=cz c ps d s κ acc K (ai c.P T n (parts.toList.map (·.1)) s.lv κ (parts.toList.map λp=>s.val c.G p.2)):=by
 rw[gZ];simp only[gJ,cX,Op.operands,cz,nY,ady];rfl
@[simp]theorem Zl:aS c (⟨d,.call { callee:=.builtin .copy,args:=#[x,y],argTypes:=#[T,T'] },none⟩::ps) s κ acc K=cz c ps d s κ acc K (iI c.P T s.lv (s.val c.G x) (s.val c.G y)):=by
 rfl
@[simp]theorem aac:aS c (⟨d,.call { callee:=.builtin .max,args:=xs,argTypes:=ts },none⟩::ps) s κ acc K=cz c ps d s κ acc K (match eF (xs.toList.map (s.val c.G))with
 |some (k,n::l)=>some (.c (.d (.int k (l.foldl (λa b=>if b > a then b else a) n))),[],[],True)
 |_=>none):=by
 rw[gZ];simp only[gJ,cX,lW,Op.operands,Call.operands,cz,nY,ae4];rfl
@[simp]theorem aaY:aS c (⟨d,.call { callee:=.builtin .min,args:=xs,argTypes:=ts },none⟩::ps) s κ acc K=cz c ps d s κ acc K (match eF (xs.toList.map (s.val c.G))with
 |some (k,n::l)=>some (.c (.d (.int k (l.foldl (λa b=>if b<a then b else a) n))),[],[],True)
 |_=>none):=by
 rw[gZ];simp only[gJ,cX,lW,Op.operands,Call.operands,cz,nY,ae4];rfl
end
end Go.Am
namespace Go.Am
open N
variable {x y i:AV}{s s' s0:az}{c:Ctx}{o:Oper}{κ n nx off id sz N κ0:Nat}{os:List Oper}{lv lv':Key->LB}{g:Key->Key}{f:FuncId}{us:List (Key×LB)}{P:Program}{T T' e T0 T1 S:TypeId}{own fz:Bool}{ops:Array Oper}{cs cs0 cs1 cs':List CV}{rds l lg:List Key}{a1 a2 a3 a4:Prop}{G:List (List DV)}{k W:Key}{fn:Func}{code:Code}{args vals xs:List AV}{Q:Ex->az->Nat->Prop}{r:dI}{K:az->Nat->Prop}{fr:Nat->AV}{cl:Call}{b:LB}{F:Nat->Prop}{β:Key->Nat}{w:World}{a:Act}{fo:Operand}{ν σ σ':List LB}{call:eV}{ok:(Key->LB)->Prop}{first caps:Array Operand}{lo hi:Option Operand}{d:Option Nat}
theorem vI.rT{ps:List BJ}{d:Option Tmp}{acc:List vf}{K:az->Nat->List vf->Prop}(κ':Nat)(kh:Key)(κb:Key){k:IntKind}{l:List Nat}(n:Nat)(hn:n<=l.length)(hk:s.lv κb=.cells true false T (wK k l))(hl:l.length<=9223372036854775807)
 (hc:aa c.P c.G f [nK k (some (l.take n))] x) (hx:x.pure=true) (hh:s.lv kh=.hole) (hkh:kh≠κb) (hK:aS c ps (az.put ⟨s.fr,au s.lv κb (.cells true true T (wK k l))⟩ d x) κ' (([κb],[kh])::acc) K):vI c f [.c (.aE κb 0 n 1)] ps d s κ acc K:=by
 refine ag.Z2 κ' kh κb T (wK k l) [kh] hc hx hk hh hkh rfl (λi p q=>?_) (λa ha j hj=>?_) (by simp) hK
 ·have hi:i=0:=by simp at p;omega
  subst hi;right;have h1:(wK k l).take n=wK k (l.take n):=by simp[wK,List.map_take]
  have hln:(l.take n).length=n:=by rw[ac7];omega
  simp only[adW,fu,cP,aC,OQ,ad3,adx,adJ,h1,Ad,adm];rw[if_pos ⟨hn,by omega⟩];have h2:=nJ ((l.take n).map λ(x:Nat)=>DV.int k (x:Int));rw[ac5,hln]at h2;simp only[adm,h2];simp[nK,dK];rfl
 ·simp only[ad8]at ha;subst ha;simp only[pz,kM,fy,aC]at hj;rcases hj with rfl|hj
  ·simp
  ·simp only[aec]at hj;obtain⟨y,hy,hj⟩:=hj;simp only[wK,adX]at hy;obtain⟨z,_,rfl⟩:=hy
   cases hj
section
variable {c:Ctx}{r:Option Nat}{s s':az}{κ κ':Nat}{Q:Ex->az->Nat->Prop}{id:Nat}{ops:Array Oper}{y:Code}
theorem AW.d1(hm:c.P.follows .mixedOrders=true)(e1:a1)(h:AW c r y s' κ' Q)(hst:iB ops=true:=by kernel_rfl)(hd:cR c.n ops.toList=true:=by exact rfl)(hr:a1->∀K:az->Nat->Prop,K s' κ'->aS c (gz ops) s κ [] λs' κ' acc=>v8 ops acc.reverse=true/\K s' κ':=by intro e1 K k;simp[e1];(repeat refine aL ?_);refine⟨by kernel_rfl,?_⟩;(repeat refine aL ?_);exact k):AW c r (.seq (.region id ops true) y) s κ Q:=
 aae λK hK=>acs hm hst hd (hr e1 K (hK _ _ h))
theorem AW.dl1(hm:c.P.follows .mixedOrders=true)(e1:a1)(h:Q .normal s' κ')(hst:iB ops=true:=by kernel_rfl)(hd:cR c.n ops.toList=true:=by exact rfl)(hr:a1->∀K:az->Nat->Prop,K s' κ'->aS c (gz ops) s κ [] λs' κ' acc=>v8 ops acc.reverse=true/\K s' κ':=by intro e1 K k;simp[e1];(repeat refine aL ?_);refine⟨by kernel_rfl,?_⟩;(repeat refine aL ?_);exact k):AW c r (.region id ops true) s κ Q:=
 acs hm hst hd (hr e1 (λs κ=>Q .normal s κ) h)
theorem AW.e1{a1:Prop}(hm:c.P.follows .mixedOrders=true)(e1:a1)(h:AW c r y s' κ' Q)(hst:iB ops=true:=by kernel_rfl)(hd:cR c.n ops.toList=true:=by exact rfl)(hq:ops.toList.all (λo=>kV o.op)=true:=by exact rfl)(hr:a1->∀K:az->Nat->Prop,K s' κ'->aT c (gz ops) s κ K:=by intro e1 K k;simp[e1];(repeat refine aL ?_);exact k):AW c r (.seq (.region id ops true) y) s κ Q:=
 aae λK hK=>acV hm hst hd hq (hr e1 K (hK _ _ h))
theorem AW.d2(hm:c.P.follows .mixedOrders=true)(e1:a1)(e2:a2)(h:AW c r y s' κ' Q)(hst:iB ops=true:=by kernel_rfl)(hd:cR c.n ops.toList=true:=by exact rfl)(hr:a1->a2->∀K:az->Nat->Prop,K s' κ'->aS c (gz ops) s κ [] λs' κ' acc=>v8 ops acc.reverse=true/\K s' κ':=by intro e1 e2 K k;simp[e1,e2];(repeat refine aL ?_);refine⟨by kernel_rfl,?_⟩;(repeat refine aL ?_);exact k):AW c r (.seq (.region id ops true) y) s κ Q:=
 aae λK hK=>acs hm hst hd (hr e1 e2 K (hK _ _ h))
theorem AW.dl2(hm:c.P.follows .mixedOrders=true)(e1:a1)(e2:a2)(h:Q .normal s' κ')(hst:iB ops=true:=by kernel_rfl)(hd:cR c.n ops.toList=true:=by exact rfl)(hr:a1->a2->∀K:az->Nat->Prop,K s' κ'->aS c (gz ops) s κ [] λs' κ' acc=>v8 ops acc.reverse=true/\K s' κ':=by intro e1 e2 K k;simp[e1,e2];(repeat refine aL ?_);refine⟨by kernel_rfl,?_⟩;(repeat refine aL ?_);exact k):AW c r (.region id ops true) s κ Q:=
 acs hm hst hd (hr e1 e2 (λs κ=>Q .normal s κ) h)
theorem AW.d3(hm:c.P.follows .mixedOrders=true)(e1:a1)(e2:a2)(e3:a3)(h:AW c r y s' κ' Q)(hst:iB ops=true:=by kernel_rfl)(hd:cR c.n ops.toList=true:=by exact rfl)(hr:a1->a2->a3->∀K:az->Nat->Prop,K s' κ'->aS c (gz ops) s κ [] λs' κ' acc=>v8 ops acc.reverse=true/\K s' κ':=by intro e1 e2 e3 K k;simp[e1,e2,e3];(repeat refine aL ?_);refine⟨by kernel_rfl,?_⟩;(repeat refine aL ?_);exact k):AW c r (.seq (.region id ops true) y) s κ Q:=
 aae λK hK=>acs hm hst hd (hr e1 e2 e3 K (hK _ _ h))
theorem AW.d4(hm:c.P.follows .mixedOrders=true)(e1:a1)(e2:a2)(e3:a3)(e4:a4)(h:AW c r y s' κ' Q)(hst:iB ops=true:=by kernel_rfl)(hd:cR c.n ops.toList=true:=by exact rfl)(hr:a1->a2->a3->a4->∀K:az->Nat->Prop,K s' κ'->aS c (gz ops) s κ [] λs' κ' acc=>v8 ops acc.reverse=true/\K s' κ':=by intro e1 e2 e3 e4 K k;simp[e1,e2,e3,e4];(repeat refine aL ?_);refine⟨by kernel_rfl,?_⟩;(repeat refine aL ?_);exact k):AW c r (.seq (.region id ops true) y) s κ Q:=
 aae λK hK=>acs hm hst hd (hr e1 e2 e3 e4 K (hK _ _ h))
theorem AW.dl4(hm:c.P.follows .mixedOrders=true)(e1:a1)(e2:a2)(e3:a3)(e4:a4)(h:Q .normal s' κ')(hst:iB ops=true:=by kernel_rfl)(hd:cR c.n ops.toList=true:=by exact rfl)(hr:a1->a2->a3->a4->∀K:az->Nat->Prop,K s' κ'->aS c (gz ops) s κ [] λs' κ' acc=>v8 ops acc.reverse=true/\K s' κ':=by intro e1 e2 e3 e4 K k;simp[e1,e2,e3,e4];(repeat refine aL ?_);refine⟨by kernel_rfl,?_⟩;(repeat refine aL ?_);exact k):AW c r (.region id ops true) s κ Q:=
 acs hm hst hd (hr e1 e2 e3 e4 (λs κ=>Q .normal s κ) h)
theorem AW.d5{a5:Prop}(hm:c.P.follows .mixedOrders=true)(e1:a1)(e2:a2)(e3:a3)(e4:a4)(e5:a5)(h:AW c r y s' κ' Q)(hst:iB ops=true:=by kernel_rfl)(hd:cR c.n ops.toList=true:=by exact rfl)(hr:a1->a2->a3->a4->a5->∀K:az->Nat->Prop,K s' κ'->aS c (gz ops) s κ [] λs' κ' acc=>v8 ops acc.reverse=true/\K s' κ':=by intro e1 e2 e3 e4 e5 K k;simp[e1,e2,e3,e4,e5];(repeat refine aL ?_);refine⟨by kernel_rfl,?_⟩;(repeat refine aL ?_);exact k):AW c r (.seq (.region id ops true) y) s κ Q:=
 aae λK hK=>acs hm hst hd (hr e1 e2 e3 e4 e5 K (hK _ _ h))
theorem AW.el2(hm:c.P.follows .mixedOrders=true)(e1:a1)(e2:a2)(h:Q .normal s' κ')(hst:iB ops=true:=by kernel_rfl)(hd:cR c.n ops.toList=true:=by exact rfl)(hq:ops.toList.all (λo=>kV o.op)=true:=by exact rfl)(hr:a1->a2->∀K:az->Nat->Prop,K s' κ'->aT c (gz ops) s κ K:=by intro e1 e2 K k;simp[e1,e2];(repeat refine aL ?_);exact k):AW c r (.region id ops true) s κ Q:=
 acV hm hst hd hq (hr e1 e2 (λs κ=>Q .normal s κ) h)
theorem AW.el3(hm:c.P.follows .mixedOrders=true)(e1:a1)(e2:a2)(e3:a3)(h:Q .normal s' κ')(hst:iB ops=true:=by kernel_rfl)(hd:cR c.n ops.toList=true:=by exact rfl)(hq:ops.toList.all (λo=>kV o.op)=true:=by exact rfl)(hr:a1->a2->a3->∀K:az->Nat->Prop,K s' κ'->aT c (gz ops) s κ K:=by intro e1 e2 e3 K k;simp[e1,e2,e3];(repeat refine aL ?_);exact k):AW c r (.region id ops true) s κ Q:=
 acV hm hst hd hq (hr e1 e2 e3 (λs κ=>Q .normal s κ) h)
end
section
variable {c:Ctx}{r:Option Nat}{ops:Array Oper}
def tM(c:Ctx)(r:Option Nat)(ops:Array Oper)(o:Oper)(s s1:az):Prop:=
 ∀F β a w K Q,aA c F β s a w->(∀F' β' a' w',aA c F' β' s1 a' w'->K a' w') ->
  if Region.wanted o (yielded ops a.tmps)then o.wpIn (rM r) 0 c.P a w K Q else K (a.put o.dst undef) w
theorem tM.Vb{e:Fx}(h:cQ c r ops o s e):tM c r ops o s (e.app o.dst s):=
 λF β a w K Q hs hK=>h s (λ_ _=>rfl) ⟨λ_ _=>rfl,λ_ _=>rfl⟩ F β a w K Q hs hK
def wS(c:Ctx)(r:Option Nat)(ops:Array Oper):List Oper->az->az->Prop
 |[],s,s'=>s'=s
 |o::os,s,s'=>∃s1,tM c r ops o s s1/\wS c r ops os s1 s'
theorem wS.opers{Q:Exit->Act->World->Prop}:∀{os:List Oper}{s s':az}(n:Nat),ops.toList.drop n=os->wS c r ops os s s' ->
 (∀F' β' a' w',aA c F' β' s' a' w'->Q .normal a' w')->∀F β a w,aA c F β s a w->wpOpsIn (rM r) 0 c.P ops Q (List.range' n os.length) a w
 |[],s,s',n,_,h,hQ=>λF β a w hs=>by
  have h:s'=s:=h;subst h;exact hQ F β a w hs
 |o::os,s,s',n,h1,h,hQ=>λF β a w hs=>by
  obtain⟨s1,h2,h3⟩:=h
  have ho:ops[n]?=some o:=by
   have:(ops.toList.drop n)[0]?=some o:=by rw[h1];rfl
   rw[aeM]at this;simpa using this
  have ih:=wS.opers (os:=os) (n+1) (by rw[<-aeb,h1];rfl) h3 hQ;have key:=h2 F β a w (wpOpsIn (rM r) 0 c.P ops Q (List.range' (n+1) os.length)) Q hs (λF' β' a' w' h'=>ih F' β' a' w' h');simp only[adN,afm];rw[wpOpsIn_cons];unfold wpOpIn;rw[ho];simp only;split at key
  ·grind
  ·rename_i hw;rw[if_neg hw];exact⟨λ_ _=>trivial,key⟩
theorem AW.SO(h:wS c r ops ops.toList s s')(hQ:Q .normal s' κ):AW c r (.region id ops false) s κ Q:=by
 intro F β a w hs;refine wpIn_region ?_;have:=wS.opers (Q:=Post c Q) 0 rfl h (λF' β' a' w' h'=>⟨.normal,s',κ,F',β',hQ,h',rfl⟩) F β a w hs;rw[List.range_eq_range']
 grind
end
theorem cY.enter(hS:cY (de P G w F β lv) F β lv w)(h1:a.tmps.size=n)(h2:a.defers=[])
 (h3:∀t,(Vw.mk F β lv w).av (a.tmps.getD t undef) (fr t)):aA { de P G w F β lv with n:=n } F β ⟨fr,lv⟩ a w:=
 cY.with (c:={ de P G w F β lv with n:=n }) hS h1 h2 h3
section
variable {P:Program}{T:TypeId}{lv:Key->LB}{κ:Key}{v:AV}{us:List (Key×LB)}{rds:List Key}
theorem Hz{op:BinOp}(h:wV P op T x y=some (v,us,rds,true)):∃vc,aK P op T x y=some (v,us,rds,vc)/\vc:=by
 unfold wV at h;unfold aK
 (repeat' split at h)<;>simp_all<;>exact⟨True,trivial⟩
theorem Hg(h:sM P T lv x=some (v,us,rds,true)):∃vc,bh P T lv x=some (v,us,rds,vc)/\vc:=by
 unfold sM at h;unfold bh
 (repeat' split at h)<;>simp_all<;>exact⟨True,trivial⟩
theorem DE(h:qp P T lv x y=some (v,us,rds,true)):∃vc,ec P T lv x y=some (v,us,rds,vc)/\vc:=by
 unfold qp at h;unfold ec
 (repeat' split at h)<;>simp_all<;>exact⟨True,trivial⟩
theorem Ht(h:wz lv x=some (v,us,rds,true)):∃vc,ig lv x=some (v,us,rds,vc)/\vc:=by
 unfold wz at h;unfold ig
 (repeat' split at h)<;>simp_all<;>exact⟨True,trivial⟩
theorem vW{f:Nat}(h:kN P T f lv x=some (v,us,rds,true)):∃vc,cj P T f lv x=some (v,us,rds,vc)/\vc:=by
 unfold kN at h;unfold cj
 (repeat' split at h)<;>simp_all<;>exact⟨True,trivial⟩
theorem vX(h:kG P T lv x i=some (v,us,rds,true)):∃vc,ak P T lv x i=some (v,us,rds,vc)/\vc:=by
 unfold kG at h;unfold ak
 (repeat' split at h)<;>first|(cases h;done)|(simp only[ah,rP,decide_eq_true_eq]at h;obtain⟨rfl,rfl,rfl,h⟩:=h;refine⟨_,?_,h⟩;grind)
theorem EK(h:pM P T x i=some (v,us,rds,true)):∃vc,gq P T x i=some (v,us,rds,vc)/\vc:=by
 unfold pM at h;unfold gq
 (repeat' split at h)<;>first|(cases h;done)|(simp only[ah,rP,decide_eq_true_eq]at h;obtain⟨rfl,rfl,rfl,h⟩:=h;refine⟨_,?_,h⟩;grind)
theorem uQ{lo hi:Option AV}(h:pZ P T lv x lo hi=some (v,us,rds,true)):∃vc,bP P T lv x lo hi=some (v,us,rds,vc)/\vc:=by
 unfold pZ at h;unfold bP
 (repeat' split at h)<;>simp_all<;>exact⟨True,trivial⟩
theorem Fl(h:sY P T lv κ x y=some (v,us,rds,true)):∃vc,gV P T lv κ x y=some (v,us,rds,vc)/\vc:=by
 unfold sY at h;unfold gV
 (repeat' split at h)<;>simp_all<;>exact⟨True,trivial⟩
theorem BI(h:oz P T lv κ x y=some (v,us,rds,true)):∃vc,eu P T lv κ x y=some (v,us,rds,vc)/\vc:=by
 unfold oz at h;unfold eu
 (repeat' split at h)<;>simp_all<;>exact⟨True,trivial⟩
theorem ur{ixs:List Nat}(h:jY P T n ixs lv κ vals=some (v,us,rds,true)):∃vc,ai P T n ixs lv κ vals=some (v,us,rds,vc)/\vc:=by
 unfold jY at h;unfold ai
 (repeat' split at h)<;>simp_all<;>exact⟨True,trivial⟩
theorem G3(h:tr P T lv y x=some (v,us,rds,true)):∃vc,iI P T lv y x=some (v,us,rds,vc)/\vc:=by
 unfold tr at h;unfold iI
 (repeat' split at h)<;>first|(cases h;done)|(simp only[ah,rP,decide_eq_true_eq]at h;obtain⟨rfl,rfl,rfl,h⟩:=h;refine⟨_,?_,h⟩;grind)
theorem Qj(h:Dd P cl vals lv κ=some (v,us,rds,true)):∃vc,lW P cl vals lv κ=some (v,us,rds,vc)/\vc:=by
 unfold Dd at h;unfold lW;split at h
 ·split at h
  ·split at h
   ·simp only[ah,rP]at h;obtain⟨rfl,rfl,rfl,h⟩:=h
    rename_i n hn
    refine⟨_,?_,Js h⟩;grind
   grind
  grind
 ·split at h
  ·split at h
   ·rename_i hT;subst hT;obtain⟨vc,h1,h2⟩:=BI h;grind
   grind
  grind
 ·split at h
  ·obtain⟨vc,h1,h2⟩:=G3 h;grind
  grind
 ·split at h
  ·simp_all;exact⟨True,trivial⟩
  grind
 ·split at h
  ·simp_all;exact⟨True,trivial⟩
  grind
 grind
def aaH(P:Program):Prop:=∀op vals lv κ x us rds,tQ P op vals lv κ=some (x,us,rds,true)->∃vc,cX P op vals lv κ=some (x,us,rds,vc)/\vc
theorem Xp(P:Program):aaH P:=by
 intro op vals lv κ v us rds h;unfold tQ at h;unfold cX;split at h
 all_goals first
  |exact ur h
  |exact Hg h
  |exact DE h
  |exact Ht h
  |exact Hz h
  |exact Fl h
  |exact vW h
  |exact vX h
  |exact EK h
  |exact Qj h
  |(cases h;done)
  |(split at h;(obtain⟨vc,h1,h2⟩:=uQ h;refine⟨vc,?_,h2⟩;simp only[*];done);(cases h;done))
  |((repeat' split at h)<;>first|(cases h;done)|(simp only[ah,rP,and_true]at h;obtain⟨rfl,rfl,rfl⟩:=h;refine⟨True,?_,trivial⟩;simp only[*,if_true];done))
  |skip
 split at h
 ·rename_i l hh hb
  obtain⟨vc,h1,h2⟩:=uQ h
  grind
 grind
end
def Good(r:dI):Prop:=∀n o,r≠.bad n o
theorem Good.ne(h:Good r){o:List Op}:dI.bad n o≠r:=λe=>h n o e.symm
noncomputable def SS(fr:Tb AV)(lv:Tb LB):az:=⟨kS fr,aY lv⟩
def kY(lv lv':Tb LB)(l:List Key):Prop:=∀k,k∉l->aY lv' k=aY lv k
theorem kY.refl(lv:Tb LB):kY lv lv []:=λ_ _=>rfl
theorem kY.trans{a b c:Tb LB}{m:List Key}(h1:kY a b l)(h2:kY b c m):kY a c (m++l):=by
 intro k hk;rw[aem]at hk;rw[h2 k (λh=>hk (.inl h)),h1 k (λh=>hk (.inr h))]
theorem PG(us:List (Key×LB)):(vz us).map (·.1)=us.map (·.1):=by simp[vz]
theorem GN:∀{lv lv':Key->LB},(∀k,lv' k=lv k\/lv' k=(lv k).un)->∀k,bk lv' (vz us) k=bk lv us k\/bk lv' (vz us) k=(bk lv us k).un:=by
 induction us with
 |nil=>intro lv lv' h k;exact h k
 |cons p us ih=>
  intro lv lv' h k;show bk (au lv' p.1 p.2.un) (vz us) k=bk (au lv p.1 p.2) us k\/_=(bk (au lv p.1 p.2) us k).un;refine ih (λj=>?_) k
  by_cases e:j=p.1
  ·subst e;rw[aC,aC];simp
  ·rw[aF _ _ e,aF _ _ e];exact h j
theorem LB.Vd(x:LB):x.sub x.un:=by cases x<;>simp[LB.un,LB.sub]
theorem LB.RC(x:LB):x.un.live=x.live:=by
 cases x with
 |cells o fz T cs=>cases fz<;>rfl
 |_=>rfl
theorem Gg{b:Nat}(h:fj c own b):fj c false b:=sA h (by simp)
theorem aA.forget(h:aA c F β ⟨fr,lv⟩ a w)(hl:∀k,lv' k=lv k\/lv' k=(lv k).un):aA c F β ⟨fr,lv'⟩ a w:=by
 have hsub:∀k,(lv k).sub (lv' k):=by
  intro k;rcases hl k with e|e<;>rw[e]
  ·exact LB.bG _
  ·exact LB.Vd _
 have hlive:∀k,(lv' k).live=(lv k).live:=by
  intro k;rcases hl k with e|e<;>rw[e]
  exact LB.RC _
 refine h.step (λ_ h=>h) (λ_ _=>rfl) hsub (λ_ _ _=>rfl) (λ_=>aU _) ?_ ?_ (λb h=>.inl h) (aU _) (λ_ _ _=>rfl)
 ·intro k hK;have hb:=h.bU k;unfold Vw.bU at hb⊢;rcases hl k with e|e
  ·simp only[e]
   cases ek:lv k with
   |cells own fz T cs=>
    simp only[ek]at hb;obtain⟨arr,b1,b2,b3,b4,b5⟩:=hb;exact⟨arr,b1,b2,λi p q=>hK.cv (b3 i p q),b4,b5⟩
   |map own es=>
    simp only[ek]at hb;obtain⟨x,y,b1,b2,b3,b4,b5⟩:=hb;exact⟨x,y,b1,b2,λi p q=>⟨Rd.mono (hO hK.F hK.mem) (b3 i p q).1,hK.l5 (b3 i p q).2⟩,b4,b5⟩
   |_=>trivial
  ·simp only[e]
   cases ek:lv k with
   |cells own fz T cs=>
    simp only[ek]at hb;obtain⟨arr,b1,b2,b3,b4,b5⟩:=hb;exact⟨arr,b1,b2,λi p q=>hK.cv (b3 i p q),b4,Gg b5⟩
   |map own es=>
    simp only[ek]at hb;obtain⟨x,y,b1,b2,b3,b4,b5⟩:=hb;exact⟨x,y,b1,b2,λi p q=>⟨Rd.mono (hO hK.F hK.mem) (b3 i p q).1,hK.l5 (b3 i p q).2⟩,b4,Gg b5⟩
   |_=>trivial
 ·intro k k' h1 h2 he;rw[hlive]at h1 h2;exact h.inj _ _ h1 h2 he
theorem cx.un(h:cx c o s (az.put ⟨s.fr,bk s.lv us⟩ d x)):cx c o s (az.put ⟨s.fr,bk s.lv (vz us)⟩ d x):=by
 intro F β a w K Q hs hK;refine h F β a w K Q hs λF' β' a' w' h'=>hK F' β' a' w' ?_;have hl:∀k,bk s.lv (vz us) k=bk s.lv us k\/bk s.lv (vz us) k=(bk s.lv us k).un:=GN (λ_=>.inl rfl)
 cases d with
 |none=>exact aA.forget h' hl
 |some d=>exact aA.forget h' hl
theorem zj:∀{us:List (Key×LB)}{lv:Tb LB}{lg:List Key}{k:Tb LB->List Key->dI}{r:dI},B4 us lv lg k=r->Good r->dc (aY lv) ->
 ∃lv' l,k lv' (l++lg)=r/\aY lv'=bk (aY lv) (vz us)/\dc (aY lv')/\kY lv lv' l
 |[],lv,lg,k,r,h,hg,ho=>⟨lv,[],h,rfl,ho,kY.refl _⟩
 |p::us,lv,lg,k,r,h,hg,ho=>by
  have h1:(dP p.1 λq=>wD p.2 λb=>fG b.okB (.bad 3 []) (Tb.Ej .hole b (pathOf q) lv λlv=>B4 us lv (q::lg) k))=r:=h;rw[jb,BV]at h1;obtain⟨hb,h1⟩:=dJ h1 hg.ne;rw[Tb.mg]at h1;have hset:=FT lv p.1 p.2.un
  have ho1:dc (aY (lv.set .hole p.2.un (pathOf p.1))):=by
   intro j;rw[hset]
   by_cases e:j=p.1
   ·subst e;rw[aC];exact hb
   ·rw[aF _ _ e];exact ho j
  obtain⟨lv',l,e1,e2,e3,e4⟩:=zj h1 hg ho1;refine⟨lv',l++[p.1],by grind,?_,e3,?_⟩
  ·rw[e2,hset];rfl
  ·intro j hj;simp only[aem,ad8,not_or]at hj;rw[e4 j hj.1,hset,aF _ _ hj.2]
def Nk(d:Option Nat)(x:AV)(fr:Nat->AV):Nat->AV:=match d with|some d=>au fr d x|none=>fr
theorem uT(d:Option Nat)(x:AV)(fr:Nat->AV)(lv:Key->LB):az.put ⟨fr,lv⟩ d x=⟨Nk d x fr,lv⟩:=by cases d<;>rfl
theorem lG{fr:Tb AV}{k:Tb AV->dI}(h:fh d x fr k=r):∃fr',k fr'=r/\kS fr'=Nk d x (kS fr):=by
 cases d with
 |none=>exact⟨fr,h,rfl⟩
 |some d=>
  have h1:(eP x λx=>Tb.Ej .undef x (pathOf d) fr k)=r:=h;rw[jP,Tb.mg]at h1;exact⟨_,h1,GP fr d x⟩
theorem Hu:∀{us:List (Key×LB)}{nx:Nat}{k:Nat->dI}{r:dI},Qk nx us k=r->∃nx',k nx'=r
 |[],nx,k,r,h=>⟨nx,h⟩
 |p::us,nx,k,r,h=>by
  have h1:fG (Nat.beq p.1 nx) (Qk nx us k) (dP nx λn=>k (Nat.succ n))=r:=h
  cases hb:Nat.beq p.1 nx with
  |false=>rw[hb]at h1;exact Hu (us:=us) h1
  | true=>rw [hb] at h1;have h2:(dP nx fun n=>k (Nat.succ n))=r:=h1
          rw[jb]at h2;grind
theorem tR(G:List (List DV))(fr:Tb AV)(lv:Key->LB)(x:Operand):Bd G fr x=(az.mk (kS fr) lv).val G x:=by cases x<;>rfl
theorem qm(G:List (List DV))(fr:Tb AV)(lv:Key->LB):∀(l:List Operand),iC G fr l=l.map ((az.mk (kS fr) lv).val G)
 |[]=>rfl
 |x::l=>by
  show Bd G fr x::iC G fr l=_;rw[tR G fr lv,qm G fr lv l];rfl
def lD(P:Program)(op:Op)(vals:List AV)(lv:Key->LB)(κ:Nat)(x:AV)(us:List (Key×LB))(rds:List Key):Prop:=
 (∃vc,cX P op vals lv κ=some (x,us,rds,vc)/\vc)\/dF P op vals lv κ=some (x,us,rds)
theorem OV{op:Op}{lv:Tb LB}{k:AV->List (Key×LB)->List Key->dI}(h:SY P op vals lv nx k=r)(hg:Good r):
 ∃x us rds,k x us rds=r/\lD P op vals (aY lv) nx x us rds:=by
 unfold SY at h
 cases e:tQ P op vals (aY lv) nx with
 |none=>
  rw[e]at h;obtain⟨q,h1,h2⟩:=ei (x:=dF P op vals (aY lv) nx) h hg.ne;exact⟨_,_,_,h2,.inr h1⟩
 |some q=>
  rw[e]at h;obtain⟨x,us,rds,b⟩:=q;have h':fG b (nw (dF P op vals (aY lv) nx) (.bad 1 [op]) λr=>k r.1 r.2.1 r.2.2) (k x us rds)=r:=h
  cases b with
  |true=>
   obtain⟨vc,h1,h2⟩:=Xp P _ _ _ _ _ _ _ e;exact⟨x,us,rds,h',.inl ⟨vc,h1,h2⟩⟩
  |false=>
   obtain⟨q,h1,h2⟩:=ei (x:=dF P op vals (aY lv) nx) h' hg.ne;exact⟨_,_,_,h2,.inr h1⟩
theorem lD.U3(hd:∀d,o.dst=some d->d<c.n)
 (h:lD c.P o.op (o.op.operands.toList.map (s.val c.G)) s.lv κ x us rds):cx c o s (az.put ⟨s.fr,bk s.lv us⟩ o.dst x):=by
 rcases h with⟨vc,h1,h2⟩|h1
 ·exact B8 hd rfl rfl h1 h2
 ·exact CM hd rfl rfl h1
theorem lD.local{op:Op}(h:lD P op vals lv κ x us rds)(ha:Agree lv lv' us rds):lD P op vals lv' κ x us rds:=by
 rcases h with⟨vc,h1,h2⟩|h1
 ·exact .inl ⟨vc,pO h1 ha,h2⟩
 ·exact .inr (xw h1 ha)
def lP(P:Program)(G:List (List DV))(call:eV):Prop:=∀f us lv nx lg kr kp r,call f us lv nx lg kr kp=r->Good r->dc (aY lv) ->
 (∃x lv' nx' l,kr x lv' nx' (l++lg)=r/\cu P G f us (aY lv) (.ret x (aY lv'))/\dc (aY lv')/\kY lv lv' l) \/
 (∃d lv' nx' l,kp d lv' nx' (l++lg)=r/\cu P G f us (aY lv) (.vu d (aY lv'))/\dc (aY lv')/\kY lv lv' l)
section
variable {P:Program}{G:List (List DV)}
theorem FL(hc:lP P G call){op:Op}{fr:Tb AV}{lv:Tb LB}{kr:Jt}{kp:Sw}
 (h:xA P G call op cl fo fr lv nx lg kr kp=r) (hg:Good r) (ho:dc (aY lv)) :
 ∃f fs cs,cG ((SS fr lv).val G fo)=some (f,fs,cs)/\aH P f=true /\
  ((∃x lv' nx' l,kr x lv' nx' (l++lg)=r/\cu P G f (fs++cl.args.toList.map ((SS fr lv).val G)++cs) (aY lv) (.ret x (aY lv'))/\dc (aY lv')/\kY lv lv' l) \/
  (∃d lv' nx' l,kp d lv' nx' (l++lg)=r/\cu P G f (fs++cl.args.toList.map ((SS fr lv).val G)++cs) (aY lv) (.vu d (aY lv'))/\dc (aY lv')/\kY lv lv' l)):=by
 unfold xA at h;obtain⟨⟨f,fs,cs⟩,h1,h2⟩:=ei h hg.ne;obtain⟨h3,h4⟩:=dJ h2 hg.ne;rw[tR G fr (aY lv)]at h1;rw[qm G fr (aY lv)]at h4;exact⟨f,fs,cs,h1,h3,hc _ _ _ _ _ _ _ _ h4 hg ho⟩
theorem BX{op:Op}(h:vJ op=.call cl fo):op=.call cl/\cl.callee=.value fo:=by
 unfold vJ at h
 grind
theorem M8{op:Op}{x:Operand}(h:vJ op=.vu x):op=.panic x:=by
 unfold vJ at h
 grind
theorem R4{k:DV->dI}{b:dI}(h:O7 x k b=r)(hb:b≠r):∃t d,x=.c (.d (.iface t d))/\k (.iface t d)=r:=by
 unfold O7 at h
 grind
theorem Hy{x:Operand}{t:TypeId}{d:DV}(ho:o.op=.panic x)(hx:s.val c.G x=.c (.d (.iface t d))):Vu c o s (.iface t d) s:=by
 intro F β a w K Q hs hK;have hv:=hx▸hs.val x;obtain⟨hv,_⟩:=hv;obtain⟨u,hu⟩:∃u,a.eval x=u:=⟨_,rfl⟩
 rw[hu]at hv;have hv':=hv
 cases hv with
 |iface _ u' _ hr=>
  have hrun:(execOp a.eval o).run c.P w=.halt (.panic (.iface t u')) w:=by
   simp[execOp,ho,hu,Instr.panic,goPanic,Sem.run]
  unfold Oper.wp;rw[hrun,Oper.upon_panic];exact hK F β _ a w hs hv'
def gG(P:Program)(G:List (List DV))(ops:Array Oper)(os:List Oper)(s s':az)(e:Ex):Prop:=
 ∀(c:Ctx) (n:Nat) (Q:Exit->Act->World->Prop),c.P=P->c.G=G->cR c.n os=true->ops.toList.drop n=os ->
  (∀F' β' a' w' ex,aA c F' β' s' a' w'->Fi e ex F' w'->Q ex a' w')->∀F β a w,aA c F β s a w->wpOpsIn (rM none) 0 c.P ops Q (List.range' n os.length) a w
theorem zV(h:ops.toList.drop n=o::os):ops[n]?=some o/\ops.toList.drop (n+1)=os:=by
 constructor
 ·have:(ops.toList.drop n)[0]?=some o:=by rw[h];rfl
  grind
 ·rw[<-aeb,h];rfl
theorem lq(h:cR n (o::os)=true):(∀d,o.dst=some d->d<n)/\cR n os=true:=by
 simp only[cR,aed,cy]at h;refine⟨λd hd=>?_,h.2⟩
 grind
theorem gG.cons{s1:az}{e:Ex}(hw:eK ops o.guard s.fr=some true)(hdf:∀cl,o.op≠.defer cl)
 (h:∀c:Ctx,c.P=P->c.G=G->(∀d,o.dst=some d->d<c.n)->cx c o s s1) (hk:gG P G ops os s1 s' e):gG P G ops (o::os) s s' e:=by
 intro c n Q hP hG hd hdr hQ F β a w hs;obtain⟨ho,hdr'⟩:=zV hdr;obtain⟨hd1,hd2⟩:=lq hd;have ih:=hk c (n+1) Q hP hG hd2 hdr' hQ;simp only[adN,afm];rw[wpOpsIn_cons];unfold wpOpIn;rw[ho];simp only;rw[hJ hs hw];simp only[if_true];exact uF hdf (h c hP hG hd1 F β a w _ Q hs λF' β' a' w' h'=>ih F' β' a' w' h')
theorem gG.skip{e:Ex}(hw:eK ops o.guard s.fr=some false)
 (hk:gG P G ops os (s.put o.dst .undef) s' e):gG P G ops (o::os) s s' e:=by
 intro c n Q hP hG hd hdr hQ F β a w hs;obtain⟨ho,hdr'⟩:=zV hdr;obtain⟨hd1,hd2⟩:=lq hd;have ih:=hk c (n+1) Q hP hG hd2 hdr' hQ;simp only[adN,afm];rw[wpOpsIn_cons];unfold wpOpIn;rw[ho];simp only;rw[hJ hs hw];simp only[adC,if_false];exact⟨λ_ _=>trivial,ih F β _ _ (hs.D6 hd1 (oM _))⟩
theorem gG.vu{d:DV}(hw:eK ops o.guard s.fr=some true)(hdf:∀cl,o.op≠.defer cl)
 (h:∀c:Ctx,c.P=P->c.G=G->Vu c o s d s'):gG P G ops (o::os) s s' (.panic d):=by
 intro c n Q hP hG hd hdr hQ F β a w hs;obtain⟨ho,hdr'⟩:=zV hdr;simp only[adN,afm];rw[wpOpsIn_cons];unfold wpOpIn;rw[ho];simp only;rw[hJ hs hw];simp only[if_true];exact uF hdf (h c hP hG F β a w _ Q hs λF' β' v a' w' h' hv=>hQ F' β' a' w' _ h' ⟨v,rfl,hv⟩)
theorem yF{call:eV}(hc:lP P G call){ops:Array Oper}:∀{os:List Oper}{fr:Tb AV}{lv:Tb LB}{nx:Nat}{lg:List Key}{k:Wa}{r:dI},
 Ak P G call ops os fr lv nx lg k=r->Good r->dc (aY lv) ->
 ∃e fr' lv' nx' l,k e fr' lv' nx' (l++lg)=r/\dc (aY lv')/\kY lv lv' l/\gG P G ops os (SS fr lv) (SS fr' lv') e
 |[],fr,lv,nx,lg,k,r,h,hg,ho=>by
  refine⟨.normal,fr,lv,nx,[],h,ho,kY.refl _,?_⟩;intro c n Q hP hG hd hdr hQ F β a w hs;exact hQ F β a w .normal hs rfl
 |o::os,fr,lv,nx,lg,k,r,h,hg,ho=>by
  have h0:(nw (eK ops o.guard (kS fr)) (.bad 6 [o.op]) λb=>
   fG b (fh o.dst .undef fr λfr=>Ak P G call ops os fr lv nx lg k)
    (V9.rec (motive:=λ_=>dI)
     (λx=>O7 (Bd G fr x) (λd=>k (.panic d) fr lv nx lg) (.bad 7 [o.op]))
     (λcl fo=>xA P G call o.op cl fo fr lv nx lg (λx lv nx lg=>fh o.dst x fr λfr=>Ak P G call ops os fr lv nx lg k) (λd lv nx lg=>k (.panic d) fr lv nx lg))
     (SY P o.op (iC G fr o.op.operands.toList) lv nx λx us _=>Qk nx us λnx'=>fh o.dst x fr λfr=>B4 us lv lg λlv lg=>Ak P G call ops os fr lv nx' lg k)
     (vJ o.op)))=r:=h
  obtain⟨b,hw,h1⟩:=ei h0 hg.ne
  cases b with
  |false=>
   have h1':fh o.dst .undef fr (λfr=>Ak P G call ops os fr lv nx lg k)=r:=h1;obtain⟨fr1,h2,e1⟩:=lG h1';obtain⟨e,fr',lv',nx',l,q1,q2,q3,q4⟩:=yF hc h2 hg ho;refine⟨e,fr',lv',nx',l,q1,q2,q3,gG.skip hw ?_⟩
   have:(SS fr lv).put o.dst .undef=SS fr1 lv:=by
    show az.put ⟨kS fr,aY lv⟩ o.dst .undef=_;rw[uT,<-e1];rfl
   grind
  |true=>
   cases ek:vJ o.op with
   |vu x=>
    rw[ek]at h1;have h2:O7 (Bd G fr x) (λd=>k (.panic d) fr lv nx lg) (.bad 7 [o.op])=r:=h1;obtain⟨t,d,e1,e2⟩:=R4 h2 hg.ne;have hop:=M8 ek;refine⟨.panic (.iface t d),fr,lv,nx,[],e2,ho,kY.refl _,gG.vu hw (λcl h=>by grind) λc hP hG=>?_⟩;refine Hy hop ?_;rw[hG];rwa[tR G fr (aY lv)]at e1
   |call cl fo=>
    rw[ek]at h1;obtain⟨hop,hcal⟩:=BX ek;obtain⟨f,fs,cs,c1,c2,c3⟩:=FL hc h1 hg ho;have hdf:∀cl',o.op≠.defer cl':=λcl' h=>by grind
    rcases c3 with⟨x,lv1,nx1,l1,d1,d2,d3,d4⟩|⟨d,lv1,nx1,l1,d1,d2,d3,d4⟩
    ·obtain⟨fr1,h2,e1⟩:=lG d1;obtain⟨e,fr',lv',nx',l,q1,q2,q3,q4⟩:=yF hc h2 hg d3;refine⟨e,fr',lv',nx',l++l1,by grind,q2,d4.trans q3,gG.cons hw hdf (s1:=SS fr1 lv1) (λc hP hG hd=>?_) q4⟩;have hsim:=cu.U3 (c:=c) (s:=SS fr lv) (o:=o) (cl:=cl) (fo:=fo) (fv:=(SS fr lv).val c.G fo) (f:=f) (fs:=fs) (cs:=cs) (x:=x) (lv':=aY lv1) hd hop hcal rfl (by grind) (by grind) ho (by rw[hP,hG];exact d2);have:az.put ⟨(SS fr lv).fr,aY lv1⟩ o.dst x=SS fr1 lv1:=by rw[uT];show az.mk (Nk o.dst x (kS fr)) (aY lv1)=_;rw[<-e1];rfl
     grind
    ·refine⟨.panic d,fr,lv1,nx1,l1,d1,d3,d4,gG.vu hw hdf λc hP hG=>?_⟩;exact cu.abJ (c:=c) (s:=SS fr lv) (o:=o) (cl:=cl) (fo:=fo) (fv:=(SS fr lv).val c.G fo) (f:=f) (fs:=fs) (cs:=cs) (d:=d) (lv':=aY lv1) hop hcal rfl (by grind) (by grind) ho (by rw[hP,hG];exact d2)
   |plain=>
    rw[ek]at h1;have h1':SY P o.op (iC G fr o.op.operands.toList) lv nx (λx us _=>Qk nx us λnx'=>fh o.dst x fr λfr=>B4 us lv lg λlv lg=>Ak P G call ops os fr lv nx' lg k)=r:=h1;obtain⟨x,us,rds,h2,hdo⟩:=OV h1' hg;have h2':Qk nx us (λnx'=>fh o.dst x fr λfr=>B4 us lv lg λlv lg=>Ak P G call ops os fr lv nx' lg k)=r:=h2;obtain⟨nx1,h3⟩:=Hu h2';have h3':fh o.dst x fr (λfr=>B4 us lv lg λlv lg=>Ak P G call ops os fr lv nx1 lg k)=r:=h3;obtain⟨fr1,h4,e1⟩:=lG h3';have h4':B4 us lv lg (λlv lg=>Ak P G call ops os fr1 lv nx1 lg k)=r:=h4;obtain⟨lv1,l1,h5,e2,e3,e4⟩:=zj h4' hg ho;obtain⟨e,fr',lv',nx',l,q1,q2,q3,q4⟩:=yF hc h5 hg e3
    have hdf:∀cl',o.op≠.defer cl':=λcl' h=>by
     rw[h]at hdo;rcases hdo with⟨vc,g1,_⟩|g1
     ·simp[cX]at g1
     ·simp[dF]at g1
    refine⟨e,fr',lv',nx',l++l1,by grind,q2,e4.trans q3,gG.cons hw hdf (s1:=SS fr1 lv1) (λc hP hG hd=>?_) q4⟩
    have hsim:=(lD.U3 (c:=c) (o:=o) (s:=SS fr lv) (κ:=nx) (x:=x) (us:=us) (rds:=rds) hd (by
     rw[hP,hG];rw[qm G fr (aY lv)]at hdo;exact hdo)).un
    have:az.put ⟨(SS fr lv).fr,bk (SS fr lv).lv (vz us)⟩ o.dst x=SS fr1 lv1:=by
     rw[uT];show az.mk (Nk o.dst x (kS fr)) (bk (aY lv) (vz us))=_;rw[<-e1,<-e2];rfl
    grind
end
noncomputable def jT(P:Program)(f:Rec):Fw:=⟨⟨f.x,vz f.us,f.rds⟩,aY f.lv,f.all,EZ P f⟩
theorem TU(h:b.okB=true):b.un=b:=by
 cases b with
 |cells own fz T cs=>simp only[LB.okB,cy,ads]at h;simp only[LB.un,h.1]
 |map own es=>simp only[LB.okB,ads]at h;simp only[LB.un,h]
 |_=>rfl
theorem rF:vz us=[]↔us=[]:=by cases us<;>simp[vz]
theorem GH(h:Agree lv lv' (vz us) rds):Agree lv lv' us rds:=
 ⟨h.1,λp hp=>h.2 (p.1,p.2.un) (afA (f:=λp:Key×LB=>(p.1,p.2.un)) hp)⟩
theorem Yp{lv lv':Tb LB}(h:kY lv lv' l)(ho:dc (aY lv')):bk (aY lv) (vz (l.map λq=>(q,aY lv' q)))=aY lv':=by
 have key:∀(m:List Key) (f:Key->LB),(∀k,k∉m->f k=aY lv' k)->bk f (vz (m.map λq=>(q,aY lv' q)))=aY lv':=by
  intro m
  induction m with
  |nil=>intro f hf;funext k;exact hf k (by simp)
  |cons q m ih=>
   intro f hf;show bk (au f q (aY lv' q).un) _=_;refine ih _ λk hk=>?_
   by_cases e:k=q
   ·subst e;rw[aC,TU (ho k)]
   ·rw[aF _ _ e];grind
 exact key l _ λk hk=>(h k hk).symm
section
variable {P:Program}{G:List (List DV)}
theorem ng.skip(hd:∀d,o.dst=some d->d<c.n)(hw:eK ops o.guard s0.fr=some false):ng c none ops o s0 ⟨.undef,[],[]⟩ ok:=by
 intro s h1 _ F β a w K Q h hK;rw[hJ h ((ou h1).trans hw)];simp only[adC,if_false];exact hK F β _ _ (h.D6 hd (oM _))
theorem ng.qo{e:Fx}(hw:eK ops o.guard s0.fr=some true)(hdf:∀cl,o.op≠.defer cl)
 (hs:∀s:az,(∀x∈o.op.operands.toList,s.val c.G x=s0.val c.G x)->ok s.lv->cx c o s (e.app o.dst s)):ng c none ops o s0 e ok:=by
 intro s h1 h2 F β a w K Q h hK;rw[hJ h ((ou h1).trans hw)];simp only[if_true];exact uF hdf (hs s (Ar h1) h2 F β a w K Q h hK)
theorem FI{f:Rec}(h:EZ P f k b=true):∃vc,cX P f.op f.vals (au (aY f.lv) k b) f.nx=some (f.x,[],[k],vc)/\vc:=by
 unfold EZ at h;split at h
 ·rename_i x k' he
  simp only[cy]at h;have e1:=AV.beq_eq h.1;have e2:=aen h.2;subst e1;subst e2;exact Xp P _ _ _ _ _ _ _ he
 grind
theorem Ow{P:Program}{op:Op}(h:lD P op vals lv κ x us rds):∀cl,op≠.defer cl:=by
 intro cl e;rw[e]at h;rcases h with⟨vc,g1,_⟩|g1
 ·simp[cX]at g1
 ·simp[dF]at g1
theorem ng.plain(hP:c.P=P)(hG:c.G=G){fr:Tb AV}{lv:Tb LB}(hd:∀d,o.dst=some d->d<c.n)(hw:eK ops o.guard (kS fr)=some true)
 (h:lD P o.op (iC G fr o.op.operands.toList) (aY lv) nx x us rds) :
 ng c none ops o (SS fr lv) (jT P ⟨x,us,rds,false,lv,o.op,iC G fr o.op.operands.toList,nx⟩).e (jT P ⟨x,us,rds,false,lv,o.op,iC G fr o.op.operands.toList,nx⟩).ok:=by
 refine ng.qo hw (Ow h) λs hv hok=>?_
 have hvals:iC G fr o.op.operands.toList=o.op.operands.toList.map (s.val c.G):=by
  rw[qm G fr (aY lv),hG];exact adI λy hy=>by rw[<-hG];exact(hv y hy).symm
 have fin:∀us',us'=us->lD P o.op (o.op.operands.toList.map (s.val c.G)) s.lv nx x us' rds->cx c o s (Fx.app ⟨x,vz us,rds⟩ o.dst s):=by
  intro us' e h';subst e;exact(lD.U3 hd (by rw[hP];exact h')).un
 rw[hvals]at h;rcases hok with⟨h1,_⟩|⟨_,h1|⟨h1,k,h2,h3⟩⟩
 ·cases h1
 ·exact fin us rfl (h.local (GH h1))
 ·have hu:us=[]:=rF.1 h1;obtain⟨vc,g1,g2⟩:=FI h3;simp only at g1;have h2':rds=[k]:=h2;rw[hvals]at g1;have g3:=pO (lv':=s.lv) g1 ⟨λj hj=>by rw[List.mem_singleton.1 hj,aC],λp hp=>by cases hp⟩;exact fin [] hu.symm (.inl ⟨vc,by grind,g2⟩)
theorem ng.Qv(hP:c.P=P)(hG:c.G=G){fr:Tb AV}{lv lv':Tb LB}{fs cs:List AV}(hd:∀d,o.dst=some d->d<c.n)(hw:eK ops o.guard (kS fr)=some true)
 (hop:o.op=.call cl) (hcal:cl.callee=.value fo) (ht:cG ((SS fr lv).val G fo)=some (f,fs,cs)) (hf:aH P f=true) (ho:dc (aY lv)) (ho':dc (aY lv')) (hl:kY lv lv' l)
 (hc:cu P G f (fs++cl.args.toList.map ((SS fr lv).val G)++cs) (aY lv) (.ret x (aY lv'))) :
 ng c none ops o (SS fr lv) (jT P ⟨x,l.map λq=>(q,aY lv' q),[],true,lv,o.op,[],nx⟩).e (jT P ⟨x,l.map λq=>(q,aY lv' q),[],true,lv,o.op,[],nx⟩).ok:=by
 refine ng.qo hw (λcl' h=>by grind) λs hv hok=>?_;rcases hok with⟨_,h1⟩|⟨h1,_⟩
 ·have h1':s.lv=aY lv:=h1;have hfo:fo∈o.op.operands.toList:=by rw[hop];simp[Op.operands,Call.operands,hcal]
  have hargs:cl.args.toList.map (s.val c.G)=cl.args.toList.map ((SS fr lv).val c.G):=adI λy hy=>hv y (by rw[hop];simp only[Op.operands,Call.operands,hcal];grind)
  have hsim:=cu.U3 (c:=c) (s:=s) (o:=o) (cl:=cl) (fo:=fo) (fv:=s.val c.G fo) (f:=f) (fs:=fs) (cs:=cs) (x:=x) (lv':=aY lv') hd hop hcal rfl (by grind) (by grind) (by grind) (by rw[hP,hargs,hG,h1'];exact hc)
  have:Fx.app ⟨x,vz (l.map λq=>(q,aY lv' q)),[]⟩ o.dst s=az.put ⟨s.fr,aY lv'⟩ o.dst x:=by
   unfold Fx.app;simp only;rw[h1',Yp hl ho']
  show cx c o s (Fx.app ⟨x,vz (l.map λq=>(q,aY lv' q)),[]⟩ o.dst s);rw[this];exact hsim
 ·cases h1
theorem ng.PL(h:cQ c none ops o s0 ⟨x,us,rds⟩)(hok:∀lv,ok lv->Agree s0.lv lv us rds):
 ng c none ops o s0 ⟨x,vz us,rds⟩ ok:=by
 intro s h1 h2 F β a w K Q hs hK;refine h s h1 (hok _ h2) F β a w K Q hs λF' β' a' w' h'=>hK F' β' a' w' ?_;have hl:∀k,bk s.lv (vz us) k=bk s.lv us k\/bk s.lv (vz us) k=(bk s.lv us k).un:=GN (λ_=>.inl rfl);unfold Fx.app at h'⊢;simp only at h' ⊢
 cases hd:o.dst with
 |none=>rw[hd]at h';exact aA.forget h' hl
 |some d=>rw[hd]at h';exact aA.forget h' hl
theorem FW:∀{σ:List LB}{i:Nat}{lv:Tb LB}{k:Tb LB->dI}{r:dI},P9 σ i lv k=r ->
 ∃lv',k lv'=r/\∀j:Nat,aY lv' j=if i<=j/\j<i+σ.length then(σ.getD (j-i) .hole).un else aY lv j
 |[],i,lv,k,r,h=>⟨lv,h,λj=>by grind⟩
 |b::σ,i,lv,k,r,h=>by
  have h1:(wD b λx=>Tb.Ej .hole x (pathOf i) lv λlv=>P9 σ (Nat.succ i) lv k)=r:=h;rw[BV,Tb.mg]at h1;obtain⟨lv',e1,e2⟩:=FW h1;refine⟨lv',e1,λj=>?_⟩;rw[e2 j,FT]
  by_cases hj:j=i
  ·subst hj;rw[if_neg (by omega),if_pos (by simp),aC];simp
  ·rw[aF _ _ hj]
   grind
theorem Good.done{lv:Tb LB}:Good (.done x lv nx lg):=λ_ _ h=>by cases h
theorem Cq(h:b.pass=true):b.un=b/\b.okB=true:=by
 cases b with
 |cells own fz T cs=>
  simp only[LB.pass,cy,ads]at h;simp[LB.un,LB.okB,h.1,h.2]
 |map own es=>simp only[LB.pass,ads]at h;simp[LB.un,LB.okB,h]
 |dead=>cases h
 |_=>simp[LB.un,LB.okB]
theorem Lo(hc:lP P G call){op:Op}{fr:Tb AV}{lv:Tb LB}{k:AV->List (Key×LB)->List Key->Nat->dI}
 (h:wv P G call op cl fo fr lv nx k=r) (hg:Good r) :
 ∃f fs cs x us rds nx',cG ((SS fr lv).val G fo)=some (f,fs,cs)/\aH P f=true/\k x us rds nx'=r /\
  ∀c:Ctx,c.P=P->c.G=G->cw c f (fs++cl.args.toList.map ((SS fr lv).val G)++cs) (aY lv) x us rds:=by
 unfold wv at h;obtain⟨⟨f,fs,cs⟩,h1,h2⟩:=ei h hg.ne;obtain⟨h3,h4⟩:=dJ h2 hg.ne;obtain⟨q,h5,h6⟩:=ei h4 hg.ne;obtain⟨l0,h7,h8⟩:=FW h6;simp only at h7 h5;rw[tR G fr (aY lv)]at h1;rw[qm G fr (aY lv)]at h5 h7
 cases hin:call f q.us l0 1000 [] .done .vu with
 |bad n o=>rw[hin]at h7;exact absurd h7 hg.ne
 |vu d lv' nx' lg'=>rw[hin]at h7;exact absurd h7 hg.ne
 |done x lv' n' lg=>
  rw[hin]at h7;have h9:Pr lv nx (fs++cl.args.toList.map ((SS fr lv).val G)++cs) q x lv' n' lg k=r:=h7;unfold Pr at h9;obtain⟨h10,h11⟩:=dJ h9 hg.ne;rw[cy,cy]at h10;obtain⟨⟨g1,g2⟩,g3⟩:=h10
  have hpass:∀b∈q.σ,b.pass=true:=by
   unfold Ah at g2;simp only[cy,ab3]at g2;exact g2.1.1.1.1.1.2
  have hlen:q.σ.length<=1000:=by
   unfold Ah at g2;simp only[cy]at g2;exact adE g2.2
  have hl0:aY l0=bu q.σ []:=by
   refine funext λ(j:Nat)=>?_;rw[h8 j];unfold bu
   by_cases hj:j<1000
   ·rw[if_pos hj]
    by_cases hj2:j<q.σ.length
    ·rw[if_pos ⟨ac1 _,by omega⟩,Nat.sub_zero,dW hj2];exact(Cq (hpass _ (aZ hj2))).1
    ·rw[if_neg (by omega),iy hj2];show Tb.get LB.hole .leaf _=_;exact Tb.eR _ _
   ·rw[if_neg hj,if_neg (by omega)];show Tb.get LB.hole .leaf _=_;rw[Tb.eR];simp
  have hall0:dc (aY l0):=by
   intro(j:Nat);rw[hl0];unfold bu;split
   ·by_cases hj2:j<q.σ.length
    ·rw[dW hj2];exact(Cq (hpass _ (aZ hj2))).2
    ·rw[iy hj2];rfl
   ·rfl
  have hcall:=hc f q.us l0 1000 [] .done .vu _ hin Good.done hall0;rcases hcall with⟨x',lv'',nx'',l,e1,e2,e3,e4⟩|⟨d,lv'',nx'',l,e1,_⟩
  ·simp only[dI.done.injEq,adv]at e1;obtain⟨rfl,rfl,rfl,rfl⟩:=e1
   have hlv':aY lv''=bu ((jV 0 q.σ.length).map (aY lv'')) ((jV 1000 (nx'' - 1000)).map (aY lv'')):=by
    refine funext λ(j:Nat)=>?_;have hcl:j∉l->aY lv'' j=bu q.σ [] j:=λhj=>by rw[e4 j hj,hl0]
    have hlog:j∈l->j<q.σ.length\/(1000<=j/\j<nx''):=by
     intro hj;have:=List.all_eq_true.1 g1 j hj;simp only[ad2,cy,Nat.blt]at this;rcases this with h|⟨h,h'⟩
     ·exact .inl (adE h)
     ·exact .inr ⟨adE h,adE h'⟩
    unfold bu
    by_cases hj:j<1000
    ·rw[if_pos hj]
     by_cases hj2:j<q.σ.length
     ·rw[dW (by simpa[lS]using hj2)];simp[sW]
     ·rw[iy (by simpa[lS]using hj2)];have:j∉l:=λhm=>by rcases hlog hm with h|h<;>omega
      rw[hcl this];unfold bu;grind
    ·rw[if_neg hj]
     by_cases hj2:j-1000<nx'' - 1000
     ·rw[dW (by simpa[lS]using hj2)];simp only[BH,sW]
      grind
     ·rw[iy (by simpa[lS]using hj2)];have:j∉l:=λhm=>by rcases hlog hm with h|h<;>omega
      rw[hcl this];unfold bu;grind
   have hS:aD P G f q.us q.σ (.ret x' ((jV 0 q.σ.length).map (aY lv'')) ((jV 1000 (nx'' - 1000)).map (aY lv''))):=by
    intro F β w vs hS hvl hv;rw[hl0]at e2;have:=e2 F β w vs hS hvl hv;rwa[hlv']at this
   refine⟨f,fs,cs,_,_,_,_,h1,h3,h11,λc hP hG=>?_⟩;exact cw.pass h5 g2 g3 (by rw[hP,hG];exact hS)
  grind
end
section
variable {P:Program}{G:List (List DV)}
theorem iH{α:Type}{l:List α}:Ec l=true↔l=[]:=by cases l<;>simp[Ec]
theorem J1(h:Qx k l=true):l=[k]:=by
 unfold Qx at h;split at h
 ·simp_all
 grind
theorem tJ(P:Program)(f:Rec)(d:Option Nat)(fr:Nat->AV)(lv:Key->LB):(jT P f).e.app d ⟨fr,lv⟩=⟨Nk d f.x fr,bk lv (vz f.us)⟩:=by
 show az.put ⟨fr,bk lv (vz f.us)⟩ d f.x=_;rw[uT]
theorem Mw{f g:Rec}(h:IZ P f g=true):(jT P f).apart (jT P g):=by
 unfold IZ at h;simp only[cy,ad2,ads,ab3]at h;obtain⟨⟨⟨⟨h1,h2⟩,h3⟩,h4⟩,h5⟩:=h
 have hmem:∀{us:List (Key×LB)}{k:Key},k∈(vz us).map (·.1)->∃p∈us,p.1=k:=by
  intro us k hk;rw[PG]at hk;simpa using hk
 refine⟨λha=>?_,λha=>?_,?_,?_,?_⟩
 ·rcases h1 with h1|h1
  ·have:f.all=true:=ha
   grind
  ·exact rF.2 (iH.1 h1)
 ·rcases h2 with h2|h2
  ·have:g.all=true:=ha
   grind
  ·exact rF.2 (iH.1 h2)
 ·intro k hk hk';obtain⟨p,hp,rfl⟩:=hmem hk;obtain⟨q,hq,e⟩:=hmem hk';have:=h3 p hp;rw[List.any_eq_false]at this;exact this q hq (by simp_all)
 ·intro k hk;obtain⟨p,hp,rfl⟩:=hmem hk;rcases h4 p hp with h|h
  ·left;intro hm;have hm':p.1∈g.rds:=hm;rw[pU.2 hm']at h;cases h
  ·right;exact⟨rF.2 (iH.1 h.1.1),J1 h.1.2,h.2⟩
 ·intro k hk;obtain⟨p,hp,rfl⟩:=hmem hk;rcases h5 p hp with h|h
  ·left;intro hm;have hm':p.1∈f.rds:=hm;rw[pU.2 hm']at h;cases h
  ·right;exact⟨rF.2 (iH.1 h.1.1),J1 h.1.2,h.2⟩
theorem sK{f g:Rec}(h:Rec.idle f=true\/Rec.idle g=true\/(Rec.quiet f=true/\Rec.quiet g=true)):(jT P f).apart (jT P g):=by
 have key:∀{us:List (Key×LB)},us=[]->vz us=[]:=λh=>rF.2 h
 rcases h with h|h|⟨h,h'⟩
 ·unfold Rec.idle at h;simp only[cy,ads]at h;have h1:=key (iH.1 h.1.1);have h2:=iH.1 h.1.2;refine⟨λha=>?_,λ_=>h1,?_,?_,?_⟩
  ·have:f.all=true:=ha
   grind
  ·intro k hk;have:(jT P f).e.us=[]:=h1
   grind
  ·intro k hk;have:(jT P f).e.us=[]:=h1
   grind
  ·intro k _;left;have:(jT P f).e.rds=[]:=h2
   grind
 ·unfold Rec.idle at h;simp only[cy,ads]at h;have h1:=key (iH.1 h.1.1);have h2:=iH.1 h.1.2;refine⟨λ_=>h1,λha=>?_,?_,?_,?_⟩
  ·have:g.all=true:=ha
   grind
  ·intro k _ hk;have:(jT P g).e.us=[]:=h1
   grind
  ·intro k _;left;have:(jT P g).e.rds=[]:=h2
   grind
  ·intro k hk;have:(jT P g).e.us=[]:=h1
   grind
 ·unfold Rec.quiet at h h';simp only[cy,ads]at h h';have h1:=key (iH.1 h.1);have h2:=key (iH.1 h'.1);refine⟨λ_=>h2,λ_=>h1,?_,?_,?_⟩
  ·intro k hk;have:(jT P f).e.us=[]:=h1
   grind
  ·intro k hk;have:(jT P f).e.us=[]:=h1
   grind
  ·intro k hk;have:(jT P g).e.us=[]:=h2
   grind
theorem zF{ms:List Nat}:∀{r:List Rec}{j0:Nat}{before:List (Nat×Rec)},RJ.pairs P ms r j0 before=true ->
 (∀(j:Nat) g,r[j]?=some g->∀p∈before,(ms.getD (j0+j) 0).testBit p.1=true\/(jT P p.2).apart (jT P g)) /\
 (∀(i j:Nat) f g,i<j->r[i]?=some f->r[j]?=some g->(ms.getD (j0+j) 0).testBit (j0+i)=true\/(jT P f).apart (jT P g))
 |[],j0,before,h=>⟨λj g hg=>by simp at hg,λi j f g _ hf=>by simp at hf⟩
 |a::r,j0,before,h=>by
  unfold RJ.pairs at h
  cases hi:Rec.idle a with
  |true=>
   rw[hi]at h;simp only[cond_true]at h;obtain⟨h1,h2⟩:=zF h;refine⟨λj g hg p hp=>?_,λi j f g hij hf hg=>?_⟩
   ·cases j with
    |zero=>simp only[ae7,ah]at hg;subst hg;exact .inr (sK (.inr (.inl hi)))
    |succ j=>
     grind
   ·cases j with
    |zero=>omega
    |succ j=>
     cases i with
     |zero=>simp only[ae7,ah]at hf;subst hf;exact .inr (sK (.inl hi))
     |succ i=>
      grind
  |false=>
   rw[hi]at h;simp only[cond_false,cy,ab3,ad2]at h;obtain⟨h0,h⟩:=h;obtain⟨h1,h2⟩:=zF h;refine⟨λj g hg p hp=>?_,λi j f g hij hf hg=>?_⟩
   ·cases j with
    |zero=>
     simp only[ae7,ah]at hg;subst hg;rcases h0 p hp with(h3|h3)|h3
     ·exact .inr (sK (.inr (.inr ⟨h3.2,h3.1⟩)))
     ·grind
     ·exact .inr (Mw h3)
    |succ j=>
     grind
   ·cases j with
    |zero=>omega
    |succ j=>
     have e:j0+1+j=j0+(j+1):=by omega
     cases i with
     |zero=>
      simp only[ae7,ah]at hf;subst hf;have:=h1 j g (by grind) (j0,a) (ad9 ..)
      grind
     |succ i=>
      grind
theorem p7{call:eV}(hc:lP P G call){ops:Array Oper}:∀{os:List Oper}{fr:Tb AV}{lv:Tb LB}{nx:Nat}{lg:List Key}{acc:List Rec}{k:List Rec->Tb AV->Tb LB->Nat->List Key->dI}{r:dI},
 jC P G call ops os fr lv nx lg acc k=r->Good r->dc (aY lv) ->
 ∃(rs:List Rec) (fr':Tb AV) (lv':Tb LB) (nx':Nat) (l:List Key),k (rs.reverse++acc) fr' lv' nx' (l++lg)=r/\dc (aY lv')/\kY lv lv' l/\∀c:Ctx,c.P=P->c.G=G->cR c.n os=true->jL c none ops os (rs.map (jT P)) (SS fr lv) (SS fr' lv')
 |[],fr,lv,nx,lg,acc,k,r,h,hg,ho=>⟨[],fr,lv,nx,[],h,ho,kY.refl _,λc _ _ _=>rfl⟩
 |o::os,fr,lv,nx,lg,acc,k,r,h,hg,ho=>by
  have h0:(nw (eK ops o.guard (kS fr)) (.bad 8 [o.op]) λb=>
   fG b (fh o.dst .undef fr λfr=>jC P G call ops os fr lv nx lg (⟨.undef,[],[],false,lv,o.op,[],nx⟩::acc) k)
    (V9.rec (motive:=λ_=>dI)
     (λ_=>.bad 9 [o.op])
     (λcl fo=>fG (SB ops)
      (xA P G call o.op cl fo fr lv nx [] (λx lv' nx' lg'=>eP x λx=>fh o.dst x fr λfr=>jC P G call ops os fr lv' nx' (lg'++lg) (⟨x,lg'.map λq=>(q,aY lv' q),[],true,lv,o.op,[],nx⟩::acc) k) (λ_ _ _ _=>.bad 10 [o.op]))
      (wv P G call o.op cl fo fr lv nx λx us rds nx'=>eP x λx=>fh o.dst x fr λfr=>B4 us lv lg λlv' lg=>jC P G call ops os fr lv' nx' lg (⟨x,us,rds,false,lv,o.op,[],nx⟩::acc) k))
     (SY P o.op (iC G fr o.op.operands.toList) lv nx λx us rds=>Qk nx us λnx'=>eP x λx=>fh o.dst x fr λfr'=>B4 us lv lg λlv' lg=>jC P G call ops os fr' lv' nx' lg (⟨x,us,rds,false,lv,o.op,iC G fr o.op.operands.toList,nx⟩::acc) k)
     (vJ o.op)))=r:=h
  obtain⟨b,hw,h1⟩:=ei h0 hg.ne
  cases b with
  |false=>
   have h1':fh o.dst .undef fr (λfr=>jC P G call ops os fr lv nx lg (⟨.undef,[],[],false,lv,o.op,[],nx⟩::acc) k)=r:=h1;obtain⟨fr1,h2,e1⟩:=lG h1';obtain⟨rs,fr',lv',nx',l,q1,q2,q3,q4⟩:=p7 hc h2 hg ho;refine⟨⟨.undef,[],[],false,lv,o.op,[],nx⟩::rs,fr',lv',nx',l,by grind,q2,q3,λc hP hG hd=>?_⟩;obtain⟨hd1,hd2⟩:=lq hd;refine⟨ng.skip hd1 hw,rfl,?_⟩
   have:(jT P ⟨.undef,[],[],false,lv,o.op,[],nx⟩).e.app o.dst (SS fr lv)=SS fr1 lv:=by
    unfold SS;rw[tJ,<-e1];rfl
   grind
  |true=>
   cases ek:vJ o.op with
   |vu x=>rw[ek]at h1;exact absurd h1 hg.ne
   |call cl fo=>
    rw[ek]at h1;obtain⟨hop,hcal⟩:=BX ek
    have h1':fG (SB ops)
     (xA P G call o.op cl fo fr lv nx [] (λx lv' nx' lg'=>eP x λx=>fh o.dst x fr λfr=>jC P G call ops os fr lv' nx' (lg'++lg) (⟨x,lg'.map λq=>(q,aY lv' q),[],true,lv,o.op,[],nx⟩::acc) k) (λ_ _ _ _=>.bad 10 [o.op]))
     (wv P G call o.op cl fo fr lv nx λx us rds nx'=>eP x λx=>fh o.dst x fr λfr=>B4 us lv lg λlv' lg=>jC P G call ops os fr lv' nx' lg (⟨x,us,rds,false,lv,o.op,[],nx⟩::acc) k)=r:=h1
    cases hi:SB ops with
    |false=>
     rw[hi]at h1';have h2:xA P G call o.op cl fo fr lv nx [] (λx lv' nx' lg'=>eP x λx=>fh o.dst x fr λfr=>jC P G call ops os fr lv' nx' (lg'++lg) (⟨x,lg'.map λq=>(q,aY lv' q),[],true,lv,o.op,[],nx⟩::acc) k) (λ_ _ _ _=>.bad 10 [o.op])=r:=h1';obtain⟨f,fs,cs,c1,c2,c3⟩:=FL hc h2 hg ho;rcases c3 with⟨x,lv1,nx1,l1,d1,d2,d3,d4⟩|⟨d,lv1,nx1,l1,d1,_⟩
     ·rw[jP,adv]at d1;have d1':fh o.dst x fr (λfr=>jC P G call ops os fr lv1 nx1 (l1++lg) (⟨x,l1.map λq=>(q,aY lv1 q),[],true,lv,o.op,[],nx⟩::acc) k)=r:=d1;obtain⟨fr1,h3,e1⟩:=lG d1';obtain⟨rs,fr',lv',nx',l,q1,q2,q3,q4⟩:=p7 hc h3 hg d3;refine⟨⟨x,l1.map λq=>(q,aY lv1 q),[],true,lv,o.op,[],nx⟩::rs,fr',lv',nx',l++l1,by grind,q2,d4.trans q3,λc hP hG hd=>?_⟩;obtain⟨hd1,hd2⟩:=lq hd;refine⟨ng.Qv hP hG hd1 hw hop hcal c1 c2 ho d3 d4 d2,rfl,?_⟩
      have:(jT P ⟨x,l1.map λq=>(q,aY lv1 q),[],true,lv,o.op,[],nx⟩).e.app o.dst (SS fr lv)=SS fr1 lv1:=by
       unfold SS;rw[tJ,Yp d4 d3,<-e1]
      grind
     ·exact absurd d1 hg.ne
    |true=>
     rw[hi]at h1';have h2:wv P G call o.op cl fo fr lv nx (λx us rds nx'=>eP x λx=>fh o.dst x fr λfr=>B4 us lv lg λlv' lg=>jC P G call ops os fr lv' nx' lg (⟨x,us,rds,false,lv,o.op,[],nx⟩::acc) k)=r:=h1';obtain⟨f,fs,cs,x,us,rds,nx1,c1,c2,d1,c3⟩:=Lo hc h2 hg;rw[jP]at d1;have d1':fh o.dst x fr (λfr=>B4 us lv lg λlv' lg=>jC P G call ops os fr lv' nx1 lg (⟨x,us,rds,false,lv,o.op,[],nx⟩::acc) k)=r:=d1;obtain⟨fr1,h3,e1⟩:=lG d1';have h3':B4 us lv lg (λlv' lg=>jC P G call ops os fr1 lv' nx1 lg (⟨x,us,rds,false,lv,o.op,[],nx⟩::acc) k)=r:=h3;obtain⟨lv1,l1,h5,e2,e3,e4⟩:=zj h3' hg ho;obtain⟨rs,fr',lv',nx',l,q1,q2,q3,q4⟩:=p7 hc h5 hg e3;refine⟨⟨x,us,rds,false,lv,o.op,[],nx⟩::rs,fr',lv',nx',l++l1,by grind,q2,e4.trans q3,λc hP hG hd=>?_⟩;obtain⟨hd1,hd2⟩:=lq hd;have heff:cQ c none ops o (SS fr lv) ⟨x,us,rds⟩:=cQ.call hd1 hw hop hcal (by rw[hG];exact c1) (by grind) (by rw[hG];exact c3 c hP hG);refine⟨ng.PL heff (λlv' hok=>?_),rfl,?_⟩
     ·rcases hok with⟨h1,_⟩|⟨_,h1|⟨h1,j,h2,h3⟩⟩
      ·cases h1
      ·exact GH h1
      ·exfalso;obtain⟨vc,g1,_⟩:=FI h3;simp only at g1;rw[hop]at g1;have g2:lW P cl [] (au (aY lv) j (lv' j)) nx=some (x,[],[j],vc):=g1;unfold lW at g2;grind
     ·have:(jT P ⟨x,us,rds,false,lv,o.op,[],nx⟩).e.app o.dst (SS fr lv)=SS fr1 lv1:=by
       unfold SS;rw[tJ,<-e1,<-e2]
      grind
   |plain=>
    rw[ek]at h1;have h1':SY P o.op (iC G fr o.op.operands.toList) lv nx (λx us rds=>Qk nx us λnx'=>eP x λx=>fh o.dst x fr λfr'=>B4 us lv lg λlv' lg=>jC P G call ops os fr' lv' nx' lg (⟨x,us,rds,false,lv,o.op,iC G fr o.op.operands.toList,nx⟩::acc) k)=r:=h1;obtain⟨x,us,rds,h2,hdo⟩:=OV h1' hg;have h2':Qk nx us (λnx'=>eP x λx=>fh o.dst x fr λfr'=>B4 us lv lg λlv' lg=>jC P G call ops os fr' lv' nx' lg (⟨x,us,rds,false,lv,o.op,iC G fr o.op.operands.toList,nx⟩::acc) k)=r:=h2;obtain⟨nx1,h3⟩:=Hu h2';rw[jP]at h3;obtain⟨fr1,h4,e1⟩:=lG h3;have h4':B4 us lv lg (λlv' lg=>jC P G call ops os fr1 lv' nx1 lg (⟨x,us,rds,false,lv,o.op,iC G fr o.op.operands.toList,nx⟩::acc) k)=r:=h4;obtain⟨lv1,l1,h5,e2,e3,e4⟩:=zj h4' hg ho;obtain⟨rs,fr',lv',nx',l,q1,q2,q3,q4⟩:=p7 hc h5 hg e3;refine⟨⟨x,us,rds,false,lv,o.op,iC G fr o.op.operands.toList,nx⟩::rs,fr',lv',nx',l++l1,by grind,q2,e4.trans q3,λc hP hG hd=>?_⟩;obtain⟨hd1,hd2⟩:=lq hd;refine⟨ng.plain hP hG hd1 hw hdo,rfl,?_⟩
    have:(jT P ⟨x,us,rds,false,lv,o.op,iC G fr o.op.operands.toList,nx⟩).e.app o.dst (SS fr lv)=SS fr1 lv1:=by
     unfold SS;rw[tJ,<-e1,<-e2]
    grind
def pS(P:Program)(G:List (List DV))(N:Nat)(x:Code)(s s':az)(e:Ex):Prop:=
 ∀c:Ctx,c.P=P->c.G=G->c.n=N->∀F β a w,aA c F β s a w->x.wpIn (rM none) 0 c.P (λex a' w'=>∃F' β',aA c F' β' s' a' w'/\Fi e ex F' w') a w
def mJ(P:Program)(G:List (List DV))(x:Code)(run:RunT):Prop:=∀call,lP P G call->∀N fr lv nx lg k r,run call N fr lv nx lg k=r->Good r->dc (aY lv) ->
 ∃e fr' lv' nx' l,k e fr' lv' nx' (l++lg)=r/\dc (aY lv')/\kY lv lv' l/\pS P G N x (SS fr lv) (SS fr' lv') e
theorem Lv(hm:P.follows .mixedOrders=true)(id:Nat)(ops:Array Oper)(dr:Bool):mJ P G (.region id ops dr) (GO P G id ops dr):=by
 intro call hc N fr lv nx lg k r h hg ho
 have h0:fG (cR N ops.toList) (.bad 11 []) (Bool.rec (motive:=λ_=>dI) (Ak P G call ops ops.toList fr lv nx lg k)
  (fG (iB ops) (.bad 12 []) (jC P G call ops ops.toList fr lv nx lg [] λacc fr lv nx lg=>fG (RJ P (gY ops.toList []) acc.reverse) (.bad 13 (ops.toList.map (·.op))) (k .normal fr lv nx lg))) dr)=r:=h
 obtain⟨hd,h1⟩:=dJ h0 hg.ne
 cases dr with
 |false=>
  obtain⟨e,fr',lv',nx',l,q1,q2,q3,q4⟩:=yF hc h1 hg ho;refine⟨e,fr',lv',nx',l,q1,q2,q3,?_⟩;intro c hP hG hn F β a w hs;refine wpIn_region ?_;have:=q4 c 0 _ hP hG (by grind) rfl (λF' β' a' w' ex h1 h2=>(⟨F',β',h1,h2⟩:∃F' β',aA c F' β' (SS fr' lv') a' w'/\Fi e ex F' w')) F β a w hs;rw[List.range_eq_range'];omega
 |true=>
  obtain⟨hst,h2⟩:=dJ h1 hg.ne;obtain⟨rs,fr',lv',nx',l,q1,q2,q3,q4⟩:=p7 hc h2 hg ho;rw[adv,List.reverse_reverse]at q1;obtain⟨hi,h3⟩:=dJ q1 hg.ne;refine⟨.normal,fr',lv',nx',l,h3,q2,q3,?_⟩;intro c hP hG hn F β a w hs;have hch:=q4 c hP hG (by grind);have hp:=zF (P:=P) (ms:=gY ops.toList []) (r:=rs) (j0:=0) (before:=[]) hi;unfold iB at hst;simp only[cy,ab3,aeC]at hst;obtain⟨hs1,hs2⟩:=hst;have hanc:∀i j,((gY ops.toList []).getD j 0).testBit i=true->wT ops i j:=jw ops.toList [] (by simp) (λi j h=>by simp at h)
  refine jL.draw (by grind) hch (λi o ho ed hed hb=>qd ops.toList 0 rfl hs1 i o (ac1 _) ho ed hed hb) (λi j o o' f g hij ho ho' hf hg=>?_)
   (λF' β' a' w' h'=>⟨F',β',h',rfl⟩) hs
  grind
theorem pS.mono{x:Code}{e:Ex}(h:pS P G N x s s' e)(hP:c.P=P)(hG:c.G=G)(hn:c.n=N){Q:Exit->Act->World->Prop}
 (hQ:∀F' β' a' w' ex,aA c F' β' s' a' w'->Fi e ex F' w'->Q ex a' w')(hs:aA c F β s a w):x.wpIn (rM none) 0 c.P Q a w:=
 wpIn_mono (h c hP hG hn F β a w hs) λex a' w' ⟨F',β',h1,h2⟩=>hQ F' β' a' w' ex h1 h2
theorem UI{x y:Code}{a b:RunT}(ha:mJ P G x a)(hb:mJ P G y b):mJ P G (.seq x y) (Tn x y a b):=by
 intro call hc N fr lv nx lg k r h hg ho;obtain⟨e,fr1,lv1,nx1,l1,q1,q2,q3,q4⟩:=ha call hc N fr lv nx lg _ r h hg ho
 cases e with
 |normal=>
  have q1':b call N fr1 lv1 nx1 (l1++lg) k=r:=q1;obtain⟨e,fr',lv',nx',l,p1,p2,p3,p4⟩:=hb call hc N fr1 lv1 nx1 _ k r q1' hg q2;refine⟨e,fr',lv',nx',l++l1,by grind,p2,q3.trans p3,?_⟩;intro c hP hG hn F β ac w hs;refine wpIn_seq (q4.mono hP hG hn (λF' β' a' w' ex h1 h2=>?_) hs);have:ex=.normal:=h2;subst this;exact p4 c hP hG hn F' β' a' w' h1
 |exit id=>
  refine⟨.exit id,fr1,lv1,nx1,l1,q1,q2,q3,λc hP hG hn F β ac w hs=>wpIn_seq (q4.mono hP hG hn (λF' β' a' w' ex h1 h2=>?_) hs)⟩;have:ex=.exit id:=h2;subst this;exact⟨F',β',h1,rfl⟩
 |goto id=>
  refine⟨.goto id,fr1,lv1,nx1,l1,q1,q2,q3,λc hP hG hn F β ac w hs=>wpIn_seq (q4.mono hP hG hn (λF' β' a' w' ex h1 h2=>?_) hs)⟩;have:ex=.goto id:=h2;subst this;exact⟨F',β',h1,rfl⟩
 |ret=>
  refine⟨.ret,fr1,lv1,nx1,l1,q1,q2,q3,λc hP hG hn F β ac w hs=>wpIn_seq (q4.mono hP hG hn (λF' β' a' w' ex h1 h2=>?_) hs)⟩;have:ex=.ret:=h2;subst this;exact⟨F',β',h1,rfl⟩
 |panic d=>
  refine⟨.panic d,fr1,lv1,nx1,l1,q1,q2,q3,λc hP hG hn F β ac w hs=>wpIn_seq (q4.mono hP hG hn (λF' β' a' w' ex h1 h2=>?_) hs)⟩;obtain⟨v,rfl,hv⟩:=h2;exact⟨F',β',h1,v,rfl,hv⟩
theorem Rt{o:Operand}{x y:Code}{a b:RunT}(ha:mJ P G x a)(hb:mJ P G y b):mJ P G (.cond o x y) (MN G o x y a b):=by
 intro call hc N fr lv nx lg k r h hg ho;have h0:MK (Bd G fr o) (b call N fr lv nx lg k) (a call N fr lv nx lg k)=r:=h;unfold MK at h0;split at h0
 ·rename_i t ht
  rw[tR G fr (aY lv)]at ht
  cases t with
  |false=>
   obtain⟨e,fr',lv',nx',l,p1,p2,p3,p4⟩:=hb call hc N fr lv nx lg k r h0 hg ho;refine⟨e,fr',lv',nx',l,p1,p2,p3,λc hP hG hn F β ac w hs=>?_⟩;have hv:=hs.val o;have ht':(SS fr lv).val c.G o=.c (.d (.bool false)):=by rw[hG];exact ht
   rw[ht']at hv;exact wpIn_cond_false (Vw.sG hv) (p4 c hP hG hn F β ac w hs)
  |true=>
   obtain⟨e,fr',lv',nx',l,p1,p2,p3,p4⟩:=ha call hc N fr lv nx lg k r h0 hg ho;refine⟨e,fr',lv',nx',l,p1,p2,p3,λc hP hG hn F β ac w hs=>?_⟩;have hv:=hs.val o;have ht':(SS fr lv).val c.G o=.c (.d (.bool true)):=by rw[hG];exact ht
   rw[ht']at hv;exact wpIn_cond_true (Vw.sG hv) (p4 c hP hG hn F β ac w hs)
 ·exact absurd h0 hg.ne
theorem MJ{x:Code}{a:RunT}(ha:mJ P G x a):mJ P G (.block id x) (J9 id x a):=by
 intro call hc N fr lv nx lg k r h hg ho;obtain⟨e,fr1,lv1,nx1,l1,q1,q2,q3,q4⟩:=ha call hc N fr lv nx lg _ r h hg ho
 cases e with
 |normal=>
  refine⟨.normal,fr1,lv1,nx1,l1,q1,q2,q3,λc hP hG hn F β ac w hs=>wpIn_block (q4.mono hP hG hn (λF' β' a' w' ex h1 h2=>?_) hs)⟩;have:ex=.normal:=h2;subst this;exact⟨F',β',h1,rfl⟩
 |exit i=>
  have q1':Bool.rec (motive:=λ_=>dI) (k (.exit i) fr1 lv1 nx1 (l1++lg)) (k .normal fr1 lv1 nx1 (l1++lg)) (Nat.beq i id)=r:=q1
  cases hb:Nat.beq i id with
  |true=>
   rw[hb]at q1';have:=aen hb;subst this;refine⟨.normal,fr1,lv1,nx1,l1,q1',q2,q3,λc hP hG hn F β ac w hs=>wpIn_block (q4.mono hP hG hn (λF' β' a' w' ex h1 h2=>?_) hs)⟩;have:ex=.exit i:=h2;subst this;simp only[Exit.inBlock,if_true];exact⟨F',β',h1,rfl⟩
  |false=>
   rw[hb]at q1';have hne:=Nat.ne_of_beq_eq_false hb;refine⟨.exit i,fr1,lv1,nx1,l1,q1',q2,q3,λc hP hG hn F β ac w hs=>wpIn_block (q4.mono hP hG hn (λF' β' a' w' ex h1 h2=>?_) hs)⟩;have:ex=.exit i:=h2;subst this;simp only[Exit.inBlock,if_neg hne]
   grind
 |goto i=>
  refine⟨.goto i,fr1,lv1,nx1,l1,q1,q2,q3,λc hP hG hn F β ac w hs=>wpIn_block (q4.mono hP hG hn (λF' β' a' w' ex h1 h2=>?_) hs)⟩;have:ex=.goto i:=h2;subst this;exact⟨F',β',h1,rfl⟩
 |ret=>
  refine⟨.ret,fr1,lv1,nx1,l1,q1,q2,q3,λc hP hG hn F β ac w hs=>wpIn_block (q4.mono hP hG hn (λF' β' a' w' ex h1 h2=>?_) hs)⟩;have:ex=.ret:=h2;subst this;exact⟨F',β',h1,rfl⟩
 |panic d=>
  refine⟨.panic d,fr1,lv1,nx1,l1,q1,q2,q3,λc hP hG hn F β ac w hs=>wpIn_block (q4.mono hP hG hn (λF' β' a' w' ex h1 h2=>?_) hs)⟩;obtain⟨v,rfl,hv⟩:=h2;exact⟨F',β',h1,v,rfl,hv⟩
theorem RH{x:Code}{a:RunT}(ha:mJ P G x a):mJ P G (.loop x) (M5 x a):=by
 intro call hc N fr lv nx lg k r h hg ho
 have key:∀m (fr:Tb AV) (lv:Tb LB) (nx:Nat) (lg:List Key),PT a call N m fr lv nx lg k=r->dc (aY lv) ->
  ∃e fr' lv' nx' l,k e fr' lv' nx' (l++lg)=r/\dc (aY lv')/\kY lv lv' l /\
   ∀c:Ctx,c.P=P->c.G=G->c.n=N->∀F β ac w,aA c F β (SS fr lv) ac w->Code.roundsIn (rM none) 0 c.P x (λex a' w'=>∃F' β',aA c F' β' (SS fr' lv') a' w'/\Fi e ex F' w') m ac w:=by
  intro m
  induction m with
  |zero=>intro fr lv nx lg h _;exact absurd h hg.ne
  |succ m ih=>
   intro fr lv nx lg h ho;obtain⟨e,fr1,lv1,nx1,l1,q1,q2,q3,q4⟩:=ha call hc N fr lv nx lg _ r h hg ho
   cases e with
   |normal=>
    have q1':PT a call N m fr1 lv1 nx1 (l1++lg) k=r:=q1;obtain⟨e,fr',lv',nx',l,p1,p2,p3,p4⟩:=ih fr1 lv1 nx1 _ q1' q2;refine⟨e,fr',lv',nx',l++l1,by grind,p2,q3.trans p3,λc hP hG hn F β ac w hs=>?_⟩;rw[roundsIn_succ];refine q4.mono hP hG hn (λF' β' a' w' ex h1 h2=>?_) hs;have:ex=.normal:=h2;subst this;exact p4 c hP hG hn F' β' a' w' h1
   |exit i=>
    refine⟨.exit i,fr1,lv1,nx1,l1,q1,q2,q3,λc hP hG hn F β ac w hs=>?_⟩;rw[roundsIn_succ];refine q4.mono hP hG hn (λF' β' a' w' ex h1 h2=>?_) hs;have:ex=.exit i:=h2;subst this;exact⟨F',β',h1,rfl⟩
   |goto i=>
    refine⟨.goto i,fr1,lv1,nx1,l1,q1,q2,q3,λc hP hG hn F β ac w hs=>?_⟩;rw[roundsIn_succ];refine q4.mono hP hG hn (λF' β' a' w' ex h1 h2=>?_) hs;have:ex=.goto i:=h2;subst this;exact⟨F',β',h1,rfl⟩
   |ret=>
    refine⟨.ret,fr1,lv1,nx1,l1,q1,q2,q3,λc hP hG hn F β ac w hs=>?_⟩;rw[roundsIn_succ];refine q4.mono hP hG hn (λF' β' a' w' ex h1 h2=>?_) hs;have:ex=.ret:=h2;subst this;exact⟨F',β',h1,rfl⟩
   |panic d=>
    refine⟨.panic d,fr1,lv1,nx1,l1,q1,q2,q3,λc hP hG hn F β ac w hs=>?_⟩;rw[roundsIn_succ];refine q4.mono hP hG hn (λF' β' a' w' ex h1 h2=>?_) hs;obtain⟨v,rfl,hv⟩:=h2;exact⟨F',β',h1,v,rfl,hv⟩
 obtain⟨e,fr',lv',nx',l,p1,p2,p3,p4⟩:=key 1000000 fr lv nx lg h ho;exact⟨e,fr',lv',nx',l,p1,p2,p3,λc hP hG hn F β ac w hs=>wpIn_loop_rounds _ (p4 c hP hG hn F β ac w hs)⟩
theorem Rl(hm:P.follows .mixedOrders=true)(x:Code):mJ P G x (runK P G x):=by
 have leaf:∀{y:Code}{e:Ex},(∀c:Ctx,∀ex,e=ex->True)->(∀(c:Ctx) (s:az) F β a w,aA c F β s a w->y.wpIn (rM none) 0 c.P (λex a' w'=>∃F' β',aA c F' β' s a' w'/\Fi e ex F' w') a w) ->
  mJ P G y (λ_ _ fr lv nx lg k=>k e fr lv nx lg):=by
  intro y e _ hy call hc N fr lv nx lg k r h hg ho;exact⟨e,fr,lv,nx,[],h,ho,kY.refl _,λc _ _ _ F β a w hs=>hy c _ F β a w hs⟩
 have bad:∀y:Code,mJ P G y JZ:=λy call hc N fr lv nx lg k r h hg ho=>absurd h hg.ne
 induction x with
 |skip=>exact leaf (e:=.normal) (λ_ _ _=>trivial) λc s F β a w hs=>wpIn_skip ⟨F,β,hs,rfl⟩
 |region id ops dr=>exact Lv hm id ops dr
 |seq a b iha ihb=>exact UI iha ihb
 |cond o a b iha ihb=>exact Rt iha ihb
 |block id a iha=>exact MJ iha
 |loop a iha=>exact RH iha
 |rangeFunc f ps a b _ _=>exact bad _
 |exit id=>exact leaf (e:=.exit id) (λ_ _ _=>trivial) λc s F β a w hs=>wpIn_exit ⟨F,β,hs,rfl⟩
 |scope a _=>exact bad _
 |label l=>exact leaf (e:=.normal) (λ_ _ _=>trivial) λc s F β a w hs=>wpIn_label ⟨F,β,hs,rfl⟩
 |goto l=>exact leaf (e:=.goto l) (λ_ _ _=>trivial) λc s F β a w hs=>wpIn_goto ⟨F,β,hs,rfl⟩
 |ret=>exact leaf (e:=.ret) (λ_ _ _=>trivial) λc s F β a w hs=>wpIn_ret ⟨F,β,hs,rfl⟩
 |refuse w=>exact bad _
theorem Gm:∀{us:List AV}{i:Nat}{fr:Tb AV}{k:Tb AV->dI}{r:dI},Oj us i fr k=r ->
 ∃fr',k fr'=r/\∀j:Nat,kS fr' j=if i<=j/\j<i+us.length then us.getD (j-i) .undef else kS fr j
 |[],i,fr,k,r,h=>⟨fr,h,λj=>by grind⟩
 |x::us,i,fr,k,r,h=>by
  have h1:(Tb.Ej .undef x (pathOf i) fr λfr=>Oj us (Nat.succ i) fr k)=r:=h;rw[Tb.mg]at h1;obtain⟨fr',e1,e2⟩:=Gm h1;refine⟨fr',e1,λj=>?_⟩;rw[e2 j,GP]
  by_cases hj:j=i
  ·subst hj;rw[if_neg (by omega),if_pos (by simp),aC];simp
  ·rw[aF _ _ hj]
   grind
theorem pS.aw{x:Code}{e:Ex}(h:pS P G N x s s' e)(hP:c.P=P)(hG:c.G=G)(hn:c.n=N)(hQ:Q e s' 0):AW c none x s κ Q:=
 λF β a w hs=>h.mono hP hG hn (λF' β' a' w' ex h1 h2=>⟨e,s',0,F',β',hQ,h1,h2⟩) hs
theorem RP(hm:P.follows .mixedOrders=true)(hc:lP P G call):lP P G (Sa P G call):=by
 intro f us lv nx lg kr kp r h hg ho;unfold Sa at h;obtain⟨fn,h1,h2⟩:=ei h hg.ne;obtain⟨code,h3,h4⟩:=ei h2 hg.ne;obtain⟨h5,h6⟩:=dJ h4 hg.ne;obtain⟨fr,h7,h8⟩:=Gm h6;obtain⟨e,fr',lv',nx',l,q1,q2,q3,q4⟩:=Rl hm code call hc fn.ntmps fr lv nx lg _ r h7 hg ho
 have hfr:kS fr=λt=>us.getD t .undef:=by
  funext j;rw[h8 j]
  by_cases hj:j<us.length
  ·grind
  ·rw[if_neg (by omega),iy hj];show Tb.get AV.undef .leaf _=_;exact Tb.eR _ _
 have hSS:SS fr lv=⟨λt=>us.getD t .undef,aY lv⟩:=by unfold SS;rw[hfr]
 rw[hSS]at q4
 cases e with
 |normal=>
  have q1':(nw (eD P ⟨kS fr',aY lv'⟩ fn.results.toList) (.bad 20 []) λx=>eP x λx=>kr x lv' nx' (l++lg))=r:=q1;obtain⟨x,h9,h10⟩:=ei q1' hg.ne;rw[jP]at h10;exact .inl ⟨x,lv',nx',l,h10,cu.o9 (κ:=0) h1 h3 (adE h5) λc hP hG hn _=>q4.aw hP hG hn ⟨by rw[hP];exact h9,rfl⟩,q2,q3⟩
 |ret=>
  have q1':(nw (eD P ⟨kS fr',aY lv'⟩ fn.results.toList) (.bad 23 []) λx=>eP x λx=>kr x lv' nx' (l++lg))=r:=q1;obtain⟨x,h9,h10⟩:=ei q1' hg.ne;rw[jP]at h10;exact .inl ⟨x,lv',nx',l,h10,cu.o9 (κ:=0) h1 h3 (adE h5) λc hP hG hn _=>q4.aw hP hG hn ⟨by rw[hP];exact h9,rfl⟩,q2,q3⟩
 |panic d=>
  have q1':kp d lv' nx' (l++lg)=r:=q1;exact .inr ⟨d,lv',nx',l,q1',cu.o9 (κ:=0) h1 h3 (adE h5) λc hP hG hn _=>q4.aw hP hG hn ⟨rfl,rfl⟩,q2,q3⟩
 |exit i=>exact absurd q1 hg.ne
 |goto i=>exact absurd q1 hg.ne
structure yJ(P:Program)(G:List (List DV))(sp:Tb Spec)(ft:TypeId):Prop where
 pure:∀f g us x,sp.get .body (pathOf f)=.pure g->g us=some x->∀lv,dc lv->cu P G f us lv (.ret x lv)
 yq:∀f,sp.get .body (pathOf f)=.caught->∀v t fs cs lv lv' x,cG v=some (t,fs,cs)->aH P t=true->dc lv->cu P G t (fs++cs) lv (.ret x lv')->cu P G f [v] lv (.ret (.c (.d (.int .i64 0))) lv')
 yy:∀f,sp.get .body (pathOf f)=.caught->∀v t fs cs lv lv' n,cG v=some (t,fs,cs)->aH P t=true->dc lv->cu P G t (fs++cs) lv (.vu (.iface ft (.agg [.int .i64 n])) lv')->cu P G f [v] lv (.ret (.c (.d (.int .i64 n))) lv')
 JA:∀f g,sp.get .body (pathOf f)=.self g->∀lv k off T cs r,dc lv->g T off cs.length=true->lv k=.cells false false T cs->cs.drop off=.d .nilp::r->cu P G f [.c (.ptr k off)] lv (.ret (.tup []) (au lv k (.cells false false T (aj cs off [.ptr k off]))))
 Ku:∀f g,sp.get .body (pathOf f)=.self g->∀lv k off T cs r,dc lv->g T off cs.length=true->lv k=.cells false false T cs->cs.drop off=.ptr k off::r->cu P G f [.c (.ptr k off)] lv (.ret (.tup []) lv)
theorem HK(hm:P.follows .mixedOrders=true){sp:Tb Spec}{ft:TypeId}(hsp:yJ P G sp ft):∀n,lP P G (V4 P G sp ft n)
 |0=>λf us lv nx lg kr kp r h hg ho=>absurd h hg.ne
 |n+1=>λf us lv nx lg kr kp r h hg ho=>by
  have ih:=HK hm hsp n;have h0:Spec.rec (motive:=λ_=>dI) (Sa P G (V4 P G sp ft n) f us lv nx lg kr kp) (λg=>nw (g us) (.bad 29 []) λx=>eP x λx=>kr x lv nx lg) (yh P ft (V4 P G sp ft n) us lv nx lg kr) (λg=>Kf g us lv nx lg kr) (sp.get .body (pathOf f))=r:=h
  cases es:sp.get .body (pathOf f)with
  |body=>rw[es]at h0;exact RP hm ih f us lv nx lg kr kp r h0 hg ho
  |pure g=>
   rw[es]at h0;obtain⟨x,h1,h2⟩:=ei h0 hg.ne;rw[jP]at h2;exact .inl ⟨x,lv,nx,[],h2,hsp.pure f g us x es h1 _ ho,ho,kY.refl _⟩
  |caught=>
   rw[es]at h0;have h1:yh P ft (V4 P G sp ft n) us lv nx lg kr=r:=h0;unfold yh at h1;split at h1
   ·rename_i v
    obtain⟨⟨t,fs,cs⟩,h2,h3⟩:=ei h1 hg.ne;obtain⟨h4,h5⟩:=dJ h3 hg.ne;rcases ih _ _ _ _ _ _ _ _ h5 hg ho with⟨x,lv',nx',l,q1,q2,q3,q4⟩|⟨d,lv',nx',l,q1,q2,q3,q4⟩
    ·exact .inl ⟨_,lv',nx',l,q1,hsp.yq f es v t fs cs _ _ x h2 h4 ho q2,q3,q4⟩
    ·split at q1
     ·rename_i t' m
      obtain⟨hb,q5⟩:=dJ q1 hg.ne;have:=aen hb;subst this;exact .inl ⟨_,lv',nx',l,q5,hsp.yy f es v t fs cs _ _ m h2 h4 ho q2,q3,q4⟩
     ·exact absurd q1 hg.ne
   ·exact absurd h1 hg.ne
  |self T0=>
   rw[es]at h0;have h1:Kf T0 us lv nx lg kr=r:=h0;unfold Kf at h1;split at h1
   ·rename_i k off
    split at h1
    ·rename_i own T cs hk
     have hown:own=false:=by have:=ho k;rw[hk]at this;simp only[LB.okB,cy,ads]at this;exact this.1
     subst hown;obtain⟨hb0,h6⟩:=dJ h1 hg.ne;clear h1;split at h6
     ·rename_i y hcs
      obtain⟨lv',l,e1,e2,e3,e4⟩:=zj h6 hg ho;refine .inl ⟨_,lv',nx,l,e1,?_,e3,e4⟩;have:=hsp.JA f _ es (aY lv) k off T cs y ho hb0 hk hcs;have e5:aY lv'=au (aY lv) k (.cells false false T (aj cs off [.ptr k off])):=by rw[e2];rfl
      grind
     ·rename_i k' off' y hcs
      obtain⟨hb,h2⟩:=dJ h6 hg.ne;simp only[cy]at hb;have b1:=aen hb.1;have b2:=aen hb.2;subst b1;subst b2;exact .inl ⟨_,lv,nx,[],h2,hsp.Ku f _ es (aY lv) _ _ T cs y ho hb0 hk hcs,ho,kY.refl _⟩
     ·exact absurd h6 hg.ne
    ·exact absurd h1 hg.ne
   ·exact absurd h1 hg.ne
end
theorem aa.Sh(hf:P.funcs[f]?=some fn)(hb:fn.body=some code)
 (h:∀z:Ev,AW ⟨P,G,z.w,z.F,z.W,fn.ntmps,λ_=>.hole,z.b⟩ none code ⟨λt=>args.getD t .undef,λ_=>.hole⟩ 0 (aq ⟨P,G,z.w,z.F,z.W,fn.ntmps,λ_=>.hole,z.b⟩ fn x)) (hl:Nat.ble args.length fn.ntmps=true:=by kernel_rfl):aa P G f args x:=
 aa.MW hf hb (adE hl) λ⟨_,_,w,F,W,_,q,b⟩ h1 h2 h3 h4=>by cases h1;cases h2;cases h3;cases h4;exact h ⟨w,F,W,λ_=>.hole,b⟩
def MF(D:List Key)(kh:Key):Key->Key:=λk=>if k∈D then kh else k
theorem LB.SV{x:LB}(h:x.bJ g=x)(hm:∀own es,x=.map own es->∀p∈es,∀l,p.2≠.tup l):x.as x g:=by
 cases x with
 |cells own fz T cs=>
  have h':cs.map (CV.bJ g)=cs:=by injection h
  exact⟨own,cs,rfl,h'.symm,λh=>h⟩
 |map own es=>
  have h':es.map (λp=>(p.1,p.2.l6 g))=es:=by injection h
  exact⟨own,es,rfl,h'.symm,λh=>h,hm own es rfl⟩
 |hole=>rfl
 |dead=>intro h;cases h
 |bO=>rfl
def OE(g:Key->Key)(lv:Key->LB):Prop:=∀k,(lv k).bJ g=lv k
theorem Ms:OE g (λ_=>.hole):=λ_=>rfl
theorem NM(h:OE g lv)(hb:b.bJ g=b):OE g (au lv k b):=λk'=>by
 unfold au;split
 ·exact hb
 ·exact h k'
@[simp]theorem LB.wB:(LB.cells own fz T cs).bJ g=.cells own fz T (cs.map (CV.bJ g)):=rfl
@[simp]theorem LB.WZ:LB.dead.bJ g=.dead:=rfl
@[simp]theorem LB.Yl:LB.bO.bJ g=.bO:=rfl
@[simp]theorem CV.acA{x:DV}:(CV.d x).bJ g=.d x:=rfl
@[simp]theorem CV.Zj{o:Nat}:(CV.ptr k o).bJ g=.ptr (g k) o:=rfl
@[simp]theorem CV.Zu{o l z:Nat}:(CV.aE k o l z).bJ g=.aE (g k) o l z:=rfl
@[simp]theorem AV.acg{x:CV}:(AV.c x).bJ g=.c (x.bJ g):=rfl
@[simp]theorem AV.Zb:(AV.agg cs).bJ g=.agg (cs.map (CV.bJ g)):=rfl
theorem Le.drop(D:List Key)(kh:Key)(l:List (Nat×AV))(hc:c.jd=λ_=>.hole)(hD:∀k∈D,lv' k=.hole)(hlv:∀k,k∉D->lv k=lv' k)(hh:lv kh=.hole)
 (hm:jk lv') (hr:OE (MF D kh) lv') (hl:∀p∈l,p.2.bF=true/\fr p.1=p.2/\p.2.bJ (MF D kh)=p.2):Le c ⟨fr,lv⟩ ⟨aJ l,lv'⟩:=by
 refine⟨MF D kh,λk=>?_,λk k' h1 h2 e=>?_,λt=>?_,λk hk=>absurd (by rw[hc]) hk⟩
 ·show(lv (MF D kh k)).as (lv' k) _
  by_cases hk:k∈D
  ·rw[hD k hk];have:MF D kh k=kh:=if_pos hk;rw[this];exact hh
  ·have:MF D kh k=k:=if_neg hk;rw[this,hlv k hk];exact LB.SV (hr k) (λown es h=>absurd h (hm k own es))
 ·have n1:k∉D:=λh=>by have h1':(lv' k).live=true:=h1;rw[hD k h]at h1';cases h1'
  have n2:k'∉D:=λh=>by have h2':(lv' k').live=true:=h2;rw[hD k' h]at h2';cases h2'
  unfold MF at e;grind
 ·rcases jI (P:=λt x=>x.bF=true/\fr t=x/\x.bJ (MF D kh)=x) hl t with h|⟨h1,h2,h3⟩
  ·grind
  grind
theorem Le.Cl{l:List (Nat×AV)}(D:List Key)(kh:Key)(hc:c.jd=λ_=>.hole:=by exact rfl)(hD:∀k∈D,lv' k=.hole:=by intro k hk;simp at hk;subst hk;simp[au])(hlv:∀k,k∉D->lv k=lv' k:=by intro k hk;simp at hk;simp only[au];(repeat (any_goals split))<;>simp_all)(hh:lv kh=.hole:=by simp[au])
 (hm:jk lv':=by repeat (first|exact aW|refine wm ?_ _ _ _ _ _|(refine qn ?_ _)|(refine Cj ?_ _ _ _)|(refine pW ?_ _)|simp)) (hr:OE (MF D kh) lv':=by repeat (first|exact Ms|refine NM ?_ (by simp[MF]))) (hl:∀p∈l,p.2.bF=true/\fr p.1=p.2/\p.2.bJ (MF D kh)=p.2:=by simp[MF]):Le c ⟨fr,lv⟩ ⟨aJ l,lv'⟩:=Le.drop D kh l hc hD hlv hh hm hr hl
def Mn(fn:Fn)(fs cs:List AV):Option cH:=match tV fs,tV cs with
 |some fr,some cr=>some (.c (Bk fn fr cr),[],[],True)
 |_,_=>none
theorem B6{fn:Fn}{v:Operand->AV}{κ:Key}:
 cX P (.makeFunc fn first caps) ((Op.makeFunc fn first caps).operands.toList.map v) lv κ=Mn fn (first.toList.map v) (caps.toList.map v):=by
 have e:(Op.makeFunc fn first caps).operands.toList.map v=first.toList.map v++caps.toList.map v:=by simp[Op.operands]
 rw[e];simp only[cX,ac8,ac5,aeJ,if_true];rw[List.take_left' (by simp),List.drop_left' (by simp)];rfl
section
variable {c:Ctx}{ps:List BJ}{d:Option Tmp}{s:az}{κ:Nat}{K:az->Nat->Prop}{acc:List vf}{KD:az->Nat->List vf->Prop}
@[simp]theorem aaR{fn:Fn}:aT c (⟨d,.makeFunc fn first caps,none⟩::ps) s κ K=dn c ps d s κ K (Mn fn (first.toList.map (s.val c.G)) (caps.toList.map (s.val c.G))):=by
 rw[iW];simp only[gJ,B6,dn,nY]
@[simp]theorem aad{fn:Fn}:aS c (⟨d,.makeFunc fn first caps,none⟩::ps) s κ acc KD=cz c ps d s κ acc KD (Mn fn (first.toList.map (s.val c.G)) (caps.toList.map (s.val c.G))):=by
 rw[gZ];simp only[gJ,B6,cz,nY]
theorem CL{f:FuncId}{xs fs cs:List AV}:Ju c (some (f,fs,cs)) xs ps d s κ K=(aH c.P f=true/\gM c f (fs++xs++cs) ps d s κ K):=propext ⟨id,id⟩
theorem Lr{fs cs:List Ref}:cG (.c (.func (.func f) fs cs))=some (f,fs.map uk,cs.map uk):=rfl
theorem Lh{f:FuncId}{fs cs:List DV}:cG (.c (.d (.func (.func f) fs cs)))=some (f,fs.map PM,cs.map PM):=rfl
end
theorem ag.Nq{us:List AV}{K:AV->List (Key×LB)->List Key->Nat->Prop}(κ' kh:Key)(own:Bool)(sel:List Key)(σ σ':List LB)(rds:List Key)
 (hc:aD c.P c.G f us σ (.ret x σ' [])) (hn:sel.Nodup) (hkh:kh∉sel) (hl1:sel.length=σ.length) (hl2:σ'.length=σ.length) (hb:σ.length<=1000)
 (hsel:∀i (h:i<sel.length) (h':i<σ.length),(lv sel[i]).as σ[i] (aG sel [] kh)) (hh:lv kh=.hole) (hpass:∀b∈σ,b.pass=true) (hnh:∀b,b∈σ++σ'->b≠.hole)
 (hown:own=true->∀k∈sel,(lv k).I6=true) (hlen:us.length=xs.length)
 (hargs:∀i (h:i<xs.length) (h':i<us.length),us[i].bF=true/\xs[i]=us[i].bJ (aG sel [] kh))
 (hrd:∀a∈xs,∀k∈pz lv a,k∈rds) (hrh:kh∈rds)
 (hK:K (x.bJ (aG sel [] kh)) (cq (aG sel [] kh) own sel σ') rds κ'):ag c f xs lv K:=by
 have key:=cw.gen (c:=c) (f:=f) (as:=xs) (lv:=lv) us [] sel [] kh σ σ' [] x own rds (λz hz=>by cases hz) (by simp) (by grind) (λz hz=>by cases hz) (by grind) (λz hz=>by cases hz) hl1 hl2 rfl hb hsel (λk hk=>by cases hk) hh hpass (by grind) hown hlen (λi p q=>.inl (hargs i p q)) (λa ha k hk=>.inl (hrd a ha k hk)) hrh hc;have e:fU []++cq (aG sel [] kh) own sel σ'++cq (aG sel [] kh) own [] []=cq (aG sel [] kh) own sel σ':=by simp[fU,cq]
 rw[e]at key;exact⟨_,_,rds,κ',key,hK⟩
theorem ag.Pu{us:List AV}{K:AV->List (Key×LB)->List Key->Nat->Prop}(κ' kh k0 k1:Key)(own:Bool)(rds:List Key)
 (hc:aD c.P c.G f us [.cells false false T0 cs0,.cells false false T1 cs1] (.ret x [.cells false false T0 cs0,.cells false false T1 cs1] [])) (hx:x.pure=true)
 (h0:lv k0=.cells own false T0 cs0) (h1:lv k1=.cells own false T1 cs1) (p0:∀x∈cs0,x.pure=true) (p1:∀x∈cs1,x.pure=true) (hk:k0≠k1) (hh:lv kh=.hole) (hlen:us.length=xs.length)
 (hargs:∀i (h:i<xs.length) (h':i<us.length),us[i].bF=true/\xs[i]=us[i].bJ (aG [k0,k1] [] kh))
 (hrd:∀a∈xs,∀k∈pz lv a,k∈rds) (hrh:kh∈rds)
 (hK:K x [(k0,.cells own false T0 cs0),(k1,.cells own false T1 cs1)] rds κ'):ag c f xs lv K:=by
 have r0:∀g,(LB.cells false false T0 cs0).bJ g=.cells false false T0 cs0:=λg=>LB.bM p0 g
 have r1:∀g,(LB.cells false false T1 cs1).bJ g=.cells false false T1 cs1:=λg=>LB.bM p1 g
 have m0:∀g,cs0.map (CV.bJ g)=cs0:=λg=>by simp_all
 have m1:∀g,cs1.map (CV.bJ g)=cs1:=λg=>by simp_all
 refine ag.Nq κ' kh own [k0,k1] _ _ rds hc (by simp[hk]) ?_ rfl rfl (by simp) ?_ hh (by simp[LB.pass]) (by simp) ?_ hlen hargs hrd hrh ?_
 ·grind
 ·intro i p q;have hi:i=0\/i=1:=by simp at p;omega
  rcases hi with rfl|rfl
  ·exact⟨own,cs0,h0,(m0 _).symm,λh=>by cases h⟩
  ·exact⟨own,cs1,h1,(m1 _).symm,λh=>by cases h⟩
 ·intro ho k hk';simp only[fy,aa8,or_false]at hk';rcases hk' with rfl|rfl
  ·rw[h0];exact ho
  ·rw[h1];exact ho
 ·rw[AV.bM hx]
  have e:cq (aG [k0,k1] [] kh) own [k0,k1] [.cells false false T0 cs0,.cells false false T1 cs1]=[(k0,.cells own false T0 cs0),(k1,.cells own false T1 cs1)]:=by
   simp only[cq,ae5,afK,r0,r1,LB.fix,ae3]
  grind
theorem GQ(b b':LB):bu [b,b'] []=au (au (λ_=>.hole) 0 b) 1 b':=by
 funext k;unfold bu au
 grind
def Aq(c:Ctx)(fn:Func)(x:AV)(b0 b1:LB):Ex->az->Nat->Prop
 |.normal,s,_|.ret,s,_=>∃l kh,(∀p∈l,p.2.pure=true/\s.fr p.1=p.2)/\s.lv kh=.hole/\s.lv 0=b0/\s.lv 1=b1/\eD c.P ⟨aJ l,λ_=>.hole⟩ fn.results.toList=some x
 |_,_,_=>False
theorem RW{l:List (Nat×AV)}{rs:List ResultVar}(hr:∀r∈rs,∃t,r=.tmp t):eD P ⟨aJ l,lv⟩ rs=eD P ⟨aJ l,lv'⟩ rs:=by
 have h1:∀rs:List ResultVar,(∀r∈rs,∃t,r=.tmp t)->l8 P ⟨aJ l,lv⟩ rs=l8 P ⟨aJ l,lv'⟩ rs:=by
  intro rs
  induction rs with
  |nil=>intro _;rfl
  |cons r rs ih=>
   intro h;obtain⟨t,rfl⟩:=h r (by simp);have:=ih λr hr=>h r (by simp[hr])
   simp only[l8,pE,this]
 unfold eD;grind
theorem aD.TR(hf:P.funcs[f]?=some fn)(hb:fn.body=some code)(hl:args.length<=fn.ntmps)
 (hr:∀r∈fn.results.toList,∃t,r=.tmp t) (p0:∀x∈cs0,x.pure=true) (p1:∀x∈cs1,x.pure=true)
 (h:∀c:Ctx,c.P=P->c.G=G->c.n=fn.ntmps->AW c none code ⟨λt=>args.getD t .undef,au (au (λ_=>.hole) 0 (.cells false false T0 cs0)) 1 (.cells false false T1 cs1)⟩ 1000 (Aq c fn x (.cells false false T0 cs0) (.cells false false T1 cs1))) :
 aD P G f args [.cells false false T0 cs0,.cells false false T1 cs1] (.ret x [.cells false false T0 cs0,.cells false false T1 cs1] []):=by
 have m0:∀g,cs0.map (CV.bJ g)=cs0:=λg=>by have:=LB.bM (T:=T0) (own:=false) (fz:=false) p0 g;simp_all
 have m1:∀g,cs1.map (CV.bJ g)=cs1:=λg=>by have:=LB.bM (T:=T1) (own:=false) (fz:=false) p1 g;simp_all
 refine aD.o9 hf hb hl λc h1 h2 h3 h4=>?_;rw[GQ]at h4⊢;refine AW.mono (h c h1 h2 h3) λe s κ hq=>?_
 have fin:(∃l kh,(∀p∈l,p.2.pure=true/\s.fr p.1=p.2)/\s.lv kh=.hole/\s.lv 0=.cells false false T0 cs0/\s.lv 1=.cells false false T1 cs1/\eD c.P ⟨aJ l,λ_=>.hole⟩ fn.results.toList=some x) ->
  ∃s2 g,dQ c s s2 g/\s2.lv=bu [.cells false false T0 cs0,.cells false false T1 cs1] []/\eD c.P s2 fn.results.toList=some x:=by
  rintro⟨l,kh,g1,g2,g3,g4,g5⟩;refine⟨⟨aJ l,au (au (λ_=>.hole) 0 (.cells false false T0 cs0)) 1 (.cells false false T1 cs1)⟩,λk=>if k=0 then 0 else if k=1 then 1 else kh,⟨λk=>?_,λk k' e1 e2 e=>?_,λt=>?_,λk hk=>?_⟩,by rw[GQ],by rw[RW hr (lv':=λ_=>.hole)];exact g5⟩
  ·show(s.lv _).as (au _ 1 _ k) _
   by_cases hk1:k=1
   ·subst hk1;exact⟨false,cs1,g4,(m1 _).symm,λh=>h⟩
   ·by_cases hk0:k=0
    ·subst hk0;exact⟨false,cs0,g3,(m0 _).symm,λh=>h⟩
    ·simp only[au,hk0,hk1,if_false];exact g2
  ·have q:∀k,(au (au (λ_=>LB.hole) 0 (.cells false false T0 cs0)) 1 (.cells false false T1 cs1) k).live=true->k=0\/k=1:=by
    intro k hk;unfold au at hk
    by_cases hk1:k=1
    ·omega
    ·by_cases hk0:k=0
     ·omega
     ·rw[if_neg hk1,if_neg hk0]at hk;cases hk
   grind
  ·rcases jI (P:=λt x=>x.pure=true/\s.fr t=x) g1 t with h|⟨h1,h2⟩
   ·grind
   ·exact .inr ⟨AV.eB h1,by rw[AV.bM h1];exact h2⟩
  ·right;rw[h4]at hk;show(if k=0 then 0 else if k=1 then 1 else kh)=k
   by_cases hk1:k=1
   ·grind
   simp_all
 cases e with
 |normal=>exact fin hq
 |ret=>exact fin hq
 |exit id=>exact hq.elim
 |goto l=>exact hq.elim
 |panic d=>exact hq.elim
theorem aD.en2(hf:P.funcs[f]?=some fn)(hb:fn.body=some code)(p0:∀x∈cs0,x.pure=true)(p1:∀x∈cs1,x.pure=true)
 (hr:∀r∈fn.results.toList,∃t,r=.tmp t)
 (h:∀z:Ev,AW ⟨P,G,z.w,z.F,z.W,fn.ntmps,z.q,z.b⟩ none code ⟨λt=>args.getD t .undef,au (au (λ_=>.hole) 0 (.cells false false T0 cs0)) 1 (.cells false false T1 cs1)⟩ 1000 (Aq ⟨P,G,z.w,z.F,z.W,fn.ntmps,z.q,z.b⟩ fn x (.cells false false T0 cs0) (.cells false false T1 cs1))) (hl:Nat.ble args.length fn.ntmps=true:=by kernel_rfl) :
 aD P G f args [.cells false false T0 cs0,.cells false false T1 cs1] (.ret x [.cells false false T0 cs0,.cells false false T1 cs1] []):=
 aD.TR hf hb (adE hl) hr p0 p1 λ⟨_,_,w,F,W,_,q,b⟩ h1 h2 h3=>by cases h1;cases h2;cases h3;exact h ⟨w,F,W,q,b⟩
theorem Aq.tmp{t:Nat}{b0 b1:LB}(hr:fn.results=#[.tmp t])(kh:Key)(hx:s.fr t=x)(hp:x.pure=true)(hh:s.lv kh=.hole)(h0:s.lv 0=b0)(h1:s.lv 1=b1)(hn:x.cD=true):Aq c fn x b0 b1 .ret s κ:=by
 refine⟨[(t,x)],kh,by grind,hh,h0,h1,?_⟩;rw[hr];simp[eD,l8,pE,aJ]
section
variable {c:Ctx}{r:Option Nat}{ops:Array Oper}{o:Oper}{s0:az}
theorem cQ.NL{κ:Key}(hd:∀d,o.dst=some d->d<c.n)(hw:eK ops o.guard s0.fr=some true)
 (h:dF c.P o.op (o.op.operands.toList.map (s0.val c.G)) s0.lv κ=some (x,us,rds)):cQ c r ops o s0 ⟨x,us,rds⟩:=by
 refine cQ.qo hw (λcl hcl=>?_) (λs h1 h2=>?_)
 ·rw[hcl]at h;simp[dF]at h
 ·have hl:=xw h (show Agree s0.lv s.lv us rds from h2);exact CM hd rfl (adI h1) hl
theorem Ef{x:Operand}{κ:Key}{l:Int}(hd:∀d,o.dst=some d->d<c.n)(ho:o.op=.slice T x lo hi none)
 (hx:s.val c.G x=.c (.ptr κ off)) (hk:s.lv κ=.cells own fz T' cs) (hT:tv c.P T=some (n,e,sz)) (hlo:dy (lo.map (s.val c.G)) 0=some l) (hhi:dy (hi.map (s.val c.G)) n=some l)
 (h0:0<=l) (h2:l<=n):cx c o s (s.put o.dst (.c (.d (.sl [])))):=
 cx.aV hd λF β a w hs=>by
  have hv:=hx▸hs.val x;obtain⟨hv,_⟩:=hv;simp only[Vw.dD,hk]at hv;have hr:=jq hT (b:=β κ) (o:=off) (iG (λx=>hs.val x) hlo) (iG (λx=>hs.val x) hhi) h0 (Int.le_refl _) h2 w;refine⟨_,by simp only[execOp,ho,aex,hv];simp[hr];rfl,?_,rfl⟩;have e1:(if n=l.toNat then(⟨β κ,off,none⟩:Addr)else⟨β κ,off+l.toNat*sz,none⟩)=⟨β κ,if n=l.toNat then off else off+l.toNat*sz,none⟩:=by split<;>rfl
  rw[e1];exact Rd.sl (β κ) _ (n-l.toNat) sz [] (λ_ _=>.nilIface) (by simp) (by simp) (by simp) (by simp) (by simp) (by simp)
theorem cQ.II{x:Operand}{κ:Key}{l:Int}(hd:∀d,o.dst=some d->d<c.n)(hw:eK ops o.guard s0.fr=some true)(ho:o.op=.slice T x lo hi none)
 (hx:s0.val c.G x=.c (.ptr κ off)) (hk:s0.lv κ=.cells own fz T' cs) (hT:tv c.P T=some (n,e,sz)) (hlo:dy (lo.map (s0.val c.G)) 0=some l) (hhi:dy (hi.map (s0.val c.G)) n=some l)
 (h0:0<=l) (h2:l<=n):cQ c r ops o s0 ⟨.c (.d (.sl [])),[],[κ]⟩:=by
 refine cQ.qo hw (λcl hcl=>by grind) (λs h1 h3=>?_);have e1:s.val c.G x=s0.val c.G x:=h1 x (by rw[ho];simp[Op.operands])
 have e2:lo.map (s.val c.G)=lo.map (s0.val c.G):=by
  cases lo with
  |none=>rfl
  |some y=>exact congrArg some (h1 y (by rw[ho];simp[Op.operands]))
 have e3:hi.map (s.val c.G)=hi.map (s0.val c.G):=by
  cases hi with
  |none=>rfl
  |some y=>exact congrArg some (h1 y (by rw[ho];simp[Op.operands]))
 have e4:s.lv κ=s0.lv κ:=h3.1 κ (by simp);exact Ef hd ho (e1.trans hx) (e4.trans hk) hT (by grind) (by grind) h0 h2
end
def mb(c:Ctx)(r:Option Nat)(ops:Array Oper)(os:List Oper)(s:az)(κ:Nat)(K:az->Nat->Prop):Prop:=
 ∃es s' κ',fQ c r ops os es s s'/\K s' κ'
section
variable {c:Ctx}{r:Option Nat}{ops:Array Oper}
theorem fQ.append{os2:List Oper}{es2:List Fx}{s2:az}:∀{os1:List Oper}{es1:List Fx}{s s1:az},fQ c r ops os1 es1 s s1->fQ c r ops os2 es2 s1 s2->fQ c r ops (os1++os2) (es1++es2) s s2
 |[],[],s,s1,h,h2=>by have h:s1=s:=h;grind
 |o::os,e::es,s,s1,h,h2=>⟨h.1,fQ.append h.2 h2⟩
 |[],_::_,_,_,h,_=>h.elim
 |_::_,[],_,_,h,_=>h.elim
theorem mb.done(h:K s κ):mb c r ops [] s κ K:=⟨[],s,κ,rfl,h⟩
theorem mb.run(n:Nat)(hd:cR c.n (os.take n)=true)(h:aT c (kR (ops.toList.map (·.dst)) (os.take n)) s κ λs' κ'=>mb c r ops (os.drop n) s' κ' K):mb c r ops os s κ K:=by
 rw[nO]at h;obtain⟨es,s',κ',h1,es2,s2,κ2,h2,h3⟩:=gy.chain (r:=r) hd h;refine⟨es++es2,s2,κ2,?_,h3⟩;have:=fQ.append h1 h2
 simp_all
theorem mb.Tv(κ':Nat)(he:cQ c r ops o s ⟨x,us,rds⟩)(h:mb c r ops os (az.put ⟨s.fr,bk s.lv us⟩ o.dst x) κ' K):mb c r ops (o::os) s κ K:=by
 obtain⟨es,s',κ2,h1,h2⟩:=h;exact⟨⟨x,us,rds⟩::es,s',κ2,⟨he,h1⟩,h2⟩
theorem AW.rG(h:mb c r ops ops.toList s κ λs' κ'=>Q .normal s' κ'):AW c r (.region id ops false) s κ Q:=by
 intro F β a w hs;obtain⟨es,s',κ',h1,h2⟩:=h;exact h1.region (λF' β' a' w' h'=>⟨.normal,s',κ',F',β',h2,h',rfl⟩) hs
end
theorem mb.dF{r:Option Nat}(κ':Nat)(hd:cR c.n [o]=true)(hg:o.guard=none)
 (h:Am.dF c.P o.op (o.op.operands.toList.map (s.val c.G)) s.lv κ=some (x,us,rds)) (hK:mb c r ops os (az.put ⟨s.fr,bk s.lv us⟩ o.dst x) κ' K):mb c r ops (o::os) s κ K:=by
 refine mb.Tv κ' (cQ.NL (λd hd'=>?_) (by rw[hg];rfl) h) hK;simp only[cR,aed,ae9,afa,hd']at hd
 grind
theorem mb.II{r:Option Nat}(κ':Nat){x:Operand}{κ:Key}{l:Int}
 (hd:cR c.n [o]=true) (hg:o.guard=none) (ho:o.op=.slice T x lo hi none)
 (hx:s.val c.G x=.c (.ptr κ off)) (hk:s.lv κ=.cells own fz T' cs) (hT:tv c.P T=some (n,e,sz)) (hlo:dy (lo.map (s.val c.G)) 0=some l) (hhi:dy (hi.map (s.val c.G)) n=some l)
 (h0:0<=l) (h2:l<=n) (hK:mb c r ops os (az.put ⟨s.fr,bk s.lv []⟩ o.dst (.c (.d (.sl [])))) κ' K):mb c r ops (o::os) s κ0 K:=by
 refine mb.Tv κ' (cQ.II (λd hd'=>?_) (by rw[hg];rfl) ho hx hk hT hlo hhi h0 h2) hK;simp only[cR,aed,ae9,afa,hd']at hd
 grind
def aQ(m:List (Key×Key×LB))(kh:Key):Key->Key:=λk=>match m.find? (λe=>e.1==k)with
 |some e=>e.2.1
 |none=>kh
@[simp]theorem LB.Po{o f:Bool}:(LB.cells o f T cs').as (.cells own fz T' cs) g↔(f=fz/\T=T'/\cs'=cs.map (CV.bJ g)/\(own=true->o=true)):=by
 constructor
 ·rintro⟨own',cs2,h1,h2,h3⟩;injection h1 with e1 e2 e3 e4
  subst e1;subst e4;exact⟨e2,e3,h2,h3⟩
 ·rintro⟨rfl,rfl,h2,h3⟩;exact⟨o,cs',rfl,h2,h3⟩
@[simp]theorem LB.ZK{x:LB}:x.as .bO g↔x=.bO:=Iff.rfl
abbrev LB.like(x y:LB)(g:Key->Key):Prop:=x.as y g
@[simp]theorem LB.tf{o f:Bool}:(LB.cells o f T cs').like (.cells own fz T' cs) g↔(f=fz/\T=T'/\cs'=cs.map (CV.bJ g)/\(own=true->o=true)):=LB.Po
@[simp]theorem LB.Wn{x:LB}:x.like .bO g↔x=.bO:=Iff.rfl
theorem CG{m:List (Key×Key×LB)}(hn:(m.map (·.1)).Nodup):
 bk (λ_=>LB.hole) (m.map λe=>(e.1,e.2.2)) k=match m.find? (λe=>e.1==k)with|some e=>e.2.2|none=>.hole:=by
 cases h:m.find? (λe=>e.1==k)with
 |some e=>
  have h1:=afb h;have h2:=afr h;simp only[beq_iff_eq]at h2;subst h2;have hn':((m.map λe=>(e.1,e.2.2)).map (·.1)).Nodup:=by rw[ady];exact hn
  exact lB hn' (List.mem_map.2 ⟨e,h1,rfl⟩)
 |none=>
  rw[List.find?_eq_none]at h;rw[cT]
  grind
theorem dQ.keys(m:List (Key×Key×LB))(kh:Key)(l:List (Nat×AV))(hlv':lv'=bk (λ_=>.hole) (m.map λe=>(e.1,e.2.2)))(hc:∀k,c.jd k≠.hole->lv' k=.dead\/aQ m kh k=k)
 (hn1:(m.map (·.1)).Nodup) (hn2:(m.map (·.2.1)).Nodup) (hh:s.lv kh=.hole) (has:∀e∈m,(s.lv e.2.1).as e.2.2 (aQ m kh)) (hl:∀p∈l,p.2.bF=true/\s.fr p.1=p.2.bJ (aQ m kh)):dQ c s ⟨aJ l,lv'⟩ (aQ m kh):=by
 have hk:∀k,lv' k=match m.find? (λe=>e.1==k)with|some e=>e.2.2|none=>.hole:=λk=>by rw[hlv',CG hn1]
 refine⟨λk=>?_,λk k' h1 h2 e=>?_,λt=>?_,hc⟩
 ·show(s.lv (aQ m kh k)).as (lv' k) _;rw[hk]
  cases h:m.find? (λe=>e.1==k)with
  |some e=>
   have e1:aQ m kh k=e.2.1:=by unfold aQ;rw[h]
   grind
  |none=>
   have e1:aQ m kh k=kh:=by unfold aQ;rw[h]
   rw[e1];exact hh
 ·have h1':(lv' k).live=true:=h1;have h2':(lv' k').live=true:=h2;rw[hk]at h1' h2'
  cases f1:m.find? (λe=>e.1==k)with
  |none=>rw[f1]at h1';cases h1'
  |some e1=>
   cases f2:m.find? (λe=>e.1==k')with
   |none=>rw[f2]at h2';cases h2'
   |some e2=>
    have g1:aQ m kh k=e1.2.1:=by unfold aQ;rw[f1]
    have g2:aQ m kh k'=e2.2.1:=by unfold aQ;rw[f2]
    rw[g1,g2]at e;have i1:=afb f1;have i2:=afb f2;have j1:=afr f1;have j2:=afr f2;simp only[beq_iff_eq]at j1 j2
    have:e1=e2:=by
     obtain⟨a,ha,rfl⟩:=List.mem_iff_getElem.1 i1;obtain⟨b,hb,rfl⟩:=List.mem_iff_getElem.1 i2
     have hab:a=b:=by
      refine(List.getElem_inj (xs:=m.map (·.2.1)) (i:=a) (j:=b) (h₀:=by grind) (h₁:=by grind) hn2).1 ?_;simpa using e
     subst hab;rfl
    grind
 ·rcases jI (P:=λt x=>x.bF=true/\s.fr t=x.bJ (aQ m kh)) hl t with h|⟨h1,h2⟩
  ·grind
  grind
theorem Le.keys(m:List (Key×Key×LB))(kh:Key)(l:List (Nat×AV))(hlv':lv'=bk (λ_=>.hole) (m.map λe=>(e.1,e.2.2)))(hc:c.jd=λ_=>.hole)
 (hn1:(m.map (·.1)).Nodup) (hn2:(m.map (·.2.1)).Nodup) (hh:lv kh=.hole) (has:∀e∈m,(lv e.2.1).like e.2.2 (aQ m kh)) (hl:∀p∈l,p.2.bF=true/\fr p.1=p.2.bJ (aQ m kh)):Le c ⟨fr,lv⟩ ⟨aJ l,lv'⟩:=
 ⟨_,dQ.keys (s:=⟨fr,lv⟩) m kh l hlv' (λk hk=>absurd (by rw[hc]) hk) hn1 hn2 hh has hl⟩
theorem No(ν:List LB)(k:Nat)(h:∀j,j<ν.length->k≠1000+j):bu [] ν k=.hole:=by
 unfold bu
 grind
theorem SQ(a:LB):bu [] [a]=au (λ_=>.hole) 1000 a:=by
 refine funext λ(k:Nat)=>?_;unfold au
 by_cases h:k=1000
 ·subst h;rfl
 ·rw[if_neg h];refine No _ k λj hj=>?_
  grind
def W2(c:Ctx)(fn:Func)(x:AV)(ν:List LB):Ex->az->Nat->Prop
 |.normal,s,_|.ret,s,_=>∃(m:List (Key×Key×LB)) (kh:Key),bu [] ν=bk (λ_=>.hole) (m.map λe=>(e.1,e.2.2))/\(m.map (·.1)).Nodup/\(m.map (·.2.1)).Nodup/\s.lv kh=.hole /\
  (∀e∈m,(s.lv e.2.1).like e.2.2 (aQ m kh))/\x.bF=true/\eD c.P s fn.results.toList=some (x.bJ (aQ m kh))
 |_,_,_=>False
def I8(c:Ctx)(fn:Func)(x:AV)(σ' ν:List LB):Ex->az->Nat->Prop
 |.normal,s,_|.ret,s,_=>∃(m:List (Key×Key×LB)) (kh:Key),bu σ' ν=bk (λ_=>.hole) (m.map λe=>(e.1,e.2.2))/\(m.map (·.1)).Nodup/\(m.map (·.2.1)).Nodup/\s.lv kh=.hole /\
  (∀k,c.jd k≠.hole->bu σ' ν k=.dead\/aQ m kh k=k)/\(∀e∈m,(s.lv e.2.1).like e.2.2 (aQ m kh))/\x.bF=true/\eD c.P s fn.results.toList=some (x.bJ (aQ m kh))
 |_,_,_=>False
theorem aD.IQ(hf:P.funcs[f]?=some fn)(hb:fn.body=some code)(hl:args.length<=fn.ntmps)
 (h:∀c:Ctx,c.P=P->c.G=G->c.n=fn.ntmps->c.jd=bu σ []->AW c none code ⟨λt=>args.getD t .undef,bu σ []⟩ 1000 (I8 c fn x σ' ν)):aD P G f args σ (.ret x σ' ν):=by
 intro F β w vs hS hvl hv;refine yK hf hb hl hS hvl hv (h _ rfl rfl rfl rfl) (λe s κ hq=>by cases e<;>first|exact .inl rfl|exact .inr rfl|exact hq.elim) λe s' κ F' β' a' w' hq hX0=>?_;obtain⟨m,kh,g1,g2,g3,g4,g8,g5,g6,g7⟩:∃(m:List (Key×Key×LB)) (kh:Key),bu σ' ν=bk (λ_=>.hole) (m.map λe=>(e.1,e.2.2))/\(m.map (·.1)).Nodup/\(m.map (·.2.1)).Nodup/\s'.lv kh=.hole/\(∀k,bu σ [] k≠.hole->bu σ' ν k=.dead\/aQ m kh k=k)/\(∀e∈m,(s'.lv e.2.1).like e.2.2 (aQ m kh))/\x.bF=true/\eD P s' fn.results.toList=some (x.bJ (aQ m kh)):=by cases e<;>first|exact hq|exact hq.elim
 obtain⟨v,h4,hav⟩:=uC hX0 g7;have hco:dQ { de P G w F β (bu σ [])with n:=fn.ntmps } s' ⟨aJ [],bu σ' ν⟩ (aQ m kh):=dQ.keys m kh [] g1 g8 g2 g3 g4 g5 (λp hp=>by cases hp);have hs2:=hX0.coarse hco;have hR:(Vw.mk F' β' s'.lv w').Ren (Vw.mk F' (λk=>β' (aQ m kh k)) (bu σ' ν) w') (aQ m kh):=⟨rfl,rfl,λ_ _=>rfl,λk=>LB.Ao (hco.as k)⟩
 refine⟨hX0.defers,v,h4,v,F',λk=>β' (aQ m kh k),rfl,?_,hR.av g6 hav⟩;exact hs2.xN
theorem aD.Uj(hf:P.funcs[f]?=some fn)(hb:fn.body=some code)(hl:args.length<=fn.ntmps)
 (h:∀c:Ctx,c.P=P->c.G=G->c.n=fn.ntmps->c.jd=(λ_=>.hole)->AW c none code ⟨λt=>args.getD t .undef,λ_=>.hole⟩ 0 (W2 c fn x ν)):aD P G f args [] (.ret x [] ν):=by
 refine aD.IQ hf hb hl λc h1 h2 h3 h4=>?_;rw[iY]at h4⊢;refine(AW.mono (λF β a w hs=>h c h1 h2 h3 h4 F β a w hs) λe s κ hq=>?_:AW c none code _ 1000 _)
 cases e<;>first|exact hq.elim|(obtain⟨m,kh,g1,g2,g3,g4,g5,g6,g7⟩:=hq;exact⟨m,kh,g1,g2,g3,g4,λk hk=>absurd (by rw[h4]) hk,g5,g6,g7⟩)
theorem aD.enn(hf:P.funcs[f]?=some fn)(hb:fn.body=some code)
 (h:∀z:Ev,AW ⟨P,G,z.w,z.F,z.W,fn.ntmps,λ_=>.hole,z.b⟩ none code ⟨λt=>args.getD t .undef,λ_=>.hole⟩ 0 (W2 ⟨P,G,z.w,z.F,z.W,fn.ntmps,λ_=>.hole,z.b⟩ fn x ν)) (hl:Nat.ble args.length fn.ntmps=true:=by kernel_rfl):aD P G f args [] (.ret x [] ν):=
 aD.Uj hf hb (adE hl) λ⟨_,_,w,F,W,_,q,b⟩ h1 h2 h3 h4=>by cases h1;cases h2;cases h3;cases h4;exact h ⟨w,F,W,λ_=>.hole,b⟩
theorem ag.Z0{us:List AV}{K:AV->List (Key×LB)->List Key->Nat->Prop}(κ' kh:Key)(Z:List (Key×TypeId×List CV))(rds:List Key)
 (hc:aa c.P c.G f us x) (hx:x.pure=true) (hZ:∀z∈Z,lv z.1=.cells true false z.2.1 z.2.2) (hZn:(Z.map (·.1)).Nodup) (hh:lv kh=.hole) (hlen:us.length=xs.length)
 (hargs:∀i (h:i<xs.length) (h':i<us.length),(us[i].pure=true/\xs[i]=us[i])\/∃ks,fu (bk lv (fU Z)) xs[i]=some (us[i],ks)/\∀k∈ks,k∈Z.map (·.1))
 (hrd:∀a∈xs,∀k∈pz (bk lv (fU Z)) a,k∈rds\/k∈Z.map (·.1)) (hrh:kh∈rds)
 (hK:K x (fU Z) rds κ'):ag c f xs lv K:=by
 have hkZ:∀z∈Z,z.1≠kh:=λz hz e=>by grind
 have key:=cw.gen (c:=c) (f:=f) (as:=xs) (lv:=lv) us Z [] [] kh [] [] [] x false rds hZ hZn (by simp) (λz hz=>by simp) (by simp) hkZ rfl rfl rfl (by simp)
  (λi h=>absurd h (adT i)) (λk hk=>by cases hk) hh (λb hb=>by cases hb) (λb hb=>by cases hb) (λh=>by cases h) hlen
  (λi p q=>?_) hrd hrh hc
 ·rw[AV.bM hx]at key;have e:fU Z++cq (aG [] [] kh) false [] []++cq (aG [] [] kh) false [] []=fU Z:=by simp[cq]
  rw[e]at key;exact⟨x,_,rds,κ',key,hK⟩
 ·rcases hargs i p q with⟨h1,h2⟩|⟨ks,h1,h2⟩
  ·exact .inl ⟨AV.eB h1,by rw[AV.bM h1];exact h2⟩
  ·refine .inr ⟨ks,h1,λk hk=>?_⟩;obtain⟨z,hz,rfl⟩:=List.mem_map.1 (h2 k hk);have hn:((fU Z).map (·.1)).Nodup:=by rw[nE];exact hZn
   exact⟨true,z.2.1,z.2.2,lB hn (by simp only[fU,adX];grind)⟩
theorem ag.Tx{us:List AV}{K:AV->List (Key×LB)->List Key->Nat->Prop}(κ' kh:Key)(own:Bool)(sel nk:List Key)(σ σ' ν:List LB)(rds:List Key)
 (hc:aD c.P c.G f us σ (.ret x σ' ν)) (hn:(sel++nk).Nodup) (hkh:kh∉sel++nk) (hl1:sel.length=σ.length) (hl2:σ'.length=σ.length) (hl3:nk.length=ν.length) (hb:σ.length<=1000)
 (hsel:∀i (h:i<sel.length) (h':i<σ.length),(lv sel[i]).as σ[i] (aG sel nk kh)) (hnk:∀k∈nk,lv k=.hole) (hh:lv kh=.hole) (hpass:∀b∈σ,b.pass=true) (hnh:∀b,b∈σ++σ'++ν->b≠.hole)
 (hown:own=true->∀k∈sel,(lv k).I6=true) (hlen:us.length=xs.length)
 (hargs:∀i (h:i<xs.length) (h':i<us.length),us[i].bF=true/\xs[i]=us[i].bJ (aG sel nk kh))
 (hrd:∀a∈xs,∀k∈pz lv a,k∈rds) (hrh:kh∈rds)
 (hK:K (x.bJ (aG sel nk kh)) (cq (aG sel nk kh) own sel σ'++cq (aG sel nk kh) own nk ν) rds κ'):ag c f xs lv K:=by
 have key:=cw.gen (c:=c) (f:=f) (as:=xs) (lv:=lv) us [] sel nk kh σ σ' ν x own rds (λz hz=>by cases hz) (by simp) (by omega) (λz hz=>by cases hz) (by omega) (λz hz=>by cases hz) hl1 hl2 hl3 hb hsel hnk hh hpass (by omega) hown hlen (λi p q=>.inl (hargs i p q)) (λa ha k hk=>.inl (hrd a ha k hk)) hrh hc;have e:fU []++cq (aG sel nk kh) own sel σ'++cq (aG sel nk kh) own nk ν=cq (aG sel nk kh) own sel σ'++cq (aG sel nk kh) own nk ν:=by simp[fU]
 rw[e]at key;exact⟨_,_,rds,κ',key,hK⟩
theorem aD.SW{jd:Key->LB}(hf:P.funcs[f]?=some fn)(hb:fn.body=some code)(hσ:bu σ []=jd)
 (h:∀z:Ev,AW ⟨P,G,z.w,z.F,z.W,fn.ntmps,jd,z.b⟩ none code ⟨λt=>args.getD t .undef,jd⟩ 1000 (I8 ⟨P,G,z.w,z.F,z.W,fn.ntmps,jd,z.b⟩ fn x σ' ν)) (hl:Nat.ble args.length fn.ntmps=true:=by kernel_rfl):aD P G f args σ (.ret x σ' ν):=
 aD.IQ hf hb (adE hl) λ⟨_,_,w,F,W,_,q,b⟩ h1 h2 h3 h4=>by subst hσ;cases h1;cases h2;cases h3;cases h4;exact h ⟨w,F,W,λ_=>.hole,b⟩
theorem DY(σ ν:List LB)(k:Nat):bu σ ν k=if k<1000 then σ.getD k .hole else ν.getD (k-1000) .hole:=rfl
theorem BY(σ:List LB)(b:LB)(h:σ.length<1000):bu (σ++[b]) []=au (bu σ []) σ.length b:=by
 refine funext λ(k:Nat)=>?_;unfold au;simp only[DY]
 grind
theorem Oe(σ ν:List LB)(b:LB):bu σ (ν++[b])=au (bu σ ν) (1000+ν.length) b:=by
 refine funext λ(k:Nat)=>?_;unfold au;simp only[DY]
 by_cases h2:k<1000
 ·grind
 ·rw[if_neg h2,if_neg h2]
  by_cases hk:k=1000+ν.length
  ·simp_all
  grind
theorem Du(a b c:LB):bu [a,b,c] []=au (au (au (λ_=>.hole) 0 a) 1 b) 2 c:=by
 have h:=BY [a,b] c (by simp);rw[show [a,b]++[c]=[a,b,c] from rfl]at h;rw[h];have h:=BY [a] b (by simp);rw[show [a]++[b]=[a,b] from rfl]at h;rw[h,tU];rfl
theorem Ur(w:World)(a:Addr)(cap:Nat)(n:Int)(h:w.cell? (a.add 0)=some (.int .u8 n)):(Conv.bytesToString (.slice (some a) 1 cap)).run P w=.ok (.string ⟨#[UInt8.ofNat n.toNat]⟩) w:=by
 have h1:=run_loadCells (P:=P) w a 1 (λ_=>Value.int .u8 n) (λj hj=>by
  grind)
 simp only[Conv.bytesToString,cn,h1,iL];rfl
section
variable {c:Ctx}{r:Option Nat}{ops:Array Oper}{o:Oper}{s0:az}
theorem FQ{x:Operand}{κ:Key}{n:Int}(hd:∀d,o.dst=some d->d<c.n)(ho:o.op=.convert S T x)
 (hx:s.val c.G x=.c (.aE κ off 1 1)) (hk:s.lv κ=.cells own fz T' cs) (hc:cs[off]?=some (.d (.int .u8 n))) (hS:fk c.P S=some (e,1)) (he:c.P.underlying e=some (.int .u8)) (hT:cA c.P T=true) :
 cx c o s (s.put o.dst (.c (.d (.str [UInt8.ofNat n.toNat])))):=
 cx.aV hd λF β a w hs=>by
  have hv:=hx▸hs.val x;obtain⟨hv,_⟩:=hv;simp only[Vw.cN,hk]at hv;obtain⟨cap,hv,hcap,hsz⟩:=hv;have hb:=hs.bU κ;unfold Vw.bU at hb;simp only[hk]at hb;obtain⟨arr,b1,b2,b3,b4,b5⟩:=hb;obtain⟨hoff,hce⟩:=List.getElem?_eq_some_iff.1 hc;have h3:=b3 off hoff (by omega);rw[hce]at h3;have h4:=Vw.gm (V:=Vw.mk F β s.lv w) h3
  have hcell:w.cell? ((⟨β κ,off,none⟩:Addr).add 0)=some (.int .u8 n):=by
   have:(⟨β κ,off,none⟩:Addr).add 0=⟨β κ,off,none⟩:=by simp[Addr.add]
   rw[this,gu b1 (by omega),h4]
  refine⟨.string ⟨#[UInt8.ofNat n.toNat]⟩,?_,Vw.tg _ [UInt8.ofNat n.toNat] (by simp)⟩;have hu:=(dN hS).1;simp only[execOp,ho,hv,convert,cn,run_underlying hu,run_underlying (iw hT),iL,run_underlying he,Ur w _ cap n hcell];rfl
theorem cQ.Nh{x:Operand}{κ:Key}{n:Int}(hd:∀d,o.dst=some d->d<c.n)(hw:eK ops o.guard s0.fr=some true)(ho:o.op=.convert S T x)
 (hx:s0.val c.G x=.c (.aE κ off 1 1)) (hk:s0.lv κ=.cells own fz T' cs) (hc:cs[off]?=some (.d (.int .u8 n))) (hS:fk c.P S=some (e,1)) (he:c.P.underlying e=some (.int .u8)) (hT:cA c.P T=true) :
 cQ c r ops o s0 ⟨.c (.d (.str [UInt8.ofNat n.toNat])),[],[κ]⟩:=by
 refine cQ.qo hw (λcl hcl=>by grind) (λs h1 h3=>?_);have e1:s.val c.G x=s0.val c.G x:=h1 x (by rw[ho];simp[Op.operands]);have e4:s.lv κ=s0.lv κ:=h3.1 κ (by simp);exact FQ hd ho (e1.trans hx) (e4.trans hk) hc hS he hT
end
theorem mb.Nh{r:Option Nat}(κ':Nat){x:Operand}{κ:Key}{n:Int}
 (hd:cR c.n [o]=true) (hg:o.guard=none) (ho:o.op=.convert S T x)
 (hx:s.val c.G x=.c (.aE κ off 1 1)) (hk:s.lv κ=.cells own fz T' cs) (hc:cs[off]?=some (.d (.int .u8 n))) (hS:fk c.P S=some (e,1)) (he:c.P.underlying e=some (.int .u8)) (hT:cA c.P T=true)
 (hK:mb c r ops os (az.put ⟨s.fr,bk s.lv []⟩ o.dst (.c (.d (.str [UInt8.ofNat n.toNat])))) κ' K):mb c r ops (o::os) s κ0 K:=by
 refine mb.Tv κ' (cQ.Nh (λd hd'=>?_) (by rw[hg];rfl) ho hx hk hc hS he hT) hK;simp only[cR,aed,ae9,afa,hd']at hd
 grind
theorem aA.bO(h:aA c F β s a w){κ:Key}(i sz:Nat)
 (hk:s.lv k=.cells own false T cs) (hi:cs[i]?=some (.d .nilsl)) (hκ:s.lv κ=.hole):aA c F β ⟨s.fr,au (au s.lv κ .bO) k (.cells own false T (cs.set i (.aE κ 0 0 sz)))⟩ a w:=by
 have hne:κ≠k:=λe=>by grind
 have hlv:∀k',k'≠k->k'≠κ->au (au s.lv κ .bO) k (.cells own false T (cs.set i (.aE κ 0 0 sz))) k'=s.lv k':=λk' h1 h2=>by simp_all
 have hkk:au (au s.lv κ .bO) k (.cells own false T (cs.set i (.aE κ 0 0 sz))) κ=.bO:=by rw[aF _ _ hne,aC]
 refine h.step (λ_ h=>h) (λ_ _=>rfl) (λk'=>?_) (λ_ _ _=>rfl) (λ_=>aU _) (λk' hK=>?_) (λk1 k2 h1 h2=>?_) (λ_ h=>.inl h) (aU _) (λ_ _ _=>rfl)
 ·by_cases e:k'=k
  ·subst e;rw[aC,hk];exact trivial
  ·by_cases e2:k'=κ
   ·subst e2;rw[hκ];exact trivial
   ·rw[hlv _ e e2];exact LB.bG _
 ·by_cases e:k'=k
  ·subst e;have hb:=h.bU k';unfold Vw.bU at hb⊢;simp only[hk]at hb;simp only[aC];obtain⟨arr,b1,b2,b3,b4,b5⟩:=hb;refine⟨arr,b1,by grind,λj p q=>?_,b4,b5⟩;have hp:j<cs.length:=by simpa using p
   rw[List.getElem_set]
   by_cases e3:i=j
   ·subst e3;rw[if_pos rfl];have hv:=b3 i hp q;rw[show cs[i]=.d .nilsl by grind]at hv;obtain⟨hr,ho⟩:=hv;refine⟨?_,ho⟩;show Vw.cN _ _ _ _ _ _;unfold Vw.cN;simp only[hkk]
    have inv:∀v:Value,Rd (l7 w F) v .nilsl->v=.slice none 0 0:=λv h=>by
     generalize hd:DV.nilsl=d at h
     cases h<;>first|rfl|cases hd
    exact⟨inv _ hr,trivial,trivial⟩
   ·rw[if_neg e3];exact hK.cv (b3 j hp q)
  ·by_cases e2:k'=κ
   ·subst e2;unfold Vw.bU;grind
   ·exact Vw.bQ (h.bU k') hK (hlv _ e e2) rfl rfl (λ_ h=>h)
 ·have g:∀k',(au (au s.lv κ .bO) k (.cells own false T (cs.set i (.aE κ 0 0 sz))) k').live=true->(s.lv k').live=true:=λk' hl=>by
   by_cases e:k'=k
   ·subst e;rw[hk];rfl
   ·by_cases e2:k'=κ
    ·subst e2;rw[hkk]at hl;cases hl
    grind
  exact h.inj _ _ (g _ h1) (g _ h2)
theorem AW.bO{r:Option Nat}{κ1:Nat}{x:Code}(k κ:Key)(i sz:Nat)
 (hk:s.lv k=.cells own false T cs) (hi:cs[i]?=some (.d .nilsl)) (hκ:s.lv κ=.hole) (h:AW c r x ⟨s.fr,au (au s.lv κ .bO) k (.cells own false T (cs.set i (.aE κ 0 0 sz)))⟩ κ1 Q):AW c r x s κ1 Q:=
 λF β a w hs=>h F β a w (hs.bO i sz hk hi hκ)
theorem dQ.WB(m:List (Key×Key×LB))(d:List Key)(kh:Key)(l:List (Nat×AV))(m':List (Key×Key×LB))(hm':m'=m++d.map λk=>(k,k,.dead))(hlv':lv'=bk (λ_=>.hole) (m'.map λe=>(e.1,e.2.2)))
 (hc:∀k,c.jd k≠.hole->lv' k=.dead\/aQ m' kh k=k)
 (hn1:(m'.map (·.1)).Nodup) (hn2:(m.map (·.2.1)).Nodup) (hh:s.lv kh=.hole) (has:∀e∈m,(s.lv e.2.1).like e.2.2 (aQ m' kh)) (hd:∀k∈d,s.lv k≠.hole) (hl:∀p∈l,p.2.bF=true/\s.fr p.1=p.2.bJ (aQ m' kh)):dQ c s ⟨aJ l,lv'⟩ (aQ m' kh):=by
 have hk:∀k,lv' k=match m'.find? (λe=>e.1==k)with|some e=>e.2.2|none=>.hole:=λk=>by rw[hlv'];exact CG hn1
 have hmem:∀e∈m',e∈m\/(e.2.1∈d/\e.2.2=.dead):=λe he=>by
  grind
 refine⟨λk=>?_,λk k' h1 h2 e=>?_,λt=>?_,hc⟩
 ·show(s.lv (aQ m' kh k)).as (lv' k) _;rw[hk]
  cases h:m'.find? (λe=>e.1==k)with
  |some e=>
   have e1:aQ m' kh k=e.2.1:=by unfold aQ;rw[h]
   rw[e1];rcases hmem e (afb h)with h1|⟨h1,h2⟩
   ·grind
   ·show LB.as _ e.2.2 _;rw[h2];exact hd _ h1
  |none=>
   have e1:aQ m' kh k=kh:=by unfold aQ;rw[h]
   rw[e1];exact hh
 ·have h1':(lv' k).live=true:=h1;have h2':(lv' k').live=true:=h2;rw[hk]at h1' h2'
  cases f1:m'.find? (λe=>e.1==k)with
  |none=>rw[f1]at h1';cases h1'
  |some e1=>
   cases f2:m'.find? (λe=>e.1==k')with
   |none=>rw[f2]at h2';cases h2'
   |some e2=>
    rw[f1]at h1';rw[f2]at h2';have g1:aQ m' kh k=e1.2.1:=by unfold aQ;rw[f1]
    have g2:aQ m' kh k'=e2.2.1:=by unfold aQ;rw[f2]
    rw[g1,g2]at e;have j1:=afr f1;have j2:=afr f2;simp only[beq_iff_eq]at j1 j2;rcases hmem e1 (afb f1)with i1|⟨-,i1⟩
    ·rcases hmem e2 (afb f2)with i2|⟨-,i2⟩
     ·have:e1=e2:=by
       obtain⟨a,ha,rfl⟩:=List.mem_iff_getElem.1 i1;obtain⟨b,hb,rfl⟩:=List.mem_iff_getElem.1 i2
       have hab:a=b:=by
        refine(List.getElem_inj (xs:=m.map (·.2.1)) (i:=a) (j:=b) (h₀:=by grind) (h₁:=by grind) hn2).1 ?_;simpa using e
       subst hab;rfl
      grind
     ·simp only[i2]at h2';cases h2'
    ·simp only[i1]at h1';cases h1'
 ·rcases jI (P:=λt x=>x.bF=true/\s.fr t=x.bJ (aQ m' kh)) hl t with h|⟨h1,h2⟩
  ·grind
  grind
def vC(c:Ctx)(r:Option Nat)(ops:Array Oper)(os:List Oper)(s:az)(κ:Nat)(acc:List vf)(K:az->Nat->List vf->Prop):Prop:=
 ∃es s' κ',fQ c r ops os es s s'/\K s' κ' ((es.map uK).reverse++acc)
section
variable {c:Ctx}{r:Option Nat}{ops:Array Oper}
theorem vC.done{acc:List vf}{K:az->Nat->List vf->Prop}(h:K s κ acc):vC c r ops [] s κ acc K:=⟨[],s,κ,rfl,h⟩
theorem vC.run{acc:List vf}{K:az->Nat->List vf->Prop}(n:Nat)(hd:cR c.n (os.take n)=true)
 (h:aS c (kR (ops.toList.map (·.dst)) (os.take n)) s κ acc λs' κ' acc'=>vC c r ops (os.drop n) s' κ' acc' K):vC c r ops os s κ acc K:=by
 have e:∀l:List vf,(l.map λt=>(⟨.undef,t.1.map λk=>(k,LB.hole),t.2⟩:Fx)).map uK=l:=λl=>by
  rw[ady];refine(adI λt _=>?_).trans (aeS l);simp only[Function.comp,uK,ady];show((t.1.map λk=>k),t.2)=t;simp
 rw[<-e acc]at h;obtain⟨es,s',κ',h1,es2,s2,κ2,h2,h3⟩:=gy.chain (r:=r) hd (jU h);refine⟨es++es2,s2,κ2,?_,?_⟩
 ·have:=fQ.append h1 h2
  simp_all
 simp_all
theorem vC.dF{acc:List vf}{K:az->Nat->List vf->Prop}(κ':Nat)(hd:cR c.n [o]=true)(hg:o.guard=none)
 (h:Am.dF c.P o.op (o.op.operands.toList.map (s.val c.G)) s.lv κ=some (x,us,rds)) (hK:vC c r ops os (az.put ⟨s.fr,bk s.lv us⟩ o.dst x) κ' ((us.map (·.1),rds)::acc) K):vC c r ops (o::os) s κ acc K:=by
 obtain⟨es,s',κ2,h1,h2⟩:=hK;refine⟨⟨x,us,rds⟩::es,s',κ2,⟨cQ.NL (λd hd'=>?_) (by rw[hg];rfl) h,h1⟩,?_⟩
 ·simp only[cR,aed,ae9,afa,hd']at hd
  grind
 ·rw[ac4,List.reverse_cons,adq];exact h2
theorem AW.GV(hm:c.P.follows .mixedOrders=true)(hst:iB ops=true)(h:vC c r ops ops.toList s κ [] λs' κ' acc=>v8 ops acc.reverse=true/\Q .normal s' κ'):AW c r (.region id ops true) s κ Q:=by
 intro F β a w hs;obtain⟨es,s',κ',h1,h2,h3⟩:=h;rw[adv,List.reverse_reverse,<-CR]at h2;exact h1.draw hm hst h2 (λF' β' a' w' h'=>⟨.normal,s',κ',F',β',h3,h',rfl⟩) hs
end
structure Tw where
 e:Fx
 lv:Key->LB
 sf:Option (Key×LB)
variable {acc:List Tw}
open Classical in
noncomputable def Tw.fw(t:Tw):Fw:=⟨t.e,t.lv,false,λk b=>match t.sf with|some (W,B)=>decide (k=W/\(b=t.lv W\/b=B))|none=>false⟩
def Tw.D5(t:Tw):Fx:=match t.sf with|some _=>⟨t.e.x,[],[]⟩|none=>t.e
def Tw.OK(t:Tw):Prop:=∀W B,t.sf=some (W,B)->t.e.us=[]/\t.e.rds=[W]
def flg(ts:List Tw):List (Tw×Nat):=ts.zipIdx.filter λp=>p.1.sf.isSome
def wrt(ts:List Tw):List (Tw×Nat):=ts.zipIdx.filter λp=>!p.1.e.us.isEmpty
def Jo(ops:Array Oper)(i j:Nat):Bool:=((gY ops.toList []).getD (max i j) 0).testBit (min i j)
def Vj(ops:Array Oper)(ts:List Tw):Prop:=∀p∈flg ts,∀q∈wrt ts,∀W B,p.1.sf=some (W,B)->W∈q.1.e.us.map (·.1)->Jo ops p.2 q.2=true \/
 ((q.1.lv W=p.1.lv W\/q.1.lv W=B)/\(bk (λ_=>.hole) q.1.e.us W=p.1.lv W\/bk (λ_=>.hole) q.1.e.us W=B))
theorem Tw.Ep{t:Tw}{B:LB}(h:t.sf=some (W,B)):t.fw.soft k b=true↔k=W/\(b=t.lv W\/b=B):=by
 simp[Tw.fw,h]
def rN(c:Ctx)(r:Option Nat)(ops:Array Oper)(os:List Oper)(s:az)(acc:List Tw)(K:az->List Tw->Prop):Prop:=
 ∃ts s',jL c r ops os (ts.map Tw.fw) s s'/\(∀t∈ts,t.OK)/\K s' (acc++ts)
section
variable {c:Ctx}{r:Option Nat}{ops:Array Oper}
theorem rN.done{K:az->List Tw->Prop}(h:K s acc):rN c r ops [] s acc K:=⟨[],s,rfl,(λ_ h=>by cases h),by grind⟩
theorem rN.put{K:az->List Tw->Prop}(t:Tw)(he:ng c r ops o s t.e t.fw.ok)(hl:t.lv=s.lv)(ht:t.OK)(h:rN c r ops os (t.e.app o.dst s) (acc++[t]) K):rN c r ops (o::os) s acc K:=by
 obtain⟨ts,s',h1,h2,h3⟩:=h;refine⟨t::ts,s',⟨he,hl,h1⟩,λx hx=>?_,by grind⟩
 grind
theorem rN.Tv{K:az->List Tw->Prop}(he:cQ c r ops o s ⟨x,us,rds⟩)(h:rN c r ops os (az.put ⟨s.fr,bk s.lv us⟩ o.dst x) (acc++[⟨⟨x,us,rds⟩,s.lv,none⟩]) K):rN c r ops (o::os) s acc K:=by
 refine rN.put ⟨⟨x,us,rds⟩,s.lv,none⟩ (λs1 h1 h2=>he s1 h1 ?_) rfl (λW B h=>by cases h) h;rcases h2 with⟨h2,-⟩|⟨-,h2|⟨-,k,-,h2⟩⟩
 ·cases h2
 ·exact h2
 ·cases h2
theorem rN.soft{K:az->List Tw->Prop}(B:LB)(he:cQ c r ops o s ⟨x,[],[W]⟩)(he':cQ c r ops o ⟨s.fr,au s.lv W B⟩ ⟨x,[],[W]⟩)(h:rN c r ops os (az.put ⟨s.fr,s.lv⟩ o.dst x) (acc++[⟨⟨x,[],[W]⟩,s.lv,some (W,B)⟩]) K):rN c r ops (o::os) s acc K:=by
 refine rN.put ⟨⟨x,[],[W]⟩,s.lv,some (W,B)⟩ (λs1 h1 h2=>?_) rfl (λW' B' h=>by grind) h
 have fin:∀b,s1.lv W=b->(b=s.lv W\/b=B)->∀F β a w K Q,aA c F β s1 a w->(∀F' β' a' w',aA c F' β' (Fx.app ⟨x,[],[W]⟩ o.dst s1) a' w'->K a' w') ->
  if Region.wanted o (yielded ops a.tmps)then o.wpIn (rM r) 0 c.P a w K Q else K (a.put o.dst Go.undef) w:=by
  intro b hb hor;rcases hor with e|e
  ·exact he s1 h1 ⟨λk hk=>by grind,λp hp=>by cases hp⟩
  ·exact he' s1 h1 ⟨λk hk=>by simp_all,λp hp=>by cases hp⟩
 rcases h2 with⟨h2,-⟩|⟨-,h2|⟨-,k,h3,h2⟩⟩
 ·cases h2
 ·exact fin _ rfl (.inl (h2.1 W (List.mem_singleton.2 rfl)))
 ·obtain⟨h4,h5⟩:=(Tw.Ep (t:=⟨⟨x,[],[W]⟩,s.lv,some (W,B)⟩) rfl).1 h2
  grind
theorem rN.op{K:az->List Tw->Prop}(hd:cR c.n [o]=true)(hg:o.guard=none)(h:gJ c o s κ λx us rds _=>rN c r ops os (az.put ⟨s.fr,bk s.lv us⟩ o.dst x) (acc++[⟨⟨x,us,rds⟩,s.lv,none⟩]) K):rN c r ops (o::os) s acc K:=by
 obtain⟨x,us,rds,_,he,hK⟩:=gJ.Tv (r:=r) (ops:=ops) (λd hd'=>by simp only[cR,aed,ae9,afa,hd']at hd;grind) (by rw[hg];rfl) h;exact rN.Tv he hK
theorem rN.read{K:az->List Tw->Prop}(κ:Nat)(W:Key)(B:LB)(hd:cR c.n [o]=true)(hg:o.guard=none)
 (h1:cX c.P o.op (o.op.operands.toList.map (s.val c.G)) s.lv κ=some (x,[],[W],True)) (h2:cX c.P o.op (o.op.operands.toList.map (s.val c.G)) (au s.lv W B) κ=some (x,[],[W],True))
 (h:rN c r ops os (az.put ⟨s.fr,s.lv⟩ o.dst x) (acc++[⟨⟨x,[],[W]⟩,s.lv,some (W,B)⟩]) K):rN c r ops (o::os) s acc K:=by
 have hd2:∀d,o.dst=some d->d<c.n:=λd hd'=>by simp only[cR,aed,ae9,afa,hd']at hd;grind
 exact rN.soft B (cQ.plain hd2 (by rw[hg];rfl) h1 trivial) (cQ.plain (s0:=⟨s.fr,au s.lv W B⟩) hd2 (by rw[hg];rfl) h2 trivial) h
theorem AW.Xa(κ':Nat)(hm:c.P.follows .mixedOrders=true)(hst:iB ops=true)(h:rN c r ops ops.toList s [] λs' ts=>v8 ops (ts.map λt=>uK t.D5)=true/\Vj ops ts/\Q .normal s' κ'):AW c r (.region id ops true) s κ Q:=by
 intro F β a w hs;obtain⟨ts,s',h1,h2,h3,h4,h5⟩:=h;rw[adM]at h3 h4;have hlen:ts.length=ops.size:=by have:=h1.len;simpa using this
 have h3':En ops (ts.map Tw.D5)=true:=by rw[CR,ady];exact h3
 obtain⟨g1,g2⟩:=sj (by grind) hst h3'
 have hbit:∀i j,i<j->Jo ops i j=true\/Jo ops j i=true->wT ops i j:=λi j hij hb=>by
  refine jw (ops:=ops) ops.toList [] (by simp) (λi j h=>by simp at h) i j ?_;rcases hb with hb|hb<;>unfold Jo at hb
  ·rwa[Nat.max_eq_right (by omega),adO (by omega)]at hb
  grind
 have hz:∀(i:Nat) f,ts[i]?=some f->(f,i)∈ts.zipIdx:=λi f hf=>by grind
 refine h1.draw hm g1 (λi j o o' f g hij ho ho' hf hg=>?_) (λF' β' a' w' h'=>⟨.normal,s',κ',F',β',h5,h',rfl⟩) hs;rw[aet,ado]at hf hg;obtain⟨f,hf,rfl⟩:=hf;obtain⟨g,hg,rfl⟩:=hg
 by_cases hA:wT ops i j
 ·grind
 right;obtain⟨a1,a2,a3⟩:=(g2 i j o o' f.D5 g.D5 hij ho ho' (by grind) (by grind)).resolve_left hA;refine⟨a1,(λh=>by cases h),(λh=>by cases h),?_⟩
 have key:∀{p q:Tw}{n m:Nat},ts[n]?=some p->ts[m]?=some q->¬(Jo ops n m=true)->∀{W B},p.sf=some (W,B)->∀k∈q.e.us.map (·.1),k∉p.e.rds\/(p.e.us=[]/\p.e.rds=[k]/\p.fw.soft k (q.lv k)=true/\p.fw.soft k (bk (λ_=>.hole) q.e.us k)=true):=by
  intro p q n m hp hq hb W B hs k hk;obtain⟨b1,b2⟩:=h2 p (afp hp) W B hs;rw[b2]
  by_cases hkW:k=W
  ·subst hkW;refine .inr ⟨b1,rfl,?_⟩;rw[Tw.Ep hs,Tw.Ep hs];have hq2:q.e.us≠[]:=λe=>by grind
   obtain⟨c1,c2⟩:=(h4 (p,n) (List.mem_filter.2 ⟨hz n p hp,by grind⟩) (q,m) (List.mem_filter.2 ⟨hz m q hq,by grind⟩) k B hs hk).resolve_left hb
   grind
  ·grind
 have hb1:¬(Jo ops i j=true):=λh=>hA (hbit i j hij (.inl h))
 have hb2:¬(Jo ops j i=true):=λh=>hA (hbit i j hij (.inr h))
 have noF:∀{p:Tw}{n:Nat},ts[n]?=some p->∀{W B},p.sf=some (W,B)->p.e.us=[]:=λhp _ _ hs=>(h2 _ (afp hp) _ _ hs).1
 cases hfs:f.sf with
 |some fs=>
  obtain⟨W,B⟩:=fs;have hu:f.e.us=[]:=noF hf hfs;refine⟨λk hk=>?_,λk hk=>?_,λk hk=>?_⟩
  ·change k∈f.e.us.map _ at hk;grind
  ·change k∈f.e.us.map _ at hk;grind
  ·rcases key hf hg hb1 hfs k hk with h|⟨q1,q2,q3,q4⟩
   ·exact .inl h
   ·exact .inr ⟨q1,q2,q4⟩
 |none=>
  have ef:f.D5=f.e:=by unfold Tw.D5;rw[hfs]
  cases hgs:g.sf with
  |some gs=>
   obtain⟨W,B⟩:=gs;have hu:g.e.us=[]:=noF hg hgs;refine⟨λk hk=>?_,λk hk=>?_,λk hk=>?_⟩
   ·show k∉g.e.us.map _;grind
   ·rcases key hg hf hb2 hgs k hk with h|⟨q1,q2,q3,q4⟩
    ·exact .inl h
    ·exact .inr ⟨q1,q2,q3⟩
   ·change k∈g.e.us.map _ at hk;grind
  |none=>
   have eg:g.D5=g.e:=by unfold Tw.D5;rw[hgs]
   rw[ef,eg]at a2 a3;exact⟨λk hk=>(a2 k hk).1,λk hk=>.inl (a2 k hk).2,λk hk=>.inl (a3 k hk)⟩
end
end Go.Am
