/- Helpers: an abstract machine for Go functions, and walks of functions of the program. -/
import Derived.Test.YtfkfimmphlpllaaGreatDoorHn12

set_option linter.all false
set_option maxHeartbeats 8000000
set_option maxRecDepth 100000
namespace Go.Am
variable {lv lv':Key→LB}{own o2 fz o1 o3:Bool}{k a b d:Key}{p:PD}{x:AV}{V:NS}{av lf kF lf0:List Int}{f f0:Int × Int × Int}{κ n q i t sz q0:Nat}{T E:TypeId}{K:AV→List (Key × LB)→List Key→Nat→Prop}{c0:Ctx}{s:au}{fr:Nat→AV}{fn:Func}{o:Option (List (List DV))}{e:List DV}{l:List Nd}{ν:List LB}{cs:List CV}{r:Option Nat}{Q:Ex→au→Nat→Prop}{n0 n1 n2:CV}
abbrev abX:=@List.mem_take_iff_getElem
abbrev abp:=@List.forall_mem_cons
abbrev abI:=@List.range_succ
open Go.Am.Ty Go.Proofs N
def Yv (p:PD)(n:Int):Int × Int:=if (fL p).2.2≠0 then (0,(fL p).2.2) else if 0≤n∧n<p.nn then (fu p n,0) else (0,7)
abbrev Yh (v:Int × Int):AV:=.tup [.c (.d (.int .i64 v.1)),.c (.d (.int .i64 v.2))]
abbrev YO (p:PD)(M S:List Bool):Key→LB:=aD (aD (aD (fun _=>.hole) 0 (.cells true false 27 p.cs)) 1 (.cells true false 4 (bK M))) 2 (.cells true false 4 (bK S))
abbrev nM (p:PD)(M S:List Bool):List (Key × Key × LB):=[(0,0,.cells true false 27 p.cs),(1,1,.cells true false 4 (bK M)),(2,2,.cells true false 4 (bK S))]
theorem jz.SD {c:Ctx}{X Y:AV}{u:Nat}{ks:List Key}(hr:fn.results=#[.tmp t,.tmp u]) (hx:s.fr t=X) (hy:s.fr u=Y) (hn:X.bV=true) (hm:Y.bV=true) (hd:fT s.lv (.tup [X,Y])=some (x,ks)):jz c fn x .ret s κ:=
 ⟨.tup [X,Y],ks,by rw [hr];simp [cM,gz,iB,hx,hy,hn,hm],hd⟩
theorem HD{l:List Bool}(h:lv k=.cells own fz T (bK l)) (hl:l.length≤1000):cC lv (n+1) (.aI k 0 l.length 1)=some (.sl (bD l),[k]):=by
 have h1:((bK l).drop 0).take (l.length*1)=(l.map fun x=>DV.bool x).map CV.d:=by rw [YV,aa5,PR];exact ZH (by simp)
 have h2:0+l.length*1≤(bK l).length∧l.length≤9223372036854775807:=⟨by simp,by omega⟩
 have h3:l.length=(l.map fun x=>DV.bool x).length:=by simp
 simp only [cC,h];rw [if_pos h2,h1,sg];simp only [Zb];rw [h3,pn,Y7];rfl
theorem MT (lv:Key→LB)(n:Nat)(o:Option (List (List DV))):cC lv n (fC o)=some (sD o,[]):=by cases o <;> cases n <;> rfl
def Jj (p:PD)(s:NS):List DV:=p.zy++[.sl (bD s.1),.sl (bD s.2)]
theorem YE (a b c d e f g h x y:CV):fK Tryz.prog 84 [0,1,2] [.agg [a,b,c,d,e,f,g,h],.c x,.c y]=some (.agg [a,b,c,d,e,f,g,h,x,y],[],[],True):=by kernel_rfl
theorem P4{s:NS}(h1:s.1.length≤1000) (h2:s.2.length≤1000) {own' fz' own'' fz'':Bool}{T' T'':TypeId}(h3:lv 3=.cells own fz T (mC p 1 2 s.1.length s.2.length)) (g1:lv 1=.cells own' fz' T' (bK s.1)) (g2:lv 2=.cells own'' fz'' T'' (bK s.2)) :
 fT lv (.c (.ptr 3 0))=some (.c (.d (.ptr (Jj p s))),[3,1,2]):=by
 have e1:=HD (n:=6) g1 h1;have e2:=HD (n:=6) g2 h2
 have e0:cC lv 8 (.ptr 3 0)=(fG (cC lv 7) (mC p 1 2 s.1.length s.2.length)).map fun q=>(.ptr q.1,3::q.2):=by
  simp only [cC,h3];rw [if_pos (Y4 _),YV]
 have ed:∀ x:DV,cC lv 7 (.d x)=some (x,[]):=fun x=>rfl
 show (cC lv 8 (.ptr 3 0)).map _=_;rw [e0];simp [fG,MT,e1,e2,ed,Jj,PD.zy]
theorem yg (m:Int)(p:PD)(hp:p.ok)(hg:p.good):aa Tryz.prog (GG m) 46 [p.A] (.c (.d (.ptr (Jj p (bA p))))):=by
 obtain⟨hn1,hn2,hn3,-,-,hnn,hns⟩:=gx hg.gen;obtain⟨hr0,hr1,-⟩:=hg.res;have hv:=oW hg;have hrep:∀ n,kB n [CV.d (.bool false)]=bK (List.replicate n false):=fun n=>by rw [Jx];simp [kB]
 have hrep':∀ n,List.replicate n (CV.d (.bool false))=bK (List.replicate n false):=fun n=>(Jx n).symm
 have hl0:nE p (List.replicate p.nn false,List.replicate p.ns false):=⟨by simp,by simp⟩
 have hc:=Ij m p hp hg p.nn p.res.toNat _ hv.res hl0 (by unfold zH;simp);have hl:=(rR hv p.nn p.res.toNat _ hv.res hl0 (by unfold zH;simp)).1.len;change aG _ _ _ _ _ (.ret _ (mS p (bA p)) _) at hc;change nE p (bA p) at hl;rw [show ((p.res.toNat:Nat):Int)=p.res by omega] at hc;generalize bA p=V at *
 refine aa.ed Tryz.func46 rfl fun _=>aab ?_;refine AW.d5 mixed @xB @QO hrep hrep' @YE ?_;refine aai fun K hK=>?_;simp;refine ag.mk 4 9 3 1 2 true hc ?_;simp
 repeat refine ah ?_
 apply hK;refine aab ?_;refine aad (jz.tmp rfl (X:=.c (.ptr 3 0)) (ks:=[3,1,2]) (by simp) ?_);exact P4 (own:=true) (fz:=false) (T:=84) (own':=true) (fz':=false) (T':=4) (own'':=true) (fz'':=false) (T'':=4) (by rw [hl.1];omega) (by rw [hl.2];omega) (by simp) (by simp) (by simp)
def Xz (s:NS)(e:Int):AV:=.tup [.c (bC (some s.1)),.c (bC (some s.2)),.c (.d (.int .i64 e))]
theorem Fb (m:Int)(p:PD)(hp:p.ok):aa Tryz.prog (GG m) 28 [p.A] (if (fL p).2.2=0 then .tup [.c (bC (some (bA p).1)),.c (bC (some (bA p).2)),.c (.d (.int .i64 0))] else .tup [.c (bC none),.c (bC none),.c (.d (.int .i64 (fL p).2.2))]):=by
 have h:=ze m p hp
 by_cases h0:(fL p).2.2=0
 ·have hn:=yg m p hp (rL hp h0);rw [if_pos h0];rw [h0] at h;generalize bA p=V at *
  refine aa.en Tryz.func28 rfl fun _=>aab ?_;refine aaa fun K hK=>aas 1 h ?_;refine aab ?_;refine aaj (aac (hK _ _ (aas 2 hn ?_)));refine aaa fun K hK=>?_;refine aaq mixed (by kernel_rfl) rfl ?_;simp [Jj,PD.zy]
  repeat refine ah ?_
  refine⟨by kernel_rfl,?_⟩
  repeat refine ah ?_
  repeat refine ah ?_
  apply hK;exact aad (aH.t3 rfl 9 (by simp [bC]) (by simp [bC]) (by simp))
 ·rw [if_neg h0];generalize (fL p).2.2=e at *
  refine aa.en Tryz.func28 rfl fun _=>aab ?_;refine aaa fun K hK=>aaA 1 h h0 ?_;refine aab ?_;refine aaf (by simp [h0] <;> omega) (aab ?_);exact aad (aH.t3 rfl 9 (by simp [bC]) (by simp [bC]) (by simp))
def At (E:TypeId):Option (List (List DV))→LB
 | none=>.bk
 | some es=>.cells true false E (es.flatten.map CV.d)
theorem J1 (es:List (List DV))(g:Key→Key):(es.flatten.map CV.d).map (CV.br g)=es.flatten.map CV.d:=by
 rw [Y7];rfl
@[simp] theorem TV (E:TypeId)(o:Option (List (List DV)))(g:Key→Key):(At E o).br g=At E o:=by
 cases o with
 | none=>rfl
 | some es=>simp only [At,LB.jU,J1]
@[simp] theorem UI (E:TypeId)(o:Option (List (List DV)))(b:Bool):(At E o).fix b=At E o:=by cases o <;> rfl
abbrev lP (p:PD)(a b c d:Key):List CV:=[.aI a 0 p.nf 2,.d (.int .i64 p.mode),.aI b 0 p.ni 3,.aI c 0 p.nn 7,.d (.int .i64 p.head),.d (.int .i64 p.tail),.aI d 0 p.ns 2,.d (.int .i64 p.res)]
structure PD.Pv (p:PD):Prop where
 f:p.nf≤1000
 i:p.ni≤1000
 n:p.nn≤1000
 s:p.ns≤1000
theorem Cn (a b c d e f g h:CV):dQ Tryz.prog 27 [a,b,c,d,e,f,g,h]=some (.agg [a,b,c,d,e,f,g,h]):=by kernel_rfl
theorem EH(h:lv k=At E o) (hs:∀ e∈sO o,e.length=sz) (hl:(sO o).length≤1000) :
 cC lv (n+1) (.aI k 0 (sO o).length sz)=some (sD o,if o.isSome then [k] else []):=by
 cases o with
 | none=>simp only [At] at h;simp only [cC,h];rfl
 | some es=>
  simp only [At] at h;have hs:∀ e∈es,e.length=sz:=hs;have hl:es.length≤1000:=hl;have h1:=rT (sz:=sz) h hs (by omega);show cC lv (n+1) (.aI k 0 es.length sz)=some (.sl es,[k])
  have hlen:es.flatten.length=es.length*sz:=by
   rw [List.length_flatten]
   have:∀ l:List (List DV),(∀ e∈l,e.length=sz)→(l.map List.length).sum=l.length*sz:=by
    intro l
    induction l with
    | nil=>intro _;simp
    | cons a l ih=>intro h;simp [ih fun x hx=>h x (by simp [hx]),h a (by simp),Nat.succ_mul];omega
   exact this es hs
  have ht:(es.flatten.map CV.d).take (es.length*sz)=es.flatten.map CV.d:=ZH (by rw [YX,hlen];exact aW _);have hl2:es.length≤9223372036854775807:=by omega
  simp only [cC,h,YX,hlen,Y5,aW,hl2,and_self,if_true,YV,ht,sg,Zb,qj es hs]
def tA:PD:=⟨none,0,none,none,0,0,none,0⟩
theorem XL:fK Tryz.prog 27 [] []=some (.agg tA.cs,[],[],True):=by kernel_rfl
theorem NR (lv:Key→LB)(p:PD)(n:Int):fT lv (.tup [p.A,.c (.d (.int .i64 n))])=some (.tup [p.A,.c (.d (.int .i64 n))],[]):=by
 obtain⟨f,a,i,nn,b,c,s,d⟩:=p
 cases f <;> cases i <;> cases nn <;> cases s <;> rfl
@[simp] theorem PD.XI (p:PD)(n:Int):(AV.tup [.agg [fC p.f,.d (.int .i64 p.mode),fC p.ins,fC p.nodes,.d (.int .i64 p.head),.d (.int .i64 p.tail),fC p.states,.d (.int .i64 p.res)],.c (.d (.int .i64 n))]).pure=true:=by
 obtain⟨f,a,i,nn,b,c,s,d⟩:=p
 cases f <;> cases i <;> cases nn <;> cases s <;> rfl
def SK (p:PD):PD:=if (fL p).2.2=0 then p else tA
def PD.QA (p:PD)(n:Int):PD:=⟨p.f,p.mode,p.ins,p.nodes,p.head,p.tail,p.states,n⟩
def R6 (p:PD)(n:Int):PD × Int:=if (fL p).2.2≠0 then (tA,(fL p).2.2) else if 0≤n∧n<p.nn∧fu p n≠1 then (p.QA n,0) else (tA,7)
def j8 (l:List Nd):List CV:=(l.flatMap Nd.e).map CV.d
def WW (l:List In):List CV:=(l.flatMap In.e).map CV.d
theorem L7 (n:Nd)(l:List Nd):j8 (n::l)=[CV.d (.int .i64 n.op),.d (.int .i64 n.a),.d (.int .i64 n.b),.d (.int .i64 n.c),.d (.int .i64 n.d),.d (.int .i64 n.f),.d (.str n.v)]++j8 l:=by
 simp [j8]
def Nd.lD (n:Nd)(x:Int):Nd:=⟨n.op,n.a,n.b,n.c,n.d,x,n.v⟩
def In.WL (n:In)(a b:List UInt8):In:=⟨n.f,a,b⟩
theorem G3 (l:List Nd):(j8 l).length=l.length*7:=by
 induction l with
 | nil=>rfl
 | cons a l ih=>rw [L7,YY,ih];simp;omega
def PD.N (p:PD):List Nd:=(sO p.nodes).map LR
def PD.I (p:PD):List In:=(sO p.ins).map Qz
theorem PD.Ya(hp:p.ok):p.N.map Nd.e=sO p.nodes:=by
 unfold PD.N;rw [Y7]
 conv=>rhs;rw [← aaM (sO p.nodes)]
 exact Zj fun e he=>(Ks (hp.nodes e he)).symm
theorem PD.DX (p:PD):p.N.length=p.nn:=by simp [PD.N,PD.nn]
def mD (lv:Key→LB)(k:Key)(E:TypeId)(o:Option (List (List DV))):Prop:=match o with
 | none=>lv k=.bk
 | some es=>∃ own fz,lv k=.cells own fz E (es.flatten.map CV.d)
theorem oQ(h:mD lv k E o) (hs:∀ e∈sO o,e.length=sz) (hl:(sO o).length≤1000) :
 cC lv (n+1) (.aI k 0 (sO o).length sz)=some (sD o,if o.isSome then [k] else []):=by
 cases o with
 | none=>exact EH (E:=E) h hs hl
 | some es=>
  obtain⟨own,fz,h⟩:=h
  have e:cC lv (n+1) (.aI k 0 (sO (some es)).length sz)=cC (aD lv k (.cells true false E (es.flatten.map CV.d))) (n+1) (.aI k 0 (sO (some es)).length sz):=by
   simp only [cC,h,az];rw [jx (f:=cC lv n) (g:=cC (aD lv k (.cells true false E (es.flatten.map CV.d))) n)];intro x hx;have hx:=aaJ (Z6 hx);obtain⟨d,_,rfl⟩:=List.mem_map.1 hx
   cases n <;> rfl
  rw [e];exact EH (E:=E) (az _ _ _) hs hl
theorem It{c:Key}(hp:p.ok) (ht:p.Pv) (h1:mD lv a 81 p.f) (h2:mD lv b 67 p.ins) (h3:mD lv c 55 p.nodes) (h4:mD lv d 69 p.states) :
 fq lv (.agg (lP p a b c d))=some (p.A,(if p.f.isSome then [a] else [])++((if p.ins.isSome then [b] else [])++((if p.nodes.isSome then [c] else [])++(if p.states.isSome then [d] else [])))):=by
 have e1:=oQ (n:=7) h1 (fun e he=>m4 (hp.f e he)) ht.f;have e2:=oQ (n:=7) h2 (fun e he=>wF (hp.ins e he)) ht.i;have e3:=oQ (n:=7) h3 (fun e he=>tj (hp.nodes e he)) ht.n;have e4:=oQ (n:=7) h4 (fun e he=>m4 (hp.states e he)) ht.s;have f1:∀ n:Int,cC lv 8 (.d (.int .i64 n))=some (.int .i64 n,[]):=fun n=>rfl
 simp only [fq,PD.nf,PD.ni,PD.nn,PD.ns,fG,e1,e2,e3,e4,f1,Zb,Zr,Zt];show some (AV.agg (p.zy.map CV.d),_)=_;rw [Cv]
def zS (k:Key)(E:TypeId):Option (List (List DV))→List (Key × TypeId × List CV)
 | none=>[]
 | some es=>[(k,E,es.flatten.map CV.d)]
theorem NY (k:Key)(E:TypeId)(o:Option (List (List DV))):(zS k E o).map (·.1)=if o.isSome then [k] else []:=by cases o <;> rfl
theorem sj{Z:List (Key × TypeId × List CV)}(h:lv k=At E o) (hn:(Z.map (·.1)).Nodup) (hz:∀ z∈zS k E o,z∈Z) (hk:o=none→k ∉ Z.map (·.1)):mD (aR lv (ec Z)) k E o:=by
 cases o with
 | none=>
  show aR lv (ec Z) k=.bk;rw [bU (by rw [gq];exact hk rfl)];exact h
 | some es=>
  have hm:=hz (k,E,es.flatten.map CV.d) (by simp [zS]);refine⟨true,true,?_⟩;exact jA (by rw [gq];exact hn) (by simp only [ec,Zo];exact⟨_,hm,rfl⟩)
theorem Kh{c:Key}(h1:mD lv a 81 p.f) (h2:mD lv b 67 p.ins) (h3:mD lv c 55 p.nodes) (h4:mD lv d 69 p.states)(hk:k∈jo lv (.agg (lP p a b c d))):k=a∨k=b∨k=c∨k=d:=by
 have key:∀ {k':Key}{E:TypeId}{o:Option (List (List DV))}{n sz:Nat},mD lv k' E o→k∈fY lv 8 (.aI k' 0 n sz)→k=k':=by
  intro k' E o n sz h hm;simp only [fY,YT] at hm;rcases hm with hm|hm
  ·exact hm
  ·exfalso
   cases o with
   | none=>rw [show lv k'=.bk from h] at hm;cases hm
   | some es=>
    obtain⟨own,fz,h⟩:=h;rw [h] at hm;simp only [ZY,Zo] at hm;obtain⟨x,⟨y,_,rfl⟩,hx⟩:=hm
    cases hx
 simp only [jo,ZY,YT,Y6,or_false] at hk;obtain⟨x,hx,hk⟩:=hk;rcases hx with rfl|rfl|rfl|rfl|rfl|rfl|rfl|rfl
 ·exact .inl (key h1 hk)
 ·cases hk
 ·exact .inr (.inl (key h2 hk))
 ·exact .inr (.inr (.inl (key h3 hk)))
 ·cases hk
 ·cases hk
 ·exact .inr (.inr (.inr (key h4 hk)))
 ·cases hk
theorem ag.prog' {c:Ctx}{f:FuncId}(κ' kh a b d e:Key) (p:PD) (hp:p.ok) (ht:p.Pv)(hc:aa c.P c.G f [p.A] x) (hx:x.pure=true)
 (h1:lv a=At 81 p.f) (h2:lv b=At 67 p.ins) (h3:lv d=At 55 p.nodes) (h4:lv e=At 69 p.states) (hn:[a,b,d,e].Nodup) (hh:lv kh=.hole)
 (hK:∀ us,(∀ k,k≠a→k≠b→k≠d→k≠e→aR lv us k=lv k)→mD (aR lv us) a 81 p.f→mD (aR lv us) b 67 p.ins→mD (aR lv us) d 55 p.nodes→mD (aR lv us) e 69 p.states→K x us [kh,a,b,d,e] κ'):ag c f [.agg (lP p a b d e)] lv K:=by
 obtain⟨Z,hZ⟩:∃ Z,Z=zS a 81 p.f++(zS b 67 p.ins++(zS d 55 p.nodes++zS e 69 p.states)):=⟨_,rfl⟩
 have hZk:Z.map (·.1)=(if p.f.isSome then [a] else [])++((if p.ins.isSome then [b] else [])++((if p.nodes.isSome then [d] else [])++(if p.states.isSome then [e] else []))):=by
  rw [hZ];simp only [Z2,NY]
 simp only [abx,YT,Y6,or_false,not_or,abB,and_true,not_false_eq_true] at hn;obtain⟨⟨n1,n2,n3⟩,⟨n4,n5⟩,n6⟩:=hn
 have hsub:∀ k,k∈Z.map (·.1)→k=a∨k=b∨k=d∨k=e:=by
  intro k hk;rw [hZk] at hk;simp only [ZM] at hk;rcases hk with h|h|h|h <;> split at h <;> simp_all
 have hZn:(Z.map (·.1)).Nodup:=by
  rw [hZk]
  (repeat' split) <;> simp_all
 have hmem:∀ z∈Z,lv z.1=.cells true false z.2.1 z.2.2:=by
  have g:∀ {k E o},lv k=At E o→∀ z∈zS k E o,lv z.1=.cells true false z.2.1 z.2.2:=by
   intro k E o h z hz
   cases o with
   | none=>cases hz
   | some es=>simp only [zS,ZW] at hz;subst hz;exact h
  intro z hz;rw [hZ] at hz;simp only [ZM] at hz;rcases hz with h|h|h|h
  ·exact g h1 z h
  ·exact g h2 z h
  ·exact g h3 z h
  ·exact g h4 z h
 have q1:mD (aR lv (ec Z)) a 81 p.f:=sj h1 hZn (fun z hz=>by rw [hZ];simp [hz]) (fun h=>by rw [hZk,h];intro hk;simp only [ZM] at hk;(rcases hk with h|h|h|h <;> split at h <;> simp_all));have q2:mD (aR lv (ec Z)) b 67 p.ins:=sj h2 hZn (fun z hz=>by rw [hZ];simp [hz]) (fun h=>by rw [hZk,h];intro hk;simp only [ZM] at hk;(rcases hk with h|h|h|h <;> split at h <;> simp_all));have q3:mD (aR lv (ec Z)) d 55 p.nodes:=sj h3 hZn (fun z hz=>by rw [hZ];simp [hz]) (fun h=>by rw [hZk,h];intro hk;simp only [ZM] at hk;(rcases hk with h|h|h|h <;> split at h <;> simp_all));have q4:mD (aR lv (ec Z)) e 69 p.states:=sj h4 hZn (fun z hz=>by rw [hZ];simp [hz]) (fun h=>by rw [hZk,h];intro hk;simp only [ZM] at hk;(rcases hk with h|h|h|h <;> split at h <;> simp_all));refine ag.VA (us:=[p.A]) κ' kh Z [kh,a,b,d,e] hc hx hmem hZn hh rfl (fun i p' q'=>?_) (fun x hx k hk=>?_) (by simp) (hK _ (fun k k1 k2 k3 k4=>?_) q1 q2 q3 q4)
 ·have hi:i=0:=by simp at p';omega
  subst hi;right;exact⟨_,It hp ht q1 q2 q3 q4,fun k hk=>by rw [hZk];exact hk⟩
 ·simp only [ZW] at hx;subst hx;left;rcases Kh q1 q2 q3 q4 hk with h|h|h|h <;> simp [h]
 ·refine bU ?_;rw [gq];intro hk;rcases hsub k hk with h|h|h|h
  ·exact k1 h
  ·exact k2 h
  ·exact k3 h
  ·exact k4 h
theorem ag.prog {c:Ctx}{f:FuncId}(κ' kh a b d e:Key) (p:PD) (hp:p.ok) (ht:p.Pv)(hc:aa c.P c.G f [p.A] x) (hx:x.pure=true)
 (h1:lv a=At 81 p.f) (h2:lv b=At 67 p.ins) (h3:lv d=At 55 p.nodes) (h4:lv e=At 69 p.states) (hn:[a,b,d,e].Nodup) (hh:lv kh=.hole)
 (hK:∀ us,(∀ k,k≠a→k≠b→k≠d→k≠e→aR lv us k=lv k)→K x us [kh,a,b,d,e] κ'):ag c f [.agg (lP p a b d e)] lv K:=
 ag.prog' κ' kh a b d e p hp ht hc hx h1 h2 h3 h4 hn hh fun us h _ _ _ _=>hK us h
def JW (l:List Nd)(fs:List Int):Nat→List Nd
 | 0=>l
 | i+1=>(JW l fs i).set i ((l.getD i default).lD (fs.getD i 0))
def Mq (l:List In)(lo hi:List (List UInt8)):Nat→List In
 | 0=>l
 | i+1=>(Mq l lo hi i).set i ((l.getD i default).WL (lo.getD i []) (hi.getD i []))
def PD.R4 (p:PD)(l:List Nd):PD:=⟨p.f,p.mode,p.ins,some (l.map Nd.e),p.head,p.tail,p.states,p.res⟩
def PD.Sb (p:PD)(l:List In):PD:=⟨p.f,p.mode,if p.ins.isSome then some (l.map In.e) else none,p.nodes,p.head,p.tail,p.states,p.res⟩
theorem PD.S2 (p:PD)(hi:i<p.N.length):p.N[i]=p.nd i:=by
 unfold PD.N PD.nd at *
 simp only [YX] at hi;rw [sr,hJ,cn hi];rfl
@[simp] theorem LB.Rn {b:Bool}:(LB.cells own fz T cs).fix b=.cells (own || b) fz T cs:=rfl
@[simp] theorem mW (l:List Nd)(g:Key→Key):(j8 l).map (CV.br g)=j8 l:=by
 unfold j8;rw [Y7];rfl
@[simp] theorem TU (l:List In)(g:Key→Key):(WW l).map (CV.br g)=WW l:=by
 unfold WW;rw [Y7];rfl
def Xw (p:PD)(fs:List Int):PD × Int:=
 if (fL p).2.2≠0 then (tA,(fL p).2.2)
 else if fs.length≠p.nn then (tA,2)
 else if fs.all (fun f=>decide (0≤f∧f<(p.nf:Int)))=true then (SK (p.R4 (JW p.N fs p.nn)),(fL (p.R4 (JW p.N fs p.nn))).2.2)
 else (tA,7)
theorem M8(h:iM p=0):∃ es,p.nodes=some es:=by
 have h1:p.nn≠0:=by
  intro h0;unfold iM at h;unfold PD.nn at h0;rw [h0] at h;split at h
  ·cases h
  ·simp at h
 cases e:p.nodes with
 | none=>exact absurd (by simp [PD.nn,e,sO]) h1
 | some es=>exact⟨es,rfl⟩
theorem ox(h:iw lv) (k:Key):iw (aD lv k .bk):=by
 intro k' own es h';unfold aD at h';split at h'
 ·cases h'
 ·exact h _ _ _ h'
@[simp] theorem AP(h:iw lv) (k:Key) (E:TypeId) (o:Option (List (List DV))):iw (aD lv k (At E o)):=by
 cases o with
 | none=>intro k' own es h';simp only [At,aD] at h';split at h';cases h';exact h _ _ _ h'
 | some es=>exact uw h k true false E (es.flatten.map CV.d)
def tD (l:List (List UInt8)):List (List DV):=l.map fun s=>[DV.str s]
def tC:Option (List (List UInt8))→CV
 | none=>.d .nilsl
 | some l=>.d (.sl (tD l))
def tL (o:Option (List (List UInt8))):List (List UInt8):=o.getD []
@[simp] theorem Ud (o:Option (List (List UInt8))):(AV.c (tC o)).pure=true:=by cases o <;> rfl
@[simp] theorem RN (o:Option (List (List UInt8))):(AV.c (tC o)).bu=true:=by cases o <;> rfl
@[simp] theorem Wq (o:Option (List (List UInt8)))(g:Key→Key):(tC o).br g=tC o:=by cases o <;> rfl
def YC (p:PD)(lo hi:List (List UInt8)):PD × Int:=
 if (fL p).2.2≠0 then (tA,(fL p).2.2)
 else if lo.length≠p.ni∨hi.length≠p.ni then (tA,2)
 else (SK (p.Sb (Mq p.I lo hi p.ni)),(fL (p.Sb (Mq p.I lo hi p.ni))).2.2)
theorem sub_self {p:PD}(hp:p.ok) (h:(fL p).2.2=0):R6 p p.res=(p,0):=by
 have hg:=rL hp h;unfold R6;rw [if_neg (not_not_intro h),if_pos hg.res];rfl
def nZ (p q:PD):Bool:=decide (p.mode=q.mode) && decide (p.head=q.head) && decide (p.tail=q.tail) && decide (p.res=q.res) &&
 xx (sO p.f) (sO q.f) && xx (sO p.ins) (sO q.ins) && xx (sO p.nodes) (sO q.nodes) && xx (sO p.states) (sO q.states)
theorem Aw(h:D2 e):qW e e=true:=by obtain⟨a,b,rfl⟩:=h;simp [qW,RQ]
theorem IU(h:MD e):qW e e=true:=by obtain⟨a,b,c,rfl⟩:=h;simp [qW,RQ]
theorem Ih(h:I2 e):qW e e=true:=by obtain⟨a1,a2,a3,a4,a5,a6,s,rfl⟩:=h;simp [qW,RQ]
theorem nI:∀ {l:List (List DV)},(∀ e∈l,qW e e=true)→xx l l=true
 | [],_=>rfl
 | a::l,h=>by simp only [xx,cy];exact⟨h a (ZP ..),nI fun e he=>h e (ZX _ he)⟩
theorem FL(h:p.ok):nZ p p=true:=by
 simp [nZ,nI (fun e he=>Aw (h.f e he)),nI (fun e he=>IU (h.ins e he)),nI (fun e he=>Ih (h.nodes e he)),nI (fun e he=>Aw (h.states e he))]
theorem Oh (G:List (List DV))(p q:PD)(hp:p.ok)(hq:q.ok):aa Tryz.prog G 37 [p.A,q.A] (.c (.d (.bool (nZ p q)))):=by
 refine aa.en Tryz.func37 rfl fun _=>aab ?_;refine aaa fun K hK=>?_
 by_cases h1:p.mode=q.mode
 rotate_left
 ·refine aat h1 (hK _ _ ?_);exact aad (aH.rt rfl 4 (by simp [nZ,h1]))
 by_cases h2:p.head=q.head
 rotate_left
 ·refine aaw h1 h2 (hK _ _ ?_);exact aad (aH.rt rfl 4 (by simp [nZ,h2]))
 by_cases h3:p.tail=q.tail
 rotate_left
 ·refine aav h1 h2 h3 (hK _ _ ?_);exact aad (aH.rt rfl 4 (by simp [nZ,h3]))
 by_cases h4:p.res=q.res
 rotate_left
 ·refine aaB h1 h2 h3 h4 (hK _ _ ?_);exact aad (aH.rt rfl 4 (by simp [nZ,h4]))
 refine aae ?_;simp [h1,h2,h3,h4];refine ag.pure 2 7 (Dy _ _ _ hp.f hq.f) (by simp) (by simp) rfl ?_
 by_cases f1:xx (sO p.f) (sO q.f)=true
 rotate_left
 ·simp [f1]
  repeat refine ah ?_
  apply hK;exact aad (aH.rt rfl 4 (by simp [nZ,f1]))
 simp [f1];refine ag.pure 2 7 (De _ _ _ hp.ins hq.ins) (by simp) (by simp) rfl ?_
 by_cases f2:xx (sO p.ins) (sO q.ins)=true
 rotate_left
 ·simp [f2]
  repeat refine ah ?_
  apply hK;exact aad (aH.rt rfl 4 (by simp [nZ,f2]))
 simp [f2];refine ag.pure 2 7 (DM _ _ _ hp.nodes hq.nodes) (by simp) (by simp) rfl ?_
 by_cases f3:xx (sO p.nodes) (sO q.nodes)=true
 rotate_left
 ·simp [f3]
  repeat refine ah ?_
  apply hK;exact aad (aH.rt rfl 4 (by simp [nZ,f3]))
 simp [f3];refine ag.pure 2 7 (DA _ _ _ hp.states hq.states) (by simp) (by simp) rfl ?_;simp
 repeat refine ah ?_
 apply hK;exact aad (aH.rt rfl 4 (by simp [nZ,h1,h2,h3,h4,f1,f2,f3]))
def tK (l:List (List UInt8)):List CV:=l.map fun s=>CV.d (.str s)
def tB (l:List (List UInt8)):LB:=if l=[] then .hole else .cells true false 53 (tK l)
def YI (k:Key)(l:List (List UInt8)):AV:=if l=[] then .c (.d .nilsl) else .c (.aI k 0 l.length 1)
def nv (l:List Int)(kk i j:Nat)(x:Int):Int:=if j<i∧j<kk then l.getD x.toNat 0 else x
def Nd.SM (n:Nd)(l:List Int)(i:Nat):Nd:=⟨n.op,nv l (bz n.op) i 0 n.a,nv l (bz n.op) i 1 n.b,nv l (bz n.op) i 2 n.c,nv l (bz n.op) i 3 n.d,n.f,n.v⟩
def Nd.dg (n:Nd)(l:List Int):Nd:=n.SM l 4
theorem HO (l:List Int)(kk i j:Nat)(x:Int)(h:j≠i):nv l kk (i+1) j x=nv l kk i j x:=by
 unfold nv
 by_cases h1:j<i∧j<kk
 ·rw [if_pos h1,if_pos ⟨by omega,h1.2⟩]
 ·rw [if_neg h1,if_neg (by omega)]
theorem OG (l:List Int)(kk j:Nat)(x:Int):nv l kk 0 j x=x:=by unfold nv;rw [if_neg (by omega)]
theorem M5 (f:Key→LB)(x y z x':LB):aD (aD (aD (aD f 1000 x) 1001 y) 1002 z) 1000 x'=aD (aD (aD f 1000 x') 1001 y) 1002 z:=by
 funext k;simp only [aD]
 by_cases h1:k=1000
 ·subst h1;rfl
 ·simp [h1]
theorem Lw (a b c d e f g:CV):dQ Tryz.prog 55 [a,b,c,d,e,f,g]=some (.agg [a,b,c,d,e,f,g]):=by kernel_rfl
abbrev bZ (l:List Int):LB:=.cells false false 3 (zK l)
theorem GM (b:LB):bn [b] []=aD (fun _=>.hole) 0 b:=sG b
theorem SV (lv:Key→LB)(κ:Key)(h:lv κ=.hole)(a b c d:CV):aB Tryz.prog 220 4 [0,1,2,3] lv κ [.c a,.c b,.c c,.c d]=some (.c (.aI κ 0 4 1),[(κ,.cells true false 219 [a,b,c,d])],[],True):=by
 unfold aB;rw [h];kernel_rfl
theorem JO (m:Int)(n:Nd)(h1:1≤n.op)(h2:n.op≤15)(l:List Int)(hl:l.length≤1000)(hk:∀ x∈bG n,0≤x∧x<l.length) :
 aG Tryz.prog (GG m) 80 [n.A,.c (.aI 0 0 l.length 1)] [bZ l] (.ret (n.dg l).A [bZ l] []):=by
 obtain⟨rest,hix⟩:=VS h1 h2;have hkl:bG n=n.l4.take (bz n.op):=by unfold bG;rw [if_pos ⟨h1,h2⟩]
 rw [hkl] at hk;have hle:=mg n.op;have hren:∀ i,n.SM l i=⟨n.op,nv l (bz n.op) i 0 n.a,nv l (bz n.op) i 1 n.b,nv l (bz n.op) i 2 n.c,nv l (bz n.op) i 3 n.d,n.f,n.v⟩:=fun i=>rfl
 unfold Nd.dg;simp only [hren];clear hren;generalize bz n.op=kk at *
 refine aG.L6 Tryz.func80 rfl (by rw [Tryz.ntmps80];simp) ?_;rintro⟨_,_,w0,F0,W0,_,js,β0⟩ rfl rfl rfl hlv0;simp only at hlv0;rw [GM] at hlv0 ⊢;refine aab ?_;refine aaa fun K hK=>aaa fun K1 hK1=>?_;have hbs:∀ (lv:Key→LB) (h:lv 1002=.hole) (a b c d:CV),aB Tryz.prog 220 4 [0,1,2,3] lv 1002 [.c a,.c b,.c c,.c d]=some (.c (.aI 1002 0 4 1),[(1002,.cells true false 219 [a,b,c,d])],[],True):=fun lv h a b c d=>SV lv 1002 h a b c d
 refine aae ?_;simp [hbs,-aB]
 repeat refine ah ?_
 apply hK1;refine aag ?_
 refine aap (fun (i:Nat)=>⟨bq [(1,.c (.aI 0 0 l.length 1)),(2,.c (.ptr 1000 0)),(4,.c (.ptr 1001 0)),(11,.c (.aI 1002 0 4 1)),(12,.c (.d (.int .i64 4))),(13,.c (.d (.int .i64 i)))],
  aD (aD (aD (aD (fun _=>.hole) 0 (bZ l)) 1000 (.cells true false 55 ((⟨n.op,nv l kk i 0 n.a,nv l kk i 1 n.b,nv l kk i 2 n.c,nv l kk i 3 n.d,n.f,n.v⟩:Nd).e.map CV.d))) 1001 (.cells true false 55 ((⟨0,0,0,0,0,0,[]⟩:Nd).e.map CV.d))) 1002 (.cells true false 219 [.ptr 1000 1,.ptr 1000 2,.ptr 1000 3,.ptr 1000 4])⟩) 1003
  (fun i=>i≤4) (fun i=>4 - i) 0 (Le.tG _ (by simp [OG])) (Y4 _) ?_
 rintro i hi
 try simp only at hi
 refine aab ?_;refine aaa fun K2 hK2=>?_
 by_cases hlt:i<4
 ·have hlt':(i:Int)<4:=by omega
  refine aaf (by simp [hlt,hlt'] <;> omega) (aac (hK2 _ _ (aaa fun K3 hK3=>aag (aaa fun K4 hK4=>?_))));have hc4:i=0∨i=1∨i=2∨i=3:=by omega
  rcases hc4 with rfl|rfl|rfl|rfl
  ·
   refine aat @aj.eq_1 (hK4 _ _ ?_);have hw:=dF (n:=1) (by omega) (by omega);have nve:∀ k x,k≠0→nv l kk 1 k x=nv l kk 0 k x:=fun k x h=>HO l kk 0 k x h
   have eo:nv l kk 0 0 n.a=n.a:=by unfold nv;rw [if_neg (by omega)]
   by_cases hjk:0<kk
   ·have hjk':(0:Int)<(kk:Int):=by omega
    have hm:=hk n.a (by
     rw [abX];exact⟨0,by rw [Nd.jY];omega,rfl⟩)
    obtain⟨q,hq⟩:∃ q:Nat,n.a=q:=⟨n.a.toNat,by omega⟩
    have hql:q<l.length:=by rw [hq] at hm;omega
    have hql':(q:Int)<(l.length:Int):=by omega
    have hld:=iO (P:=Tryz.prog) (T:=3) (by simp) hql;have en:nv l kk 1 0 n.a=l[q]:=by unfold nv;rw [if_pos (by omega),hq,Y1,hJ,cn hql];rfl
    have eo2:nv l kk 0 0 n.a=(q:Int):=by rw [eo,hq]
    refine aaC @Mc hix hjk' ?_;refine aak (aaB eo2 hql' hld @aj.eq_1 (hK3 _ _ ?_));refine aae ?_;simp;refine⟨1,Le.tG _ (by simp [nve,en,M5]) (by simp [hw]),by omega,by omega⟩
   ·refine aaa fun K5 hK5=>?_;have hjk':¬ (0:Int)<(kk:Int):=by omega
    have en:nv l kk 1 0 n.a=n.a:=by unfold nv;rw [if_neg (by omega)]
    refine aav @Mc hix hjk' (hK5 _ _ ?_);refine aaj (aac (hK3 _ _ (aae ?_)));simp;refine⟨1,Le.tG _ (by simp [nve,en,eo]) (by simp [hw]),by omega,by omega⟩
  ·
   refine aat @aj.eq_1 (hK4 _ _ ?_);have hw:=dF (n:=2) (by omega) (by omega);have nve:∀ k x,k≠1→nv l kk 2 k x=nv l kk 1 k x:=fun k x h=>HO l kk 1 k x h
   have eo:nv l kk 1 1 n.b=n.b:=by unfold nv;rw [if_neg (by omega)]
   by_cases hjk:1<kk
   ·have hjk':(1:Int)<(kk:Int):=by omega
    have hm:=hk n.b (by
     rw [abX];exact⟨1,by rw [Nd.jY];omega,rfl⟩)
    obtain⟨q,hq⟩:∃ q:Nat,n.b=q:=⟨n.b.toNat,by omega⟩
    have hql:q<l.length:=by rw [hq] at hm;omega
    have hql':(q:Int)<(l.length:Int):=by omega
    have hld:=iO (P:=Tryz.prog) (T:=3) (by simp) hql;have en:nv l kk 2 1 n.b=l[q]:=by unfold nv;rw [if_pos (by omega),hq,Y1,hJ,cn hql];rfl
    have eo2:nv l kk 1 1 n.b=(q:Int):=by rw [eo,hq]
    refine aaC @Mc hix hjk' ?_;refine aak (aaB eo2 hql' hld @aj.eq_1 (hK3 _ _ ?_));refine aae ?_;simp;refine⟨2,Le.tG _ (by simp [nve,en,M5]) (by simp [hw]),by omega,by omega⟩
   ·refine aaa fun K5 hK5=>?_;have hjk':¬ (1:Int)<(kk:Int):=by omega
    have en:nv l kk 2 1 n.b=n.b:=by unfold nv;rw [if_neg (by omega)]
    refine aav @Mc hix hjk' (hK5 _ _ ?_);refine aaj (aac (hK3 _ _ (aae ?_)));simp;refine⟨2,Le.tG _ (by simp [nve,en,eo]) (by simp [hw]),by omega,by omega⟩
  ·
   refine aat @aj.eq_1 (hK4 _ _ ?_);have hw:=dF (n:=3) (by omega) (by omega);have nve:∀ k x,k≠2→nv l kk 3 k x=nv l kk 2 k x:=fun k x h=>HO l kk 2 k x h
   have eo:nv l kk 2 2 n.c=n.c:=by unfold nv;rw [if_neg (by omega)]
   by_cases hjk:2<kk
   ·have hjk':(2:Int)<(kk:Int):=by omega
    have hm:=hk n.c (by
     rw [abX];exact⟨2,by rw [Nd.jY];omega,rfl⟩)
    obtain⟨q,hq⟩:∃ q:Nat,n.c=q:=⟨n.c.toNat,by omega⟩
    have hql:q<l.length:=by rw [hq] at hm;omega
    have hql':(q:Int)<(l.length:Int):=by omega
    have hld:=iO (P:=Tryz.prog) (T:=3) (by simp) hql;have en:nv l kk 3 2 n.c=l[q]:=by unfold nv;rw [if_pos (by omega),hq,Y1,hJ,cn hql];rfl
    have eo2:nv l kk 2 2 n.c=(q:Int):=by rw [eo,hq]
    refine aaC @Mc hix hjk' ?_;refine aak (aaB eo2 hql' hld @aj.eq_1 (hK3 _ _ ?_));refine aae ?_;simp;refine⟨3,Le.tG _ (by simp [nve,en,M5]) (by simp [hw]),by omega,by omega⟩
   ·refine aaa fun K5 hK5=>?_;have hjk':¬ (2:Int)<(kk:Int):=by omega
    have en:nv l kk 3 2 n.c=n.c:=by unfold nv;rw [if_neg (by omega)]
    refine aav @Mc hix hjk' (hK5 _ _ ?_);refine aaj (aac (hK3 _ _ (aae ?_)));simp;refine⟨3,Le.tG _ (by simp [nve,en,eo]) (by simp [hw]),by omega,by omega⟩
  ·
   refine aat @aj.eq_1 (hK4 _ _ ?_);have hw:=dF (n:=4) (by omega) (by omega);have nve:∀ k x,k≠3→nv l kk 4 k x=nv l kk 3 k x:=fun k x h=>HO l kk 3 k x h
   have eo:nv l kk 3 3 n.d=n.d:=by unfold nv;rw [if_neg (by omega)]
   by_cases hjk:3<kk
   ·have hjk':(3:Int)<(kk:Int):=by omega
    have hm:=hk n.d (by
     rw [abX];exact⟨3,by rw [Nd.jY];omega,rfl⟩)
    obtain⟨q,hq⟩:∃ q:Nat,n.d=q:=⟨n.d.toNat,by omega⟩
    have hql:q<l.length:=by rw [hq] at hm;omega
    have hql':(q:Int)<(l.length:Int):=by omega
    have hld:=iO (P:=Tryz.prog) (T:=3) (by simp) hql;have en:nv l kk 4 3 n.d=l[q]:=by unfold nv;rw [if_pos (by omega),hq,Y1,hJ,cn hql];rfl
    have eo2:nv l kk 3 3 n.d=(q:Int):=by rw [eo,hq]
    refine aaC @Mc hix hjk' ?_;refine aak (aaB eo2 hql' hld @aj.eq_1 (hK3 _ _ ?_));refine aae ?_;simp;refine⟨4,Le.tG _ (by simp [nve,en,M5]) (by simp [hw]),by omega,by omega⟩
   ·refine aaa fun K5 hK5=>?_;have hjk':¬ (3:Int)<(kk:Int):=by omega
    have en:nv l kk 4 3 n.d=n.d:=by unfold nv;rw [if_neg (by omega)]
    refine aav @Mc hix hjk' (hK5 _ _ ?_);refine aaj (aac (hK3 _ _ (aae ?_)));simp;refine⟨4,Le.tG _ (by simp [nve,en,eo]) (by simp [hw]),by omega,by omega⟩
 have hi4:i=4:=by omega
 subst hi4;refine aaj (aan (hK _ _ (aal @aj.eq_1 ?_)));refine aam ?_;refine⟨[(0,0,bZ l)],9,?_,by simp,by simp,by simp,?_,?_,rfl,?_⟩
 ·rw [GM];rfl
 ·intro k hk;simp only [hlv0,aD] at hk;split at hk
  ·rename_i h0;subst h0;exact .inr (by simp [cF])
  ·exact absurd rfl hk
 ·intro e he;simp only [YT,Y6,or_false] at he;subst he;show (LB.cells false false 3 (zK l)).like (.cells false false 3 (zK l)) _;rw [FN];exact O2 ..
 ·simp [Tryz.f80,cM,gz,iB,Lw]
def S3 (p:PD)(now:List Int)(s:List Int × List Nd)(i:Nat):List Int × List Nd:=
 if (p.nd i).op=2 then (s.1.set i (now.getD (p.nd i).a.toNat 0),s.2)
 else (s.1.set i s.2.length,s.2++[(p.nd i).dg (s.1.set i s.2.length)])
def Lo (p:PD)(now:List Int)(s:List Int × List Nd)(i k:Nat):List Int × List Nd:=(List.range' i k).foldl (S3 p now) s
abbrev qC (p:PD)(v:CV):List CV:=[fC p.f,.d (.int .i64 p.mode),fC p.ins,v,.d (.int .i64 p.head),.d (.int .i64 p.tail),.d .nilsl,.d (.int .i64 p.res)]
def qS (k:Key)(L:List Nd):CV:=if L=[] then .d .nilsl else .aI k 0 L.length 7
def qB (L:List Nd):LB:=if L=[] then .hole else .cells false false 55 (j8 L)
def rV (L0 L:List Nd):CV:=if L.length=L0.length then qS 6 L else .aI 7 0 L.length 7
def r6 (L0 L:List Nd):LB:=if L.length=L0.length then qB L else if L0=[] then .hole else .dead
def r7 (L0 L:List Nd):LB:=if L.length=L0.length then .hole else .cells false false 55 (j8 L)
abbrev YP (p:PD)(now at':List Int)(v:CV)(b6 b7:LB):Key→LB:=
 aD (aD (aD (aD (aD (aD (aD (aD (fun _=>.hole) 0 (.cells false false 27 p.cs)) 1 (.cells false false 30 [.aI 4 0 now.length 1])) 2 (.cells false false 30 [.aI 5 0 at'.length 1])) 3 (.cells false false 27 (qC p v))) 4 (bZ now)) 5 (bZ at')) 6 b6) 7 b7
theorem bT (l:List Int)(g:Key→Key):(zK l).map (CV.br g)=zK l:=by rw [FN,Y7];rfl
theorem Cm (n:Nd):(j8 [n]).length=7:=by rw [G3];rfl
theorem Kt (n:Nd):List.take 7 (j8 [n])=j8 [n]:=ZH (by rw [Cm];exact aW _)
theorem GY (L M:List Nd):j8 (L++M)=j8 L++j8 M:=by unfold j8;rw [List.flatMap_append,Z2]
theorem ag.Tv {c:Ctx}{f:FuncId}(κ' kh k:Key){l:List Int}{x0:AV}(hc:aG c.P c.G f [x0,.c (.aI 0 0 n 1)] [bZ l] (.ret x [bZ l] [])) (hx:x.pure=true) (hx0:x0.pure=true)
 (hk:lv k=.cells own false 3 (zK l)) (hh:lv kh=.hole) (hkk:kh≠k) (hK:K x [(k,.cells own false 3 (zK l))] [kh,k] κ'):ag c f [x0,.c (.aI k 0 n 1)] lv K:=by
 refine ag.OP κ' kh own [k] [bZ l] [bZ l] [kh,k] hc (by simp) (by simpa using hkk) rfl rfl (by simp) (fun i p q=>?_) hh (by simp [LB.pass]) (by simp) (fun ho k' hk'=>?_) rfl (fun i p q=>?_) (fun a ha j hj=>?_) (by simp) ?_
 ·have hi:i=0:=by simp at p;omega
  subst hi;exact⟨own,zK l,hk,(bT l _).symm,fun h=>by cases h⟩
 ·simp only [YT,Y6,or_false] at hk';subst hk';rw [hk];exact ho
 ·have hi:i=0∨i=1:=by simp at p;omega
  rcases hi with rfl|rfl
  ·exact⟨AV.bQ hx0,(AV.aX hx0 _).symm⟩
  ·exact⟨rfl,rfl⟩
 ·simp only [YT,Y6,or_false] at ha;rcases ha with rfl|rfl
  ·rw [eD hx0] at hj;cases hj
  ·simp only [jo,fY,hk,YT,ZY] at hj;rcases hj with rfl|⟨y,hy,hj⟩
   ·simp
   ·unfold zK at hy;rw [Zo] at hy;obtain⟨z,_,rfl⟩:=hy;cases hj
 ·rw [AV.aX hx]
  have e:bB (aF [k] [] kh) own [k] [bZ l]=[(k,.cells own false 3 (zK l))]:=by
   simp only [bB,abz,List.zipWith_nil_left,LB.jU,bT,LB.fix,abg]
  rw [e];exact hK
theorem V3 (lv:Key→LB)(κ:Key)(h:lv κ=.hole)(n:Nd):aB Tryz.prog 24 1 [0] lv κ [n.A]=some (.c (.aI κ 0 1 7),[(κ,.cells true false 55 (j8 [n]))],[],True):=by
 unfold aB;rw [h];kernel_rfl
def rO (L0 L:List Nd):CV:=if L.length=L0.length then qS 6 L else .aI 1000 0 L.length 7
abbrev YQ (p:PD)(now at':List Int)(v:CV)(b6 b7:LB):Key→LB:=
 aD (aD (aD (aD (aD (aD (aD (aD (fun _=>.hole) 0 (.cells false false 27 p.cs)) 1 (.cells false false 30 [.aI 4 0 now.length 1])) 2 (.cells false false 30 [.aI 5 0 at'.length 1])) 3 (.cells false false 27 (qC p v))) 4 (bZ now)) 5 (bZ at')) 6 b6) 1000 b7
def g10:Key→Key:=fun k=>if k=0 then 0 else if k=1 then 1 else if k=2 then 2 else if k=3 then 3 else if k=4 then 4 else if k=5 then 5 else if k=6 then 6 else if k=1000 then 7 else 9
def g7 (k7:Key):Key→Key:=fun k=>if k=0 then 0 else if k=1 then 1 else if k=2 then 2 else if k=3 then 3 else if k=4 then 4 else if k=5 then 5 else if k=6 then 6 else if k=7 then k7 else 9
theorem mu (p:PD)(g:Key→Key):p.cs.map (CV.br g)=p.cs:=by
 rw [← Cv,Y7];rfl
theorem Lz (l:List Int)(i:Nat)(x:Int)(h:i<l.length):aj (zK l) i [CV.d (.int .i64 x)]=zK (l.set i x):=by
 unfold aj zK;rw [ab1,if_pos h];simp [abf,List.map_drop]
def rS (p:PD)(now at':List Int)(v:CV)(o:Option LB):List LB:=[.cells false false 27 p.cs,.cells false false 30 [.aI 4 0 now.length 1],.cells false false 30 [.aI 5 0 at'.length 1],.cells false false 27 (qC p v),bZ now,bZ at']++o.toList
def rN (L0 L:List Nd):List LB:=if L.length=L0.length then [] else [.cells false false 55 (j8 L)]
def oB (L0:List Nd)(b:LB):Option LB:=if L0=[] then none else some b
def uS (L:List Nd):CV:=if L=[] then .d .nilsl else .aI 7 0 L.length 7
def uB (L:List Nd):LB:=if L=[] then .hole else .cells true false 55 (j8 L)
abbrev By (p:PD)(z:LB)(now at':List Int)(v:CV)(b7 b8:LB):Key→LB:=
 aD (aD (aD (aD (aD (aD (aD (aD (aD (fun _=>.hole) 0 (.cells true false 27 p.cs)) 1 z) 2 (.cells true false 27 (qC p v))) 3 (.cells true false 3 (zK at'))) 4 (.cells true false 30 [.aI 3 0 at'.length 1])) 5 (.cells true false 3 (zK now))) 6 (.cells true false 30 [.aI 5 0 now.length 1])) 7 b7) 8 b8
def uV (L0 L:List Nd):CV:=if L.length=L0.length then uS L else .aI 8 0 L.length 7
def u7 (L0 L:List Nd):LB:=if L.length=L0.length then uB L else if L0=[] then .hole else .dead
def u8 (L0 L:List Nd):LB:=if L.length=L0.length then .hole else .cells true false 55 (j8 L)
theorem iA (lv:Key→LB)(n:Nat)(x:DV):fY lv n (.d x)=[]:=by cases n <;> rfl
theorem gI (lv:Key→LB)(n:Nat)(o:Option (List (List DV))):fY lv n (fC o)=[]:=by cases o <;> exact iA _ _ _
theorem jM (lv:Key→LB)(n:Nat)(l:List Int):(zK l).flatMap (fY lv n)=[]:=by
 unfold zK;rw [abH,abl];intro x _;exact iA _ _ _
theorem jJ (lv:Key→LB)(n:Nat)(l:List Nd):(j8 l).flatMap (fY lv n)=[]:=by
 unfold j8;rw [abH,abl];intro x _;exact iA _ _ _
theorem ag.run {c:Ctx}(κ':Nat) (p:PD) (z:LB) (now jL av:List Int) (L0 L:List Nd) {a b:CV}(ha:(AV.c a).pure=true) (hb:(AV.c b).pure=true) (hlen:av.length=jL.length) (hL:L.length=L0.length→L=L0)
 (hc:aG c.P c.G 79 [.c a,.c b,.c (.ptr 0 0),.c (.ptr 1 0),.c (.ptr 2 0),.c (.ptr 3 0)] (rS p now jL (qS 6 L0) (oB L0 (qB L0))) (.ret (.tup []) (rS p now av (rO L0 L) (oB L0 (r6 L0 L))) (rN L0 L)))
 (hK:∀ ME rds,aR (By p z now jL (uS L0) (uB L0) .hole) ME=By p z now av (uV L0 L) (u7 L0 L) (u8 L0 L)→K (.tup []) ME rds κ') :
 ag c 79 [.c a,.c b,.c (.ptr 0 0),.c (.ptr 6 0),.c (.ptr 4 0),.c (.ptr 2 0)] (By p z now jL (uS L0) (uB L0) .hole) K:=by
 by_cases h0:L0=[]
 ·by_cases h1:L.length=L0.length
  ·obtain rfl:L0=L:=(hL h1).symm;have hne:True:=trivial;have h1:True:=trivial
   have hc2:aG c.P c.G 79 [.c a,.c b,.c (.ptr 0 0),.c (.ptr 1 0),.c (.ptr 2 0),.c (.ptr 3 0)] [.cells false false 27 p.cs,.cells false false 30 [.aI 4 0 now.length 1],.cells false false 30 [.aI 5 0 jL.length 1],.cells false false 27 (qC p (.d .nilsl)),bZ now,bZ jL] (.ret (.tup []) [.cells false false 27 p.cs,.cells false false 30 [.aI 4 0 now.length 1],.cells false false 30 [.aI 5 0 av.length 1],.cells false false 27 (qC p (.d .nilsl)),bZ now,bZ av] []):=by
    have f1:rS p now jL (qS 6 L0) (oB L0 (qB L0))=[.cells false false 27 p.cs,.cells false false 30 [.aI 4 0 now.length 1],.cells false false 30 [.aI 5 0 jL.length 1],.cells false false 27 (qC p (.d .nilsl)),bZ now,bZ jL]:=by simp [rS,qS,oB,qB,h0]
    have f2:rS p now av (rO L0 L0) (oB L0 (r6 L0 L0))=[.cells false false 27 p.cs,.cells false false 30 [.aI 4 0 now.length 1],.cells false false 30 [.aI 5 0 av.length 1],.cells false false 27 (qC p (.d .nilsl)),bZ now,bZ av]:=by simp [rS,rO,qS,oB,qB,r6,h0,h1,hne]
    have f3:rN L0 L0=[]:=by simp [rN,h1,hne]
    rw [f1,f2,f3] at hc;exact hc
   have g0:By p z now jL (uS L0) (uB L0) .hole=By p z now jL (.d .nilsl) (.hole) .hole:=by simp [uS,uB,h0]
   have g1:By p z now av (uV L0 L0) (u7 L0 L0) (u8 L0 L0)=By p z now av (.d .nilsl) (.hole) (.hole):=by simp [uV,u7,u8,uS,uB,h0,h1,hne]
   rw [g0,g1] at hK;rw [g0];refine ag.Ax κ' 9 true [0,6,4,2,5,3] [] _ _ _ [0,6,4,2,5,3,7,8,9] hc2 (by simp) (by simp) rfl rfl rfl (by simp) ?_ (by simp) rfl ?_ ?_ ?_ rfl ?_ ?_ (by simp) ?_
   ·intro i q1 q2;have hi:i=0∨i=1∨i=2∨i=3∨i=4∨i=5:=by simp at q1;omega
    rcases hi with rfl|rfl|rfl|rfl|rfl|rfl
    ·exact⟨true,p.cs,rfl,(mu p _).symm,fun _=>rfl⟩
    ·exact⟨true,_,rfl,rfl,fun _=>rfl⟩
    ·exact⟨true,_,rfl,rfl,fun _=>rfl⟩
    ·refine⟨true,_,rfl,?_,fun _=>rfl⟩;simp [qC,aF]
    ·exact⟨true,_,rfl,(bT now _).symm,fun _=>rfl⟩
    ·exact⟨true,_,rfl,(bT jL _).symm,fun _=>rfl⟩
   ·simp [LB.pass]
   ·simp
   ·simp [LB.wz]
   ·intro i q1 q2;have hi:i=0∨i=1∨i=2∨i=3∨i=4∨i=5:=by simp at q1;omega
    rcases hi with rfl|rfl|rfl|rfl|rfl|rfl
    ·exact⟨AV.bQ ha,(AV.aX ha _).symm⟩
    ·exact⟨AV.bQ hb,(AV.aX hb _).symm⟩
    ·exact⟨rfl,rfl⟩
    ·exact⟨rfl,rfl⟩
    ·exact⟨rfl,rfl⟩
    ·exact⟨rfl,rfl⟩
   ·intro x hx k hk;simp only [YT,Y6,or_false] at hx;rcases hx with rfl|rfl|rfl|rfl|rfl|rfl
    ·rw [eD ha] at hk;cases hk
    ·rw [eD hb] at hk;cases hk
    ·simp [jo,fY,gI,iA,jM,jJ] at hk;simp [hk]
    ·simp [jo,fY,gI,iA,jM,jJ] at hk;rcases hk with rfl|rfl <;> simp
    ·simp [jo,fY,gI,iA,jM,jJ] at hk;rcases hk with rfl|rfl <;> simp
    ·simp [jo,fY,gI,iA,jM,jJ] at hk;simp [hk]
   ·refine hK _ _ ?_;funext k
    by_cases q0:k=0
    ·subst q0;exact congrArg (LB.cells true false 27) (mu p _)
    by_cases q1:k=1
    ·subst q1;rfl
    by_cases q2:k=2
    ·subst q2;refine congrArg (LB.cells true false 27) ?_;simp [qC,aF]
    by_cases q3:k=3
    ·subst q3;exact congrArg (LB.cells true false 3) (bT av _)
    by_cases q4:k=4
    ·subst q4;rfl
    by_cases q5:k=5
    ·subst q5;exact congrArg (LB.cells true false 3) (bT now _)
    by_cases q6:k=6
    ·subst q6;rfl
    by_cases q7:k=7
    ·subst q7;rfl
    by_cases q8:k=8
    ·subst q8;rfl
    simp [aR,bB,aD,q0,q1,q2,q3,q4,q5,q6,q7,q8]
  ·have hne:L≠[]:=fun h=>h1 (by rw [h,h0])
   have hc2:aG c.P c.G 79 [.c a,.c b,.c (.ptr 0 0),.c (.ptr 1 0),.c (.ptr 2 0),.c (.ptr 3 0)] [.cells false false 27 p.cs,.cells false false 30 [.aI 4 0 now.length 1],.cells false false 30 [.aI 5 0 jL.length 1],.cells false false 27 (qC p (.d .nilsl)),bZ now,bZ jL] (.ret (.tup []) [.cells false false 27 p.cs,.cells false false 30 [.aI 4 0 now.length 1],.cells false false 30 [.aI 5 0 av.length 1],.cells false false 27 (qC p (.aI 1000 0 L.length 7)),bZ now,bZ av] [.cells false false 55 (j8 L)]):=by
    have f1:rS p now jL (qS 6 L0) (oB L0 (qB L0))=[.cells false false 27 p.cs,.cells false false 30 [.aI 4 0 now.length 1],.cells false false 30 [.aI 5 0 jL.length 1],.cells false false 27 (qC p (.d .nilsl)),bZ now,bZ jL]:=by simp [rS,qS,oB,qB,h0]
    have f2:rS p now av (rO L0 L) (oB L0 (r6 L0 L))=[.cells false false 27 p.cs,.cells false false 30 [.aI 4 0 now.length 1],.cells false false 30 [.aI 5 0 av.length 1],.cells false false 27 (qC p (.aI 1000 0 L.length 7)),bZ now,bZ av]:=by simp [rS,rO,qS,oB,qB,r6,h0,h1,hne]
    have f3:rN L0 L=[.cells false false 55 (j8 L)]:=by simp [rN,h1,hne]
    rw [f1,f2,f3] at hc;exact hc
   have g0:By p z now jL (uS L0) (uB L0) .hole=By p z now jL (.d .nilsl) (.hole) .hole:=by simp [uS,uB,h0]
   have g1:By p z now av (uV L0 L) (u7 L0 L) (u8 L0 L)=By p z now av (.aI 8 0 L.length 7) (.hole) (.cells true false 55 (j8 L)):=by simp [uV,u7,u8,uS,uB,h0,h1,hne]
   rw [g0,g1] at hK;rw [g0];refine ag.Ax κ' 9 true [0,6,4,2,5,3] [8] _ _ _ [0,6,4,2,5,3,7,8,9] hc2 (by simp) (by simp) rfl rfl rfl (by simp) ?_ (by simp) rfl ?_ ?_ ?_ rfl ?_ ?_ (by simp) ?_
   ·intro i q1 q2;have hi:i=0∨i=1∨i=2∨i=3∨i=4∨i=5:=by simp at q1;omega
    rcases hi with rfl|rfl|rfl|rfl|rfl|rfl
    ·exact⟨true,p.cs,rfl,(mu p _).symm,fun _=>rfl⟩
    ·exact⟨true,_,rfl,rfl,fun _=>rfl⟩
    ·exact⟨true,_,rfl,rfl,fun _=>rfl⟩
    ·refine⟨true,_,rfl,?_,fun _=>rfl⟩;simp [qC,aF]
    ·exact⟨true,_,rfl,(bT now _).symm,fun _=>rfl⟩
    ·exact⟨true,_,rfl,(bT jL _).symm,fun _=>rfl⟩
   ·simp [LB.pass]
   ·simp
   ·simp [LB.wz]
   ·intro i q1 q2;have hi:i=0∨i=1∨i=2∨i=3∨i=4∨i=5:=by simp at q1;omega
    rcases hi with rfl|rfl|rfl|rfl|rfl|rfl
    ·exact⟨AV.bQ ha,(AV.aX ha _).symm⟩
    ·exact⟨AV.bQ hb,(AV.aX hb _).symm⟩
    ·exact⟨rfl,rfl⟩
    ·exact⟨rfl,rfl⟩
    ·exact⟨rfl,rfl⟩
    ·exact⟨rfl,rfl⟩
   ·intro x hx k hk;simp only [YT,Y6,or_false] at hx;rcases hx with rfl|rfl|rfl|rfl|rfl|rfl
    ·rw [eD ha] at hk;cases hk
    ·rw [eD hb] at hk;cases hk
    ·simp [jo,fY,gI,iA,jM,jJ] at hk;simp [hk]
    ·simp [jo,fY,gI,iA,jM,jJ] at hk;rcases hk with rfl|rfl <;> simp
    ·simp [jo,fY,gI,iA,jM,jJ] at hk;rcases hk with rfl|rfl <;> simp
    ·simp [jo,fY,gI,iA,jM,jJ] at hk;simp [hk]
   ·refine hK _ _ ?_;funext k
    by_cases q0:k=0
    ·subst q0;exact congrArg (LB.cells true false 27) (mu p _)
    by_cases q1:k=1
    ·subst q1;rfl
    by_cases q2:k=2
    ·subst q2;refine congrArg (LB.cells true false 27) ?_;simp [qC,aF]
    by_cases q3:k=3
    ·subst q3;exact congrArg (LB.cells true false 3) (bT av _)
    by_cases q4:k=4
    ·subst q4;rfl
    by_cases q5:k=5
    ·subst q5;exact congrArg (LB.cells true false 3) (bT now _)
    by_cases q6:k=6
    ·subst q6;rfl
    by_cases q7:k=7
    ·subst q7;rfl
    by_cases q8:k=8
    ·subst q8;exact congrArg (LB.cells true false 55) (mW _ _)
    simp [aR,bB,aD,q0,q1,q2,q3,q4,q5,q6,q7,q8]
 ·by_cases h1:L.length=L0.length
  ·obtain rfl:L0=L:=(hL h1).symm;have hne:True:=trivial;have h1:True:=trivial
   have hc2:aG c.P c.G 79 [.c a,.c b,.c (.ptr 0 0),.c (.ptr 1 0),.c (.ptr 2 0),.c (.ptr 3 0)] [.cells false false 27 p.cs,.cells false false 30 [.aI 4 0 now.length 1],.cells false false 30 [.aI 5 0 jL.length 1],.cells false false 27 (qC p (.aI 6 0 L0.length 7)),bZ now,bZ jL,.cells false false 55 (j8 L0)] (.ret (.tup []) [.cells false false 27 p.cs,.cells false false 30 [.aI 4 0 now.length 1],.cells false false 30 [.aI 5 0 av.length 1],.cells false false 27 (qC p (.aI 6 0 L0.length 7)),bZ now,bZ av,.cells false false 55 (j8 L0)] []):=by
    have f1:rS p now jL (qS 6 L0) (oB L0 (qB L0))=[.cells false false 27 p.cs,.cells false false 30 [.aI 4 0 now.length 1],.cells false false 30 [.aI 5 0 jL.length 1],.cells false false 27 (qC p (.aI 6 0 L0.length 7)),bZ now,bZ jL,.cells false false 55 (j8 L0)]:=by simp [rS,qS,oB,qB,h0]
    have f2:rS p now av (rO L0 L0) (oB L0 (r6 L0 L0))=[.cells false false 27 p.cs,.cells false false 30 [.aI 4 0 now.length 1],.cells false false 30 [.aI 5 0 av.length 1],.cells false false 27 (qC p (.aI 6 0 L0.length 7)),bZ now,bZ av,.cells false false 55 (j8 L0)]:=by simp [rS,rO,qS,oB,qB,r6,h0,h1,hne]
    have f3:rN L0 L0=[]:=by simp [rN,h1,hne]
    rw [f1,f2,f3] at hc;exact hc
   have g0:By p z now jL (uS L0) (uB L0) .hole=By p z now jL (.aI 7 0 L0.length 7) (.cells true false 55 (j8 L0)) .hole:=by simp [uS,uB,h0]
   have g1:By p z now av (uV L0 L0) (u7 L0 L0) (u8 L0 L0)=By p z now av (.aI 7 0 L0.length 7) (.cells true false 55 (j8 L0)) (.hole):=by simp [uV,u7,u8,uS,uB,h0,h1,hne]
   rw [g0,g1] at hK;rw [g0];refine ag.Ax κ' 9 true [0,6,4,2,5,3,7] [] _ _ _ [0,6,4,2,5,3,7,8,9] hc2 (by simp) (by simp) rfl rfl rfl (by simp) ?_ (by simp) rfl ?_ ?_ ?_ rfl ?_ ?_ (by simp) ?_
   ·intro i q1 q2;have hi:i=0∨i=1∨i=2∨i=3∨i=4∨i=5∨i=6:=by simp at q1;omega
    rcases hi with rfl|rfl|rfl|rfl|rfl|rfl|rfl
    ·exact⟨true,p.cs,rfl,(mu p _).symm,fun _=>rfl⟩
    ·exact⟨true,_,rfl,rfl,fun _=>rfl⟩
    ·exact⟨true,_,rfl,rfl,fun _=>rfl⟩
    ·refine⟨true,_,rfl,?_,fun _=>rfl⟩;simp [qC,aF]
    ·exact⟨true,_,rfl,(bT now _).symm,fun _=>rfl⟩
    ·exact⟨true,_,rfl,(bT jL _).symm,fun _=>rfl⟩
    ·exact⟨true,_,rfl,(mW L0 _).symm,fun _=>rfl⟩
   ·simp [LB.pass]
   ·simp
   ·simp [LB.wz]
   ·intro i q1 q2;have hi:i=0∨i=1∨i=2∨i=3∨i=4∨i=5:=by simp at q1;omega
    rcases hi with rfl|rfl|rfl|rfl|rfl|rfl
    ·exact⟨AV.bQ ha,(AV.aX ha _).symm⟩
    ·exact⟨AV.bQ hb,(AV.aX hb _).symm⟩
    ·exact⟨rfl,rfl⟩
    ·exact⟨rfl,rfl⟩
    ·exact⟨rfl,rfl⟩
    ·exact⟨rfl,rfl⟩
   ·intro x hx k hk;simp only [YT,Y6,or_false] at hx;rcases hx with rfl|rfl|rfl|rfl|rfl|rfl
    ·rw [eD ha] at hk;cases hk
    ·rw [eD hb] at hk;cases hk
    ·simp [jo,fY,gI,iA,jM,jJ] at hk;simp [hk]
    ·simp [jo,fY,gI,iA,jM,jJ] at hk;rcases hk with rfl|rfl <;> simp
    ·simp [jo,fY,gI,iA,jM,jJ] at hk;rcases hk with rfl|rfl <;> simp
    ·simp [jo,fY,gI,iA,jM,jJ] at hk;rcases hk with rfl|rfl <;> simp
   ·refine hK _ _ ?_;funext k
    by_cases q0:k=0
    ·subst q0;exact congrArg (LB.cells true false 27) (mu p _)
    by_cases q1:k=1
    ·subst q1;rfl
    by_cases q2:k=2
    ·subst q2;refine congrArg (LB.cells true false 27) ?_;simp [qC,aF]
    by_cases q3:k=3
    ·subst q3;exact congrArg (LB.cells true false 3) (bT av _)
    by_cases q4:k=4
    ·subst q4;rfl
    by_cases q5:k=5
    ·subst q5;exact congrArg (LB.cells true false 3) (bT now _)
    by_cases q6:k=6
    ·subst q6;rfl
    by_cases q7:k=7
    ·subst q7;exact congrArg (LB.cells true false 55) (mW _ _)
    by_cases q8:k=8
    ·subst q8;rfl
    simp [aR,bB,aD,q0,q1,q2,q3,q4,q5,q6,q7,q8]
  ·have hne:True:=trivial
   have hc2:aG c.P c.G 79 [.c a,.c b,.c (.ptr 0 0),.c (.ptr 1 0),.c (.ptr 2 0),.c (.ptr 3 0)] [.cells false false 27 p.cs,.cells false false 30 [.aI 4 0 now.length 1],.cells false false 30 [.aI 5 0 jL.length 1],.cells false false 27 (qC p (.aI 6 0 L0.length 7)),bZ now,bZ jL,.cells false false 55 (j8 L0)] (.ret (.tup []) [.cells false false 27 p.cs,.cells false false 30 [.aI 4 0 now.length 1],.cells false false 30 [.aI 5 0 av.length 1],.cells false false 27 (qC p (.aI 1000 0 L.length 7)),bZ now,bZ av,.dead] [.cells false false 55 (j8 L)]):=by
    have f1:rS p now jL (qS 6 L0) (oB L0 (qB L0))=[.cells false false 27 p.cs,.cells false false 30 [.aI 4 0 now.length 1],.cells false false 30 [.aI 5 0 jL.length 1],.cells false false 27 (qC p (.aI 6 0 L0.length 7)),bZ now,bZ jL,.cells false false 55 (j8 L0)]:=by simp [rS,qS,oB,qB,h0]
    have f2:rS p now av (rO L0 L) (oB L0 (r6 L0 L))=[.cells false false 27 p.cs,.cells false false 30 [.aI 4 0 now.length 1],.cells false false 30 [.aI 5 0 av.length 1],.cells false false 27 (qC p (.aI 1000 0 L.length 7)),bZ now,bZ av,.dead]:=by simp [rS,rO,qS,oB,qB,r6,h0,h1,hne]
    have f3:rN L0 L=[.cells false false 55 (j8 L)]:=by simp [rN,h1,hne]
    rw [f1,f2,f3] at hc;exact hc
   have g0:By p z now jL (uS L0) (uB L0) .hole=By p z now jL (.aI 7 0 L0.length 7) (.cells true false 55 (j8 L0)) .hole:=by simp [uS,uB,h0]
   have g1:By p z now av (uV L0 L) (u7 L0 L) (u8 L0 L)=By p z now av (.aI 8 0 L.length 7) (.dead) (.cells true false 55 (j8 L)):=by simp [uV,u7,u8,uS,uB,h0,h1,hne]
   rw [g0,g1] at hK;rw [g0];refine ag.Ax κ' 9 true [0,6,4,2,5,3,7] [8] _ _ _ [0,6,4,2,5,3,7,8,9] hc2 (by simp) (by simp) rfl rfl rfl (by simp) ?_ (by simp) rfl ?_ ?_ ?_ rfl ?_ ?_ (by simp) ?_
   ·intro i q1 q2;have hi:i=0∨i=1∨i=2∨i=3∨i=4∨i=5∨i=6:=by simp at q1;omega
    rcases hi with rfl|rfl|rfl|rfl|rfl|rfl|rfl
    ·exact⟨true,p.cs,rfl,(mu p _).symm,fun _=>rfl⟩
    ·exact⟨true,_,rfl,rfl,fun _=>rfl⟩
    ·exact⟨true,_,rfl,rfl,fun _=>rfl⟩
    ·refine⟨true,_,rfl,?_,fun _=>rfl⟩;simp [qC,aF]
    ·exact⟨true,_,rfl,(bT now _).symm,fun _=>rfl⟩
    ·exact⟨true,_,rfl,(bT jL _).symm,fun _=>rfl⟩
    ·exact⟨true,_,rfl,(mW L0 _).symm,fun _=>rfl⟩
   ·simp [LB.pass]
   ·simp
   ·simp [LB.wz]
   ·intro i q1 q2;have hi:i=0∨i=1∨i=2∨i=3∨i=4∨i=5:=by simp at q1;omega
    rcases hi with rfl|rfl|rfl|rfl|rfl|rfl
    ·exact⟨AV.bQ ha,(AV.aX ha _).symm⟩
    ·exact⟨AV.bQ hb,(AV.aX hb _).symm⟩
    ·exact⟨rfl,rfl⟩
    ·exact⟨rfl,rfl⟩
    ·exact⟨rfl,rfl⟩
    ·exact⟨rfl,rfl⟩
   ·intro x hx k hk;simp only [YT,Y6,or_false] at hx;rcases hx with rfl|rfl|rfl|rfl|rfl|rfl
    ·rw [eD ha] at hk;cases hk
    ·rw [eD hb] at hk;cases hk
    ·simp [jo,fY,gI,iA,jM,jJ] at hk;simp [hk]
    ·simp [jo,fY,gI,iA,jM,jJ] at hk;rcases hk with rfl|rfl <;> simp
    ·simp [jo,fY,gI,iA,jM,jJ] at hk;rcases hk with rfl|rfl <;> simp
    ·simp [jo,fY,gI,iA,jM,jJ] at hk;rcases hk with rfl|rfl <;> simp
   ·refine hK _ _ ?_;funext k
    by_cases q0:k=0
    ·subst q0;exact congrArg (LB.cells true false 27) (mu p _)
    by_cases q1:k=1
    ·subst q1;rfl
    by_cases q2:k=2
    ·subst q2;refine congrArg (LB.cells true false 27) ?_;simp [qC,aF]
    by_cases q3:k=3
    ·subst q3;exact congrArg (LB.cells true false 3) (bT av _)
    by_cases q4:k=4
    ·subst q4;rfl
    by_cases q5:k=5
    ·subst q5;exact congrArg (LB.cells true false 3) (bT now _)
    by_cases q6:k=6
    ·subst q6;rfl
    by_cases q7:k=7
    ·subst q7;rfl
    by_cases q8:k=8
    ·subst q8;exact congrArg (LB.cells true false 55) (mW _ _)
    simp [aR,bB,aD,q0,q1,q2,q3,q4,q5,q6,q7,q8]
def Xr (p:PD)(i k:Nat):Nat:=((List.range' i k).filter fun j=>decide ((p.nd j).op=2)).length
def Vx (p:PD):Int:=p.tail - p.head - Xr p p.head.toNat (p.tail.toNat - p.head.toNat)
def X6 (p:PD)(s:Int):Int:=p.head+s*Vx p+(((p.nn - p.tail.toNat:Nat):Int) - Xr p p.tail.toNat (p.nn - p.tail.toNat))
def Yg (p:PD)(a b:Nat):Option (List (List DV)):=some (((sO p.nodes).take b).drop a)
theorem aaz {c:Ctx}{x:Code}{s2:au}{κ2:Nat}(h:Le c s s2) (k:AW c r x s2 κ2 Q):AW c r x s κ Q:=by
 obtain⟨g,hg⟩:=h;exact AW.coarse hg k
theorem L2 (n:Nat):zK (List.replicate n 0)=List.replicate n (CV.d (.int .i64 0)):=by unfold zK;rw [List.map_replicate]
def g8 (k5 k7 kh:Key):Key→Key:=fun k=>if k=0 then 0 else if k=1 then 1 else if k=2 then 2 else if k=3 then 3 else if k=4 then 4 else if k=5 then k5 else if k=6 then 6 else if k=7 then k7 else kh
def g9:Key→Key:=fun k=>if k=9 then 9 else g8 5 7 19 k
def Wo (p:PD)(av:List Int)(sel:Int × Int→Int):Nat→List Int→List Int
 | 0,l=>l
 | j+1,l=>(Wo p av sel j l).set j (av.getD (sel (p.st j)).toNat 0)
def TD (p:PD)(s:List Int × List Int × List Nd):List Int × List Int × List Nd:=
 (Wo p (Lo p s.1 (s.2.1,s.2.2) p.head.toNat (p.tail.toNat - p.head.toNat)).1 Prod.snd p.ns (List.replicate s.1.length 0),(Lo p s.1 (s.2.1,s.2.2) p.head.toNat (p.tail.toNat - p.head.toNat)).1,(Lo p s.1 (s.2.1,s.2.2) p.head.toNat (p.tail.toNat - p.head.toNat)).2)
def XZ (p:PD)(s:List Int × List Int × List Nd):Nat→List Int × List Int × List Nd
 | 0=>s
 | j+1=>TD p (XZ p s j)
def Qp (p:PD):List Int × List Nd:=Lo p (List.replicate p.ns 0) (List.replicate p.nn 0,[]) 0 (p.head.toNat - 0)
def PF (p:PD)(n:Nat):List Int × List Int × List Nd:=XZ p (Wo p (Qp p).1 Prod.fst p.ns (List.replicate p.ns 0),(Qp p).1,(Qp p).2) n
def Nr (p:PD)(n:Nat):List Int × List Nd:=Lo p (PF p n).1 ((PF p n).2.1,(PF p n).2.2) p.tail.toNat (p.nn - p.tail.toNat)
def YG (p:PD)(n:Nat):PD:=⟨p.f,p.mode,p.ins,some ((Nr p n).2.map Nd.e),(Nr p n).2.length,(Nr p n).2.length,none,(Nr p n).1.getD p.res.toNat 0⟩
theorem Qw (L:List Nd):(L.map Nd.e).flatten.map CV.d=j8 L:=by unfold j8;rw [List.flatMap_def]
structure CS where
 A0:List Nd
 A1:List Nd
 A2:List Nd
variable {c c':CS}
def CS.L (c:CS):List Nd:=c.A0++(c.A1++c.A2)
def CS.sec (c:CS):Nat→List Nd
 | 0=>c.A0
 | 1=>c.A1
 | _=>c.A2
def CS.off (c:CS):Nat→Nat
 | 0=>0
 | 1=>c.A0.length
 | _=>c.A0.length+c.A1.length
def CS.add (c:CS)(s:Nat)(n:Nd):CS:=
 match s with
 | 0=>⟨c.A0++[n],c.A1,c.A2⟩
 | 1=>⟨c.A0,c.A1++[n],c.A2⟩
 | _=>⟨c.A0,c.A1,c.A2++[n]⟩
def iQ (n:Nd):List Nd→Option Nat
 | []=>none
 | m::l=>if n=m then some 0 else (iQ n l).map (·+1)
def CS.find (c:CS)(s:Nat)(n:Nd):Option Nat:=
 match iQ n (c.sec s) with
 | some i=>some (c.off s+i)
 | none=>iQ n c.A0
def CS.put (c:CS)(s:Nat)(n:Nd):Nat × CS:=
 match c.find s n with
 | some i=>(i,c)
 | none=>(c.L.length,c.add s n)
def CS.upto (c:CS)(s:Nat):Prop:=(s=0→c.A1=[])∧(s≤1→c.A2=[])
theorem CS.OX{s:Nat}(h:c.upto s) (n:Nd):(c.add s n).L=c.L++[n]:=by
 obtain⟨a,b,d⟩:=c;obtain⟨h1,h2⟩:=h
 match s with
 | 0=>have e1:b=[]:=h1 rfl;have e2:d=[]:=h2 (by omega);subst e1;subst e2;simp [CS.add,CS.L]
 | 1=>have e2:d=[]:=h2 (by omega);subst e2;simp [CS.add,CS.L]
 | _+2=>simp [CS.add,CS.L]
theorem CS.yK{s:Nat}(h:c.upto s) (n:Nd):(c.put s n).2.upto s:=by
 unfold CS.put
 cases c.find s n with
 | some i=>exact h
 | none=>match s with
  | 0=>exact h
  | 1=>exact⟨fun h=>by omega,h.2⟩
  | _+2=>exact⟨fun h=>by omega,fun h=>by omega⟩
theorem CS.wJ{s:Nat}(h:c.upto s) (n:Nd):c.L.length≤(c.put s n).2.L.length∧(c.put s n).2.L.length≤c.L.length+1∧0≤(c.put s n).1:=by
 unfold CS.put
 cases c.find s n with
 | some i=>exact⟨aW _,Nat.le_succ _,Y4 _⟩
 | none=>rw [CS.OX h];simp
def gH (o:Nat):List Nd→List (DV × AV)
 | []=>[]
 | n::l=>(.agg n.e,.c (.d (.int .i64 o)))::gH (o+1) l
theorem Dc (n:Nd):∀ (l:List Nd) (o:Nat),gH o (l++[n])=gH o l++[(.agg n.e,.c (.d (.int .i64 (o+l.length:Nat))))]
 | [],o=>rfl
 | m::l,o=>by
  rw [Z3,gH,Dc n l (o+1),gH,Zn,show o+1+l.length=o+(l.length+1) by omega];rfl
theorem oD:∀ (l:List Nd) (o:Nat),∀ e∈gH o l,(∃ n:Nd,e.1=.agg n.e)∧∃ i:Nat,e.2=.c (.d (.int .i64 i))
 | [],_,e,h=>by cases h
 | n::l,o,e,h=>by
  rcases List.mem_cons.1 h with rfl|h
  ·exact⟨⟨n,rfl⟩,o,rfl⟩
  ·exact oD l (o+1) e h
theorem C3:∀ (l:List Nd) (o i:Nat),i<l.length→((gH o l)[i]?).map (·.2)=some (.c (.d (.int .i64 (o+i:Nat))))
 | [],_,_,h=>by cases h
 | n::l,o,0,_=>rfl
 | n::l,o,i+1,h=>by
  rw [gH,List.getElem?_cons_succ,C3 l (o+1) i (by simpa using h),show o+1+i=o+(i+1) by omega]
theorem HQ {n:Nd}:∀ {l:List Nd}{i:Nat},iQ n l=some i→i<l.length
 | [],_,h=>by cases h
 | m::l,i,h=>by
  unfold iQ at h;split at h
  ·cases h;simp
  ·obtain⟨j,hj,rfl⟩:=Option.map_eq_some_iff.1 h;have:=HQ hj;simp;omega
theorem PN (n m:Nd):tZ (.agg n.e) (.agg m.e)=decide (n=m):=by
 obtain⟨a1,a2,a3,a4,a5,a6,a7⟩:=n;obtain⟨b1,b2,b3,b4,b5,b6,b7⟩:=m;rw [Bool.eq_iff_iff];simp [tZ,Gj,lO]
theorem tM (n:Nd):∀ (l:List Nd) (o:Nat),jm (.agg n.e) (gH o l)=iQ n l
 | [],_=>rfl
 | m::l,o=>by
  rw [gH,jm,iQ,tM n l];simp only [PN,decide_eq_true_eq]
theorem LP:BD Tryz.prog 74=some (55,3):=by kernel_rfl
theorem Gd (n:Nd):fh Tryz.prog 55 (.agg n.e)=true:=by kernel_rfl
theorem SU:yA Tryz.prog 3=some (.c (.d (.int .i64 0))):=by kernel_rfl
theorem Ey (l:List Nd)(o:Nat):(gH o l).all (fun e=>fh Tryz.prog 55 e.1)=true:=by
 rw [YU];intro e he;obtain⟨⟨n,h⟩,-⟩:=oD l o e he;rw [h];exact Gd n
def OW (o:Nat)(x:Option Nat):AV:=
 match x with
 | some i=>.tup [.c (.d (.int .i64 (o+i:Nat))),.c (.d (.bool true))]
 | none=>.tup [.c (.d (.int .i64 0)),.c (.d (.bool false))]
theorem Cu{o:Nat}(h:lv k=.map own (gH o l)) (n:Nd):yf Tryz.prog 74 true lv (.c (.mapr k)) n.A=some (OW o (iQ n l),[],[k]):=by
 have hm:F8 lv (.c (.mapr k))=some (gH o l,[k]):=by unfold F8;simp only [h]
 have hd:kW n.A=some (.agg n.e):=rfl
 have hl:Dz Tryz.prog 3 (.agg n.e) (gH o l)=match iQ n l with|some i=>some (.c (.d (.int .i64 (o+i:Nat))),true)|none=>some (.c (.d (.int .i64 0)),false):=by
  unfold Dz;rw [tM]
  cases hx:iQ n l with
  | none=>simp only [SU];rfl
  | some i=>
   have:=C3 l o i (HQ hx);obtain⟨e,he,h2⟩:=Option.map_eq_some_iff.1 this;simp only [he,Zb,h2]
 unfold yf;simp only [hm,LP,hd,Gd,Ey,Bool.and_self,if_true,hl]
 cases iQ n l <;> rfl
theorem Vb{o:Nat}(h:lv k=.map own (gH o l)) {n:Nd}(hn:iQ n l=none)(hi:i=o+l.length):mH Tryz.prog 74 lv (.c (.mapr k)) n.A (.c (.d (.int .i64 i)))=some (.undef,[(k,.map own (gH o (l++[n])))],[]):=by
 subst hi;have hd:kW n.A=some (.agg n.e):=rfl
 have hp:vO (.agg n.e) (.c (.d (.int .i64 (o+l.length:Nat)))) (gH o l)=gH o (l++[n]):=by
  unfold vO;rw [tM,hn,Dc]
 unfold mH;simp only [h,LP,hd,Gd,Ey,Bool.and_self,if_true,hp];rfl
def nB (own:Bool)(L:List Nd):LB:=if L=[] then .bk else .cells own false 55 (j8 L)
theorem fN{L:List Nd}(h:nB own L=.hole):False:=by unfold nB at h;split at h <;> cases h
abbrev Bs (p:PD)(V:NS)(k1 k2 k3:Key)(n a l:Nat)(m0 m1 m2:CV)(f:Int × Int × Int):List CV:=
 [.d (.ptr (Jj p V)),fC p.f,.d (.int .i64 p.mode),fC p.ins,.aI k3 0 n 7,.d (.int .i64 0),.d (.int .i64 0),.d .nilsl,.d (.int .i64 0),.aI k1 0 a 1,.aI k2 0 l 1,m0,m1,m2,.d (.int .i64 f.1),.d (.int .i64 f.2.1),.d (.int .i64 f.2.2)]
def mV (ms:List Key)(t:Nat):CV:=match ms[t]? with|some k=>.mapr k|none=>.d .nilmap
def CS.xM (c:CS)(t:Nat):List (DV × AV):=gH (c.off t) (c.sec t)
def mB (q:Nat)(c:CS)(t:Nat):LB:=if t<q then .map false (c.xM t) else .hole
def eU (q t:Nat):CV:=if t<q then .mapr (4+t) else .d .nilmap
abbrev I1 (p:PD)(V:NS)(k3:Key)(L:List Nd)(av lf:List Int)(m0 m1 m2:CV)(f:Int × Int × Int)(b3 b4 b5 b6 b7:LB):Key→LB:=
 aD (aD (aD (aD (aD (aD (aD (aD (fun _=>.hole) 0 (.cells false false 78 (Bs p V 1 2 k3 L.length av.length lf.length m0 m1 m2 f))) 1 (bZ av)) 2 (bZ lf)) 4 b4) 5 b5) 6 b6) 7 b7) 3 b3
def MO (p:PD)(V:NS)(q:Nat)(c:CS)(av lf:List Int)(f:Int × Int × Int):Key→LB:=
 I1 p V 3 c.L av lf (eU q 0) (eU q 1) (eU q 2) f (nB false c.L) (mB q c 0) (mB q c 1) (mB q c 2) .hole
def Od (p:PD)(V:NS)(q:Nat)(c:CS)(av lf:List Int)(f:Int × Int × Int):Key→LB:=
 aD (I1 p V 1000 c.L av lf (eU q 0) (eU q 1) (eU q 2) f .dead (mB q c 0) (mB q c 1) (mB q c 2) .hole) 1000 (nB false c.L)
theorem eK(L:List Nd) (g:Key→Key) (h:own=true→o2=true):(nB o2 L).like (nB own L) g:=by
 unfold nB;split
 ·rfl
 ·exact⟨o2,_,rfl,(mW L g).symm,h⟩
theorem aM(l:List Nd) (o:Nat) (g:Key→Key) (h:own=true→o2=true):(LB.map o2 (gH o l)).like (.map own (gH o l)) g:=by
 refine⟨o2,_,rfl,?_,h,fun p hp l' e=>?_⟩
 ·conv=>lhs;rw [← aaM (gH o l)]
  refine Zj fun e he=>?_;obtain⟨-,i,h2⟩:=oD l o e he;obtain⟨a,b⟩:=e;simp only at h2;subst h2;rfl
 ·obtain⟨-,i,h2⟩:=oD l o p hp;rw [h2] at e;cases e
@[simp] theorem CV.R7 (g:Key→Key)(k:Key):(CV.mapr k).br g=.mapr (g k):=rfl
theorem pF (g:Key→Key):LB.dead.like .dead g:=by
 show LB.dead≠.hole;exact fun h=>by cases h
def nt (lv:Key→LB):Prop:=∀ k own es,lv k=.map own es→∀ p∈es,∀ l,p.2≠.tup l
theorem oM(h:nt lv){b:LB}(hb:∀ own es,b=.map own es→∀ p∈es,∀ l,p.2≠.tup l):nt (aD lv k b):=fun k' own es e=>by
 unfold aD at e;split at e
 ·exact hb own es e
 ·exact h k' own es e
theorem BU(h:nt lv):nt (aD lv k (.cells own fz T cs)):=oM h fun _ _ e=>by cases e
theorem BH(h:nt lv):nt (aD lv k .hole):=oM h fun _ _ e=>by cases e
theorem Cr(h:nt lv){L:List Nd}:nt (aD lv k (nB own L)):=oM h fun _ _ e=>by unfold nB at e;split at e <;> cases e
theorem BZ(h:nt lv){o:Nat}:nt (aD lv k (.map own (gH o l))):=oM h fun _ _ e p hp l' e2=>by
 injection e with e3 e4
 subst e4;obtain⟨-,i,h2⟩:=oD l o p hp;rw [h2] at e2;cases e2
theorem B9:nt (fun _=>.hole):=fun _ _ _ e=>by cases e
theorem Le.Wg {c:Ctx}(l:List (Nat × AV)) (hm:nt lv) (hl:∀ p∈l,p.2.bu=true∧fr p.1=p.2:=by simp) (he:lv=lv':=by rfl):Le c ⟨fr,lv⟩ ⟨bq l,lv'⟩:=by
 subst he;exact Le.slots l hl hm
@[simp] theorem Ql{e:Key × LB}{l:List (Key × LB)}:aR lv (e::l)=aR (aD lv e.1 e.2) l:=rfl
def gC (kn k4 k5 k6:Key):Key→Key:=fun k=>if k=0 then 0 else if k=1 then 1 else if k=2 then 2 else if k=4 then k4 else if k=5 then k5 else if k=6 then k6 else if k=7 then kn else if k=3 then 3 else 9
theorem Nj (kn k4 k5 k6:Key)(a b d e f g h i:LB):cF [(0,0,a),(1,1,b),(2,2,d),(4,k4,e),(5,k5,f),(6,k6,g),(7,kn,h),(3,3,i)] 9=gC kn k4 k5 k6:=by
 funext k;unfold gC;have e:∀ j:Key,k≠j→(j == k)=false:=fun j hj=>by simpa using fun h=>hj h.symm
 by_cases h0:k=0
 ·subst h0;rfl
 by_cases h1:k=1
 ·subst h1;rfl
 by_cases h2:k=2
 ·subst h2;rfl
 by_cases h4:k=4
 ·subst h4;rfl
 by_cases h5:k=5
 ·subst h5;rfl
 by_cases h6:k=6
 ·subst h6;rfl
 by_cases h7:k=7
 ·subst h7;rfl
 by_cases h3:k=3
 ·subst h3;rfl
 rw [if_neg h0,if_neg h1,if_neg h2,if_neg h4,if_neg h5,if_neg h6,if_neg h7,if_neg h3];simp [cF,List.find?,e _ h0,e _ h1,e _ h2,e _ h3,e _ h4,e _ h5,e _ h6,e _ h7]
theorem wH(h:MO p V q c av lf f k≠.hole):k=0∨k=1∨k=2∨k=3∨(k=4∧0<q)∨(k=5∧1<q)∨(k=6∧2<q):=by
 by_cases h0:k=0
 ·exact .inl h0
 by_cases h1:k=1
 ·exact .inr (.inl h1)
 by_cases h2:k=2
 ·exact .inr (.inr (.inl h2))
 by_cases h3:k=3
 ·exact .inr (.inr (.inr (.inl h3)))
 have hm:∀ t,mB q c t≠.hole→t<q:=fun t ht=>by
  by_cases hq:t<q
  ·exact hq
  ·exact absurd (if_neg hq) ht
 simp only [MO,aD] at h;rw [if_neg h3] at h
 by_cases h7:k=7
 ·rw [if_pos h7] at h;exact absurd rfl h
 rw [if_neg h7] at h
 by_cases h6:k=6
 ·rw [if_pos h6] at h;exact .inr (.inr (.inr (.inr (.inr (.inr ⟨h6,hm 2 h⟩)))))
 rw [if_neg h6] at h
 by_cases h5:k=5
 ·rw [if_pos h5] at h;exact .inr (.inr (.inr (.inr (.inr (.inl ⟨h5,hm 1 h⟩)))))
 rw [if_neg h5] at h
 by_cases h4:k=4
 ·rw [if_pos h4] at h;exact .inr (.inr (.inr (.inr (.inl ⟨h4,hm 0 h⟩))))
 rw [if_neg h4,if_neg h2,if_neg h1,if_neg h0] at h;exact absurd rfl h
theorem Rp(kn k4 k5 k6:Key) {L:List Nd}{m0 m1 m2:CV}{b4 b5 b6:LB}(l:List (Nat × AV))
 (hl0:c0.js=MO p V q c kF lf0 f0) (hk4:0<q→k4=4) (hk5:1<q→k5=5) (hk6:2<q→k6=6) (hk:([0,1,2,k4,k5,k6,kn]:List Key).Nodup)
 (h0:lv 0=.cells own false 78 (Bs p V 1 2 kn L.length av.length lf.length n0 n1 n2 f)) (h1:lv 1=.cells o1 false 3 (zK av)) (h2:lv 2=.cells o2 false 3 (zK lf)) (h3:lv 3≠.hole) (hn:lv kn=nB o3 L)
 (h4:∀ g,(lv k4).like b4 g) (h5:∀ g,(lv k5).like b5 g) (h6:∀ g,(lv k6).like b6 g) (h9:lv 9=.hole) (e0:n0=m0.br (gC kn k4 k5 k6)) (e1:n1=m1.br (gC kn k4 k5 k6)) (e2:n2=m2.br (gC kn k4 k5 k6))
 (hl:∀ x∈l,x.2.bu=true∧fr x.1=x.2.br (gC kn k4 k5 k6)):Le c0 ⟨fr,lv⟩ ⟨bq l,I1 p V 7 L av lf m0 m1 m2 f .dead b4 b5 b6 (nB false L)⟩:=by
 refine⟨gC kn k4 k5 k6,?_⟩;have hkm:=Nj kn k4 k5 k6 (.cells false false 78 (Bs p V 1 2 7 L.length av.length lf.length m0 m1 m2 f)) (bZ av) (bZ lf) b4 b5 b6 (nB false L) .dead;rw [← hkm];refine dn.Ts (s:=⟨fr,lv⟩) [(0,0,.cells false false 78 (Bs p V 1 2 7 L.length av.length lf.length m0 m1 m2 f)),(1,1,bZ av),(2,2,bZ lf),(4,k4,b4),(5,k5,b5),(6,k6,b6),(7,kn,nB false L)] [3] 9 l _ rfl rfl ?_ (by simp) hk h9 ?_ ?_ (by rw [hkm];exact hl)
 ·intro k hk';rw [hkm];rw [hl0] at hk';rcases wH hk' with rfl|rfl|rfl|rfl|⟨rfl,hq⟩|⟨rfl,hq⟩|⟨rfl,hq⟩
  ·exact .inr rfl
  ·exact .inr rfl
  ·exact .inr rfl
  ·exact .inl rfl
  ·exact .inr (hk4 hq)
  ·exact .inr (hk5 hq)
  ·exact .inr (hk6 hq)
 ·rw [hkm];simp only [abp,Y6,false_implies,implies_true,and_true];refine⟨?_,?_,?_,h4 _,h5 _,h6 _,?_⟩
  ·rw [h0];refine⟨own,_,rfl,?_,fun h=>by cases h⟩;rw [e0,e1,e2];simp [gC]
  ·rw [h1];exact⟨o1,_,rfl,(bT av _).symm,fun h=>by cases h⟩
  ·rw [h2];exact⟨o2,_,rfl,(bT lf _).symm,fun h=>by cases h⟩
  ·rw [hn];exact eK L _ (fun h=>by cases h)
 ·intro k hk';rw [List.mem_singleton.1 hk'];exact h3
theorem pI (q t:Nat){g:Key→Key}(h:t<q→g (4+t)=4+t):(eU q t).br g=eU q t:=by
 unfold eU;split
 ·rename_i hq;show CV.mapr (g (4+t))=_;rw [h hq]
 ·rfl
theorem wB(q:Nat)(c':CS) (kn:Key)(l:List (Nat × AV))
 (hl0:c0.js=MO p V q0 c kF lf0 f0) (hk:([0,1,2,4,5,6,kn]:List Key).Nodup)
 (h0:lv 0=.cells own false 78 (Bs p V 1 2 kn c'.L.length av.length lf.length (eU q 0) (eU q 1) (eU q 2) f)) (h1:lv 1=.cells o1 false 3 (zK av)) (h2:lv 2=.cells o2 false 3 (zK lf)) (h3:lv 3≠.hole) (hn:lv kn=nB o3 c'.L)
 (h4:∀ g,(lv 4).like (mB q c' 0) g) (h5:∀ g,(lv 5).like (mB q c' 1) g) (h6:∀ g,(lv 6).like (mB q c' 2) g) (h9:lv 9=.hole)
 (hl:∀ x∈l,x.2.bu=true∧fr x.1=x.2.br (gC kn 4 5 6)):Le c0 ⟨fr,lv⟩ ⟨bq l,I1 p V 7 c'.L av lf (eU q 0) (eU q 1) (eU q 2) f .dead (mB q c' 0) (mB q c' 1) (mB q c' 2) (nB false c'.L)⟩:=
 Rp kn 4 5 6 l hl0 (fun _=>rfl) (fun _=>rfl) (fun _=>rfl) hk h0 h1 h2 h3 hn h4 h5 h6 h9 (pI q 0 fun _=>rfl).symm (pI q 1 fun _=>rfl).symm (pI q 2 fun _=>rfl).symm hl
def Jd:Key→Key:=fun k=>if k=0 then 0 else if k=1 then 1 else if k=2 then 2 else if k=4 then 4 else if k=5 then 5 else if k=6 then 6 else if k=7 then 8 else if k=3 then 3 else if k=1000 then 7 else 9
theorem IE (a b d e f g h i j:LB):cF [(0,0,a),(1,1,b),(2,2,d),(4,4,e),(5,5,f),(6,6,g),(7,8,h),(3,3,i),(1000,7,j)] 9=Jd:=by
 funext k;unfold Jd;have e:∀ j:Key,k≠j→(j == k)=false:=fun j hj=>by simpa using fun h=>hj h.symm
 by_cases h0:k=0
 ·subst h0;rfl
 by_cases h1:k=1
 ·subst h1;rfl
 by_cases h2:k=2
 ·subst h2;rfl
 by_cases h4:k=4
 ·subst h4;rfl
 by_cases h5:k=5
 ·subst h5;rfl
 by_cases h6:k=6
 ·subst h6;rfl
 by_cases h7:k=7
 ·subst h7;rfl
 by_cases h3:k=3
 ·subst h3;rfl
 by_cases h8:k=1000
 ·subst h8;rfl
 rw [if_neg h0,if_neg h1,if_neg h2,if_neg h4,if_neg h5,if_neg h6,if_neg h7,if_neg h3,if_neg h8];simp [cF,List.find?,e _ h0,e _ h1,e _ h2,e _ h3,e _ h4,e _ h5,e _ h6,e _ h7,e _ h8]
theorem bw (q:Nat)(c:CS)(t:Nat)(g:Key→Key):(mB q c t).like (mB q c t) g:=by
 unfold mB;split
 ·exact aM _ _ g id
 ·rfl
theorem yt{σ':List LB}{e:Ex}(he:e=.ret∨e=.normal) (hl0:c0.js=MO p V q0 c kF lf0 f0)
 (hs:s.lv=I1 p V 7 c'.L av lf (eU q 0) (eU q 1) (eU q 2) f .dead (mB q c' 0) (mB q c' 1) (mB q c' 2) (nB false c'.L)) (hσ':bn σ' ν=Od p V q c' av lf f) (hx:x.pure=true) (hr:cM c0.P s fn.results.toList=some x):LJ c0 fn x σ' ν e s κ:=by
 have key:∃ (m:List (Key × Key × LB)) (kh:Key),bn σ' ν=aR (fun _=>.hole) (m.map fun e=>(e.1,e.2.2))∧(m.map (·.1)).Nodup∧(m.map (·.2.1)).Nodup∧s.lv kh=.hole ∧
  (∀ k,c0.js k≠.hole→bn σ' ν k=.dead∨cF m kh k=k)∧(∀ e∈m,(s.lv e.2.1).like e.2.2 (cF m kh))∧x.bu=true∧cM c0.P s fn.results.toList=some (x.br (cF m kh)):=by
  have hkm:=IE (.cells false false 78 (Bs p V 1 2 1000 c'.L.length av.length lf.length (eU q 0) (eU q 1) (eU q 2) f)) (bZ av) (bZ lf) (mB q c' 0) (mB q c' 1) (mB q c' 2) .hole .dead (nB false c'.L);refine⟨[(0,0,.cells false false 78 (Bs p V 1 2 1000 c'.L.length av.length lf.length (eU q 0) (eU q 1) (eU q 2) f)),(1,1,bZ av),(2,2,bZ lf),(4,4,mB q c' 0),(5,5,mB q c' 1),(6,6,mB q c' 2),(7,8,.hole),(3,3,.dead),(1000,7,nB false c'.L)],9,hσ',by simp,by simp,by rw [hs];rfl,?_,?_,AV.bQ hx,by rw [AV.aX hx];exact hr⟩
  ·intro k hk';rw [hkm,hσ'];rw [hl0] at hk';rcases wH hk' with rfl|rfl|rfl|rfl|⟨rfl,hq⟩|⟨rfl,hq⟩|⟨rfl,hq⟩
   ·exact .inr rfl
   ·exact .inr rfl
   ·exact .inr rfl
   ·exact .inl rfl
   ·exact .inr rfl
   ·exact .inr rfl
   ·exact .inr rfl
  ·rw [hkm,hs];simp only [abp,Y6,false_implies,implies_true,and_true];refine⟨⟨false,_,rfl,?_,id⟩,⟨false,_,rfl,(bT av _).symm,id⟩,⟨false,_,rfl,(bT lf _).symm,id⟩,bw q c' 0 _,bw q c' 1 _,bw q c' 2 _,rfl,pF _,eK c'.L _ id⟩;have e0:=pI q 0 (g:=Jd) (fun _=>rfl);have e1:=pI q 1 (g:=Jd) (fun _=>rfl);have e2:=pI q 2 (g:=Jd) (fun _=>rfl);simp [Jd,e0,e1,e2]
 rcases he with rfl|rfl <;> exact key
theorem SX (lv:Key→LB)(κ:Key)(h:lv κ=.hole)(a b:CV):aB Tryz.prog 30 2 [0,1] lv κ [.c a,.c b]=some (.c (.aI κ 0 2 1),[(κ,.cells true false 3 [a,b])],[],True):=by
 unfold aB;rw [h];kernel_rfl
theorem AW.Ui {c:Ctx}{x:Code}(h:lv=lv') (k:AW c r x ⟨fr,lv'⟩ κ Q):AW c r x ⟨fr,lv⟩ κ Q:=by rw [h];exact k
theorem yT (k:Key)(r:List CV):dQ Tryz.prog 74 (.mapr k::r)=some (.c (.mapr k)):=by kernel_rfl
abbrev X9 (n:Nd):List CV:=[.d (.int .i64 n.op),.d (.int .i64 n.a),.d (.int .i64 n.b),.d (.int .i64 n.c),.d (.int .i64 n.d),.d (.int .i64 n.f),.d (.str n.v)]
theorem RM{L:List Nd}(h:lv k=nB own L) (hL:L.length≤1000):dW Tryz.prog 24 lv (.c (.aI k 0 L.length 7))=some (.c (.d (.int .i64 L.length)),[],[k],True):=by
 have hT:(ff Tryz.prog 24).isSome=true:=by simp
 have h2:lF Tryz.prog 24 lv (.c (.aI k 0 L.length 7))=some (L.length:Int):=by
  unfold nB at h;unfold lF;split at h <;> simp only [h,hT,if_true]
 have h3:kV (.c (.aI k 0 L.length 7)) (L.length:Int)=True:=eq_true (by simp [kV];omega);unfold dW;simp only [h2,h3];rfl
theorem rE (o:Nat)(x:Option Nat):OW o x=.tup [.c (.d (.int .i64 (match x with|some i=>((o+i:Nat):Int)|none=>0))),.c (.d (.bool x.isSome))]:=by cases x <;> rfl
theorem F5 (m:Int)(p:PD)(V:NS)(c:CS)(av lf:List Int)(f:Int × Int × Int)(s:Nat)(hs:s<3)(n:Nd)(hc:c.upto s)(hL:c.L.length≤1000)(σ σ' ν:List LB)(hσ:bn σ []=MO p V (s+1) c av lf f)(hσ':bn σ' ν=Od p V (s+1) (c.put s n).2 av lf f) :
 aG Tryz.prog (GG m) 107 [.c (.ptr 0 0),.c (.d (.int .i64 s)),n.A] σ (.ret (.c (.d (.int .i64 ((c.put s n).1:Nat)))) σ' ν):=by
 have hadd:=CS.OX hc n;have hw:=dF (n:=(c.L.length:Int)) (by omega) (by omega);have hLb:(c.L.length:Int)≤9223372036854775807:=by omega
 have hoff:c.L.length=c.off s+(c.sec s).length:=by
  obtain⟨a,b,d⟩:=c;obtain⟨h1,h2⟩:=hc;obtain rfl|rfl|rfl:s=0∨s=1∨s=2:=by omega
  ·have e1:b=[]:=h1 rfl;have e2:d=[]:=h2 (by omega);subst e1;subst e2;simp [CS.L,CS.off,CS.sec]
  ·have e2:d=[]:=h2 (by omega);subst e2;simp [CS.L,CS.off,CS.sec]
  ·simp [CS.L,CS.off,CS.sec];omega
 have hsec:(c.add s n).sec s=c.sec s++[n]∧(c.add s n).off s=c.off s:=by
  obtain rfl|rfl|rfl:s=0∨s=1∨s=2:=by omega
  all_goals exact⟨rfl,rfl⟩
 have hfS:∀ i,iQ n (c.sec s)=some i→c.put s n=(c.off s+i,c):=fun i h=>by unfold CS.put CS.find;rw [h]
 have hf0:∀ i,iQ n (c.sec s)=none→iQ n c.A0=some i→c.put s n=(i,c):=fun i h h2=>by unfold CS.put CS.find;rw [h,h2]
 have hfN:iQ n (c.sec s)=none→iQ n c.A0=none→c.put s n=(c.L.length,c.add s n):=fun h h2=>by unfold CS.put CS.find;rw [h,h2]
 refine aG.Q2 Tryz.func107 rfl hσ fun _=>?_;refine AW.Ui (lv':=I1 p V 3 c.L av lf (eU (s+1) 0) (eU (s+1) 1) (eU (s+1) 2) f (nB false c.L) (mB (s+1) c 0) (mB (s+1) c 1) (mB (s+1) c 2) .hole) rfl ?_;refine aax 10 ?_;refine aab ?_;refine aaa fun K hK=>aai fun K1 hK1=>?_;simp [SX,-aB]
 repeat refine ah ?_
 apply hK1;refine aag ?_
 refine aap (fun (j:Nat)=>⟨bq [(0,.c (.ptr 0 0)),(1,.c (.d (.int .i64 s))),(5,.c (.ptr 10 0)),(12,.c (.aI 11 0 2 1)),(13,.c (.d (.int .i64 2))),(14,.c (.d (.int .i64 j)))],
  aD (aD (I1 p V 3 c.L av lf (eU (s+1) 0) (eU (s+1) 1) (eU (s+1) 2) f (nB false c.L) (mB (s+1) c 0) (mB (s+1) c 1) (mB (s+1) c 2) .hole) 10 (.cells true false 55 (X9 n))) 11 (.cells true false 3 [.d (.int .i64 s),.d (.int .i64 0)])⟩) 12
  (fun j=>j≤2∧(1≤j→iQ n (c.sec s)=none)∧(2≤j→iQ n c.A0=none)) (fun j=>2 - j) 0 (Le.Wg _ (by
   obtain rfl|rfl|rfl:s=0∨s=1∨s=2:=by omega
   all_goals repeat (first|exact B9|refine BU ?_|refine BH ?_|refine Cr ?_|refine BZ ?_))) ⟨by omega,fun h=>by omega,fun h=>by omega⟩ ?_
 rintro j ⟨hj,hj1,hj2⟩;have hln:∀ lv:Key→LB,lv 3=nB false c.L→dW Tryz.prog 24 lv (.c (.aI 3 0 c.L.length 7))=some (.c (.d (.int .i64 c.L.length)),[],[3],True):=fun lv h=>RM h (by omega)
 have hbs:∀ (lv:Key→LB) (h:lv 12=.hole) (n:Nd),aB Tryz.prog 24 1 [0] lv 12 [n.A]=some (.c (.aI 12 0 1 7),[(12,.cells true false 55 (j8 [n]))],[],True):=fun lv h n=>V3 lv 12 h n
 obtain⟨c1,hc1⟩:∃ c1,(c.put s n).2=c1:=⟨_,rfl⟩
 obtain⟨v1,vw⟩:∃ v1,(c.put s n).1=v1:=⟨_,rfl⟩
 rw [hc1] at hσ';rw [vw];have w1:=dF (n:=1) (by omega) (by omega);have w2:=dF (n:=2) (by omega) (by omega);refine aab ?_;refine aaa fun K2 hK2=>?_
 by_cases hjt:j<2
 ·have hjt':(j:Int)<2:=by omega
  refine aaf (by simp [hjt'] <;> omega) (aac (hK2 _ _ (aaa fun K3 hK3=>aag (aaa fun K4 hK4=>?_))));have hjj:j=0∨j=1:=by omega
  obtain rfl|rfl:=hjj
  ·refine AW.l0 (hK4 _ _ ?_)
   cases hx:iQ n (c.sec s) with
   | some q=>
    have e:=hfS q hx;rw [e] at hc1 vw;subst hc1 vw;have hs0:s=0∨s=1∨s=2:=by omega
    obtain hs0|hs0|hs0:=hs0
    all_goals
     have hx':=hx;rw [hs0] at hx';refine aaa fun K4 hK4=>?_;refine AW.Em mixed (by kernel_rfl) ?_;refine tF.run 7 rfl ?_;simp [hs0,eU,mB,yT];refine tF.cU 12 rfl rfl (by simp [Am.cU,Op.operands];exact Cu rfl n) ?_;rw [rE];refine tF.run 5 rfl ?_;simp;refine tF.done ?_;refine⟨by kernel_rfl,?_⟩
     repeat refine ah ?_
     apply hK4;refine aal hx' ?_;refine aak (aab ?_);refine aaz (κ2:=9) (wB (s+1) c 3 [(6,.c (.d (.int .i64 ((c.off s+q:Nat):Int))))] rfl (by decide) (by rw [hs0];rfl) rfl rfl (fun h=>fN h) rfl (fun g=>by rw [hs0];first|exact aM _ _ g id|exact rfl) (fun g=>by rw [hs0];first|exact aM _ _ g id|exact rfl) (fun g=>by rw [hs0];first|exact aM _ _ g id|exact rfl) rfl (by simp [hs0])) ?_;exact aad (yt (κ:=0) (.inl rfl) rfl rfl hσ' rfl (by simp [Tryz.f107,cM,gz,iB]))
   | none=>
    have hs0:s=0∨s=1∨s=2:=by omega
    obtain hs0|hs0|hs0:=hs0
    all_goals
     have hx':=hx;rw [hs0] at hx';refine aaa fun K4 hK4=>?_;refine AW.Em mixed (by kernel_rfl) ?_;refine tF.run 7 rfl ?_;simp [hs0,eU,mB,yT];refine tF.cU 12 rfl rfl (by simp [Am.cU,Op.operands];exact Cu rfl n) ?_;rw [rE];refine tF.run 5 rfl ?_;simp;refine tF.done ?_;refine⟨by kernel_rfl,?_⟩
     repeat refine ah ?_
     apply hK4;refine aal hx' ?_;refine aaj (aac (hK3 _ _ (aae ?_)));simp [w1]
     refine⟨1,Le.Wg _ (by
      try rw [hs0]
      repeat (first|exact B9|refine BU ?_|refine BH ?_|refine Cr ?_|refine BZ ?_)) (by simp [hs0]) (by rw [hs0];rfl),⟨by omega,fun _=>hx,fun h=>by omega⟩,by omega⟩
  ·refine AW.l0 (hK4 _ _ ?_);have hx:=hj1 (by omega)
   cases hx0:iQ n c.A0 with
   | some q=>
    have e:=hf0 q hx hx0;rw [e] at hc1 vw;subst hc1 vw;have hs0:s=0∨s=1∨s=2:=by omega
    obtain hs0|hs0|hs0:=hs0
    all_goals
     refine aaa fun K4 hK4=>?_;refine AW.Em mixed (by kernel_rfl) ?_;refine tF.run 7 rfl ?_;simp [hs0,eU,mB,yT];refine tF.cU 12 rfl rfl (by simp [Am.cU,Op.operands];exact Cu rfl n) ?_;rw [rE];refine tF.run 5 rfl ?_;simp;refine tF.done ?_;refine⟨by kernel_rfl,?_⟩
     repeat refine ah ?_
     apply hK4;refine aai fun K4 hK4=>?_;simp [CS.off,CS.sec,hx0]
     repeat refine ah ?_
     apply hK4;refine aak (aab ?_);refine aaz (κ2:=9) (wB (s+1) c 3 [(6,.c (.d (.int .i64 (q:Int))))] rfl (by decide) (by rw [hs0];rfl) rfl rfl (fun h=>fN h) rfl (fun g=>by rw [hs0];first|exact aM _ _ g id|exact rfl) (fun g=>by rw [hs0];first|exact aM _ _ g id|exact rfl) (fun g=>by rw [hs0];first|exact aM _ _ g id|exact rfl) rfl (by simp [hs0])) ?_;exact aad (yt (κ:=0) (.inl rfl) rfl rfl hσ' rfl (by simp [Tryz.f107,cM,gz,iB]))
   | none=>
    have hs0:s=0∨s=1∨s=2:=by omega
    obtain hs0|hs0|hs0:=hs0
    all_goals
     refine aaa fun K4 hK4=>?_;refine AW.Em mixed (by kernel_rfl) ?_;refine tF.run 7 rfl ?_;simp [hs0,eU,mB,yT];refine tF.cU 12 rfl rfl (by simp [Am.cU,Op.operands];exact Cu rfl n) ?_;rw [rE];refine tF.run 5 rfl ?_;simp;refine tF.done ?_;refine⟨by kernel_rfl,?_⟩
     repeat refine ah ?_
     apply hK4;refine aai fun K4 hK4=>?_;simp [CS.off,CS.sec,hx0]
     repeat refine ah ?_
     apply hK4;refine aaj (aac (hK3 _ _ (aae ?_)));simp [w2]
     refine⟨2,Le.Wg _ (by
      try rw [hs0]
      repeat (first|exact B9|refine BU ?_|refine BH ?_|refine Cr ?_|refine BZ ?_)) (by simp [hs0]) (by rw [hs0];rfl),⟨by omega,fun _=>hx,fun _=>hx0⟩,by omega⟩
 have hje:j=2:=by omega
 subst hje;have hx:=hj1 (by omega);have hx0:=hj2 (by omega);have e:=hfN hx hx0;rw [e] at hc1 vw;subst hc1 vw;refine aaj (aan (hK _ _ ?_));have hL2:(c.add s n).L.length=c.L.length+1:=by rw [hadd];simp
 have hB2:∀ own,nB own (c.add s n).L=.cells own false 55 (j8 (c.L++[n])):=fun own=>by rw [hadd];exact if_neg (by simp)
 have w0:=dF (n:=0) (by omega) (by omega);have hw9:=dF (n:=(c.L.length:Int)) (by omega) (by omega);have hs0:s=0∨s=1∨s=2:=by omega
 obtain hs0|hs0|hs0:=hs0
 all_goals
  have hx':=hx;rw [hs0] at hx';have hL2':=hL2;rw [hs0] at hL2';have ho':=hoff;rw [hs0] at ho';refine aaa fun K hK=>?_;refine AW.Em mixed (by kernel_rfl) ?_;refine tF.run 13 rfl ?_;simp [hs0,eU,mB,yT,hln];refine tF.cU 12 rfl rfl (by simp [Am.cU,Op.operands];exact Vb rfl hx' ho') ?_;refine tF.done ?_;simp;refine⟨by kernel_rfl,?_⟩
  repeat refine ah ?_
  apply hK
  by_cases hL0:c.L=[]
  ·have hB:nB false c.L=.bk:=if_pos hL0;have hl0:c.L.length=0:=by rw [hL0];rfl
   refine aaa fun K hK=>?_;refine aaq mixed (by kernel_rfl) rfl ?_;simp [hbs,jl,keyOf,Cm,Kt,aj,hB,hl0,-aB];refine⟨by kernel_rfl,?_⟩
   repeat refine ah ?_
   apply hK;refine aar w0 hl0 ?_;rw [e];refine aaz (κ2:=9) (wB (s+1) (c.add s n) (f:=f) (own:=false) 13 [(6,.c (.d (.int .i64 (c.L.length:Int))))] (o3:=true) rfl (by decide) (by rw [hs0];simp [hL2',hl0,eU]) rfl rfl (fun h=>by cases h) (by simp [hB2,GY,hL0,show j8 []=[] from rfl]) (fun g=>by rw [hs0];first|exact aM _ _ g id|exact rfl) (fun g=>by rw [hs0];first|exact aM _ _ g id|exact rfl) (fun g=>by rw [hs0];first|exact aM _ _ g id|exact rfl) rfl (by simp [hs0,w0,hl0])) ?_;exact aad (yt (κ:=0) (.inl rfl) rfl rfl hσ' rfl (by simp [Tryz.f107,cM,gz,iB]))
  ·have hB:nB false c.L=.cells false false 55 (j8 c.L):=if_neg hL0;refine aaa fun K hK=>?_;refine aaq mixed (by kernel_rfl) rfl ?_;simp [hbs,jl,keyOf,Cm,Kt,aj,hB,G3,-aB]
   repeat refine ah ?_
   refine⟨by kernel_rfl,?_⟩
   repeat refine ah ?_
   apply hK;refine aal hw9 ?_;rw [e];refine aaz (κ2:=9) (wB (s+1) (c.add s n) (f:=f) (own:=false) 13 [(6,.c (.d (.int .i64 (c.L.length:Int))))] (o3:=false) rfl (by decide) (by rw [hs0];simp [hL2',eU]) rfl rfl (fun h=>by cases h) (by simp [hB2,GY]) (fun g=>by rw [hs0];first|exact aM _ _ g id|exact rfl) (fun g=>by rw [hs0];first|exact aM _ _ g id|exact rfl) (fun g=>by rw [hs0];first|exact aM _ _ g id|exact rfl) rfl (by simp [hs0,hw9])) ?_;exact aad (yt (κ:=0) (.inl rfl) rfl rfl hσ' rfl (by simp [Tryz.f107,cM,gz,iB]))
def BG (p:PD)(V:NS)(q:Nat)(c:CS)(av lf:List Int)(f:Int × Int × Int):List LB:=
 [.cells false false 78 (Bs p V 1 2 3 c.L.length av.length lf.length (eU q 0) (eU q 1) (eU q 2) f),bZ av,bZ lf,nB false c.L]++(List.range q).map (fun t=>.map false (c.xM t))
def vv (p:PD)(V:NS)(q:Nat)(c:CS)(av lf:List Int)(n0 n1 n2:CV)(f:Int × Int × Int):List LB:=
 [.cells false false 78 (Bs p V 1 2 1000 c.L.length av.length lf.length n0 n1 n2 f),bZ av,bZ lf,.dead]++(List.range q).map (fun t=>.map false (c.xM t))
theorem yS {σ:List LB}(h:∀ i (hi:i<σ.length),lv i=σ[i]) (h':∀ i (hi:i<ν.length),lv (1000+i)=ν[i]) (hσ:σ.length≤1000) (h2:∀ k:Nat,¬ k<σ.length→¬ (1000≤k∧k<1000+ν.length)→lv k=.hole):bn σ ν=lv:=by
 refine funext fun (k:Nat)=>?_;rw [Hj]
 by_cases hk:k<1000
 ·rw [if_pos hk]
  by_cases h3:k<σ.length
  ·rw [h k h3,hJ,cn h3];rfl
  ·rw [c8 (by omega),h2 k h3 (by omega)]
 ·rw [if_neg hk]
  by_cases h3:k - 1000<ν.length
  ·have:=h' (k - 1000) h3;rw [show 1000+(k - 1000)=k by omega] at this;rw [this,hJ,cn h3];rfl
  ·rw [c8 (by omega),h2 k (by omega) (by omega)]
theorem RP {f:Key→LB}{a b c d e x y z:Nat}{A B C D E X Y Z:LB}{k:Nat}(h1:k≠a) (h2:k≠b) (h3:k≠c) (h4:k≠d) (h5:k≠e) (h6:k≠x) (h7:k≠y) (h8:k≠z):aD (aD (aD (aD (aD (aD (aD (aD f a A) b B) c C) d D) e E) x X) y Y) z Z k=f k:=by
 rw [aC _ _ h8,aC _ _ h7,aC _ _ h6,aC _ _ h5,aC _ _ h4,aC _ _ h3,aC _ _ h2,aC _ _ h1]
theorem ur (p:PD)(V:NS)(q:Nat)(hq:q≤3)(c:CS)(av lf:List Int)(f:Int × Int × Int):bn (BG p V q c av lf f) []=MO p V q c av lf f:=by
 have hl:(BG p V q c av lf f).length=4+q:=by simp [BG];omega
 refine yS (fun i hi=>?_) (fun i hi=>by cases hi) (by omega) (fun k h1 _=>?_)
 ·match i,hi with
  | 0,_=>rfl
  | 1,_=>rfl
  | 2,_=>rfl
  | 3,_=>rfl
  | t+4,hi=>
   have ht:t<q:=by omega
   have e:(BG p V q c av lf f)[t+4]=.map false (c.xM t):=by simp [BG]
   rw [e];have:t=0∨t=1∨t=2:=by omega
   rcases this with rfl|rfl|rfl
   ·exact if_pos ht
   ·exact if_pos ht
   ·exact if_pos ht
 ·rw [hl] at h1
  by_cases h:MO p V q c av lf f k=.hole
  ·exact h
  ·rcases wH h with rfl|rfl|rfl|rfl|⟨rfl,hq⟩|⟨rfl,hq⟩|⟨rfl,hq⟩ <;> omega
theorem lN (p:PD)(V:NS)(q:Nat)(hq:q≤3)(c:CS)(av lf:List Int)(f:Int × Int × Int):bn (vv p V q c av lf (eU q 0) (eU q 1) (eU q 2) f) [nB false c.L]=Od p V q c av lf f:=by
 have hl:(vv p V q c av lf (eU q 0) (eU q 1) (eU q 2) f).length=4+q:=by simp [vv];omega
 refine yS (fun i hi=>?_) (fun i hi=>?_) (by omega) (fun k h1 h2=>?_)
 ·match i,hi with
  | 0,_=>rfl
  | 1,_=>rfl
  | 2,_=>rfl
  | 3,_=>rfl
  | t+4,hi=>
   have ht:t<q:=by omega
   have e:(vv p V q c av lf (eU q 0) (eU q 1) (eU q 2) f)[t+4]=.map false (c.xM t):=by simp [vv]
   rw [e];have:t=0∨t=1∨t=2:=by omega
   rcases this with rfl|rfl|rfl
   ·exact if_pos ht
   ·exact if_pos ht
   ·exact if_pos ht
 ·have:i=0:=by simpa using hi
  subst this;rfl
 ·rw [hl] at h1;have hk:k≠1000:=fun e=>h2 ⟨by omega,by simp [e]⟩
  by_cases h4:k=4
  ·subst h4;exact if_neg (by omega)
  by_cases h5:k=5
  ·subst h5;exact if_neg (by omega)
  by_cases h6:k=6
  ·subst h6;exact if_neg (by omega)
  by_cases h7:k=7
  ·subst h7;rfl
  unfold Od;rw [aC _ _ hk];exact RP (by omega) (by omega) (by omega) h4 h5 h6 h7 (by omega)
theorem su (L:List Nd)(g:Key→Key)(own:Bool):((nB false L).br g).fix own=nB own L:=by
 unfold nB;split
 ·rfl
 ·show LB.cells _ _ _ _=_;rw [mW,abg]
theorem Ny (o:Nat)(l:List Nd)(g:Key→Key):(gH o l).map (fun p=>(p.1,p.2.kM g))=gH o l:=by
 obtain⟨_,_,h1,h2,_⟩:=aM (own:=false) (o2:=false) l o g id;injection h1 with h3 h4
 exact h2.symm.trans h4.symm
theorem Ea (o:Nat)(l:List Nd)(g:Key→Key)(own:Bool):((LB.map false (gH o l)).br g).fix own=.map own (gH o l):=by
 show LB.map _ _=_;rw [Ny,abg]
theorem No (lv:Key→LB)(n:Nat)(o:Option (List (List DV))):fY lv n (fC o)=[]:=by cases o <;> cases n <;> rfl
theorem Bh (lv:Key→LB)(n:Nat)(x:DV):fY lv n (.d x)=[]:=by cases n <;> rfl
theorem Qd (lv:Key→LB)(n:Nat)(x:Key):fY lv n (.mapr x)=[]:=by cases n <;> rfl
theorem Qs (lv:Key→LB)(n:Nat)(ms:List Key)(t:Nat):fY lv n (mV ms t)=[]:=by unfold mV;split <;> first|exact Qd ..|exact Bh ..
theorem Qn (lv:Key→LB)(n:Nat)(l:List Int):(zK l).flatMap (fY lv n)=[]:=by
 unfold zK;rw [abH,abl];intro x _;exact Bh _ _ _
theorem QY (lv:Key→LB)(n:Nat)(l:List Nd):(j8 l).flatMap (fY lv n)=[]:=by
 unfold j8;rw [abH,abl];intro x _;exact Bh _ _ _
theorem QG{ms:List Key}(hq:ms.length=q) {e kh:Key}{nk:List Key}(h3:q≤3) (t:Nat):mV ms t=(eU q t).br (aF ([a,b,d,e]++ms) nk kh):=by
 unfold mV eU
 by_cases ht:t<q
 ·rw [if_pos ht,cn (by omega)];show CV.mapr _=.mapr (aF _ _ _ (4+t));congr 1;show _=if _ then _ else _
  rw [if_pos (show (4+t:Nat)<1000 by omega),hJ,Zf (by simp)];simp [cn (show t<ms.length by omega)]
 ·rw [if_neg ht,ZU (by omega)];rfl
theorem ag.cg{fid:FuncId}{us:List AV}(κ' kh:Key) (own:Bool) (k0 k1 k2 k3:Key) (ms nk:List Key){f':Int × Int × Int}{o0:Bool}
 (hc:aG c0.P c0.G fid (.c (.ptr 0 0)::us) (BG p V ms.length c av lf f) (.ret x (vv p V ms.length c' av lf n0 n1 n2 f') ν)) (hx:x.pure=true) (hu:∀ a∈us,a.pure=true) (hq:ms.length≤3) (hn:(([k0,k1,k2,k3]++ms)++nk).Nodup) (hkh:kh ∉ ([k0,k1,k2,k3]++ms)++nk) (hl:nk.length=ν.length)
 (h0:lv k0=.cells o0 false 78 (Bs p V k1 k2 k3 c.L.length av.length lf.length (mV ms 0) (mV ms 1) (mV ms 2) f)) (h1:lv k1=.cells o1 false 3 (zK av)) (h2:lv k2=.cells o2 false 3 (zK lf)) (h3:lv k3=nB o3 c.L)
 (hm:∀ t (h:t<ms.length),∃ o,lv ms[t]=.map o (c.xM t)∧(own=true→o=true)) (ho:own=true→o0=true∧o1=true∧o2=true∧o3=true) (hnk:∀ k∈nk,lv k=.hole) (hh:lv kh=.hole) (hν:∀ b∈ν,b≠.hole)
 (hK:K x ([(k0,.cells own false 78 (Bs p V k1 k2 (nk.getD 0 kh) c'.L.length av.length lf.length (n0.br (aF ([k0,k1,k2,k3]++ms) nk kh)) (n1.br (aF ([k0,k1,k2,k3]++ms) nk kh)) (n2.br (aF ([k0,k1,k2,k3]++ms) nk kh)) f')),(k1,.cells own false 3 (zK av)),(k2,.cells own false 3 (zK lf)),(k3,.dead)] ++
  (List.zipWith (fun k t=>(k,LB.map own (c'.xM t))) ms (List.range ms.length)++bB (aF ([k0,k1,k2,k3]++ms) nk kh) own nk ν)) [kh,k0,k1,k2,k3] κ'):ag c0 fid (.c (.ptr k0 0)::us) lv K:=by
 obtain⟨g,hg⟩:∃ g,aF ([k0,k1,k2,k3]++ms) nk kh=g:=⟨_,rfl⟩
 have g0:g 0=k0:=by rw [← hg];rfl
 have g1:g 1=k1:=by rw [← hg];rfl
 have g2:g 2=k2:=by rw [← hg];rfl
 have g3:g 3=k3:=by rw [← hg];rfl
 have gN:g 1000=nk.getD 0 kh:=by rw [← hg];rfl
 have hmv:∀ t,mV ms t=(eU ms.length t).br g:=fun t=>by rw [← hg];exact QG rfl hq t
 have hli:(BG p V ms.length c av lf f).length=4+ms.length:=by simp [BG];omega
 have hlo:(vv p V ms.length c' av lf n0 n1 n2 f').length=4+ms.length:=by simp [vv];omega
 refine ag.Ax κ' kh own ([k0,k1,k2,k3]++ms) nk _ _ _ (us:=.c (.ptr 0 0)::us) [kh,k0,k1,k2,k3] hc hn hkh (by rw [hli];simp;omega) (by rw [hli,hlo]) hl (by rw [hli];omega) ?_ hnk hh ?_ ?_ ?_ rfl ?_ ?_ (by simp) ?_
 ·rw [hg];intro i q1 q2
  match i,q1,q2 with
  | 0,_,_=>
   show (lv k0).like _ _;rw [h0];refine⟨o0,_,rfl,?_,fun h=>by cases h⟩;simp [g1,g2,g3,hmv]
  | 1,_,_=>show (lv k1).like _ _;rw [h1];exact⟨o1,_,rfl,(bT av _).symm,fun h=>by cases h⟩
  | 2,_,_=>show (lv k2).like _ _;rw [h2];exact⟨o2,_,rfl,(bT lf _).symm,fun h=>by cases h⟩
  | 3,_,_=>show (lv k3).like _ _;rw [h3];exact eK c.L _ (fun h=>by cases h)
  | t+4,q1,q2=>
   have ht:t<ms.length:=by rw [hli] at q2;omega
   have e1:([k0,k1,k2,k3]++ms)[t+4]=ms[t]:=by simp
   have e2:(BG p V ms.length c av lf f)[t+4]=.map false (c.xM t):=by simp [BG]
   rw [e1,e2];obtain⟨o,h5,-⟩:=hm t ht;show (lv ms[t]).like _ _;rw [h5];exact aM _ _ _ (fun h=>by cases h)
 ·intro b hb;unfold BG at hb;simp only [Z3,Zt,YT,Zo,aaV] at hb;rcases hb with rfl|rfl|rfl|rfl|⟨t,_,rfl⟩
  ·rfl
  ·rfl
  ·rfl
  ·unfold nB;split <;> rfl
  ·rfl
 ·intro b hb;have nb:nB false c.L≠.hole:=by unfold nB;split <;> exact fun h=>by cases h
  rcases List.mem_append.1 hb with hb|hb
  ·rcases List.mem_append.1 hb with hb|hb
   ·unfold BG at hb;simp only [Z3,Zt,YT,Zo,aaV] at hb;rcases hb with rfl|rfl|rfl|rfl|⟨t,_,rfl⟩
    ·exact fun h=>by cases h
    ·exact fun h=>by cases h
    ·exact fun h=>by cases h
    ·exact nb
    ·exact fun h=>by cases h
   ·unfold vv at hb;simp only [Z3,Zt,YT,Zo,aaV] at hb;rcases hb with rfl|rfl|rfl|rfl|⟨t,_,rfl⟩ <;> exact fun h=>by cases h
  ·exact hν b hb
 ·intro hw k hk;obtain⟨r0,r1,r2,r3⟩:=ho hw;rcases List.mem_append.1 hk with hk|hk
  ·simp only [YT,Y6,or_false] at hk;rcases hk with rfl|rfl|rfl|rfl
   ·rw [h0];exact r0
   ·rw [h1];exact r1
   ·rw [h2];exact r2
   ·rw [h3];unfold nB;split
    ·rfl
    ·exact r3
  ·obtain⟨t,ht,rfl⟩:=List.mem_iff_getElem.1 hk;obtain⟨o,h5,h6⟩:=hm t ht;rw [h5];exact h6 hw
 ·rw [hg];intro i q1 q2
  match i,q1,q2 with
  | 0,_,_=>exact⟨rfl,congrArg (fun k=>AV.c (.ptr k 0)) g0.symm⟩
  | t+1,q1,q2=>
   have hp:=hu (us[t]'(by simpa using q2)) (cq _);exact⟨AV.bQ hp,(AV.aX hp _).symm⟩
 ·intro a ha k hk;rcases List.mem_cons.1 ha with rfl|ha
  ·simp only [jo,fY,h0,h1,h2,h3,YT,abN,List.flatMap_nil,Bh,No,Qs,Qn,Zr,Zt,ZM,Y6,or_false] at hk;simp only [YT];rcases hk with rfl|(rfl|hk)|rfl|rfl
   ·simp
   ·simp
   ·exfalso;unfold nB at hk;split at hk
    ·rename_i e;split at e <;> first|(injection e with _ _ _ e4;rw [← e4,QY] at hk;cases hk)|cases e
    ·cases hk
   ·simp
   ·simp
  ·rw [eD (hu a ha)] at hk;cases hk
 ·rw [AV.aX hx]
  have e:bB (aF ([k0,k1,k2,k3]++ms) nk kh) own ([k0,k1,k2,k3]++ms) (vv p V ms.length c' av lf n0 n1 n2 f')=[(k0,.cells own false 78 (Bs p V k1 k2 (nk.getD 0 kh) c'.L.length av.length lf.length (n0.br g) (n1.br g) (n2.br g) f')),(k1,.cells own false 3 (zK av)),(k2,.cells own false 3 (zK lf)),(k3,.dead)]++List.zipWith (fun k t=>(k,LB.map own (c'.xM t))) ms (List.range ms.length):=by
   rw [hg];unfold vv bB;simp only [Z3,Zt,abz,List.zipWith_map_right];congr 1
   ·simp [LB.fix,g1,g2,gN]
   ·congr 1
    ·simp [LB.fix,bT]
    ·congr 1
     ·simp [LB.fix,bT]
     ·congr 1;congr 1;funext k t;exact congrArg (Prod.mk k) (Ea _ _ _ _)
  rw [e,YZ,← hg];exact hK
def jq (p:PD)(i:Nat):Nd:=⟨1,i,0,0,0,(p.Bg i).f,[]⟩
def iP (p:PD)(s:Nat)(k:Int):Nd:=⟨2,k,0,0,0,(p.nd (p.st s).1.toNat).f,[]⟩
def oq (p:PD)(c:CS):Nat→CS
 | 0=>c
 | j+1=>((oq p c j).put 0 (jq p j)).2
def lI (p:PD)(lf:List Int)(t:Nat)(c:CS):Nat→CS
 | 0=>c
 | j+1=>if 0≤lf.getD j 0 then ((lI p lf t c j).put t (iP p j (lf.getD j 0))).2 else lI p lf t c j
def eO (p:PD)(lf:List Int)(t:Nat)(c:CS):CS:=if t=0 then oq p c p.ni else lI p lf t c lf.length
def lD (f:Int × Int × Int)(t:Nat)(v:Int):Int × Int × Int:=
 match t with
 | 0=>(v,f.2)
 | 1=>(f.1,v,f.2.2)
 | _=>(f.1,f.2.1,v)
theorem Bz (p:PD){c:CS}(h:c.upto 0):∀ j,(oq p c j).upto 0∧(oq p c j).L.length≤c.L.length+j
 | 0=>⟨h,aW _⟩
 | j+1=>by
  obtain⟨h1,h2⟩:=Bz p h j;have:=CS.wJ h1 (jq p j);exact⟨CS.yK h1 _,by show ((oq p c j).put 0 (jq p j)).2.L.length≤_;omega⟩
theorem BS (p:PD)(lf:List Int){t:Nat}{c:CS}(h:c.upto t):∀ j,(lI p lf t c j).upto t∧(lI p lf t c j).L.length≤c.L.length+j
 | 0=>⟨h,aW _⟩
 | j+1=>by
  obtain⟨h1,h2⟩:=BS p lf h j;have:=CS.wJ h1 (iP p j (lf.getD j 0));unfold lI;split
  ·exact⟨CS.yK h1 _,by omega⟩
  ·exact⟨h1,by omega⟩
def nQ (t u:Nat):CV:=if u<t then .mapr (4+u) else if u=t then .mapr 1001 else .d .nilmap
def sQ (t u:Nat):Key:=if u<t then 4+u else 20+u
def gB (t:Nat):Key→Key:=fun k=>if k=0 then 0 else if k=1 then 1 else if k=2 then 2 else if k=4 then sQ t 0 else if k=5 then sQ t 1 else if k=6 then sQ t 2 else if k=3 then 3 else if k=1000 then 7 else if k=1001 then 4+t else 9
theorem Nv (t:Nat)(a b d e f g h i j:LB):cF [(0,0,a),(1,1,b),(2,2,d),(4,sQ t 0,e),(5,sQ t 1,f),(6,sQ t 2,g),(3,3,h),(1000,7,i),(1001,4+t,j)] 9=gB t:=by
 funext k;unfold gB;have e:∀ j:Key,k≠j→(j == k)=false:=fun j hj=>by simpa using fun h=>hj h.symm
 by_cases h0:k=0
 ·subst h0;rfl
 by_cases h1:k=1
 ·subst h1;rfl
 by_cases h2:k=2
 ·subst h2;rfl
 by_cases h4:k=4
 ·subst h4;rfl
 by_cases h5:k=5
 ·subst h5;rfl
 by_cases h6:k=6
 ·subst h6;rfl
 by_cases h3:k=3
 ·subst h3;rfl
 by_cases h7:k=1000
 ·subst h7;rfl
 by_cases h8:k=1001
 ·subst h8;rfl
 rw [if_neg h0,if_neg h1,if_neg h2,if_neg h4,if_neg h5,if_neg h6,if_neg h3,if_neg h7,if_neg h8];simp [cF,List.find?,e _ h0,e _ h1,e _ h2,e _ h3,e _ h4,e _ h5,e _ h6,e _ h7,e _ h8]
theorem O0(ht:t<3){e:Ex}(he:e=.ret∨e=.normal) (hl0:c0.js=MO p V t c kF lf0 f0)
 (hs:s.lv=I1 p V 7 c'.L av lf (eU (t+1) 0) (eU (t+1) 1) (eU (t+1) 2) f .dead (mB (t+1) c' 0) (mB (t+1) c' 1) (mB (t+1) c' 2) (nB false c'.L)) (hr:fn.results=#[]):LJ c0 fn (.tup []) (vv p V t c' av lf (nQ t 0) (nQ t 1) (nQ t 2) f) [nB false c'.L,.map false (c'.xM t)] e s κ:=by
 have hl:(vv p V t c' av lf (nQ t 0) (nQ t 1) (nQ t 2) f).length=4+t:=by simp [vv];omega
 have hlv:bn (vv p V t c' av lf (nQ t 0) (nQ t 1) (nQ t 2) f) [nB false c'.L,.map false (c'.xM t)]=aD (aD (aD (aD (aD (aD (aD (aD (aD (fun _=>.hole) 0 (.cells false false 78 (Bs p V 1 2 1000 c'.L.length av.length lf.length (nQ t 0) (nQ t 1) (nQ t 2) f))) 1 (bZ av)) 2 (bZ lf)) 4 (mB t c' 0)) 5 (mB t c' 1)) 6 (mB t c' 2)) 3 .dead) 1000 (nB false c'.L)) 1001 (.map false (c'.xM t)):=by
  refine yS (fun i hi=>?_) (fun i hi=>?_) (by omega) (fun k h1 h2=>?_)
  ·match i,hi with
   | 0,_=>rfl
   | 1,_=>rfl
   | 2,_=>rfl
   | 3,_=>rfl
   | u+4,hi=>
    have hu:u<t:=by omega
    have e:(vv p V t c' av lf (nQ t 0) (nQ t 1) (nQ t 2) f)[u+4]=.map false (c'.xM u):=by simp [vv]
    rw [e];have:u=0∨u=1∨u=2:=by omega
    rcases this with rfl|rfl|rfl
    ·exact if_pos hu
    ·exact if_pos hu
    ·exact if_pos hu
  ·have:i=0∨i=1:=by have:i<2:=hi;omega
   rcases this with rfl|rfl <;> rfl
  ·rw [hl] at h1;have hk:k≠1000:=fun e=>h2 ⟨by omega,by simp [e]⟩
   have hk1:k≠1001:=fun e=>h2 ⟨by omega,by simp [e]⟩
   by_cases h4:k=4
   ·subst h4;show mB t c' 0=.hole;exact if_neg (by omega)
   by_cases h5:k=5
   ·subst h5;show mB t c' 1=.hole;exact if_neg (by omega)
   by_cases h6:k=6
   ·subst h6;show mB t c' 2=.hole;exact if_neg (by omega)
   rw [aC _ _ hk1];exact RP (by omega) (by omega) (by omega) h4 h5 h6 (by omega) hk
 have key:∃ (m:List (Key × Key × LB)) (kh:Key),bn (vv p V t c' av lf (nQ t 0) (nQ t 1) (nQ t 2) f) [nB false c'.L,.map false (c'.xM t)]=aR (fun _=>.hole) (m.map fun e=>(e.1,e.2.2))∧(m.map (·.1)).Nodup∧(m.map (·.2.1)).Nodup∧s.lv kh=.hole ∧
  (∀ k,c0.js k≠.hole→bn (vv p V t c' av lf (nQ t 0) (nQ t 1) (nQ t 2) f) [nB false c'.L,.map false (c'.xM t)] k=.dead∨cF m kh k=k)∧(∀ e∈m,(s.lv e.2.1).like e.2.2 (cF m kh))∧(AV.tup []).bu=true∧cM c0.P s fn.results.toList=some ((AV.tup []).br (cF m kh)):=by
  have hkm:=Nv t (.cells false false 78 (Bs p V 1 2 1000 c'.L.length av.length lf.length (nQ t 0) (nQ t 1) (nQ t 2) f)) (bZ av) (bZ lf) (mB t c' 0) (mB t c' 1) (mB t c' 2) .dead (nB false c'.L) (.map false (c'.xM t));refine⟨[(0,0,.cells false false 78 (Bs p V 1 2 1000 c'.L.length av.length lf.length (nQ t 0) (nQ t 1) (nQ t 2) f)),(1,1,bZ av),(2,2,bZ lf),(4,sQ t 0,mB t c' 0),(5,sQ t 1,mB t c' 1),(6,sQ t 2,mB t c' 2),(3,3,.dead),(1000,7,nB false c'.L),(1001,4+t,.map false (c'.xM t))],9,hlv,by simp,?_,by rw [hs];rfl,?_,?_,rfl,by rw [hr];rfl⟩
  ·obtain rfl|rfl|rfl:t=0∨t=1∨t=2:=by omega
   all_goals simp [sQ]
  ·intro k hk';rw [hkm,hlv];rw [hl0] at hk';rcases wH hk' with rfl|rfl|rfl|rfl|⟨rfl,hq⟩|⟨rfl,hq⟩|⟨rfl,hq⟩
   ·exact .inr rfl
   ·exact .inr rfl
   ·exact .inr rfl
   ·exact .inl rfl
   ·exact .inr (if_pos hq)
   ·exact .inr (if_pos hq)
   ·exact .inr (if_pos hq)
  ·rw [hkm,hs];obtain rfl|rfl|rfl:t=0∨t=1∨t=2:=by omega
   ·simp only [abp,Y6,false_implies,implies_true,and_true];exact⟨⟨false,_,rfl,by simp [gB,eU,nQ,sQ],id⟩,⟨false,_,rfl,(bT av _).symm,id⟩,⟨false,_,rfl,(bT lf _).symm,id⟩,rfl,rfl,rfl,pF _,eK c'.L _ id,aM _ _ _ id⟩
   ·simp only [abp,Y6,false_implies,implies_true,and_true];exact⟨⟨false,_,rfl,by simp [gB,eU,nQ,sQ],id⟩,⟨false,_,rfl,(bT av _).symm,id⟩,⟨false,_,rfl,(bT lf _).symm,id⟩,aM _ _ _ id,rfl,rfl,pF _,eK c'.L _ id,aM _ _ _ id⟩
   ·simp only [abp,Y6,false_implies,implies_true,and_true];exact⟨⟨false,_,rfl,by simp [gB,eU,nQ,sQ],id⟩,⟨false,_,rfl,(bT av _).symm,id⟩,⟨false,_,rfl,(bT lf _).symm,id⟩,aM _ _ _ id,aM _ _ _ id,rfl,pF _,eK c'.L _ id,aM _ _ _ id⟩
 rcases he with rfl|rfl <;> exact key
theorem RJ (a b c:CV):fK Tryz.prog 55 [0,1,5] [.c a,.c b,.c c]=some (.agg [a,b,.d (.int .i64 0),.d (.int .i64 0),.d (.int .i64 0),c,.d (.str [])],[],[],True):=by kernel_rfl
theorem HW (m:Int)(p:PD)(V:NS)(hp:p.ok)(hni:p.ni≤100)(c:CS)(av lf:List Int)(f:Int × Int × Int)(hc:c.upto 0)(hcs:c.A0=[])(hL:c.L.length≤500) :
 aG Tryz.prog (GG m) 49 [.c (.ptr 0 0),.c (.d (.int .i64 0))] (BG p V 0 c av lf f) (.ret (.tup []) (vv p V 0 (oq p c p.ni) av lf (nQ 0 0) (nQ 0 1) (nQ 0 2) (lD f 0 c.L.length)) [nB false (oq p c p.ni).L,.map false ((oq p c p.ni).xM 0)]):=by
 have hbk:=Bz p hc;refine aG.Q2 Tryz.func49 rfl (ur p V 0 (by omega) c av lf f) fun _=>?_;refine AW.Ui (lv':=I1 p V 3 c.L av lf (.d .nilmap) (.d .nilmap) (.d .nilmap) f (nB false c.L) .hole .hole .hole .hole) rfl ?_;refine aax 10 ?_;have hln:∀ lv:Key→LB,lv 3=nB false c.L→dW Tryz.prog 24 lv (.c (.aI 3 0 c.L.length 7))=some (.c (.d (.int .i64 c.L.length)),[],[3],True):=fun lv h=>RM h (by omega)
 refine aaa fun K hK=>?_;refine AW.rm ?_;refine nA.run 2 rfl ?_;simp [];refine nA.cU (x:=.c (.mapr 10)) (us:=[(10,.map true [])]) (rds:=[]) 11 rfl rfl ?_ ?_
 ·simp [Am.cU,Op.operands]
 refine nA.run 4 rfl ?_;simp [aj];refine nA.done ?_
 repeat refine ah ?_
 apply hK;refine AW.d2 mixed hln @aj.eq_1 ?_;have hli:=fun lv=>So p lv
 rw [uL] at hli;refine aaa fun K hK=>aab ?_;refine aak (aaa fun K1 hK1=>aai fun K2 hK2=>?_);simp [Jj,PD.zy,hli]
 repeat refine ah ?_
 apply hK2;refine aag ?_
 refine aap (fun (j:Nat)=>⟨bq [(0,.c (.ptr 0 0)),(34,.c (.d (sD p.ins))),(35,.c (.d (.int .i64 p.ni))),(36,.c (.d (.int .i64 j)))],
  I1 p V 7 (oq p c j).L av lf (.mapr 4) (.d .nilmap) (.d .nilmap) (lD f 0 c.L.length) .dead (.map false ((oq p c j).xM 0)) .hole .hole (nB false (oq p c j).L)⟩) 10
  (fun j=>j≤p.ni) (fun j=>p.ni - j) 0 (Rp (c:=c) (q:=0) (L:=c.L) 3 10 5 6 _ rfl (fun h=>by omega) (fun h=>by omega) (fun h=>by omega) (by decide) rfl rfl rfl (fun h=>fN h) rfl (fun g=>by show (LB.map true (gH 0 [])).like (.map false (gH 0 c.A0)) g;rw [hcs];exact aM [] 0 g (fun h=>by cases h)) (fun g=>rfl) (fun g=>rfl) rfl rfl rfl rfl (by simp [gC])) (Y4 _) ?_
 rintro j hj
 try simp only at hj
 have hdn:oq p c (j+1)=((oq p c j).put 0 (jq p j)).2:=rfl;obtain⟨hd1,hd2⟩:=hbk j;obtain⟨d,hd⟩:∃ d,oq p c j=d:=⟨_,rfl⟩
 rw [hd] at hd1 hd2 hdn;simp only [hd];refine aab ?_;refine aaa fun K2 hK2=>?_
 by_cases hjt:j<p.ni
 ·have hjt':(j:Int)<(p.ni:Int):=by omega
  have hxi:=fun lv=>Wk hp lv (j:Int) (by omega) (by omega)
  simp only [Y1,uL] at hxi;have hwj:=dF (n:=(j:Int)+1) (by omega) (by omega);have hput:=F5 m p V d av lf (lD f 0 c.L.length) 0 (by omega) (jq p j) hd1 (by omega) (BG p V 1 d av lf (lD f 0 c.L.length)) (vv p V 1 (d.put 0 (jq p j)).2 av lf (eU 1 0) (eU 1 1) (eU 1 2) (lD f 0 c.L.length)) [nB false (d.put 0 (jq p j)).2.L] (ur _ _ _ (by omega) _ _ _ _) (lN _ _ _ (by omega) _ _ _ _);refine aaf (by simp [hjt'] <;> omega) (aac (hK2 _ _ (aaa fun K3 hK3=>aag (aar hxi @aj.eq_1 ?_))));refine aae ?_;simp [RJ];refine ag.cg 40 9 false 0 1 2 7 [4] [30] hput rfl (by simp) (by decide) (by decide) (by decide) rfl rfl rfl rfl rfl (fun t h=>?_) (fun h=>by cases h) (by simp) rfl (fun b hb=>?_) ?_
  ·obtain rfl:t=0:=by simpa using h
   exact⟨false,rfl,fun h=>by cases h⟩
  ·rw [List.mem_singleton.1 hb];exact fun h=>fN h
  simp [su,bB]
  repeat refine ah ?_
  apply hK3;refine aae ?_;simp [hwj];refine⟨j+1,?_,by omega,by omega⟩;rw [hdn];exact Rp (c:=c) (q:=0) (L:=(d.put 0 (jq p j)).2.L) (f:=lD f 0 c.L.length) (own:=false) (o3:=false) 30 4 5 6 _ rfl (fun _=>rfl) (fun _=>rfl) (fun _=>rfl) (by decide) (by simp [eU,mV];rfl) (by simp;rfl) (by simp;rfl) (fun h=>by simp at h) (by simp) (fun g=>by simp;exact aM _ _ g id) (fun g=>by simp;exact rfl) (fun g=>by simp;exact rfl) (by simp) rfl rfl rfl (by simp [gC])
 have hje:j=p.ni:=by omega
 subst hje;subst hd;refine aaj (aan (hK1 _ _ ?_));exact aad (O0 (κ:=0) (by omega) (.inl rfl) rfl rfl rfl)
theorem Is (m:Int)(p:PD)(V:NS)(hp:p.ok)(hg:p.good)(c:CS)(av lf:List Int)(f:Int × Int × Int)(t:Nat)(ht:t=1∨t=2)(hc:c.upto t)(hcs:c.sec t=[])(hL:c.L.length≤500)(hlf:lf.length=p.ns) :
 aG Tryz.prog (GG m) 49 [.c (.ptr 0 0),.c (.d (.int .i64 t))] (BG p V t c av lf f) (.ret (.tup []) (vv p V t (lI p lf t c lf.length) av lf (nQ t 0) (nQ t 1) (nQ t 2) (lD f t c.L.length)) [nB false (lI p lf t c lf.length).L,.map false ((lI p lf t c lf.length).xM t)]):=by
 obtain⟨-,-,-,-,-,hnn,hns⟩:=gx hg.gen;have hbk:=BS p lf hc;have hln:∀ lv:Key→LB,lv 3=nB false c.L→dW Tryz.prog 24 lv (.c (.aI 3 0 c.L.length 7))=some (.c (.d (.int .i64 c.L.length)),[],[3],True):=fun lv h=>RM h (by omega)
 refine aG.Q2 Tryz.func49 rfl (ur p V t (by omega) c av lf f) fun _=>?_;refine AW.Ui (lv':=I1 p V 3 c.L av lf (eU t 0) (eU t 1) (eU t 2) f (nB false c.L) (mB t c 0) (mB t c 1) (mB t c 2) .hole) rfl ?_;refine aax 10 ?_;obtain hs0|hs0:=ht
 all_goals
  refine aaa fun K hK=>?_;refine AW.rm ?_;refine nA.run 2 rfl ?_;simp [];refine nA.cU (x:=.c (.mapr 10)) (us:=[(10,.map true [])]) (rds:=[]) 11 rfl rfl ?_ ?_
  ·simp [Am.cU,Op.operands,hs0,mB]
  refine nA.run 4 rfl ?_;simp [aj,hs0,eU,mB];refine nA.done ?_
  repeat refine ah ?_
  apply hK;refine AW.d3 mixed hln @aj.eq_1 hs0 ?_;refine aaa fun K hK=>aal hs0 ?_;refine aaj (aac (hK _ _ (aab ?_)));refine aag ?_
  refine aap (fun (j:Nat)=>⟨bq [(0,.c (.ptr 0 0)),(1,.c (.d (.int .i64 t))),(51,.c (.aI 2 0 lf.length 1)),(52,.c (.d (.int .i64 lf.length))),(53,.c (.d (.int .i64 j)))],
   I1 p V 7 (lI p lf t c j).L av lf (eU (t+1) 0) (eU (t+1) 1) (eU (t+1) 2) (lD f t c.L.length) .dead (mB (t+1) (lI p lf t c j) 0) (mB (t+1) (lI p lf t c j) 1) (mB (t+1) (lI p lf t c j) 2) (nB false (lI p lf t c j).L)⟩) 10
   (fun j=>j≤lf.length) (fun j=>lf.length - j) 0 (by
    subst hs0
    first
     | exact Rp (c:=c) (L:=c.L) 3 4 10 6 _ rfl (fun _=>rfl) (fun h=>by omega) (fun h=>by omega) (by decide) rfl rfl rfl (fun h=>fN h) rfl (fun g=>aM _ _ g id) (fun g=>by show (LB.map true (gH (c.off 1) [])).like (.map false (gH (c.off 1) (c.sec 1))) g;rw [hcs];exact aM [] _ g (fun h=>by cases h)) (fun g=>rfl) rfl rfl rfl rfl (by simp [gC])
     | exact Rp (c:=c) (L:=c.L) 3 4 5 10 _ rfl (fun _=>rfl) (fun _=>rfl) (fun h=>by omega) (by decide) rfl rfl rfl (fun h=>fN h) rfl (fun g=>aM _ _ g id) (fun g=>aM _ _ g id) (fun g=>by show (LB.map true (gH (c.off 2) [])).like (.map false (gH (c.off 2) (c.sec 2))) g;rw [hcs];exact aM [] _ g (fun h=>by cases h)) rfl rfl rfl rfl (by simp [gC])) (Y4 _) ?_
  rintro j hj
  try simp only at hj
  have hdn:lI p lf t c (j+1)=if 0≤lf.getD j 0 then ((lI p lf t c j).put t (iP p j (lf.getD j 0))).2 else lI p lf t c j:=rfl
  obtain⟨hd1,hd2⟩:=hbk j;obtain⟨d,hd⟩:∃ d,lI p lf t c j=d:=⟨_,rfl⟩
  rw [hd] at hd1 hd2 hdn;simp only [hd];refine aab ?_;refine aaa fun K2 hK2=>?_
  by_cases hjt:j<lf.length
  ·have hjt':(j:Int)<(lf.length:Int):=by omega
   have hwj:=dF (n:=(j:Int)+1) (by omega) (by omega);have hld:=iO (P:=Tryz.prog) (T:=3) (by simp) hjt;have hgd:lf.getD j 0=lf[j]:=by rw [hJ,cn hjt];rfl
   rw [hgd] at hdn;generalize lf[j]=k at *
   obtain⟨s0,s1,-,-⟩:=B8 hg (show j<p.ns by omega);have hxs:=fun lv=>KZ hp lv j (by omega)
   have hxn:=fun lv=>Uh hp lv (p.st j).1 s0 s1
   simp only [uL] at hxs hxn;have hput:=F5 m p V d av lf (lD f t c.L.length) t (by omega) (iP p j k) hd1 (by omega) (BG p V (t+1) d av lf (lD f t c.L.length)) (vv p V (t+1) (d.put t (iP p j k)).2 av lf (eU (t+1) 0) (eU (t+1) 1) (eU (t+1) 2) (lD f t c.L.length)) [nB false (d.put t (iP p j k)).2.L] (ur _ _ _ (by omega) _ _ _ _) (lN _ _ _ (by omega) _ _ _ _);refine aaf (by simp [hjt'] <;> omega) (aac (hK2 _ _ (aaa fun K3 hK3=>aag (aar hjt' hld ?_))));refine aab ?_
   by_cases hk:0≤k
   ·rw [if_pos hk] at hdn;refine aaf (by simp [hk] <;> omega) ?_;refine aaq mixed (by kernel_rfl) rfl ?_;simp [Jj,PD.zy,hxs,hxn,RJ];subst hs0
    first
     | refine ag.cg 40 9 false 0 1 2 7 [4,5] [30] hput rfl (by simp) (by decide) (by decide) (by decide) rfl rfl rfl rfl rfl (fun u h=>?_) (fun h=>by cases h) (by simp) rfl (fun b hb=>?_) ?_
     | refine ag.cg 40 9 false 0 1 2 7 [4,5,6] [30] hput rfl (by simp) (by decide) (by decide) (by decide) rfl rfl rfl rfl rfl (fun u h=>?_) (fun h=>by cases h) (by simp) rfl (fun b hb=>?_) ?_
    ·have hu:u=0∨u=1∨u=2:=by simp at h;omega
     rcases hu with rfl|rfl|rfl
     all_goals first|exact⟨false,rfl,fun h=>by cases h⟩|(simp at h)
    ·rw [List.mem_singleton.1 hb];exact fun h=>fN h
    simp [su,bB,abI]
    repeat refine ah ?_
    refine⟨by kernel_rfl,?_⟩
    repeat refine ah ?_
    apply hK3;refine aae ?_;simp [hwj];refine⟨j+1,?_,by omega,by omega⟩;rw [hdn];exact Rp (c:=c) (L:=(d.put _ (iP p j k)).2.L) (f:=lD f _ c.L.length) (own:=false) (o3:=false) 30 4 5 6 _ rfl (fun _=>rfl) (fun _=>rfl) (fun _=>rfl) (by decide) (by simp [eU,mV];first|exact⟨rfl,rfl,rfl⟩|exact⟨rfl,rfl⟩) (by simp;rfl) (by simp;rfl) (fun h=>by simp at h) (by simp) (fun g=>by simp;exact aM _ _ g id) (fun g=>by simp;exact aM _ _ g id) (fun g=>by simp;first|exact aM _ _ g id|exact rfl) (by simp) rfl rfl rfl (by simp [gC])
   ·rw [if_neg hk] at hdn;refine aah (by simp [hk] <;> omega) (aac (hK3 _ _ (aae ?_)));simp [hwj];refine⟨j+1,?_,by omega,by omega⟩;rw [hdn];exact wB (t+1) (c:=c) d 7 _ rfl (by decide) rfl rfl rfl (fun h=>by simp at h) rfl (fun g=>bw (t+1) d 0 g) (fun g=>bw (t+1) d 1 g) (fun g=>bw (t+1) d 2 g) rfl (by simp [gC])
  have hje:j=lf.length:=by omega
  subst hje;subst hd;refine aaj (aan ?_);simp;exact O0 (by omega) (.inr rfl) rfl rfl rfl
def kL (p:PD)(V:NS)(lf:List Int)(fst t:Nat)(c:CS)(av:List Int)(i:Nat):Int × CS:=
 if (p.nd i).op=1 then ((p.nd i).a,c)
 else if (p.nd i).op=2 then (if lf.getD (p.nd i).a.toNat 0<0 then (-1,c) else (fst+lf.getD (p.nd i).a.toNat 0,c))
 else if V.1.getD i false=false then (-1,c)
 else (((c.put t ((p.nd i).dg av)).1:Nat),(c.put t ((p.nd i).dg av)).2)
def P2 (f:Int × Int × Int)(t:Nat):Int:=
 match t with
 | 0=>f.1
 | 1=>f.2.1
 | _=>f.2.2
theorem OT(h:(ff Tryz.prog T).map (·.2)=some 1) (lv:Key→LB) (l:List Bool)(hi:i<l.length):aq Tryz.prog T lv (.c (.d (.sl (bD l)))) (.c (.d (.int .i64 (i:Int))))=some (.c (.d (.ptr [.bool l[i]])),[],[],True):=
 VB (o:=some l) h lv hi
theorem MA (m:Int)(p:PD)(hp:p.ok)(hg:p.good)(V:NS)(hV:nE p V)(c:CS)(av lf:List Int)(f:Int × Int × Int)(t:Nat)(ht:t<3)(hc:c.upto t)(hL:c.L.length≤500)(hav:av.length=p.nn)(hlf:lf.length=p.ns)(hlb:∀ x∈lf,-1≤x∧x≤100)(fst:Nat)(hfst:P2 f t=fst)(hf1:fst≤1000)(i:Nat)(hi:i<p.nn) :
 aG Tryz.prog (GG m) 50 [.c (.ptr 0 0),.c (.d (.int .i64 t)),.c (.d (.int .i64 i))] (BG p V (t+1) c av lf f) (.ret (.c (.d (.int .i64 (kL p V lf fst t c av i).1))) (vv p V (t+1) (kL p V lf fst t c av i).2 av lf (eU (t+1) 0) (eU (t+1) 1) (eU (t+1) 2) f) [nB false (kL p V lf fst t c av i).2.L]):=by
 obtain⟨-,-,-,-,-,hnn,hns⟩:=gx hg.gen;have hV1:V.1.length=p.nn:=hV.1;obtain⟨hop,ha,hkr⟩:=ic hg hi;have hxn:=fun lv=>IM p lv hp i hi
 have hil:i<V.1.length:=by omega
 have hxv:=fun lv=>OT (T:=44) (by simp) lv V.1 hil
 have hgd:=Du hil;have hra:=JO m (p.nd i) hop.1 hop.2 av (by omega) (by intro x hx;have:=hkr x hx;omega);have hput:=F5 m p V c av lf f t ht ((p.nd i).dg av) hc (by omega) (BG p V (t+1) c av lf f) (vv p V (t+1) (c.put t ((p.nd i).dg av)).2 av lf (eU (t+1) 0) (eU (t+1) 1) (eU (t+1) 2) f) [nB false (c.put t ((p.nd i).dg av)).2.L] (ur p V (t+1) (by omega) c av lf f) (lN p V (t+1) (by omega) _ av lf f);have hpl:=CS.wJ hc ((p.nd i).dg av);obtain⟨R,hR⟩:∃ R,kL p V lf fst t c av i=R:=⟨_,rfl⟩
 rw [hR];have hR':=hR;unfold kL at hR';rw [uL] at hxn;refine aG.Q2 Tryz.func50 rfl (ur p V (t+1) (by omega) c av lf f) fun _=>?_;refine AW.Ui (lv':=I1 p V 3 c.L av lf (eU (t+1) 0) (eU (t+1) 1) (eU (t+1) 2) f (nB false c.L) (mB (t+1) c 0) (mB (t+1) c 1) (mB (t+1) c 2) .hole) rfl ?_;refine aax 10 ?_;refine aab ?_;refine aai fun K hK=>?_;simp [Jj,PD.zy,hxn,aj]
 repeat refine ah ?_
 apply hK;refine aaa fun K hK=>aag (aab ?_)
 by_cases h1:(p.nd i).op=1
 ·rw [if_pos h1] at hR';subst hR';refine aaf (by simp [h1] <;> omega) (aab ?_);refine aaz (κ2:=9) (wB (t+1) c (f:=f) 3 [(6,.c (.d (.int .i64 (p.nd i).a)))] rfl (by decide) rfl rfl rfl (fun h=>fN h) rfl (fun g=>bw (t+1) c 0 g) (fun g=>bw (t+1) c 1 g) (fun g=>bw (t+1) c 2 g) rfl (by simp)) ?_;exact aad (yt (κ:=0) (.inl rfl) rfl rfl (lN p V (t+1) (by omega) c av lf f) rfl (by simp [Tryz.f50,cM,gz,iB]))
 ·have h1':((p.nd i).op=1)=False:=eq_false h1;rw [if_neg h1] at hR';refine aah (by simp [h1'] <;> omega) (aaa fun K1 hK1=>?_)
  by_cases h2:(p.nd i).op=2
  ·have h2':((p.nd i).op=2)=True:=eq_true h2;rw [if_pos h2] at hR';obtain⟨a0,a1⟩:=ha h2;have a2:(p.nd i).a<(lf.length:Int):=by omega
   have hal:(p.nd i).a.toNat<lf.length:=by omega
   have hld:=iO (P:=Tryz.prog) (T:=3) (by simp) hal;have hgk:lf.getD (p.nd i).a.toNat 0=lf[(p.nd i).a.toNat]:=by rw [hJ,cn hal];rfl
   have hkb:=hlb _ (cq hal);rw [hgk] at hR';generalize lf[(p.nd i).a.toNat]=k at *
   refine AW.X8 mixed h2' a0 a2 hld (hK1 _ _ ?_)
   by_cases hk:k<0
   ·rw [if_pos hk] at hR';subst hR';refine aaf (by simp [hk] <;> omega) (aab ?_);refine aaz (κ2:=9) (wB (t+1) c (f:=f) 3 [(6,.c (.d (.int .i64 (-1))))] rfl (by decide) rfl rfl rfl (fun h=>fN h) rfl (fun g=>bw (t+1) c 0 g) (fun g=>bw (t+1) c 1 g) (fun g=>bw (t+1) c 2 g) rfl (by simp)) ?_;exact aad (yt (κ:=0) (.inl rfl) rfl rfl (lN p V (t+1) (by omega) c av lf f) rfl (by simp [Tryz.f50,cM,gz,iB]))
   ·rw [if_neg hk] at hR';subst hR';refine aah (by simp [hk] <;> omega) (aab ?_);refine aaf (by simp [h2'] <;> omega) (aaa fun K1 hK1=>?_);obtain hs0|hs0|hs0:t=0∨t=1∨t=2:=by omega
    all_goals
     have hw:=dF (n:=(fst:Int)+k) (by omega) (by omega);have hfs:=hfst;rw [hs0] at hfs;simp only [P2] at hfs;refine aaq mixed (by kernel_rfl) rfl ?_;simp [a0,a2,hld,hs0,hfs,hw]
     repeat refine ah ?_
     refine⟨by kernel_rfl,?_⟩
     repeat refine ah ?_
     apply hK1;have hso:=lN p V (t+1) (by omega) c av lf f;subst hs0;refine aaz (κ2:=9) (wB _ c (f:=f) 3 [(6,.c (.d (.int .i64 ((fst:Int)+k))))] rfl (by decide) rfl rfl rfl (fun h=>fN h) rfl (fun g=>by first|exact bw 1 c 0 g|exact bw 2 c 0 g|exact bw 3 c 0 g) (fun g=>by first|exact bw 1 c 1 g|exact bw 2 c 1 g|exact bw 3 c 1 g) (fun g=>by first|exact bw 1 c 2 g|exact bw 2 c 2 g|exact bw 3 c 2 g) rfl (by simp)) ?_;exact aad (yt (κ:=0) (.inl rfl) rfl rfl hso rfl (by simp [Tryz.f50,cM,gz,iB]))
  ·have h2':((p.nd i).op=2)=False:=eq_false h2;rw [if_neg h2] at hR';refine AW.X7 mixed h2' (hK1 _ _ ?_);refine aaj (aab ?_);refine aah (by simp [h2'] <;> omega) (aai fun K1 hK1=>?_);simp [Jj,PD.zy,hxv]
   repeat refine ah ?_
   apply hK1
   cases hb:V.1[i] with
   | false=>
    rw [if_pos (by rw [hgd,hb])] at hR';subst hR';refine aaf (by simp [hb] <;> omega) (aab ?_);refine aaz (κ2:=9) (wB (t+1) c (f:=f) 3 [(6,.c (.d (.int .i64 (-1))))] rfl (by decide) rfl rfl rfl (fun h=>fN h) rfl (fun g=>bw (t+1) c 0 g) (fun g=>bw (t+1) c 1 g) (fun g=>bw (t+1) c 2 g) rfl (by simp)) ?_;exact aad (yt (κ:=0) (.inl rfl) rfl rfl (lN p V (t+1) (by omega) c av lf f) rfl (by simp [Tryz.f50,cM,gz,iB]))
   | true=>
    rw [if_neg (by rw [hgd,hb];simp)] at hR';subst hR';refine aah (by simp [hb] <;> omega) (aac (hK _ _ (aaa fun K hK=>?_)));obtain hs0|hs0|hs0:t=0∨t=1∨t=2:=by omega
    all_goals
     subst hs0;refine aaq mixed (by kernel_rfl) rfl ?_;simp [Lw];refine ag.Tv 30 9 1 (by simpa using hra) (by rfl) (by rfl) rfl rfl (by decide) ?_;simp
     first
      | refine ag.cg 60 9 false 0 1 2 3 [4] [50] hput rfl (by simp) (by decide) (by decide) (by decide) rfl rfl rfl rfl rfl (fun u h=>?_) (fun h=>by cases h) (by simp) rfl (fun b hb=>?_) ?_
      | refine ag.cg 60 9 false 0 1 2 3 [4,5] [50] hput rfl (by simp) (by decide) (by decide) (by decide) rfl rfl rfl rfl rfl (fun u h=>?_) (fun h=>by cases h) (by simp) rfl (fun b hb=>?_) ?_
      | refine ag.cg 60 9 false 0 1 2 3 [4,5,6] [50] hput rfl (by simp) (by decide) (by decide) (by decide) rfl rfl rfl rfl rfl (fun u h=>?_) (fun h=>by cases h) (by simp) rfl (fun b hb=>?_) ?_
     ·have hu:u=0∨u=1∨u=2:=by simp at h;omega
      rcases hu with rfl|rfl|rfl
      all_goals first|exact⟨false,rfl,fun h=>by cases h⟩|(simp at h)
     ·rw [List.mem_singleton.1 hb];exact fun h=>fN h
     simp [su,bB,abI]
     repeat refine ah ?_
     refine⟨by kernel_rfl,?_⟩
     repeat refine ah ?_
     apply hK
     first
      | refine aaz (κ2:=9) (wB 1 (c.put 0 ((p.nd i).dg av)).2 (f:=f) (own:=false) (o3:=false) 50 [(6,.c (.d (.int .i64 ((c.put 0 ((p.nd i).dg av)).1:Nat))))] rfl (by decide) rfl rfl rfl (fun h=>by simp at h) rfl (fun g=>bw 1 _ 0 g) (fun g=>bw 1 _ 1 g) (fun g=>bw 1 _ 2 g) rfl (by simp)) ?_
      | refine aaz (κ2:=9) (wB 2 (c.put 1 ((p.nd i).dg av)).2 (f:=f) (own:=false) (o3:=false) 50 [(6,.c (.d (.int .i64 ((c.put 1 ((p.nd i).dg av)).1:Nat))))] rfl (by decide) rfl rfl rfl (fun h=>by simp at h) rfl (fun g=>bw 2 _ 0 g) (fun g=>bw 2 _ 1 g) (fun g=>bw 2 _ 2 g) rfl (by simp)) ?_
      | refine aaz (κ2:=9) (wB 3 (c.put 2 ((p.nd i).dg av)).2 (f:=f) (own:=false) (o3:=false) 50 [(6,.c (.d (.int .i64 ((c.put 2 ((p.nd i).dg av)).1:Nat))))] rfl (by decide) rfl rfl rfl (fun h=>by simp at h) rfl (fun g=>bw 3 _ 0 g) (fun g=>bw 3 _ 1 g) (fun g=>bw 3 _ 2 g) rfl (by simp)) ?_
     all_goals first
      | exact aad (yt (κ:=0) (.inl rfl) rfl rfl (lN p V 1 (by omega) _ av lf f) rfl (by simp [Tryz.f50,cM,gz,iB]))
      | exact aad (yt (κ:=0) (.inl rfl) rfl rfl (lN p V 2 (by omega) _ av lf f) rfl (by simp [Tryz.f50,cM,gz,iB]))
      | exact aad (yt (κ:=0) (.inl rfl) rfl rfl (lN p V 3 (by omega) _ av lf f) rfl (by simp [Tryz.f50,cM,gz,iB]))
end Go.Am
namespace Go.Am
open N
variable {t:Nat}{c:CS}
def aN:List Bool→Nat→List Int
 | [],_=>[]
 | b::l,k=>if b then (k:Int)::aN l (k+1) else -1::aN l k
theorem jf:∀ (l:List Bool) (k:Nat),(aN l k).length=l.length
 | [],_=>rfl
 | true::l,k=>by simp [aN,jf l]
 | false::l,k=>by simp [aN,jf l]
theorem tS:∀ (l:List Bool) (b:Bool) (k:Nat),aN (l++[b]) k=aN l k++[if b then ((k+l.count true:Nat):Int) else -1]
 | [],true,k=>by simp [aN]
 | [],false,k=>by simp [aN]
 | true::l,b,k=>by
  show (k:Int)::aN (l++[b]) (k+1)=_;rw [tS l b (k+1)];have e:k+1+l.count true=k+(true::l).count true:=by simp;omega
  rw [e];rfl
 | false::l,b,k=>by
  show -1::aN (l++[b]) k=_;rw [tS l b k];have e:k+l.count true=k+(false::l).count true:=by simp
  rw [e];rfl
theorem tP:∀ (l:List Bool) (k:Nat),∀ x∈aN l k,-1≤x∧x≤k+l.length
 | [],_,x,h=>by cases h
 | true::l,k,x,h=>by
  rcases List.mem_cons.1 h with rfl|h
  ·simp;omega
  ·have:=tP l (k+1) x h;simp;omega
 | false::l,k,x,h=>by
  rcases List.mem_cons.1 h with rfl|h
  ·simp;omega
  ·have:=tP l k x h;simp;omega
def fD (p:PD)(V:NS)(lf:List Int)(fst t:Nat)(s:CS × List Int)(i:Nat):Nat→CS × List Int
 | 0=>s
 | k+1=>((kL p V lf fst t (fD p V lf fst t s i k).1 (fD p V lf fst t s i k).2 (i+k)).2,(fD p V lf fst t s i k).2.set (i+k) (kL p V lf fst t (fD p V lf fst t s i k).1 (fD p V lf fst t s i k).2 (i+k)).1)
def ak (p:PD):Nat→Nat
 | 0=>0
 | 1=>p.head.toNat
 | 2=>p.tail.toNat
 | _=>p.nn
def aS (p:PD)(V:NS)(lf:List Int):Nat→CS × List Int
 | 0=>(⟨[],[],[]⟩,List.replicate p.nn 0)
 | t+1=>fD p V lf (aS p V lf t).1.L.length t (eO p lf t (aS p V lf t).1,(aS p V lf t).2) (ak p t) (ak p (t+1) - ak p t)
def F6 (p:PD)(V:NS)(lf:List Int):Nat→Int × Int × Int
 | 0=>(0,0,0)
 | t+1=>lD (F6 p V lf t) t (aS p V lf t).1.L.length
def mb (p:PD)(av lf:List Int):Nat→List (Int × Int)
 | 0=>[]
 | j+1=>if 0≤lf.getD j 0 then mb p av lf j++[(av.getD (p.st j).1.toNat 0,av.getD (p.st j).2.toNat 0)] else mb p av lf j
def bt (p:PD)(V:NS):PD:=
 let lf:=aN V.2 0
 let s:=aS p V lf 3
 let m:=V.2.count true
 ⟨p.f,p.mode,p.ins,(if s.1.L=[] then none else some (s.1.L.map Nd.e)),(if m=0 then s.1.L.length else (aS p V lf 1).1.L.length),(if m=0 then s.1.L.length else (aS p V lf 2).1.L.length),(if mb p s.2 lf lf.length=[] then none else some ((mb p s.2 lf lf.length).map zj)),s.2.getD p.res.toNat 0⟩
theorem NT (p:PD)(V:NS)(lf:List Int)(fst:Nat)(av:List Int) (i:Nat) (hc:c.upto t):(kL p V lf fst t c av i).2.upto t∧c.L.length≤(kL p V lf fst t c av i).2.L.length∧(kL p V lf fst t c av i).2.L.length≤c.L.length+1:=by
 have h:=CS.wJ hc ((p.nd i).dg av);have h2:=CS.yK hc ((p.nd i).dg av);unfold kL
 (repeat' split) <;> first|exact⟨hc,aW _,Nat.le_succ _⟩|exact⟨h2,h.1,h.2.1⟩
theorem oJ (p:PD)(V:NS)(lf:List Int)(fst:Nat){t:Nat}{s:CS × List Int}(i:Nat) (hc:s.1.upto t):∀ k,(fD p V lf fst t s i k).1.upto t∧s.1.L.length≤(fD p V lf fst t s i k).1.L.length∧(fD p V lf fst t s i k).1.L.length≤s.1.L.length+k∧(fD p V lf fst t s i k).2.length=s.2.length
 | 0=>⟨hc,aW _,aW _,rfl⟩
 | k+1=>by
  obtain⟨h1,h2,h3,h4⟩:=oJ p V lf fst i hc k;obtain⟨g1,g2,g3⟩:=NT p V lf fst (fD p V lf fst t s i k).2 (i+k) h1;refine⟨g1,Za h2 g2,?_,by show (List.set _ _ _).length=_;rw [aa1];exact h4⟩;show (kL p V lf fst t (fD p V lf fst t s i k).1 (fD p V lf fst t s i k).2 (i+k)).2.L.length≤_;omega
def CS.emp (c:CS)(t:Nat):Prop:=(t≤0→c.A0=[])∧(t≤1→c.A1=[])∧(t≤2→c.A2=[])
theorem CS.jy(h:c.emp t):c.upto t:=⟨fun e=>h.2.1 (by omega),fun e=>h.2.2 (by omega)⟩
theorem CS.KT(h:c.upto t):c.emp (t+1):=⟨fun e=>by omega,fun e=>h.1 (by omega),fun e=>h.2 (by omega)⟩
theorem CS.oR(ht:t<3) (h:c.emp t):c.sec t=[]:=by
 obtain rfl|rfl|rfl:t=0∨t=1∨t=2:=by omega
 ·exact h.1 (by omega)
 ·exact h.2.1 (by omega)
 ·exact h.2.2 (by omega)
theorem GA (p:PD)(lf:List Int)(h:c.upto t):(eO p lf t c).upto t∧(eO p lf t c).L.length≤c.L.length+(p.ni+lf.length):=by
 unfold eO;split
 ·rename_i e;subst e
  have:=Bz p h p.ni;exact⟨this.1,by omega⟩
 ·have:=BS p lf h lf.length;exact⟨this.1,by omega⟩
theorem sS (p:PD)(hn:p.nn≤64)(hh:p.head.toNat≤p.tail.toNat)(ht:p.tail.toNat≤p.nn)(hi:p.ni≤6)(V:NS)(lf:List Int)(hl:lf.length≤4):∀ t,t≤3→(aS p V lf t).1.emp t∧(aS p V lf t).1.L.length≤10*t+ak p t∧(aS p V lf t).2.length=p.nn
 | 0,_=>⟨⟨fun _=>rfl,fun _=>rfl,fun _=>rfl⟩,by simp [aS,CS.L],by simp [aS]⟩
 | t+1,h=>by
  obtain⟨h1,h2,h3⟩:=sS p hn hh ht hi V lf hl t (by omega);obtain⟨g1,g2⟩:=GA p lf (CS.jy h1);obtain⟨f1,f2,f3,f4⟩:=oJ p V lf (aS p V lf t).1.L.length (s:=(eO p lf t (aS p V lf t).1,(aS p V lf t).2)) (ak p t) g1 (ak p (t+1) - ak p t)
  have hb:ak p t≤ak p (t+1):=by
   obtain rfl|rfl|rfl:t=0∨t=1∨t=2:=by omega
   ·exact Y4 _
   ·exact hh
   ·exact ht
  refine⟨CS.KT f1,?_,f4.trans h3⟩;show (fD p V lf _ t _ _ _).1.L.length≤_;simp only at f3;omega
end Go.Am
namespace Go.Am
open Go.Am.Ty Go.Proofs N
variable {lv:Key→LB}{p:PD}{k t u v off κ:Nat}{own fz:Bool}{T U:TypeId}{n:Nd}{c:Ctx}{fn:Func}{x X y z:AV}{cs:List CV}{s:au}{av:List Int}{L:List Nd}
theorem jz.L8{ks:List Key}(hr:fn.results=#[.cell t T,.tmp u,.tmp v]) (ht:s.fr t=.c (.ptr k off)) (hk:s.lv k=.cells own fz U cs)
 (hx:dQ c.P T (cs.drop off)=some X) (hy:s.fr u=y) (hz:s.fr v=z) (hn:X.bV=true) (hm:y.bV=true) (hw:z.bV=true) (hd:fT s.lv (.tup [X,y,z])=some (x,ks)):jz c fn x .ret s κ:=
 ⟨.tup [X,y,z],ks,by rw [hr];simp [cM,gz,iB,ht,hk,hx,hy,hz,hn,hm,hw],hd⟩
theorem jz.Qu(hr:fn.results=#[.cell t T,.tmp u,.tmp v]) (ht:s.fr t=.c (.ptr k off)) (hk:s.lv k=.cells own fz U cs)
 (hx:dQ c.P T (cs.drop off)=some X) (hy:s.fr u=y) (hz:s.fr v=z) (hn:X.bV=true) (hm:y.bV=true) (hw:z.bV=true) (hd:∃ ks,fT s.lv (.tup [X,y,z])=some (x,ks)):jz c fn x .ret s κ:=
 hd.elim fun _ hd=>jz.L8 hr ht hk hx hy hz hn hm hw hd
theorem Dq (lv:Key→LB)(p:PD)(n:Int):fT lv (.tup [p.A,.c (.d .nilsl),.c (.d (.int .i64 n))])=some (.tup [p.A,.c (.d .nilsl),.c (.d (.int .i64 n))],[]):=by
 have h:=NR lv p n;simp only [fT,Y8] at h ⊢;obtain⟨⟨l,ks⟩,h1,h2⟩:=h;simp only [jn] at h1 ⊢
 cases e:fq lv p.A with
 | none=>rw [e] at h1;cases h1
 | some q=>
  obtain⟨y,ks'⟩:=q;rw [e] at h1;have e2:∀ x:DV,fq lv (.c (.d x))=some (.c (.d x),[]):=fun x=>rfl
  simp only [e2] at h1 ⊢;simp only [ai,fy] at h1 h2;obtain⟨rfl,rfl⟩:=h1;obtain⟨h3,h4⟩:=h2;injection h3 with h3
  injection h3 with h3 _
  refine⟨_,rfl,?_⟩;simp only [Zr] at h4;simp [h3,h4]
theorem Jg (m:Int)(p:PD)(hp:p.ok)(h0:(fL p).2.2≠0):aa Tryz.prog (GG m) 18 [p.A] (.tup [tA.A,.c (.d .nilsl),.c (.d (.int .i64 (fL p).2.2))]):=by
 have h:=ze m p hp;generalize (fL p).2.2=e at *
 refine aa.ed Tryz.func18 rfl fun _=>aab ?_;refine aaa fun K hK=>aaA 2 h h0 ?_;refine aab ?_;refine aaf (by simp [h0] <;> omega) (aar @XL @aj.eq_1 ?_);refine aad (jz.L8 (κ:=0) (k:=1) (off:=0) (own:=true) (fz:=false) (T:=27) (U:=27) (cs:=tA.cs) (X:=tA.A) (y:=.c (.d .nilsl)) (z:=.c (.d (.int .i64 e))) (ks:=[]) rfl (by simp) (by simp) (by rw [YV];exact Cn ..) (by simp) (by simp) (by simp) rfl rfl ?_);exact Dq _ _ _
def Qt (p:PD)(V:NS)(lf:List Int)(m:Nat):PD:=
 ⟨p.f,p.mode,p.ins,(if (aS p V lf 3).1.L=[] then none else some ((aS p V lf 3).1.L.map Nd.e)),(if m=0 then (aS p V lf 3).1.L.length else (aS p V lf 1).1.L.length),(if m=0 then (aS p V lf 3).1.L.length else (aS p V lf 2).1.L.length),(if mb p (aS p V lf 3).2 lf lf.length=[] then none else some ((mb p (aS p V lf 3).2 lf lf.length).map zj)),(aS p V lf 3).2.getD p.res.toNat 0⟩
def Lg (p:PD)(V:NS):AV:=
 if 64<(aS p V (aN V.2 0) 3).1.L.length then .tup [tA.A,.c (.d .nilsl),.c (.d (.int .i64 3))]
 else .tup [(bt p V).A,.c (zC (some (aS p V (aN V.2 0) 3).2)),.c (.d (.int .i64 0))]
abbrev Oj (p:PD)(z:LB)(av lf:List Int)(mk:List CV)(b5 b6 b7 b8 b9 b10 b11:LB):Key→LB:=
 aD (aD (aD (aD (aD (aD (aD (aD (aD (aD (aD (aD (fun _=>.hole) 0 (.cells true false 27 p.cs)) 1 z) 2 (.cells true false 3 (zK av))) 3 (.cells true false 3 (zK lf))) 4 (.cells true false 78 mk)) 5 b5) 6 b6) 7 b7) 8 b8) 9 b9) 10 b10) 11 b11
def gK (k5 k6 k7 k8 k9 k10 k11:Key):Key→Key:=fun k=>if k=0 then 0 else if k=1 then 1 else if k=2 then 2 else if k=3 then 3 else if k=4 then 4 else if k=5 then k5 else if k=6 then k6 else if k=7 then k7 else if k=8 then k8 else if k=9 then k9 else if k=10 then k10 else if k=11 then k11 else 19
theorem Oa (k5 k6 k7 k8 k9 k10 k11:Key)(a b d e f g h i j l n o:LB):cF [(0,0,a),(1,1,b),(2,2,d),(3,3,e),(4,4,f),(5,k5,g),(6,k6,h),(7,k7,i),(8,k8,j),(9,k9,l),(10,k10,n),(11,k11,o)] 19=gK k5 k6 k7 k8 k9 k10 k11:=by
 funext k;unfold gK;have e:∀ j:Key,k≠j→(j == k)=false:=fun j hj=>by simpa using fun h=>hj h.symm
 by_cases h0:k=0
 ·subst h0;rfl
 by_cases h1:k=1
 ·subst h1;rfl
 by_cases h2:k=2
 ·subst h2;rfl
 by_cases h3:k=3
 ·subst h3;rfl
 by_cases h4:k=4
 ·subst h4;rfl
 by_cases h5:k=5
 ·subst h5;rfl
 by_cases h6:k=6
 ·subst h6;rfl
 by_cases h7:k=7
 ·subst h7;rfl
 by_cases h8:k=8
 ·subst h8;rfl
 by_cases h9:k=9
 ·subst h9;rfl
 by_cases hA:k=10
 ·subst hA;rfl
 by_cases hB:k=11
 ·subst hB;rfl
 rw [if_neg h0,if_neg h1,if_neg h2,if_neg h3,if_neg h4,if_neg h5,if_neg h6,if_neg h7,if_neg h8,if_neg h9,if_neg hA,if_neg hB];simp [cF,List.find?,e _ h0,e _ h1,e _ h2,e _ h3,e _ h4,e _ h5,e _ h6,e _ h7,e _ h8,e _ h9,e _ hA,e _ hB]
theorem IQ {c0:Ctx}{fr:Nat→AV}{z:LB}{lf:List Int}{mk mk':List CV}{b5 b6 b7 b8 b9 b10 b11:LB}(k5 k6 k7 k8 k9 k10 k11:Key) (l:List (Nat × AV)) (hc:c0.js=fun _=>.hole) (hk:([0,1,2,3,4,k5,k6,k7,k8,k9,k10,k11]:List Key).Nodup)
 (h0:lv 0=.cells true false 27 p.cs) (h1:lv 1=z) (hz:∀ g,z.like z g) (h2:lv 2=.cells true false 3 (zK av)) (h3:lv 3=.cells true false 3 (zK lf)) (h4:lv 4=.cells true false 78 mk') (hm:mk'=mk.map (CV.br (gK k5 k6 k7 k8 k9 k10 k11)))
 (h5:∀ g,(lv k5).like b5 g) (h6:∀ g,(lv k6).like b6 g) (h7:∀ g,(lv k7).like b7 g) (h8:∀ g,(lv k8).like b8 g) (h9:∀ g,(lv k9).like b9 g) (hA:∀ g,(lv k10).like b10 g) (hB:∀ g,(lv k11).like b11 g) (hh:lv 19=.hole)
 (hl:∀ x∈l,x.2.bu=true∧fr x.1=x.2.br (gK k5 k6 k7 k8 k9 k10 k11)):Le c0 ⟨fr,lv⟩ ⟨bq l,Oj p z av lf mk b5 b6 b7 b8 b9 b10 b11⟩:=by
 have hkm:=Oa k5 k6 k7 k8 k9 k10 k11 (.cells true false 27 p.cs) z (.cells true false 3 (zK av)) (.cells true false 3 (zK lf)) (.cells true false 78 mk) b5 b6 b7 b8 b9 b10 b11;refine Le.keys [(0,0,.cells true false 27 p.cs),(1,1,z),(2,2,.cells true false 3 (zK av)),(3,3,.cells true false 3 (zK lf)),(4,4,.cells true false 78 mk),(5,k5,b5),(6,k6,b6),(7,k7,b7),(8,k8,b8),(9,k9,b9),(10,k10,b10),(11,k11,b11)] 19 l rfl hc (by simp) hk hh ?_ (by rw [hkm];exact hl);rw [hkm];simp only [abp,Y6,false_implies,implies_true,and_true];refine⟨?_,?_,?_,?_,?_,h5 _,h6 _,h7 _,h8 _,h9 _,hA _,hB _⟩
 ·rw [h0];exact⟨true,_,rfl,(mu p _).symm,id⟩
 ·rw [h1];exact hz _
 ·rw [h2];exact⟨true,_,rfl,(bT av _).symm,id⟩
 ·rw [h3];exact⟨true,_,rfl,(bT lf _).symm,id⟩
 ·rw [h4];exact⟨true,_,rfl,hm,id⟩
theorem cJ (own:Bool)(T:TypeId)(l:List DV)(g:Key→Key):(LB.cells own false T (l.map CV.d)).like (.cells own false T (l.map CV.d)) g:=⟨own,_,rfl,by rw [Y7];rfl,id⟩
theorem J5 (m:Int)(p:PD)(V:NS)(hp:p.ok)(hg:p.good)(c:CS)(av lf:List Int)(f:Int × Int × Int)(t:Nat)(ht:t<3)(hc:c.upto t)(hcs:c.sec t=[])(hL:c.L.length≤500)(hlf:lf.length=p.ns) :
 aG Tryz.prog (GG m) 49 [.c (.ptr 0 0),.c (.d (.int .i64 t))] (BG p V t c av lf f) (.ret (.tup []) (vv p V t (eO p lf t c) av lf (nQ t 0) (nQ t 1) (nQ t 2) (lD f t c.L.length)) [nB false (eO p lf t c).L,.map false ((eO p lf t c).xM t)]):=by
 by_cases h0:t=0
 ·subst h0;exact HW m p V hp (by have:=(gx hg.gen).2.2.2.2.1;omega) c av lf f hc hcs hL
 ·have e:eO p lf t c=lI p lf t c lf.length:=if_neg h0;rw [e];exact Is m p V hp hg c av lf f t (by omega) hc hcs hL hlf
def mK (t u:Nat):CV:=if u<t then .mapr (8+u) else .d .nilmap
def CH (t:Nat)(c:CS)(u:Nat):LB:=if u<t then .map true (c.xM u) else .hole
def hU (p:PD)(V:NS)(lf:List Int)(t u:Nat):Int:=if u<t then (aS p V lf (u+1)).1.L.length else 0
abbrev Qy (p:PD):List CV:=[.d (.int .i64 0),.d (.int .i64 p.head),.d (.int .i64 p.tail),.d (.int .i64 p.nn)]
abbrev DT (p:PD)(V:NS)(lf:List Int)(t:Nat):List CV:=[.d (.int .i64 (hU p V lf t 0)),.d (.int .i64 (hU p V lf t 1)),.d (.int .i64 (hU p V lf t 2))]
theorem dN (t:Nat)(c:CS)(u:Nat)(g:Key→Key):(CH t c u).like (CH t c u) g:=by
 unfold CH;split
 ·exact aM _ _ g id
 ·rfl
def zF (p:PD):Nat→Int
 | 0=>0
 | 1=>p.head
 | 2=>p.tail
 | _=>p.nn
theorem IV (f:Int × Int × Int)(ht:t<3) (v:Int):P2 (lD f t v) t=v:=by
 obtain rfl|rfl|rfl:t=0∨t=1∨t=2:=by omega
 all_goals rfl
abbrev V1 (p:PD)(V:NS)(n a l:Nat)(f:Int × Int × Int)(hd tl:Int)(st:CV)(r:Int):List CV:=
 [.d (.ptr (Jj p V)),fC p.f,.d (.int .i64 p.mode),fC p.ins,.aI 7 0 n 7,.d (.int .i64 hd),.d (.int .i64 tl),st,.d (.int .i64 r),.aI 2 0 a 1,.aI 3 0 l 1,.mapr 8,.mapr 9,.mapr 10,.d (.int .i64 f.1),.d (.int .i64 f.2.1),.d (.int .i64 f.2.2)]
def Gh (l:List (Int × Int)):List CV:=(l.flatMap zj).map CV.d
def sB (l:List (Int × Int)):LB:=if l=[] then .bk else .cells true false 69 (Gh l)
theorem ND (l:List (Int × Int)):(Gh l).length=l.length*2:=by
 unfold Gh
 induction l with
 | nil=>rfl
 | cons x l ih=>rw [YX] at ih ⊢;rw [abN,YY,ih,Zn];simp;omega
theorem MX (l m:List (Int × Int)):Gh (l++m)=Gh l++Gh m:=by unfold Gh;rw [List.flatMap_append,Z2]
theorem Ou (l:List (Int × Int))(g:Key→Key):(Gh l).map (CV.br g)=Gh l:=by unfold Gh;rw [Y7];rfl
theorem He (l:List (Int × Int))(g:Key→Key):(sB l).like (sB l) g:=by
 unfold sB;split
 ·rfl
 ·exact⟨true,_,rfl,(Ou l g).symm,id⟩
theorem Xl (a b:CV):fK Tryz.prog 69 [0,1] [.c a,.c b]=some (.agg [a,b],[],[],True):=by kernel_rfl
theorem RU (lv:Key→LB)(κ:Key)(h:lv κ=.hole)(a b:CV):aB Tryz.prog 25 1 [0] lv κ [.agg [a,b]]=some (.c (.aI κ 0 1 2),[(κ,.cells true false 69 [a,b])],[],True):=by
 unfold aB;rw [h];kernel_rfl
theorem Dt (p:PD)(av lf:List Int):∀ j,(mb p av lf j).length≤j
 | 0=>aW _
 | j+1=>by
  have:=Dt p av lf j;unfold mb;split
  ·simp;omega
  ·omega
theorem Co{k:Key}{es:List (List DV)}{sz:Nat}(h:lv k=.cells own fz T (es.flatten.map CV.d)) (hs:∀ e∈es,e.length=sz) (hl:es.length≤9223372036854775807):cC lv 8 (.aI k 0 es.length sz)=some (.sl es,[k]):=by
 have e1:=rT h hs hl;simp only [fT,fq,Y8] at e1;obtain⟨⟨a,b⟩,h1,h2⟩:=e1;rw [h1];simp only [fy,AV.c.injEq,CV.d.injEq] at h2;rw [h2.1,h2.2]
theorem OA{k:Key}(h:lv k=nB own L) (hL:L.length≤1000):∃ ks,cC lv 8 (.aI k 0 L.length 7)=some (sD (if L=[] then none else some (L.map Nd.e)),ks):=by
 by_cases h0:L=[]
 ·have hB:lv k=.bk:=h.trans (if_pos h0);rw [if_pos h0];exact⟨[],by simp only [cC,hB];rfl⟩
 ·have hB:lv k=.cells own false 55 (j8 L):=h.trans (if_neg h0);rw [if_neg h0];have e:=Co (lv:=lv) (k:=k) (own:=own) (fz:=false) (T:=55) (es:=L.map Nd.e) (sz:=7) (by rw [Qw];exact hB) (fun e he=>by obtain⟨n,_,rfl⟩:=List.mem_map.1 he;rfl) (by rw [YX];omega);rw [YX] at e;exact⟨_,e⟩
theorem Ok{k:Key}{L:List (Int × Int)}(h:lv k=sB L) (hL:L.length≤1000):∃ ks,cC lv 8 (.aI k 0 L.length 2)=some (sD (if L=[] then none else some (L.map zj)),ks):=by
 by_cases h0:L=[]
 ·have hB:lv k=.bk:=h.trans (if_pos h0);rw [if_pos h0];exact⟨[],by simp only [cC,hB];rfl⟩
 ·have hB:lv k=.cells true false 69 (Gh L):=h.trans (if_neg h0);rw [if_neg h0];have e:=Co (lv:=lv) (k:=k) (own:=true) (fz:=false) (T:=69) (es:=L.map zj) (sz:=2) (by rw [← List.flatMap_def];exact hB) (fun e he=>by obtain⟨n,_,rfl⟩:=List.mem_map.1 he;rfl) (by rw [YX];omega);rw [YX] at e;exact⟨_,e⟩
theorem M6 (l:List Int):(zD l).flatten.map CV.d=zK l:=by
 induction l with
 | nil=>rfl
 | cons x l ih=>unfold zD zK at *;rw [Y0,aaK,Z2,ih];rfl
theorem Ku(p:PD){S:List (Int × Int)}{k1 k2 k3:Key}{o1 f3 o3:Bool}{T3:TypeId}(hd tl r n:Int) (h7:lv k1=nB o1 L) (h11:lv k2=sB S) (h2:lv k3=.cells o3 f3 T3 (zK av)) (hL:L.length≤1000) (hS:S.length≤1000) (hA:av.length≤1000) :
 ∃ ks,fT lv (.tup [.agg [fC p.f,.d (.int .i64 p.mode),fC p.ins,.aI k1 0 L.length 7,.d (.int .i64 hd),.d (.int .i64 tl),.aI k2 0 S.length 2,.d (.int .i64 r)],.c (.aI k3 0 av.length 1),.c (.d (.int .i64 n))]) =
  some (.tup [(⟨p.f,p.mode,p.ins,(if L=[] then none else some (L.map Nd.e)),hd,tl,(if S=[] then none else some (S.map zj)),r⟩:PD).A,.c (zC (some av)),.c (.d (.int .i64 n))],ks):=by
 obtain⟨ks1,e1⟩:=OA h7 hL;obtain⟨ks2,e2⟩:=Ok h11 hS;have e3:=Co (lv:=lv) (k:=k3) (own:=o3) (fz:=f3) (T:=T3) (es:=zD av) (sz:=1) (by rw [h2,M6]) (fun e he=>by unfold zD at he;obtain⟨n,_,rfl⟩:=List.mem_map.1 he;rfl) (by unfold zD;rw [YX];omega);rw [show (zD av).length=av.length from by unfold zD;rw [YX]] at e3;have f1:∀ x:DV,cC lv 8 (.d x)=some (x,[]):=fun x=>rfl
 refine⟨ks1++ks2++[k3],?_⟩;simp only [fT,jn,fq,uL,fG,f1,e1,e2,e3,Zb,Zr,Zt,Y0,Zy,PD.A,PD.cs,YZ];rfl
theorem QZ (lv:Key→LB)(l:List Bool):dW Tryz.prog 44 lv (.c (.d (.sl (bD l))))=some (.c (.d (.int .i64 l.length)),[],[],True):=VY (T:=44) (by simp) lv (some l)
abbrev Qe (p:PD)(V:NS):List CV:=[.d (.ptr (Jj p V)),fC p.f,.d (.int .i64 p.mode),fC p.ins,.d .nilsl,.d (.int .i64 0),.d (.int .i64 0),.d .nilsl,.d (.int .i64 0),.aI 2 0 p.nn 1,.aI 3 0 p.ns 1,.d .nilmap,.d .nilmap,.d .nilmap,.d (.int .i64 0),.d (.int .i64 0),.d (.int .i64 0)]
theorem X5 (a b d:CV):fK Tryz.prog 78 [0,2,3] [.c a,.c b,.c d]=some (.agg [a,.d .nilsl,.d (.int .i64 0),.d .nilsl,.d .nilsl,.d (.int .i64 0),.d (.int .i64 0),.d .nilsl,.d (.int .i64 0),b,d,.d .nilmap,.d .nilmap,.d .nilmap,.d (.int .i64 0),.d (.int .i64 0),.d (.int .i64 0)],[],[],True):=by kernel_rfl
theorem Va (a b d:CV):fK Tryz.prog 27 [0,1,2] [.c a,.c b,.c d]=some (.agg [a,b,d,.d .nilsl,.d (.int .i64 0),.d (.int .i64 0),.d .nilsl,.d (.int .i64 0)],[],[],True):=by kernel_rfl
theorem EI (m:Int)(p:PD)(hp:p.ok)(h0:(fL p).2.2=0):aa Tryz.prog (GG m) 18 [p.A] (Lg p (bA p)):=by
 have hg:=rL hp h0;have h:=ze m p hp;rw [h0] at h;obtain⟨hn1,hn2,hn3,-,hni,hnn,hns⟩:=gx hg.gen;obtain⟨hr0,hr1,-⟩:=hg.res;have hn:=yg m p hp hg;have MC:=(rH (oW hg)).len;obtain⟨V,hV⟩:∃ V,bA p=V:=⟨_,rfl⟩
 rw [hV] at hn MC;rw [hV];have hc1:=Fh (GG m) p.f (fun e he=>m4 (hp.f e he)) (by have:=gx hg.gen;unfold PD.nf at this;omega);have hc2:=Fa (GG m) p.ins (fun e he=>wF (hp.ins e he)) (by unfold PD.ni at hni;omega);refine aa.ed Tryz.func18 rfl fun _=>aab ?_;refine aaa fun K hK=>aas 2 h ?_;refine aab ?_;refine aaj (aac (hK _ _ (aaa fun K hK=>?_)));refine aaq mixed (by kernel_rfl) rfl ?_;simp;refine ag.p 2 9 hn ?_;simp [xB,QO,X5,kB]
 repeat refine ah ?_
 refine⟨by kernel_rfl,?_⟩
 repeat refine ah ?_
 repeat refine ah ?_
 apply hK;refine aaa fun K hK=>?_;refine aaq mixed (by kernel_rfl) rfl ?_;simp [aj];refine ag.p 5 9 hc1 ?_;simp;refine ag.p 5 9 hc2 ?_;simp [Va,aj]
 repeat refine ah ?_
 refine⟨by kernel_rfl,?_⟩
 repeat refine ah ?_
 repeat refine ah ?_
 apply hK;refine aab ?_;have hV2:V.2.length=p.ns:=MC.2;have hlB:=fun lv=>QZ lv V.2
 refine aaa fun K hK=>aai fun K1 hK1=>?_;simp [Jj,PD.zy,hlB]
 repeat refine ah ?_
 apply hK1;refine aag ?_;have hz:∀ g,(LB.cells true false 27 tA.cs).like (.cells true false 27 tA.cs) g:=fun g=>Jr 27 tA g
 refine aap (fun (j:Nat)=>⟨bq [(1,.c (.ptr 0 0)),(2,.c (.ptr 1 0)),(6,.c (.ptr 4 0)),(7,.c (.d (.int .i64 ((V.2.take j).count true:Nat)))),(52,.c (.d (.sl (bD V.2)))),(53,.c (.d (.int .i64 p.ns))),(54,.c (.d (.int .i64 j)))],
  Oj p (.cells true false 27 tA.cs) (List.replicate p.nn 0) (aN (V.2.take j) 0++List.replicate (p.ns - j) 0) (Qe p V) .hole .hole .hole .hole .hole .hole .hole⟩) 20
  (fun j=>j≤p.ns) (fun j=>p.ns - j) 0 (IQ 5 6 7 8 9 10 11 _ rfl (by decide) (by simp) rfl hz (by simp [L2]) (by simp [L2,aN]) (mk':=Qe p V) rfl (by simp [Qe,gK]) (fun g=>rfl) (fun g=>rfl) (fun g=>rfl) (fun g=>rfl) (fun g=>rfl) (fun g=>rfl) (fun g=>rfl) rfl (by simp [gK,hV2])) (Y4 _) ?_
 rintro j hj
 try simp only at hj
 have hAl:(aN (V.2.take j) 0).length=j:=by rw [jf,Zc];omega
 have hcl:(V.2.take j).count true≤j:=Za abo (by rw [Zc];omega);refine aab ?_;refine aaa fun K2 hK2=>?_
 by_cases hjt:j<p.ns
 ·have hjt':(j:Int)<(p.ns:Int):=by omega
  have hjV:j<V.2.length:=by omega
  have hwj:=dF (n:=(j:Int)+1) (by omega) (by omega);have hxv:=fun lv=>OT (T:=44) (by simp) lv V.2 hjV
  have htk:V.2.take (j+1)=V.2.take j++[V.2[j]]:=by rw [abj,cn hjV];rfl
  have hlf1:=tS (V.2.take j) V.2[j] 0;rw [← htk] at hlf1;have hct:(V.2.take (j+1)).count true=(V.2.take j).count true+if V.2[j]=true then 1 else 0:=by rw [htk,List.count_append];cases V.2[j] <;> rfl
  obtain⟨b,hb⟩:∃ b,V.2[j]=b:=⟨_,rfl⟩
  simp only [hb] at hxv hlf1 hct;obtain⟨A,hA⟩:∃ A,aN (V.2.take j) 0=A:=⟨_,rfl⟩
  rw [hA] at hAl hlf1;simp only [hA];obtain⟨q,hq⟩:∃ q,p.ns - j=q+1:=⟨p.ns - j - 1,by omega⟩
  have hq2:p.ns - (j+1)=q:=by omega
  have hset:∀ x y:Int,(A++x::List.replicate q 0).set j y=A++y::List.replicate q 0:=fun x y=>by
   rw [abD _ _ (by omega),hAl,ZJ];rfl
  have hlen:∀ x:Int,(A++x::List.replicate q 0).length=p.ns:=fun x=>by simp;omega
  have hz1:∀ x y:Int,aj (zK (A++x::List.replicate q 0)) j [CV.d (.int .i64 y)]=zK (A++y::List.replicate q 0):=fun x y=>by rw [Lz _ _ _ (by rw [hlen];omega),hset]
  have hle:∀ x:Int,j+1≤(zK (A++x::List.replicate q 0)).length:=fun x=>by rw [Ka,hlen];omega
  rw [hq,aba];refine aaf (by simp [hjt'] <;> omega) (aac (hK2 _ _ (aaa fun K3 hK3=>aag (aal hxv ?_))));refine aar hjt' hz1 ?_;refine aab ?_;have hw1:=dF (n:=((V.2.take j).count true:Int)+1) (by omega) (by omega)
  have hfin:∀ (fr:Nat→AV) (lv:Key→LB) (l':List (Nat × AV)) (x:Int),lv=aD (Oj p (.cells true false 27 tA.cs) (List.replicate p.nn 0) (A++0::List.replicate q 0) (Qe p V) .hole .hole .hole .hole .hole .hole .hole) 3 (.cells true false 3 (zK (A++x::List.replicate q 0))) →
   aN (V.2.take (j+1)) 0=A++[x]→(∀ z∈l',z.2.bu=true∧fr z.1=z.2.br (gK 5 6 7 8 9 10 11))→∀ (c0:Ctx),(c0.js=fun _=>.hole)→Le c0 ⟨fr,lv⟩ ⟨bq l',Oj p (.cells true false 27 tA.cs) (List.replicate p.nn 0) (aN (V.2.take (j+1)) 0++List.replicate (p.ns - (j+1)) 0) (Qe p V) .hole .hole .hole .hole .hole .hole .hole⟩:=by
   intro fr lv l' x hlv hx hl' c0 hc0;subst hlv;rw [hx,hq2,YZ];exact IQ (mk':=Qe p V) 5 6 7 8 9 10 11 _ hc0 (by decide) rfl rfl hz rfl rfl rfl (by simp [Qe,gK]) (fun g=>rfl) (fun g=>rfl) (fun g=>rfl) (fun g=>rfl) (fun g=>rfl) (fun g=>rfl) (fun g=>rfl) rfl hl'
  cases b with
  | true=>
   refine aak (aar hjt' hz1 ?_);refine aat hw1 (hK3 _ _ ?_);refine aae ?_;simp [hwj];refine⟨j+1,hfin _ _ _ ((V.2.take j).count true:Nat) ?_ (by rw [hlf1];simp) (by simp [gK,hct]) _ rfl,by omega,by omega⟩;funext k;simp [aD]
  | false=>
   refine aaj (aac (hK3 _ _ (aae ?_)));simp [hwj];refine⟨j+1,hfin _ _ _ (-1) (by rfl) (by rw [hlf1];simp) (by simp [gK,hct]) _ rfl,by omega,by omega⟩
 have hje:j=p.ns:=by omega
 subst hje;refine aaj (aan (hK _ _ ?_));have htk:V.2.take p.ns=V.2:=ZH (by omega);rw [htk] at hAl hcl;simp only [htk,ZJ,abS,Zr];refine aaC @xB @Wj @aj.eq_1 ?_;refine aab ?_;refine AW.bk 4 24 4 7 rfl rfl rfl ?_;have hlfl:(aN V.2 0).length=p.ns:=by rw [jf];omega
 have hlfb:∀ x∈aN V.2 0,-1≤x∧x≤100:=fun x hx=>by have:=tP V.2 0 x hx;omega
 unfold Lg;have hcP:bt p V=Qt p V (aN V.2 0) (V.2.count true):=rfl;rw [hcP];generalize aN V.2 0=lf at *
 have hcan:=fun t ht=>sS p hnn (by omega) (by omega) hni V lf (by omega) t ht
 obtain⟨M,hM⟩:∃ M,V.2.count true=M:=⟨_,rfl⟩
 have w1:=dF (n:=1) (by omega) (by omega);have w2:=dF (n:=2) (by omega) (by omega);have w3:=dF (n:=3) (by omega) (by omega);rw [hM];refine aaa fun K hK=>aab ?_;refine aag ?_
 refine aap (fun (t:Nat)=>⟨bq [(1,.c (.ptr 0 0)),(2,.c (.ptr 1 0)),(6,.c (.ptr 4 0)),(7,.c (.d (.int .i64 (M:Nat)))),(10,.c (.ptr 5 0)),(11,.c (.ptr 6 0)),(84,.c (.d (.int .i64 t)))],
  Oj p (.cells true false 27 tA.cs) (aS p V lf t).2 lf (Bs p V 2 3 7 (aS p V lf t).1.L.length (aS p V lf t).2.length lf.length (mK t 0) (mK t 1) (mK t 2) (F6 p V lf t)) (.cells true false 85 (Qy p)) (.cells true false 76 (DT p V lf t)) (nB true (aS p V lf t).1.L) (CH t (aS p V lf t).1 0) (CH t (aS p V lf t).1 1) (CH t (aS p V lf t).1 2) .hole⟩) 20
  (fun t=>t≤3) (fun t=>3 - t) 0 (IQ 20 22 24 8 9 10 11 _ rfl (by decide) rfl rfl hz rfl rfl rfl (by simp [gK,aS,CS.L,mK,F6,hlfl]) (fun g=>cJ true 85 [.int .i64 0,.int .i64 p.head,.int .i64 p.tail,.int .i64 p.nn] g) (fun g=>cJ true 76 [.int .i64 0,.int .i64 0,.int .i64 0] g) (fun g=>rfl) (fun g=>rfl) (fun g=>rfl) (fun g=>rfl) (fun g=>rfl) rfl (by simp [gK,hM])) (Y4 _) ?_
 rintro t ht
 try simp only at ht
 obtain⟨hE,hLb,hAv⟩:=hcan t ht;refine aab ?_;refine aaa fun K2 hK2=>?_
 by_cases htt:t<3
 ·have htt':(t:Int)<3:=by omega
  have hwt:=dF (n:=(t:Int)+1) (by omega) (by omega);obtain⟨hE2,hLb2,hAv2⟩:=hcan (t+1) (by omega)
  have hb0:ak p t≤ak p (t+1)∧ak p (t+1)≤p.nn:=by
   obtain rfl|rfl|rfl:t=0∨t=1∨t=2:=by omega
   ·exact⟨Y4 _,by show p.head.toNat≤_;omega⟩
   ·exact⟨by show p.head.toNat≤p.tail.toNat;omega,by show p.tail.toNat≤_;omega⟩
   ·exact⟨by show p.tail.toNat≤p.nn;omega,aW _⟩
  have hS1:aS p V lf (t+1)=fD p V lf (aS p V lf t).1.L.length t (eO p lf t (aS p V lf t).1,(aS p V lf t).2) (ak p t) (ak p (t+1) - ak p t):=rfl;have hF1:F6 p V lf (t+1)=lD (F6 p V lf t) t (aS p V lf t).1.L.length:=rfl;obtain⟨f,hf⟩:∃ f,F6 p V lf t=f:=⟨_,rfl⟩
  obtain⟨⟨c,av⟩,hS⟩:∃ S,aS p V lf t=S:=⟨_,rfl⟩
  rw [hf,hS] at hF1;rw [hS] at hS1 hE hLb hAv;simp only [hS,hf];simp only at hS1 hE hLb hAv hF1;have hbeg:=J5 m p V hp hg c av lf f t htt (CS.jy hE) (CS.oR htt hE) (by omega) hlfl;obtain⟨hu1,OV⟩:=GA p lf (CS.jy hE);obtain⟨c1,hc1⟩:∃ c1,eO p lf t c=c1:=⟨_,rfl⟩
  rw [hc1] at hbeg hS1 hu1 OV;have hsv:=oJ p V lf c.L.length (s:=(c1,av)) (ak p t) hu1;refine aaf (by simp [htt'] <;> omega) (aac (hK2 _ _ (aaa fun K3 hK3=>aag (aab ?_))));refine aaa fun K4 hK4=>?_;obtain hs0|hs0|hs0:t=0∨t=1∨t=2:=by omega
  all_goals
   refine aae ?_;simp [hs0];have hbeg':=hbeg;rw [hs0] at hbeg'
   first
    | refine ag.cg 40 19 true 4 2 3 7 [] [30,31] hbeg' rfl (by simp) (by decide) (by decide) (by decide) rfl rfl rfl rfl rfl (fun u h=>?_) (fun _=>⟨rfl,rfl,rfl,rfl⟩) (by simp) rfl (fun b hb=>?_) ?_
    | refine ag.cg 40 19 true 4 2 3 7 [8] [30,31] hbeg' rfl (by simp) (by decide) (by decide) (by decide) rfl rfl rfl rfl rfl (fun u h=>?_) (fun _=>⟨rfl,rfl,rfl,rfl⟩) (by simp) rfl (fun b hb=>?_) ?_
    | refine ag.cg 40 19 true 4 2 3 7 [8,9] [30,31] hbeg' rfl (by simp) (by decide) (by decide) (by decide) rfl rfl rfl rfl rfl (fun u h=>?_) (fun _=>⟨rfl,rfl,rfl,rfl⟩) (by simp) rfl (fun b hb=>?_) ?_
   ·have hu:u=0∨u=1:=by first|(simp at h;omega)|(simp at h)
    rcases hu with rfl|rfl
    all_goals first|exact⟨true,rfl,fun _=>rfl⟩|(simp at h)
   ·simp only [YT,Y6,or_false] at hb;rcases hb with rfl|rfl
    ·exact fun h=>fN h
    ·exact fun h=>by cases h
   simp [su,Ea,bB,abI,CS.xM]
   repeat refine ah ?_
   apply hK4;have hbt:((ak p t:Nat):Int)=(zF p t):=by rw [hs0];simp [ak,zF];try omega
   rw [hs0] at hbt;simp only [zF] at hbt;refine aaa fun K4 hK4=>aab ?_;refine aag ?_
   refine aap (fun (k:Nat)=>⟨bq [(1,.c (.ptr 0 0)),(2,.c (.ptr 1 0)),(6,.c (.ptr 4 0)),(7,.c (.d (.int .i64 (M:Nat)))),(10,.c (.ptr 5 0)),(11,.c (.ptr 6 0)),(12,.c (.d (.int .i64 t))),(13,.c (.d (.int .i64 ((ak p t:Nat)+(k:Nat):Int)))),(84,.c (.d (.int .i64 t)))],
    Oj p (.cells true false 27 tA.cs) (fD p V lf c.L.length t (c1,av) (ak p t) k).2 lf (Bs p V 2 3 7 (fD p V lf c.L.length t (c1,av) (ak p t) k).1.L.length (fD p V lf c.L.length t (c1,av) (ak p t) k).2.length lf.length (mK (t+1) 0) (mK (t+1) 1) (mK (t+1) 2) (lD f t c.L.length)) (.cells true false 85 (Qy p)) (.cells true false 76 (DT p V lf t)) (nB true (fD p V lf c.L.length t (c1,av) (ak p t) k).1.L) (CH (t+1) (fD p V lf c.L.length t (c1,av) (ak p t) k).1 0) (CH (t+1) (fD p V lf c.L.length t (c1,av) (ak p t) k).1 1) (CH (t+1) (fD p V lf c.L.length t (c1,av) (ak p t) k).1 2) .hole⟩) 40
    (fun k=>k≤ak p (t+1) - ak p t) (fun k=>ak p (t+1) - ak p t - k) 0 (by
     subst hs0
     first
      | exact IQ 5 6 30 31 9 10 11 _ rfl (by decide) rfl rfl hz rfl rfl rfl (by simp [gK,mK,mV,aF,nQ,fD];try decide) (fun g=>cJ true 85 [.int .i64 0,.int .i64 p.head,.int .i64 p.tail,.int .i64 p.nn] g) (fun g=>cJ true 76 [.int .i64 (hU p V lf _ 0),.int .i64 (hU p V lf _ 1),.int .i64 (hU p V lf _ 2)] g) (fun g=>eK _ g id) (fun g=>by first|exact aM _ _ g id|exact rfl) (fun g=>by first|exact aM _ _ g id|exact rfl) (fun g=>by first|exact aM _ _ g id|exact rfl) (fun g=>rfl) rfl (by simp [gK,hbt])
      | exact IQ 5 6 30 8 31 10 11 _ rfl (by decide) rfl rfl hz rfl rfl rfl (by simp [gK,mK,mV,aF,nQ,fD];try decide) (fun g=>cJ true 85 [.int .i64 0,.int .i64 p.head,.int .i64 p.tail,.int .i64 p.nn] g) (fun g=>cJ true 76 [.int .i64 (hU p V lf _ 0),.int .i64 (hU p V lf _ 1),.int .i64 (hU p V lf _ 2)] g) (fun g=>eK _ g id) (fun g=>by first|exact aM _ _ g id|exact rfl) (fun g=>by first|exact aM _ _ g id|exact rfl) (fun g=>by first|exact aM _ _ g id|exact rfl) (fun g=>rfl) rfl (by simp [gK,hbt])
      | exact IQ 5 6 30 8 9 31 11 _ rfl (by decide) rfl rfl hz rfl rfl rfl (by simp [gK,mK,mV,aF,nQ,fD];try decide) (fun g=>cJ true 85 [.int .i64 0,.int .i64 p.head,.int .i64 p.tail,.int .i64 p.nn] g) (fun g=>cJ true 76 [.int .i64 (hU p V lf _ 0),.int .i64 (hU p V lf _ 1),.int .i64 (hU p V lf _ 2)] g) (fun g=>eK _ g id) (fun g=>by first|exact aM _ _ g id|exact rfl) (fun g=>by first|exact aM _ _ g id|exact rfl) (fun g=>by first|exact aM _ _ g id|exact rfl) (fun g=>rfl) rfl (by simp [gK,hbt])) (Y4 _) ?_
   rintro k hk
   try simp only at hk
   obtain⟨hd1,hd2,hd3,hd4⟩:=hsv k;have hstep:fD p V lf c.L.length t (c1,av) (ak p t) (k+1)=((kL p V lf c.L.length t (fD p V lf c.L.length t (c1,av) (ak p t) k).1 (fD p V lf c.L.length t (c1,av) (ak p t) k).2 (ak p t+k)).2,(fD p V lf c.L.length t (c1,av) (ak p t) k).2.set (ak p t+k) (kL p V lf c.L.length t (fD p V lf c.L.length t (c1,av) (ak p t) k).1 (fD p V lf c.L.length t (c1,av) (ak p t) k).2 (ak p t+k)).1):=rfl;obtain⟨⟨d,bv⟩,hSk⟩:∃ S,fD p V lf c.L.length t (c1,av) (ak p t) k=S:=⟨_,rfl⟩
   rw [hSk] at hd1 hd2 hd3 hd4 hstep;simp only [hSk];simp only at hd1 hd2 hd3 hd4 hstep;have hbe:((ak p (t+1):Nat):Int)=zF p (t+1):=by rw [hs0];simp [ak,zF];try omega
   have hbe':=hbe;rw [hs0] at hbe';simp only [zF] at hbe';refine aaa fun K6 hK6=>aaD hs0 w1 w2 w3 ?_
   by_cases hkt:k<ak p (t+1) - ak p t
   ·have hi:ak p t+k<p.nn:=by omega
    have hcmp:((ak p t:Nat):Int)+(k:Nat)<zF p (t+1):=by rw [← hbe];omega
    have hcmp':=hcmp;rw [hs0] at hcmp';simp only [zF] at hcmp';have hnode:=MA m p hp hg V MC d bv lf (lD f t c.L.length) t htt hd1 (by omega) (by omega) hlfl hlfb c.L.length (IV f htt _) (by omega) (ak p t+k) hi;obtain⟨R,hR⟩:∃ R,kL p V lf c.L.length t d bv (ak p t+k)=R:=⟨_,rfl⟩
    rw [hR] at hnode hstep;have hnd':=hnode;have hwk:=dF (n:=((ak p t:Nat):Int)+(k:Nat)+1) (by omega) (by omega);rw [hs0] at hwk;rw [hs0] at hnd';simp only [Int.natCast_add] at hnd';refine aaf (by simp [hcmp'] <;> omega) (aac (hK6 _ _ (aaa fun K8 hK8=>aag ?_)));refine AW.Sv 60 mixed (by kernel_rfl) ?_;have hB:∃ B,B=LB.cells true false 78 (Bs p V 2 3 50 R.2.L.length bv.length lf.length (mK (t+1) 0) (mK (t+1) 1) (mK (t+1) 2) (lD f t c.L.length)):=⟨_,rfl⟩
    obtain⟨B,hB⟩:=hB;refine oZ.op (κ:=45) rfl rfl ?_;simp only [ki];refine oZ.read 45 4 B rfl rfl (x:=.c (.ptr 4 0)) (by simp [aZ,Op.operands]) (by simp [aZ,Op.operands,hB]) ?_;refine oZ.read 45 4 B rfl rfl (x:=.c (.ptr 4 9)) (by simp [aZ,Op.operands]) (by simp [aZ,Op.operands,hB]) ?_;refine oZ.read 45 4 B rfl rfl (x:=.c (.aI 2 0 bv.length 1)) (by simp [aZ,Op.operands]) (by simp [aZ,Op.operands,hB]) ?_;refine oZ.op (κ:=45) rfl rfl ?_;simp only [ki];refine oZ.op (κ:=45) rfl rfl ?_;simp only [ki];refine oZ.op (κ:=45) rfl rfl ?_;simp only [ki];refine oZ.op (κ:=45) rfl rfl ?_;simp only [ki];refine oZ.op (κ:=45) rfl rfl ?_;simp [hs0]
    first
     | refine ag.cg 60 19 true 4 2 3 7 [8] [50] hnd' rfl (by simp) (by decide) (by decide) (by decide) rfl rfl rfl rfl rfl (fun u h=>?_) (fun _=>⟨rfl,rfl,rfl,rfl⟩) (by simp) rfl (fun b hb=>?_) ?_
     | refine ag.cg 60 19 true 4 2 3 7 [8,9] [50] hnd' rfl (by simp) (by decide) (by decide) (by decide) rfl rfl rfl rfl rfl (fun u h=>?_) (fun _=>⟨rfl,rfl,rfl,rfl⟩) (by simp) rfl (fun b hb=>?_) ?_
     | refine ag.cg 60 19 true 4 2 3 7 [8,9,10] [50] hnd' rfl (by simp) (by decide) (by decide) (by decide) rfl rfl rfl rfl rfl (fun u h=>?_) (fun _=>⟨rfl,rfl,rfl,rfl⟩) (by simp) rfl (fun b hb=>?_) ?_
    ·have hu:u=0∨u=1∨u=2:=by simp at h;omega
     rcases hu with rfl|rfl|rfl
     all_goals first|exact⟨true,rfl,fun _=>rfl⟩|(simp at h)
    ·rw [List.mem_singleton.1 hb];exact fun h=>fN h
    simp [su,bB,abI];refine oZ.read 60 2 (.cells true false 3 (zK bv)) rfl rfl (x:=.c (.ptr 2 (ak p t+k))) (by simp [aZ,Op.operands,hs0];omega) (by simp [aZ,Op.operands,hs0];omega) ?_;refine oZ.op (κ:=60) rfl rfl ?_;have hzs:=Lz bv (ak p t+k) R.1 (by omega);simp [hzs];refine ah ?_;refine oZ.done ⟨?_,?_,?_⟩
    ·simp [Tw.Bm,sY];kernel_rfl
    ·intro p' hp' q' hq' W' B' hs' hw';simp [XG,List.zipIdx] at hp';simp [Xj,List.zipIdx] at hq';rcases hp' with rfl|rfl|rfl|rfl
     all_goals
      cases hs'
      rcases hq' with rfl|rfl
      all_goals first
       | (exfalso;simp at hw';done)
       | exact .inr ⟨.inl rfl,.inr (by rw [hB,hs0];rfl)⟩
       | exact .inr ⟨.inl rfl,.inl rfl⟩
       | exact .inl (by kernel_rfl)
    apply hK8;refine aae ?_;simp [hwk];refine⟨k+1,?_,by omega,by omega⟩;rw [hstep];clear hstep hsv;subst hs0;exact IQ 5 6 50 8 9 10 11 _ rfl (by decide) rfl rfl hz rfl rfl rfl (by simp [gK,mK,eU,aF];try decide) (fun g=>cJ true 85 [.int .i64 0,.int .i64 p.head,.int .i64 p.tail,.int .i64 p.nn] g) (fun g=>cJ true 76 [.int .i64 (hU p V lf _ 0),.int .i64 (hU p V lf _ 1),.int .i64 (hU p V lf _ 2)] g) (fun g=>eK _ g id) (fun g=>by first|exact aM _ _ g id|exact rfl) (fun g=>by first|exact aM _ _ g id|exact rfl) (fun g=>by first|exact aM _ _ g id|exact rfl) (fun g=>rfl) rfl (by simp [gK,Int.add_assoc])
   have hke:k=ak p (t+1) - ak p t:=by omega
   have hcmp:¬ (((ak p t:Nat):Int)+(k:Nat)<zF p (t+1)):=by rw [← hbe];omega
   rw [hs0] at hcmp;simp only [zF] at hcmp;have hSn:aS p V lf (t+1)=(d,bv):=by rw [hS1,← hke,hSk]
   clear hS1 hstep hsv hSk;have hlnd:∀ lv:Key→LB,lv 7=nB true d.L→dW Tryz.prog 24 lv (.c (.aI 7 0 d.L.length 7))=some (.c (.d (.int .i64 d.L.length)),[],[7],True):=fun lv h=>RM h (by omega)
   refine aah (by simp [hcmp] <;> omega) (aan (hK4 _ _ (aav hlnd hs0 @aj.eq_1 (hK3 _ _ ?_))));rw [hs0] at hwt;refine aae ?_;simp [hwt,w1,w2,w3];have htl:(DT p V lf t).set t (.d (.int .i64 (d.L.length:Int)))=DT p V lf (t+1):=by rw [hs0] at hSn ⊢;simp [hU,hSn]
   refine⟨t+1,?_,by omega,by omega⟩;rw [hSn,hF1];clear hSn hF1;subst hs0;exact IQ 5 6 7 8 9 10 11 _ rfl (by decide) rfl rfl hz rfl rfl rfl (by simp [gK,mK];try decide) (fun g=>cJ true 85 [.int .i64 0,.int .i64 p.head,.int .i64 p.tail,.int .i64 p.nn] g) (fun g=>by first|(show (LB.cells true false 76 ((DT p V lf 0).set 0 (.d (.int .i64 (d.L.length:Int))))).like _ g;rw [htl];exact cJ true 76 [.int .i64 (hU p V lf 1 0),.int .i64 (hU p V lf 1 1),.int .i64 (hU p V lf 1 2)] g)|(show (LB.cells true false 76 ((DT p V lf 1).set 1 (.d (.int .i64 (d.L.length:Int))))).like _ g;rw [htl];exact cJ true 76 [.int .i64 (hU p V lf 2 0),.int .i64 (hU p V lf 2 1),.int .i64 (hU p V lf 2 2)] g)|(show (LB.cells true false 76 ((DT p V lf 2).set 2 (.d (.int .i64 (d.L.length:Int))))).like _ g;rw [htl];exact cJ true 76 [.int .i64 (hU p V lf 3 0),.int .i64 (hU p V lf 3 1),.int .i64 (hU p V lf 3 2)] g)) (fun g=>eK _ g id) (fun g=>by first|exact aM _ _ g id|exact rfl) (fun g=>by first|exact aM _ _ g id|exact rfl) (fun g=>by first|exact aM _ _ g id|exact rfl) (fun g=>rfl) rfl (by simp [gK])
 have hte:t=3:=by omega
 subst hte;obtain⟨⟨c,av⟩,hS⟩:∃ S,aS p V lf 3=S:=⟨_,rfl⟩
 obtain⟨f,hf⟩:∃ f,F6 p V lf 3=f:=⟨_,rfl⟩
 rw [hS] at hE hLb hAv;simp only [hS,hf];simp only at hE hLb hAv;have hLn:c.L.length≤500:=by have:ak p 3=p.nn:=rfl;omega
 have hlnd:∀ lv:Key→LB,lv 7=nB true c.L→dW Tryz.prog 24 lv (.c (.aI 7 0 c.L.length 7))=some (.c (.d (.int .i64 c.L.length)),[],[7],True):=fun lv h=>RM h (by omega)
 refine aaj (aan (hK _ _ (aaa fun K hK=>aal hlnd ?_)))
 by_cases hbig:64<c.L.length
 ·simp only [hS];rw [if_pos hbig];have hbig':(64:Int)<(c.L.length:Int):=by omega
  refine aaf (by simp [hbig'] <;> omega) (aar @XL @aj.eq_1 ?_);refine aad (jz.L8 (κ:=0) (k:=1) (off:=0) (own:=true) (fz:=false) (T:=27) (U:=27) (cs:=tA.cs) (X:=tA.A) (y:=.c (.d .nilsl)) (z:=.c (.d (.int .i64 3))) (ks:=[]) rfl (by simp) (by simp) (by rw [YV];exact Cn ..) (by simp) (by simp) (by simp) rfl rfl ?_);exact Dq _ _ _
 have hbig':¬ (64:Int)<(c.L.length:Int):=by omega
 refine aah (by simp [hbig'] <;> omega) (aac (hK _ _ ?_));have ht0:hU p V lf 3 0=(aS p V lf 1).1.L.length:=if_pos (by omega);have ht1:hU p V lf 3 1=(aS p V lf 2).1.L.length:=if_pos (by omega);have ht2:hU p V lf 3 2=c.L.length:=by have:hU p V lf 3 2=(aS p V lf 3).1.L.length:=if_pos (by omega);rw [this,hS]
 refine AW.d3 mixed @aj.eq_1 ht0 ht1 ?_;refine aaa fun K hK=>?_
 have hK':∀ (fr:Nat→AV) (lv:Key→LB) (κ:Nat) (hd tl:Int),hd=(if M=0 then (c.L.length:Int) else (aS p V lf 1).1.L.length)→tl=(if M=0 then (c.L.length:Int) else (aS p V lf 2).1.L.length) →
  fr 1=.c (.ptr 0 0)→fr 2=.c (.ptr 1 0)→fr 6=.c (.ptr 4 0) →
  lv=aD (Oj p (.cells true false 27 tA.cs) av lf (Bs p V 2 3 7 c.L.length av.length lf.length (mK 3 0) (mK 3 1) (mK 3 2) f) (.cells true false 85 (Qy p)) (.cells true false 76 (DT p V lf 3)) (nB true c.L) (CH 3 c 0) (CH 3 c 1) (CH 3 c 2) .hole) 4 (.cells true false 78 (V1 p V c.L.length av.length lf.length f hd tl (.d .nilsl) 0))→K ⟨fr,lv⟩ κ:=by
  intro fr lv κ hd tl hhd htl g1 g2 g6 hlv;subst hlv;apply hK;simp only [hS];rw [if_neg hbig];refine AW.bk 4 11 7 2 rfl rfl rfl ?_;refine aaz (s2:=⟨bq [(1,.c (.ptr 0 0)),(2,.c (.ptr 1 0)),(6,.c (.ptr 4 0))],Oj p (.cells true false 27 tA.cs) av lf (V1 p V c.L.length av.length lf.length f hd tl (.aI 11 0 0 2) 0) .hole .hole (nB true c.L) (CH 3 c 0) (CH 3 c 1) (CH 3 c 2) .bk⟩) (κ2:=20) (IQ 12 13 7 8 9 10 11 _ rfl (by decide) rfl rfl hz rfl rfl rfl (by simp [gK]) (fun g=>rfl) (fun g=>rfl) (fun g=>eK _ g id) (fun g=>dN 3 c 0 g) (fun g=>dN 3 c 1 g) (fun g=>dN 3 c 2 g) (fun g=>rfl) rfl (by simp [g1,g2,g6,gK])) ?_;refine aaa fun K hK=>aab ?_;refine aag ?_
  refine aap (fun (j:Nat)=>⟨bq [(1,.c (.ptr 0 0)),(2,.c (.ptr 1 0)),(6,.c (.ptr 4 0)),(157,.c (.aI 3 0 lf.length 1)),(158,.c (.d (.int .i64 lf.length))),(159,.c (.d (.int .i64 j)))],
   Oj p (.cells true false 27 tA.cs) av lf (V1 p V c.L.length av.length lf.length f hd tl (.aI 11 0 (mb p av lf j).length 2) 0) .hole .hole (nB true c.L) (CH 3 c 0) (CH 3 c 1) (CH 3 c 2) (sB (mb p av lf j))⟩) 20
   (fun j=>j≤lf.length) (fun j=>lf.length - j) 0 (IQ 5 6 7 8 9 10 11 _ rfl (by decide) rfl rfl hz rfl rfl rfl (by simp [gK,mb]) (fun g=>rfl) (fun g=>rfl) (fun g=>eK _ g id) (fun g=>dN 3 c 0 g) (fun g=>dN 3 c 1 g) (fun g=>dN 3 c 2 g) (fun g=>rfl) rfl (by simp [gK])) (Y4 _) ?_
  rintro j hj
  try simp only at hj
  have hsn:mb p av lf (j+1)=if 0≤lf.getD j 0 then mb p av lf j++[(av.getD (p.st j).1.toNat 0,av.getD (p.st j).2.toNat 0)] else mb p av lf j:=rfl
  have hsl:=Dt p av lf j;obtain⟨S,hSt⟩:∃ S,mb p av lf j=S:=⟨_,rfl⟩
  rw [hSt] at hsn hsl;simp only [hSt];refine aab ?_;refine aaa fun K2 hK2=>?_
  by_cases hjt:j<lf.length
  ·have hjt':(j:Int)<(lf.length:Int):=by omega
   have hwj:=dF (n:=(j:Int)+1) (by omega) (by omega);have hld:=iO (P:=Tryz.prog) (T:=3) (by simp) hjt;have hgd:lf.getD j 0=lf[j]:=by rw [hJ,cn hjt];rfl
   rw [hgd] at hsn;generalize lf[j]=y at *
   refine aaf (by simp [hjt'] <;> omega) (aac (hK2 _ _ (aaa fun K3 hK3=>aag (aar hjt' hld ?_))));refine aab ?_
   by_cases hy:0≤y
   ·rw [if_pos hy] at hsn;obtain⟨s0,s1,s2,s3⟩:=B8 hg (show j<p.ns by omega);have hxs:=fun lv=>KZ hp lv j (by omega)
    obtain⟨q1,hq1⟩:∃ q:Nat,(p.st j).1=q:=⟨(p.st j).1.toNat,by omega⟩
    obtain⟨q2,hq2⟩:∃ q:Nat,(p.st j).2=q:=⟨(p.st j).2.toNat,by omega⟩
    have l1:q1<av.length:=by omega
    have l2:q2<av.length:=by omega
    have l1':(q1:Int)<(av.length:Int):=by omega
    have l2':(q2:Int)<(av.length:Int):=by omega
    have hl1:=iO (P:=Tryz.prog) (T:=3) (by simp) l1;have hl2:=iO (P:=Tryz.prog) (T:=3) (by simp) l2;rw [hq1,hq2,Y1,Y1,hJ,cn l1,hJ,cn l2] at hsn;simp only [aaL] at hsn;generalize av[q1]=x1 at *
    generalize av[q2]=x2 at *
    refine aaf (by simp [hy] <;> omega) ?_
    by_cases hS0:S=[]
    ·have hB:sB S=.bk:=if_pos hS0;have hl0:S.length=0:=by rw [hS0];rfl
     refine aaq mixed (by kernel_rfl) rfl ?_;simp [hxs,hq1,hq2,l1',l2',hl1,hl2,Xl,RU,jl,keyOf,aj,hB,hl0,-aB];refine⟨by kernel_rfl,?_⟩
     repeat refine ah ?_
     apply hK3;refine aae ?_;simp [hwj];refine⟨j+1,?_,by omega,by omega⟩;rw [hsn,hS0];exact IQ 5 6 7 8 9 10 21 _ rfl (by decide) rfl rfl hz rfl rfl rfl (by simp [gK]) (fun g=>rfl) (fun g=>rfl) (fun g=>eK _ g id) (fun g=>dN 3 c 0 g) (fun g=>dN 3 c 1 g) (fun g=>dN 3 c 2 g) (fun g=>⟨true,_,rfl,rfl,id⟩) rfl (by simp [gK])
    ·have hB:sB S=.cells true false 69 (Gh S):=if_neg hS0;refine aaq mixed (by kernel_rfl) rfl ?_;simp [hxs,hq1,hq2,l1',l2',hl1,hl2,Xl,RU,jl,keyOf,aj,hB,ND,-aB]
     repeat refine ah ?_
     refine⟨by kernel_rfl,?_⟩
     repeat refine ah ?_
     apply hK3;refine aae ?_;simp [hwj];refine⟨j+1,?_,by omega,by omega⟩;rw [hsn];exact IQ 5 6 7 8 9 10 21 _ rfl (by decide) rfl rfl hz rfl rfl rfl (by simp [gK]) (fun g=>rfl) (fun g=>rfl) (fun g=>eK _ g id) (fun g=>dN 3 c 0 g) (fun g=>dN 3 c 1 g) (fun g=>dN 3 c 2 g) (fun g=>by show (LB.cells true false 69 (Gh S++Gh [(x1,x2)])).like (sB (S++[(x1,x2)])) g;rw [← MX];have e:sB (S++[(x1,x2)])=.cells true false 69 (Gh (S++[(x1,x2)])):=if_neg (by simp);rw [← e];exact He _ g) rfl (by simp [gK])
   ·rw [if_neg hy] at hsn;refine aah (by simp [hy] <;> omega) (aac (hK3 _ _ (aae ?_)));simp [hwj];refine⟨j+1,?_,by omega,by omega⟩;rw [hsn];exact IQ 5 6 7 8 9 10 11 _ rfl (by decide) rfl rfl hz rfl rfl rfl (by simp [gK]) (fun g=>rfl) (fun g=>rfl) (fun g=>eK _ g id) (fun g=>dN 3 c 0 g) (fun g=>dN 3 c 1 g) (fun g=>dN 3 c 2 g) (fun g=>He S g) rfl (by simp [gK])
  have hje:j=lf.length:=by omega
  subst hje;refine aaj (aan (hK _ _ ?_));obtain⟨q,hq⟩:∃ q:Nat,p.res=q:=⟨p.res.toNat,by omega⟩
  have hql:q<av.length:=by omega
  have hql':(q:Int)<(av.length:Int):=by omega
  have hlq:=iO (P:=Tryz.prog) (T:=3) (by simp) hql;refine AW.d4 mixed hq hql' hlq @aj.eq_1 ?_;refine AW.d2 mixed @Cn @aj.eq_1 ?_;refine aad (jz.Qu (κ:=0) (k:=1) (off:=0) (own:=true) (fz:=false) (T:=27) (U:=27) (y:=.c (.aI 2 0 av.length 1)) (z:=.c (.d (.int .i64 0))) rfl (by simp) rfl (by rw [YV];exact Cn ..) (by simp) (by simp) (by simp) rfl rfl ?_)
  have hfv:Qt p V lf M=⟨p.f,p.mode,p.ins,(if c.L=[] then none else some (c.L.map Nd.e)),hd,tl,(if S=[] then none else some (S.map zj)),av[q]⟩:=by
   unfold Qt;rw [hS,hhd,htl];simp only [hSt,hq,Y1,hJ,cn hql,aaL]
  rw [hfv];exact Ku p hd tl av[q] 0 (o1:=true) rfl rfl rfl (by omega) (by omega) (by omega)
 refine aab ?_
 by_cases hM0:M=0
 ·have hM0':((M:Nat):Int)=0:=by omega
  refine aaf (by simp [hM0'] <;> omega) ?_;refine aaq mixed (by kernel_rfl) rfl ?_;simp [aj,ht2];refine⟨by kernel_rfl,?_⟩;refine hK' _ _ _ c.L.length c.L.length (by rw [if_pos hM0]) (by rw [if_pos hM0]) (by simp) (by simp) (by simp) rfl
 ·have hM0':¬ ((M:Nat):Int)=0:=by omega
  refine aah (by simp [hM0'] <;> omega) (aac ?_);simp;refine hK' _ _ _ (aS p V lf 1).1.L.length (aS p V lf 2).1.L.length (by rw [if_neg hM0]) (by rw [if_neg hM0]) (by simp) (by simp) (by simp) rfl
theorem xE(hg:p.good) {i:Nat}(hi:i<p.ns):0≤(p.st i).1∧(p.st i).1<p.head∧0≤(p.st i).2∧(p.st i).2<p.tail:=by
 have h:=hg.states i hi;unfold CG at h
 by_cases h1:0≤(p.st i).1∧(p.st i).1<p.head
 ·rw [if_neg (not_not_intro h1)] at h
  by_cases h2:0≤(p.st i).2∧(p.st i).2<p.tail
  ·exact⟨h1.1,h1.2,h2.1,h2.2⟩
  ·rw [if_pos h2] at h;cases h
 ·rw [if_pos h1] at h;cases h
theorem fE:iM p=0↔(p.nf≤6∧p.ni≤6∧p.nn≤64∧p.ns≤4)∧(p.nf≠0∧p.nn≠0∧0≤p.mode∧p.mode≤4)∧(0≤p.head∧p.head≤p.tail∧p.tail≤p.nn)∧(p.ns=0→p.head=p.nn):=by
 unfold iM PD.nf PD.ni PD.nn PD.ns;constructor
 ·intro h
  (repeat' split at h) <;> first|(cases h;done)|exact⟨⟨by omega,by omega,by omega,by omega⟩,⟨by omega,by omega,by omega,by omega⟩,⟨by omega,by omega,by omega⟩,fun h0=>by omega⟩
 ·rintro⟨⟨a1,a2,a3,a4⟩,⟨b1,b2,b3,b4⟩,⟨c1,c2,c3⟩,d⟩;rw [if_neg (by omega),if_neg (by omega),if_neg (by omega),if_neg];rintro⟨h0,h1⟩;exact h1 (d h0)
theorem oY{i:Int}:qT p i n=0↔(1≤n.op∧n.op≤15)∧kY n=true∧(0≤n.f∧n.f<p.nf)∧(n.op=1→0≤n.a∧n.a<p.ni)∧(n.op=1→(p.Bg n.a.toNat).f=n.f)∧(n.op=2→¬ i<p.head∧0≤n.a∧n.a<p.ns)∧(n.op=3→j7 n.v=0)∧(n.op≠3→(bG n).all (gF p i)=true):=by
 unfold qT
 by_cases c1:1≤n.op∧n.op≤15
 rotate_left
 ·rw [if_pos c1];exact⟨fun h=>(by cases h),fun h=>absurd h.1 c1⟩
 rw [if_neg (not_not_intro c1)]
 by_cases c2:kY n=false
 ·rw [if_pos c2];exact⟨fun h=>(by cases h),fun h=>(by rw [h.2.1] at c2;cases c2)⟩
 rw [if_neg c2];have c2':kY n=true:=by simpa using c2
 by_cases c3:0≤n.f∧n.f<p.nf
 rotate_left
 ·rw [if_pos c3];exact⟨fun h=>(by cases h),fun h=>absurd h.2.2.1 c3⟩
 rw [if_neg (not_not_intro c3)]
 by_cases c4:n.op=1∧¬ (0≤n.a∧n.a<p.ni)
 ·rw [if_pos c4];exact⟨fun h=>(by cases h),fun h=>absurd (h.2.2.2.1 c4.1) c4.2⟩
 rw [if_neg c4]
 by_cases c5:n.op=1∧(p.Bg n.a.toNat).f≠n.f
 ·rw [if_pos c5];exact⟨fun h=>(by cases h),fun h=>absurd (h.2.2.2.2.1 c5.1) c5.2⟩
 rw [if_neg c5]
 by_cases c6:n.op=2∧(i<p.head∨¬ (0≤n.a∧n.a<p.ns))
 ·rw [if_pos c6];refine⟨fun h=>(by cases h),fun h=>?_⟩;have:=h.2.2.2.2.2.1 c6.1;rcases c6.2 with q|q
  ·exact absurd q this.1
  ·exact absurd this.2 q
 rw [if_neg c6];have d4:n.op=1→0≤n.a∧n.a<p.ni:=fun h=>Zz fun q=>c4 ⟨h,q⟩
 have d5:n.op=1→(p.Bg n.a.toNat).f=n.f:=fun h=>Zz fun q=>c5 ⟨h,q⟩
 have d6:n.op=2→¬ i<p.head∧0≤n.a∧n.a<p.ns:=fun h=>⟨fun q=>c6 ⟨h,.inl q⟩,Zz fun q=>c6 ⟨h,.inr q⟩⟩
 by_cases c7:n.op=3
 ·rw [if_pos c7];exact⟨fun h=>⟨c1,c2',c3,d4,d5,d6,fun _=>h,fun q=>absurd c7 q⟩,fun h=>h.2.2.2.2.2.2.1 c7⟩
 rw [if_neg c7]
 cases hk:(bG n).all (gF p i) with
 | true=>exact⟨fun _=>⟨c1,c2',c3,d4,d5,d6,fun q=>absurd q c7,fun _=>rfl⟩,fun _=>(by simp)⟩
 | false=>exact⟨fun h=>(by simp at h),fun h=>(by have:=h.2.2.2.2.2.2.2 c7;cases this)⟩
structure Yn (p:PD) (j:Int) (n:Nd):Prop where
 op:1≤n.op∧n.op≤15
 ne:n.op≠2
 idle:kY n=true
 fm:0≤n.f∧n.f<p.nf
 Bg:n.op=1→0≤n.a∧n.a<p.ni
 inf:n.op=1→(p.Bg n.a.toNat).f=n.f
 qV:n.op=3→j7 n.v=0
 kids:∀ x∈bG n,0≤x∧x<j
theorem vk(l:List Int) (h:1≤n.op∧n.op≤15):bG (n.dg l)=(bG n).map fun x=>l.getD x.toNat 0:=by
 have e1:bG n=n.l4.take (bz n.op):=if_pos h;have e2:bG (n.dg l)=[nv l (bz n.op) 4 0 n.a,nv l (bz n.op) 4 1 n.b,nv l (bz n.op) 4 2 n.c,nv l (bz n.op) 4 3 n.d].take (bz n.op):=if_pos h;rw [e1,e2];have hk:=mg n.op;generalize bz n.op=kk at *
 unfold Nd.l4;have:kk=0∨kk=1∨kk=2∨kk=3∨kk=4:=by omega
 rcases this with rfl|rfl|rfl|rfl|rfl <;> simp [nv]
theorem LO (op:Int):bz op≤gE op:=by
 unfold gE;split
 ·rename_i h
  rcases h with rfl|rfl <;> simp [bz]
 ·exact aW _
theorem FH (n:Nd)(l:List Int):kY (n.dg l)=kY n:=by
 have e:(n.dg l).l4.drop (gE n.op)=n.l4.drop (gE n.op):=by
  show [nv l (bz n.op) 4 0 n.a,nv l (bz n.op) 4 1 n.b,nv l (bz n.op) 4 2 n.c,nv l (bz n.op) 4 3 n.d].drop (gE n.op)=[n.a,n.b,n.c,n.d].drop (gE n.op);have h1:=LO n.op;have h2:=CW n.op;generalize bz n.op=kk at *
  generalize gE n.op=uu at *
  have hu:uu=0∨uu=1∨uu=2∨uu=3∨uu=4:=by omega
  have nvi:∀ (j:Nat) (x:Int),kk≤j→nv l kk 4 j x=x:=fun j x hj=>by unfold nv;rw [if_neg (by omega)]
  rcases hu with rfl|rfl|rfl|rfl|rfl
  ·simp [nvi 0 n.a (by omega),nvi 1 n.b (by omega),nvi 2 n.c (by omega),nvi 3 n.d (by omega)]
  ·simp [nvi 1 n.b (by omega),nvi 2 n.c (by omega),nvi 3 n.d (by omega)]
  ·simp [nvi 2 n.c (by omega),nvi 3 n.d (by omega)]
  ·simp [nvi 3 n.d (by omega)]
  ·simp
 show (((n.dg l).l4.drop (gE n.op)).all _ && _)=_;rw [e];rfl
theorem Ld{l:List Int}(hop:1≤n.op∧n.op≤15) (h:∀ x∈bG n,l.getD x.toNat 0=x):n.dg l=n:=by
 have e1:bG n=n.l4.take (bz n.op):=if_pos hop;rw [e1] at h;obtain⟨op,a,b,c,d,f,v⟩:=n;show (⟨op,nv l (bz op) 4 0 a,nv l (bz op) 4 1 b,nv l (bz op) 4 2 c,nv l (bz op) 4 3 d,f,v⟩:Nd)=⟨op,a,b,c,d,f,v⟩
 have h:∀ x∈[a,b,c,d].take (bz op),l.getD x.toNat 0=x:=h;have hk:=mg op;generalize bz op=kk at *
 have ha:nv l kk 4 0 a=a:=by
  unfold nv;split
  ·exact h a (by have:0<kk:=by omega
                 obtain⟨k,rfl⟩:∃ k,kk=k+1:=⟨kk - 1,by omega⟩
                 simp)
  ·rfl
 have hb:nv l kk 4 1 b=b:=by
  unfold nv;split
  ·exact h b (by obtain⟨k,rfl⟩:∃ k,kk=k+2:=⟨kk - 2,by omega⟩
                 simp)
  ·rfl
 have hc:nv l kk 4 2 c=c:=by
  unfold nv;split
  ·exact h c (by obtain⟨k,rfl⟩:∃ k,kk=k+3:=⟨kk - 3,by omega⟩
                 simp)
  ·rfl
 have hd:nv l kk 4 3 d=d:=by
  unfold nv;split
  ·exact h d (by obtain⟨k,rfl⟩:∃ k,kk=k+4:=⟨kk - 4,by omega⟩
                 simp)
  ·rfl
 rw [ha,hb,hc,hd]
def qU (n k:Nat):List Int:=(List.range n).map fun j=>if j<k then (j:Int) else 0
theorem wI (n k:Nat):(qU n k).length=n:=by simp [qU]
theorem Kp (n:Nat):qU n 0=List.replicate n 0:=by
 refine aa3 (by simp [qU]) fun i h1 h2=>?_;simp [qU]
theorem Nh {n:Nat}(h:k<n):(qU n k).set k (k:Int)=qU n (k+1):=by
 refine aa3 (by simp [qU]) fun i h1 h2=>?_;simp only [qU,List.getElem_set,sr,abJ]
 by_cases e:k=i
 ·subst e;rw [if_pos rfl,if_pos (by omega)]
 ·rw [if_neg e]
  by_cases q:i<k
  ·rw [if_pos q,if_pos (by omega)]
  ·rw [if_neg q,if_neg (by omega)]
theorem wC {n x:Nat}(h:x<k) (hk:k≤n):(qU n k).getD x 0=x:=by
 rw [hJ,cn (by rw [wI];omega)];simp [qU,h]
structure YH (p:PD) (av:List Int) (L:List Nd):Prop where
 at':∀ x∈av,0≤x∧x<L.length
 nd:∀ j (h:j<L.length),Yn p j L[j]
 pos:0<L.length
theorem yj {p:PD}(hr:0≤p.res∧p.res<p.nn∧fu p p.res≠1):∀ n k,(∀ j,k≤j→j<k+n→∀ i,i<jK p j→eP p j i=0)→dS p n k=(0,0,0)
 | 0,k,_=>if_pos hr
 | n+1,k,h=>by
  have e:dS p (n+1) k=match jH (eP p k) (jK p k) with|some i=>((k:Int)+1,(i:Int),eP p k i)|none=>dS p n (k+1):=rfl
  rw [e,vj fun j hj=>h k (by omega) (by omega) j hj];exact yj hr n (k+1) fun j h1 h2=>h j (by omega) (by omega)
theorem CX(h:p.good):fL p=(0,0,0):=by
 unfold fL;rw [if_neg (not_not_intro h.gen)];refine yj h.res 4 0 fun j _ hj i hi=>?_;have hc:j=0∨j=1∨j=2∨j=3:=by omega
 rcases hc with rfl|rfl|rfl|rfl
 ·exact h.SQ i hi
 ·exact h.ins i hi
 ·exact h.nodes i hi
 ·exact h.states i hi
end Go.Am
namespace Go.Am
open N
variable {p:PD}{c d:CS}{k s a i t j u:Nat}{lf av bv:List Int}{V W:NS}{n m:Nd}{l b:List Bool}{x:Int}
theorem l5 {n:Nd}:∀ {l:List Nd},iQ n l=none↔n ∉ l
 | []=>by simp [iQ]
 | m::l=>by
  unfold iQ
  by_cases h:n=m
  ·simp [h]
  ·rw [if_neg h,Option.map_eq_none_iff,l5,YT];simp [h]
theorem ug {n:Nd}:∀ {l:List Nd}{i:Nat},iQ n l=some i→l[i]?=some n
 | [],_,h=>by cases h
 | m::l,i,h=>by
  unfold iQ at h
  by_cases e:n=m
  ·rw [if_pos e] at h;cases h;rw [e];rfl
  ·rw [if_neg e] at h;obtain⟨j,hj,rfl⟩:=Option.map_eq_some_iff.1 h;rw [List.getElem?_cons_succ];exact ug hj
def CS.sc (c:CS)(k:Nat):Nat:=if k<c.A0.length then 0 else if k<c.A0.length+c.A1.length then 1 else 2
theorem CS.yZ (c:CS):c.L.length=c.A0.length+(c.A1.length+c.A2.length):=by simp [CS.L]
theorem CS.QK(h:c.A0[k]?=some n):c.L[k]?=some n∧c.sc k=0:=by
 obtain⟨hk,-⟩:=List.getElem?_eq_some_iff.1 h;exact⟨by unfold CS.L;rw [ZQ hk];exact h,if_pos hk⟩
theorem CS.M7(hs:s<3) (h:(c.sec s)[k]?=some n):c.L[c.off s+k]?=some n∧c.sc (c.off s+k)=s:=by
 obtain⟨hk,-⟩:=List.getElem?_eq_some_iff.1 h;obtain rfl|rfl|rfl:s=0∨s=1∨s=2:=by omega
 ·rw [show c.off 0+k=k from Y5 k];exact CS.QK h
 ·have h':c.A1[k]?=some n:=h;have hk':k<c.A1.length:=hk;show c.L[c.A0.length+k]?=_∧c.sc (c.A0.length+k)=_;refine⟨?_,by unfold CS.sc;rw [if_neg (by omega),if_pos (by omega)]⟩;unfold CS.L;rw [Zf (by omega),ZE,ZQ hk'];exact h'
 ·have h':c.A2[k]?=some n:=h;show c.L[c.A0.length+c.A1.length+k]?=_∧c.sc (c.A0.length+c.A1.length+k)=_;refine⟨?_,by unfold CS.sc;rw [if_neg (by omega),if_neg (by omega)]⟩;unfold CS.L;rw [ZC,Zf (by omega),ZE,Zf (by omega),ZE];exact h'
theorem CS.G8(h:c.L[k]?=some n):c.sc k<3∧c.off (c.sc k)≤k∧(c.sec (c.sc k))[k - c.off (c.sc k)]?=some n:=by
 have hk:k<c.L.length:=(List.getElem?_eq_some_iff.1 h).1;rw [CS.yZ] at hk;unfold CS.L at h;unfold CS.sc
 by_cases h0:k<c.A0.length
 ·rw [if_pos h0];rw [ZQ h0] at h;exact⟨by omega,Y4 _,h⟩
 ·rw [if_neg h0];rw [Zf (by omega)] at h
  by_cases h1:k<c.A0.length+c.A1.length
  ·rw [if_pos h1];rw [ZQ (by omega)] at h;exact⟨by omega,(by omega:c.A0.length≤k),h⟩
  ·rw [if_neg h1];rw [Zf (by omega)] at h;refine⟨by omega,(by omega:c.A0.length+c.A1.length≤k),?_⟩;show c.A2[k - (c.A0.length+c.A1.length)]?=_;rw [← Nat.sub_sub];exact h
theorem CS.Ia(hs:s<3) (h:c.find s n=some k):c.L[k]?=some n∧(c.sc k=0∨c.sc k=s):=by
 unfold CS.find at h
 cases e:iQ n (c.sec s) with
 | none=>
  rw [e] at h;have:=CS.QK (ug h);exact⟨this.1,.inl this.2⟩
 | some i=>
  rw [e] at h
  cases h
  have:=CS.M7 hs (ug e);exact⟨this.1,.inr this.2⟩
theorem CS.Ab:c.find s n=none↔n ∉ c.sec s∧n ∉ c.A0:=by
 unfold CS.find
 cases e:iQ n (c.sec s) with
 | none=>exact⟨fun h=>⟨l5.1 e,l5.1 h⟩,fun h=>l5.2 h.2⟩
 | some i=>
  refine⟨fun h=>(by cases h),fun h=>?_⟩;rw [l5.2 h.1] at e;cases e
def CS.fH (c:CS)(s:Nat)(l:List Nd):CS:=
 match s with
 | 0=>⟨c.A0++l,c.A1,c.A2⟩
 | 1=>⟨c.A0,c.A1++l,c.A2⟩
 | _=>⟨c.A0,c.A1,c.A2++l⟩
theorem CS.add_eq (c:CS)(s:Nat)(n:Nd):c.add s n=c.fH s [n]:=by rcases s with _|_|s <;> rfl
theorem CS.J8 (c:CS)(s:Nat):c.fH s []=c:=by rcases s with _|_|s <;> simp [CS.fH]
theorem CS.DE (c:CS)(s:Nat)(l:List Nd)(n:Nd):(c.fH s l).add s n=c.fH s (l++[n]):=by rcases s with _|_|s <;> simp [CS.fH,CS.add]
theorem CS.Dw (c:CS)(s:Nat)(l:List Nd):(c.fH s l).sec s=c.sec s++l:=by rcases s with _|_|s <;> rfl
theorem CS.HC (c:CS)(hs:1≤s) (l:List Nd):(c.fH s l).A0=c.A0:=by rcases s with _|_|s <;> first|rfl|omega
theorem CS.pG(hs:s<3) (h:c.upto s) (l:List Nd):(c.fH s l).upto s∧(c.fH s l).L=c.L++l∧(∀ k,k<c.L.length→(c.fH s l).sc k=c.sc k)∧(∀ k,c.L.length≤k→k<c.L.length+l.length→(c.fH s l).sc k=s):=by
 obtain⟨A,B,D⟩:=c;obtain⟨h1,h2⟩:=h;obtain rfl|rfl|rfl:s=0∨s=1∨s=2:=by omega
 ·have e1:B=[]:=h1 rfl;have e2:D=[]:=h2 (by omega);subst e1;subst e2;refine⟨⟨fun _=>rfl,fun _=>rfl⟩,by simp [CS.fH,CS.L],fun k hk=>?_,fun k h3 h4=>?_⟩ <;> simp only [CS.yZ,CS.fH,CS.sc,YY,aaX] at * <;> (repeat' split) <;> omega
 ·have e2:D=[]:=h2 (by omega);subst e2;refine⟨⟨fun h=>by omega,fun _=>rfl⟩,by simp [CS.fH,CS.L],fun k hk=>?_,fun k h3 h4=>?_⟩ <;> simp only [CS.yZ,CS.fH,CS.sc,YY,aaX] at * <;> (repeat' split) <;> omega
 ·refine⟨⟨fun h=>by omega,fun h=>by omega⟩,by simp [CS.fH,CS.L],fun k hk=>?_,fun k h3 h4=>?_⟩ <;> simp only [CS.yZ,CS.fH,CS.sc,YY] at * <;> (repeat' split) <;> omega
def CS.nd (c:CS):Prop:=(c.A0++c.A1).Nodup∧(c.A0++c.A2).Nodup
theorem CS.GB(hs:s<3) (h:c.upto s) (hn:c.nd) {l:List Nd}(hl:l.Nodup) (hd:∀ x∈l,x ∉ c.sec s∧x ∉ c.A0):(c.fH s l).nd:=by
 obtain⟨A,B,D⟩:=c;obtain⟨h1,h2⟩:=h;obtain⟨n1,n2⟩:=hn;obtain rfl|rfl|rfl:s=0∨s=1∨s=2:=by omega
 ·have e1:B=[]:=h1 rfl;have e2:D=[]:=h2 (by omega);subst e1;subst e2
  have:(A++l).Nodup:=by
   simp only [Zr] at n1;exact List.nodup_append.2 ⟨n1,hl,fun x hx y hy e=>(hd y hy).2 (e ▸ hx)⟩
  constructor <;> simpa [CS.fH] using this
 ·refine⟨?_,n2⟩;show (A++(B++l)).Nodup;rw [← YZ];exact List.nodup_append.2 ⟨n1,hl,fun x hx y hy e=>(List.mem_append.1 hx).elim (fun h=>(hd y hy).2 (e ▸ h)) fun h=>(hd y hy).1 (e ▸ h)⟩
 ·refine⟨n1,?_⟩;show (A++(D++l)).Nodup;rw [← YZ];exact List.nodup_append.2 ⟨n2,hl,fun x hx y hy e=>(List.mem_append.1 hx).elim (fun h=>(hd y hy).2 (e ▸ h)) fun h=>(hd y hy).1 (e ▸ h)⟩
theorem CS.sW(h:n ∉ c.sec s∧n ∉ c.A0):c.put s n=(c.L.length,c.fH s [n]):=by
 unfold CS.put;rw [CS.Ab.2 h,← CS.add_eq]
instance decIn {l:List Bool}{k:Nat}:Decidable (cP l k):=inferInstanceAs (Decidable (l.getD k false=true))
theorem tO:∀ (l:List Bool) (k a:Nat),a<l.length→(aN l k).getD a 0=if cP l a then ((k+(l.take a).count true:Nat):Int) else -1
 | [],_,_,h=>by cases h
 | true::l,k,0,_=>by rw [if_pos (show cP (true::l) 0 from rfl)];simp [aN]
 | false::l,k,0,_=>by rw [if_neg (show ¬ cP (false::l) 0 from fun h=>by cases h)];simp [aN]
 | true::l,k,a+1,h=>by
  have:=tO l (k+1) a (by simpa using h);show (aN l (k+1)).getD a 0=_;rw [this]
  by_cases c:cP l a
  ·rw [if_pos c,if_pos (show cP (true::l) (a+1) from c),List.take_succ_cons,aaQ];simp;omega
  ·rw [if_neg c,if_neg (show ¬ cP (true::l) (a+1) from c)]
 | false::l,k,a+1,h=>by
  have:=tO l k a (by simpa using h);show (aN l k).getD a 0=_;rw [this]
  by_cases c:cP l a
  ·rw [if_pos c,if_pos (show cP (false::l) (a+1) from c),List.take_succ_cons,aaQ];simp
  ·rw [if_neg c,if_neg (show ¬ cP (false::l) (a+1) from c)]
theorem Mx(h:a<l.length):cP l a↔l[a]=true:=by
 unfold cP;rw [hJ,cn h];rfl
theorem xW(h:a<l.length):(l.take (a+1)).count true=(l.take a).count true+if cP l a then 1 else 0:=by
 rw [abj,cn h,List.count_append]
 by_cases c:cP l a
 ·rw [if_pos c,(Mx h).1 c];rfl
 ·rw [if_neg c]
  have e:l[a]=false:=by
   cases hb:l[a] with
   | true=>exact absurd ((Mx h).2 hb) c
   | false=>rfl
  rw [e];rfl
theorem xQ (l:List Bool){b:Nat}(h:a≤b):(l.take a).count true≤(l.take b).count true:=by
 obtain⟨d,rfl⟩:=Nat.exists_eq_add_of_le h;rw [List.take_add,List.count_append];omega
structure LF (b:List Bool) (lf:List Int):Prop where
 len:lf.length=b.length
 get:∀ a,a<b.length→lf.getD a 0=if cP b a then (((b.take a).count true:Nat):Int) else -1
theorem dI (b:List Bool):LF b (aN b 0):=⟨jf b 0,fun a h=>by rw [tO b 0 a h,Y5]⟩
theorem LF.iff(h:LF b lf)(ha:a<b.length):0≤lf.getD a 0↔cP b a:=by
 rw [h.get a ha];split <;> simp_all
theorem LF.inj {b:List Bool}{lf:List Int}(h:LF b lf) {a a':Nat}(ha:a<b.length) (ha':a'<b.length) (h0:0≤lf.getD a 0) (e:lf.getD a 0=lf.getD a' 0):a=a':=by
 have i1:=(h.iff ha).1 h0;have i2:=(h.iff ha').1 (by omega);rw [h.get a ha,h.get a' ha',if_pos i1,if_pos i2] at e;have s1:=xW ha;have s2:=xW ha';rw [if_pos i1] at s1;rw [if_pos i2] at s2;rcases abO a a' with g|g|g
 ·have:=xQ b (show a+1≤a' by omega);omega
 ·exact g
 ·have:=xQ b (show a'+1≤a by omega);omega
def CE {α:Type}(f:Nat→α) (lf:List Int):Nat→List α
 | 0=>[]
 | j+1=>if 0≤lf.getD j 0 then CE f lf j++[f j] else CE f lf j
theorem wS {α:Type}(f:Nat→α) {b:List Bool}{lf:List Int}(h:LF b lf):∀ j,j≤b.length→(CE f lf j).length=(b.take j).count true
 | 0,_=>by simp [CE]
 | j+1,hj=>by
  have ih:=wS f h j (by omega);have hi:=h.iff (a:=j) (by omega);rw [xW (by omega),CE]
  by_cases c:cP b j
  ·rw [if_pos (hi.2 c),if_pos c,YY,ih];rfl
  ·rw [if_neg (fun q=>c (hi.1 q)),if_neg c,ih];rfl
theorem m9 {α:Type}(f:Nat→α) {b:List Bool}{lf:List Int}(h:LF b lf):∀ j,j≤b.length→∀ (k:Nat) (x:α),(CE f lf j)[k]?=some x↔∃ a,a<j∧lf.getD a 0=(k:Int)∧x=f a
 | 0,_,k,x=>by simp [CE]
 | j+1,hj,k,x=>by
  have ih:=m9 f h j (by omega) k x;have hl:=wS f h j (by omega);have hi:=h.iff (a:=j) (by omega);have hg:=h.get j (by omega);rw [CE]
  by_cases c:cP b j
  ·rw [if_pos (hi.2 c)];rw [if_pos c] at hg
   by_cases hk:k<(CE f lf j).length
   ·rw [ZQ hk,ih];constructor
    ·rintro⟨a,h1,h2⟩;exact⟨a,by omega,h2⟩
    ·rintro⟨a,h1,h2,h3⟩;refine⟨a,?_,h2,h3⟩;rcases Z7 a j with g|g
     ·exact g
     ·have:a=j:=by omega
      subst this;omega
   ·rw [Zf (by omega)]
    by_cases hk2:k=(CE f lf j).length
    ·subst hk2;simp only [ZJ,aaW,ai];constructor
     ·rintro rfl;exact⟨j,by omega,by omega,rfl⟩
     ·rintro⟨a,h1,h2,h3⟩;have:a=j:=h.inj (by omega) (by omega) (by omega) (by omega);rw [h3,this]
    ·rw [ZU (by simp;omega)];constructor
     ·intro h;cases h
     ·rintro⟨a,h1,h2,h3⟩;have g1:=h.get a (by omega);split at g1
      ·have:=xQ b (show a≤j by omega);omega
      ·omega
  ·have hn:¬ 0≤lf.getD j 0:=fun q=>c (hi.1 q)
   rw [if_neg hn,ih];constructor
   ·rintro⟨a,h1,h2⟩;exact⟨a,by omega,h2⟩
   ·rintro⟨a,h1,h2,h3⟩;refine⟨a,?_,h2,h3⟩;rcases Z7 a j with g|g
    ·exact g
    ·have:a=j:=by omega
     subst this;omega
theorem HR {α:Type}(f:Nat→α)(h:LF b lf)(hj:j≤b.length) {x:α}(hx:x∈CE f lf j):∃ a,a<j∧0≤lf.getD a 0∧x=f a:=by
 obtain⟨k,hk⟩:=List.mem_iff_getElem?.1 hx;obtain⟨a,h1,h2,h3⟩:=(m9 f h j hj k x).1 hk;exact⟨a,h1,by omega,h3⟩
theorem GL (p:PD)(av lf:List Int):∀ j,mb p av lf j=CE (fun j=>(av.getD (p.st j).1.toNat 0,av.getD (p.st j).2.toNat 0)) lf j
 | 0=>rfl
 | j+1=>by rw [mb,CE,GL p av lf j]
abbrev vX (p:PD)(lf:List Int)(j:Nat):List Nd:=CE (fun j=>iP p j (lf.getD j 0)) lf j
theorem Dk(h:LF b lf)(hj:j<b.length) (h0:0≤lf.getD j 0):iP p j (lf.getD j 0) ∉ vX p lf j:=fun hx=>by
 obtain⟨a,h1,h2,h3⟩:=HR _ h (by omega) hx;have e:lf.getD j 0=lf.getD a 0:=congrArg Nd.a h3;have:=h.inj hj (by omega) h0 e;omega
theorem G2 {p:PD}{b:List Bool}{lf:List Int}(h:LF b lf):∀ j,j≤b.length→(vX p lf j).Nodup
 | 0,_=>abB
 | j+1,hj=>by
  have ih:=G2 (p:=p) h j (by omega);show (if _ then _ else _:List Nd).Nodup;split
  ·rename_i h0
   refine List.nodup_append.2 ⟨ih,by simp,fun x hx y hy e=>?_⟩;rw [ZW] at hy;subst e;subst hy;exact Dk h (by omega) h0 hx
  ·exact ih
theorem AY {p:PD}{b:List Bool}{lf:List Int}(h:LF b lf) {t:Nat}(ht:t=1∨t=2) {c:CS}(hc:c.upto t) (hs:c.sec t=[]) (h2:∀ x∈c.A0,x.op≠2):∀ j,j≤b.length→lI p lf t c j=c.fH t (vX p lf j)
 | 0,_=>(CS.J8 c t).symm
 | j+1,hj=>by
  rw [lI,AY h ht hc hs h2 j (by omega)];show _=c.fH t (if _ then _ else _)
  by_cases h0:0≤lf.getD j 0
  ·rw [if_pos h0,if_pos h0,CS.sW]
   ·rw [← CS.add_eq,CS.DE]
   ·rw [CS.Dw,hs,Zt,CS.HC c (by omega)];exact⟨Dk h (by omega) h0,fun hx=>h2 _ hx rfl⟩
  ·rw [if_neg h0,if_neg h0]
def EO (p:PD):Nat→List Nd
 | 0=>[]
 | j+1=>EO p j++[jq p j]
theorem wV (p:PD):∀ j,(EO p j).length=j
 | 0=>rfl
 | j+1=>by rw [EO,YY,wV p j];rfl
theorem wT (p:PD):∀ j k (x:Nd),(EO p j)[k]?=some x↔k<j∧x=jq p k
 | 0,k,x=>by simp [EO]
 | j+1,k,x=>by
  have ih:=wT p j k x;have hl:=wV p j;rw [EO]
  by_cases h:k<j
  ·rw [ZQ (by omega),ih];exact⟨fun h=>⟨by omega,h.2⟩,fun g=>⟨h,g.2⟩⟩
  ·rw [Zf (by omega),hl]
   by_cases h2:k=j
   ·subst h2;simp only [ZJ,aaW,ai];exact⟨fun h=>⟨by omega,h.symm⟩,fun g=>g.2.symm⟩
   ·rw [ZU (by simp;omega)];exact⟨fun h=>(by cases h),fun g=>(by omega)⟩
theorem Cg (p:PD)(j:Nat):jq p j ∉ EO p j:=fun hx=>by
 obtain⟨k,hk⟩:=List.mem_iff_getElem?.1 hx;obtain⟨h1,h2⟩:=(wT p j k _).1 hk;have:(j:Int)=k:=congrArg Nd.a h2;omega
theorem Gr (p:PD):∀ j,(EO p j).Nodup
 | 0=>abB
 | j+1=>by
  refine List.nodup_append.2 ⟨Gr p j,by simp,fun x hx y hy e=>?_⟩;rw [ZW] at hy;subst e;subst hy;exact Cg p j hx
theorem wR (p:PD):∀ j,oq p ⟨[],[],[]⟩ j=⟨EO p j,[],[]⟩
 | 0=>rfl
 | j+1=>by
  rw [oq,wR p j,CS.sW ⟨Cg p j,Cg p j⟩];rfl
theorem oa{l m:List Int}(hop:1≤n.op∧n.op≤15) (h:∀ x∈bG n,l.getD x.toNat 0=m.getD x.toNat 0):n.dg l=n.dg m:=by
 have e1:bG n=n.l4.take (bz n.op):=if_pos hop;rw [e1] at h;obtain⟨op,a,b,c,d,f,v⟩:=n;show (⟨op,nv l (bz op) 4 0 a,nv l (bz op) 4 1 b,nv l (bz op) 4 2 c,nv l (bz op) 4 3 d,f,v⟩:Nd)=⟨op,nv m (bz op) 4 0 a,nv m (bz op) 4 1 b,nv m (bz op) 4 2 c,nv m (bz op) 4 3 d,f,v⟩
 have h:∀ x∈[a,b,c,d].take (bz op),l.getD x.toNat 0=m.getD x.toNat 0:=h;generalize bz op=kk at *
 have key:∀ (j:Nat) (x:Int),([a,b,c,d])[j]?=some x→nv l kk 4 j x=nv m kk 4 j x:=fun j x hj=>by
  unfold nv;split
  ·rename_i hh
   exact h x (List.mem_iff_getElem?.2 ⟨j,by rw [aaT,if_pos hh.2];exact hj⟩)
  ·rfl
 rw [key 0 a rfl,key 1 b rfl,key 2 c rfl,key 3 d rfl]
theorem Hy(hg:p.good)(hi:i<p.nn)(hx:x∈bG (p.nd i)):fu p x=0∨fu p x=fu p i:=by
 obtain⟨h1,-,-,-,-,-,-,h8⟩:=oY.1 (hg.nodes i hi)
 by_cases h3:(p.nd i).op=3
 ·unfold bG at hx;rw [if_pos h1,h3] at hx
  cases hx
 ·have:=List.all_eq_true.1 (h8 h3) x hx;unfold gF at this;simp only [cy,Zp,decide_eq_true_eq] at this;exact this.2
theorem OM(hg:p.good)(ha:a<p.ns):(p.nd (p.st a).2.toNat).f=(p.nd (p.st a).1.toNat).f∧∀ j,j<p.nn→(p.nd j).op=2→(p.nd j).a=a→(p.nd j).f=(p.nd (p.st a).1.toNat).f:=by
 have h:=hg.states a ha;obtain⟨r1,r2,r3,r4⟩:=xE hg ha;unfold CG at h;rw [if_neg (not_not_intro ⟨r1,r2⟩),if_neg (not_not_intro ⟨r3,r4⟩)] at h
 by_cases c1:(p.nd (p.st a).2.toNat).f≠(p.nd (p.st a).1.toNat).f
 ·rw [if_pos c1] at h;cases h
 rw [if_neg c1] at h;refine⟨Classical.not_not.1 c1,fun j hj h2 h3=>?_⟩
 by_cases c2:(List.range p.nn).any (fun j=>lH a (p.nd (p.st a).1.toNat).f (p.nd j))=true
 ·rw [if_pos c2] at h;cases h
 ·refine Zz fun hf=>c2 (List.any_eq_true.2 ⟨j,List.mem_range.2 hj,?_⟩)
  unfold lH;rw [decide_eq_true h2,decide_eq_true h3,decide_eq_false hf];rfl
theorem QH{i:Int}{s:Int × Int}(h1:0≤s.1∧s.1<p.head) (h2:0≤s.2∧s.2<p.tail) (h3:(p.nd s.2.toNat).f=(p.nd s.1.toNat).f) (h4:∀ j,j<p.nn→(p.nd j).op=2→(p.nd j).a=i→(p.nd j).f=(p.nd s.1.toNat).f):CG p i s=0:=by
 unfold CG;rw [if_neg (not_not_intro h1),if_neg (not_not_intro h2),if_neg (not_not_intro h3),if_neg];intro h;obtain⟨j,hj,h⟩:=List.any_eq_true.1 h;unfold lH at h;simp only [cy,decide_eq_true_eq,Zd,decide_eq_false_iff_not] at h;exact h.2 (h4 j (List.mem_range.1 hj) h.1.1 h.1.2)
theorem Vg{x:In}(h:ER p x=0):0≤x.f∧x.f<p.nf:=by
 unfold ER at h
 by_cases c:0≤x.f∧x.f<p.nf
 ·exact c
 ·rw [if_pos c] at h;cases h
theorem rB(hg:p.good)(ht:t<3) (h1:ak p t≤i) (h2:i<ak p (t+1)):fu p i=t:=by
 obtain⟨_,_,⟨c1,c2,c3⟩,_⟩:=fE.1 hg.gen;unfold fu;obtain rfl|rfl|rfl:t=0∨t=1∨t=2:=by omega
 ·simp only [ak] at h1 h2;rw [if_pos (by omega)];rfl
 ·simp only [ak] at h1 h2;rw [if_neg (by omega),if_pos (by omega)];rfl
 ·simp only [ak] at h1 h2;rw [if_neg (by omega),if_neg (by omega)];rfl
theorem mm.Vy(h:mm p V)(hi:i<p.nn) (hv:cP V.1 i)(hx:x∈bG (p.nd i)):cP V.1 x.toNat:=
 (h.cl i hi hv).1 _ (List.mem_append.2 (.inl (List.mem_map.2 ⟨x,hx,rfl⟩)))
theorem mm.st(h:mm p V) (hg:p.good)(ha:cP V.2 a):a<p.ns∧cP V.1 (p.st a).1.toNat∧cP V.1 (p.st a).2.toNat:=by
 obtain⟨x,h1,h2,h3,rfl⟩:=h.m2 a ha;have h4:=(h.cl x h1 h2).1;have e:∀ k∈[(p.st (p.nd x).a.toNat).1.toNat,(p.st (p.nd x).a.toNat).2.toNat],cP V.1 k:=fun k hk=>h4 k (by unfold MB;rw [if_pos h3];exact List.mem_append.2 (.inr hk))
 exact⟨by have:=(ic hg h1).2.1 h3;omega,e _ (by simp),e _ (by simp)⟩
structure CS.Ex (c d:CS):Prop where
 get:∀ k m,c.L[k]?=some m→d.L[k]?=some m∧d.sc k=c.sc k∧d.off (c.sc k)=c.off (c.sc k)
theorem CS.Ex.refl (c:CS):c.Ex c:=⟨fun _ _ h=>⟨h,rfl,rfl⟩⟩
theorem CS.l7 (c:CS)(hs:s<3) (l:List Nd)(hu:u≤s):(c.fH s l).off u=c.off u:=by
 obtain rfl|rfl|rfl:s=0∨s=1∨s=2:=by omega
 ·obtain rfl:u=0:=by omega
  rfl
 ·obtain rfl|rfl:u=0∨u=1:=by omega
  all_goals rfl
 ·obtain rfl|rfl|rfl:u=0∨u=1∨u=2:=by omega
  all_goals rfl
theorem CS.SN(h:c.upto s)(hk:k<c.L.length):c.sc k≤s:=by
 rw [CS.yZ] at hk;unfold CS.sc;split
 ·omega
 ·split
  ·rcases abK s with h0|h0
   ·have:=congrArg List.length (h.1 h0);have h2:=congrArg List.length (h.2 (by omega));simp only [aaX] at this h2;omega
   ·omega
  ·by_cases h1:s≤1
   ·have:=congrArg List.length (h.2 h1);simp only [aaX] at this;omega
   ·omega
theorem CS.HE(hs:s<3) (h:c.upto s) (l:List Nd):c.Ex (c.fH s l):=by
 obtain⟨-,h2,h3,-⟩:=CS.pG hs h l;refine⟨fun k m hk=>?_⟩;have hl:=(List.getElem?_eq_some_iff.1 hk).1;exact⟨by rw [h2,ZQ hl];exact hk,h3 k hl,CS.l7 c hs l (CS.SN h hl)⟩
def RA (p:PD)(lf:List Int)(c:CS)(av:List Int)(i:Nat):Prop:=
 ∃ (k:Nat) (m:Nd),av.getD i 0=(k:Int)∧c.L[k]?=some m∧(c.sc k=0∨(c.sc k:Int)=fu p i)∧m.f=(p.nd i).f ∧
  ((p.nd i).op=1→m=jq p (p.nd i).a.toNat∧k=(p.nd i).a.toNat)∧((p.nd i).op=2→m=iP p (p.nd i).a.toNat (lf.getD (p.nd i).a.toNat 0))∧((p.nd i).op≠1→(p.nd i).op≠2→m=(p.nd i).dg av)
def LZ (p:PD)(V:NS)(lf:List Int)(n:Nat)(c:CS)(av:List Int)(k:Nat)(m:Nd):Prop:=
 (k<p.ni∧m=jq p k∧c.sc k=0) ∨
 (∃ a,a<p.ns∧0≤lf.getD a 0∧m=iP p a (lf.getD a 0)∧1≤c.sc k∧(k:Int)=c.off (c.sc k)+lf.getD a 0) ∨
 (∃ i,i<n∧cP V.1 i∧(p.nd i).op≠1∧(p.nd i).op≠2∧av.getD i 0=(k:Int)∧m=(p.nd i).dg av∧(∀ x∈bG m,∃ y:Nat,x=y∧y<k∧(c.sc y=0∨c.sc y=c.sc k))∧(c.sc k:Int)=fu p i)
structure CI (p:PD) (V:NS) (lf:List Int) (t n:Nat) (c:CS) (av:List Int):Prop where
 len:av.length=p.nn
 up:c.upto t
 nd:c.nd
 Bg:∀ k,k<p.ni→c.L[k]?=some (jq p k)∧c.sc k=0
 UB:∀ u,1≤u→u≤t→∀ a,a<p.ns→0≤lf.getD a 0→c.L[c.off u+(lf.getD a 0).toNat]?=some (iP p a (lf.getD a 0))∧c.sc (c.off u+(lf.getD a 0).toNat)=u
 ats:∀ i,i<n→cP V.1 i∨(p.nd i).op=1→RA p lf c av i
 pos:∀ k m,c.L[k]?=some m→LZ p V lf n c av k m
theorem RA.mono(hg:p.good){n:Nat}(hi:i<n) (hn:i<p.nn) (ha:∀ j,j<n→bv.getD j 0=av.getD j 0) (hx:c.Ex d) (h:RA p lf c av i):RA p lf d bv i:=by
 obtain⟨k,m,h1,h2,h3,h4,h5,h6,h7⟩:=h;obtain⟨g1,g2,-⟩:=hx.get k m h2;refine⟨k,m,by rw [ha i hi];exact h1,g1,by rw [g2];exact h3,h4,h5,h6,fun n1 n2=>?_⟩;rw [h7 n1 n2];refine oa (ic hg hn).1 fun x hx=>?_;have:=(ic hg hn).2.2 x hx;exact (ha _ (by omega)).symm
theorem LZ.mono(hg:p.good){n n':Nat}(hV:V.1.length=p.nn) (hn:n≤n') (hk:c.L[k]?=some m) (ha:∀ j,j<n→bv.getD j 0=av.getD j 0) (hx:c.Ex d) (h:LZ p V lf n c av k m):LZ p V lf n' d bv k m:=by
 obtain⟨-,g2,g3⟩:=hx.get k m hk;rcases h with ⟨h1,h2,h3⟩|⟨a,h1,h2,h3,h4,h5⟩|⟨i,h1,h2,h3,h4,h5,h6,h7,h8⟩
 ·exact .inl ⟨h1,h2,by rw [g2];exact h3⟩
 ·exact .inr (.inl ⟨a,h1,h2,h3,by rw [g2];exact h4,by rw [g2,g3];exact h5⟩)
 ·have hi:i<p.nn:=hV ▸ h2.lt;refine .inr (.inr ⟨i,by omega,h2,h3,h4,by rw [ha i h1];exact h5,?_,fun x hx'=>?_,by rw [g2];exact h8⟩)
  ·rw [h6];refine oa (ic hg hi).1 fun x hx=>?_;have:=(ic hg hi).2.2 x hx;exact (ha _ (by omega)).symm
  ·obtain⟨y,e1,e2,e3⟩:=h7 x hx';have hkl:=(List.getElem?_eq_some_iff.1 hk).1;obtain⟨-,q2,-⟩:=hx.get y _ (cn (by omega:y<c.L.length));exact⟨y,e1,e2,by rw [q2,g2];exact e3⟩
theorem getD_set_ne {l:List Int}{n:Nat}(x:Int) (h:j≠n):(l.set n x).getD j 0=l.getD j 0:=by
 rw [hJ,hJ,List.getElem?_set_ne (by omega)]
theorem jw {l:List Int}{n:Nat}(x:Int) (h:n<l.length):(l.set n x).getD n 0=x:=by
 rw [hJ,List.getElem?_set_self h];rfl
theorem CI.set(hg:p.good)(hV:mm p V){n:Nat}(h:CI p V lf t n c av) (hn:n<p.nn) (hx:c.Ex d) (hup:d.upto t) (hnd:d.nd)(hat:cP V.1 n∨(p.nd n).op=1→RA p lf d (av.set n x) n)
 (hpos:∀ k m,c.L.length≤k→d.L[k]?=some m→LZ p V lf (n+1) d (av.set n x) k m):CI p V lf t (n+1) d (av.set n x):=by
 have ha:∀ j,j<n→(av.set n x).getD j 0=av.getD j 0:=fun j hj=>getD_set_ne x (by omega)
 refine⟨by rw [aa1];exact h.len,hup,hnd,fun k hk=>?_,fun u h1 h2 a h3 h4=>?_,fun i hi hin=>?_,fun k m hk=>?_⟩
 ·obtain⟨h1,h2⟩:=h.Bg k hk;obtain⟨g1,g2,-⟩:=hx.get _ _ h1;exact⟨g1,g2.trans h2⟩
 ·obtain⟨e1,e2⟩:=h.UB u h1 h2 a h3 h4;obtain⟨g1,g2,g3⟩:=hx.get _ _ e1;rw [e2] at g3;rw [g3];exact⟨g1,g2.trans e2⟩
 ·by_cases e:i=n
  ·subst e;exact hat hin
  ·exact (h.ats i (by omega) hin).mono hg (n:=n) (by omega) (by omega) ha hx
 ·by_cases hkl:k<c.L.length
  ·have e:c.L[k]?=some m:=by
    obtain⟨g1,-,-⟩:=hx.get k _ (cn hkl);rw [cn hkl,← hk,g1]
   exact (h.pos k m e).mono hg hV.len.1 (by omega) e ha hx
  ·exact hpos k m (by omega) hk
theorem KL (p:PD)(V:NS)(lf:List Int)(fst:Nat)(ht:t<3) (c:CS) (av:List Int) (i:Nat)(hu:u≤t):(kL p V lf fst t c av i).2.off u=c.off u:=by
 unfold kL
 (repeat' split) <;> first|rfl|skip
 unfold CS.put;split
 ·rfl
 ·simp only;rw [CS.add_eq];exact CS.l7 c ht _ hu
theorem CI.node(hg:p.good)(hV:mm p V)(hl:LF V.2 lf) {n:Nat}(ht:t<3) (h:CI p V lf t n c av) (hn:n<p.nn) (hs:fu p n=t) :
 CI p V lf t (n+1) (kL p V lf (c.off t) t c av n).2 (av.set n (kL p V lf (c.off t) t c av n).1):=by
 obtain⟨hop,hst,hkd⟩:=ic hg hn;obtain⟨-,-,-,d4,d5,d6,-,-⟩:=oY.1 (hg.nodes n hn);have hln:n<av.length:=by rw [h.len];exact hn
 have hsame:∀ {x:Int},(cP V.1 n∨(p.nd n).op=1→RA p lf c (av.set n x) n)→CI p V lf t (n+1) c (av.set n x):=fun {x} hat=>
  h.set hg hV hn (.refl c) h.up h.nd hat fun k m hk e=>by rw [ZU hk] at e;cases e
 unfold kL
 by_cases c1:(p.nd n).op=1
 ·rw [if_pos c1];refine hsame fun _=>?_;have ha:=d4 c1;obtain⟨e1,e2⟩:=h.Bg (p.nd n).a.toNat (by omega);exact⟨(p.nd n).a.toNat,_,by rw [jw _ hln];omega,e1,.inl e2,d5 c1,fun _=>⟨rfl,rfl⟩,fun q=>absurd q (by omega),fun q=>absurd c1 q⟩
 rw [if_neg c1]
 by_cases c2:(p.nd n).op=2
 ·rw [if_pos c2];have ha:=hst c2;have han:(p.nd n).a.toNat<p.ns:=by omega
  have hlb:V.2.length=p.ns:=hV.len.2
  by_cases c3:lf.getD (p.nd n).a.toNat 0<0
  ·rw [if_pos c3];refine hsame fun hin=>?_;rcases hin with hin|hin
   ·have:=(hl.iff (a:=(p.nd n).a.toNat) (by omega)).2 ((hV.cl n hn hin).2 c2);omega
   ·exact absurd hin c1
  ·rw [if_neg c3];refine hsame fun _=>?_
   have ht1:1≤t:=by
    have:=(d6 c2).1;unfold fu at hs;rw [if_neg this] at hs;split at hs <;> omega
   obtain⟨e1,e2⟩:=h.UB t ht1 (aW _) (p.nd n).a.toNat han (by omega);refine⟨_,_,by rw [jw _ hln];omega,e1,.inr (by rw [e2,hs]),?_,fun q=>absurd q c1,fun _=>rfl,fun _ q=>absurd c2 q⟩;show (p.nd (p.st (p.nd n).a.toNat).1.toNat).f=_;exact ((OM hg han).2 n hn c2 (by omega)).symm
 rw [if_neg c2]
 by_cases c3:V.1.getD n false=false
 ·rw [if_pos c3];refine hsame fun hin=>?_;rcases hin with hin|hin
  ·unfold cP at hin;rw [c3] at hin;cases hin
  ·exact absurd hin c1
 rw [if_neg c3]
 have hin:cP V.1 n:=by
  unfold cP
  cases hb:V.1.getD n false with
  | true=>rfl
  | false=>exact absurd hb c3
 have hren:∀ x:Int,(p.nd n).dg (av.set n x)=(p.nd n).dg av:=fun x=>oa hop fun y hy=>by
  have:=hkd y hy;exact getD_set_ne x (by omega)
 unfold CS.put
 cases hf:c.find t ((p.nd n).dg av) with
 | some k=>
  obtain⟨e1,e2⟩:=CS.Ia ht hf;refine hsame fun _=>⟨k,_,jw _ hln,e1,e2.imp id fun e=>by rw [e,hs],rfl,fun q=>absurd q c1,fun q=>absurd q c2,fun _ _=>(hren _).symm⟩
 | none=>
  simp only;rw [CS.add_eq];have hno:=CS.Ab.1 hf;obtain⟨a1,a2,a3,a4⟩:=CS.pG ht h.up [(p.nd n).dg av]
  have hget:(c.fH t [(p.nd n).dg av]).L[c.L.length]?=some ((p.nd n).dg av):=by
   rw [a2,Zf (aW _),ZJ];rfl
  have hsc:(c.fH t [(p.nd n).dg av]).sc c.L.length=t:=a4 _ (aW _) (by simp);refine h.set hg hV hn (CS.HE ht h.up _) a1 (CS.GB ht h.up h.nd (by simp) fun x hx=>by rw [List.mem_singleton.1 hx];exact hno) (fun _=>?_) fun k m hk hm=>?_
  ·exact⟨c.L.length,_,jw _ hln,hget,.inr (by rw [hsc,hs]),rfl,fun q=>absurd q c1,fun q=>absurd q c2,fun _ _=>(hren _).symm⟩
  ·have hkl:=(List.getElem?_eq_some_iff.1 hm).1;rw [a2,YY] at hkl;obtain rfl:k=c.L.length:=by simp at hkl;omega
   rw [hget] at hm;obtain rfl:=Zs hm;refine .inr (.inr ⟨n,by omega,hin,c1,c2,jw _ hln,(hren _).symm,fun x hx=>?_,by rw [hsc,hs]⟩);rw [vk av hop] at hx;obtain⟨y,hy,rfl⟩:=List.mem_map.1 hx;have hyr:=hkd y hy;obtain⟨k',m',g1,g2,g3,-⟩:=h.ats y.toNat (by omega) (.inl (hV.Vy hn hin hy));have hk':=(List.getElem?_eq_some_iff.1 g2).1;refine⟨k',g1,hk',?_⟩;rw [a3 k' hk',hsc];have hss:=Hy hg hn hy;rw [show ((y.toNat:Nat):Int)=y by omega] at g3;omega
theorem CI.MG(hg:p.good)(hV:mm p V)(hl:LF V.2 lf) {n:Nat}(ht:t+1=1∨t+1=2) (h:CI p V lf t n c av) (he:c.emp (t+1)) :
 CI p V lf (t+1) n (eO p lf (t+1) c) av∧eO p lf (t+1) c=c.fH (t+1) (vX p lf p.ns)∧c.off (t+1)=c.L.length:=by
 have hlb:V.2.length=p.ns:=hV.len.2;have hll:lf.length=p.ns:=hl.len.trans hlb;have hup:=CS.jy he;have ht3:t+1<3:=by omega
 have h2:∀ x∈c.A0,x.op≠2:=fun x hx=>by
  obtain⟨k,hk⟩:=List.mem_iff_getElem?.1 hx;obtain⟨e1,e2⟩:=CS.QK hk;rcases h.pos k x e1 with ⟨-,rfl,-⟩|⟨a,-,-,-,q,-⟩|⟨i,-,-,-,q,-,rfl,-,-⟩
  ·show (1:Int)≠2;decide
  ·omega
  ·exact q
 have e:eO p lf (t+1) c=c.fH (t+1) (vX p lf p.ns):=by
  unfold eO;rw [if_neg (by omega),hll];exact AY hl ht hup (CS.oR ht3 he) h2 p.ns (by omega)
 have hoff:c.off (t+1)=c.L.length:=by
  rw [CS.yZ];obtain⟨e0,e1,e2⟩:=he;rcases ht with q|q
  ·obtain rfl:t=0:=by omega
   have q1:=e1 (by omega);have q2:=e2 (by omega);show c.A0.length=_;rw [q1,q2];rfl
  ·obtain rfl:t=1:=by omega
   have q2:=e2 (by omega);show c.A0.length+c.A1.length=_;rw [q2];simp
 refine⟨?_,e,hoff⟩;rw [e];obtain⟨a1,a2,a3,a4⟩:=CS.pG ht3 hup (vX p lf p.ns);have hx:=CS.HE ht3 hup (vX p lf p.ns);have hof:(c.fH (t+1) (vX p lf p.ns)).off (t+1)=c.L.length:=(CS.l7 c ht3 _ (aW _)).trans hoff;have hns:p.ns≤V.2.length:=by omega
 refine⟨h.len,a1,CS.GB ht3 hup h.nd (G2 hl _ hns) fun x hx=>?_,fun k hk=>?_,fun u h1 h2 a h3 h4=>?_,fun i hi hin=>?_,fun k m hk=>?_⟩
 ·rw [CS.oR ht3 he];obtain⟨a,-,-,rfl⟩:=HR _ hl hns hx;exact⟨by simp,fun q=>h2 _ q rfl⟩
 ·obtain⟨h1,h2⟩:=h.Bg k hk;obtain⟨g1,g2,-⟩:=hx.get _ _ h1;exact⟨g1,g2.trans h2⟩
 ·by_cases hu:u≤t
  ·obtain⟨e1,e2⟩:=h.UB u h1 hu a h3 h4;obtain⟨g1,g2,g3⟩:=hx.get _ _ e1;rw [e2] at g3;rw [g3];exact⟨g1,g2.trans e2⟩
  ·obtain rfl:u=t+1:=by omega
   have hq:=(m9 (fun j=>iP p j (lf.getD j 0)) hl p.ns hns (lf.getD a 0).toNat (iP p a (lf.getD a 0))).2 ⟨a,h3,by omega,rfl⟩;have hql:=(List.getElem?_eq_some_iff.1 hq).1;rw [hof];refine⟨?_,a4 _ (Nat.le_add_right _ _) (Nat.add_lt_add_left hql _)⟩;rw [a2,Zf (by omega),ZE];exact hq
 ·by_cases hin':i<p.nn
  ·exact (h.ats i hi hin).mono hg hi hin' (fun _ _=>rfl) hx
  ·exfalso;rcases hin with q|q
   ·have:=q.lt;rw [hV.len.1] at this;omega
   ·have e:p.nd i=default:=by
     unfold PD.nd;rw [hJ,ZU (by unfold PD.nn at hin';omega)];rfl
    rw [e] at q;exact absurd q (by decide)
 ·by_cases hkl:k<c.L.length
  ·have e:c.L[k]?=some m:=by
    obtain⟨g1,-,-⟩:=hx.get k _ (cn hkl);rw [cn hkl,← hk,g1]
   exact (h.pos k m e).mono hg hV.len.1 (aW _) e (fun _ _=>rfl) hx
  ·have hkk:=(List.getElem?_eq_some_iff.1 hk).1;rw [a2,YY] at hkk;have hsc:=a4 k (by omega) hkk;rw [a2,Zf (by omega)] at hk;obtain⟨a,q1,q2,q3⟩:=(m9 _ hl p.ns hns _ _).1 hk;exact .inr (.inl ⟨a,q1,by omega,q3,by omega,by rw [hsc,hof];omega⟩)
theorem CI.sec(hg:p.good)(hV:mm p V)(hl:LF V.2 lf){s:CS × List Int}(ht:t<3) (h:CI p V lf t (ak p t) s.1 s.2):∀ k,ak p t+k≤ak p (t+1)→ak p (t+1)≤p.nn →
 CI p V lf t (ak p t+k) (fD p V lf (s.1.off t) t s (ak p t) k).1 (fD p V lf (s.1.off t) t s (ak p t) k).2∧∀ u,u≤t→(fD p V lf (s.1.off t) t s (ak p t) k).1.off u=s.1.off u
 | 0,_,_=>⟨h,fun _ _=>rfl⟩
 | k+1,hk,hb=>by
  obtain⟨ih,io⟩:=CI.sec hg hV hl ht h k (by omega) hb;have hs:=rB hg (i:=ak p t+k) ht (by omega) (by omega);have h1:=ih.node hg hV hl ht (by omega) hs;rw [io t (aW _)] at h1;exact⟨h1,fun u hu=>(KL p V lf _ ht _ _ _ hu).trans (io u hu)⟩
theorem CI.start(hg:p.good) (V:NS) (lf:List Int):CI p V lf 0 0 (eO p lf 0 ⟨[],[],[]⟩) (List.replicate p.nn 0):=by
 have e:eO p lf 0 ⟨[],[],[]⟩=⟨EO p p.ni,[],[]⟩:=wR p p.ni;rw [e];have eL:(⟨EO p p.ni,[],[]⟩:CS).L=EO p p.ni:=by simp [CS.L]
 have hs:∀ k,k<p.ni→(⟨EO p p.ni,[],[]⟩:CS).sc k=0:=fun k hk=>if_pos (by rw [wV];exact hk)
 refine⟨by simp,⟨fun _=>rfl,fun _=>rfl⟩,⟨by simpa using Gr p p.ni,by simpa using Gr p p.ni⟩,fun k hk=>⟨by rw [eL];exact (wT p p.ni k _).2 ⟨hk,rfl⟩,hs k hk⟩,fun u h1 h2=>by omega,fun i hi=>by omega,fun k m hk=>?_⟩;rw [eL] at hk;obtain⟨h1,h2⟩:=(wT p p.ni k m).1 hk;exact .inl ⟨h1,h2,hs k h1⟩
theorem uj(hg:p.good):ak p 0=0∧ak p 0≤ak p 1∧ak p 1≤ak p 2∧ak p 2≤ak p 3∧ak p 3=p.nn:=by
 obtain⟨_,_,⟨c1,c2,c3⟩,_⟩:=fE.1 hg.gen;show (0=0∧0≤p.head.toNat∧p.head.toNat≤p.tail.toNat∧p.tail.toNat≤p.nn∧p.nn=p.nn);omega
theorem Gi(hg:p.good)(hV:mm p V)(hl:LF V.2 lf) :
 CI p V lf 2 p.nn (aS p V lf 3).1 (aS p V lf 3).2∧(aS p V lf 1).1.L.length=(aS p V lf 3).1.off 1∧(aS p V lf 2).1.L.length=(aS p V lf 3).1.off 2:=by
 obtain⟨b0,b1,b2,b3,b4⟩:=uj hg;obtain⟨⟨a1,a2,a3,a4⟩,-,⟨c1,c2,c3⟩,-⟩:=fE.1 hg.gen;have hll:lf.length≤4:=by rw [hl.len,hV.len.2];exact a4
 have hE:=fun t ht=>(sS p a3 (by omega) (by omega) a2 V lf hll t ht).1
 have h0:=CI.start hg V lf;have r1:=(CI.sec (t:=0) (s:=(eO p lf 0 (aS p V lf 0).1,(aS p V lf 0).2)) hg hV hl (by omega) (by rw [b0];exact h0) (ak p 1 - ak p 0) (by show _≤ak p 1;omega) (by show ak p 1≤_;omega)).1;rw [show ak p 0+(ak p 1 - ak p 0)=ak p 1 by omega] at r1;have r1:CI p V lf 0 (ak p 1) (aS p V lf 1).1 (aS p V lf 1).2:=r1;obtain⟨s1,t1,o1⟩:=r1.MG hg hV hl (by omega) (hE 1 (by omega));obtain⟨r2,x2⟩:=CI.sec (t:=1) (s:=(eO p lf 1 (aS p V lf 1).1,(aS p V lf 1).2)) hg hV hl (by omega) s1 (ak p 2 - ak p 1) (by show _≤ak p 2;omega) (by show ak p 2≤_;omega);rw [show ak p 1+(ak p 2 - ak p 1)=ak p 2 by omega] at r2
 have oo1:(eO p lf 1 (aS p V lf 1).1).off 1=(aS p V lf 1).1.L.length:=by
  rw [show eO p lf 1 (aS p V lf 1).1=_ from t1,CS.l7 _ (by omega) _ (aW _)];exact o1
 simp only at r2 x2;rw [oo1] at r2 x2;have r2:CI p V lf 1 (ak p 2) (aS p V lf 2).1 (aS p V lf 2).2:=r2;have x21:(aS p V lf 2).1.off 1=_:=x2 1 (by omega);obtain⟨s2,t2,o2⟩:=r2.MG hg hV hl (by omega) (hE 2 (by omega));obtain⟨r3,x3⟩:=CI.sec (t:=2) (s:=(eO p lf 2 (aS p V lf 2).1,(aS p V lf 2).2)) hg hV hl (by omega) s2 (ak p 3 - ak p 2) (by show _≤ak p 3;omega) (by show ak p 3≤_;omega);rw [show ak p 2+(ak p 3 - ak p 2)=p.nn by omega] at r3
 have oo2:∀ u,u≤2→(eO p lf 2 (aS p V lf 2).1).off u=(aS p V lf 2).1.off u:=fun u hu=>by
  rw [show eO p lf 2 (aS p V lf 2).1=_ from t2,CS.l7 _ (by omega) _ hu]
 have oo22:(eO p lf 2 (aS p V lf 2).1).off 2=(aS p V lf 2).1.L.length:=(oo2 2 (by omega)).trans o2;simp only at r3 x3;rw [oo22] at r3 x3;have r3:CI p V lf 2 p.nn (aS p V lf 3).1 (aS p V lf 3).2:=r3;have x31:(aS p V lf 3).1.off 1=_:=x3 1 (by omega);have x32:(aS p V lf 3).1.off 2=_:=x3 2 (by omega);refine⟨r3,?_,?_⟩
 ·rw [x31,oo2 1 (by omega),x21,oo1]
 ·rw [x32,oo22]
theorem MN(hg:p.good)(hV:mm p V)(hl:LF V.2 lf):(aS p V lf 3).1.L.length≤p.nn+p.ni+2*V.2.count true:=by
 obtain⟨b0,b1,b2,b3,b4⟩:=uj hg;obtain⟨⟨a1,a2,a3,a4⟩,-,⟨c1,c2,c3⟩,-⟩:=fE.1 hg.gen;have hlb:V.2.length=p.ns:=hV.len.2;have hll:lf.length≤4:=by rw [hl.len,hlb];exact a4
 have hE:=fun t ht=>(sS p a3 (by omega) (by omega) a2 V lf hll t ht).1
 have hsl:(vX p lf p.ns).length=V.2.count true:=by
  rw [wS _ hl _ (by omega),ZH (by omega)]
 have h0:=CI.start hg V lf
 have z0:(eO p lf 0 ⟨[],[],[]⟩:CS).L.length=p.ni:=by
  rw [show eO p lf 0 ⟨[],[],[]⟩=⟨EO p p.ni,[],[]⟩ from wR p p.ni];simp [CS.L,wV]
 have r1:=(CI.sec (t:=0) (s:=(eO p lf 0 (aS p V lf 0).1,(aS p V lf 0).2)) hg hV hl (by omega) (by rw [b0];exact h0) (ak p 1 - ak p 0) (by show _≤ak p 1;omega) (by show ak p 1≤_;omega)).1;rw [show ak p 0+(ak p 1 - ak p 0)=ak p 1 by omega] at r1;have r1:CI p V lf 0 (ak p 1) (aS p V lf 1).1 (aS p V lf 1).2:=r1;have l1:(aS p V lf 1).1.L.length≤_:=(oJ p V lf 0 (t:=0) (s:=(eO p lf 0 (aS p V lf 0).1,(aS p V lf 0).2)) (ak p 0) h0.up (ak p 1 - ak p 0)).2.2.1;obtain⟨s1,t1,o1⟩:=r1.MG hg hV hl (by omega) (hE 1 (by omega))
 have z1:(eO p lf 1 (aS p V lf 1).1).L.length=(aS p V lf 1).1.L.length+V.2.count true:=by
  rw [show eO p lf 1 (aS p V lf 1).1=_ from t1,(CS.pG (by omega) (CS.jy (hE 1 (by omega))) _).2.1,YY,hsl]
 have l2:(aS p V lf 2).1.L.length≤_:=(oJ p V lf (aS p V lf 1).1.L.length (t:=1) (s:=(eO p lf 1 (aS p V lf 1).1,(aS p V lf 1).2)) (ak p 1) s1.up (ak p 2 - ak p 1)).2.2.1;obtain⟨r2,x2⟩:=CI.sec (t:=1) (s:=(eO p lf 1 (aS p V lf 1).1,(aS p V lf 1).2)) hg hV hl (by omega) s1 (ak p 2 - ak p 1) (by show _≤ak p 2;omega) (by show ak p 2≤_;omega);rw [show ak p 1+(ak p 2 - ak p 1)=ak p 2 by omega] at r2
 have oo1:(eO p lf 1 (aS p V lf 1).1).off 1=(aS p V lf 1).1.L.length:=by
  rw [show eO p lf 1 (aS p V lf 1).1=_ from t1,CS.l7 _ (by omega) _ (aW _)];exact o1
 simp only at r2;rw [oo1] at r2;have r2:CI p V lf 1 (ak p 2) (aS p V lf 2).1 (aS p V lf 2).2:=r2;obtain⟨s2,t2,o2⟩:=r2.MG hg hV hl (by omega) (hE 2 (by omega))
 have z2:(eO p lf 2 (aS p V lf 2).1).L.length=(aS p V lf 2).1.L.length+V.2.count true:=by
  rw [show eO p lf 2 (aS p V lf 2).1=_ from t2,(CS.pG (by omega) (CS.jy (hE 2 (by omega))) _).2.1,YY,hsl]
 have l3:(aS p V lf 3).1.L.length≤_:=(oJ p V lf (aS p V lf 2).1.L.length (t:=2) (s:=(eO p lf 2 (aS p V lf 2).1,(aS p V lf 2).2)) (ak p 2) s2.up (ak p 3 - ak p 2)).2.2.1;have e0:(aS p V lf 0).1=⟨[],[],[]⟩:=rfl;simp only at l1 l2 l3;rw [e0] at l1;omega
section
variable {p:PD}{V:NS}
def bJ (p:PD)(V:NS):CS:=(aS p V (aN V.2 0) 3).1
def jG (p:PD)(V:NS):List Int:=(aS p V (aN V.2 0) 3).2
def sN (p:PD)(V:NS):List (Int × Int):=CE (fun j=>((jG p V).getD (p.st j).1.toNat 0,(jG p V).getD (p.st j).2.toNat 0)) (aN V.2 0) p.ns
theorem yy (p:PD)(V:NS):(bt p V).nn=(bJ p V).L.length:=by
 show (sO (if (bJ p V).L=[] then none else some ((bJ p V).L.map Nd.e))).length=_;split
 ·rename_i h;rw [h];rfl
 ·simp [sO]
theorem p8 (p:PD)(V:NS)(h:(bJ p V).L[k]?=some m):(bt p V).nd k=m:=by
 show LR ((sO (if (bJ p V).L=[] then none else some ((bJ p V).L.map Nd.e))).getD k [])=_;rw [if_neg (fun e=>by rw [e] at h;cases h)];show LR (((bJ p V).L.map Nd.e).getD k [])=_;rw [hJ,ZO,h];rfl
theorem OC (hV:mm p V):mb p (jG p V) (aN V.2 0) (aN V.2 0).length=sN p V:=by
 rw [jf,hV.len.2,GL];rfl
theorem xG (hV:mm p V):(sN p V).length=V.2.count true:=by
 rw [sN,wS _ (dI V.2) _ (Z8 hV.len.2.symm),ZH (Z8 hV.len.2)]
theorem l8 (hV:mm p V):(bt p V).states=if sN p V=[] then none else some ((sN p V).map zj):=by
 show (if mb p (jG p V) (aN V.2 0) (aN V.2 0).length=[] then none else some ((mb p (jG p V) (aN V.2 0) (aN V.2 0).length).map zj))=_;rw [OC hV]
theorem Mz (hV:mm p V):(bt p V).ns=V.2.count true:=by
 show (sO (bt p V).states).length=_;rw [l8 hV,← xG hV];split
 ·rename_i h;rw [h];rfl
 ·simp [sO]
theorem Jo (hV:mm p V)(ha:a<p.ns) (h0:0≤(aN V.2 0).getD a 0):(bt p V).st ((aN V.2 0).getD a 0).toNat=((jG p V).getD (p.st a).1.toNat 0,(jG p V).getD (p.st a).2.toNat 0):=by
 have h:=(m9 (fun j=>((jG p V).getD (p.st j).1.toNat 0,(jG p V).getD (p.st j).2.toNat 0)) (dI V.2) p.ns (Z8 hV.len.2.symm) ((aN V.2 0).getD a 0).toNat _).2 ⟨a,ha,by omega,rfl⟩;have h:(sN p V)[((aN V.2 0).getD a 0).toNat]?=_:=h;show r5 ((sO (bt p V).states).getD _ [])=_;rw [l8 hV,if_neg (fun e=>by rw [e] at h;cases h)];show r5 (((sN p V).map zj).getD _ [])=_;rw [hJ,ZO,h];rfl
theorem Gb (hV:mm p V)(hj:j<V.2.count true):∃ a,a<p.ns∧(aN V.2 0).getD a 0=j∧cP V.2 a:=by
 rw [← xG hV] at hj;obtain⟨a,h1,h2,-⟩:=(m9 _ (dI V.2) p.ns (Z8 hV.len.2.symm) j _).1 (cn (show j<(sN p V).length from hj));exact⟨a,h1,h2,((dI V.2).iff (by rw [hV.len.2];exact h1)).1 (by omega)⟩
theorem OY (hV:mm p V)(ha:a<p.ns) (h0:0≤(aN V.2 0).getD a 0):(aN V.2 0).getD a 0<V.2.count true:=by
 have h:=(m9 (fun j=>((jG p V).getD (p.st j).1.toNat 0,(jG p V).getD (p.st j).2.toNat 0)) (dI V.2) p.ns (Z8 hV.len.2.symm) ((aN V.2 0).getD a 0).toNat _).2 ⟨a,ha,by omega,rfl⟩;have h1:((aN V.2 0).getD a 0).toNat<(sN p V).length:=(List.getElem?_eq_some_iff.1 h).1;rw [xG hV] at h1;omega
theorem vb (hg:p.good)(hV:mm p V):CI p V (aN V.2 0) 2 p.nn (bJ p V) (jG p V):=(Gi hg hV (dI V.2)).1
theorem Bk (hg:p.good)(hV:mm p V):(bt p V).head=if V.2.count true=0 then ((bJ p V).L.length:Int) else ((bJ p V).off 1:Int):=by
 show (if V.2.count true=0 then ((bJ p V).L.length:Int) else ((aS p V (aN V.2 0) 1).1.L.length:Int))=_;rw [(Gi hg hV (dI V.2)).2.1];rfl
theorem BT (hg:p.good)(hV:mm p V):(bt p V).tail=if V.2.count true=0 then ((bJ p V).L.length:Int) else ((bJ p V).off 2:Int):=by
 show (if V.2.count true=0 then ((bJ p V).L.length:Int) else ((aS p V (aN V.2 0) 2).1.L.length:Int))=_;rw [(Gi hg hV (dI V.2)).2.2];rfl
theorem CS.Fu (c:CS):c.off 1≤c.off 2∧c.off 2≤c.L.length:=by
 rw [CS.yZ];show c.A0.length≤c.A0.length+c.A1.length∧c.A0.length+c.A1.length≤_;omega
theorem CS.jE (c:CS)(k:Nat):c.sc k=if k<c.off 1 then 0 else if k<c.off 2 then 1 else 2:=rfl
theorem tW (hg:p.good)(hV:mm p V)(hk:k<(bJ p V).L.length):fu (bt p V) k=if V.2.count true=0 then 0 else ((bJ p V).sc k:Int):=by
 unfold fu;rw [Bk hg hV,BT hg hV,CS.jE]
 by_cases h:V.2.count true=0
 ·simp only [if_pos h];rw [if_pos (by omega)]
 ·simp only [if_neg h]
  by_cases h1:k<(bJ p V).off 1
  ·rw [if_pos (by omega),if_pos h1];rfl
  ·rw [if_neg (by omega),if_neg h1]
   by_cases h2:k<(bJ p V).off 2
   ·rw [if_pos (by omega),if_pos h2];rfl
   ·rw [if_neg (by omega),if_neg h2];rfl
theorem GP (hg:p.good)(hV:mm p V)(hb:(bJ p V).L.length≤64):(bt p V).good:=by
 have h:=vb hg hV;have hl:=dI V.2;have hlb:V.2.length=p.ns:=hV.len.2;obtain⟨⟨a1,a2,a3,a4⟩,⟨b1,b2,b3,b4⟩,⟨c1,c2,c3⟩,d⟩:=fE.1 hg.gen;have hnn:=yy p V;have hns:=Mz hV;have hhd:=Bk hg hV;have htl:=BT hg hV;have hof:=CS.Fu (bJ p V);have hcl:V.2.count true≤4:=Za abo (by omega);have hnf:(bt p V).nf=p.nf:=rfl;have hni:(bt p V).ni=p.ni:=rfl;have hmd:(bt p V).mode=p.mode:=rfl;have hres:(bt p V).res=(jG p V).getD p.res.toNat 0:=rfl;obtain⟨q1,q2,q3⟩:=hg.res;obtain⟨kr,mr,r1,r2,r3,-⟩:=h.ats p.res.toNat (by omega) (.inl hV.res);have hkr:=(List.getElem?_eq_some_iff.1 r2).1;have hsame:∀ {k m},(bJ p V).L[k]?=some m→(bt p V).nd k=m:=fun e=>p8 p V e
 have hpar:∀ i,i<p.nn→0≤(p.nd i).f∧(p.nd i).f<p.nf:=fun i hi=>RI (hg.nodes i hi)
 refine⟨⟨hg.ok.f,hg.ok.ins,fun e he=>?_,fun e he=>?_⟩,fE.2 ⟨⟨by omega,by omega,by omega,by omega⟩,⟨by omega,by omega,by omega,by omega⟩,?_,fun h0=>?_⟩,hg.SQ,hg.ins,fun k hk=>?_,fun j hj=>?_,?_⟩
 ·have he:e∈sO (if (bJ p V).L=[] then none else some ((bJ p V).L.map Nd.e)):=he;split at he
  ·cases he
  ·obtain⟨x,_,rfl⟩:=List.mem_map.1 (show e∈(bJ p V).L.map Nd.e from he);exact Me x
 ·rw [l8 hV] at he;split at he
  ·cases he
  ·obtain⟨x,_,rfl⟩:=List.mem_map.1 (show e∈(sN p V).map zj from he);exact Tf x
 ·rw [hhd,htl,hnn];split <;> omega
 ·rw [hhd,hnn,if_pos (by omega)]
 ·rw [hnn] at hk;obtain⟨m,hm⟩:∃ m,(bJ p V).L[k]?=some m:=⟨_,cn hk⟩
  rw [hsame hm];rcases h.pos k m hm with ⟨g1,rfl,g3⟩|⟨a,g1,g2,rfl,g4,g5⟩|⟨i,g1,g2,g3,g4,g5,rfl,g7,g8⟩
  ·exact oY.2 ⟨⟨by simp [jq],by simp [jq]⟩,by rfl,Vg (hg.ins k g1),fun _=>⟨by simp [jq],by simp only [jq];omega⟩,fun _=>by simp only [jq,Y1];rfl,fun q=>absurd q (by simp [jq]),fun q=>absurd q (by simp [jq]),fun _=>by rfl⟩
  ·obtain⟨s1,s2,s3,s4⟩:=xE hg g1;have hlt:=OY hV g1 g2;refine oY.2 ⟨⟨by simp [iP],by simp [iP]⟩,by rfl,hpar _ (by omega),fun q=>absurd q (by simp [iP]),fun q=>absurd q (by simp [iP]),fun _=>⟨?_,?_,?_⟩,fun q=>absurd q (by simp [iP]),fun _=>by rfl⟩
   ·rw [hhd,if_neg (by omega)];have hsc:=CS.jE (bJ p V) k;split at hsc <;> omega
   ·exact g2
   ·show (aN V.2 0).getD a 0<_;omega
  ·have hi:i<p.nn:=g1;obtain⟨o1,o2,o3,o4,o5,o6,o7,o8⟩:=oY.1 (hg.nodes i hi);refine oY.2 ⟨o1,by rw [FH];exact o2,o3,fun q=>absurd q g3,fun q=>absurd q g3,fun q=>absurd q g4,o7,fun _=>?_⟩;rw [YU];intro x hx;obtain⟨y,rfl,e2,e3⟩:=g7 x hx;unfold gF;rw [cy,Zp,decide_eq_true_eq,decide_eq_true_eq,decide_eq_true_eq,tW hg hV (by omega:y<_),tW hg hV hk];refine⟨by omega,?_⟩
   by_cases hM:V.2.count true=0
   ·exact .inl (if_pos hM)
   ·simp only [if_neg hM];omega
 ·rw [hns] at hj;obtain⟨a,e1,e2,e3⟩:=Gb hV hj;obtain⟨-,i1,i2⟩:=hV.st hg e3;obtain⟨s1,s2,s3,s4⟩:=xE hg e1;have hst:=Jo hV e1 (by omega);rw [e2,Y1] at hst;obtain⟨k1,m1,x1,x2,x3,x4,-⟩:=h.ats _ (by omega) (.inl i1);obtain⟨k2,m2,y1,y2,y3,y4,-⟩:=h.ats _ (by omega) (.inl i2);have hf:=OM hg e1;have hM:¬ V.2.count true=0:=by omega
  have hc1:fu p ((p.st a).1.toNat:Nat)=0:=if_pos (by omega)
  have hc2:fu p ((p.st a).2.toNat:Nat)≠2:=by
   unfold fu;split
   ·decide
   ·rw [if_pos (by omega)];decide
  rw [hst,x1,y1];refine QH ?_ ?_ ?_ fun j' hj' h2 h3=>?_
  ·rw [hhd,if_neg hM];have hsc:=CS.jE (bJ p V) k1;split at hsc
   ·simp only;omega
   ·split at hsc <;> omega
  ·rw [htl,if_neg hM];have hsc:=CS.jE (bJ p V) k2;split at hsc
   ·simp only;omega
   ·split at hsc
    ·simp only;omega
    ·exfalso;omega
  ·simp only [Y1];rw [hsame x2,hsame y2,x4,y4];exact hf.1
  ·simp only [Y1];rw [hnn] at hj';obtain⟨m,hm⟩:∃ m,(bJ p V).L[j']?=some m:=⟨_,cn hj'⟩
   rw [hsame hm] at h2 h3 ⊢;rw [hsame x2,x4];rcases h.pos j' m hm with ⟨g1,rfl,g3⟩|⟨b,g1,g2,rfl,g4,g5⟩|⟨i,g1,g2,g3,g4,g5,rfl,g7,g8⟩
   ·exact absurd h2 (by simp [jq])
   ·have:b=a:=hl.inj (by omega) (by omega) g2 (by rw [e2];exact h3);rw [this];rfl
   ·exact absurd h2 g4
 ·rw [hres,r1,hnn];refine⟨by omega,by omega,?_⟩;rw [tW hg hV hkr];split
  ·decide
  ·rw [show ((p.res.toNat:Nat):Int)=p.res by omega] at r3;omega
theorem HL (hg:p.good)(hV:mm p V)(hW:mm (bt p V) W)(hi:cP V.1 i):cP W.1 ((jG p V).getD i 0).toNat:=by
 have h:=vb hg hV;have hnn:=yy p V;refine (hV.m1 (fun i=>cP V.1 i∧cP W.1 ((jG p V).getD i 0).toNat) ⟨hV.res,hW.res⟩ (fun i hin hx k hk=>?_) i hi).2;obtain⟨v,w⟩:=hx;have hkv:=(hV.cl i hin v).1 k hk;refine⟨hkv,?_⟩;obtain⟨x,m,e1,e2,-,-,e5,e6,e7⟩:=h.ats i hin (.inl v);have hx:=(List.getElem?_eq_some_iff.1 e2).1;rw [e1,Y1] at w;obtain⟨cl1,cl2⟩:=hW.cl x (by omega) w;have hnx:=p8 p V e2;refine cl1 _ ?_;unfold MB at hk ⊢;rw [hnx];rcases List.mem_append.1 hk with hk|hk
 ·obtain⟨y,hy,rfl⟩:=List.mem_map.1 hk;refine List.mem_append.2 (.inl ?_);have hop:=(ic hg hin).1;have n1:(p.nd i).op≠1:=fun q=>by unfold bG at hy;rw [if_pos hop,q] at hy;cases hy
  have n2:(p.nd i).op≠2:=fun q=>by unfold bG at hy;rw [if_pos hop,q] at hy;cases hy
  rw [e7 n1 n2,vk _ hop];exact List.mem_map.2 ⟨_,List.mem_map.2 ⟨y,hy,rfl⟩,rfl⟩
 ·by_cases n2:(p.nd i).op=2
  ·rw [if_pos n2] at hk;have e6':=e6 n2;have ha:(p.nd i).a.toNat<p.ns:=by have:=(ic hg hin).2.1 n2;omega
   have h0:0≤(aN V.2 0).getD (p.nd i).a.toNat 0:=((dI V.2).iff (by rw [hV.len.2];exact ha)).2 ((hV.cl i hin v).2 n2);have hst:=Jo hV ha h0;refine List.mem_append.2 (.inr ?_);rw [e6',if_pos (show (iP p (p.nd i).a.toNat ((aN V.2 0).getD (p.nd i).a.toNat 0)).op=2 from rfl)];show _∈[((bt p V).st ((aN V.2 0).getD (p.nd i).a.toNat 0).toNat).1.toNat,((bt p V).st ((aN V.2 0).getD (p.nd i).a.toNat 0).toNat).2.toNat];rw [hst];simp only [YT,Y6,or_false] at hk ⊢;rcases hk with rfl|rfl
   ·exact .inl rfl
   ·exact .inr rfl
  ·rw [if_neg n2] at hk;cases hk
theorem Nc (hg:p.good)(hV:mm p V)(hW:mm (bt p V) W)(hk:k<(bt p V).nn) (h1:((bt p V).nd k).op≠1) (h2:((bt p V).nd k).op≠2):cP W.1 k:=by
 rw [yy] at hk;obtain⟨m,hm⟩:∃ m,(bJ p V).L[k]?=some m:=⟨_,cn hk⟩
 rw [p8 p V hm] at h1 h2;rcases (vb hg hV).pos k m hm with ⟨g1,rfl,g3⟩|⟨a,g1,g2,rfl,g4,g5⟩|⟨i,g1,g2,g3,g4,g5,rfl,g7,g8⟩
 ·exact absurd rfl h1
 ·exact absurd rfl h2
 ·have:=HL hg hV hW g2;rw [g5,Y1] at this;exact this
theorem A8 (hg:p.good)(hV:mm p V)(hW:mm (bt p V) W)(hj:j<V.2.count true):cP W.2 j:=by
 obtain⟨a,e1,e2,e3⟩:=Gb hV hj;obtain⟨x,g1,g2,g3,rfl⟩:=hV.m2 a e3;obtain⟨k,m,f1,f2,-,-,-,f6,-⟩:=(vb hg hV).ats x g1 (.inl g2);have hw:=HL hg hV hW g2;rw [f1,Y1] at hw;have hk:=(List.getElem?_eq_some_iff.1 f2).1;have:=(hW.cl k (by rw [yy];exact hk) hw).2;rw [p8 p V f2,f6 g3] at this;have h3:=this rfl;have e:((iP p (p.nd x).a.toNat ((aN V.2 0).getD (p.nd x).a.toNat 0)).a).toNat=j:=by show ((aN V.2 0).getD (p.nd x).a.toNat 0).toNat=j;omega
 rw [e] at h3;exact h3
theorem HT(h:cP l a):l.count true≠0:=fun e=>by
 have hl:=h.lt;unfold cP at h;rw [hJ,cn hl,aaL] at h;have:0<l.count true:=List.count_pos_iff.2 (List.mem_iff_getElem.2 ⟨a,hl,h⟩);omega
theorem Pq (hg:p.good)(hV:mm p V)(hM:V.2.count true=0)(hm:(bJ p V).L[k]?=some m):(bJ p V).sc k≠1:=fun q=>by
 rcases (vb hg hV).pos k m hm with ⟨g1,rfl,g3⟩|⟨a,g1,g2,rfl,g4,g5⟩|⟨i,g1,g2,g3,g4,g5,rfl,g7,g8⟩
 ·omega
 ·exact HT (((dI V.2).iff (by rw [hV.len.2];exact g1)).1 g2) hM
 ·have hi:=(hV.m1 (fun i=>cP V.1 i∧fu p i≠1) ⟨hV.res,by rw [show ((p.res.toNat:Nat):Int)=p.res by have:=hg.res;omega];exact hg.res.2.2⟩ (fun i hin hx k hk=>?_) i g2).2
  ·rw [q] at g8;exact hi g8.symm
  ·obtain⟨v,w⟩:=hx;refine⟨(hV.cl i hin v).1 k hk,?_⟩;unfold MB at hk;rcases List.mem_append.1 hk with hk|hk
   ·obtain⟨y,hy,rfl⟩:=List.mem_map.1 hk;have hs:=Hy hg hin hy;have:=(ic hg hin).2.2 y hy;rw [show ((y.toNat:Nat):Int)=y by omega];omega
   ·by_cases n2:(p.nd i).op=2
    ·exact absurd hM (HT ((hV.cl i hin v).2 n2))
    ·rw [if_neg n2] at hk;cases hk
theorem OS (hg:p.good)(hV:mm p V)(hk:k<i) (hi:i<(bt p V).nn) (he:(bt p V).nd k=(bt p V).nd i):fu (bt p V) k≠0∧fu (bt p V) k≠fu (bt p V) i:=by
 rw [yy] at hi;have h:=(vb hg hV).nd;obtain⟨m,hm⟩:∃ m,(bJ p V).L[i]?=some m:=⟨_,cn hi⟩
 obtain⟨n,hn⟩:∃ n,(bJ p V).L[k]?=some n:=⟨_,cn (by omega)⟩
 rw [p8 p V hm,p8 p V hn] at he;subst he
 have nod:∀ {l:List Nd}{a b:Nat},l.Nodup→l[a]?=some n→l[b]?=some n→a=b:=fun {l a b} hl ha hb=>by
  obtain⟨ha1,ha2⟩:=List.getElem?_eq_some_iff.1 ha;obtain⟨hb1,hb2⟩:=List.getElem?_eq_some_iff.1 hb;exact (List.getElem_inj (h₀:=ha1) (h₁:=hb1) hl).1 (ha2.trans hb2.symm)
 have key:¬ ((bJ p V).sc k=0∨(bJ p V).sc k=(bJ p V).sc i):=by
  obtain⟨u1,u2,u3⟩:=CS.G8 hm;obtain⟨v1,v2,v3⟩:=CS.G8 hn;have hki:=CS.jE (bJ p V) k;have hii:=CS.jE (bJ p V) i;have o1:(bJ p V).off 1=(bJ p V).A0.length:=rfl;have o2:(bJ p V).off 2=(bJ p V).A0.length+(bJ p V).A1.length:=rfl;intro hor;generalize hcc:bJ p V=c at *
  obtain⟨A,B,D⟩:=c;simp only [CS.L] at hm hn;simp only at o1 o2;obtain⟨n1,n2⟩:=h;simp only at n1 n2;rw [o1,o2] at hki hii
  by_cases hiB:i<A.length+B.length
  ·rw [← YZ,ZQ (by rw [YY];omega)] at hm hn;have:=nod n1 hn hm;omega
  ·have i2:(CS.mk A B D).sc i=2:=by rw [hii,if_neg (by omega),if_neg hiB]
   rw [Zf (by omega),Zf (by omega)] at hm;have hm':(A++D)[A.length+(i - A.length - B.length)]?=some n:=by rw [Zf (by omega),ZE];exact hm
   by_cases hkA:k<A.length
   ·rw [ZQ hkA] at hn;have hn':(A++D)[k]?=some n:=by rw [ZQ hkA];exact hn
    have:=nod n2 hn' hm';omega
   ·have hkB:¬ k<A.length+B.length:=fun q=>by
     rw [if_neg hkA,if_pos q] at hki;omega
    rw [Zf (by omega),Zf (by omega)] at hn;have hn':(A++D)[A.length+(k - A.length - B.length)]?=some n:=by rw [Zf (by omega),ZE];exact hn
    have:=nod n2 hn' hm';omega
 by_cases hM:V.2.count true=0
 ·exfalso
  have hsc:∀ x,x<(bJ p V).L.length→(bJ p V).sc x≠1:=fun x hx q=>by
   obtain⟨mx,hmx⟩:∃ mx,(bJ p V).L[x]?=some mx:=⟨_,cn hx⟩
   exact Pq hg hV hM hmx q
  have:=hsc k (by omega);have:=hsc i hi;have:(bJ p V).sc k≤2:=by rw [CS.jE];(repeat' split) <;> omega
  have:(bJ p V).sc i≤2:=by rw [CS.jE];(repeat' split) <;> omega
  have h1:=CS.jE (bJ p V) k;have h2:=CS.jE (bJ p V) i;have:=CS.Fu (bJ p V);apply key
  by_cases z:(bJ p V).sc k=0
  ·exact .inl z
  ·right;have z2:(bJ p V).sc k=2:=by omega
   have z3:¬ k<(bJ p V).off 2:=fun q=>by
    rw [z2] at h1;(repeat' split at h1) <;> omega
   rw [z2,h2,if_neg (by omega),if_neg (by omega)]
 ·rw [tW hg hV hi,tW hg hV (by omega),if_neg hM,if_neg hM];constructor
  ·intro q;exact key (.inl (by omega))
  ·intro q;exact key (.inr (by omega))
end
end Go.Am
