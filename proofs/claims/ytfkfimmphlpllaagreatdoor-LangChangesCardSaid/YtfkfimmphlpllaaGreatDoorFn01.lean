/- Helpers: an abstract machine for Go functions, and walks of functions of the program. -/
import Derived.Test.YtfkfimmphlpllaaGreatDoorFn00
import Derived.OrdersIn
import Derived.LoopNIn
import Derived.RangeFuncCalls
import Derived.Lib.AppendStr
import Derived.Lib.UnsafeStr
import Derived.Lib.ConvBytes
import Derived.WideKeyRuns

set_option linter.all false
set_option maxHeartbeats 8000000
set_option maxRecDepth 100000
namespace Go.Am
variable {x fv y:AV}{f:FuncId}{o:Oper}{V V':Vw}{v u:Value}{P:Program}{fs cs args:List AV}{lv lv':Key→LB}{s s0 s':aB}{w:World}{cl:Call}{fo:Operand}{Q:Exit→Act→World→Prop}{us:List (Key × LB)}{i id n κ:Nat}{k kh:Key}{ops:Array Oper}{ks rds l sel nk:List Key}{ν σ σ':List LB}{b own:Bool}{G:List (List DV)}{F:Nat→Prop}{β β':Key→Nat}{T:TypeId}{fn:Func}{d:DV}{K:Act→World→Prop}{fr:Nat→AV}{r:Option Nat}{a:Act}{code:Code}{c:Ctx}{α:Type}
abbrev WM:=@List.mem_cons
abbrev Zd:=@List.mem_map_of_mem
abbrev YY:=@List.idxOf?_eq_some_iff
abbrev Xp:=@List.mem_map
abbrev XQ:=@List.mem_flatMap
abbrev XF:=@List.mem_append
abbrev Xj:=@List.map_congr_left
abbrev YZ:=@List.mem_range
abbrev Yt:=@Option.getD_some
abbrev Xl:=@Bool.or_eq_true
abbrev YJ:=@Oper.apart_spec
abbrev Yu:=@List.getElem?_append_right
abbrev YK:=@List.take_add_one
abbrev Zr:=@List.getElem?_append_left
abbrev Yl:=@List.getElem?_cons_zero
abbrev Ze:=@List.any_eq_false
abbrev Y0:=@List.range'_succ
abbrev Yv:=@Array.getElem?_replicate
abbrev Ym:=@List.all_cons
abbrev Zs:=@Array.getElem?_append_left
abbrev Zt:=@Array.getElem?_append_right
abbrev XB:=@Nat.mul_one
abbrev W9:=@Nat.le_of_ble_eq_true
abbrev W1:=@Nat.eq_of_beq_eq_true
abbrev YL:=@Nat.ne_of_beq_eq_false
def Li:DV→AV
 | .agg l=>.agg (l.map .d)
 | x=>.c (.d x)
def ig.cv:ig→CV
 | .d x=>.d x
 | .ptr k o=>.ptr k o
 | .aR k o l z=>.aR k o l z
theorem Vw.MY{x:ig}(h:V.lT v x):V.cv v x.cv:=by
 cases x <;> exact h
def sL:Ref→AV
 | .d x=>Li x
 | .ptr k o=>.c (.ptr k o)
 | .aR k o l z=>.c (.aR k o l z)
 | .agg cs=>.agg (cs.map ig.cv)
 | .ifc t x=>.c (.ifc t x)
theorem Vw.Li(h:Rd V.mem v d):V.av v (Am.Li d):=by
 cases d with
 | agg l=>
  cases h with
  | agg arr cs hl ho hr=>
   refine⟨arr,rfl,by simpa using hl,fun i p q=>?_⟩;simp only [WK];exact⟨hr i (by simpa using p),ho i q⟩
 | _=>exact⟨h,by rw [Rd.L5 h];rfl⟩
theorem Vw.sL{r:Ref}(h:V.ref v r):V.av v (Am.sL r):=by
 cases r with
 | d x=>exact V.Li h
 | ptr k o=>exact h
 | aR k o l z=>exact h
 | agg cs=>
  obtain⟨arr,rfl,h1,h2⟩:=h;exact⟨arr,rfl,by simpa using h1,fun i a b=>by simp only [WK];exact V.MY (h2 i (by simpa using a) b)⟩
 | ifc t x=>exact h
def b7:AV→Option (FuncId × List AV × List AV)
 | .c (.d (.func (.func f) fs cs))=>some (f,fs.map Li,cs.map Li)
 | .c (.func (.func f) fs cs)=>some (f,fs.map sL,cs.map sL)
 | _=>none
def aG (P:Program)(f:FuncId):Bool:=
 match P.funcs[f]? with
 | some fn=>fn.body.isSome && fn.name != "runtime.NumGoroutine"
 | none=>false
theorem iB(h:aG P f=true) (args:Array Value) (w:World):(callFunc f args).run P w=.ok (.enter f args) w:=by
 unfold aG at h;unfold callFunc;split at h
 ·rename_i fn hf
  simp only [cn,bne_iff_ne] at h;simp only [bE,run_program,fy,hf];have h1:(fn.name == "runtime.NumGoroutine")=false:=by simpa using h.2
  have h2:fn.body.isNone=false:=by
   cases e:fn.body with
   | none=>rw [e] at h;simp at h
   | some b=>rfl
  rw [h1,h2];rfl
 ·cases h
theorem kP{fv:Value}(h:V.av fv x) (ht:b7 x=some (f,fs,cs)) :
 ∃ fs' cs':Array Value,fv=.func (.func f) fs' cs'∧fs'.size=fs.length∧cs'.size=cs.length∧(∀ i (h:i<fs.length) (h':i<fs'.size),V.av fs'[i] fs[i])∧(∀ i (h:i<cs.length) (h':i<cs'.size),V.av cs'[i] cs[i]):=by
 unfold b7 at ht;split at ht
 ·simp only [ai,cy] at ht;obtain⟨rfl,rfl,rfl⟩:=ht;obtain⟨h,_⟩:=h
  cases h with
  | func _ fs' cs' fd cd hf hc hrf hrc=>
   refine⟨fs',cs',rfl,by simpa using hf,by simpa using hc,fun i p q=>?_,fun i p q=>?_⟩
   ·simp only [WK];exact V.Li (hrf i (by simpa using p))
   ·simp only [WK];exact V.Li (hrc i (by simpa using p))
 ·simp only [ai,cy] at ht;obtain⟨rfl,rfl,rfl⟩:=ht;obtain⟨fs',cs',rfl,h1,h2,h3,h4⟩:=h;refine⟨fs',cs',rfl,by simpa using h1,by simpa using h2,fun i p q=>?_,fun i p q=>?_⟩
  ·simp only [WK];exact V.sL (h3 i (by simpa using p) q)
  ·simp only [WK];exact V.sL (h4 i (by simpa using p) q)
 ·cases ht
def CV.flat:CV→Bool
 | .d x=>x.tI
 | _=>false
def AV.Gm:AV→Bool
 | .c x=>x.flat
 | .agg cs=>cs.all CV.flat
 | _=>false
def AV.flat:AV→Bool
 | .tup l=>l.all AV.Gm
 | x=>x.Gm
theorem Rd.eO {M M':Mem}(h:Rd M v d) (hd:d.tI=true):Rd M' v d:=by
 cases h <;> simp [DV.tI] at hd
 ·exact .bool _
 ·exact .int _ _ (by assumption)
 ·exact .str _ (by assumption)
theorem Vw.AU{x:CV}(h:V.cv v x) (hx:x.flat=true):V'.cv v x:=by
 cases x <;> simp [CV.flat] at hx
 exact⟨Rd.eO h.1 hx,h.2⟩
theorem Vw.C5(h:V.m9 v x) (hx:x.Gm=true):V'.m9 v x:=by
 cases x with
 | c x=>exact Vw.AU (x:=x) h hx
 | agg cs=>
  obtain⟨arr,rfl,h1,h2⟩:=h;simp only [AV.Gm,E5] at hx;exact⟨arr,rfl,h1,fun i p q=>Vw.AU (h2 i p q) (hx _ (aW p))⟩
 | tup l=>cases hx
 | undef=>cases hx
 | junk=>cases hx
theorem Vw.Nf(h:V.av v x) (hx:x.flat=true):V'.av v x:=by
 cases x with
 | c x=>exact Vw.AU (x:=x) h hx
 | agg cs=>exact Vw.C5 (x:=.agg cs) h hx
 | tup l=>
  obtain⟨arr,rfl,h1,h2⟩:=h;simp only [AV.flat,E5] at hx;exact⟨arr,rfl,h1,fun i p q=>Vw.C5 (h2 i p q) (hx _ (aW p))⟩
 | undef=>cases hx
 | junk=>cases hx
def eC (lv:Key→LB):AV→Option (AV × List Key)
 | .c x=>(cU lv 8 x).map fun p=>(.c (.d p.1),p.2)
 | .agg cs=>(fU (cU lv 8) cs).map fun p=>(.agg (p.1.map .d),p.2)
 | _=>none
def jo (lv:Key→LB):List AV→Option (List AV × List Key)
 | []=>some ([],[])
 | x::r=>match eC lv x,jo lv r with
  | some (y,k),some (l,ks)=>some (y::l,k++ks)
  | _,_=>none
theorem cw.eC{Fz:Nat→Prop}(h:cw c F β s.lv w) (hF:∀ b,F b→Fz b)(ht:Am.eC s.lv x=some (y,ks))
 (hk:∀ k∈ks,Fz (β k)) (hv:(Vw.mk F β s.lv w).av v x):(Vw.mk Fz β' lv' w).av v y:=by
 cases x with
 | c x=>
  simp only [Am.eC,W7] at ht;obtain⟨⟨d,ks'⟩,ht,he⟩:=ht;simp only [cy] at he;obtain⟨rfl,rfl⟩:=he;exact⟨h.cU hF 8 x d ks' v ht hk hv,Vw.eZ (x:=x) hv⟩
 | agg cs=>
  simp only [Am.eC,W7] at ht;obtain⟨⟨l,ks'⟩,ht,he⟩:=ht;simp only [cy] at he;obtain⟨rfl,rfl⟩:=he;obtain⟨h1,h2⟩:=oN ht;obtain⟨arr,rfl,h3,h4⟩:=hv;refine⟨arr,rfl,by simp;omega,fun i p q=>?_⟩;simp only [W6] at p;simp only [WK];obtain⟨k',h5,h6⟩:=h2 i p (by omega);exact⟨h.cU hF 8 _ _ _ _ h5 (fun k hk'=>hk k (h6 k hk')) (h4 i (by omega) q),Vw.eZ (h4 i (by omega) q)⟩
 | tup l=>cases ht
 | undef=>cases ht
 | junk=>cases ht
theorem tK {lv:Key→LB}:∀ {xs ys:List AV}{ks:List Key},jo lv xs=some (ys,ks)→ys.length=xs.length ∧
 ∀ i (h:i<ys.length) (h':i<xs.length),∃ k,eC lv xs[i]=some (ys[i],k)∧∀ x∈k,x∈ks
 | [],ys,ks,h=>by simp only [jo,ai,cy] at h;obtain⟨rfl,rfl⟩:=h;simp
 | x::r,ys,ks,h=>by
  simp only [jo] at h;split at h
  ·rename_i d k l' ks' h1 h2
   simp only [ai,cy] at h;obtain⟨rfl,rfl⟩:=h;obtain⟨h3,h4⟩:=tK h2;refine⟨by simp [h3],fun i p q=>?_⟩
   cases i with
   | zero=>exact⟨k,h1,fun x hx=>Yk _ hx⟩
   | succ i=>
    obtain⟨k',h5,h6⟩:=h4 i (by simpa using p) (by simpa using q);exact⟨k',h5,fun x hx=>Yq _ (h6 x hx)⟩
  ·cases h
def aJ (sel nk:List Key)(kh:Key):Key→Key:=fun k=>if k<1000 then sel.getD k kh else nk.getD (k - 1000) kh
def qi (sel nk:List Key):Key→Option Key:=fun k'=>
 match sel.idxOf? k' with
 | some j=>some j
 | none=>match nk.idxOf? k' with
  | some j=>some (1000+j)
  | none=>none
def Sl (lv:Key→LB)(g:Key→Key)(a u:AV):Prop:=
 (u.bY=true∧a=u.bU g)∨∃ ks,eC lv a=some (u,ks)∧∀ k∈ks,∃ own T cs,lv k=.cells own true T cs
def dJ (Z:List (Key × TypeId × List CV)):List (Key × LB):=Z.map fun z=>(z.1,.cells true true z.2.1 z.2.2)
def cj (g:Key→Key)(own:Bool)(ks:List Key)(bs:List LB):List (Key × LB):=List.zipWith (fun k b=>(k,(b.bU g).fix own)) ks bs
def lY (lv:Key→LB):Nat→CV→List Key
 | n+1,.ptr k _=>k::(match lv k with|.cells _ _ _ cs=>cs.flatMap (lY lv n)|_=>[])
 | n+1,.aR k _ _ _=>k::(match lv k with|.cells _ _ _ cs=>cs.flatMap (lY lv n)|_=>[])
 | _,_=>[]
def pE (lv:Key→LB):AV→List Key
 | .c x=>lY lv 8 x
 | .agg cs=>cs.flatMap (lY lv 8)
 | _=>[]
inductive bS (c:Ctx) (f:FuncId) (as:List AV) (lv:Key→LB):AV→List (Key × LB)→List Key→Prop where
 | flat (us:List AV) (ks rds:List Key) (x:AV) (ha:jo lv as=some (us,ks)) (hc:aa c.P c.G f us x) (hx:x.flat=true) (hr:∀ a∈as,∀ k∈pE lv a,k∈rds):bS c f as lv x [] rds
 | gen (us:List AV) (Z:List (Key × TypeId × List CV)) (sel nk:List Key) (kh:Key) (σ σ' ν:List LB) (x:AV) (own:Bool) (rds:List Key)
  (hZ:∀ z∈Z,lv z.1=.cells true false z.2.1 z.2.2) (hZn:(Z.map (·.1)).Nodup) (hn:(sel++nk).Nodup) (hZs:∀ z∈Z,z.1 ∉ sel++nk) (hkh:kh ∉ sel++nk) (hkZ:∀ z∈Z,z.1≠kh)
  (hl1:sel.length=σ.length) (hl2:σ'.length=σ.length) (hl3:nk.length=ν.length) (hb:σ.length≤1000)
  (hsel:∀ i (h:i<sel.length) (h':i<σ.length),(lv sel[i]).as σ[i] (aJ sel nk kh)) (hnk:∀ k∈nk,lv k=.hole) (hh:lv kh=.hole)
  (hpass:∀ b∈σ,b.pass=true) (hnh:∀ b,b∈σ++σ'++ν→b≠.hole) (hown:own=true→∀ k∈sel,(lv k).Fy=true)
  (hlen:us.length=as.length) (hargs:∀ i (h:i<as.length) (h':i<us.length),Sl (aS lv (dJ Z)) (aJ sel nk kh) as[i] us[i])
  (hrd:∀ a∈as,∀ k∈pE (aS lv (dJ Z)) a,k∈rds∨k∈Z.map (·.1)) (hrh:kh∈rds)
  (hc:aF c.P c.G f us σ (.ret x σ' ν)) :
  bS c f as lv (x.bU (aJ sel nk kh)) (dJ Z++cj (aJ sel nk kh) own sel σ'++cj (aJ sel nk kh) own nk ν) rds
theorem mI {f:CV→Option (DV × List Key)}{p:Key→Prop}(hf:∀ x d ks,f x=some (d,ks)→∀ k∈ks,p k):∀ {cs:List CV}{l:List DV}{ks:List Key},fU f cs=some (l,ks)→∀ k∈ks,p k
 | [],l,ks,h=>by simp only [fU,ai,cy] at h;obtain⟨rfl,rfl⟩:=h;simp
 | x::r,l,ks,h=>by
  simp only [fU] at h;split at h
  ·rename_i d k l' ks' h1 h2
   simp only [ai,cy] at h;obtain⟨rfl,rfl⟩:=h;intro y hy;rcases List.mem_append.1 hy with h|h
   ·exact hf _ _ _ h1 y h
   ·exact mI hf h2 y h
  ·cases h
theorem o9 {lv:Key→LB}:∀ (n:Nat) (x:CV) (d:DV) (ks:List Key),cU lv n x=some (d,ks)→∀ k∈ks,∃ own fz T cs,lv k=.cells own fz T cs
 | n,.d x,d,ks,h=>by simp only [cU,ai,cy] at h;obtain⟨rfl,rfl⟩:=h;simp
 | n+1,.ptr k off,d,ks,h=>by
  simp only [cU] at h;split at h
  ·rename_i own fz T cs e
   split at h
   ·rw [W7] at h;obtain⟨⟨l,ks'⟩,ht,he⟩:=h;simp only [cy] at he;obtain⟨rfl,rfl⟩:=he;intro y hy;rcases List.mem_cons.1 hy with rfl|hy
    ·exact⟨_,_,_,_,e⟩
    ·exact mI (o9 n) ht y hy
   ·cases h
  ·cases h
 | n+1,.aR k off len sz,d,ks,h=>by
  simp only [cU] at h;split at h
  ·rename_i own fz T cs e
   split at h
   ·rw [W7] at h;obtain⟨⟨l,ks'⟩,ht,he⟩:=h;simp only [cy] at he;obtain⟨rfl,rfl⟩:=he;intro y hy;rcases List.mem_cons.1 hy with rfl|hy
    ·exact⟨_,_,_,_,e⟩
    ·exact mI (o9 n) ht y hy
   ·cases h
  ·simp only [ai,cy] at h;obtain⟨rfl,rfl⟩:=h;simp
  ·cases h
 | 0,.ptr ..,_,_,h=>by cases h
 | 0,.aR ..,_,_,h=>by cases h
 | n,.mapr _,_,_,h=>by cases n <;> cases h
 | n,.func ..,_,_,h=>by cases n <;> cases h
 | n,.ifc ..,_,_,h=>by cases n <;> cases h
 | n,.junk,_,_,h=>by cases n <;> cases h
theorem uc(h:eC lv x=some (y,ks)):∀ k∈ks,∃ own fz T cs,lv k=.cells own fz T cs:=by
 cases x with
 | c x=>
  simp only [eC,W7] at h;obtain⟨⟨d,ks'⟩,ht,he⟩:=h;simp only [cy] at he;obtain⟨rfl,rfl⟩:=he;exact o9 _ _ _ _ ht
 | agg cs=>
  simp only [eC,W7] at h;obtain⟨⟨l,ks'⟩,ht,he⟩:=h;simp only [cy] at he;obtain⟨rfl,rfl⟩:=he;exact mI (o9 _) ht
 | tup l=>cases h
 | undef=>cases h
 | junk=>cases h
theorem qp {lv:Key→LB}:∀ {xs ys:List AV}{ks:List Key},jo lv xs=some (ys,ks)→∀ k∈ks,∃ own fz T cs,lv k=.cells own fz T cs
 | [],ys,ks,h=>by simp only [jo,ai,cy] at h;obtain⟨rfl,rfl⟩:=h;simp
 | x::r,ys,ks,h=>by
  simp only [jo] at h;split at h
  ·rename_i d k l' ks' h1 h2
   simp only [ai,cy] at h;obtain⟨rfl,rfl⟩:=h;intro y hy;rcases List.mem_append.1 hy with h|h
   ·exact uc h1 y h
   ·exact qp h2 y h
  ·cases h
section
variable {c:Ctx}{F:Nat→Prop}{β:Key→Nat}{s:aB}{a:Act}{w:World}
theorem aD.rX (h:aD c F β s a w){fz:Bool}{cs:List CV}(hk:s.lv k=.cells own fz T cs):β k<w.heap.size:=by
 have hb:=h.bF k;unfold Vw.bF at hb;simp only [hk] at hb;obtain⟨arr,h1,_⟩:=hb;exact ei h1
theorem oJ{fs' args' cs':Array Value}{as:List AV}(h1:fs'.size=fs.length) (h2:args'.size=as.length) (h3:cs'.size=cs.length)
 (g1:∀ i (h:i<fs.length) (h':i<fs'.size),V.av fs'[i] fs[i]) (g2:∀ i (h:i<as.length) (h':i<args'.size),V.av args'[i] as[i]) (g3:∀ i (h:i<cs.length) (h':i<cs'.size),V.av cs'[i] cs[i]) :
 (fs'++args'++cs').size=(fs++as++cs).length∧∀ i (h:i<(fs++as++cs).length) (h':i<(fs'++args'++cs').size),V.av (fs'++args'++cs')[i] (fs++as++cs)[i]:=by
 refine⟨by simp;omega,fun i p q=>?_⟩;simp only [WW] at p;simp only [YE] at q
 by_cases e1:i<fs.length
 ·rw [XT (by simp;omega),XT (by omega),Xt (by simp;omega),Xt e1];exact g1 _ _ _
 ·by_cases e2:i<fs.length+as.length
  ·rw [XT (by simp;omega),Zc (by omega),Xt (by simp;omega),XJ (by omega)];have:=g2 (i - fs.length) (by omega) (by omega);simp only [h1];exact this
  ·rw [Zc (by simp;omega),XJ (by simp;omega)];have:=g3 (i - (fs.length+as.length)) (by omega) (by omega);simp only [YE,WW,h1,h2];exact this
theorem GM(h:aD c F β s a w) (ho:o.op=.call cl) (hcal:cl.callee=.value fo) (hfo:s.val c.G fo=fv)
 (ht:b7 fv=some (f,fs,cs)) (hf:aG c.P f=true)
 (hK:∀ vs:Array Value,vs.size=(fs++cl.args.toList.map (s.val c.G)++cs).length→(∀ i (h:i<(fs++cl.args.toList.map (s.val c.G)++cs).length) (h':i<vs.size),(Vw.mk F β s.lv w).av vs[i] (fs++cl.args.toList.map (s.val c.G)++cs)[i]) →
  Calls c.P f vs w fun e w'=>∃ v,e=.returned v∧K (a.put o.dst v) w'):o.wp c.P a w K Q:=by
 obtain⟨fs',cs',h1,h2,h3,h4,h5⟩:=kP (hfo ▸ h.val fo) ht;have hv:=oJ (V:=Vw.mk F β s.lv w) (args':=cl.args.map a.eval) (as:=cl.args.toList.map (s.val c.G)) h2 (by simp) h3 h4 (fun i p q=>by simp only [YU,WK,Xs];exact h.val _) h5;have hc:=hK _ hv.1 hv.2
 have hr:(execOp a.eval o).run c.P w=.ok (.enter f (fs'++cl.args.map a.eval++cs')) w:=by
  simp only [execOp,ho,resolve,hcal,h1,Deferred.ofValue,bE,Xg,fy,invoke];rw [iB hf]
 unfold Oper.wp;rw [hr,Oper.upon_enter];refine hc.mono fun e w' he=>?_;obtain⟨v,rfl,hk⟩:=he;exact hk
theorem qQ (k:Key):bz [] [] k=.hole:=by simp [bz]
theorem bS.LN{us:List AV}(hd:∀ d,o.dst=some d→d<c.n) (ho:o.op=.call cl) (hcal:cl.callee=.value fo)
 (hfo:s.val c.G fo=fv) (ht:b7 fv=some (f,fs,cs)) (hf:aG c.P f=true) (ha:jo s.lv (fs++cl.args.toList.map (s.val c.G)++cs)=some (us,ks)) (hc:aa c.P c.G f us x) (hx:x.flat=true) :
 bT c o s (s.put o.dst x):=by
 intro F β a w K Q h hK;refine GM h ho hcal hfo ht hf fun vs hl hv=>?_;obtain⟨h1,h2⟩:=tK ha
 let Fz:Nat→Prop:=fun b=>F b∨∃ k∈ks,b=β k
 have hFz:∀ b,F b→Fz b:=fun b hb=>.inl hb
 have hFlt:∀ b,Fz b→b<w.heap.size:=by
  rintro b (hb|⟨k,hk,rfl⟩)
  ·exact (h.lB b hb).1
  ·obtain⟨own,fz,T,cs',e⟩:=qp ha k hk;exact h.rX e
 have hS:cw (cG c.P c.G w Fz (fun _=>0) (bz [] [])) Fz (fun _=>0) (bz [] []) w:=by
  refine⟨fun k=>?_,fun k k' hk=>?_,fun _=>trivial,rfl,rfl,fun b hb=>⟨hFlt b hb,.inl hb⟩,fun _ hb=>hb,fun _ _ _=>rfl,bg _,fun g cs hg=>Rd.mono (gq hFz (fun _ _=>rfl)) (h.nP g cs hg),fun k _=>.inr ⟨rfl,LB.bw _⟩,fun _=>bg _,⟨rfl,rfl⟩⟩
  ·unfold Vw.bF;simp only [qQ]
  ·simp only [qQ] at hk;cases hk
 refine (hc Fz (fun _=>0) w vs hS (by omega) (fun i p q=>?_)).mono fun e w' he=>?_
 ·obtain⟨k,h3,h4⟩:=h2 i p (by omega);exact h.vF.eC hFz h3 (fun k' hk'=>.inr ⟨k',h4 k' hk',rfl⟩) (hv i (by omega) q)
 ·obtain⟨v,F',β',rfl,hS',hav⟩:=he;refine⟨v,rfl,hK F β _ _ (aD.A8 ?_ hd (Vw.Nf hav hx))⟩
  have hold:∀ b,b<w.heap.size→w'.heap[b]?=w.heap[b]?:=by
   intro b hb;refine hS'.old b hb ?_;rintro⟨k,hk,_⟩;simp only [qQ] at hk;cases hk
  exact h.step (hoo:=hS'.BT) (fun _ hb=>hb) (fun b hb=>hold b (h.lB b hb).1) (fun k=>LB.bw _) (fun _ _ _=>rfl) hS'.Fq
   (fun k hK=>by
    have hb:=h.bF k
    cases ek:s.lv k with
    | cells own fz T cs=>exact Vw.bC hb hK rfl rfl (hold _ (h.rX ek)) (fun _ h=>h)
    | map own es=>
     refine Vw.bC hb hK rfl rfl (hold _ (h.fK (by rw [ek];rfl))) (fun _ h=>h)
    | hole=>unfold Vw.bF;simp only [ek]
    | dead=>unfold Vw.bF;simp only [ek]
    | nils=>unfold Vw.bF;simp only [ek])
   h.inj (fun b hb=>.inl hb) hS'.ge (fun b hb _=>hold b (Xe hb h.ge))
end
theorem o7 (lv:Key→LB)(p:Key × LB)(us:List (Key × LB)):aS lv (p::us)=aS (aC lv p.1 p.2) us:=rfl
theorem Dc (lv:Key→LB)(us vs:List (Key × LB)):aS lv (us++vs)=aS (aS lv us) vs:=by
 simp [aS,List.foldl_append]
theorem bX:∀ {lv:Key→LB}{k:Key},k ∉ us.map (·.1)→aS lv us k=lv k:=by
 induction us with
 | nil=>intro lv k _;rfl
 | cons p us ih=>
  intro lv k h;simp only [WX,WM,not_or] at h;rw [o7,ih h.2,aE _ _ h.1]
theorem js:∀ {lv:Key→LB}{k:Key}{b:LB},(us.map (·.1)).Nodup→(k,b)∈us→aS lv us k=b:=by
 induction us with
 | nil=>intro lv k b _ h;cases h
 | cons p us ih=>
  intro lv k b hn h;simp only [WX,List.nodup_cons] at hn;rw [o7];rcases List.mem_cons.1 h with rfl|h
  ·rw [bX hn.1,aA]
  ·exact ih hn.2 h
section
variable {c:Ctx}{F:Nat→Prop}{β:Key→Nat}{s:aB}{a:Act}{w:World}
theorem aD.GR:∀ {Z:List (Key × TypeId × List CV)}{F:Nat→Prop}{lv:Key→LB},aD c F β ⟨fr,lv⟩ a w→(Z.map (·.1)).Nodup→(∀ z∈Z,lv z.1=.cells true false z.2.1 z.2.2) →
 ∃ F',aD c F' β ⟨fr,aS lv (dJ Z)⟩ a w∧∀ b,F b→F' b
 | [],F,lv,h,_,_=>⟨F,h,fun _ hb=>hb⟩
 | z::Z,F,lv,h,hn,hz=>by
  simp only [WX,List.nodup_cons] at hn;have h1:=h.freeze (k:=z.1) (hz z (by simp))
  obtain⟨F',h2,h3⟩:=aD.GR (Z:=Z) h1 hn.2 (fun y hy=>by
   have hne:y.1≠z.1:=fun e=>hn.1 (e ▸ Zd hy)
   rw [aE _ _ hne];exact hz y (by simp [hy]))
  exact⟨F',h2,fun b hb=>h3 b (.inl hb)⟩
theorem idxOf_getElem(hn:l.Nodup)(hi:i<l.length):l.idxOf? l[i]=some i:=by
 rw [YY];refine⟨hi,by simp,fun j hj=>?_⟩
 have:l[j]'(by omega)≠l[i]:=fun e=>by
  have:=List.pairwise_iff_getElem.1 hn j i (by omega) hi hj;exact this e
 simpa using this
theorem FA(h:k ∉ l):l.idxOf? k=none:=by
 rw [List.idxOf?_eq_none_iff];exact h
theorem kV(h:k<1000):bz σ ν k=σ.getD k .hole:=by simp [bz,h]
theorem qO(h:¬ k<1000):bz σ ν k=ν.getD (k - 1000) .hole:=by simp [bz,h]
theorem cN{l:List α}{d:α}(h:i<l.length):l.getD i d=l[i]:=by
 rw [WO,rP h];rfl
theorem cW{l:List α}{d:α}(h:¬ i<l.length):l.getD i d=d:=by
 rw [WO,Yc (by omega)];rfl
theorem Np(hn:(sel++nk).Nodup)
 (hl1:sel.length=σ.length) (hl2:σ'.length=σ.length) (hl3:nk.length=ν.length) (hb:σ.length≤1000)
 (hsel:∀ i (h:i<sel.length) (h':i<σ.length),(lv sel[i]).as σ[i] (aJ sel nk kh)) (hnk:∀ k∈nk,lv k=.hole) (hh:lv kh=.hole)
 (hpass:∀ b∈σ,b.pass=true) (hnh:∀ b,b∈σ++σ'++ν→b≠.hole) (hown:own=true→∀ k∈sel,(lv k).Fy=true) :
 vJ ⟨fr,lv⟩ (aJ sel nk kh) (qi sel nk) (bz σ []) (bz σ' ν) own:=by
 have hns:sel.Nodup:=(List.nodup_append.1 hn).1;have hnn:nk.Nodup:=(List.nodup_append.1 hn).2.1;have hdis:∀ x∈sel,∀ y∈nk,x≠y:=(List.nodup_append.1 hn).2.2
 have hL:∀ k:Nat,bz σ [] k≠.hole→k<1000∧k<σ.length:=by
  intro k hk
  by_cases h1:k<1000
  ·rw [kV h1] at hk
   by_cases h2:k<σ.length
   ·exact⟨h1,h2⟩
   ·rw [cW h2] at hk;exact absurd rfl hk
  ·rw [qO h1] at hk;simp at hk
 refine⟨?_,?_,?_,?_,?_,?_⟩
 ·intro k;change Nat at k
  by_cases hk:bz σ [] k=.hole
  ·rw [hk];rfl
  ·obtain⟨h1,h2⟩:=hL k hk;rw [kV h1,cN h2];exact hpass _ (aW h2)
 ·intro k;change Nat at k
  by_cases h1:k<1000
  ·by_cases h2:k<σ.length
   ·have h3:aJ sel nk kh k=sel[k]'(by omega):=by simp only [aJ,if_pos h1];exact cN (by omega)
    rw [kV h1,cN h2];show (lv (aJ sel nk kh k)).as _ _;rw [h3];exact hsel k (by omega) h2
   ·have h3:aJ sel nk kh k=kh:=by simp only [aJ,if_pos h1];exact cW (by omega)
    rw [kV h1,cW h2];show lv (aJ sel nk kh k)=.hole;rw [h3];exact hh
  ·rw [qO h1];show (lv (aJ sel nk kh k)).as (List.getD [] (k - 1000) .hole) _;have h4:List.getD ([]:List LB) (k - 1000) .hole=.hole:=by simp
   rw [h4];show lv (aJ sel nk kh k)=.hole
   by_cases h2:k - 1000<nk.length
   ·have h3:aJ sel nk kh k=nk[k - 1000]:=by simp only [aJ,if_neg h1];exact cN h2
    rw [h3];exact hnk _ (aW h2)
   ·have h3:aJ sel nk kh k=kh:=by simp only [aJ,if_neg h1];exact cW h2
    rw [h3];exact hh
 ·intro k' k h;change Nat at k;unfold qi at h;split at h
  ·rename_i j hj
   simp only [ai] at h;subst h;rw [YY] at hj;obtain⟨hlt,he,_⟩:=hj;have h1:j<1000:=by omega
   refine⟨?_,?_⟩
   ·simp only [aJ,if_pos h1];rw [cN hlt];simpa using he
   ·rw [kV h1,cN (by omega)];exact hnh _ (by simp [aW])
  ·split at h
   ·rename_i j hj
    simp only [ai] at h;subst h;rw [YY] at hj;obtain⟨hlt,he,_⟩:=hj;have h1:¬ 1000+j<1000:=by omega
    refine⟨?_,?_⟩
    ·simp only [aJ,if_neg h1,XN];rw [cN hlt];simpa using he
    ·rw [qO h1,XN,cN (by omega)];exact hnh _ (by simp [aW])
   ·cases h
 ·intro k hk;change Nat at k
  by_cases h1:k<1000
  ·rw [kV h1] at hk
   have h2:k<σ'.length:=by
    rcases Yj k σ'.length with h|h
    ·exact h
    ·rw [cW (by omega)] at hk;exact absurd rfl hk
   have h3:aJ sel nk kh k=sel[k]'(by omega):=by simp only [aJ,if_pos h1];exact cN (by omega)
   rw [h3];unfold qi;rw [idxOf_getElem hns (by omega)]
  ·obtain⟨m,rfl⟩:∃ m:Nat,k=1000+m:=⟨k - 1000,by omega⟩
   rw [qO h1,XN] at hk
   have h2:m<ν.length:=by
    rcases Yj m ν.length with h|h
    ·exact h
    ·rw [cW (by omega)] at hk;exact absurd rfl hk
   have h4:m<nk.length:=by omega
   have h3:aJ sel nk kh (1000+m)=nk[m]'h4:=by
    unfold aJ;rw [if_neg h1,XN];exact cN h4
   rw [h3];unfold qi;rw [FA (fun hm=>hdis _ hm _ (aW h4) rfl),idxOf_getElem hnn h4]
 ·intro k hk;change Nat at k;obtain⟨h1,h2⟩:=hL k hk;rw [kV h1,cN (by omega)];exact hnh _ (by simp [aW])
 ·intro ho k hk;change Nat at k;obtain⟨h1,h2⟩:=hL k (iu hk);have h3:aJ sel nk kh k=sel[k]'(by omega):=by simp only [aJ,if_pos h1];exact cN (by omega)
  show (lv (aJ sel nk kh k)).Fy=true;rw [h3];exact hown ho _ (aW _)
theorem jU (g:Key→Key)(own:Bool):∀ (ks:List Key) (bs:List LB),ks.length=bs.length→(cj g own ks bs).map (·.1)=ks
 | [],[],_=>rfl
 | k::ks,b::bs,h=>by
  have:=jU g own ks bs (by simpa using h);simp only [cj,List.zipWith_cons_cons,WX] at this ⊢;rw [this]
 | [],_::_,h=>by simp at h
 | _::_,[],h=>by simp at h
theorem zm (g:Key→Key)(own:Bool){bs:List LB}(h:i<ks.length) (h':i<bs.length):(ks[i],(bs[i].bU g).fix own)∈cj g own ks bs:=by
 unfold cj;rw [List.mem_iff_getElem];exact⟨i,by simp;omega,by simp⟩
theorem ET(hn:(sel++nk).Nodup)
 (hl2:sel.length=σ'.length) (hl3:nk.length=ν.length) (hb:σ'.length≤1000) :
 eX ⟨fr,lv⟩ (aJ sel nk kh) (qi sel nk) (bz σ' ν) own=aS lv (cj (aJ sel nk kh) own sel σ'++cj (aJ sel nk kh) own nk ν):=by
 funext k'
 have hkeys:(cj (aJ sel nk kh) own sel σ'++cj (aJ sel nk kh) own nk ν).map (·.1)=sel++nk:=by
  rw [YH,jU _ _ _ _ hl2,jU _ _ _ _ hl3]
 unfold eX qi
 cases h1:sel.idxOf? k' with
 | some j=>
  rw [YY] at h1;obtain⟨hlt,he,_⟩:=h1;have he:sel[j]=k':=by simpa using he
  subst he;simp only;rw [js (by rw [hkeys];exact hn) (Yk _ (zm _ own hlt (by omega)))];have hlt':j<σ'.length:=by omega
  have hlt2:(show Nat from j)<1000:=by show j<1000;omega
  rw [kV hlt2,cN hlt']
 | none=>
  have h1':k' ∉ sel:=by rwa [List.idxOf?_eq_none_iff] at h1
  simp only
  cases h2:nk.idxOf? k' with
  | some j=>
   rw [YY] at h2;obtain⟨hlt,he,_⟩:=h2;have he:nk[j]=k':=by simpa using he
   subst he;simp only;rw [js (by rw [hkeys];exact hn) (Yq _ (zm _ own hlt (by omega)))];have hlt':j<ν.length:=by omega
   have hlt2:¬ (show Nat from 1000+j)<1000:=by show ¬ 1000+j<1000;omega
   rw [qO hlt2,XN,cN hlt']
  | none=>
   have h2':k' ∉ nk:=by rwa [List.idxOf?_eq_none_iff] at h2
   simp only;rw [bX (by rw [hkeys];simp [h1',h2'])]
theorem gm (Z:List (Key × TypeId × List CV)):(dJ Z).map (·.1)=Z.map (·.1):=by simp [dJ]
theorem bS.PA(hd:∀ d,o.dst=some d→d<c.n) (ho:o.op=.call cl) (hcal:cl.callee=.value fo)
 (hfo:s.val c.G fo=fv) (ht:b7 fv=some (f,fs,cs)) (hf:aG c.P f=true) (he:bS c f (fs++cl.args.toList.map (s.val c.G)++cs) s.lv x us rds) :
 bT c o s (aB.put ⟨s.fr,aS s.lv us⟩ o.dst x):=by
 cases he with
 | flat us' ks rds x ha hc hx hr=>exact bS.LN hd ho hcal hfo ht hf ha hc hx
 | gen us Z sel nk kh σ σ' ν x own rds hZ hZn hn hZs hkh hkZ hl1 hl2 hl3 hb hsel hnk hh hpass hnh hown hlen hargs hrd hrh hc=>
  intro F β a w K Q h hK;refine GM h ho hcal hfo ht hf fun vs hl hv=>?_;obtain⟨F1,h1,hF1⟩:=aD.GR (Z:=Z) (lv:=s.lv) h hZn hZ
  have hsame:∀ k,(∀ z∈Z,z.1≠k)→aS s.lv (dJ Z) k=s.lv k:=fun k hk=>bX (by
   rw [gm];intro hm;obtain⟨z,hz,e⟩:=List.mem_map.1 hm;exact hk z hz e)
  have hB:vJ ⟨s.fr,aS s.lv (dJ Z)⟩ (aJ sel nk kh) (qi sel nk) (bz σ []) (bz σ' ν) own:=by
   refine Np hn hl1 hl2 hl3 hb (fun i p q=>?_) (fun k hk=>?_) ?_ hpass hnh (fun ho k hk=>?_)
   ·rw [hsame _ (fun z hz e=>hZs z hz (by rw [e];simp [aW]))];exact hsel i p q
   ·rw [hsame _ (fun z hz e=>hZs z hz (by rw [e];simp [hk]))];exact hnk k hk
   ·rw [hsame _ hkZ];exact hh
   ·rw [hsame _ (fun z hz e=>hZs z hz (by rw [e];simp [hk]))];exact hown ho k hk
  have hR:=hB.bU (F:=F1) (β:=β) (w:=w)
  have hK1:∀ v x,(Vw.mk F β s.lv w).av v x→(Vw.mk F1 β (aS s.lv (dJ Z)) w).av v x:=by
   intro v x hv;refine (Vw.iF (V:=Vw.mk F β s.lv w) (V':=Vw.mk F1 β (aS s.lv (dJ Z)) w) hF1 (fun _ _=>rfl) (fun k=>?_) (fun _ _ _=>rfl) (fun _=>bg _)).av hv;show (s.lv k).sub (aS s.lv (dJ Z) k)
   by_cases hk:k∈Z.map (·.1)
   ·obtain⟨z,hz,rfl⟩:=List.mem_map.1 hk;rw [hZ z hz,js (b:=.cells true true z.2.1 z.2.2) (by rw [gm];exact hZn) (by simp only [dJ,Xp];exact⟨z,hz,rfl⟩)];simp [LB.sub]
   ·rw [bX (by rw [gm];exact hk)];exact LB.bw _
  refine (hc F1 (fun k=>β (aJ sel nk kh k)) w vs (h1.enter hB) (by omega) (fun i p q=>?_)).mono fun e w' he=>?_
  ·have C7:=hK1 _ _ (hv i (by omega) q);rcases hargs i (by omega) p with ⟨g1,g2⟩|⟨ks,g1,g2⟩
   ·rw [g2] at C7;exact hR.av g1 C7
   ·exact h1.vF.eC (fun _ hb=>hb) g1 (fun k hk=>by
     obtain⟨own',T,cs',e⟩:=g2 k hk;have hb:=h1.bF k;unfold Vw.bF at hb;simp only [e] at hb;obtain⟨arr,p1,p2,p3,p4,p5⟩:=hb;exact p4) C7
  ·obtain⟨v,F',β',rfl,hS',hav⟩:=he;have hbk:=h1.back hB hS';have hup:=(hB.up (β:=β) F' β' w').av hav;rw [ET hn (by omega) hl3 (by omega)] at hbk hup;rw [← Dc,← WY] at hbk hup;exact⟨v,rfl,hK _ _ _ _ (hbk.A8 hd hup)⟩
end
theorem jn {f g:CV→Option (DV × List Key)}:∀ {cs:List CV},(∀ x∈cs,f x=g x)→fU f cs=fU g cs
 | [],_=>rfl
 | x::r,h=>by simp only [fU,h x (by simp),jn (cs:=r) (fun y hy=>h y (by simp [hy]))]
theorem iq {α β:Type}{f g:α→List β}:∀ {l:List α},(∀ x∈l,f x=g x)→l.flatMap f=l.flatMap g
 | [],_=>rfl
 | x::r,h=>by simp only [List.flatMap_cons,h x (by simp),iq (l:=r) (fun y hy=>h y (by simp [hy]))]
theorem mN {lv lv':Key→LB}:∀ (n:Nat) (x:CV),(∀ k∈lY lv n x,lv' k=lv k)→cU lv' n x=cU lv n x∧lY lv' n x=lY lv n x
 | n+1,.ptr k off,h=>by
  have h1:lv' k=lv k:=h k (by simp [lY]);simp only [cU,lY,h1]
  cases e:lv k with
  | cells own fz T cs=>
   have ih:∀ x∈cs,cU lv' n x=cU lv n x∧lY lv' n x=lY lv n x:=fun x hx=>mN n x fun k' hk'=>h k' (by
    simp only [lY,e,WM,XQ];exact .inr ⟨x,hx,hk'⟩)
   simp only;refine⟨?_,?_⟩
   ·rw [jn (fun x hx=>(ih x (X3 hx)).1)]
   ·congr 1;exact iq fun x hx=>(ih x hx).2
  | _=>exact⟨rfl,rfl⟩
 | n+1,.aR k off len sz,h=>by
  have h1:lv' k=lv k:=h k (by simp [lY]);simp only [cU,lY,h1]
  cases e:lv k with
  | cells own fz T cs=>
   have ih:∀ x∈cs,cU lv' n x=cU lv n x∧lY lv' n x=lY lv n x:=fun x hx=>mN n x fun k' hk'=>h k' (by
    simp only [lY,e,WM,XQ];exact .inr ⟨x,hx,hk'⟩)
   simp only;refine⟨?_,?_⟩
   ·rw [jn (fun x hx=>(ih x (X3 (X9 hx))).1)]
   ·congr 1;exact iq fun x hx=>(ih x hx).2
  | _=>exact⟨rfl,rfl⟩
 | n,.d x,_=>by cases n <;> exact⟨rfl,rfl⟩
 | 0,.ptr ..,_=>⟨rfl,rfl⟩
 | 0,.aR ..,_=>⟨rfl,rfl⟩
 | n,.mapr _,_=>by cases n <;> exact⟨rfl,rfl⟩
 | n,.func ..,_=>by cases n <;> exact⟨rfl,rfl⟩
 | n,.ifc ..,_=>by cases n <;> exact⟨rfl,rfl⟩
 | n,.junk,_=>by cases n <;> exact⟨rfl,rfl⟩
theorem pg {f:CV→Option (DV × List Key)}{g:CV→List Key}:∀ {cs:List CV}{l:List DV}{ks:List Key},(∀ x∈cs,∀ d ks,f x=some (d,ks)→∀ k∈ks,k∈g x)→fU f cs=some (l,ks)→∀ k∈ks,k∈cs.flatMap g
 | [],l,ks,_,h=>by simp only [fU,ai,cy] at h;obtain⟨rfl,rfl⟩:=h;simp
 | x::r,l,ks,hf,h=>by
  simp only [fU] at h;split at h
  ·rename_i d k l' ks' h1 h2
   simp only [ai,cy] at h;obtain⟨rfl,rfl⟩:=h;intro y hy;simp only [List.flatMap_cons,XF];rcases List.mem_append.1 hy with h|h
   ·exact .inl (hf x (by simp) _ _ h1 y h)
   ·exact .inr (pg (fun x hx=>hf x (by simp [hx])) h2 y h)
  ·cases h
theorem si {lv:Key→LB}:∀ (n:Nat) (x:CV) (d:DV) (ks:List Key),cU lv n x=some (d,ks)→∀ k∈ks,k∈lY lv n x
 | n,.d x,d,ks,h=>by simp only [cU,ai,cy] at h;obtain⟨rfl,rfl⟩:=h;simp
 | n+1,.ptr k off,d,ks,h=>by
  simp only [cU] at h;simp only [lY];split at h
  ·rename_i own fz T cs e
   split at h
   ·rw [W7] at h;obtain⟨⟨l,ks'⟩,ht,he⟩:=h;simp only [cy] at he;obtain⟨rfl,rfl⟩:=he;intro y hy;rcases List.mem_cons.1 hy with rfl|hy
    ·simp
    ·have:=pg (g:=lY lv n) (fun x _ d ks hx=>si n x d ks hx) ht y hy;obtain⟨x,hx,hk⟩:=List.mem_flatMap.1 this
     try rw [e]
     exact XO _ (List.mem_flatMap.2 ⟨x,X3 hx,hk⟩)
   ·cases h
  ·cases h
 | n+1,.aR k off len sz,d,ks,h=>by
  simp only [cU] at h;simp only [lY];split at h
  ·rename_i own fz T cs e
   split at h
   ·rw [W7] at h;obtain⟨⟨l,ks'⟩,ht,he⟩:=h;simp only [cy] at he;obtain⟨rfl,rfl⟩:=he;intro y hy;rcases List.mem_cons.1 hy with rfl|hy
    ·simp
    ·have:=pg (g:=lY lv n) (fun x _ d ks hx=>si n x d ks hx) ht y hy;obtain⟨x,hx,hk⟩:=List.mem_flatMap.1 this
     try rw [e]
     exact XO _ (List.mem_flatMap.2 ⟨x,X3 (X9 hx),hk⟩)
   ·cases h
  ·simp only [ai,cy] at h;obtain⟨rfl,rfl⟩:=h;simp
  ·cases h
 | 0,.ptr ..,_,_,h=>by cases h
 | 0,.aR ..,_,_,h=>by cases h
 | n,.mapr _,_,_,h=>by cases n <;> cases h
 | n,.func ..,_,_,h=>by cases n <;> cases h
 | n,.ifc ..,_,_,h=>by cases n <;> cases h
 | n,.junk,_,_,h=>by cases n <;> cases h
theorem mU(h:∀ k∈pE lv x,lv' k=lv k):eC lv' x=eC lv x∧pE lv' x=pE lv x:=by
 cases x with
 | c x=>obtain⟨h1,h2⟩:=mN 8 x h;exact⟨by simp only [eC,h1],h2⟩
 | agg cs=>
  have ih:∀ x∈cs,cU lv' 8 x=cU lv 8 x∧lY lv' 8 x=lY lv 8 x:=fun x hx=>mN 8 x fun k hk=>h k (List.mem_flatMap.2 ⟨x,hx,hk⟩)
  exact⟨by simp only [eC,jn (fun x hx=>(ih x hx).1)],iq fun x hx=>(ih x hx).2⟩
 | tup l=>exact⟨rfl,rfl⟩
 | undef=>exact⟨rfl,rfl⟩
 | junk=>exact⟨rfl,rfl⟩
theorem JV(h:eC lv x=some (y,ks)):∀ k∈ks,k∈pE lv x:=by
 cases x with
 | c x=>
  simp only [eC,W7] at h;obtain⟨⟨d,ks'⟩,ht,he⟩:=h;simp only [cy] at he;obtain⟨rfl,rfl⟩:=he;exact si _ _ _ _ ht
 | agg cs=>
  simp only [eC,W7] at h;obtain⟨⟨d,ks'⟩,ht,he⟩:=h;simp only [cy] at he;obtain⟨rfl,rfl⟩:=he;exact pg (fun x _ d ks hx=>si 8 x d ks hx) ht
 | tup l=>cases h
 | undef=>cases h
 | junk=>cases h
theorem uI {lv lv':Key→LB}:∀ {xs:List AV},(∀ a∈xs,∀ k∈pE lv a,lv' k=lv k)→jo lv' xs=jo lv xs
 | [],_=>rfl
 | x::r,h=>by simp only [jo,(mU (h x (by simp))).1,uI (xs:=r) (fun a ha=>h a (by simp [ha]))]
theorem bS.local{xs:List AV}(h:bS c f xs lv x us rds) (ha:Agree lv lv' us rds):bS c f xs lv' x us rds:=by
 obtain⟨ha1,ha2⟩:=ha
 cases h with
 | flat us' ks rds x hd hc hx hr=>
  have hl:∀ a∈xs,∀ k∈pE lv a,lv' k=lv k:=fun a h k hk=>ha1 k (hr a h k hk)
  exact .flat us' ks rds x (by rw [uI hl];exact hd) hc hx (fun a h k hk=>hr a h k (by rw [(mU (hl a h)).2] at hk;exact hk))
 | gen us Z sel nk kh σ σ' ν x own rds hZ hZn hn hZs hkh hkZ hl1 hl2 hl3 hb hsel hnk hh hpass hnh hown hlen hargs hrd hrh hc=>
  have hkeysZ:∀ z∈Z,lv' z.1=lv z.1:=fun z hz=>ha2 (z.1,.cells true true z.2.1 z.2.2) (by
   refine Yk _ (Yk _ ?_);simp only [dJ,Xp];exact⟨z,hz,rfl⟩)
  have hks:∀ i (h:i<sel.length),lv' sel[i]=lv sel[i]:=fun i h=>by
   have hm:sel[i]∈(cj (aJ sel nk kh) own sel σ').map (·.1):=by rw [jU _ _ _ _ (by omega)];exact aW h
   obtain⟨p,hp,e⟩:=List.mem_map.1 hm;rw [← e];exact ha2 p (Yk _ (Yq _ hp))
  have hkn:∀ k∈nk,lv' k=lv k:=fun k hk=>by
   have hm:k∈(cj (aJ sel nk kh) own nk ν).map (·.1):=by rw [jU _ _ _ _ (by omega)];exact hk
   obtain⟨p,hp,e⟩:=List.mem_map.1 hm;rw [← e];exact ha2 p (Yq _ hp)
  have hfr:∀ k,(k∈rds∨k∈Z.map (·.1))→aS lv' (dJ Z) k=aS lv (dJ Z) k:=by
   intro k hk
   by_cases hz:k∈(dJ Z).map (·.1)
   ·obtain⟨p,hp,e⟩:=List.mem_map.1 hz;have hn':((dJ Z).map (·.1)).Nodup:=by rw [gm];exact hZn
    obtain⟨k',b⟩:=p;simp only at e;subst e;rw [js hn' hp,js hn' hp]
   ·rw [bX hz,bX hz];rcases hk with hk|hk
    ·exact ha1 k hk
    ·rw [gm] at hz;exact absurd hk hz
  have hla:∀ a∈xs,∀ k∈pE (aS lv (dJ Z)) a,aS lv' (dJ Z) k=aS lv (dJ Z) k:=fun a h k hk=>hfr k (hrd a h k hk)
  refine .gen us Z sel nk kh σ σ' ν x own rds (fun z hz=>by rw [hkeysZ z hz];exact hZ z hz) hZn hn hZs hkh hkZ hl1 hl2 hl3 hb (fun i p q=>by rw [hks i p];exact hsel i p q)
   (fun k hk=>by rw [hkn k hk];exact hnk k hk) (by rw [ha1 kh hrh];exact hh) hpass hnh (fun ho k hk=>?_) hlen (fun i p q=>?_) (fun a h k hk=>?_) hrh hc
  ·obtain⟨i,hi,rfl⟩:=List.mem_iff_getElem.1 hk;rw [hks i hi];exact hown ho _ (aW hi)
  ·rcases hargs i p q with ⟨g1,g2⟩|⟨ks,g1,g2⟩
   ·exact .inl ⟨g1,g2⟩
   ·refine .inr ⟨ks,by rw [(mU (hla _ (aW p))).1];exact g1,fun k hk=>?_⟩;rw [hla _ (aW p) k (JV g1 k hk)];exact g2 k hk
  ·rw [(mU (hla a h)).2] at hk;exact hrd a h k hk
def oH (r:Option Nat):Fence:={ Fence.wide with round:=r }
theorem Dn{args:Array Value}{R:Ending→World→Prop}(h:Calls P f args w R):CallsIn (oH r) n P f args w R:=
 (callsIn_wide (n:=n)).2 h
theorem Ff{row:String}{args:Array Value}{R:Value→World→Prop}(h:Rows P row args w R):RowsIn (oH r) n P row args w R:=
 fun c cs _=>let ⟨v,w',hr,hs⟩:=h c cs;⟨v,w',hr,stepsIn_wide.2 hs⟩
theorem rN(hd:∀ c,o.op≠.defer c) (h:o.wp P a w K Q) :
 o.wpIn (oH r) n P a w K Q:=by
 refine⟨fun _ _=>trivial,?_⟩;rw [Oper.semAt_eq _ _ _ hd];unfold Oper.wp at h;generalize (execOp a.eval o).run P w=res at *
 have hdep:∀ m:Nat,(oH r).depth.isSome=true→1≤m:=fun m h=>by simp [oH,Fence.wide] at h
 cases res with
 | ok x w'=>
  cases x <;> simp only [Oper.upon] at h <;> simp only [Oper.uponIn] <;> first|exact h|exact⟨hdep _,Dn h⟩|exact⟨hdep _,Ff h⟩|exact h.elim
 | halt x w'=>cases x <;> simp only [Oper.upon] at h <;> simp only [Oper.uponIn] <;> first|exact h|exact h.elim
def dM (ops:Array Oper)(g:Option (Nat × Bool))(fr:Nat→AV):Option Bool:=
 match g with
 | none=>some true
 | some (j,want)=>match (ops[j]?).bind (·.dst) with
  | some d=>match fr d with
   | .c (.d (.bool b))=>some (b == want)
   | .undef=>some false
   | _=>none
  | none=>none
section
variable {c:Ctx}{F:Nat→Prop}{β:Key→Nat}{s:aB}{a:Act}{w:World}{ops:Array Oper}
theorem fP(h:aD c F β s a w) (hw:dM ops o.guard s.fr=some b):Region.wanted o (yielded ops a.tmps)=b:=by
 unfold dM at hw;unfold Region.wanted;split at hw
 ·rename_i hg;rw [hg];simpa using hw
 ·rename_i j want hg
  rw [hg];simp only;split at hw
  ·rename_i d hd
   have hv:=h.fr d;unfold yielded;rw [hd];simp only [Option.bind_some];split at hw
   ·rename_i b' hb
    rw [hb] at hv;have hv':=Vw.qD hv;simp only [ai] at hw;subst hw
    have hq:a.tmps[d]?=some (.bool b'):=by
     cases e:a.tmps[d]? with
     | none=>rw [Xz,e] at hv';cases hv'
     | some v=>rw [Xz,e] at hv';simp at hv';rw [hv']
    rw [hq];cases b' <;> cases want <;> rfl
   ·rename_i hb
    rw [hb] at hv;simp only [ai] at hw;subst hw;have hv':a.tmps.getD d undef=undef:=hv
    cases e:a.tmps[d]? with
    | none=>rfl
    | some v=>
     rw [Xz,e] at hv';simp at hv';subst hv';rfl
   ·cases hw
  ·cases hw
end
structure Fx where
 x:AV
 us:List (Key × LB)
 rds:List Key
variable {e e':Fx}{es:List Fx}
def Fx.app (e:Fx)(dst:Option Nat)(s:aB):aB:=aB.put ⟨s.fr,aS s.lv e.us⟩ dst e.x
def cM (c:Ctx)(r:Option Nat)(ops:Array Oper)(o:Oper)(s0:aB)(e:Fx):Prop:=
 ∀ s:aB,(∀ t∈o.looksAt ops,s.fr t=s0.fr t)→Agree s0.lv s.lv e.us e.rds →
  ∀ F β a w K Q,aD c F β s a w→(∀ F' β' a' w',aD c F' β' (e.app o.dst s) a' w'→K a' w') →
   if Region.wanted o (yielded ops a.tmps) then o.wpIn (oH r) 0 c.P a w K Q else K (a.put o.dst undef) w
theorem val_congr{x:Operand}(h:∀ t,x=.tmp t→s.fr t=s0.fr t):s.val G x=s0.val G x:=by
 cases x with
 | tmp t=>exact h t rfl
 | _=>rfl
theorem wN(h:∀ t∈o.looksAt ops,s.fr t=s0.fr t):∀ x∈o.op.operands.toList,s.val G x=s0.val G x:=by
 intro x hx;refine val_congr fun t ht=>h t ?_;subst ht;exact Yk _ (List.mem_filterMap.2 ⟨.tmp t,hx,rfl⟩)
theorem mm(h:∀ t∈o.looksAt ops,s.fr t=s0.fr t):dM ops o.guard s.fr=dM ops o.guard s0.fr:=by
 unfold dM
 cases hg:o.guard with
 | none=>rfl
 | some p=>
  obtain⟨j,want⟩:=p;simp only
  cases hd:(ops[j]?).bind (·.dst) with
  | none=>rfl
  | some d=>
   simp only;rw [h d (Yq _ (by rw [hg];simp [hd]))]
section
variable {c:Ctx}{r:Option Nat}{ops:Array Oper}{o:Oper}{s0:aB}
theorem cM.skip (hd:∀ d,o.dst=some d→d<c.n)(hw:dM ops o.guard s0.fr=some false):cM c r ops o s0 ⟨.undef,[],[]⟩:=by
 intro s h1 _ F β a w K Q h hK;rw [fP h ((mm h1).trans hw)];simp only [WS,if_false];exact hK F β _ _ (h.A8 hd (mg _))
theorem cM.nu(hw:dM ops o.guard s0.fr=some true) (hdf:∀ cl,o.op≠.defer cl)
 (hs:∀ s:aB,(∀ x∈o.op.operands.toList,s.val c.G x=s0.val c.G x)→Agree s0.lv s.lv e.us e.rds→bT c o s (e.app o.dst s)):cM c r ops o s0 e:=by
 intro s h1 h2 F β a w K Q h hK;rw [fP h ((mm h1).trans hw)];simp only [if_true];exact rN hdf (hs s (wN h1) h2 F β a w K Q h hK)
theorem cM.plain {κ:Key}{vc:Prop}(hd:∀ d,o.dst=some d→d<c.n) (hw:dM ops o.guard s0.fr=some true)
 (h:bA c.P o.op (o.op.operands.toList.map (s0.val c.G)) s0.lv κ=some (x,us,rds,vc)) (hvc:vc):cM c r ops o s0 ⟨x,us,rds⟩:=by
 refine cM.nu hw (fun cl hcl=>?_) (fun s h1 h2=>?_)
 ·rw [hcl] at h;simp [bA] at h
 ·have hl:=ou h (show Agree s0.lv s.lv us rds from h2);exact zF hd rfl (Xj h1) hl hvc
end
theorem r6:∀ {f g:Key→LB}{k:Key},k∈us.map (·.1)→aS f us k=aS g us k:=by
 induction us with
 | nil=>intro f g k h;cases h
 | cons p us ih=>
  intro f g k h;rw [o7,o7]
  by_cases hk:k∈us.map (·.1)
  ·exact ih hk
  ·rw [bX hk,bX hk];simp only [WX,WM] at h;rcases h with h|h
   ·rw [h,aA,aA]
   ·exact absurd h hk
theorem ny (e:Fx)(dst:Option Nat)(s:aB)(t:Nat):(e.app dst s).fr t=if dst=some t then e.x else s.fr t:=by
 cases dst with
 | none=>simp [Fx.app,aB.put]
 | some d=>
  simp only [Fx.app,aB.put,ai]
  by_cases h:d=t
  ·subst h;rw [aA];simp
  ·rw [aE _ _ (fun e=>h e.symm)];simp [h]
theorem lZ (e:Fx)(dst:Option Nat)(s:aB):(e.app dst s).lv=aS s.lv e.us:=by
 cases dst <;> rfl
def bn (ops:Array Oper)(es:List Fx)(s0:aB)(L:Nat→Bool):Nat→aB
 | 0=>s0
 | m+1=>match ops[m]?,es[m]? with
  | some o,some e=>if L m then e.app o.dst (bn ops es s0 L m) else bn ops es s0 L m
  | _,_=>bn ops es s0 L m
inductive vn (ops:Array Oper):Nat→Nat→Prop where
 | one {i j:Nat}{o:Oper}{ed:Edge}(ho:ops[j]?=some o) (he:ed∈o.after) (hb:Region.binds .any ed=true) (hi:ed.on=i):vn ops i j
 | more {i j:Nat}{o:Oper}{ed:Edge}(ho:ops[j]?=some o) (he:ed∈o.after) (hb:Region.binds .any ed=true) (hi:vn ops i ed.on):vn ops i j
section
variable {ops:Array Oper}{es:List Fx}{s0:aB}{L:Nat→Bool}
theorem fc {L L':Nat→Bool}:∀ {m:Nat},(∀ j,j<m→L j=L' j)→bn ops es s0 L m=bn ops es s0 L' m
 | 0,_=>rfl
 | m+1,h=>by
  have ih:=fc (m:=m) (fun j hj=>h j (by omega));simp only [bn,ih,h m (by omega)]
theorem A1 {i t:Nat}(h:∀ j o,ops[j]?=some o→o.dst=some t→(j<i↔L j=true)):∀ m,(bn ops es s0 L m).fr t=(bn ops es s0 (fun _=>true) (min m i)).fr t
 | 0=>by simp [bn]
 | m+1=>by
  have ih:=A1 h m
  by_cases hm:m<i
  ·have e1:min (m+1) i=min m i+1:=by omega
   have e2:min m i=m:=by omega
   rw [e1,e2];rw [e2] at ih;simp only [bn]
   cases ho:ops[m]? with
   | none=>exact ih
   | some o=>
    cases he:es[m]? with
    | none=>exact ih
    | some e=>
     simp only [if_true]
     by_cases hd:o.dst=some t
     ·rw [(h m o ho hd).1 hm];simp only [if_true,ny,hd]
     ·by_cases hL:L m=true
      ·simp only [hL,if_true,ny,hd,if_false];exact ih
      ·simp only [hL,ny,hd,if_false];exact ih
  ·have e1:min (m+1) i=min m i:=by omega
   rw [e1,← ih];simp only [bn]
   cases ho:ops[m]? with
   | none=>rfl
   | some o=>
    cases he:es[m]? with
    | none=>rfl
    | some e=>
     simp only
     by_cases hL:L m=true
     ·have hd:o.dst≠some t:=fun hd=>hm ((h m o ho hd).2 hL)
      simp only [hL,if_true,ny,hd,if_false]
     ·simp only [hL,if_false,WS]
theorem Gn {i:Nat}{k:Key}(h:∀ (j:Nat) e,es[j]?=some e→k∈e.us.map (·.1)→(j<i↔L j=true)):∀ m,(bn ops es s0 L m).lv k=(bn ops es s0 (fun _=>true) (min m i)).lv k
 | 0=>by simp [bn]
 | m+1=>by
  have ih:=Gn h m
  by_cases hm:m<i
  ·have e1:min (m+1) i=min m i+1:=by omega
   have e2:min m i=m:=by omega
   rw [e1,e2];rw [e2] at ih;simp only [bn]
   cases ho:ops[m]? with
   | none=>exact ih
   | some o=>
    cases he:es[m]? with
    | none=>exact ih
    | some e=>
     simp only [if_true]
     by_cases hd:k∈e.us.map (·.1)
     ·rw [(h m e he hd).1 hm];simp only [if_true,lZ];exact r6 hd
     ·by_cases hL:L m=true
      ·simp only [hL,if_true,lZ,bX hd];exact ih
      ·simp only [hL,lZ,bX hd];exact ih
  ·have e1:min (m+1) i=min m i:=by omega
   rw [e1,← ih];simp only [bn]
   cases ho:ops[m]? with
   | none=>rfl
   | some o=>
    cases he:es[m]? with
    | none=>rfl
    | some e=>
     simp only
     by_cases hL:L m=true
     ·have hd:k ∉ e.us.map (·.1):=fun hd=>hm ((h m e he hd).2 hL)
      simp only [hL,if_true,lZ,bX hd]
     ·simp only [hL,if_false,WS]
theorem uJ {t:Nat}(ho:ops[i]?=some o) (he:es[i]?=some e) (hi:i<n) (hL:L i=false)
 (hlt:∀ j o',i<j→ops[j]?=some o'→L j=true→o.dst=some t→o'.dst≠some t) :
 (e.app o.dst (bn ops es s0 L n)).fr t=(bn ops es s0 (fun j=>L j || j == i) n).fr t:=by
 have below:∀ m,m≤i→bn ops es s0 (fun j=>L j || j == i) m=bn ops es s0 L m:=fun m hm=>
  fc fun j hj=>by have:(j == i)=false:=by simp;omega
                  simp [this]
 have h1:∀ m,i<m→(e.app o.dst (bn ops es s0 L m)).fr t=(bn ops es s0 (fun j=>L j || j == i) m).fr t:=by
  intro m
  induction m with
  | zero=>intro h;omega
  | succ m ih=>
   intro hm
   by_cases hmi:m=i
   ·subst hmi;simp only [bn,ho,he,hL,WS,if_false,beq_self_eq_true,Bool.or_true,if_true];rw [below m (by omega)]
   ·have ih:=ih (by omega);have hne:(m == i)=false:=by simpa using hmi
    simp only [bn]
    cases ho':ops[m]? with
    | none=>exact ih
    | some o'=>
     cases he':es[m]? with
     | none=>exact ih
     | some e'=>
      simp only [hne,Bool.or_false]
      by_cases hLm:L m=true
      ·simp only [hLm,if_true];rw [ny,ny,ny];rw [ny] at ih
       by_cases hd:o.dst=some t
       ·have:=hlt m o' (by omega) ho' hLm hd;simp only [hd,if_true,this,if_false] at ih ⊢;exact ih
       ·simp only [hd,if_false] at ih ⊢;rw [ih]
      ·simp only [hLm,WS,if_false];exact ih
 exact h1 n hi
theorem uz(ho:ops[i]?=some o) (he:es[i]?=some e) (hi:i<n) (hL:L i=false)
 (hlt:∀ (j:Nat) e',i<j→es[j]?=some e'→L j=true→k∈e.us.map (·.1)→k ∉ e'.us.map (·.1)) :
 (e.app o.dst (bn ops es s0 L n)).lv k=(bn ops es s0 (fun j=>L j || j == i) n).lv k:=by
 have below:∀ m,m≤i→bn ops es s0 (fun j=>L j || j == i) m=bn ops es s0 L m:=fun m hm=>
  fc fun j hj=>by have:(j == i)=false:=by simp;omega
                  simp [this]
 have h1:∀ m,i<m→(e.app o.dst (bn ops es s0 L m)).lv k=(bn ops es s0 (fun j=>L j || j == i) m).lv k:=by
  intro m
  induction m with
  | zero=>intro h;omega
  | succ m ih=>
   intro hm
   by_cases hmi:m=i
   ·subst hmi;simp only [bn,ho,he,hL,WS,if_false,beq_self_eq_true,Bool.or_true,if_true];rw [below m (by omega)]
   ·have ih:=ih (by omega);have hne:(m == i)=false:=by simpa using hmi
    simp only [bn]
    cases ho':ops[m]? with
    | none=>exact ih
    | some o'=>
     cases he':es[m]? with
     | none=>exact ih
     | some e'=>
      simp only [hne,Bool.or_false]
      by_cases hLm:L m=true
      ·simp only [hLm,if_true];rw [lZ,lZ,lZ];rw [lZ] at ih
       by_cases hd:k∈e.us.map (·.1)
       ·have hd':=hlt m e' (by omega) he' hLm hd;rw [bX hd',← ih];exact r6 hd
       ·rw [bX hd];rw [bX hd] at ih
        by_cases hd':k∈e'.us.map (·.1)
        ·exact r6 hd'
        ·rw [bX hd',bX hd'];exact ih
      ·simp only [hLm,WS,if_false];exact ih
 exact h1 n hi
end
def On (ops:Array Oper)(o o':Oper)(e e':Fx):Prop:=
 o.apart ops o'=true∧(∀ k∈e.us.map (·.1),k ∉ e'.us.map (·.1)∧k ∉ e'.rds)∧∀ k∈e'.us.map (·.1),k ∉ e.rds
def cnt (p:Nat→Bool):Nat→Nat
 | 0=>0
 | n+1=>cnt p n+(if p n then 1 else 0)
theorem oS {p q:Nat→Bool}:∀ {n:Nat},(∀ i,i<n→p i=q i)→cnt p n=cnt q n
 | 0,_=>rfl
 | n+1,h=>by simp only [cnt,oS (n:=n) (fun i hi=>h i (by omega)),h n (by omega)]
theorem Bm {p:Nat→Bool}{i:Nat}(h:p i=false):∀ {n:Nat},i<n→cnt (fun j=>p j || j == i) n=cnt p n+1
 | 0,hi=>absurd hi (by omega)
 | n+1,hi=>by
  by_cases e:n=i
  ·subst e
   have h0:∀ j,j<n→(p j || j == n)=p j:=fun j hj=>by
    have h1:(j == n)=false:=by simp;omega
    simp [h1]
   have:=oS h0;simp only [cnt,this,h];simp
  ·have hne:(n == i)=false:=by simpa using e
   simp only [cnt,Bm h (n:=n) (by omega),hne,Bool.or_false];omega
theorem KT (p:Nat→Bool):∀ n,cnt p n≤n
 | 0=>bg _
 | n+1=>by have:=KT p n;simp only [cnt];split <;> omega
theorem AZ {p:Nat→Bool}:∀ {n:Nat},n≤cnt p n→∀ i,i<n→p i=true
 | 0,_,i,hi=>absurd hi (by omega)
 | n+1,h,i,hi=>by
  have h1:=KT p n;simp only [cnt] at h
  by_cases hp:p n=true
  ·rw [if_pos hp] at h
   by_cases e:i=n
   ·rw [e];exact hp
   ·exact AZ (n:=n) (by omega) i (by omega)
  ·rw [if_neg hp] at h;omega
theorem mem_ready{listed:Array Bool}:i∈Region.ready .any ops listed ↔
 i<ops.size∧listed.getD i true=false∧∃ o,ops[i]?=some o∧∀ ed∈o.after,Region.binds .any ed=true→listed.getD ed.on false=true:=by
 unfold Region.ready;simp only [List.mem_filter,YZ,cn,W8];refine and_congr_right fun hi=>and_congr_right fun _=>?_;have ho:ops[i]?=some ops[i]:=XM hi;rw [ho];simp only [W4,Yt,Array.all_eq_true',Xl,W8,ai,exists_eq_left'];constructor
 ·intro h ed hed hb;rcases h ed hed with h|h
  ·rw [hb] at h;cases h
  ·exact h
 ·intro h ed hed
  cases hb:Region.binds .any ed with
  | false=>exact .inl rfl
  | true=>exact .inr (h ed hed hb)
section
variable {c:Ctx}{r:Option Nat}{ops:Array Oper}{es:List Fx}{s0:aB}
theorem tr (hlen:es.length=ops.size)
 (hE:∀ (i:Nat) o e,ops[i]?=some o→es[i]?=some e→cM c r ops o (bn ops es s0 (fun _=>true) i) e)
 (hback:∀ (i:Nat) o,ops[i]?=some o→∀ ed∈o.after,Region.binds .any ed=true→ed.on<i)
 (hind:∀ (i j:Nat) o o' e e',i<j→ops[i]?=some o→ops[j]?=some o'→es[i]?=some e→es[j]?=some e'→vn ops i j∨On ops o o' e e')(hQ:∀ F' β' a' w',aD c F' β' (bn ops es s0 (fun _=>true) ops.size) a' w'→Q .normal a' w') :
 ∀ (fuel:Nat) (listed:Array Bool),listed.size=ops.size →
  (∀ (j:Nat) o,ops[j]?=some o→listed.getD j false=true→∀ ed∈o.after,Region.binds .any ed=true→listed.getD ed.on false=true) →
  ops.size≤fuel+cnt (fun j=>listed.getD j false) ops.size →
  ∀ F β a w,aD c F β (bn ops es s0 (fun j=>listed.getD j false) ops.size) a w→wpAnyIn (oH r) 0 c.P .any ops Q fuel listed a w:=by
 intro fuel
 have hall:∀ (listed:Array Bool),(∀ i,i<ops.size→listed.getD i false=true)→∀ F β a w,aD c F β (bn ops es s0 (fun j=>listed.getD j false) ops.size) a w→Q .normal a w:=by
  intro listed hl F β a w h;rw [fc (L':=fun _=>true) hl] at h;exact hQ _ _ _ _ h
 induction fuel with
 | zero=>
  intro listed hsz hcl hcnt F β a w h;have hl:=AZ (p:=fun j=>listed.getD j false) (n:=ops.size) (by omega);refine⟨?_,hall listed hl F β a w h⟩;rw [List.eq_nil_iff_forall_not_mem];intro i hi;obtain⟨h1,h2,_⟩:=mem_ready.1 hi;have h3:listed.getD i false=true:=hl i h1;have h4:i<listed.size:=by omega
  simp [Array.getD,h4] at h2 h3;rw [h2] at h3;cases h3
 | succ fuel ih=>
  intro listed hsz hcl hcnt F β a w h
  have hanc:∀ i j,vn ops i j→listed.getD j false=true→listed.getD i false=true:=by
   intro i j ha
   induction ha with
   | one ho he hb hi=>intro hj;subst hi;exact hcl _ _ ho hj _ he hb
   | more ho he hb _ ih=>intro hj;exact ih (hcl _ _ ho hj _ he hb)
  refine⟨fun hnil=>?_,fun i hi=>?_⟩
  ·refine hall listed (fun i hi=>?_) F β a w h
   induction i using Nat.strongRecOn with
   | _ i ihi=>
    cases hL:listed.getD i false with
    | true=>rfl
    | false=>
     exfalso
     have:i∈Region.ready .any ops listed:=by
      refine mem_ready.2 ⟨hi,?_,ops[i],XM hi,fun ed hed hb=>?_⟩
      ·have h4:i<listed.size:=by omega
       simp [Array.getD,h4] at hL ⊢;exact hL
      ·have:=hback i _ (XM hi) ed hed hb;exact ihi _ this (by omega)
     rw [hnil] at this;cases this
  ·obtain⟨hi1,hi2,o,ho,hpre⟩:=mem_ready.1 hi;have h4:i<listed.size:=by omega
   have hLi:listed.getD i false=false:=by simp [Array.getD,h4] at hi2 ⊢;exact hi2
   obtain⟨e,he⟩:∃ e,es[i]?=some e:=⟨es[i]'(by omega),rP (by omega)⟩
   have hes:∀ j o',ops[j]?=some o'→∃ e',es[j]?=some e':=fun j o' h'=>by
    have:j<ops.size:=(Array.getElem?_eq_some_iff.1 h').1;exact⟨es[j]'(by omega),rP (by omega)⟩
   have hos:∀ (j:Nat) e',es[j]?=some e'→∃ o',ops[j]?=some o':=fun j e' h'=>by
    have:j<es.length:=(List.getElem?_eq_some_iff.1 h').1;exact⟨ops[j]'(by omega),XM (by omega)⟩
   have hancR:∀ j,vn ops j i→listed.getD j false=true:=by
    intro j ha
    cases ha with
    | one ho' he' hb hj=>
     rw [ho] at ho';simp only [ai] at ho';subst ho';subst hj;exact hpre _ he' hb
    | more ho' he' hb hj=>
     rw [ho] at ho';simp only [ai] at ho';subst ho';exact hanc _ _ hj (hpre _ he' hb)
   have key:=hE i o e ho he (bn ops es s0 (fun j=>listed.getD j false) ops.size) (fun t ht=>?_) ?_ F β a w
    (wpAnyIn (oH r) 0 c.P .any ops Q fuel (listed.setIfInBounds i true)) Q h (fun F' β' a' w' h'=>?_)
   ·unfold wpOpIn;rw [ho];simp only;split at key
    ·rename_i hw;rw [if_pos hw];exact key
    ·rename_i hw;rw [if_neg hw];exact⟨fun _ _=>trivial,key⟩
   ·rw [A1 (i:=i) (fun j o' ho' hd=>?_) ops.size,Nat.min_eq_right (by omega)];obtain⟨e',he'⟩:=hes j o' ho';constructor
    ·intro hji;rcases hind j i o' o e' e hji ho' ho he' he with ha|ha
     ·exact hancR j ha
     ·exact absurd ht ((YJ ha.1).1 t hd)
    ·intro hj;rcases Nat.lt_trichotomy j i with hlt|heq|hgt
     ·exact hlt
     ·subst heq;rw [hLi] at hj;cases hj
     ·rcases hind i j o o' e e' hgt ho ho' he he' with ha|ha
      ·have:=hanc _ _ ha hj;rw [hLi] at this;cases this
      ·exact absurd ht ((YJ ha.1).2.2 t hd)
   ·have hk:∀ k,(k∈e.rds∨k∈e.us.map (·.1))→(bn ops es s0 (fun j=>listed.getD j false) ops.size).lv k=(bn ops es s0 (fun _=>true) i).lv k:=by
     intro k hk;rw [Gn (i:=i) (fun j e' he' hd=>?_) ops.size,Nat.min_eq_right (by omega)];obtain⟨o',ho'⟩:=hos j e' he';constructor
     ·intro hji;rcases hind j i o' o e' e hji ho' ho he' he with ha|ha
      ·exact hancR j ha
      ·rcases hk with hk|hk
       ·exact absurd hk (ha.2.1 k hd).2
       ·exact absurd hk (ha.2.1 k hd).1
     ·intro hj;rcases Nat.lt_trichotomy j i with hlt|heq|hgt
      ·exact hlt
      ·subst heq;rw [hLi] at hj;cases hj
      ·rcases hind i j o o' e e' hgt ho ho' he he' with ha|ha
       ·have:=hanc _ _ ha hj;rw [hLi] at this;cases this
       ·rcases hk with hk|hk
        ·exact absurd hk (ha.2.2 k hd)
        ·exact absurd hd (ha.2.1 k hk).1
    exact⟨fun k h'=>hk k (.inl h'),fun p h'=>hk p.1 (.inr (Zd h'))⟩
   ·have hset:∀ j,(listed.setIfInBounds i true).getD j false=(listed.getD j false || j == i):=by
     intro j;simp only [Xz,YD]
     by_cases hj:i=j
     ·subst hj;simp [h4]
     ·have hne:(j == i)=false:=by simp;exact fun e=>hj e.symm
      simp [hj,hne]
    refine ih (listed.setIfInBounds i true) (by simp [hsz]) (fun j o' ho' hj ed hed hb=>?_) ?_ F' β' a' w' ?_
    ·rw [hset] at hj ⊢;simp only [Xl,beq_iff_eq] at hj ⊢;rcases hj with hj|hj
     ·exact .inl (hcl j o' ho' hj ed hed hb)
     ·subst hj;rw [ho] at ho';simp only [ai] at ho';subst ho';exact .inl (hpre ed hed hb)
    ·rw [oS (q:=fun j=>listed.getD j false || j == i) (fun j _=>hset j),Bm (p:=fun j=>listed.getD j false) hLi hi1];omega
    ·rw [fc (L':=fun j=>listed.getD j false || j == i) (fun j _=>hset j)]
     have hst:e.app o.dst (bn ops es s0 (fun j=>listed.getD j false) ops.size)=bn ops es s0 (fun j=>listed.getD j false || j == i) ops.size:=by
      have e1:(e.app o.dst (bn ops es s0 (fun j=>listed.getD j false) ops.size)).fr=(bn ops es s0 (fun j=>listed.getD j false || j == i) ops.size).fr:=by
       funext t;refine uJ ho he hi1 hLi (fun j o' hij ho' hj hd=>?_);obtain⟨e',he'⟩:=hes j o' ho';rcases hind i j o o' e e' hij ho ho' he he' with ha|ha
       ·have:=hanc _ _ ha hj;rw [hLi] at this;cases this
       ·exact (YJ ha.1).2.1 t hd
      have e2:(e.app o.dst (bn ops es s0 (fun j=>listed.getD j false) ops.size)).lv=(bn ops es s0 (fun j=>listed.getD j false || j == i) ops.size).lv:=by
       funext k;refine uz ho he hi1 hLi (fun j e' hij he' hj hd=>?_);obtain⟨o',ho'⟩:=hos j e' he';rcases hind i j o o' e e' hij ho ho' he he' with ha|ha
       ·have:=hanc _ _ ha hj;rw [hLi] at this;cases this
       ·exact (ha.2.1 k hd).1
      cases h1:e.app o.dst (bn ops es s0 (fun j=>listed.getD j false) ops.size)
      cases h2:bn ops es s0 (fun j=>listed.getD j false || j == i) ops.size
      rw [h1,h2] at e1 e2;simp only at e1 e2;rw [e1,e2]
     rw [← hst];exact h'
end
def AL (acc:List Nat)(o:Oper):Nat:=o.after.toList.foldl (fun m e=>if Region.binds .any e then m ||| (2 ^ e.on ||| acc.getD e.on 0) else m) 0
def gI:List Oper→List Nat→List Nat
 | [],acc=>acc
 | o::r,acc=>gI r (acc++[AL acc o])
theorem yt {acc:List Nat}{i:Nat}:∀ (l:List Edge) (m:Nat),(l.foldl (fun m e=>if Region.binds .any e then m ||| (2 ^ e.on ||| acc.getD e.on 0) else m) m).testBit i=true →
 m.testBit i=true∨∃ e∈l,Region.binds .any e=true∧(e.on=i∨(acc.getD e.on 0).testBit i=true)
 | [],m,h=>.inl h
 | e::l,m,h=>by
  rcases yt l _ h with h1|⟨e',h1,h2⟩
  ·dsimp only at h1
   split at h1
   ·rename_i hb
    simp only [Nat.testBit_or,Xl,Nat.testBit_two_pow,decide_eq_true_eq] at h1;rcases h1 with h1|h1|h1
    ·exact .inl h1
    ·exact .inr ⟨e,by simp,hb,.inl h1⟩
    ·exact .inr ⟨e,by simp,hb,.inr h1⟩
   ·exact .inl h1
  ·exact .inr ⟨e',by simp [h1],h2⟩
theorem jV {ops:Array Oper}:∀ (os:List Oper) (acc:List Nat),ops.toList=ops.toList.take acc.length++os →
 (∀ i j,(acc.getD j 0).testBit i=true→vn ops i j)→∀ i j,((gI os acc).getD j 0).testBit i=true→vn ops i j
 | [],acc,_,h=>h
 | o::os,acc,hl,h=>by
  have hlen:acc.length<ops.toList.length:=by
   have h1:=congrArg List.length hl;simp only [WW,WR,Xi] at h1;omega
  have ho:ops[acc.length]?=some o:=by
   have h1:ops.toList[acc.length]?=(ops.toList.take acc.length++o::os)[acc.length]?:=by rw [← hl]
   rw [Yu (by simp;omega)] at h1;simp only [WR] at h1;rw [show acc.length - min acc.length ops.toList.length=0 by omega] at h1;simpa using h1
  refine jV os _ ?_ (fun i j hb=>?_)
  ·have h2:(acc++[AL acc o]).length=acc.length+1:=by simp
   rw [h2,YK];have h3:ops.toList[acc.length]?=some o:=by simpa using ho
   rw [h3];simp only [Option.toList_some,WY,List.singleton_append];exact hl
  ·by_cases hj:j<acc.length
   ·rw [WO,Zr hj] at hb;exact h i j (by rw [WO];exact hb)
   ·by_cases hj2:j=acc.length
    ·subst hj2;rw [WO,Yu (bg _)] at hb;simp only [Ya,Yl,Yt] at hb;unfold AL at hb;rcases yt _ _ hb with h1|⟨e,h1,h2,h3⟩
     ·simp at h1
     ·have he:e∈o.after:=by simpa using h1
      rcases h3 with h3|h3
      ·exact .one ho he h2 h3
      ·exact .more ho he h2 (h _ _ h3)
    ·rw [WO,Yc (by simp;omega)] at hb;simp at hb
def F2:Nat→List Oper→Bool
 | _,[]=>true
 | i,o::r=>o.after.toList.all (fun e=>!Region.binds .any e || decide (e.on<i)) && F2 (i+1) r
theorem nv {ops:Array Oper}:∀ (os:List Oper) (n:Nat),ops.toList.drop n=os→F2 n os=true →
 ∀ (i:Nat) o,n≤i→ops[i]?=some o→∀ ed∈o.after,Region.binds .any ed=true→ed.on<i
 | [],n,hl,_=>by
  intro i o hi ho;have h1:ops.toList.length≤n:=List.drop_eq_nil_iff.1 hl;have h2:=(Array.getElem?_eq_some_iff.1 ho).1;simp at h1;omega
 | o::os,n,hl,hb=>by
  simp only [F2,cn] at hb;intro i o' hi ho ed hed hbd
  by_cases e:i=n
  ·subst e;have h1:(ops.toList.drop i)[0]?=some o:=by rw [hl];rfl
   rw [XS] at h1;simp only [Xn,YV] at h1;rw [ho] at h1;simp only [ai] at h1;subst h1;have h2:=hb.1;rw [E5] at h2;have h3:=h2 ed (by simpa using hed);rw [hbd] at h3;simpa using h3
  ·refine nv os (n+1) ?_ hb.2 i o' (by omega) ho ed hed hbd;rw [← X4,hl];rfl
def fW (ops:Array Oper):Bool:=
 let ms:=gI ops.toList []
 F2 0 ops.toList && (List.range ops.size).all fun j=>(List.range j).all fun i=>
  (ms.getD j 0).testBit i || (match ops[i]?,ops[j]? with|some o,some o'=>o.apart ops o'|_,_=>true)
def tn (e e':Fx):Bool:=
 e.us.all (fun p=>!(e'.us.any fun q=>q.1 == p.1) && !e'.rds.contains p.1) && e'.us.all (fun p=>!e.rds.contains p.1)
def idle (e:Fx):Bool:=e.us.isEmpty && e.rds.isEmpty
def DS (ops:Array Oper)(es:List Fx):Bool:=
 let ms:=gI ops.toList []
 (List.range es.length).all fun j=>match es[j]? with
  | some e'=>idle e' || (List.range j).all fun i=>match es[i]? with
   | some e=>idle e || (ms.getD j 0).testBit i || tn e e'
   | none=>true
  | none=>true
theorem AG(h:tn e e'=true):(∀ k∈e.us.map (·.1),k ∉ e'.us.map (·.1)∧k ∉ e'.rds)∧∀ k∈e'.us.map (·.1),k ∉ e.rds:=by
 simp only [tn,cn,E5,W8,Ze,beq_iff_eq,List.contains_eq_mem,decide_eq_false_iff_not] at h;refine⟨fun k hk=>?_,fun k hk=>?_⟩
 ·obtain⟨p,hp,rfl⟩:=List.mem_map.1 hk;obtain⟨h1,h2⟩:=h.1 p hp;refine⟨fun hk'=>?_,h2⟩;obtain⟨q,hq,e⟩:=List.mem_map.1 hk';exact h1 q hq e
 ·obtain⟨p,hp,rfl⟩:=List.mem_map.1 hk;exact h.2 p hp
theorem wX(h:idle e=true∨idle e'=true):(∀ k∈e.us.map (·.1),k ∉ e'.us.map (·.1)∧k ∉ e'.rds)∧∀ k∈e'.us.map (·.1),k ∉ e.rds:=by
 simp only [idle,cn,List.isEmpty_iff] at h;rcases h with ⟨h1,h2⟩|⟨h1,h2⟩ <;> simp [h1,h2]
theorem y6(hlen:es.length=ops.size) (hs:fW ops=true) (hd:DS ops es=true) :
 (∀ (i:Nat) o,ops[i]?=some o→∀ ed∈o.after,Region.binds .any ed=true→ed.on<i) ∧
 (∀ (i j:Nat) o o' e e',i<j→ops[i]?=some o→ops[j]?=some o'→es[i]?=some e→es[j]?=some e'→vn ops i j∨On ops o o' e e'):=by
 simp only [fW,cn,E5,YZ] at hs;refine⟨fun i o=>nv ops.toList 0 rfl hs.1 i o (W2 _),fun i j o o' e e' hij ho ho' he he'=>?_⟩;have hj:j<ops.size:=(Array.getElem?_eq_some_iff.1 ho').1;have hm:=jV (ops:=ops) ops.toList [] (by simp) (fun i j h=>by simp at h) i j;have h1:=hs.2 j hj i hij;rw [ho,ho'] at h1;simp only [Xl] at h1;simp only [DS,E5,YZ] at hd;have h2:=hd j (by omega);rw [he'] at h2;simp only [Xl,E5,YZ] at h2;rcases h1 with h1|h1
 ·exact .inl (hm h1)
 ·rcases h2 with h2|h2
  ·exact .inr ⟨h1,wX (.inr h2)⟩
  ·have h3:=h2 i hij;rw [he] at h3;simp only [Xl] at h3;rcases h3 with (h3|h3)|h3
   ·exact .inr ⟨h1,wX (.inl h3)⟩
   ·exact .inl (hm h3)
   ·exact .inr ⟨h1,AG h3⟩
def fI (c:Ctx)(r:Option Nat)(ops:Array Oper):List Oper→List Fx→aB→aB→Prop
 | [],[],s,s'=>s'=s
 | o::os,e::es,s,s'=>cM c r ops o s e∧fI c r ops os es (e.app o.dst s) s'
 | _,_,_,_=>False
section
variable {c:Ctx}{r:Option Nat}{ops:Array Oper}
theorem fI.len:∀ {os:List Oper}{es:List Fx}{s s':aB},fI c r ops os es s s'→es.length=os.length
 | [],[],_,_,_=>rfl
 | _::_,_::_,_,_,h=>by simp [fI.len h.2]
 | [],_::_,_,_,h=>h.elim
 | _::_,[],_,_,h=>h.elim
theorem fI.at {es:List Fx}{s0:aB}:∀ {os:List Oper}{rs:List Fx}{s':aB}(n:Nat),ops.toList.drop n=os→es.drop n=rs→fI c r ops os rs (bn ops es s0 (fun _=>true) n) s' →
 s'=bn ops es s0 (fun _=>true) (n+os.length)∧∀ (i:Nat) o e,n≤i→ops[i]?=some o→es[i]?=some e→cM c r ops o (bn ops es s0 (fun _=>true) i) e
 | [],[],s',n,h1,h2,h=>by
  refine⟨h,fun i o e hi ho he=>?_⟩;have h3:es.length≤n:=List.drop_eq_nil_iff.1 h2;have:=(List.getElem?_eq_some_iff.1 he).1;omega
 | o::os,e::rs,s',n,h1,h2,h=>by
  have ho:ops[n]?=some o:=by
   have:(ops.toList.drop n)[0]?=some o:=by rw [h1];rfl
   rw [XS] at this;simpa using this
  have he:es[n]?=some e:=by
   have:(es.drop n)[0]?=some e:=by rw [h2];rfl
   rw [XS] at this;simpa using this
  have hst:bn ops es s0 (fun _=>true) (n+1)=e.app o.dst (bn ops es s0 (fun _=>true) n):=by
   simp only [bn,ho,he,if_true]
  obtain⟨h3,h4⟩:=fI.at (es:=es) (s0:=s0) (os:=os) (rs:=rs) (s':=s') (n+1) (by rw [← X4,h1];rfl) (by rw [← X4,h2];rfl) (by rw [hst];exact h.2);refine⟨by rw [h3];congr 1;simp;omega,fun i o' e' hi ho' he'=>?_⟩
  by_cases e1:i=n
  ·subst e1;rw [ho] at ho';rw [he] at he';simp only [ai] at ho' he';subst ho';subst he';exact h.1
  ·exact h4 i o' e' (by omega) ho' he'
 | [],_::_,_,_,_,_,h=>h.elim
 | _::_,[],_,_,_,_,h=>h.elim
theorem fI.opers:∀ {os:List Oper}{es:List Fx}{s s':aB}(n:Nat),ops.toList.drop n=os→fI c r ops os es s s' →
 (∀ F' β' a' w',aD c F' β' s' a' w'→Q .normal a' w')→∀ F β a w,aD c F β s a w→wpOpsIn (oH r) 0 c.P ops Q (List.range' n os.length) a w
 | [],[],s,s',n,_,h,hQ=>fun F β a w hs=>by
  have h:s'=s:=h;subst h;exact hQ F β a w hs
 | o::os,e::es,s,s',n,h1,h,hQ=>fun F β a w hs=>by
  have ho:ops[n]?=some o:=by
   have:(ops.toList.drop n)[0]?=some o:=by rw [h1];rfl
   rw [XS] at this;simpa using this
  have ih:=fI.opers (os:=os) (es:=es) (n+1) (by rw [← X4,h1];rfl) h.2 hQ;have key:=h.1 s (fun _ _=>rfl) ⟨fun _ _=>rfl,fun _ _=>rfl⟩ F β a w (wpOpsIn (oH r) 0 c.P ops Q (List.range' (n+1) os.length)) Q hs (fun F' β' a' w' h'=>ih F' β' a' w' h');simp only [Xi,Y0];rw [wpOpsIn_cons];unfold wpOpIn;rw [ho];simp only;split at key
  ·rename_i hw;rw [if_pos hw];exact key
  ·rename_i hw;rw [if_neg hw];exact⟨fun _ _=>trivial,key⟩
 | [],_::_,_,_,_,_,h,_=>h.elim
 | _::_,[],_,_,_,_,h,_=>h.elim
theorem fI.region(h:fI c r ops ops.toList es s s')
 (hQ:∀ F' β' a' w',aD c F' β' s' a' w'→Q .normal a' w')(hs:aD c F β s a w):(Code.region id ops false).wpIn (oH r) 0 c.P Q a w:=by
 refine wpIn_region ?_;have:=fI.opers 0 rfl h hQ F β a w hs;rw [List.range_eq_range'];simpa using this
theorem fI.draw(hm:c.P.follows .mixedOrders=true) (h:fI c r ops ops.toList es s s') (h1:fW ops=true) (h2:DS ops es=true)
 (hQ:∀ F' β' a' w',aD c F' β' s' a' w'→Q .normal a' w')(hs:aD c F β s a w):(Code.region id ops true).wpIn (oH r) 0 c.P Q a w:=by
 have hlen:es.length=ops.size:=by rw [h.len];simp
 obtain⟨h3,h4⟩:=fI.at (es:=es) (s0:=s) 0 rfl rfl h;obtain⟨h5,h6⟩:=y6 hlen h1 h2;refine wpIn_region_any hm ?_;refine tr (s0:=s) hlen (fun i o e ho he=>h4 i o e (W2 _) ho he) h5 h6 (fun F' β' a' w' h'=>hQ F' β' a' w' ?_) ops.size _ (by simp) (fun j o ho hj=>?_) (by omega) F β a _ ?_
 ·rw [h3];simpa using h'
 ·have hf:(Array.replicate ops.size false).getD j false=false:=by
   simp only [Xz,Yv];split <;> rfl
  rw [hf] at hj;cases hj
 ·have hf:∀ j,(Array.replicate ops.size false).getD j false=false:=fun j=>by
   simp only [Xz,Yv];split <;> rfl
  have:bn ops es s (fun j=>(Array.replicate ops.size false).getD j false) ops.size=s:=by
   rw [fc (L':=fun _=>false) (fun j _=>hf j)]
   have:∀ m,bn ops es s (fun _=>false) m=s:=by
    intro m
    induction m with
    | zero=>rfl
    | succ m ih=>simp only [bn,ih,WS,if_false];split <;> rfl
   exact this _
  rw [this];exact hs.heap rfl
end
section
variable {c:Ctx}{r:Option Nat}{ops:Array Oper}{o:Oper}{s0:aB}
theorem cM.call(hd:∀ d,o.dst=some d→d<c.n) (hw:dM ops o.guard s0.fr=some true)
 (ho:o.op=.call cl) (hcal:cl.callee=.value fo) (ht:b7 (s0.val c.G fo)=some (f,fs,cs)) (hf:aG c.P f=true)
 (he:bS c f (fs++cl.args.toList.map (s0.val c.G)++cs) s0.lv x us rds):cM c r ops o s0 ⟨x,us,rds⟩:=by
 refine cM.nu hw (fun cl' h=>by rw [ho] at h;cases h) (fun s h1 h2=>?_);have hfo:s.val c.G fo=s0.val c.G fo:=h1 fo (by rw [ho];simp [Op.operands,Call.operands,hcal])
 have hargs:cl.args.toList.map (s.val c.G)=cl.args.toList.map (s0.val c.G):=Xj fun y hy=>h1 y (by
  rw [ho];simp only [Op.operands,Call.operands,hcal];simp at hy ⊢;exact .inr hy)
 refine bS.PA (rds:=rds) hd ho hcal rfl (by rw [hfo];exact ht) hf ?_;rw [hargs];exact he.local h2
end
def dw (c:Ctx)(o:Oper)(s:aB)(κ:Nat)(K:AV→List (Key × LB)→List Key→Nat→Prop):Prop:=
 match o.op with
 | .call cl=>match cl.callee with
  | .value fo=>match b7 (s.val c.G fo) with
   | some (f,fs,cs)=>aG c.P f=true∧∃ x us rds κ',bS c f (fs++cl.args.toList.map (s.val c.G)++cs) s.lv x us rds∧K x us rds κ'
   | none=>False
  | _=>match bA c.P o.op (o.op.operands.toList.map (s.val c.G)) s.lv κ with
   | some (x,us,rds,vc)=>vc∧K x us rds (match us with|[]=>κ|_=>κ+1)
   | none=>False
 | op=>match bA c.P op (op.operands.toList.map (s.val c.G)) s.lv κ with
  | some (x,us,rds,vc)=>vc∧K x us rds (match us with|[]=>κ|_=>κ+1)
  | none=>False
def fM (c:Ctx)(ops:Array Oper):List Oper→aB→Nat→List Fx→(aB→Nat→List Fx→Prop)→Prop
 | [],s,κ,acc,K=>K s κ acc
 | o::os,s,κ,acc,K=>match dM ops o.guard s.fr with
  | some true=>dw c o s κ fun x us rds κ'=>fM c ops os (aB.put ⟨s.fr,aS s.lv us⟩ o.dst x) κ' (⟨x,us,rds⟩::acc) K
  | some false=>fM c ops os (s.put o.dst .undef) κ (⟨.undef,[],[]⟩::acc) K
  | none=>False
def cz (n:Nat)(os:List Oper):Bool:=os.all fun o=>match o.dst with|some d=>decide (d<n)|none=>true
section
variable {c:Ctx}{r:Option Nat}{ops:Array Oper}
theorem dw.Sf{K:AV→List (Key × LB)→List Key→Nat→Prop}(hd:∀ d,o.dst=some d→d<c.n) (hw:dM ops o.guard s.fr=some true) (h:dw c o s κ K) :
 ∃ x us rds κ',cM c r ops o s ⟨x,us,rds⟩∧K x us rds κ':=by
 have plain:(match bA c.P o.op (o.op.operands.toList.map (s.val c.G)) s.lv κ with
  | some (x,us,rds,vc)=>vc∧K x us rds (match us with|[]=>κ|_=>κ+1)
  | none=>False)→∃ x us rds κ',cM c r ops o s ⟨x,us,rds⟩∧K x us rds κ':=by
  intro h;split at h
  ·rename_i x us rds vc hs
   exact⟨x,us,rds,_,cM.plain hd hw hs h.1,h.2⟩
  ·exact h.elim
 unfold dw at h;split at h
 ·rename_i cl ho
  split at h
  ·rename_i fo hcal
   split at h
   ·rename_i f fs cs ht
    obtain⟨hf,x,us,rds,κ',he,hK⟩:=h;exact⟨x,us,rds,κ',cM.call hd hw ho hcal ht hf he,hK⟩
   ·exact h.elim
  ·rw [ho] at h plain;exact plain h
 ·exact plain h
theorem fM.chain {K:aB→Nat→List Fx→Prop}:∀ {os:List Oper}{s:aB}{κ:Nat}{acc:List Fx},cz c.n os=true→fM c ops os s κ acc K →
 ∃ es s' κ',fI c r ops os es s s'∧K s' κ' (es.reverse++acc)
 | [],s,κ,_,_,h=>⟨[],s,κ,rfl,h⟩
 | o::os,s,κ,acc,hd,h=>by
  simp only [cz,Ym,cn] at hd;have hdo:∀ d,o.dst=some d→d<c.n:=fun d e=>by have:=hd.1;rw [e] at this;simpa using this
  simp only [fM] at h;split at h
  ·rename_i hw
   obtain⟨x,us,rds,κ',he,hK⟩:=dw.Sf (r:=r) hdo hw h;obtain⟨es,s',κ'',h1,h2⟩:=fM.chain hd.2 hK;exact⟨⟨x,us,rds⟩::es,s',κ'',⟨he,h1⟩,by simpa using h2⟩
  ·rename_i hw
   obtain⟨es,s',κ'',h1,h2⟩:=fM.chain hd.2 h;exact⟨⟨.undef,[],[]⟩::es,s',κ'',⟨cM.skip hdo hw,h1⟩,by simpa using h2⟩
  ·exact h.elim
end
inductive Ex where
 | normal
 | exit (id:Nat)
 | goto (l:Nat)
 | ret
 | panic (d:DV)
def Cm (x:Ex)(e:Exit)(F:Nat→Prop)(w:World):Prop:=
 match x with
 | .normal=>e=.normal
 | .exit id=>e=.exit id
 | .goto l=>e=.goto l
 | .ret=>e=.ret
 | .panic d=>∃ v,e=.panic [{ v:=v,recovered:=false }]∧Rd (lq w F) v d
def Post (c:Ctx)(Q:Ex→aB→Nat→Prop):Exit→Act→World→Prop:=fun e a w=>∃ x s κ F β,Q x s κ∧aD c F β s a w∧Cm x e F w
def AW (c:Ctx)(r:Option Nat)(code:Code)(s:aB)(κ:Nat)(Q:Ex→aB→Nat→Prop):Prop:=
 ∀ F β a w,aD c F β s a w→code.wpIn (oH r) 0 c.P (Post c Q) a w
def pJ (K:aB→Nat→Prop)(Q:Ex→aB→Nat→Prop):Ex→aB→Nat→Prop
 | .normal,s,κ=>K s κ
 | e,s,κ=>Q e s κ
def tX (id:Nat)(Q:Ex→aB→Nat→Prop):Ex→aB→Nat→Prop
 | .exit id',s,κ=>if id'=id then Q .normal s κ else Q (.exit id') s κ
 | e,s,κ=>Q e s κ
section
variable {c:Ctx}{r:Option Nat}{s:aB}{κ:Nat}{Q:Ex→aB→Nat→Prop}
theorem AW.region(hd:cz c.n ops.toList=true) (h:fM c ops ops.toList s κ [] fun s' κ' _=>Q .normal s' κ'):AW c r (.region id ops false) s κ Q:=by
 intro F β a w hs;obtain⟨es,s',κ',h1,h2⟩:=fM.chain (r:=r) hd h;exact h1.region (fun F' β' a' w' h'=>⟨.normal,s',κ',F',β',h2,h',rfl⟩) hs
theorem AW.draw(hm:c.P.follows .mixedOrders=true) (hst:fW ops=true) (hd:cz c.n ops.toList=true)
 (h:fM c ops ops.toList s κ [] fun s' κ' acc=>DS ops acc.reverse=true∧Q .normal s' κ'):AW c r (.region id ops true) s κ Q:=by
 intro F β a w hs;obtain⟨es,s',κ',h1,h2,h3⟩:=fM.chain (r:=r) hd h;exact h1.draw hm hst (by simpa using h2) (fun F' β' a' w' h'=>⟨.normal,s',κ',F',β',h3,h',rfl⟩) hs
theorem aac (h:Q .normal s κ):AW c r .skip s κ Q:=fun F β _ _ hs=>wpIn_skip ⟨.normal,s,κ,F,β,h,hs,rfl⟩
theorem AW.label {l:Nat}(h:Q .normal s κ):AW c r (.label l) s κ Q:=fun F β _ _ hs=>wpIn_label ⟨.normal,s,κ,F,β,h,hs,rfl⟩
theorem aan(h:Q (.exit id) s κ):AW c r (.exit id) s κ Q:=fun F β _ _ hs=>wpIn_exit ⟨.exit id,s,κ,F,β,h,hs,rfl⟩
theorem AW.goto {l:Nat}(h:Q (.goto l) s κ):AW c r (.goto l) s κ Q:=fun F β _ _ hs=>wpIn_goto ⟨.goto l,s,κ,F,β,h,hs,rfl⟩
theorem aam (h:Q .ret s κ):AW c r .ret s κ Q:=fun F β _ _ hs=>wpIn_ret ⟨.ret,s,κ,F,β,h,hs,rfl⟩
theorem AW.seq {x y:Code}{K:aB→Nat→Prop}(h:AW c r x s κ (pJ K Q)) (hK:∀ s κ,K s κ→AW c r y s κ Q):AW c r (.seq x y) s κ Q:=by
 intro F β a w hs;refine wpIn_seq (wpIn_mono (h F β a w hs) fun e a' w' hp=>?_);obtain⟨e',s',κ',F',β',hq,hs',he⟩:=hp
 cases e' with
 | normal=>cases he;exact hK s' κ' hq F' β' a' w' hs'
 | exit id=>cases he;exact⟨.exit id,s',κ',F',β',hq,hs',rfl⟩
 | goto l=>cases he;exact⟨.goto l,s',κ',F',β',hq,hs',rfl⟩
 | ret=>cases he;exact⟨.ret,s',κ',F',β',hq,hs',rfl⟩
 | panic d=>obtain⟨v,rfl,hv⟩:=he;exact⟨.panic d,s',κ',F',β',hq,hs',v,rfl,hv⟩
theorem AW.mono {x:Code}{Q':Ex→aB→Nat→Prop}(h:AW c r x s κ Q) (hq:∀ e s κ,Q e s κ→Q' e s κ):AW c r x s κ Q':=fun F β a w hs=>
 wpIn_mono (h F β a w hs) fun _ _ _ ⟨e',s',κ',F',β',h1,h2,h3⟩=>⟨e',s',κ',F',β',hq _ _ _ h1,h2,h3⟩
theorem aaC {o:Operand}{x y:Code}(hb:s.val c.G o=.c (.d (.bool b))) (h:AW c r (if b then x else y) s κ Q):AW c r (.cond o x y) s κ Q:=by
 intro F β a w hs;have h1:=hs.val o;rw [hb] at h1;exact wpIn_cond (Vw.qD h1) (h F β a w hs)
theorem aaf{x:Code}(h:AW c r x s κ (tX id Q)):AW c r (.block id x) s κ Q:=by
 intro F β a w hs;refine wpIn_block (wpIn_mono (h F β a w hs) fun e a' w' hp=>?_);obtain⟨e',s',κ',F',β',hq,hs',he⟩:=hp
 cases e' with
 | normal=>cases he;exact⟨.normal,s',κ',F',β',hq,hs',rfl⟩
 | exit id'=>
  cases he
  simp only [tX] at hq;simp only [Exit.inBlock];split
  ·rename_i hid;rw [if_pos hid] at hq;exact⟨.normal,s',κ',F',β',hq,hs',rfl⟩
  ·rename_i hid;rw [if_neg hid] at hq;exact⟨.exit id',s',κ',F',β',hq,hs',rfl⟩
 | goto l=>cases he;exact⟨.goto l,s',κ',F',β',hq,hs',rfl⟩
 | ret=>cases he;exact⟨.ret,s',κ',F',β',hq,hs',rfl⟩
 | panic d=>obtain⟨v,rfl,hv⟩:=he;exact⟨.panic d,s',κ',F',β',hq,hs',v,rfl,hv⟩
theorem AW.coarse {x:Code}{s2:aB}{κ2:Nat}{g:Key→Key}(hc:ef c s s2 g) (h:AW c r x s2 κ2 Q):AW c r x s κ Q:=
 fun F β a w hs=>h F _ a w (hs.coarse hc)
theorem AW.loop {x:Code}(I:aB→Nat→Prop) (μ:aB→Nat→Nat) (h0:I s κ)
 (hr:∀ s κ,I s κ→AW c r x s κ (pJ (fun s' κ'=>∃ s2 κ2 g,ef c s' s2 g∧I s2 κ2∧μ s2 κ2<μ s κ) Q)):AW c r (.loop x) s κ Q:=by
 have key:∀ n s κ,I s κ→μ s κ≤n→∀ F β a w,aD c F β s a w→Code.roundsIn (oH r) 0 c.P x (Post c Q) (n+1) a w:=by
  intro n
  induction n with
  | zero=>
   intro s κ hI hn F β a w hs;rw [roundsIn_succ];refine wpIn_mono (hr s κ hI F β a w hs) fun e a' w' hp=>?_;obtain⟨e',s',κ',F',β',hq,hs',he⟩:=hp
   cases e' with
   | normal=>obtain⟨s2,κ2,g,h1,h2,h3⟩:=hq;omega
   | exit id=>cases he;exact⟨.exit id,s',κ',F',β',hq,hs',rfl⟩
   | goto l=>cases he;exact⟨.goto l,s',κ',F',β',hq,hs',rfl⟩
   | ret=>cases he;exact⟨.ret,s',κ',F',β',hq,hs',rfl⟩
   | panic d=>obtain⟨v,rfl,hv⟩:=he;exact⟨.panic d,s',κ',F',β',hq,hs',v,rfl,hv⟩
  | succ n ih=>
   intro s κ hI hn F β a w hs;rw [roundsIn_succ];refine wpIn_mono (hr s κ hI F β a w hs) fun e a' w' hp=>?_;obtain⟨e',s',κ',F',β',hq,hs',he⟩:=hp
   cases e' with
   | normal=>
    cases he
    obtain⟨s2,κ2,g,h1,h2,h3⟩:=hq;exact ih s2 κ2 h2 (by omega) F' _ a' w' (hs'.coarse h1)
   | exit id=>cases he;exact⟨.exit id,s',κ',F',β',hq,hs',rfl⟩
   | goto l=>cases he;exact⟨.goto l,s',κ',F',β',hq,hs',rfl⟩
   | ret=>cases he;exact⟨.ret,s',κ',F',β',hq,hs',rfl⟩
   | panic d=>obtain⟨v,rfl,hv⟩:=he;exact⟨.panic d,s',κ',F',β',hq,hs',v,rfl,hv⟩
 intro F β a w hs;exact wpIn_loop_rounds _ (key (μ s κ) s κ h0 (bg _) F β a w hs)
end
def ki (P:Program)(s:aB):ResultVar→Option AV
 | .tmp t=>some (s.fr t)
 | .cell a T=>match s.fr a with
  | .c (.ptr k off)=>match s.lv k with|.cells _ _ _ cs=>eN P T (cs.drop off)|_=>none
  | _=>none
def iK (P:Program)(s:aB):List ResultVar→Option (List AV)
 | []=>some []
 | x::l=>match ki P s x,iK P s l with|some y,some r=>some (y::r)|_,_=>none
def AV.cu:AV→Bool
 | .tup _=>false
 | _=>true
def cH (P:Program)(s:aB)(l:List ResultVar):Option AV:=
 match iK P s l with
 | some [x]=>some x
 | some r=>if r.all AV.cu then some (.tup r) else none
 | none=>none
theorem Vw.Oz(h:V.av v x) (hx:x.cu=true):V.m9 v x:=by
 cases x with
 | tup l=>cases hx
 | _=>exact h
def Az (tmps:Array Value):ResultVar→Sem Value
 | .tmp t=>pure (tmps.getD t undef)
 | .cell a t=>do loadVar t (← asAddr (tmps.getD a undef))
theorem FF (fn:Func)(tmps:Array Value):results fn tmps=(do let vs ← fn.results.mapM (Az tmps);pure (if h:vs.size=1 then vs[0] else .tuple vs)):=by
 unfold results;refine congrArg (fun g:ResultVar→Sem Value=>(do let vs ← fn.results.mapM g;pure (if h:vs.size=1 then vs[0] else .tuple vs):Sem Value)) (a₂:=Az tmps) ?_;funext x
 cases x <;> rfl
section
variable {c:Ctx}{F:Nat→Prop}{β:Key→Nat}{s:aB}{a:Act}{w:World}
theorem Jl (h:aD c F β s a w){x:ResultVar}(hr:ki c.P s x=some y) :
 ∃ v,(Az a.tmps x).run c.P w=.ok v w∧(Vw.mk F β s.lv w).av v y:=by
 cases x with
 | tmp t=>
  simp only [ki,ai] at hr;subst hr;exact⟨a.tmps.getD t undef,rfl,h.fr t⟩
 | cell b T=>
  simp only [ki] at hr;split at hr
  ·rename_i k off he
   split at hr
   ·rename_i own fz T' cs hk
    have h1:=h.fr b;rw [he] at h1;obtain⟨h1,_⟩:=h1;simp only [Vw.cT,hk] at h1;have hb:=h.bF k;unfold Vw.bF at hb;simp only [hk] at hb;obtain⟨arr,h2,h3,h4,_⟩:=hb
    obtain⟨v,h5,h6⟩:=qK (P:=c.P) (T:=T) (Vw.mk F β s.lv w) (b:=β k) (o:=off) hr (fun i=>arr.getD (off+i) undef)
     (fun i hi=>by
      have hi':off+i<arr.size:=by simp at hi;omega
      rw [fu h2 hi'];simp [Array.getD,hi'])
     (fun i hi=>by
      have hi':off+i<arr.size:=by simp at hi;omega
      simp only [Array.getD,hi',dite_true,XR];exact h4 (off+i) (by simp at hi;omega) hi')
    refine⟨v,?_,h6⟩;simp only [Instr.loadAt,Instr.sureAddr,bE,Xg,fy] at h5;show (do loadVar T (← asAddr (a.tmps.getD b undef)):Sem Value).run c.P w=.ok v w;rw [h1];simp only [asAddr,bE,Xg,fy];exact h5
   ·cases hr
  ·cases hr
theorem Cc (h:aD c F β s a w):∀ {l:List ResultVar}{ys:List AV},iK c.P s l=some ys →
 ∃ vs:List Value,(l.mapM (Az a.tmps)).run c.P w=.ok vs w∧vs.length=ys.length ∧
  ∀ i (h:i<ys.length) (h':i<vs.length),(Vw.mk F β s.lv w).av vs[i] ys[i]
 | [],ys,hr=>by simp only [iK,ai] at hr;subst hr;exact⟨[],rfl,rfl,fun i h=>absurd h (Xf i)⟩
 | x::l,ys,hr=>by
  simp only [iK] at hr;split at hr
  ·rename_i y r' h1 h2
   simp only [ai] at hr;subst hr;obtain⟨v,h3,h4⟩:=Jl h h1;obtain⟨vs,h5,h6,h7⟩:=Cc h h2;refine⟨v::vs,?_,by simp [h6],fun i p q=>?_⟩
   ·rw [List.mapM_cons,bE,h3,fy,bE,h5];rfl
   ·cases i with
    | zero=>exact h4
    | succ i=>exact h7 i (by simpa using p) (by simpa using q)
  ·cases hr
theorem rT (h:aD c F β s a w)(hr:cH c.P s fn.results.toList=some y):∃ v,(results fn a.tmps).run c.P w=.ok v w∧(Vw.mk F β s.lv w).av v y:=by
 unfold cH at hr
 have key:∀ ys,iK c.P s fn.results.toList=some ys→∃ vs:Array Value,(results fn a.tmps).run c.P w=.ok (if h:vs.size=1 then vs[0] else .tuple vs) w∧vs.size=ys.length ∧
  ∀ i (h:i<ys.length) (h':i<vs.size),(Vw.mk F β s.lv w).av vs[i] ys[i]:=by
  intro ys hys;obtain⟨vs,h1,h2,h3⟩:=Cc h hys;refine⟨vs.toArray,?_,by simpa using h2,fun i p q=>by simpa using h3 i p (by simpa using q)⟩;rw [FF,bE,Array.mapM_eq_mapM_toList,map_eq_pure_bind,bE,h1];rfl
 split at hr
 ·rename_i x hx
  simp only [ai] at hr;subst hr;obtain⟨vs,h1,h2,h3⟩:=key _ hx;have h2':vs.size=1:=h2;rw [dif_pos h2'] at h1;exact⟨_,h1,h3 0 (by simp) (by omega)⟩
 ·rename_i ys hne hys
  split at hr
  ·rename_i hall
   simp only [ai] at hr;subst hr;obtain⟨vs,h1,h2,h3⟩:=key _ hys
   have h2':vs.size≠1:=fun e=>by
    rw [e] at h2
    match ys,h2,hne with
    | [x],_,hne=>exact hne x rfl
   rw [dif_neg h2'] at h1;rw [E5] at hall;exact⟨_,h1,vs,rfl,h2,fun i p q=>Vw.Oz (h3 i p q) (hall _ (aW p))⟩
  ·cases hr
 ·cases hr
end
def Fin (c:Ctx)(fn:Func)(x:AV)(σ' ν:List LB):Ex→aB→Nat→Prop
 | .normal,s,_|.ret,s,_=>∃ s2 g,ef c s s2 g∧s2.lv=bz σ' ν∧cH c.P s2 fn.results.toList=some x
 | _,_,_=>False
theorem xe{vs:Array Value}{Q:Ex→aB→Nat→Prop}{K:Ending→World→Prop}
 (hf:P.funcs[f]?=some fn) (hb:fn.body=some code) (hl:args.length≤fn.ntmps) (hS:cw (cG P G w F β lv) F β lv w) (hvl:vs.size=args.length) (hv:∀ i (h:i<args.length) (h':i<vs.size),(Vw.mk F β lv w).av vs[i] args[i])
 (h:AW { cG P G w F β lv with n:=fn.ntmps } none code ⟨fun t=>args.getD t .undef,lv⟩ κ Q) (hQ:∀ e s κ,Q e s κ→e=.normal∨e=.ret)
 (fin:∀ e s κ F' β' a w',Q e s κ→aD { cG P G w F β lv with n:=fn.ntmps } F' β' s a w'→a.defers=[]∧∃ v,(results fn a.tmps).run P w'=.ok v w'∧K (.returned v) w'):Calls P f vs w K:=by
 refine calls_of_wp hf hb ?_
 let c:Ctx:={ cG P G w F β lv with n:=fn.ntmps }
 have hS':cw c F β lv w:=hS
 let a:Act:={ tmps:=vs++Array.replicate (fn.ntmps - vs.size) undef,defers:=[] }
 have hst:aD c F β ⟨fun t=>args.getD t .undef,lv⟩ a w:=by
  refine hS'.with ?_ rfl (fun t=>?_)
  ·show (vs++Array.replicate (fn.ntmps - vs.size) undef).size=fn.ntmps;simp;omega
  ·show (Vw.mk F β lv w).av ((vs++Array.replicate (fn.ntmps - vs.size) undef).getD t undef) (args.getD t .undef)
   by_cases ht:t<args.length
   ·have h1:args.getD t .undef=args[t]:=cN ht
    have h2:(vs++Array.replicate (fn.ntmps - vs.size) undef).getD t undef=vs[t]'(by omega):=by
     rw [Xz,Zs (by omega),XM (by omega)];rfl
    rw [h1,h2];exact hv t ht (by omega)
   ·have h1:args.getD t .undef=.undef:=cW ht
    have h2:(vs++Array.replicate (fn.ntmps - vs.size) undef).getD t undef=undef:=by
     rw [Xz,Zt (by omega),Yv];split <;> rfl
    rw [h1,h2];rfl
 have hw:=(wpIn_wide (n:=0)).1 (h F β a w hst);refine wp_mono hw fun e a' w' hp=>?_;obtain⟨e',s',κ',F',β',hq,hs',he⟩:=hp;rcases hQ e' s' κ' hq with rfl|rfl
 ·cases he;exact fin _ _ _ _ _ _ _ hq hs'
 ·cases he;exact fin _ _ _ _ _ _ _ hq hs'
theorem aF.nc(hf:P.funcs[f]?=some fn) (hb:fn.body=some code) (hl:args.length≤fn.ntmps)
 (h:∀ c:Ctx,c.P=P→c.G=G→c.n=fn.ntmps→c.lf=bz σ []→AW c none code ⟨fun t=>args.getD t .undef,bz σ []⟩ 1000 (Fin c fn x σ' ν)):aF P G f args σ (.ret x σ' ν):=by
 intro F β w vs hS hvl hv;refine xe hf hb hl hS hvl hv (h _ rfl rfl rfl rfl) (fun e s κ hq=>by cases e <;> first|exact .inl rfl|exact .inr rfl|exact hq.elim) fun e s' κ F' β' a' w' hq hs'=>?_;obtain⟨s2,g,h1,h2,h3⟩:∃ s2 g,ef _ s' s2 g∧s2.lv=bz σ' ν∧cH P s2 fn.results.toList=some x:=by cases e <;> first|exact hq|exact hq.elim
 have hs2:=hs'.coarse h1;obtain⟨v,h4,h5⟩:=rT hs2 h3;refine⟨hs'.defers,v,h4,v,F',fun k=>β' (g k),rfl,?_,?_⟩
 ·have:=hs2.vF;rw [h2] at this;exact this
 ·rw [h2] at h5;exact h5
def LB.okB:LB→Bool
 | .cells own fz _ _=>!own && !fz
 | .map own _=>!own
 | _=>true
def cF (lv:Key→LB):Prop:=∀ k,(lv k).okB=true
inductive Kv where
 | ret (x:AV) (lv:Key→LB)
 | rG (d:DV) (lv:Key→LB)
def Rw (P:Program)(G:List (List DV))(lv:Key→LB)(F:Nat→Prop)(β:Key→Nat)(w:World)(o:Kv)(e:Ending)(w':World):Prop:=
 match o with
 | .ret x lv'=>∃ v F' β',e=.returned v∧cw (cG P G w F β lv) F' β' lv' w'∧(Vw.mk F' β' lv' w').av v x
 | .rG d lv'=>∃ v F' β',e=.panicked [{ v:=v,recovered:=false }]∧cw (cG P G w F β lv) F' β' lv' w'∧Rd (lq w' F') v d
def bP (P:Program)(G:List (List DV))(f:FuncId)(args:List AV)(lv:Key→LB)(o:Kv):Prop:=
 ∀ (F:Nat→Prop) (β:Key→Nat) (w:World) (vs:Array Value),cw (cG P G w F β lv) F β lv w→vs.size=args.length →
  (∀ i (h:i<args.length) (h':i<vs.size),(Vw.mk F β lv w).av vs[i] args[i])→Calls P f vs w (Rw P G lv F β w o)
section
variable {c:Ctx}{F:Nat→Prop}{β:Key→Nat}{s:aB}{a:Act}{w:World}
theorem aD.uh (h:aD c F β s a w)(ho:cF s.lv):cw (cG c.P c.G w F β s.lv) F β s.lv w:=by
 refine⟨?_,h.inj,fun _=>trivial,rfl,rfl,fun b hb=>⟨(h.lB b hb).1,.inl hb⟩,fun _ hb=>hb,fun _ _ _=>rfl,bg _,h.nP,fun k _=>.inr ⟨rfl,LB.bw _⟩,fun _=>bg _,⟨rfl,rfl⟩⟩;intro k;have hb:=h.bF k;have hp:=ho k;unfold Vw.bF at hb ⊢
 cases e:s.lv k with
 | cells own fz T cs=>
  rw [e] at hp;simp only [LB.okB,cn,W8] at hp;simp only [e] at hb ⊢;obtain⟨arr,b1,b2,b3,b4,b5⟩:=hb;refine⟨arr,b1,b2,b3,b4,?_⟩;rw [hp.1];simp only [eo,WS,if_false];exact .inr ⟨k,by rw [e,hp.2];rfl,rfl⟩
 | map own es=>
  rw [e] at hp;simp only [LB.okB,W8] at hp;simp only [e] at hb ⊢;obtain⟨ents,clock,b1,b2,b3,b4,b5⟩:=hb;refine⟨ents,clock,b1,b2,b3,b4,?_⟩;rw [hp];simp only [eo,WS,if_false];exact .inr ⟨k,by rw [e];rfl,rfl⟩
 | hole=>simp only [e]
 | dead=>simp only [e]
 | nils=>simp only [e]
theorem Vw.Gg {c c':Ctx}(h:∀ o,eo c o (V.β k)→eo c' o (V.β k)) (hb:V.bF c k):V.bF c' k:=by
 unfold Vw.bF at *
 cases e:V.lv k with
 | cells own fz T cs=>rw [e] at hb;obtain⟨arr,b1,b2,b3,b4,b5⟩:=hb;exact⟨arr,b1,b2,b3,b4,h _ b5⟩
 | map own es=>rw [e] at hb;obtain⟨x,y,b1,b2,b3,b4,b5⟩:=hb;exact⟨x,y,b1,b2,b3,b4,h _ b5⟩
 | hole=>trivial
 | dead=>trivial
 | nils=>trivial
theorem aD.zl (h:aD c F β s a w){F':Nat→Prop}{w':World}
 (hx:cw (cG c.P c.G w F β s.lv) F' β' lv' w'):aD c F' β' ⟨s.fr,lv'⟩ a w':=by
 have hF:∀ b,F b→F' b:=hx.F0;have hold:∀ b,b<w.heap.size→¬ (∃ k,(s.lv k).live=true∧β k=b)→w'.heap[b]?=w.heap[b]?:=hx.old;have hkeep:∀ k,s.lv k≠.hole→lv' k=.dead∨(β' k=β k∧(s.lv k).sub (lv' k)):=hx.keep;have hge:=h.ge;refine h.step (hoo:=hx.BT) hF ?_ ?_ ?_ hx.Fq ?_ hx.inj ?_ hx.ge ?_
 ·intro b hb;refine hold b (h.lB b hb).1 ?_;rintro⟨k,hk,rfl⟩;exact h.mX hk hb
 ·intro k
  by_cases h0:s.lv k=.hole
  ·rw [h0];simp [LB.sub]
  ·rcases hkeep k h0 with hd|⟨_,hs⟩
   ·rw [hd];cases s.lv k <;> simp [LB.sub]
   ·exact hs
 ·intro k h0 hd;rcases hkeep k h0 with hd'|⟨h1,_⟩
  ·exact absurd hd' hd
  ·exact h1
 ·intro k _;refine Vw.Gg ?_ (hx.bF k);intro o ho;unfold eo at ho ⊢;have ho':if o=true then w.heap.size≤β' k else w.heap.size≤β' k∨∃ j,(s.lv j).live=true∧β j=β' k:=ho
  cases o with
  | true=>simp only [if_true] at ho' ⊢;exact WN hge ho'
  | false=>
   simp only [WS,if_false] at ho' ⊢;rcases ho' with h1|⟨j,hj,hj2⟩
   ·exact .inl (WN hge h1)
   ·have:=h.eJ hj;rw [hj2] at this;exact this
 ·intro b hb;rcases (hx.lB b hb).2 with h1|h1
  ·exact .inl h1
  ·have h1':w.heap.size≤b:=h1;exact .inr ⟨(hx.lB b hb).1,WN hge h1'⟩
 ·intro b hb hnW;refine hold b (Xe hb hge) ?_;rintro⟨k,hk,rfl⟩;rcases h.eJ hk with h1|h1
  ·omega
  ·exact hnW h1
def Ow (c:Ctx)(o:Oper)(s:aB)(d:DV)(s':aB):Prop:=
 ∀ (F:Nat→Prop) (β:Key→Nat) (a:Act) (w:World) (K:Act→World→Prop) (Q:Exit→Act→World→Prop),aD c F β s a w →
  (∀ F' β' v a' w',aD c F' β' s' a' w'→Rd (lq w' F') v d→Q (.panic [{ v:=v,recovered:=false }]) a' w')→o.wp c.P a w K Q
theorem Ca(h:aD c F β s a w) (ho:o.op=.call cl) (hcal:cl.callee=.value fo) (hfo:s.val c.G fo=fv)
 (ht:b7 fv=some (f,fs,cs)) (hf:aG c.P f=true)
 (hK:∀ vs:Array Value,vs.size=(fs++cl.args.toList.map (s.val c.G)++cs).length→(∀ i (h:i<(fs++cl.args.toList.map (s.val c.G)++cs).length) (h':i<vs.size),(Vw.mk F β s.lv w).av vs[i] (fs++cl.args.toList.map (s.val c.G)++cs)[i]) →
  Calls c.P f vs w fun e w'=>(∃ v,e=.returned v∧K (a.put o.dst v) w')∨∃ ch,e=.panicked ch∧Q (.panic ch) a w'):o.wp c.P a w K Q:=by
 obtain⟨fs',cs',h1,h2,h3,h4,h5⟩:=kP (hfo ▸ h.val fo) ht;have hv:=oJ (V:=Vw.mk F β s.lv w) (args':=cl.args.map a.eval) (as:=cl.args.toList.map (s.val c.G)) h2 (by simp) h3 h4 (fun i p q=>by simp only [YU,WK,Xs];exact h.val _) h5;have hc:=hK _ hv.1 hv.2
 have hr:(execOp a.eval o).run c.P w=.ok (.enter f (fs'++cl.args.map a.eval++cs')) w:=by
  simp only [execOp,ho,resolve,hcal,h1,Deferred.ofValue,bE,Xg,fy,invoke];rw [iB hf]
 unfold Oper.wp;rw [hr,Oper.upon_enter];refine hc.mono fun e w' he=>?_;rcases he with ⟨v,rfl,hk⟩|⟨ch,rfl,hk⟩ <;> exact hk
theorem bP.PA(hd:∀ d,o.dst=some d→d<c.n) (ho:o.op=.call cl) (hcal:cl.callee=.value fo)
 (hfo:s.val c.G fo=fv) (ht:b7 fv=some (f,fs,cs)) (hf:aG c.P f=true) (hok:cF s.lv) (hc:bP c.P c.G f (fs++cl.args.toList.map (s.val c.G)++cs) s.lv (.ret x lv')) :
 bT c o s (aB.put ⟨s.fr,lv'⟩ o.dst x):=by
 intro F β a w K Q h hK;refine Ca h ho hcal hfo ht hf fun vs hl hv=>?_;refine (hc F β w vs (h.uh hok) hl hv).mono fun e w' he=>?_;obtain⟨v,F',β',rfl,hS,hav⟩:=he;exact .inl ⟨v,rfl,hK _ _ _ _ (aD.A8 (h.zl hS) hd hav)⟩
theorem bP.UB(ho:o.op=.call cl) (hcal:cl.callee=.value fo)
 (hfo:s.val c.G fo=fv) (ht:b7 fv=some (f,fs,cs)) (hf:aG c.P f=true) (hok:cF s.lv) (hc:bP c.P c.G f (fs++cl.args.toList.map (s.val c.G)++cs) s.lv (.rG d lv')) :
 Ow c o s d ⟨s.fr,lv'⟩:=by
 intro F β a w K Q h hK;refine Ca h ho hcal hfo ht hf fun vs hl hv=>?_;refine (hc F β w vs (h.uh hok) hl hv).mono fun e w' he=>?_;obtain⟨v,F',β',rfl,hS,hav⟩:=he;exact .inr ⟨_,rfl,hK _ _ v _ _ (h.zl hS) hav⟩
end
def Vd (c:Ctx)(fn:Func):Kv→Ex→aB→Nat→Prop
 | .ret x lv',.normal,s,_|.ret x lv',.ret,s,_=>cH c.P s fn.results.toList=some x∧s.lv=lv'
 | .rG d lv',.panic d',s,_=>d'=d∧s.lv=lv'
 | _,_,_,_=>False
theorem bP.nc{o:Kv}(hf:P.funcs[f]?=some fn) (hb:fn.body=some code) (hl:args.length≤fn.ntmps)
 (h:∀ c:Ctx,c.P=P→c.G=G→c.n=fn.ntmps→c.lf=lv→AW c none code ⟨fun t=>args.getD t .undef,lv⟩ κ (Vd c fn o)):bP P G f args lv o:=by
 intro F β w vs hS hvl hv;refine calls_of_wp hf hb ?_
 let c:Ctx:={ cG P G w F β lv with n:=fn.ntmps }
 have hS':cw c F β lv w:=hS
 let a:Act:={ tmps:=vs++Array.replicate (fn.ntmps - vs.size) undef,defers:=[] }
 have hst:aD c F β ⟨fun t=>args.getD t .undef,lv⟩ a w:=by
  refine hS'.with ?_ rfl (fun t=>?_)
  ·show (vs++Array.replicate (fn.ntmps - vs.size) undef).size=fn.ntmps;simp;omega
  ·show (Vw.mk F β lv w).av ((vs++Array.replicate (fn.ntmps - vs.size) undef).getD t undef) (args.getD t .undef)
   by_cases ht:t<args.length
   ·have h1:args.getD t .undef=args[t]:=cN ht
    have h2:(vs++Array.replicate (fn.ntmps - vs.size) undef).getD t undef=vs[t]'(by omega):=by
     rw [Xz,Zs (by omega),XM (by omega)];rfl
    rw [h1,h2];exact hv t ht (by omega)
   ·have h1:args.getD t .undef=.undef:=cW ht
    have h2:(vs++Array.replicate (fn.ntmps - vs.size) undef).getD t undef=undef:=by
     rw [Xz,Zt (by omega),Yv];split <;> rfl
    rw [h1,h2];rfl
 have hw:=(wpIn_wide (n:=0)).1 (h c rfl rfl rfl rfl F β a w hst);refine wp_mono hw fun e a' w' hp=>?_;obtain⟨e',s',κ',F',β',hq,hs',he⟩:=hp
 cases o with
 | ret x lv'=>
  have fin:cH c.P s' fn.results.toList=some x∧s'.lv=lv'→a'.defers=[]∧∃ v,(results fn a'.tmps).run P w'=.ok v w'∧Rw P G lv F β w (.ret x lv') (.returned v) w':=by
   rintro⟨h0,h1⟩;obtain⟨v,h4,h5⟩:=rT hs' h0;subst h1;exact⟨hs'.defers,v,h4,v,F',β',rfl,hs'.vF,h5⟩
  cases e' with
  | normal=>cases he;exact fin hq
  | ret=>cases he;exact fin hq
  | exit id=>exact hq.elim
  | goto l=>exact hq.elim
  | panic d=>exact hq.elim
 | rG d lv'=>
  cases e' with
  | normal=>exact hq.elim
  | ret=>exact hq.elim
  | exit id=>exact hq.elim
  | goto l=>exact hq.elim
  | panic d'=>
   obtain⟨rfl,h1⟩:=hq;subst h1;obtain⟨v,rfl,hr⟩:=he;exact⟨hs'.defers,v,F',β',rfl,hs'.vF,hr⟩
section
variable {c:Ctx}{F:Nat→Prop}{β:Key→Nat}{s:aB}{a:Act}{w:World}
def sS (lv:Key→LB):AV→Option Bool
 | .c (.ptr k _)=>match lv k with|.cells ..=>some false|_=>none
 | .c (.aR k _ _ _)=>match lv k with|.cells ..=>some false|.nils=>some true|_=>none
 | .c (.mapr k)=>match lv k with|.map ..=>some false|_=>none
 | .c (.d .nilmap)=>some true
 | .c (.func ..)=>some false
 | .c (.d (.func ..))=>some false
 | .c (.d .nilFunc)=>some true
 | .c (.ifc ..)=>some false
 | _=>none
def G4:AV→AV→Bool
 | .c (.ptr ..),.c (.d .nilp)=>true
 | .c (.aR ..),.c (.d .nilsl)=>true
 | .c (.mapr _),.c (.d .nilmap)=>true
 | .c (.d .nilmap),.c (.d .nilmap)=>true
 | .c (.func ..),.c (.d .nilFunc)=>true
 | .c (.d (.func ..)),.c (.d .nilFunc)=>true
 | .c (.d .nilFunc),.c (.d .nilFunc)=>true
 | .c (.ifc ..),.c (.d .nilIface)=>true
 | _,_=>false
def wL (P:Program)(T:TypeId):AV→Bool
 | .c (.ptr ..)=>match P.underlying T with|some (.pointer _)=>true|_=>false
 | .c (.aR ..)=>match P.underlying T with|some (.slice _)=>true|_=>false
 | .c (.mapr _)|.c (.d .nilmap)=>match P.underlying T with|some (.map _ _)=>true|_=>false
 | .c (.func ..)|.c (.d (.func ..))|.c (.d .nilFunc)=>match P.underlying T with|some (.func _ _ _)=>true|_=>false
 | .c (.ifc ..)=>match P.underlying T with|some (.interface _)=>true|_=>false
 | _=>false
def OP:AV→List Key
 | .c (.ptr k _)=>[k]
 | .c (.aR k ..)=>[k]
 | .c (.mapr k)=>[k]
 | _=>[]
theorem l8{w:World}{x y:Operand}(hE:∀ m,(Op.equalIn (m+1) T u v).run P w=.ok b w)
 (h1:binOp .eql T u v=(do pure (.bool (← Op.equal T u v)))) (h2:binOp .neq T u v=(do pure (.bool (!(← Op.equal T u v))))) (h3:eqGuard .eql T x y u v=pure ()) (h4:eqGuard .neq T x y u v=pure ()) :
 (do eqGuard .eql T x y u v;binOp .eql T u v:Sem Value).run P w=.ok (.bool b) w∧(do eqGuard .neq T x y u v;binOp .neq T u v:Sem Value).run P w=.ok (.bool (!b)) w:=by
 have hq:(Op.equal T u v).run P w=.ok b w:=hE 9999;rw [h1,h2,h3,h4];constructor <;> (rw [bE,Xg,fy,bE,hq];rfl)
theorem HC{x y:Operand}{p q:AV}(hu:V.av u p) (hv:V.av v q) (hn:sS V.lv p=some b) (hq:G4 p q=true) (hT:wL P T p=true) :
 (do eqGuard .eql T x y u v;binOp .eql T u v:Sem Value).run P V.w=.ok (.bool b) V.w∧(do eqGuard .neq T x y u v;binOp .neq T u v:Sem Value).run P V.w=.ok (.bool (!b)) V.w:=by
 unfold G4 at hq;split at hq
 case h_1 k o=>
  simp only [sS] at hn;split at hn
  ·rename_i e
   simp only [ai] at hn;subst hn;obtain⟨hu,_⟩:=hu;simp only [Vw.cT,e] at hu;obtain⟨hv,_⟩:=hv
   cases hv
   subst hu;simp only [wL] at hT;split at hT
   ·rename_i e hT'
    exact l8 (fun m=>by simp [Op.equalIn,run_underlying hT']) rfl rfl rfl rfl
   ·cases hT
  ·cases hn
 case h_2 k o l z=>
  simp only [sS] at hn;obtain⟨hv,_⟩:=hv
  cases hv
  obtain⟨hu,_⟩:=hu;simp only [wL] at hT;split at hT
  ·rename_i e hT'
   split at hn
   ·rename_i e
    simp only [ai] at hn;subst hn;simp only [Vw.cq,e] at hu;obtain⟨cap,rfl,_⟩:=hu;exact l8 (fun m=>by simp [Op.equalIn,run_underlying hT']) rfl rfl rfl rfl
   ·rename_i e
    simp only [ai] at hn;subst hn;simp only [Vw.cq,e] at hu;rw [hu.1];exact l8 (fun m=>by simp [Op.equalIn,run_underlying hT']) rfl rfl rfl rfl
   ·cases hn
  ·cases hT
 case h_3 k=>
  simp only [sS] at hn;split at hn
  ·rename_i e
   simp only [ai] at hn;subst hn;obtain⟨hu,_⟩:=hu;simp only [Vw.jQ,e] at hu;obtain⟨hv,_⟩:=hv
   cases hv
   subst hu;simp only [wL] at hT;split at hT
   ·rename_i e hT'
    exact l8 (fun m=>by simp [Op.equalIn,run_underlying hT']) rfl rfl rfl rfl
   ·cases hT
  ·cases hn
 case h_4=>
  simp only [sS,ai] at hn;subst hn;obtain⟨hu,_⟩:=hu;cases hu;obtain⟨hv,_⟩:=hv;cases hv;simp only [wL] at hT;split at hT
  ·rename_i e hT'
   exact l8 (fun m=>by simp [Op.equalIn,run_underlying hT']) rfl rfl rfl rfl
  ·cases hT
 case h_5 fn f cs=>
  simp only [sS,ai] at hn;subst hn;obtain⟨_,_,rfl,_⟩:=hu;obtain⟨hv,_⟩:=hv;cases hv;simp only [wL] at hT;split at hT
  ·rename_i e hT'
   exact l8 (fun m=>by simp [Op.equalIn,run_underlying hT']) rfl rfl rfl rfl
  ·cases hT
 case h_6 fn f cs=>
  simp only [sS,ai] at hn;subst hn;obtain⟨hu,_⟩:=hu;cases hu;obtain⟨hv,_⟩:=hv;cases hv;simp only [wL] at hT;split at hT
  ·rename_i e hT'
   exact l8 (fun m=>by simp [Op.equalIn,run_underlying hT']) rfl rfl rfl rfl
  ·cases hT
 case h_7=>
  simp only [sS,ai] at hn;subst hn;obtain⟨hu,_⟩:=hu;cases hu;obtain⟨hv,_⟩:=hv;cases hv;simp only [wL] at hT;split at hT
  ·rename_i e hT'
   exact l8 (fun m=>by simp [Op.equalIn,run_underlying hT']) rfl rfl rfl rfl
  ·cases hT
 case h_8 t r=>
  simp only [sS,ai] at hn;subst hn;obtain⟨_,rfl,_⟩:=hu;obtain⟨hv,_⟩:=hv;cases hv;simp only [wL] at hT;split at hT
  ·rename_i e hT'
   exact l8 (fun m=>by simp [Op.equalIn,run_underlying hT']) rfl rfl rfl rfl
  ·cases hT
 case h_9=>cases hq
theorem zR{op:BinOp}{T':TypeId}{x y:Operand}(hd:∀ d,o.dst=some d→d<c.n) (ho:o.op=.binOp op T x y T') (hop:op=.eql∨op=.neq)
 (hn:sS s.lv (s.val c.G x)=some b) (hq:G4 (s.val c.G x) (s.val c.G y)=true) (hT:wL c.P T (s.val c.G x)=true) :
 bT c o s (s.put o.dst (.c (.d (.bool (if op=.eql then b else !b))))):=
 bT.aU hd fun F β a w hs=>by
  have h:=HC (V:=Vw.mk F β s.lv w) (P:=c.P) (T:=T) (x:=x) (y:=y) (hs.val x) (hs.val y) hn hq hT;rcases hop with rfl|rfl
  ·exact⟨.bool b,by simp only [execOp,ho];have:=h.1;simp only [bE] at this ⊢;rw [this];rfl,Vw.mH _ _⟩
  ·exact⟨.bool (!b),by simp only [execOp,ho];have:=h.2;simp only [bE] at this ⊢;rw [this];rfl,Vw.mH _ _⟩
end
end Go.Am
namespace Go.Am
open Go.Lib
variable {T e T' ty pt it kT eT:TypeId}{d:DV}{o:Oper}{x y m kx:Operand}{own ok b fz:Bool}{κ k:Key}{l:List UInt8}{cs:List CV}{v z:Value}{es:List (DV × AV)}{n sz off:Nat}{i:TypeInfo}{V:Vw}{P:Program}{vals:List AV}{ds:List DV}{lo hi:Option Operand}{h:Int}{op:Op}
def dZ (l:List UInt8):List CV:=l.map fun b=>.d (.int .u8 (b.toNat:Int))
theorem jk (l:List UInt8):(dZ l).length=l.length:=by simp [dZ]
theorem LD (b:UInt8):IntKind.u8.wrap (b.toNat:Int)=(b.toNat:Int):=by
 refine cC ?_;have:=UInt8.toNat_lt b;simp only [zH,pF];omega
section
variable {c:Ctx}{F:Nat→Prop}{β:Key→Nat}{s:aB}{a:Act}{w:World}
theorem Mr (V:Vw)(b:UInt8):V.cv (.int .u8 (b.toNat:Int)) (.d (.int .u8 (b.toNat:Int))):=⟨.int _ _ (LD b),rfl⟩
theorem D7 (l:List UInt8):strCells ⟨l.toArray⟩=l.map fun b=>Value.int .u8 (b.toNat:Int):=by
 simp [strCells]
theorem wI (V:Vw)(l:List UInt8):∀ i (h:i<(dZ l).length) (h':i<(strCells ⟨l.toArray⟩).length),V.cv (strCells ⟨l.toArray⟩)[i] (dZ l)[i]:=by
 intro i h h';simp only [D7,dZ,WK];exact Mr V _
theorem cO (l:List UInt8):(ByteArray.mk l.toArray).size=l.length:=by simp [ByteArray.size]
theorem aD.qE (hs:aD c F β s a w)(hκ:s.lv κ=.hole) (hT:eP c.P T=some (e,1)) (hT':ct c.P T'=true)
 (hi:c.P.info? e=some i) (hz:i.zero=some z) (hzs:z.cells.size=1) (h63:l.length≤9223372036854775807) (hb:l.length*i.bytes≤140737488355328) :
 ∃ v F' β' w',(Builtin.append_ #[T,T'] ty #[.slice none 0 0,.string ⟨l.toArray⟩]).run c.P w=.ok v w' ∧
  aD c F' β' ⟨s.fr,aC s.lv κ (if l.length=0 then .nils else .cells true false e (dZ l))⟩ a w' ∧
  (Vw.mk F' β' (aC s.lv κ (if l.length=0 then .nils else .cells true false e (dZ l))) w').cv v (.aR κ 0 l.length 1):=by
 obtain⟨hu,hie,hsz⟩:=dc hT;have hsize:i.size=1:=by rw [← hsz];simp [gH,hi]
 have hstr:=gb hT';have hf:=run_firstCells_string (P:=c.P) w 1 ⟨l.toArray⟩;rw [cO] at hf
 by_cases hm:l.length=0
 ·have hl:l=[]:=Yd hm;subst hl
  have hn:aD c F β ⟨s.fr,aC s.lv κ .nils⟩ a w:=by
   refine hs.step (fun _ h=>h) (fun _ _=>rfl) ?_ (fun _ _ _=>rfl) (fun _=>bg _) ?_ ?_ (fun b h=>.inl h) (bg _) (fun _ _ _=>rfl)
   ·intro k
    by_cases e:k=κ
    ·subst e;rw [hκ];simp [LB.sub]
    ·rw [aE _ _ e];exact LB.bw _
   ·intro k hK
    by_cases e:k=κ
    ·subst e;unfold Vw.bF;simp only [aA]
    ·exact Vw.bC (hs.bF k) hK (aE _ _ e) rfl rfl (fun _ h=>h)
   ·intro k1 k2 g1 g2 he
    have g:∀ k',(aC s.lv κ .nils k').live=true→(s.lv k').live=true:=by
     intro k' hk'
     by_cases e:k'=κ
     ·subst e;rw [aA] at hk';simp [LB.live] at hk'
     ·rwa [aE _ _ e] at hk'
    exact hs.inj _ _ (g _ g1) (g _ g2) he
  refine⟨.slice none 0 0,F,β,w,?_,by simpa using hn,?_⟩
  ·simp at hf;simp [Builtin.append_,run_underlying hu,run_underlying hstr,sizeOf,typeInfo,hi,hsize,Builtin.lenOf,hf,cO]
  ·simp [Vw.cv,Vw.cq,aA,Value.oneCell']
 ·have he:(Builtin.append_ #[T,T'] ty #[.slice none 0 0,.string ⟨l.toArray⟩]).run c.P w=(Builtin.append_ #[T,T'] ty #[.slice (some ⟨0,0,none⟩) 0 0,.string ⟨l.toArray⟩]).run c.P w:=by
   have h1:¬ (9223372036854775807<(l.length:Int)):=by omega
   have h2:=growslice_fits (old:=0) (by omega:0<l.length) hb;simp [Builtin.append_,run_underlying hu,run_underlying hstr,sizeOf,typeInfo,hi,hsize,Builtin.lenOf,cO,hm,Builtin.firstCells,loadCells,loadCellsFrom,Nat.not_lt.2 h2]
  have hr:=run_append_grow_string (P:=c.P) w T T' ty e i z hu hstr hi hz ⟨0,0,none⟩ 0 0 [] (by simp) (by simp) ⟨l.toArray⟩ (by rw [cO];omega) (by rw [cO];omega) (by
   rw [cO];simpa using growslice_fits (old:=0) (by omega:0<l.length) hb)
  rw [← he] at hr;simp only [cO,W5] at hr;have hd:aD c F β s a w.drew:=hs.heap rfl;have hge:=grownCap_ge w l.length 0 e
  have hal:=hd.alloc hκ (arr:=([]:List Value).toArray++(strCells ⟨l.toArray⟩).toArray++Builtin.zeroCells z.cells (grownCap w l.length 0 e - l.length)) e (cs:=dZ l) (by simp [jk,strCells_length,cO]) (fun j p q=>by
   have hj:j<(strCells ⟨l.toArray⟩).length:=by rw [strCells_length,cO];rw [jk] at p;exact p
   have:(([]:List Value).toArray++(strCells ⟨l.toArray⟩).toArray++Builtin.zeroCells z.cells (grownCap w l.length 0 e - l.length))[j]=(strCells ⟨l.toArray⟩)[j]:=by
    rw [XT (by simpa using hj)];simp
   rw [this];exact wI _ _ _ _ _)
  refine⟨_,F,aC β κ w.heap.size,_,hr,by simpa [hm] using hal,?_⟩;simp only [hm,if_false,Vw.cv,Vw.cq,aA];refine⟨⟨_,rfl,hge,?_⟩,rfl⟩;simp only [cg,heap_alloc,World.size_drew,if_true,YE,YW,size_zeroCells,strCells_length,cO,hzs,List.length_nil];omega
theorem aD.qe (hs:aD c F β s a w)(hκ:s.lv κ=.hole) (hT:eP c.P T=some (e,1)) (hT':ct c.P T'=true)
 (hi:c.P.info? e=some i) (hz:i.zero=some z)(hy:s.val c.G y=.c (.aR k 0 n 1)) (hk:s.lv k=.cells own false e cs) (hfull:cs.length=n)
 (hzs:z.cells.size=1) (h63:n+l.length≤9223372036854775807) (hb:(n+l.length)*i.bytes≤140737488355328) :
 ∃ v F' β' w',(Builtin.append_ #[T,T'] ty #[a.eval y,.string ⟨l.toArray⟩]).run c.P w=.ok v w' ∧
  aD c F' β' ⟨s.fr,aC (aC s.lv k .dead) κ (.cells own false e (cs++dZ l))⟩ a w' ∧
  (Vw.mk F' β' (aC (aC s.lv k .dead) κ (.cells own false e (cs++dZ l))) w').cv v (.aR κ 0 (n+l.length) 1):=by
 obtain⟨hu,hie,hsz⟩:=dc hT;have hsize:i.size=1:=by rw [← hsz];simp [gH,hi]
 have hstr:=gb hT';have hkκ:k≠κ:=fun e=>by rw [e,hκ] at hk;cases hk
 have hv:=hy ▸ hs.val y;obtain⟨hv,_⟩:=hv;simp only [Vw.cq,hk] at hv;obtain⟨cap,C7,Pp,hv3⟩:=hv;have hbk:=hs.bF k;unfold Vw.bF at hbk;simp only [hk] at hbk;obtain⟨arr,g1,g2,g3,g4,g5⟩:=hbk;have has:cg w (β k)=arr.size:=by simp [cg,g1]
 rw [has] at hv3;simp only [W5,XB] at hv3;rw [C7];have hvl:(strCells ⟨l.toArray⟩).length=l.length:=by rw [strCells_length,cO]
 have hbl:=jk l
 by_cases hroom:n+l.length≤cap
 ·have hr:=run_append_room_string (P:=c.P) w T T' ty e i hu hstr hi hsize (β k) n cap arr g1 ⟨l.toArray⟩ (by rw [cO];exact hroom) (by rw [cO];omega);rw [cO] at hr
  have hseg:arr.toList.take n++strCells ⟨l.toArray⟩++arr.toList.drop (n+l.length)=aj arr.toList n (strCells ⟨l.toArray⟩):=by
   unfold aj;rw [hvl]
  rw [hseg] at hr;have hle:n+(strCells ⟨l.toArray⟩).length≤arr.toList.length:=by rw [hvl];simp;omega
  have hset:=hs.setRow (arr:=(aj arr.toList n (strCells ⟨l.toArray⟩)).toArray) hk g1 (cs':=cs) (by simp [aQ _ _ _ hle]) (by simp [aQ _ _ _ hle];omega) (fun j p q=>by
   simp only [X8];rw [cX _ _ _ hle j (by simpa using q),dif_neg (by omega)];simp only [Xs];exact g3 _ _ _)
  have hsame:aC s.lv k (.cells own false e cs)=s.lv:=by
   funext t;unfold aC;split
   ·rename_i h;rw [h,hk]
   ·rfl
  rw [hsame] at hset
  have hK:(Vw.mk F β s.lv w).iH (Vw.mk F β s.lv (w.setRow (β k) (aj arr.toList n (strCells ⟨l.toArray⟩)).toArray)):=
   Vw.iF (fun _ h=>h) (fun b hb=>setRow_other _ _ _ _ (fun e=>by
    have:F (β k):=e ▸ hb;simp at g4;exact g4 this)) (fun _=>LB.bw _) (fun _ _ _=>rfl) (fun b=>by rw [gk w (β k) arr _ e (0,0) g1 (by simp [aQ _ _ _ hle]) b];exact bg _)
  have hmv:=hset.move (k:=k) (κ:=κ) hk hκ (cs':=cs++dZ l) (arr:=(aj arr.toList n (strCells ⟨l.toArray⟩)).toArray) (setRow_heap w _ arr _ e (0,0) g1) (by simp [aQ _ _ _ hle];omega) (fun j p q=>by
   simp only [X8];rw [cX _ _ _ hle j (by simpa using q)]
   by_cases hj:j<n
   ·rw [dif_neg (by omega),Xt (by omega)];simp only [Xs];exact hK.cv (g3 _ _ _)
   ·rw [dif_pos ⟨by omega,by simp at p;omega⟩,XJ (by omega)];simp only [hfull];exact wI _ _ _ _ _)
  refine⟨_,_,_,_,hr,hmv,⟨?_,rfl⟩⟩;simp only [Vw.cq,aA];refine⟨cap,rfl,hroom,?_⟩;rw [gk w (β k) arr _ e (0,0) g1 (by simp [aQ _ _ _ hle])];rw [has];omega
 ·have holds:∀ j u,(arr.toList.take n)[j]?=some u→w.cell? ((⟨β k,0,none⟩:Addr).add j)=some u:=by
   intro j u hu;rw [Yp] at hu;split at hu
   ·rw [YV] at hu;rw [X1,cell_of_row w _ _ _ _ _ g1,W5];exact hu
   ·cases hu
  have hn:n≤arr.size:=by omega
  have hr:=run_append_grow_string (P:=c.P) w T T' ty e i z hu hstr hi hz ⟨β k,0,none⟩ n cap (arr.toList.take n) (by simp [hsize];omega) holds ⟨l.toArray⟩ (by rw [cO];omega) (by rw [cO];omega) (by rw [cO];exact growslice_fits (by omega) hb);rw [cO] at hr;have hd:aD c F β s a w.drew:=hs.heap rfl
  have hal:=(hd.kill k).alloc (κ:=κ) (by show aC s.lv k .dead κ=_;rw [aE _ _ (Ne.symm hkκ)];exact hκ) (arr:=((arr.toList.take n).toArray++(strCells ⟨l.toArray⟩).toArray++Builtin.zeroCells z.cells (grownCap w (n+l.length) cap e - (n+l.length)))) e (cs:=cs++dZ l)
   (by simp;omega) (fun j p q=>by
    have hK2:(Vw.mk F β s.lv w).iH (Vw.mk F β (aC s.lv k .dead) w.drew):=Vw.iF (fun _ h=>h) (fun _ _=>rfl) (fun t=>by
     by_cases e:t=k
     ·subst e;show LB.sub (s.lv t) (aC s.lv t .dead t);rw [aA];cases s.lv t <;> simp [LB.sub]
     ·show LB.sub (s.lv t) (aC s.lv k .dead t);rw [aE _ _ e];exact LB.bw _) (fun _ _ _=>rfl) (fun _=>bg _)
    simp only [WW] at p;have hto:(arr.toList.take n).length=n:=by simp;omega
    by_cases hj:j<n
    ·have e1:((arr.toList.take n).toArray++(strCells ⟨l.toArray⟩).toArray++Builtin.zeroCells z.cells (grownCap w (n+l.length) cap e - (n+l.length)))[j]=arr[j]'(by omega):=by
      rw [XT (by simp;omega),XT (by simp;omega)];simp
     rw [e1,Xt (by omega)];exact hK2.cv (g3 _ _ _)
    ·have e1:((arr.toList.take n).toArray++(strCells ⟨l.toArray⟩).toArray++Builtin.zeroCells z.cells (grownCap w (n+l.length) cap e - (n+l.length)))[j]=(strCells ⟨l.toArray⟩)[j - n]'(by omega):=by
      rw [XT (by simp;omega),Zc (by simp;omega)];simp [hto]
     rw [e1,XJ (by omega)];simp only [hfull];exact wI _ _ _ _ _)
  have hun:=hal.m5 (k:=κ) own Aq;rw [mJ] at hun;refine⟨_,_,_,_,hr,hun,⟨?_,rfl⟩⟩;simp only [Vw.cq,aA];refine⟨_,rfl,grownCap_ge w (n+l.length) cap e,?_⟩;have hge:=grownCap_ge w (n+l.length) cap e;simp only [cg,heap_alloc,World.size_drew,if_true,YE,YW,size_zeroCells,hvl,hzs,WR,Yg];omega
end
section
variable {c:Ctx}{F:Nat→Prop}{β:Key→Nat}{s:aB}{a:Act}{w:World}
theorem kg(hd:∀ d,o.dst=some d→d<c.n)
 (ho:o.op=.call { callee:=.builtin .append,args:=#[y,x],argTypes:=#[T,T'] }) (hκ:s.lv κ=.hole) (hy:s.val c.G y=.c (.d .nilsl)∨∃ k,s.val c.G y=.c (.aR k 0 0 1)∧s.lv k=.nils) (hT:eP c.P T=some (e,1)) (hT':ct c.P T'=true)
 (hi:c.P.info? e=some i) (hz:i.zero=some z) (hx:s.val c.G x=.c (.d (.str l))) (hzs:z.cells.size=1) (h63:l.length≤9223372036854775807) (hb:l.length*i.bytes≤140737488355328) :
 bT c o s (aB.put ⟨s.fr,aC s.lv κ (if l.length=0 then .nils else .cells true false e (dZ l))⟩ o.dst (.c (.aR κ 0 l.length 1))):=
 bT.dX hd fun F β a w hs=>by
  obtain⟨v,F',β',w',h1,h2,h3⟩:=hs.qE (ty:=o.type) hκ hT hT' hi hz hzs h63 hb;refine⟨v,F',β',w',?_,h2,h3⟩;have hxv:=Vw.iL (hx ▸ hs.val x)
  have hu:a.eval y=.slice none 0 0:=by
   rcases hy with hy|⟨k,hy,hk⟩
   ·have hv:=hy ▸ hs.val y;obtain⟨hv,_⟩:=hv;obtain⟨u,hu⟩:∃ u,a.eval y=u:=⟨_,rfl⟩
    rw [hu] at hv ⊢
    cases hv;rfl
   ·have hv:=hy ▸ hs.val y;obtain⟨hv,_⟩:=hv;simp only [Vw.cq,hk] at hv;exact hv.1
  simp [execOp,ho,resolve,invoke,builtin,hu,hxv,h1]
theorem qw(hd:∀ d,o.dst=some d→d<c.n)
 (ho:o.op=.call { callee:=.builtin .append,args:=#[y,x],argTypes:=#[T,T'] }) (hκ:s.lv κ=.hole) (hT:eP c.P T=some (e,1)) (hT':ct c.P T'=true)
 (hi:c.P.info? e=some i) (hz:i.zero=some z) (hy:s.val c.G y=.c (.aR k 0 n 1)) (hk:s.lv k=.cells own false e cs) (hfull:cs.length=n)
 (hx:s.val c.G x=.c (.d (.str l))) (hzs:z.cells.size=1) (h63:n+l.length≤9223372036854775807) (hb:(n+l.length)*i.bytes≤140737488355328) :
 bT c o s (aB.put ⟨s.fr,aC (aC s.lv k .dead) κ (.cells own false e (cs++dZ l))⟩ o.dst (.c (.aR κ 0 (n+l.length) 1))):=
 bT.dX hd fun F β a w hs=>by
  obtain⟨v,F',β',w',h1,h2,h3⟩:=hs.qe (ty:=o.type) (l:=l) hκ hT hT' hi hz hy hk hfull hzs h63 hb;have hxv:=Vw.iL (hx ▸ hs.val x);exact⟨v,F',β',w',by simp [execOp,ho,resolve,invoke,builtin,hxv,h1],h2,h3⟩
theorem yX{len:Nat}{T0:TypeId}(hd:∀ d,o.dst=some d→d<c.n)
 (ho:o.op=.call { callee:=.builtin .unsafeSliceData,args:=#[x],argTypes:=#[T] }) (hx:s.val c.G x=.c (.aR k off len sz)) (hk:s.lv k=.cells own fz T0 cs) (hlen:0<len) :
 bT c o s (s.put o.dst (.c (.ptr k off))):=
 bT.aU hd fun F β a w hs=>by
  have hv:=hx ▸ hs.val x;obtain⟨hv,_⟩:=hv;simp only [Vw.cq,hk] at hv;obtain⟨cap,C7,Pp,hv3⟩:=hv;refine⟨.pointer (some ⟨β k,off,none⟩),?_,?_⟩
  ·have:=run_unsafeSliceData_row (P:=c.P) w #[T] o.type ⟨β k,off,none⟩ len cap (by omega);simp [execOp,ho,resolve,invoke,builtin,C7,this]
  ·exact⟨by simp only [Vw.cT,hk],rfl⟩
theorem kK(hd:∀ d,o.dst=some d→d<c.n)
 (ho:o.op=.call { callee:=.builtin .unsafeSliceData,args:=#[x],argTypes:=#[T] }) (hx:s.val c.G x=.c (.d .nilsl)∨∃ k,s.val c.G x=.c (.aR k 0 0 1)∧s.lv k=.nils) :
 bT c o s (s.put o.dst (.c (.d .nilp))):=
 bT.aU hd fun F β a w hs=>by
  have hu:a.eval x=.slice none 0 0:=by
   rcases hx with hy|⟨k,hy,hk⟩
   ·have hv:=hy ▸ hs.val x;obtain⟨hv,_⟩:=hv;obtain⟨u,hu⟩:∃ u,a.eval x=u:=⟨_,rfl⟩
    rw [hu] at hv ⊢
    cases hv;rfl
   ·have hv:=hy ▸ hs.val x;obtain⟨hv,_⟩:=hv;simp only [Vw.cq,hk] at hv;exact hv.1
  refine⟨.pointer none,?_,.nilp,rfl⟩;simp [execOp,ho,resolve,invoke,builtin,hu,run_unsafeSliceData_nil]
theorem oa(hd:∀ d,o.dst=some d→d<c.n)
 (ho:o.op=.call { callee:=.builtin .unsafeString,args:=#[x,y],argTypes:=#[pt,it] }) (hx:s.val c.G x=.c (.d .nilp)) (hy:s.val c.G y=.c (.d (.int .i64 0))) :
 bT c o s (s.put o.dst (.c (.d (.str [])))):=
 bT.aU hd fun F β a w hs=>by
  have hv:=hx ▸ hs.val x;obtain⟨hv,_⟩:=hv;obtain⟨u,hu⟩:∃ u,a.eval x=u:=⟨_,rfl⟩
  rw [hu] at hv;have hyv:=Vw.fh (hy ▸ hs.val y)
  cases hv
  refine⟨.string .empty,?_,?_⟩
  ·have:=run_unsafeString_none (P:=c.P) w pt it o.type none;simp [execOp,ho,resolve,invoke,builtin,hu,hyv,this]
  ·have:ByteArray.empty=⟨([]:List UInt8).toArray⟩:=rfl;rw [this];exact Vw.qf _ _ (by simp)
def rQ:List CV→Option (List UInt8)
 | []=>some []
 | .d (.int .u8 n)::r=>match n with
  | .ofNat m=>if m<256 then (match rQ r with|some l=>some (UInt8.ofNat m::l)|none=>none) else none
  | _=>none
 | _=>none
theorem yz:∀ {cs:List CV}{l:List UInt8},rQ cs=some l→cs=dZ l
 | [],l,h=>by simp only [rQ,ai] at h;subst h;rfl
 | x::r,l,h=>by
  unfold rQ at h;split at h
  ·rename_i h0;cases h0
  ·rename_i n r' h0
   simp only [Xb] at h0;obtain⟨rfl,rfl⟩:=h0;split at h
   ·rename_i m
    split at h
    ·rename_i hm
     split at h
     ·rename_i l' hl
      simp only [ai] at h;subst h;have:=yz hl;simp only [dZ,WX] at this ⊢;rw [this];congr 3;have:(UInt8.ofNat m).toNat=m:=by simp [UInt8.toNat_ofNat'];omega
      rw [this];rfl
     ·cases h
    ·cases h
   ·cases h
  ·cases h
theorem aD.C0 (h:aD c F β s a w)(hk:s.lv k=.cells own false T cs) (n:Nat) :
 aD c F β ⟨s.fr,aC s.lv k .dead⟩ a (w.freeze ⟨β k,0,none⟩ n):=by
 have hlive:(s.lv k).live=true:=by rw [hk];rfl
 have hoth:∀ b,b≠β k→(w.freeze ⟨β k,0,none⟩ n).heap[b]?=w.heap[b]?:=by
  intro b hb;unfold World.freeze;split
  ·rfl
  ·simp only [Array.getElem?_modify];rw [if_neg (fun e=>hb e.symm)]
 have hsz:(w.freeze ⟨β k,0,none⟩ n).heap.size=w.heap.size:=by
  unfold World.freeze;split <;> simp
 have has:∀ b,cg w b=cg (w.freeze ⟨β k,0,none⟩ n) b:=by
  intro b
  by_cases e:b=β k
  ·subst e;unfold World.freeze;split
   ·rfl
   ·simp only [cg,Array.getElem?_modify,if_true]
    cases h1:w.heap[β k]? with
    | none=>rfl
    | some o=>cases o <;> rfl
  ·simp only [cg,hoth b e]
 refine h.step (hoo:=by unfold World.freeze;split <;> exact⟨rfl,rfl⟩) (fun _ h=>h) (fun b hb=>hoth b (fun e=>h.mX hlive (e ▸ hb))) ?_ (fun _ _ _=>rfl) (fun b=>Nat.le_of_eq (has b)) ?_ ?_ (fun b h=>.inl h) (Nat.le_of_eq hsz.symm) ?_
 ·intro k'
  by_cases e:k'=k
  ·subst e;rw [aA];cases s.lv k' <;> simp [LB.sub]
  ·rw [aE _ _ e];exact LB.bw _
 ·intro k' hK
  by_cases e:k'=k
  ·subst e;unfold Vw.bF;simp only [aA]
  ·have hb:=h.bF k'
   by_cases hl:(s.lv k').live=true
   ·exact Vw.bC hb hK (aE _ _ e) rfl (hoth _ (fun e'=>e (h.inj _ _ hl hlive e'))) (fun _ h=>h)
   ·cases ek:s.lv k' with
    | cells o fz T' cs'=>
     cases fz with
     | false=>rw [ek] at hl;exact absurd rfl hl
     | true=>
      have hF:F (β k'):=by unfold Vw.bF at hb;simp only [ek] at hb;obtain⟨_,_,_,_,h4,_⟩:=hb;exact h4
      exact Vw.bC hb hK (aE _ _ e) rfl (hoth _ (fun e'=>h.mX hlive (e' ▸ hF))) (fun _ h=>h)
    | map o es=>rw [ek] at hl;exact absurd rfl hl
    | hole=>unfold Vw.bF;simp only [aE _ _ e,ek]
    | dead=>unfold Vw.bF;simp only [aE _ _ e,ek]
    | nils=>unfold Vw.bF;simp only [aE _ _ e,ek]
 ·intro k1 k2 a1 a2 he
  have g:∀ k',(aC s.lv k .dead k').live=true→(s.lv k').live=true:=by
   intro k' hk'
   by_cases e:k'=k
   ·subst e;rw [aA] at hk';cases hk'
   ·rwa [aE _ _ e] at hk'
  exact h.inj _ _ (g _ a1) (g _ a2) he
 ·intro b hb hnW;refine hoth b (fun e=>?_);rcases h.eJ hlive with h1|h1
  ·omega
  ·exact hnW (e ▸ h1)
theorem tW(hd:∀ d,o.dst=some d→d<c.n)
 (ho:o.op=.call { callee:=.builtin .unsafeString,args:=#[x,y],argTypes:=#[pt,it] }) (hx:s.val c.G x=.c (.ptr k 0)) (hk:s.lv k=.cells own false e cs) (hy:s.val c.G y=.c (.d (.int .i64 l.length)))
 (hp:c.P.underlying pt=some (.pointer e)) (hc:c.P.cellsOf e=1) (hl:cs.take l.length=dZ l) (h0:l≠[]) (h63:l.length≤9223372036854775807) :
 bT c o s (aB.put ⟨s.fr,aC s.lv k .dead⟩ o.dst (.c (.d (.str l)))):=
 bT.dX hd fun F β a w hs=>by
  have hv:=hx ▸ hs.val x;obtain⟨hv,_⟩:=hv;simp only [Vw.cT,hk] at hv;have hyv:=Vw.fh (hy ▸ hs.val y);have hb:=hs.bF k;unfold Vw.bF at hb;simp only [hk] at hb;obtain⟨arr,b1,b2,b3,b4,b5⟩:=hb
  have hll:l.length≤cs.length:=by
   have:=congrArg List.length hl;rw [WR,jk] at this;omega
  have hcell:∀ j x,l[j]?=some x→w.cell? ((⟨β k,0,none⟩:Addr).add j)=some (.int .u8 x.toNat):=by
   intro j x hj;obtain⟨hj1,hj2⟩:=List.getElem?_eq_some_iff.1 hj
   have h1:cs[j]'(by omega)=.d (.int .u8 (x.toNat:Int)):=by
    have h2:(cs.take l.length)[j]?=some (cs[j]'(by omega)):=by
     rw [Yp,if_pos hj1,rP (by omega)]
    rw [hl,dZ,Yi,hj] at h2;simpa using h2.symm
   have h3:=b3 j (by omega) (by omega);rw [h1] at h3;have h4:=Vw.fh (V:=Vw.mk F β s.lv w) h3
   have h5:(⟨β k,0,none⟩:Addr).add j=⟨β k,j,none⟩:=by
    unfold Addr.add;by_cases e:j=0
    ·subst e;simp
    ·simp [e]
   rw [h5,fu b1 (by omega),h4]
  have hr:=run_unsafeString_row (P:=c.P) w pt it o.type e hp hc (β k) arr.size (by simp [World.shape?,b1]) l h0 (by omega) h63 hcell;refine⟨.string ⟨l.toArray⟩,F,β,w.freeze ⟨β k,0,none⟩ l.length,?_,hs.C0 hk l.length,Vw.qf _ _ h63⟩;simp [execOp,ho,resolve,invoke,builtin,hv,hyv,hr]
theorem xb{S:TypeId}(hd:∀ d,o.dst=some d→d<c.n) (ho:o.op=.convert S T x)
 (hx:s.val c.G x=.c (.d (.str l))) (hS:ct c.P S=true) (hT:eP c.P T=some (e,1)) (he:c.P.underlying e=some (.int .u8)) (h63:l.length≤9223372036854775807) :
 bT c o s (s.put o.dst (.c (.d (.sl (l.map fun b=>[.int .u8 (b.toNat:Int)]))))):=by
 have hput:s.put o.dst (.c (.d (.sl (l.map fun b=>[.int .u8 (b.toNat:Int)]))))=aB.put ⟨s.fr,s.lv⟩ o.dst (.c (.d (.sl (l.map fun b=>[.int .u8 (b.toNat:Int)])))):=rfl;rw [hput];refine bT.dX hd fun F β a w hs=>?_;have hxv:=Vw.iL (hx ▸ hs.val x);obtain⟨hu,_,_⟩:=dc hT;have hstr:=gb hS;have hr:=Go.Lib.run_convert_string_bytes (P:=c.P) w S T e ⟨l.toArray⟩ hstr hu he;rw [cO] at hr;have hold:∀ b,b<w.heap.size→(bytesWorld w e ⟨l.toArray⟩).heap[b]?=w.heap[b]?:=fun b hb=>bytesWorld_at_old w e _ b hb
 have hsz:=bytesWorld_size w e ⟨l.toArray⟩;have hge:=hs.ge
 have hst:aD c (fun b=>F b∨b=w.heap.size) β s a (bytesWorld w e ⟨l.toArray⟩):=by
  refine hs.step (fun _ h=>.inl h) (fun b hb=>hold b (hs.lB b hb).1) (fun k=>LB.bw _) (fun _ _ _=>rfl) (fun b=>?_) ?_ hs.inj (fun b hb=>?_) (by omega) (fun b hb _=>hold b (by omega))
  ·by_cases hb:b<w.heap.size
   ·simp only [cg,hold b hb];exact bg _
   ·have:w.heap[b]?=none:=YX (by omega);simp [cg,this]
  ·intro k hK;have hb:=hs.bF k
   have hlt:(∃ own fz T cs,s.lv k=.cells own fz T cs)∨(∃ own es,s.lv k=.map own es)→β k<w.heap.size:=by
    unfold Vw.bF at hb;rintro (⟨o,fz,T,cs,e⟩|⟨o,es,e⟩)
    ·simp only [e] at hb;obtain⟨_,h1,_⟩:=hb;exact ei h1
    ·simp only [e] at hb;obtain⟨_,_,h1,_⟩:=hb;exact ei h1
   cases ek:s.lv k with
   | cells own fz T cs=>
    have:=hlt (.inl ⟨_,_,_,_,ek⟩);exact Vw.bC hb hK rfl rfl (hold _ this) (fun _ hf=>hf.resolve_right (by show β k≠w.heap.size;omega))
   | map own es=>
    have:=hlt (.inr ⟨_,_,ek⟩);exact Vw.bC hb hK rfl rfl (hold _ this) (fun _ hf=>hf.resolve_right (by show β k≠w.heap.size;omega))
   | hole=>unfold Vw.bF;simp only [ek]
   | dead=>unfold Vw.bF;simp only [ek]
   | nils=>unfold Vw.bF;simp only [ek]
  ·rcases hb with hb|hb
   ·exact .inl hb
   ·subst hb;exact .inr ⟨by omega,hge⟩
 refine⟨.slice (some ⟨w.heap.size,0,none⟩) l.length (grownCap w l.length 0 e),_,β,_,by simp [execOp,ho,hxv,hr],hst,?_,rfl⟩;have hcap:=grownCap_ge w l.length 0 e
 have key:=Rd.sl (M:=lq (bytesWorld w e ⟨l.toArray⟩) (fun b=>F b∨b=w.heap.size)) w.heap.size 0 (grownCap w l.length 0 e) 1 (l.map fun b=>[DV.int .u8 (b.toNat:Int)]) (fun i _=>.int .u8 (l.getD i 0).toNat)
  (by simp) (by simpa using hcap) (by simpa using h63) ?_ (by intros;rfl) ?_
 ·rw [W6] at key;exact key
 ·intro i hi j hj;simp at hi;refine⟨.inr rfl,?_⟩;have:=bytesWorld_cell w e ⟨l.toArray⟩ i (by rw [cO];exact hi);have hj0:j=0:=by omega
  subst hj0;simpa using this
 ·intro i hi j hj;simp at hi hj;have hj0:j=0:=by omega
  subst hj0;simp only [WK,Xo];have:l.getD i 0=l[i]:=by rw [WO,rP hi];rfl
  rw [this];exact .int _ _ (LD _)
end
def D0:DV→AV
 | .agg l=>.agg (l.map .d)
 | x=>.c (.d x)
theorem Vw.D0(h:Rd V.mem v d):V.av v (Am.D0 d):=by
 cases h with
 | agg arr cs hl ho hr=>
  refine⟨arr,rfl,by simpa using hl,fun i p q=>?_⟩;simp only [WK];exact⟨hr i (by simpa using p),ho i q⟩
 | _=>first
  | exact⟨.bool _,rfl⟩
  | exact⟨.int _ _ (by assumption),rfl⟩
  | exact⟨.str _ (by assumption),rfl⟩
  | exact⟨.nilp,rfl⟩
  | exact⟨.nilsl,rfl⟩
  | exact⟨.nilIface,rfl⟩
  | exact⟨.nilFunc,rfl⟩
  | exact⟨.nilmap,rfl⟩
  | exact⟨.ptr _ _ _ _ (by assumption) (by assumption) (by assumption),rfl⟩
  | exact⟨.sl _ _ _ _ _ _ (by assumption) (by assumption) (by assumption) (by assumption) (by assumption) (by assumption),rfl⟩
  | exact⟨.iface _ _ _ (by assumption),rfl⟩
  | exact⟨.func _ _ _ _ _ (by assumption) (by assumption) (by assumption) (by assumption),rfl⟩
theorem xP (d:DV):∀ l,D0 d≠.tup l:=by intro l;cases d <;> simp [D0]
def dD (P:Program)(T:TypeId)(d:DV):Bool:=
 match P.underlying T,d with
 | some (.int k),.int k' _=>decide (k=k')
 | some .string,.str _=>true
 | some .bool,.bool _=>true
 | _,_=>false
def jm (P:Program):List Field→List DV→Bool
 | [],_=>true
 | f::r,ds=>f.name != "_" && (match cY P f.type with|some false=>true|_=>false) && (match ds[f.offset]? with|some d=>dD P f.type d|none=>false) && jm P r ds
def fD (P:Program)(T:TypeId)(d:DV):Bool:=
 match P.underlying T,d with
 | some (.struct fs),.agg ds=>!P.stoodInHeld T && jm P fs.toList ds && fs.toList.map (·.offset) == List.range ds.length
 | _,d=>dD P T d
def mu:DV→DV→Bool
 | .int k a,.int k' b=>decide (k=k') && a == b
 | .str a,.str b=>a == b
 | .bool a,.bool b=>a == b
 | _,_=>false
theorem Gw {e:DV}(h:mu d e=true):d=e:=by
 unfold mu at h;split at h
 ·simp only [cn,decide_eq_true_eq,beq_iff_eq] at h;rw [h.1,h.2]
 ·simp only [beq_iff_eq] at h;rw [h]
 ·simp only [beq_iff_eq] at h;rw [h]
 ·cases h
def Iq:List DV→List DV→Bool
 | [],[]=>true
 | a::l,b::m=>mu a b && Iq l m
 | _,_=>false
theorem Gt:∀ {l m:List DV},Iq l m=true→l=m
 | [],[],_=>rfl
 | a::l,b::m,h=>by simp only [Iq,cn] at h;rw [Gw h.1,Gt h.2]
 | [],_::_,h=>by cases h
 | _::_,[],h=>by cases h
def wH:DV→DV→Bool
 | .agg a,.agg b=>Iq a b
 | a,b=>mu a b
theorem NH {e:DV}(h:wH d e=true):d=e:=by
 unfold wH at h;split at h
 ·rw [Gt h]
 ·exact Gw h
theorem xq (a b:List UInt8):(ByteArray.mk a.toArray == ByteArray.mk b.toArray)=(a == b):=by
 rw [Bool.eq_iff_iff,MapKept.bytes_beq,beq_iff_eq];constructor
 ·intro h;simpa using h
 ·rintro rfl;rfl
section
variable {P:Program}{w:World}{M:Mem}
theorem Dd(h:dD P T d=true) (hv:Rd M v d):v=d.eO:=by
 unfold dD at h;split at h
 ·cases hv;rfl
 ·cases hv with|str s hl=>simp [DV.eO]
 ·cases hv;rfl
 ·cases h
theorem JN{t:TypeDesc}{e:DV}(hT:P.underlying T=some t) (h1:dD P T d=true) (h2:dD P T e=true):Instr.sameNow t d.eO e.eO=some (mu d e):=by
 unfold dD at h1 h2;rw [hT] at h1 h2
 cases t <;> cases d <;> simp at h1 <;> cases e <;> simp at h2
 ·simp [DV.eO,Instr.sameNow,mu]
 ·subst h1;subst h2;simp [DV.eO,Instr.sameNow,mu]
 ·rename_i a b
  simp only [DV.eO,Instr.sameNow,mu,ai];exact xq a b
theorem GN{e:DV}(h1:dD P T d=true) (h2:dD P T e=true) (n:Nat):(Op.equalIn (n+1) T d.eO e.eO).run P w=.ok (mu d e) w:=by
 unfold dD at h1 h2
 cases hT:P.underlying T with
 | none=>rw [hT] at h1;simp at h1
 | some t=>
  rw [hT] at h1 h2
  cases t <;> cases d <;> simp at h1 <;> cases e <;> simp at h2
  ·rename_i a b;simp only [DV.eO,mu];exact run_equalIn_bool' w n T a b hT
  ·subst h1;subst h2;simp only [DV.eO,mu,decide_true,Bool.true_and];exact run_equalIn_int w n T _ _ _ _ hT
  ·simp only [DV.eO,mu];rw [run_equalIn_string w n T _ _ hT,toList_mk,toList_mk]
theorem wS(h1:dD P T d=true) (em:Bool) (n:Nat):(Instr.checkKey em (n+1) T d.eO).run P w=.ok () w:=by
 unfold dD at h1
 cases hT:P.underlying T with
 | none=>rw [hT] at h1;simp at h1
 | some t=>
  rw [hT] at h1
  cases t <;> cases d <;> simp at h1 <;> simp [Instr.checkKey,run_underlying hT,DV.eO]
theorem Ak(h1:dD P T d=true) (n:Nat):Instr.sameBits n d.eO d.eO=true:=by
 unfold dD at h1;split at h1
 ·cases n <;> simp [DV.eO,Instr.sameBits]
 ·cases n <;> simp only [DV.eO,Instr.sameBits] <;> rw [xq] <;> simp
 ·cases n <;> simp [DV.eO,Instr.sameBits]
 ·cases h1
theorem ld{arr:Array Value}(ha:cY P T=some false) (h:arr[off]?=some d.eO):(part T arr off).run P w=.ok d.eO w:=by
 simp [part,lM ha,h]
theorem jd:∀ {fs:List Field}{ds:List DV},jm P fs ds=true→∀ f∈fs,f.name ≠ "_" ∧ cY P f.type=some false∧∃ d,ds[f.offset]?=some d∧dD P f.type d=true
 | [],_,_,f,hf=>by cases hf
 | g::r,ds,h,f,hf=>by
  simp only [jm,cn,bne_iff_ne] at h;obtain⟨⟨⟨h1,h2⟩,h3⟩,h4⟩:=h;rcases List.mem_cons.1 hf with rfl|hf
  ·refine⟨h1,?_,?_⟩
   ·split at h2
    ·assumption
    ·cases h2
   ·split at h3
    ·rename_i d hd;exact⟨d,hd,h3⟩
    ·cases h3
  ·exact jd h4 f hf
theorem HT{fs:Array Field}(hT:P.underlying T=some (.struct fs)) (h:fD P T (.agg ds)=true) (hv:Rd M v (.agg ds)) :
 v=.agg (ds.map DV.eO).toArray:=by
 simp only [fD,hT,cn,beq_iff_eq] at h;obtain⟨⟨_,h2⟩,h3⟩:=h
 cases hv with
 | agg arr _ hl ho hr=>
  congr 1;apply Array.ext
  ·simpa using hl
  ·intro i p q;simp only [X8,WK];have hi:i<ds.length:=by omega
   have hm:i∈fs.toList.map (·.offset):=by rw [h3];exact List.mem_range.2 hi
   obtain⟨f,hf,rfl⟩:=List.mem_map.1 hm;obtain⟨_,_,d,hd,hs⟩:=jd h2 f hf;have hd':ds[f.offset]=d:=by rw [rP hi] at hd;simpa using hd
   have:=hr f.offset hi;rw [hd'] at this ⊢;exact Dd hs this
def DV.fE:DV→Value
 | .agg ds=>.agg (ds.map DV.eO).toArray
 | d=>d.eO
theorem oR(h:dD P T d=true):d.fE=d.eO:=by
 cases d with
 | agg ds=>unfold dD at h;split at h <;> simp_all
 | _=>rfl
theorem wm(h:fD P T d=true) (hv:Rd M v d):v=d.fE:=by
 unfold fD at h;split at h
 ·rename_i fs ds hT
  have h':fD P T (.agg ds)=true:=by simp only [fD,hT];exact h
  exact HT hT h' hv
 ·have:=Dd h hv;rw [this];exact (oR h).symm
theorem pS {ds es:List DV}:∀ (fs:List Field),jm P fs ds=true→jm P fs es=true→∀ n,
 (Op.eqFields (n+1) (ds.map DV.eO).toArray (es.map DV.eO).toArray fs).run P w=.ok (fs.all fun f=>match ds[f.offset]?,es[f.offset]? with|some a,some b=>mu a b|_,_=>false) w
 | [],_,_,n=>by simp [Op.eqFields]
 | f::r,h1,h2,n=>by
  obtain⟨a1,a2,d,a3,a4⟩:=jd h1 f (XP ..);obtain⟨_,_,e,b3,b4⟩:=jd h2 f (XP ..);have r1:jm P r ds=true:=by simp only [jm,cn] at h1;exact h1.2
  have r2:jm P r es=true:=by simp only [jm,cn] at h2;exact h2.2
  have p1:=ld (P:=P) (w:=w) (d:=d) (off:=f.offset) (arr:=(ds.map DV.eO).toArray) a2 (by simp [a3]);have p2:=ld (P:=P) (w:=w) (d:=e) (off:=f.offset) (arr:=(es.map DV.eO).toArray) a2 (by simp [b3]);simp only [Op.eqFields,if_pos a1,bE,p1,p2,GN a4 b4,fy,Ym,a3,b3]
  cases hb:mu d e with
  | false=>simp
  | true=>simp only [Bool.not_true,WS,if_false,Bool.true_and];exact pS r r1 r2 n
theorem BW {es:List DV}{fs:List Field}(h1:fs.map (·.offset)=List.range ds.length) (h2:fs.map (·.offset)=List.range es.length) :
 (fs.all fun f=>match ds[f.offset]?,es[f.offset]? with|some a,some b=>mu a b|_,_=>false)=Iq ds es:=by
 have hl:ds.length=es.length:=by
  have:=congrArg List.length (h1.symm.trans h2);simpa using this
 have h3:(fs.all fun f=>match ds[f.offset]?,es[f.offset]? with|some a,some b=>mu a b|_,_=>false) =
  ((fs.map (·.offset)).all fun i=>match ds[i]?,es[i]? with|some a,some b=>mu a b|_,_=>false):=by rw [List.all_map];rfl
 rw [h3,h1];clear h1 h2 h3 fs
 induction ds generalizing es with
 | nil=>cases es with
  | nil=>rfl
  | cons b m=>simp at hl
 | cons a l ih=>
  cases es with
  | nil=>simp at hl
  | cons b m=>
   simp only [Xi,List.range_succ_eq_map,Ym,Yl,Iq,List.all_map];congr 1;have:=ih (es:=m) (by simpa using hl);rw [← this];congr 1
theorem Pn{e:DV}(h1:fD P T d=true) (h2:fD P T e=true) (n:Nat):(Op.equalIn (n+2) T d.fE e.fE).run P w=.ok (wH d e) w:=by
 cases hT:P.underlying T with
 | none=>unfold fD at h1;simp [hT,dD] at h1
 | some t=>
  by_cases hs:∃ fs,t=.struct fs
  ·obtain⟨fs,rfl⟩:=hs;have hfo:P.fieldsOf T=fs:=by simp [Program.fieldsOf,hT]
   cases d with
   | agg ds=>
    cases e with
    | agg es=>
     simp only [fD,hT,cn,beq_iff_eq,W8] at h1 h2;obtain⟨⟨q1,q2⟩,q3⟩:=h1;obtain⟨⟨p1,p2⟩,p3⟩:=h2;simp only [DV.fE,wH];rw [run_equalIn_struct w (n+1) T _ _ (by rw [hfo];exact hT) q1,hfo,pS _ q2 p2,BW q3 p3]
    | _=>unfold fD at h2;simp [hT,dD] at h2
   | _=>unfold fD at h1;simp [hT,dD] at h1
  ·have key:∀ x,fD P T x=true→dD P T x=true:=by
    intro x hx;unfold fD at hx;split at hx
    ·rename_i fs ds h;rw [hT] at h;simp only [ai] at h;exact absurd ⟨fs,h⟩ hs
    ·exact hx
   have e1:=key _ h1;have e2:=key _ h2
   have k1:∀ x,dD P T x=true→x.fE=x.eO:=by
    intro x hx;cases x with
    | agg ds=>unfold dD at hx;split at hx <;> simp_all
    | _=>rfl
   rw [k1 _ e1,k1 _ e2,GN e1 e2]
   have:wH d e=mu d e:=by
    cases d with
    | agg ds=>unfold dD at e1;split at e1 <;> simp_all
    | _=>rfl
   rw [this]
theorem rV {α:Type}{f:α→Sem (ForInStep PUnit)}:∀ (l:List α),(∀ x∈l,(f x).run P w=.ok (.yield ⟨⟩) w)→(forIn l PUnit.unit (fun x _=>f x)).run P w=.ok ⟨⟩ w
 | [],_=>by simp
 | x::l,h=>by
  simp only [List.forIn_cons,bE,h x (XP ..),fy];exact rV l fun y hy=>h y (XO _ hy)
theorem zE(h1:fD P T d=true) (em:Bool) (n:Nat):(Instr.checkKey em (n+2) T d.fE).run P w=.ok () w:=by
 cases hT:P.underlying T with
 | none=>unfold fD at h1;simp [hT,dD] at h1
 | some t=>
  by_cases hs:∃ fs,t=.struct fs
  ·obtain⟨fs,rfl⟩:=hs
   cases d with
   | agg ds=>
    simp only [fD,hT,cn,beq_iff_eq,W8] at h1;obtain⟨⟨q1,q2⟩,q3⟩:=h1;simp only [DV.fE];rw [Instr.checkKey];simp only [bE,run_underlying hT,fy];rw [← Array.forIn_toList]
    have:=rV (P:=P) (w:=w) (f:=fun f:Field=>(if f.name ≠ "_" then (do Instr.checkKey em (n+1) f.type (← part f.type (ds.map DV.eO).toArray f.offset);pure (.yield ⟨⟩)) else pure (.yield ⟨⟩):Sem (ForInStep PUnit))) fs.toList (fun f hf=>by
     obtain⟨a1,a2,x,a3,a4⟩:=jd q2 f hf;have p1:=ld (P:=P) (w:=w) (d:=x) (off:=f.offset) (arr:=(ds.map DV.eO).toArray) a2 (by simp [a3]);simp [a1,p1,wS a4])
    simp at this ⊢;rw [this];rfl
   | _=>unfold fD at h1;simp [hT,dD] at h1
  ·have e1:dD P T d=true:=by
    unfold fD at h1;split at h1
    ·rename_i fs ds h;rw [hT] at h;simp only [ai] at h;exact absurd ⟨fs,h⟩ hs
    ·exact h1
   have k1:d.fE=d.eO:=by
    cases d with
    | agg ds=>unfold dD at e1;split at e1 <;> simp_all
    | _=>rfl
   rw [k1];exact wS e1 em (n+1)
end
def kn (k:DV):List (DV × AV)→Option Nat
 | []=>none
 | e::es=>if wH k e.1 then some 0 else (kn k es).map (·+1)
theorem ue {k:DV}:∀ {es:List (DV × AV)}{i:Nat},kn k es=some i→∃ e,es[i]?=some e∧e.1=k
 | [],_,h=>by cases h
 | e::es,i,h=>by
  simp only [kn] at h;split at h
  ·rename_i hb
   simp only [ai] at h;subst h;exact⟨e,rfl,(NH hb).symm⟩
  ·rw [W7] at h;obtain⟨j,hj,rfl⟩:=h;obtain⟨e',h1,h2⟩:=ue hj;exact⟨e',by simpa using h1,h2⟩
def yK (k:DV)(y:AV)(es:List (DV × AV)):List (DV × AV):=
 match kn k es with
 | some i=>es.set i (k,y)
 | none=>es++[(k,y)]
section
variable {P:Program}{w:World}{M:Mem}
theorem zb{k:DV}(hk:fD P T k=true)(hes:∀ e∈es,fD P T e.1=true) {ents:List MapEntry}(hl:ents.length=es.length)
 (hr:∀ i (h:i<es.length) (h':i<ents.length),Rd M ents[i].key es[i].1) :
 (Instr.findKey T k.fE ents).run P w=.ok ((kn k es).bind fun i=>ents[i]?.map fun e=>(i,e.val)) w:=by
 have hkeys:∀ i (h:i<es.length) (h':i<ents.length),ents[i].key=es[i].1.fE:=fun i h h'=>wm (hes _ (aW h)) (hr i h h')
 clear hr
 cases hT:P.underlying T with
 | none=>unfold fD at hk;simp [hT,dD] at hk
 | some t=>
  by_cases hs:∃ fs,t=.struct fs
  ·obtain⟨fs,rfl⟩:=hs;rw [run_findKey_eq w (by simp [hT])]
   have key:∀ (es:List (DV × AV)) (ents:List MapEntry) (n:Nat),(∀ e∈es,fD P T e.1=true)→ents.length=es.length→(∀ i (h:i<es.length) (h':i<ents.length),ents[i].key=es[i].1.fE) →
    (Instr.findAsking T k.fE ents n).run P w=.ok ((kn k es).bind fun i=>ents[i]?.map fun e=>(n+i,e.val)) w:=by
    intro es
    induction es with
    | nil=>intro ents n _ hl _;have:ents=[]:=Yd (by simpa using hl)
           subst this;simp [Instr.findAsking,kn]
    | cons e es ih=>
     intro ents n h1 hl h2
     cases ents with
     | nil=>simp at hl
     | cons m ents=>
      have hm:=h2 0 (by simp) (by simp);simp only [Xo] at hm;have he:(Op.equal T k.fE m.key).run P w=.ok (wH k e.1) w:=by rw [hm];exact Pn hk (h1 e (XP ..)) 9998
      simp only [Instr.findAsking,bE,he,fy,kn]
      cases hb:wH k e.1 with
      | true=>simp
      | false=>
       simp only [WS,if_false];rw [ih ents (n+1) (fun e he=>h1 e (XO _ he)) (by simpa using hl) (fun i p q=>h2 (i+1) (by simp;omega) (by simp;omega))]
       cases kn k es with
       | none=>simp
       | some i=>simp;congr 1;funext x;rw [XK,XL 1]
   have:=key es ents 0 hes hl hkeys;simpa using this
  ·have hsc:∀ x,fD P T x=true→dD P T x=true:=by
    intro x hx;unfold fD at hx;split at hx
    ·rename_i fs ds h;rw [hT] at h;simp only [ai] at h;exact absurd ⟨fs,h⟩ hs
    ·exact hx
   have key:∀ (es:List (DV × AV)) (ents:List MapEntry) (n:Nat),(∀ e∈es,fD P T e.1=true)→ents.length=es.length→(∀ i (h:i<es.length) (h':i<ents.length),ents[i].key=es[i].1.fE) →
    Instr.findNow t k.fE ents n=some ((kn k es).bind fun i=>ents[i]?.map fun e=>(n+i,e.val)):=by
    intro es
    induction es with
    | nil=>intro ents n _ hl _;have:ents=[]:=Yd (by simpa using hl)
           subst this;simp [Instr.findNow,kn]
    | cons e es ih=>
     intro ents n h1 hl h2
     cases ents with
     | nil=>simp at hl
     | cons m ents=>
      have hm:=h2 0 (by simp) (by simp);simp only [Xo] at hm;have e1:=hsc _ hk;have e2:=hsc _ (h1 e (XP ..))
      have hb2:wH k e.1=mu k e.1:=by
       cases k with
       | agg ds=>unfold dD at e1;split at e1 <;> simp_all
       | _=>rfl
      have he:Instr.sameNow t k.fE m.key=some (wH k e.1):=by rw [hm,oR e1,oR e2,JN hT e1 e2,hb2]
      simp only [Instr.findNow,he,kn]
      cases hb:wH k e.1 with
      | true=>simp
      | false=>
       simp only [WS,if_false];rw [ih ents (n+1) (fun e he=>h1 e (XO _ he)) (by simpa using hl) (fun i p q=>h2 (i+1) (by simp;omega) (by simp;omega))]
       cases kn k es with
       | none=>simp
       | some i=>simp;congr 1;funext x;rw [XK,XL 1]
   have:=key es ents 0 hes hl hkeys;simp only [Instr.findKey,bE,run_underlying hT,fy,this];simp
theorem J9(h1:fD P T d=true) (n:Nat):Instr.sameBits (n+1) d.fE d.fE=true:=by
 unfold fD at h1;split at h1
 ·rename_i fs ds hT
  simp only [cn,beq_iff_eq,W8] at h1;obtain⟨⟨q1,q2⟩,q3⟩:=h1;simp only [DV.fE,Instr.sameBits,beq_self_eq_true,Bool.true_and,E5];intro p hp
  have:p.1=p.2∧∃ x∈ds,p.1=x.eO:=by
   have hz:∀ (l:List Value) (p:Value × Value),p∈l.zip l→p.1=p.2∧p.1∈l:=by
    intro l
    induction l with
    | nil=>intro p hp;simp at hp
    | cons a l ih=>
     intro p hp;simp only [List.zip_cons_cons,WM] at hp;rcases hp with rfl|hp
     ·exact⟨rfl,XP ..⟩
     ·exact⟨(ih p hp).1,XO _ (ih p hp).2⟩
   have:=hz _ p hp;refine⟨this.1,?_⟩;have h2:=this.2;simp only [Xp] at h2;obtain⟨x,hx,h3⟩:=h2;exact⟨x,hx,h3.symm⟩
  obtain⟨h2,x,hx,h3⟩:=this;obtain⟨i,hi,rfl⟩:=List.mem_iff_getElem.1 hx;have hm:i∈fs.toList.map (·.offset):=by rw [q3];exact List.mem_range.2 hi
  obtain⟨f,hf,rfl⟩:=List.mem_map.1 hm;obtain⟨_,_,d,hd,hs⟩:=jd q2 f hf;have hd':ds[f.offset]=d:=by rw [rP hi] at hd;simpa using hd
  rw [← h2,h3,hd'];exact Ak hs n
 ·rw [oR h1];exact Ak h1 (n+1)
theorem Bh(h1:fD P T d=true):(Instr.keyThatStays d.fE d.fE).run P w=.ok d.fE w:=by
 simp [Instr.keyThatStays,J9 h1 9999]
end
section
variable {c:Ctx}{F:Nat→Prop}{β:Key→Nat}{s:aB}{a:Act}{w:World}
theorem aD.allocMap (h:aD c F β s a w)(hκ:s.lv κ=.hole) :
 aD c F (aC β κ w.heap.size) ⟨s.fr,aC s.lv κ (.map true [])⟩ a (w.alloc (.map #[] 0)):=by
 have hnew:∀ b,F b→b≠w.heap.size:=fun b hb e=>by have:=(h.lB b hb).1;omega
 have hge:=h.ge
 have hlt:∀ k,(∃ own fz T cs,s.lv k=.cells own fz T cs)∨(∃ own es,s.lv k=.map own es)→β k<w.heap.size:=by
  intro k hk;have hb:=h.bF k;unfold Vw.bF at hb;rcases hk with ⟨o,fz,T,cs,e⟩|⟨o,es,e⟩
  ·simp only [e] at hb;obtain⟨_,h1,_⟩:=hb;exact ei h1
  ·simp only [e] at hb;obtain⟨_,_,h1,_⟩:=hb;exact ei h1
 refine h.step (fun _ h=>h) (fun b hb=>by rw [heap_alloc,if_neg (hnew b hb)]) ?_ ?_ (iA w _) ?_ ?_ (fun b h=>.inl h) (by simp) ?_
 ·intro k
  by_cases e:k=κ
  ·subst e;rw [hκ];simp [LB.sub]
  ·rw [aE _ _ e];exact LB.bw _
 ·intro k hk _;have e:k≠κ:=fun e=>hk (e ▸ hκ)
  exact aE _ _ e
 ·intro k hK
  by_cases e:k=κ
  ·subst e;simp only [Vw.bF,aA];refine⟨#[],0,by rw [heap_alloc,if_pos rfl],rfl,fun i x=>by simp at x,fun hf=>hnew _ hf rfl,?_⟩;simp only [eo,if_true];exact hge
  ·have hb:=h.bF k
   cases ek:s.lv k with
   | cells own fz T cs=>
    have:=hlt k (.inl ⟨_,_,_,_,ek⟩);refine Vw.bC hb hK (aE _ _ e) (aE _ _ e) ?_ (fun _ h=>h);show (w.alloc _).heap[β k]?=_;rw [heap_alloc,if_neg (by omega)]
   | map own es=>
    have:=hlt k (.inr ⟨_,_,ek⟩);refine Vw.bC hb hK (aE _ _ e) (aE _ _ e) ?_ (fun _ h=>h);show (w.alloc _).heap[β k]?=_;rw [heap_alloc,if_neg (by omega)]
   | hole=>unfold Vw.bF;simp only [aE _ _ e,ek]
   | dead=>unfold Vw.bF;simp only [aE _ _ e,ek]
   | nils=>unfold Vw.bF;simp only [aE _ _ e,ek]
 ·intro k k' hk hk' he
  have side:∀ j,j≠κ→(aC s.lv κ (.map true []) j).live=true→β j<w.heap.size:=by
   intro j hj hl;rw [aE _ _ hj] at hl;exact h.fK hl
  by_cases e:k=κ <;> by_cases e':k'=κ
  ·rw [e,e']
  ·subst e;have:=side k' e' hk';rw [aA,aE _ _ e'] at he;omega
  ·subst e';have:=side k e hk;rw [aA,aE _ _ e] at he;omega
  ·rw [aE _ _ e,aE _ _ e'] at he;rw [aE _ _ e] at hk;rw [aE _ _ e'] at hk';exact h.inj _ _ hk hk' he
 ·intro b hb _;rw [heap_alloc,if_neg (by omega)]
theorem B5{r:Option Operand}(hd:∀ d,o.dst=some d→d<c.n) (ho:o.op=.makeMap T r) (hr:r=none) (hκ:s.lv κ=.hole) :
 bT c o s (aB.put ⟨s.fr,aC s.lv κ (.map true [])⟩ o.dst (.c (.mapr κ))):=
 bT.dX hd fun F β a w hs=>by
  subst hr;refine⟨.map (some w.heap.size),F,aC β κ w.heap.size,_,by simp [execOp,ho,Instr.makeMap],hs.allocMap hκ,?_,rfl⟩;simp only [Vw.jQ,aA]
theorem aD.OA (h:aD c F β s a w){es':List (DV × AV)}(hk:s.lv k=.map own es) {ents ents':Array MapEntry}{cl cl':Nat}
 (hg:w.heap[β k]?=some (.map ents cl)) (hl:ents'.size=es'.length)
 (hc:∀ i (h:i<es'.length) (h':i<ents'.size),Rd (lq w F) ents'[i].key es'[i].1∧(Vw.mk F β s.lv w).m9 ents'[i].val es'[i].2) :
 aD c F β ⟨s.fr,aC s.lv k (.map own es')⟩ a { w with heap:=w.heap.setIfInBounds (β k) (.map ents' cl') }:=by
 have hlive:(s.lv k).live=true:=by rw [hk];rfl
 have hoth:∀ b,b≠β k→(w.heap.setIfInBounds (β k) (.map ents' cl'))[b]?=w.heap[b]?:=by
  intro b hb;rw [YD,if_neg (fun e=>hb e.symm)]
 have hb0:=h.bF k;unfold Vw.bF at hb0;simp only [hk] at hb0;obtain⟨e0,c0,p1,p2,p3,p4,p5⟩:=hb0;refine h.step (fun _ h=>h) (fun b hb=>hoth b (fun e=>h.mX hlive (e ▸ hb))) ?_ (fun _ _ _=>rfl) (fun b=>?_) ?_ ?_ (fun b h=>.inl h) (by simp) ?_
 ·intro k'
  by_cases e:k'=k
  ·subst e;rw [aA,hk];simp [LB.sub]
  ·rw [aE _ _ e];exact LB.bw _
 ·by_cases e:b=β k
  ·subst e;simp [cg,hg]
  ·simp only [cg,hoth b e];exact bg _
 ·intro k' hK
  by_cases e:k'=k
  ·subst e;unfold Vw.bF;simp only [aA];refine⟨ents',cl',?_,hl,fun i x y=>?_,p4,p5⟩
   ·rw [YD,if_pos rfl,if_pos (ei hg)]
   ·exact⟨Rd.mono (gq hK.F hK.mem) (hc i x y).1,hK.m9 (hc i x y).2⟩
  ·have hb:=h.bF k'
   by_cases hl:(s.lv k').live=true
   ·exact Vw.bC hb hK (aE _ _ e) rfl (hoth _ (fun e'=>e (h.inj _ _ hl hlive e'))) (fun _ h=>h)
   ·cases ek:s.lv k' with
    | cells o fz T' cs'=>
     cases fz with
     | false=>rw [ek] at hl;exact absurd rfl hl
     | true=>
      have hF:F (β k'):=by unfold Vw.bF at hb;simp only [ek] at hb;obtain⟨_,_,_,_,h4,_⟩:=hb;exact h4
      exact Vw.bC hb hK (aE _ _ e) rfl (hoth _ (fun e'=>h.mX hlive (e' ▸ hF))) (fun _ h=>h)
    | map o es=>rw [ek] at hl;exact absurd rfl hl
    | hole=>unfold Vw.bF;simp only [aE _ _ e,ek]
    | dead=>unfold Vw.bF;simp only [aE _ _ e,ek]
    | nils=>unfold Vw.bF;simp only [aE _ _ e,ek]
 ·intro k1 k2 a1 a2 he
  have g:∀ k',(aC s.lv k (.map own es') k').live=true→(s.lv k').live=true:=by
   intro k' hk'
   by_cases e:k'=k
   ·subst e;exact hlive
   ·rwa [aE _ _ e] at hk'
  exact h.inj _ _ (g _ a1) (g _ a2) he
 ·intro b hb hnW;refine hoth b (fun e=>?_);rcases h.eJ hlive with h1|h1
  ·omega
  ·exact hnW (e ▸ h1)
def DB (P:Program)(T:TypeId):Option (TypeId × TypeId):=
 match P.underlying T with
 | some (.map k e)=>some (k,e)
 | _=>none
theorem s7{k:TypeId}(h:DB P T=some (k,e)):P.underlying T=some (.map k e):=by
 unfold DB at h;split at h
 ·rename_i h';simp only [ai,cy] at h;obtain⟨rfl,rfl⟩:=h;exact h'
 ·cases h
theorem yM{v:AV}(hd:∀ d,o.dst=some d→d<c.n) (ho:o.op=.mapUpdate T m kx y∨o.op=.insert T m kx y)
 (hm:s.val c.G m=.c (.mapr k)) (hk:s.lv k=.map own es) (hT:DB c.P T=some (kT,eT)) (hkx:m8 (s.val c.G kx)=some d) (hkT:fD c.P kT d=true) (hes:∀ e∈es,fD c.P kT e.1=true) (hy:s.val c.G y=v) (hv:∀ l,v≠.tup l) :
 bT c o s (aB.put ⟨s.fr,aC s.lv k (.map own (yK d v es))⟩ o.dst .undef):=
 bT.Gb hd fun F β a w hs=>by
  have hmv:=hm ▸ hs.val m;obtain⟨hmv,_⟩:=hmv;simp only [Vw.jQ,hk] at hmv;have hkv:=wm hkT (Vw.deep (hs.val kx) hkx)
  have hyv:(Vw.mk F β s.lv w).m9 (a.eval y) v:=by
   have h1:=hy ▸ hs.val y
   cases v with
   | tup l=>exact absurd rfl (hv l)
   | _=>exact h1
  have hb:=hs.bF k;unfold Vw.bF at hb;simp only [hk] at hb;obtain⟨ents,cl,b1,b2,b3,b4,b5⟩:=hb;have hu:=s7 hT;have hf:=zb (P:=c.P) (w:=w) (M:=lq w F) hkT hes (ents:=ents.toList) (by simpa using b2) (fun i p q=>by have:=(b3 i p (by simpa using q)).1;simp only [Xs];exact this);have hck:=zE (P:=c.P) (w:=w) hkT false 9998;have hob:(getObj (β k)).run c.P w=.ok (.map ents cl) w:=by simp [getObj,Sem.run,b1]
  have hset:∀ e' c',(setObj (β k) (.map e' c')).run c.P w=.ok () { w with heap:=w.heap.setIfInBounds (β k) (.map e' c') }:=by intro e' c';simp [setObj,Sem.run,b1]
  have hrun:∃ e' c',(Instr.mapUpdate T (.map (some (β k))) d.fE (a.eval y)).run c.P w=.ok () { w with heap:=w.heap.setIfInBounds (β k) (.map e' c') }∧e'.size=(yK d v es).length ∧
   ∀ i (h:i<(yK d v es).length) (h':i<e'.size),Rd (lq w F) e'[i].key (yK d v es)[i].1∧(Vw.mk F β s.lv w).m9 e'[i].val (yK d v es)[i].2:=by
   have hkr:Rd (lq w F) d.fE d:=hkv ▸ Vw.deep (hs.val kx) hkx
   cases hfk:kn d es with
   | none=>
    rw [hfk] at hf;refine⟨ents.push { key:=d.fE,val:=a.eval y,born:=cl },cl+1,?_,?_,?_⟩
    ·simp only [Instr.mapUpdate,bE,run_underlying hu,fy,hob,hck,hf,Option.bind_none];simp [hset]
    ·simp [yK,hfk,b2]
    ·intro i p q;simp only [yK,hfk] at p ⊢
     by_cases hi:i<es.length
     ·rw [Xt hi,Array.getElem_push_lt (by omega)];exact b3 i hi (by omega)
     ·have hi2:i=es.length:=by simp at p;omega
      subst hi2;rw [XJ (by omega)];simp only [Ya,Xo]
      have:(ents.push { key:=d.fE,val:=a.eval y,born:=cl })[es.length]={ key:=d.fE,val:=a.eval y,born:=cl }:=by
       have:=Array.getElem_push_eq (xs:=ents) (x:={ key:=d.fE,val:=a.eval y,born:=cl });simp only [b2] at this;exact this
      rw [this];exact⟨hkr,hyv⟩
   | some i=>
    obtain⟨e,he1,he2⟩:=ue hfk;obtain⟨hi,hie⟩:=List.getElem?_eq_some_iff.1 he1;have hi':i<ents.size:=by omega
    have hkk:ents[i].key=d.fE:=by
     have:=wm (hes _ (aW hi)) (b3 i hi hi').1;rw [this,hie,he2]
    rw [hfk] at hf;refine⟨ents.modify i fun e=>{ e with key:=d.fE,val:=a.eval y },cl,?_,?_,?_⟩
    ·have h1:ents.toList[i]?=some ents[i]:=by simp [hi']
     simp only [Instr.mapUpdate,bE,run_underlying hu,fy,hob,hck,hf,Option.bind_some,h1,W4];have h2:((ents[i]?.map (·.key)).getD d.fE)=d.fE:=by simp [hi',hkk]
     rw [h2,Bh hkT];simp [hset]
    ·simp [yK,hfk,b2]
    ·intro j p q;simp only [yK,hfk] at p ⊢;simp only [Array.getElem_modify,List.getElem_set]
     by_cases e:i=j
     ·subst e;simp only [if_true];exact⟨hkr,hyv⟩
     ·simp only [if_neg e];exact b3 j (by simpa using p) (by simpa using q)
  obtain⟨e',c',r1,r2,r3⟩:=hrun;refine⟨F,β,_,?_,hs.OA (cl':=c') hk b1 r2 r3⟩;rcases ho with ho|ho <;> simp [execOp,ho,hmv,hkv,r1]
def Aj (P:Program)(T:TypeId):Option AV:=((P.info? T).bind (·.zero)).map sB
theorem CE{x:AV}(h:Aj P T=some x) (V:Vw) (w:World):∃ v,(zeroValue T).run P w=.ok v w∧V.av v x∧(∀ l,x≠.tup l):=by
 unfold Aj at h;rw [W7] at h;obtain⟨z,hz,rfl⟩:=h;obtain⟨i,hi,hz⟩:=Option.bind_eq_some_iff.1 hz;refine⟨z,by simp [zeroValue,typeInfo,hi,hz],tv V z,?_⟩;intro l;unfold sB;split
 ·split <;> simp
 ·simp
 ·simp
def KG (P:Program)(eT:TypeId)(d:DV)(es:List (DV × AV)):Option (AV × Bool):=
 match kn d es with
 | some i=>(es[i]?).map fun e=>(e.2,true)
 | none=>(Aj P eT).map fun z=>(z,false)
theorem E7{v:AV}(hd:∀ d,o.dst=some d→d<c.n) (ho:o.op=.lookup T m kx ok)
 (hm:(∃ k own,s.val c.G m=.c (.mapr k)∧s.lv k=.map own es)∨(s.val c.G m=.c (.d .nilmap)∧es=[])) (hT:DB c.P T=some (kT,eT)) (hkx:m8 (s.val c.G kx)=some d) (hkT:fD c.P kT d=true) (hes:∀ e∈es,fD c.P kT e.1=true)
 (hl:KG c.P eT d es=some (v,b)) (hv:∀ l,v≠.tup l) :
 bT c o s (s.put o.dst (if ok then .tup [v,.c (.d (.bool b))] else v)):=
 bT.aU hd fun F β a w hs=>by
  have hkv:=wm hkT (Vw.deep (hs.val kx) hkx);have hu:=s7 hT
  have hents:∃ ents:List MapEntry,ents.length=es.length∧(∀ i (h:i<es.length) (h':i<ents.length),Rd (lq w F) ents[i].key es[i].1∧(Vw.mk F β s.lv w).m9 ents[i].val es[i].2) ∧
   (Instr.lookup T (a.eval m) d.fE ok).run c.P w=(do
    Instr.checkKey ents.toArray.isEmpty 10000 kT d.fE
    let (v,b) ← match ← Instr.findKey kT d.fE ents with
     | some (_,v)=>pure (v,true)
     | none=>pure (← zeroValue eT,false)
    pure (if ok then .tuple #[v,.bool b] else v):Sem Value).run c.P w:=by
   rcases hm with ⟨k,own,hm,hk⟩|⟨hm,rfl⟩
   ·have hmv:=hm ▸ hs.val m;obtain⟨hmv,_⟩:=hmv;simp only [Vw.jQ,hk] at hmv;have hb:=hs.bF k;unfold Vw.bF at hb;simp only [hk] at hb;obtain⟨ents,cl,b1,b2,b3,b4,b5⟩:=hb;have hob:(getObj (β k)).run c.P w=.ok (.map ents cl) w:=by simp [getObj,Sem.run,b1]
    refine⟨ents.toList,by simpa using b2,fun i p q=>by have:=b3 i p (by simpa using q);simp only [Xs];exact this,?_⟩;simp only [Instr.lookup,hmv,bE,run_underlying hu,fy,hob,Xg,Array.toArray_toList];rfl
   ·have hmv:=hm ▸ hs.val m;obtain⟨hmv,_⟩:=hmv;obtain⟨u,hu'⟩:∃ u,a.eval m=u:=⟨_,rfl⟩
    rw [hu'] at hmv
    cases hmv
    refine⟨[],rfl,fun i p=>by simp at p,?_⟩;rw [hu'];simp only [Instr.lookup,bE,run_underlying hu,fy,Xg];rfl
  obtain⟨ents,e1,e2,e3⟩:=hents;have hf:=zb (P:=c.P) (w:=w) (M:=lq w F) hkT hes e1 (fun i p q=>(e2 i p q).1);have hck:=fun em=>zE (P:=c.P) (w:=w) hkT em 9998
  have hres:∃ u,(Instr.lookup T (a.eval m) d.fE ok).run c.P w=.ok (if ok then .tuple #[u,.bool b] else u) w∧(Vw.mk F β s.lv w).m9 u v:=by
   rw [e3];unfold KG at hl;split at hl
   ·rename_i i hfk
    obtain⟨e,he1,he2⟩:=ue hfk;obtain⟨hi,hie⟩:=List.getElem?_eq_some_iff.1 he1;rw [he1] at hl;simp only [W4,ai,cy] at hl;obtain⟨rfl,rfl⟩:=hl;rw [hfk] at hf;have h1:ents[i]?=some (ents[i]'(by omega)):=rP (by omega);refine⟨(ents[i]'(by omega)).val,?_,?_⟩
    ·simp only [bE,hck,fy,hf,Option.bind_some,h1,W4,Xg]
    ·have:=(e2 i hi (by omega)).2;rw [hie] at this;exact this
   ·rename_i hfk
    rw [W7] at hl;obtain⟨z,hz,hl⟩:=hl;simp only [cy] at hl;obtain⟨rfl,rfl⟩:=hl;obtain⟨u,hu1,Qk,_⟩:=CE hz (Vw.mk F β s.lv w) w;rw [hfk] at hf;refine⟨u,?_,?_⟩
    ·simp only [bE,hck,fy,hf,Option.bind_none,hu1,Xg]
    ·cases z with
     | tup l=>exact absurd rfl (hv l)
     | _=>exact Qk
  obtain⟨u,r1,r2⟩:=hres;refine⟨if ok then .tuple #[u,.bool b] else u,by simp [execOp,ho,hkv,r1],?_⟩
  cases ok with
  | false=>
   simp only [WS,if_false]
   cases v with
   | tup l=>exact absurd rfl (hv l)
   | _=>exact r2
  | true=>
   simp only [if_true];refine⟨#[u,.bool b],rfl,rfl,fun i p q=>?_⟩;have:i=0∨i=1:=by simp at p;omega
   rcases this with rfl|rfl
   ·exact r2
   ·exact⟨.bool b,rfl⟩
end
section
variable {c:Ctx}{F:Nat→Prop}{β:Key→Nat}{s:aB}{a:Act}{w:World}
theorem iE(h:sZ P T=some (n,e,sz)) {b o:Nat}{lo hi:Option Value}{l hh:Int}
 (hlo:lo=none∧l=0∨∃ k,lo=some (.int k l)) (hhi:hi=none∧hh=n∨∃ k,hi=some (.int k hh)) (h0:0≤l) (h1:l≤hh) (h2:hh≤n) (w:World) :
 (Instr.sliceAt T (.pointer (some ⟨b,o,none⟩)) lo hi none).run P w=.ok (.slice (some (if n=l.toNat then ⟨b,o,none⟩ else ⟨b,o+l.toNat*sz,none⟩)) (hh.toNat - l.toNat) (n - l.toNat)) w:=by
 obtain⟨hu,hie,hsz⟩:=xJ h;have hr:=gR (P:=P) (isSlice:=false) (len:=n) (cap:=n) hlo hhi h0 h1 h2 w;simp only [Instr.sliceAt,bE,run_underlying hu,fy,Instr.sureAddr,Xg,hr,run_sizeOf hie,hsz];congr 3;split
 ·rfl
 ·rw [X1]
theorem BQ{l:Int}(hd:∀ d,o.dst=some d→d<c.n) (ho:o.op=.slice T x lo hi none)
 (hx:s.val c.G x=.c (.ptr κ off)) (hk:s.lv κ=.cells own fz T' cs) (hT:sZ c.P T=some (n,e,sz)) (hcs:off+n*sz≤cs.length) (hlo:cQ (lo.map (s.val c.G)) 0=some l) (hhi:cQ (hi.map (s.val c.G)) n=some h)
 (h0:0≤l) (h1:l≤h) (h2:h≤n) (h3:l<h∨l=0):bT c o s (s.put o.dst (.c (.aR κ (off+l.toNat*sz) (h.toNat - l.toNat) sz))):=
 bT.aU hd fun F β a w hs=>by
  have hv:=hx ▸ hs.val x;obtain⟨hv,_⟩:=hv;simp only [Vw.cT,hk] at hv;have hr:=iE hT (b:=β κ) (o:=off) (gE (fun x=>hs.val x) hlo) (gE (fun x=>hs.val x) hhi) h0 h1 h2 w;refine⟨_,by simp only [execOp,ho,Yh,hv];simp [hr];rfl,?_,rfl⟩;simp only [Vw.cq,hk];have hb:=hs.bF κ;unfold Vw.bF at hb;simp only [hk] at hb;obtain⟨arr,b1,b2,_⟩:=hb;have has:cg w (β κ)=arr.size:=by simp [cg,b1]
  have e1:(if n=l.toNat then (⟨β κ,off,none⟩:Addr) else ⟨β κ,off+l.toNat*sz,none⟩)=⟨β κ,off+l.toNat*sz,none⟩:=by
   split
   ·have:l.toNat=0:=by omega
    rw [this];simp
   ·rfl
  refine⟨n - l.toNat,by rw [e1],by omega,?_⟩;show off+l.toNat*sz+(n - l.toNat)*sz≤cg w (β κ);rw [has];have:l.toNat*sz+(n - l.toNat)*sz=n*sz:=by rw [← WQ];congr 1;omega
  omega
theorem AB{cs:List DV}{l:Int}(hd:∀ d,o.dst=some d→d<c.n) (ho:o.op=.slice T x lo hi none)
 (hx:s.val c.G x=.c (.d (.ptr cs))) (hT:sZ c.P T=some (n,e,sz)) (hcs:n*sz≤cs.length) (hlo:cQ (lo.map (s.val c.G)) 0=some l) (hhi:cQ (hi.map (s.val c.G)) n=some h)
 (h0:0≤l) (h1:l≤h) (h2:h≤n) (h63:n≤9223372036854775807):bT c o s (s.put o.dst (.c (.d (.sl (((chunk sz n cs).take h.toNat).drop l.toNat))))):=
 bT.aU hd fun F β a w hs=>by
  have hv:=hx ▸ hs.val x;obtain⟨hv,_⟩:=hv;obtain⟨u,hu⟩:∃ u,a.eval x=u:=⟨_,rfl⟩
  rw [hu] at hv
  cases hv with
  | ptr b off vs _ hm ho' hr'=>
   have hr:=iE hT (b:=b) (o:=off) (gE (fun x=>hs.val x) hlo) (gE (fun x=>hs.val x) hhi) h0 h1 h2 w;refine⟨_,by simp only [execOp,ho,Yh,hu];simp [hr];rfl,?_,rfl⟩;have hcl:(chunk sz n cs).length=n:=by simp [chunk]
   have hsz:∀ i,i<n→i*sz+sz≤n*sz:=by
    intro i hi;have:(i+1)*sz≤n*sz:=WZ _ hi
    rwa [WQ,Xv] at this
   have key:=Rd.sl (M:=lq w F) b off n sz (chunk sz n cs) (fun i j=>vs (i*sz+j)) (by
    intro e he;obtain⟨i,hi,rfl⟩:=List.mem_iff_getElem.1 he;rw [hcl] at hi;have:=hsz i hi;simp [chunk];omega) (by rw [hcl];exact bg _) (by rw [hcl];exact h63)
    (by intro i hi j hj;rw [hcl] at hi;have:=hsz i hi;have:=hm (i*sz+j) (by omega);rw [← XK] at this;exact this)
    (by intro i hi j hj;rw [hcl] at hi;have:=hsz i hi;exact ho' _ (by omega))
    (by
     intro i hi j hj;rw [hcl] at hi;have h5:=hsz i hi;have hj':j<sz:=by simp [chunk] at hj;omega
     have h6:=hr' (i*sz+j) (by omega);simp only [chunk,WK,List.getElem_range,X2,XR];exact h6)
   rw [hcl] at key
   have hall:∀ e∈chunk sz n cs,e.length=sz:=by
    intro e he;obtain⟨i,hi,rfl⟩:=List.mem_iff_getElem.1 he;rw [hcl] at hi;have:=hsz i hi;simp [chunk];omega
   have e1:(if n=l.toNat then (⟨b,off,none⟩:Addr) else ⟨b,off+l.toNat*sz,none⟩)=⟨b,if n=l.toNat then off else off+l.toNat*sz,none⟩:=by split <;> rfl
   rw [e1];refine Rd.Bd (l:=l.toNat) (h':=h.toNat) key hall (by omega) (by rw [hcl];omega) b _ ?_ (n - l.toNat) (by omega);intro hlt;rw [if_neg (by omega)];exact⟨rfl,rfl⟩
def JF (P:Program)(T:TypeId):Bool:=
 match P.underlying T with
 | some (.interface _)=>false
 | some _=>true
 | none=>false
def Kj:AV→Option (Option (TypeId × AV))
 | .c (.d (.iface t d))=>some (some (t,D0 d))
 | .c (.ifc t r)=>some (some (t,match r with
  | .d x=>D0 x
  | .ptr k o=>.c (.ptr k o)
  | .aR k o l z=>.c (.aR k o l z)
  | .agg cs=>.agg (cs.map fun x=>match x with|.d x=>.d x|.ptr k o=>.ptr k o|.aR k o l z=>.aR k o l z)
  | .ifc t x=>.c (.ifc t x)))
 | .c (.d .nilIface)=>some none
 | _=>none
theorem Is{x:AV}{t:TypeId}{y:AV}(h:V.av v x) (hi:Kj x=some (some (t,y))):∃ u,v=.iface t u∧V.av u y∧∀ l,y≠.tup l:=by
 unfold Kj at hi;split at hi
 ·rename_i t' d
  simp only [ai,cy] at hi;obtain⟨rfl,rfl⟩:=hi;obtain⟨h,_⟩:=h
  cases h with
  | iface _ u _ hu=>exact⟨u,rfl,Vw.D0 hu,xP d⟩
 ·rename_i t' r
  simp only [ai,cy] at hi;obtain⟨rfl,rfl⟩:=hi;obtain⟨u,rfl,hu⟩:=h;refine⟨u,rfl,?_,?_⟩
  ·cases r with
   | d x=>exact Vw.D0 hu
   | ptr k o=>exact hu
   | aR k o l z=>exact hu
   | agg cs=>
    obtain⟨arr,rfl,h1,h2⟩:=hu;refine⟨arr,rfl,by simpa using h1,fun i p q=>?_⟩;simp only [WK];have:=h2 i (by simpa using p) q;split <;> rename_i e <;> rw [e] at this <;> exact this
   | ifc t x=>exact hu
  ·intro l
   cases r with
   | d x=>exact xP x l
   | _=>simp
 ·cases hi
 ·cases hi
theorem IJ{x:AV}(h:V.av v x) (hi:Kj x=some none):v=.nilIface:=by
 unfold Kj at hi;split at hi
 ·cases hi
 ·cases hi
 ·obtain⟨h,_⟩:=h;cases h;rfl
 ·cases hi
def Bw (P:Program)(T:TypeId)(ok:Bool)(x:AV):Option AV:=
 match Kj x with
 | some (some (t,y))=>if t=T then some (if ok then .tup [y,.c (.d (.bool true))] else y)
  else (if ok then (Aj P T).map fun z=>.tup [z,.c (.d (.bool false))] else none)
 | some none=>if ok then (Aj P T).map fun z=>.tup [z,.c (.d (.bool false))] else none
 | none=>none
theorem Gy{u:Value}{y:AV}(h:V.av u y) (hy:∀ l,y≠.tup l):V.av (.tuple #[u,.bool b]) (.tup [y,.c (.d (.bool b))]):=by
 refine⟨#[u,.bool b],rfl,rfl,fun i p q=>?_⟩;have:i=0∨i=1:=by simp at p;omega
 rcases this with rfl|rfl
 ·cases y with
  | tup l=>exact absurd rfl (hy l)
  | _=>exact h
 ·exact⟨.bool b,rfl⟩
theorem E6{xT:TypeId}{v:AV}(hd:∀ d,o.dst=some d→d<c.n) (ho:o.op=.typeAssert x xT T ok) (hT:JF c.P T=true)
 (hv:Bw c.P T ok (s.val c.G x)=some v):bT c o s (s.put o.dst v):=
 bT.aU hd fun F β a w hs=>by
  have hx:=hs.val x
  obtain⟨ud,hu,hni⟩:∃ u,c.P.underlying T=some u∧∀ ms,u≠.interface ms:=by
   unfold JF at hT;split at hT
   ·cases hT
   ·rename_i u h1 h2;exact⟨u,h2,fun ms e=>h1 ms e⟩
   ·cases hT
  have hgen:∀ (z:AV),Aj c.P T=some z→ok=true→∀ u,(∀ t w',u=.iface t w'→t≠T)→(u=.nilIface∨∃ t w',u=.iface t w')→∃ q,(Instr.typeAssert u xT T ok).run c.P w=.ok q w∧(Vw.mk F β s.lv w).av q (.tup [z,.c (.d (.bool false))]):=by
   intro z hz hok u hne hu';obtain⟨q,q1,q2,q3⟩:=CE hz (Vw.mk F β s.lv w) w;refine⟨.tuple #[q,.bool false],?_,Gy q2 q3⟩;subst hok;rcases hu' with rfl|⟨t,w',rfl⟩
   ·cases ud <;> first|exact absurd rfl (hni _)|simp [Instr.typeAssert,run_underlying hu,q1]
   ·have:=hne t w' rfl
    cases ud <;> first|exact absurd rfl (hni _)|simp [Instr.typeAssert,run_underlying hu,q1,this]
  unfold Bw at hv;split at hv
  ·rename_i t y hi
   obtain⟨u,hu1,Qk,hu3⟩:=Is hx hi;split at hv
   ·rename_i e
    subst e;simp only [ai] at hv;subst hv
    cases ok with
    | false=>
     refine⟨u,?_,Qk⟩;simp only [execOp,ho,hu1]
     cases ud <;> first|exact absurd rfl (hni _)|simp [Instr.typeAssert,run_underlying hu]
    | true=>
     refine⟨.tuple #[u,.bool true],?_,Gy Qk hu3⟩;simp only [execOp,ho,hu1]
     cases ud <;> first|exact absurd rfl (hni _)|simp [Instr.typeAssert,run_underlying hu]
   ·rename_i hne
    cases ok with
    | false=>cases hv
    | true=>
     simp only [if_true,W7] at hv;obtain⟨z,hz,rfl⟩:=hv;obtain⟨q,q1,q2⟩:=hgen z hz rfl (.iface t u) (fun t' w' e=>by cases e;exact hne) (.inr ⟨_,_,rfl⟩);exact⟨q,by simp [execOp,ho,hu1,q1],q2⟩
  ·rename_i hi
   have hn:=IJ hx hi
   cases ok with
   | false=>cases hv
   | true=>
    simp only [if_true,W7] at hv;obtain⟨z,hz,rfl⟩:=hv;obtain⟨q,q1,q2⟩:=hgen z hz rfl .nilIface (fun t' w' e=>by cases e) (.inl rfl);exact⟨q,by simp [execOp,ho,hn,q1],q2⟩
  ·cases hv
theorem Dq(hd:∀ d,o.dst=some d→d<c.n) (ho:o.op=.call { callee:=.builtin .len,args:=#[x],argTypes:=#[T] })
 (hx:s.val c.G x=.c (.mapr k)) (hk:s.lv k=.map own es) (hT:(DB c.P T).isSome=true) (h63:es.length≤9223372036854775807):bT c o s (s.put o.dst (.c (.d (.int .i64 es.length)))):=
 bT.aU hd fun F β a w hs=>by
  have hmv:=hx ▸ hs.val x;obtain⟨hmv,_⟩:=hmv;simp only [Vw.jQ,hk] at hmv;have hb:=hs.bF k;unfold Vw.bF at hb;simp only [hk] at hb;obtain⟨ents,cl,b1,b2,b3,b4,b5⟩:=hb;obtain⟨⟨kT,eT⟩,hT⟩:=Option.isSome_iff_exists.1 hT;have hu:=s7 hT;have hob:(getObj (β k)).run c.P w=.ok (.map ents cl) w:=by simp [getObj,Sem.run,b1]
  refine⟨.int .i64 (es.length:Int),?_,Vw.jz _ _ _ (cC ⟨?_,?_⟩)⟩
  ·have hl:(Builtin.len_ #[T] o.type #[a.eval x]).run c.P w=.ok (.int .i64 (es.length:Int)) w:=by
    rw [hmv,← b2];simp [Builtin.len_,run_underlying hu,hob,goInt]
   simp [execOp,ho,resolve,invoke,builtin,hl]
  ·simp only [zH];omega
  ·simp only [pF];omega
theorem yS{r:Ref}(hd:∀ d,o.dst=some d→d<c.n) (ho:o.op=.makeInterface T x)
 (hx:xX (s.val c.G x)=some r) (hT:c.P.concrete T=true):bT c o s (s.put o.dst (.c (.ifc T r))):=
 bT.aU hd fun F β a w hs=>by
  have hr:=Vw.xX (hs.val x) hx;refine⟨.iface T (a.eval x),?_,?_⟩
  ·simp only [execOp,ho,bE,run_makeInterface w T _ hT,fy];rfl
  ·exact⟨a.eval x,rfl,hr⟩
end
abbrev kO:=AV × List (Key × LB) × List Key
variable {r:kO}
def J1 (P:Program)(op:BinOp)(T:TypeId)(lv:Key→LB)(x y:AV):Option kO:=
 match sS lv x with
 | some b=>if G4 x y && wL P T x then (match op with|.eql=>some (.c (.d (.bool b)),[],OP x)|.neq=>some (.c (.d (.bool !b)),[],OP x)|_=>none) else none
 | none=>none
def Et:AV→Bool
 | .tup _=>false
 | _=>true
def qA (P:Program)(T:TypeId)(lv:Key→LB)(m kx y:AV):Option kO:=
 match m with
 | .c (.mapr k)=>match lv k with
  | .map own es=>match DB P T,m8 kx with
   | some (kT,_),some d=>if fD P kT d && es.all (fun e=>fD P kT e.1) && Et y then some (.undef,[(k,.map own (yK d y es))],[]) else none
   | _,_=>none
  | _=>none
 | _=>none
def Ly (lv:Key→LB):AV→Option (List (DV × AV) × List Key)
 | .c (.mapr k)=>match lv k with|.map _ es=>some (es,[k])|_=>none
 | .c (.d .nilmap)=>some ([],[])
 | _=>none
theorem Hs {x:AV}(h:Et x=true):∀ l,x≠.tup l:=by intro l e;rw [e] at h;cases h
def CD (P:Program)(T:TypeId)(ok:Bool)(lv:Key→LB)(m kx:AV):Option kO:=
 match Ly lv m with
 | some (es,ks)=>match DB P T,m8 kx with
  | some (kT,eT),some d=>if fD P kT d && es.all (fun e=>fD P kT e.1) then (match KG P eT d es with
   | some (v,b)=>if Et v then some (if ok then .tup [v,.c (.d (.bool b))] else v,[],ks) else none
   | none=>none) else none
  | _,_=>none
 | none=>none
def qm (P:Program)(T:TypeId)(lv:Key→LB)(x:AV)(lo hi:Option AV):Option kO:=
 match x with
 | .c (.ptr k off)=>match lv k,sZ P T with
  | .cells _ _ _ cs,some (n,_,sz)=>match cQ lo 0,cQ hi n with
   | some l,some h=>if off+n*sz≤cs.length∧0≤l∧l≤h∧h≤n∧(l<h∨l=0) then some (.c (.aR k (off+l.toNat*sz) (h.toNat - l.toNat) sz),[],[k]) else none
   | _,_=>none
  | _,_=>none
 | .c (.d (.ptr cs))=>match sZ P T with
  | some (n,_,sz)=>match cQ lo 0,cQ hi n with
   | some l,some h=>if n*sz≤cs.length∧0≤l∧l≤h∧h≤n∧n≤9223372036854775807 then some (.c (.d (.sl (((chunk sz n cs).take h.toNat).drop l.toNat))),[],[]) else none
   | _,_=>none
  | none=>none
 | .c (.aR k _ len sz)=>match lv k,eP P T with
  | .cells ..,some (_,sz')=>if sz=sz' then (match cQ lo 0,cQ hi len with
   | some l,some h=>if 0≤l∧l=h∧h≤len then some (.c (.d (.sl [])),[],[k]) else none
   | _,_=>none) else none
  | _,_=>none
 | _=>none
def Oh (P:Program)(S T:TypeId)(x:AV):Option kO:=
 match x with
 | .c (.d (.str l))=>if ct P S then (match eP P T with
  | some (e,1)=>(match P.underlying e with
   | some (.int .u8)=>if l.length≤9223372036854775807 then some (.c (.d (.sl (l.map fun b=>[.int .u8 (b.toNat:Int)]))),[],[]) else none
   | _=>none)
  | _=>none) else none
 | _=>none
def oo (P:Program)(T T':TypeId)(lv:Key→LB)(κ:Key)(y x:AV):Option kO:=
 match x,lv κ with
 | .c (.d (.str l)),.hole=>if ct P T' then (match eP P T with
  | some (e,1)=>match P.info? e with
   | some i=>match i.zero with
    | some z=>if z.cells.size=1 then (match y with
     | .c (.d .nilsl)=>if l.length≤9223372036854775807∧l.length*i.bytes≤140737488355328 then some (.c (.aR κ 0 l.length 1),[(κ,if l.length=0 then .nils else .cells true false e (dZ l))],[]) else none
     | .c (.aR k off n sz)=>match lv k with
      | .nils=>if off=0∧n=0∧sz=1∧l.length≤9223372036854775807∧l.length*i.bytes≤140737488355328 then some (.c (.aR κ 0 l.length 1),[(κ,if l.length=0 then .nils else .cells true false e (dZ l))],[k]) else none
      | .cells own false e' cs=>if off=0∧sz=1∧e'=e∧cs.length=n∧n+l.length≤9223372036854775807∧(n+l.length)*i.bytes≤140737488355328 then some (.c (.aR κ 0 (n+l.length) 1),[(k,.dead),(κ,.cells own false e (cs++dZ l))],[]) else none
      | _=>none
     | _=>none) else none
    | none=>none
   | none=>none
  | _=>none) else none
 | _,_=>none
def C9 (lv:Key→LB)(x:AV):Option kO:=
 match x with
 | .c (.d .nilsl)=>some (.c (.d .nilp),[],[])
 | .c (.aR k off len sz)=>match lv k with
  | .cells ..=>if 0<len then some (.c (.ptr k off),[],[k]) else none
  | .nils=>if off=0∧len=0∧sz=1 then some (.c (.d .nilp),[],[k]) else none
  | _=>none
 | _=>none
def rj (P:Program)(pt:TypeId)(lv:Key→LB)(x y:AV):Option kO:=
 match y with
 | .c (.d (.int .i64 n))=>match x with
  | .c (.d .nilp)=>if n=0 then some (.c (.d (.str [])),[],[]) else none
  | .c (.ptr k 0)=>match lv k,P.underlying pt with
   | .cells _ false e cs,some (.pointer e')=>if e'=e∧P.cellsOf e=1∧0<n∧n≤9223372036854775807 then (match rQ (cs.take n.toNat) with
    | some l=>if l.length=n.toNat then some (.c (.d (.str l)),[(k,.dead)],[]) else none
    | none=>none) else none
   | _,_=>none
  | _=>none
 | _=>none
def KR (P:Program)(T:TypeId)(lv:Key→LB)(x:AV):Option kO:=
 match x with
 | .c (.mapr k)=>match lv k with
  | .map _ es=>if (DB P T).isSome && Nat.ble es.length 9223372036854775807 then some (.c (.d (.int .i64 es.length)),[],[k]) else none
  | _=>none
 | _=>none
def B9 (P:Program)(cl:Call)(vals:List AV)(lv:Key→LB)(κ:Key):Option kO:=
 match cl.callee,cl.args.toList,cl.argTypes.toList,vals with
 | .builtin .append,[_,_],[T,T'],[y,x]=>oo P T T' lv κ y x
 | .builtin .unsafeSliceData,[_],[_],[x]=>C9 lv x
 | .builtin .len,[_],[T],[x]=>KR P T lv x
 | .builtin .unsafeString,[_,_],[pt,_],[x,y]=>rj P pt lv x y
 | _,_,_,_=>none
def gL (P:Program)(op:Op)(vals:List AV)(lv:Key→LB)(κ:Key):Option kO:=
 match op,vals with
 | .binOp op T _ _ _,[x,y]=>J1 P op T lv x y
 | .makeMap _ none,[]=>match lv κ with|.hole=>some (.c (.mapr κ),[(κ,.map true [])],[])|_=>none
 | .mapUpdate T _ _ _,[m,k,y]=>qA P T lv m k y
 | .insert T _ _ _,[m,k,y]=>qA P T lv m k y
 | .lookup T _ _ ok,[m,k]=>CD P T ok lv m k
 | .typeAssert _ _ T ok,[x]=>if JF P T then (match Bw P T ok x with|some v=>some (v,[],[])|none=>none) else none
 | .makeInterface T _,[x]=>if P.concrete T then (match xX x with|some r=>some (.c (.ifc T r),[],[])|none=>none) else none
 | .slice T _ lo hi none,x::rest=>match vj lo hi rest with|some (l,h)=>qm P T lv x l h|none=>none
 | .convert S T _,[x]=>Oh P S T x
 | .call cl,vals=>B9 P cl vals lv κ
 | _,_=>none
section
variable {c:Ctx}{s:aB}{o:Oper}
theorem xB(hd:∀ d,o.dst=some d→d<c.n) (ho:o.op=.mapUpdate T m kx y∨o.op=.insert T m kx y) (h:qA c.P T s.lv (s.val c.G m) (s.val c.G kx) (s.val c.G y)=some r) :
 bT c o s (aB.put ⟨s.fr,aS s.lv r.2.1⟩ o.dst r.1):=by
 unfold qA at h;split at h
 ·rename_i k hm
  split at h
  ·rename_i own es hk
   split at h
   ·rename_i kT eT d hT hdp
    split at h
    ·rename_i hc
     simp only [cn,E5] at hc;simp only [ai] at h;subst h;refine yM hd ho hm hk hT hdp hc.1.1 hc.1.2 rfl (fun l e=>?_);have:=hc.2;rw [e] at this;cases this
    ·cases h
   ·cases h
  ·cases h
 ·cases h
theorem Ag(hd:∀ d,o.dst=some d→d<c.n) (ho:o.op=op) (hv:op.operands.toList.map (s.val c.G)=vals)
 (h:gL c.P op vals s.lv κ=some r):bT c o s (aB.put ⟨s.fr,aS s.lv r.2.1⟩ o.dst r.1):=by
 unfold gL at h;split at h
 ·
  rename_i bop T x y T' a b
  simp only [Op.operands,WX,XA,Xb,and_true] at hv;obtain⟨rfl,rfl⟩:=hv;unfold J1 at h;split at h
  ·rename_i bb hn
   split at h
   ·rename_i hc
    simp only [cn] at hc;split at h
    ·simp only [ai] at h;subst h;exact zR hd ho (.inl rfl) hn hc.1 hc.2
    ·simp only [ai] at h;subst h;exact zR hd ho (.inr rfl) hn hc.1 hc.2
    ·cases h
   ·cases h
  ·cases h
 ·rename_i T
  split at h
  ·rename_i hκ
   simp only [ai] at h;subst h;exact B5 hd ho rfl hκ
  ·cases h
 ·rename_i T m kx y a b cc
  simp only [Op.operands,WX,XA,Xb,and_true] at hv;obtain⟨rfl,rfl,rfl⟩:=hv;exact xB hd (.inl ho) h
 ·rename_i T m kx y a b cc
  simp only [Op.operands,WX,XA,Xb,and_true] at hv;obtain⟨rfl,rfl,rfl⟩:=hv;exact xB hd (.inr ho) h
 ·rename_i T m kx ok a b
  simp only [Op.operands,WX,XA,Xb,and_true] at hv;obtain⟨rfl,rfl⟩:=hv;unfold CD at h;split at h
  ·rename_i es ks hm
   split at h
   ·rename_i kT eT d hT hdp
    split at h
    ·rename_i hc
     simp only [cn,E5] at hc;split at h
     ·rename_i v bb hl
      split at h
      ·rename_i hv
       simp only [ai] at h;subst h;refine E7 hd ho ?_ hT hdp hc.1 hc.2 hl (Hs hv);unfold Ly at hm;split at hm
       ·rename_i k hmk
        split at hm
        ·rename_i own es' hk
         simp only [ai,cy] at hm;obtain⟨rfl,rfl⟩:=hm;exact .inl ⟨k,own,hmk,hk⟩
        ·cases hm
       ·rename_i hmk
        simp only [ai,cy] at hm;obtain⟨rfl,rfl⟩:=hm;exact .inr ⟨hmk,rfl⟩
       ·cases hm
      ·cases h
     ·cases h
    ·cases h
   ·cases h
  ·cases h
 ·rename_i x xT T ok a
  simp only [Op.operands,WX,XA,Xb,and_true] at hv;subst hv;split at h
  ·rename_i hT
   split at h
   ·rename_i v hvv
    simp only [ai] at h;subst h;exact E6 hd ho hT hvv
   ·cases h
  ·cases h
 ·rename_i T x a
  simp only [Op.operands,WX,XA,Xb,and_true] at hv;subst hv;split at h
  ·rename_i hT
   split at h
   ·rename_i v hvv
    simp only [ai] at h;subst h;exact yS hd ho hvv hT
   ·cases h
  ·cases h
 ·rename_i T x lo hi a rest
  have hop:(Op.slice T x lo hi none).operands.toList=x::(lo.toArray++hi.toArray).toList:=by
   simp [Op.operands]
  rw [hop] at hv;simp only [WX,Xb] at hv;obtain⟨rfl,rfl⟩:=hv;split at h
  ·rename_i l hh hb
   obtain⟨rfl,rfl⟩:=Gk hb;unfold qm at h;split at h
   ·rename_i k off hx
    split at h
    ·rename_i own fz T0 cs n e sz hk hT
     split at h
     ·rename_i l h' hl hh
      split at h
      ·rename_i hc
       simp only [ai] at h;subst h;exact BQ hd ho hx hk hT hc.1 hl hh hc.2.1 hc.2.2.1 hc.2.2.2.1 hc.2.2.2.2
      ·cases h
     ·cases h
    ·cases h
   ·rename_i cs hx
    split at h
    ·rename_i n e sz hT
     split at h
     ·rename_i l h' hl hh
      split at h
      ·rename_i hc
       simp only [ai] at h;subst h;exact AB hd ho hx hT hc.1 hl hh hc.2.1 hc.2.2.1 hc.2.2.2.1 hc.2.2.2.2
      ·cases h
     ·cases h
    ·cases h
   ·rename_i k off len sz hx
    split at h
    ·rename_i own fz T0 cs e sz' hk hT
     split at h
     ·rename_i hsz
      subst hsz;split at h
      ·rename_i l h' hl hh
       split at h
       ·rename_i hc
        simp only [ai] at h;subst h;exact BO hd ho hx hk hT hl hh hc.1 hc.2.1 hc.2.2
       ·cases h
      ·cases h
     ·cases h
    ·cases h
   ·cases h
  ·cases h
 ·rename_i S T x a
  simp only [Op.operands,WX,XA,Xb,and_true] at hv;subst hv;unfold Oh at h;split at h
  ·rename_i l hx
   split at h
   ·rename_i hS
    split at h
    ·rename_i e hT
     split at h
     ·rename_i he
      split at h
      ·rename_i hl
       simp only [ai] at h;subst h;exact xb hd ho hx hS hT he hl
      ·cases h
     ·cases h
    ·cases h
   ·cases h
  ·cases h
 ·rename_i cl vals
  unfold B9 at h;split at h
  ·rename_i y0 x0 T T' y x h1 h2 h3
   have e:=mY h1 h2 h3;subst e;simp only [Op.operands,Call.operands] at hv;simp at hv;obtain⟨rfl,rfl⟩:=hv;unfold oo at h;split at h
   ·rename_i l hx hκ
    split at h
    ·rename_i hT'
     split at h
     ·rename_i e hT
      split at h
      ·rename_i i hi
       split at h
       ·rename_i z hz
        split at h
        ·rename_i hzs
         split at h
         ·rename_i hy
          split at h
          ·rename_i hc
           simp only [ai] at h;subst h;exact kg hd ho hκ (.inl hy) hT hT' hi hz hx hzs hc.1 hc.2
          ·cases h
         ·rename_i k off n sz hy
          split at h
          ·rename_i hk
           split at h
           ·rename_i hc
            obtain⟨rfl,rfl,rfl,c1,c2⟩:=hc;simp only [ai] at h;subst h;exact kg hd ho hκ (.inr ⟨k,hy,hk⟩) hT hT' hi hz hx hzs c1 c2
           ·cases h
          ·rename_i own e' cs hk
           split at h
           ·rename_i hc
            obtain⟨rfl,rfl,rfl,c1,c2,c3⟩:=hc;simp only [ai] at h;subst h;exact qw hd ho hκ hT hT' hi hz hy hk c1 hx hzs c2 c3
           ·cases h
          ·cases h
         ·cases h
        ·cases h
       ·cases h
      ·cases h
     ·cases h
    ·cases h
   ·cases h
  ·rename_i x0 T x h1 h2 h3
   have e:=mY h1 h2 h3;subst e;simp only [Op.operands,Call.operands] at hv;simp at hv;subst hv;unfold C9 at h;split at h
   ·rename_i hx
    simp only [ai] at h;subst h;exact kK hd ho (.inl hx)
   ·rename_i k off len sz hx
    split at h
    ·rename_i hk
     split at h
     ·rename_i hl
      simp only [ai] at h;subst h;exact yX hd ho hx hk hl
     ·cases h
    ·rename_i hk
     split at h
     ·rename_i hc
      obtain⟨rfl,rfl,rfl⟩:=hc;simp only [ai] at h;subst h;exact kK hd ho (.inr ⟨k,hx,hk⟩)
     ·cases h
    ·cases h
   ·cases h
  ·rename_i x0 T x h1 h2 h3
   have e:=mY h1 h2 h3;subst e;simp only [Op.operands,Call.operands] at hv;simp at hv;subst hv;unfold KR at h;split at h
   ·rename_i k hx
    split at h
    ·rename_i own es hk
     split at h
     ·rename_i hc
      simp only [cn] at hc;simp only [ai] at h;subst h;exact Dq hd ho hx hk hc.1 (W9 hc.2)
     ·cases h
    ·cases h
   ·cases h
  ·rename_i x0 y0 pt it x y h1 h2 h3
   have e:=mY h1 h2 h3;subst e;simp only [Op.operands,Call.operands] at hv;simp at hv;obtain⟨rfl,rfl⟩:=hv;unfold rj at h;split at h
   ·rename_i n hy
    split at h
    ·rename_i hx
     split at h
     ·rename_i hn
      subst hn;simp only [ai] at h;subst h;exact oa hd ho hx hy
     ·cases h
    ·rename_i k hx
     split at h
     ·rename_i own e cs e' hk hp
      split at h
      ·rename_i hc
       obtain⟨rfl,c1,c2,c3⟩:=hc;split at h
       ·rename_i l hl
        split at h
        ·rename_i hll
         simp only [ai] at h;subst h;have hn:n=(l.length:Int):=by omega
         refine tW hd ho hx hk (by rw [hy,hn]) hp c1 (by rw [hll];exact yz hl) (fun e=>?_) (by omega);subst e;simp at hll;omega
        ·cases h
       ·cases h
      ·cases h
     ·cases h
    ·cases h
   ·cases h
  ·cases h
 ·cases h
end
section
variable {P:Program}{T T':TypeId}{lv lv':Key→LB}{κ:Key}{r:kO}
theorem wR {x:AV}(h:sS lv x=some b) (hk:∀ k∈OP x,lv' k=lv k):sS lv' x=some b:=by
 unfold sS at h ⊢
 split at h <;> first
  | (rename_i k _;rw [hk k (List.mem_singleton.2 rfl)];exact h)
  | (rename_i k;rw [hk k (List.mem_singleton.2 rfl)];exact h)
  | (rename_i k _ _ _;rw [hk k (List.mem_singleton.2 rfl)];exact h)
  | exact h
  | cases h
theorem FH {op:BinOp}{x y:AV}(h:J1 P op T lv x y=some r) (ha:Agree lv lv' r.2.1 r.2.2):J1 P op T lv' x y=some r:=by
 unfold J1 at h ⊢;split at h
 ·rename_i b hn
  split at h
  ·rename_i hc
   split at h
   ·simp only [ai] at h;subst h;rw [wR hn (fun k hk=>ha.1 k hk)];simp only [hc,if_true]
   ·simp only [ai] at h;subst h;rw [wR hn (fun k hk=>ha.1 k hk)];simp only [hc,if_true]
   ·cases h
  ·cases h
 ·cases h
theorem sC {m kx y:AV}(h:qA P T lv m kx y=some r) (ha:Agree lv lv' r.2.1 r.2.2):qA P T lv' m kx y=some r:=by
 unfold qA at h ⊢;split at h
 ·rename_i k
  split at h
  ·rename_i own es hk
   split at h
   ·rename_i kT _ d hT hd
    split at h
    ·rename_i hc
     simp only [ai] at h;subst h;have h1:=ha.2 _ (List.mem_singleton.2 rfl);simp only at h1;rw [h1,hk];simp only [hT,hd,hc,if_true]
    ·cases h
   ·cases h
  ·cases h
 ·cases h
theorem Ei {x:AV}{ks:List Key}(h:Ly lv x=some (es,ks)) (hk:∀ k∈ks,lv' k=lv k):Ly lv' x=some (es,ks):=by
 unfold Ly at h ⊢;split at h
 ·rename_i k
  split at h
  ·rename_i own es' hl
   simp only [ai,cy] at h;obtain⟨rfl,rfl⟩:=h;rw [hk k (List.mem_singleton.2 rfl),hl]
  ·cases h
 ·exact h
 ·cases h
theorem CF{m kx:AV}(h:CD P T ok lv m kx=some r) (ha:Agree lv lv' r.2.1 r.2.2):CD P T ok lv' m kx=some r:=by
 unfold CD at h ⊢;split at h
 ·rename_i es ks hm
  have hr:r.2.2=ks:=by
   split at h
   ·split at h
    ·split at h
     ·split at h
      ·simp only [ai] at h;subst h;rfl
      ·cases h
     ·cases h
    ·cases h
   ·cases h
  rw [Ei hm (fun k hk=>ha.1 k (hr ▸ hk))];exact h
 ·cases h
theorem BR {x:AV}{lo hi:Option AV}(h:qm P T lv x lo hi=some r) (ha:Agree lv lv' r.2.1 r.2.2):qm P T lv' x lo hi=some r:=by
 unfold qm at h ⊢;split at h
 ·rename_i k off
  have hr:r.2.2=[k]:=by
   split at h
   ·split at h
    ·split at h
     ·simp only [ai] at h;subst h;rfl
     ·cases h
    ·cases h
   ·cases h
  rw [ha.1 k (by rw [hr];exact List.mem_singleton.2 rfl)];exact h
 ·exact h
 ·rename_i k off len sz
  have hr:r.2.2=[k]:=by
   split at h
   ·split at h
    ·split at h
     ·split at h
      ·simp only [ai] at h;subst h;rfl
      ·cases h
     ·cases h
    ·cases h
   ·cases h
  rw [ha.1 k (by rw [hr];exact List.mem_singleton.2 rfl)];exact h
 ·cases h
theorem xj {x y:AV}(h:oo P T T' lv κ y x=some r) (ha:Agree lv lv' r.2.1 r.2.2):oo P T T' lv' κ y x=some r:=by
 unfold oo at h ⊢;split at h
 ·rename_i l hκ
  split at h
  ·rename_i hT'
   split at h
   ·rename_i e hT
    split at h
    ·rename_i i hi
     split at h
     ·rename_i z hz
      split at h
      ·rename_i hzs
       split at h
       ·split at h
        ·rename_i hc
         simp only [ai] at h;subst h;have h1:=ha.2 _ (List.mem_singleton.2 rfl);simp only at h1;rw [h1,hκ];simp only [hT',hT,hi,hz,hzs,hc,if_true,and_self]
        ·cases h
       ·rename_i k off n sz
        split at h
        ·rename_i hk
         split at h
         ·rename_i hc
          simp only [ai] at h;subst h;have h1:=ha.2 _ (List.mem_singleton.2 rfl);have h2:=ha.1 k (List.mem_singleton.2 rfl);simp only at h1;rw [h1,hκ];simp only [hT',hT,hi,hz,hzs,hc,h2,hk,if_true,and_self]
         ·cases h
        ·rename_i own e' cs hk
         split at h
         ·rename_i hc
          simp only [ai] at h;subst h;have h1:=ha.2 (κ,_) (XO _ (List.mem_singleton.2 rfl));have h2:=ha.2 (k,_) (XP ..);simp only at h1 h2;rw [h1,hκ];simp only [hT',hT,hi,hz,hzs,h2,hk,if_true];rw [if_pos hc]
         ·cases h
        ·cases h
       ·cases h
      ·cases h
     ·cases h
    ·cases h
   ·cases h
  ·cases h
 ·cases h
theorem Dw {x:AV}(h:C9 lv x=some r) (ha:Agree lv lv' r.2.1 r.2.2):C9 lv' x=some r:=by
 unfold C9 at h ⊢;split at h
 ·exact h
 ·rename_i k off len sz
  have hr:r.2.2=[k]:=by
   split at h
   ·split at h
    ·simp only [ai] at h;subst h;rfl
    ·cases h
   ·split at h
    ·simp only [ai] at h;subst h;rfl
    ·cases h
   ·cases h
  rw [ha.1 k (by rw [hr];exact List.mem_singleton.2 rfl)];exact h
 ·cases h
theorem yF {x y:AV}(h:rj P T lv x y=some r) (ha:Agree lv lv' r.2.1 r.2.2):rj P T lv' x y=some r:=by
 unfold rj at h ⊢;split at h
 ·rename_i n
  split at h
  ·exact h
  ·rename_i k
   have hr:r.2.1=[(k,.dead)]:=by
    split at h
    ·split at h
     ·split at h
      ·split at h
       ·simp only [ai] at h;subst h;rfl
       ·cases h
      ·cases h
     ·cases h
    ·cases h
   have:=ha.2 (k,.dead) (by rw [hr];exact List.mem_singleton.2 rfl);simp only at this;rw [this];exact h
  ·cases h
 ·cases h
theorem EO {x:AV}(h:KR P T lv x=some r) (ha:Agree lv lv' r.2.1 r.2.2):KR P T lv' x=some r:=by
 unfold KR at h ⊢;split at h
 ·rename_i k
  have hr:r.2.2=[k]:=by
   split at h
   ·split at h
    ·simp only [ai] at h;subst h;rfl
    ·cases h
   ·cases h
  rw [ha.1 k (by rw [hr];exact List.mem_singleton.2 rfl)];exact h
 ·cases h
theorem B7 {cl:Call}(h:B9 P cl vals lv κ=some r) (ha:Agree lv lv' r.2.1 r.2.2):B9 P cl vals lv' κ=some r:=by
 unfold B9 at h ⊢;split at h
 ·exact xj h ha
 ·exact Dw h ha
 ·exact EO h ha
 ·exact yF h ha
 ·cases h
theorem uy(h:gL P op vals lv κ=some r) (ha:Agree lv lv' r.2.1 r.2.2):gL P op vals lv' κ=some r:=by
 unfold gL at h ⊢;split at h
 ·exact FH h ha
 ·split at h
  ·rename_i hκ
   simp only [ai] at h;subst h;have:=ha.2 _ (List.mem_singleton.2 rfl);simp only at this;simp only [this,hκ]
  ·cases h
 ·exact sC h ha
 ·exact sC h ha
 ·exact CF h ha
 ·exact h
 ·exact h
 ·split at h
  ·rename_i l hh hb
   exact BR h ha
  ·cases h
 ·exact h
 ·exact B7 h ha
 ·cases h
end
end Go.Am
namespace Go.Am
variable {x:AV}{s:aB}{α:Type}{L:Nat→Bool}{c:Ctx}{l:List (Nat × AV)}{Q:Exit→Act→World→Prop}{m:Nat}{k:Key}{P:Program}{G:List (List DV)}{f:FuncId}{fn:Func}{code:Code}{args:List AV}
def PE (ops:Array Oper)(o o':Oper)(e e':Fx):Prop:=
 o.apart ops o'=true∧∀ k∈e.us.map (·.1),k ∉ e'.us.map (·.1)
def mb (c:Ctx)(r:Option Nat)(ops:Array Oper)(o:Oper)(s0:aB)(e:Fx)(ok:(Key→LB)→Prop):Prop:=
 ∀ s:aB,(∀ t∈o.looksAt ops,s.fr t=s0.fr t)→ok s.lv →
  ∀ F β a w K Q,aD c F β s a w→(∀ F' β' a' w',aD c F' β' (e.app o.dst s) a' w'→K a' w') →
   if Region.wanted o (yielded ops a.tmps) then o.wpIn (oH r) 0 c.P a w K Q else K (a.put o.dst undef) w
section
variable {c:Ctx}{r:Option Nat}{ops:Array Oper}{es:List Fx}{s0:aB}
theorem Au (ok:Nat→(Key→LB)→Prop)(hlen:es.length=ops.size)
 (hE:∀ (i:Nat) o e,ops[i]?=some o→es[i]?=some e→mb c r ops o (bn ops es s0 (fun _=>true) i) e (ok i))
 (hback:∀ (i:Nat) o,ops[i]?=some o→∀ ed∈o.after,Region.binds .any ed=true→ed.on<i)
 (hind:∀ (i j:Nat) o o' e e',i<j→ops[i]?=some o→ops[j]?=some o'→es[i]?=some e→es[j]?=some e'→vn ops i j∨PE ops o o' e e')
 (hok:∀ (L:Nat→Bool) (i:Nat),i<ops.size→L i=false→(∀ j,vn ops j i→L j=true)→(∀ i j,vn ops i j→L j=true→L i=true)→ok i (bn ops es s0 L ops.size).lv)(hQ:∀ F' β' a' w',aD c F' β' (bn ops es s0 (fun _=>true) ops.size) a' w'→Q .normal a' w') :
 ∀ (fuel:Nat) (listed:Array Bool),listed.size=ops.size →
  (∀ (j:Nat) o,ops[j]?=some o→listed.getD j false=true→∀ ed∈o.after,Region.binds .any ed=true→listed.getD ed.on false=true) →
  ops.size≤fuel+cnt (fun j=>listed.getD j false) ops.size →
  ∀ F β a w,aD c F β (bn ops es s0 (fun j=>listed.getD j false) ops.size) a w→wpAnyIn (oH r) 0 c.P .any ops Q fuel listed a w:=by
 intro fuel
 have hall:∀ (listed:Array Bool),(∀ i,i<ops.size→listed.getD i false=true)→∀ F β a w,aD c F β (bn ops es s0 (fun j=>listed.getD j false) ops.size) a w→Q .normal a w:=by
  intro listed hl F β a w h;rw [fc (L':=fun _=>true) hl] at h;exact hQ _ _ _ _ h
 induction fuel with
 | zero=>
  intro listed hsz hcl hcnt F β a w h;have hl:=AZ (p:=fun j=>listed.getD j false) (n:=ops.size) (by omega);refine⟨?_,hall listed hl F β a w h⟩;rw [List.eq_nil_iff_forall_not_mem];intro i hi;obtain⟨h1,h2,_⟩:=mem_ready.1 hi;have h3:listed.getD i false=true:=hl i h1;have h4:i<listed.size:=by omega
  simp [Array.getD,h4] at h2 h3;rw [h2] at h3;cases h3
 | succ fuel ih=>
  intro listed hsz hcl hcnt F β a w h
  have hanc:∀ i j,vn ops i j→listed.getD j false=true→listed.getD i false=true:=by
   intro i j ha
   induction ha with
   | one ho he hb hi=>intro hj;subst hi;exact hcl _ _ ho hj _ he hb
   | more ho he hb _ ih=>intro hj;exact ih (hcl _ _ ho hj _ he hb)
  refine⟨fun hnil=>?_,fun i hi=>?_⟩
  ·refine hall listed (fun i hi=>?_) F β a w h
   induction i using Nat.strongRecOn with
   | _ i ihi=>
    cases hL:listed.getD i false with
    | true=>rfl
    | false=>
     exfalso
     have:i∈Region.ready .any ops listed:=by
      refine mem_ready.2 ⟨hi,?_,ops[i],XM hi,fun ed hed hb=>?_⟩
      ·have h4:i<listed.size:=by omega
       simp [Array.getD,h4] at hL ⊢;exact hL
      ·have:=hback i _ (XM hi) ed hed hb;exact ihi _ this (by omega)
     rw [hnil] at this;cases this
  ·obtain⟨hi1,hi2,o,ho,hpre⟩:=mem_ready.1 hi;have h4:i<listed.size:=by omega
   have hLi:listed.getD i false=false:=by simp [Array.getD,h4] at hi2 ⊢;exact hi2
   obtain⟨e,he⟩:∃ e,es[i]?=some e:=⟨es[i]'(by omega),rP (by omega)⟩
   have hes:∀ j o',ops[j]?=some o'→∃ e',es[j]?=some e':=fun j o' h'=>by
    have:j<ops.size:=(Array.getElem?_eq_some_iff.1 h').1;exact⟨es[j]'(by omega),rP (by omega)⟩
   have hos:∀ (j:Nat) e',es[j]?=some e'→∃ o',ops[j]?=some o':=fun j e' h'=>by
    have:j<es.length:=(List.getElem?_eq_some_iff.1 h').1;exact⟨ops[j]'(by omega),XM (by omega)⟩
   have hancR:∀ j,vn ops j i→listed.getD j false=true:=by
    intro j ha
    cases ha with
    | one ho' he' hb hj=>
     rw [ho] at ho';simp only [ai] at ho';subst ho';subst hj;exact hpre _ he' hb
    | more ho' he' hb hj=>
     rw [ho] at ho';simp only [ai] at ho';subst ho';exact hanc _ _ hj (hpre _ he' hb)
   have key:=hE i o e ho he (bn ops es s0 (fun j=>listed.getD j false) ops.size) (fun t ht=>?_) ?_ F β a w
    (wpAnyIn (oH r) 0 c.P .any ops Q fuel (listed.setIfInBounds i true)) Q h (fun F' β' a' w' h'=>?_)
   ·unfold wpOpIn;rw [ho];simp only;split at key
    ·rename_i hw;rw [if_pos hw];exact key
    ·rename_i hw;rw [if_neg hw];exact⟨fun _ _=>trivial,key⟩
   ·rw [A1 (i:=i) (fun j o' ho' hd=>?_) ops.size,Nat.min_eq_right (by omega)];obtain⟨e',he'⟩:=hes j o' ho';constructor
    ·intro hji;rcases hind j i o' o e' e hji ho' ho he' he with ha|ha
     ·exact hancR j ha
     ·exact absurd ht ((YJ ha.1).1 t hd)
    ·intro hj;rcases Nat.lt_trichotomy j i with hlt|heq|hgt
     ·exact hlt
     ·subst heq;rw [hLi] at hj;cases hj
     ·rcases hind i j o o' e e' hgt ho ho' he he' with ha|ha
      ·have:=hanc _ _ ha hj;rw [hLi] at this;cases this
      ·exact absurd ht ((YJ ha.1).2.2 t hd)
   ·exact hok _ i hi1 hLi hancR hanc
   ·have hset:∀ j,(listed.setIfInBounds i true).getD j false=(listed.getD j false || j == i):=by
     intro j;simp only [Xz,YD]
     by_cases hj:i=j
     ·subst hj;simp [h4]
     ·have hne:(j == i)=false:=by simp;exact fun e=>hj e.symm
      simp [hj,hne]
    refine ih (listed.setIfInBounds i true) (by simp [hsz]) (fun j o' ho' hj ed hed hb=>?_) ?_ F' β' a' w' ?_
    ·rw [hset] at hj ⊢;simp only [Xl,beq_iff_eq] at hj ⊢;rcases hj with hj|hj
     ·exact .inl (hcl j o' ho' hj ed hed hb)
     ·subst hj;rw [ho] at ho';simp only [ai] at ho';subst ho';exact .inl (hpre ed hed hb)
    ·rw [oS (q:=fun j=>listed.getD j false || j == i) (fun j _=>hset j),Bm (p:=fun j=>listed.getD j false) hLi hi1];omega
    ·rw [fc (L':=fun j=>listed.getD j false || j == i) (fun j _=>hset j)]
     have hst:e.app o.dst (bn ops es s0 (fun j=>listed.getD j false) ops.size)=bn ops es s0 (fun j=>listed.getD j false || j == i) ops.size:=by
      have e1:(e.app o.dst (bn ops es s0 (fun j=>listed.getD j false) ops.size)).fr=(bn ops es s0 (fun j=>listed.getD j false || j == i) ops.size).fr:=by
       funext t;refine uJ ho he hi1 hLi (fun j o' hij ho' hj hd=>?_);obtain⟨e',he'⟩:=hes j o' ho';rcases hind i j o o' e e' hij ho ho' he he' with ha|ha
       ·have:=hanc _ _ ha hj;rw [hLi] at this;cases this
       ·exact (YJ ha.1).2.1 t hd
      have e2:(e.app o.dst (bn ops es s0 (fun j=>listed.getD j false) ops.size)).lv=(bn ops es s0 (fun j=>listed.getD j false || j == i) ops.size).lv:=by
       funext k;refine uz ho he hi1 hLi (fun j e' hij he' hj hd=>?_);obtain⟨o',ho'⟩:=hos j e' he';rcases hind i j o o' e e' hij ho ho' he he' with ha|ha
       ·have:=hanc _ _ ha hj;rw [hLi] at this;cases this
       ·exact ha.2 k hd
      cases h1:e.app o.dst (bn ops es s0 (fun j=>listed.getD j false) ops.size)
      cases h2:bn ops es s0 (fun j=>listed.getD j false || j == i) ops.size
      rw [h1,h2] at e1 e2;simp only at e1 e2;rw [e1,e2]
     rw [← hst];exact h'
end
section
variable {ops:Array Oper}{es:List Fx}{s0:aB}
theorem Ie{o:Oper}{e:Fx}(ho:ops[m]?=some o) (he:es[m]?=some e) :
 bn ops es s0 L (m+1)=if L m then e.app o.dst (bn ops es s0 L m) else bn ops es s0 L m:=by
 simp only [bn,ho,he]
theorem mc(hlen:es.length=ops.size) (hm:m<ops.size) :
 ∃ e,es[m]?=some e∧(bn ops es s0 L (m+1)).lv k=if L m=true then aS (bn ops es s0 L m).lv e.us k else (bn ops es s0 L m).lv k:=by
 have ho:ops[m]?=some ops[m]:=XM hm;have he:es[m]?=some (es[m]'(by omega)):=rP (by omega);refine⟨_,he,?_⟩;rw [Ie ho he]
 cases L m <;> simp [lZ]
theorem AI (hlen:es.length=ops.size){i:Nat}(hi:i<ops.size) (hLi:L i=false) (h1:∀ j,vn ops j i→L j=true) (h2:∀ i j,vn ops i j→L j=true→L i=true) :
 (bn ops es s0 L ops.size).lv k=(bn ops es s0 (fun _=>true) i).lv k ∨
 (∃ j e,i<j∧es[j]?=some e∧¬ vn ops i j∧k∈e.us.map (·.1)∧(bn ops es s0 L ops.size).lv k=aS (fun _=>.hole) e.us k) ∨
 (∃ j e,j<i∧es[j]?=some e∧¬ vn ops j i∧k∈e.us.map (·.1)∧(bn ops es s0 L ops.size).lv k=(bn ops es s0 (fun _=>true) j).lv k):=by
 have hA:∀ m,m≤i→((bn ops es s0 L m).lv k=(bn ops es s0 (fun _=>true) m).lv k ∨
  ∃ j e,j<i∧es[j]?=some e∧¬ vn ops j i∧k∈e.us.map (·.1)∧(bn ops es s0 L m).lv k=(bn ops es s0 (fun _=>true) j).lv k):=by
  intro m
  induction m with
  | zero=>intro _;exact .inl rfl
  | succ m ih=>
   intro hm;obtain⟨e,he,e1⟩:=mc (ops:=ops) (s0:=s0) (L:=L) (k:=k) hlen (by omega:m<ops.size);obtain⟨e',he',e2⟩:=mc (ops:=ops) (s0:=s0) (L:=fun _=>true) (k:=k) hlen (by omega:m<ops.size);rw [he] at he';simp only [ai] at he';subst he';simp only [if_true] at e2;rw [e1,e2]
   by_cases hk:k∈e.us.map (·.1)
   ·cases hL:L m with
    | true=>simp only [if_true];exact .inl (r6 hk)
    | false=>
     simp only [WS,if_false];rcases ih (by omega) with h|⟨j,e',q1,q2,q3,q4,q5⟩
     ·refine .inr ⟨m,e,by omega,he,fun ha=>?_,hk,h⟩;have:=h1 m ha;rw [hL] at this;cases this
     ·exact .inr ⟨j,e',q1,q2,q3,q4,q5⟩
   ·rw [bX hk,bX hk]
    cases hL:L m with
    | true=>simp only [if_true];exact ih (by omega)
    | false=>simp only [WS,if_false];exact ih (by omega)
 have hB:∀ m,i≤m→m≤ops.size→((bn ops es s0 L m).lv k=(bn ops es s0 L i).lv k ∨
  ∃ j e,i<j∧es[j]?=some e∧¬ vn ops i j∧k∈e.us.map (·.1)∧(bn ops es s0 L m).lv k=aS (fun _=>.hole) e.us k):=by
  intro m
  induction m with
  | zero=>intro h _;have:i=0:=by omega
          subst this;exact .inl rfl
  | succ m ih=>
   intro hm hms
   by_cases hmi:i=m+1
   ·rw [hmi];exact .inl rfl
   obtain⟨e,he,e1⟩:=mc (ops:=ops) (s0:=s0) (L:=L) (k:=k) hlen (by omega:m<ops.size);rw [e1]
   cases hL:L m with
   | false=>simp only [WS,if_false];exact ih (by omega) (by omega)
   | true=>
    simp only [if_true]
    by_cases hk:k∈e.us.map (·.1)
    ·refine .inr ⟨m,e,?_,he,fun ha=>?_,hk,r6 hk⟩
     ·rcases Yj i m with h|h
      ·exact h
      ·have:i=m:=by omega
       subst this;rw [hLi] at hL;cases hL
     ·have:=h2 i m ha hL;rw [hLi] at this;cases this
    ·rw [bX hk];exact ih (by omega) (by omega)
 rcases hB ops.size (by omega) (bg _) with h|⟨j,e,q1,q2,q3,q4,q5⟩
 ·rw [h];rcases hA i (bg _) with h'|⟨j,e,q1,q2,q3,q4,q5⟩
  ·exact .inl h'
  ·exact .inr (.inr ⟨j,e,q1,q2,q3,q4,q5⟩)
 ·exact .inr (.inl ⟨j,e,q1,q2,q3,q4,q5⟩)
end
structure Fw where
 e:Fx
 lv:Key→LB
 all:Bool
 soft:Key→LB→Bool
variable {fs:List Fw}
def Fw.ok (f:Fw)(lv:Key→LB):Prop:=
 (f.all=true∧lv=f.lv)∨(f.all=false∧(Agree f.lv lv f.e.us f.e.rds∨(f.e.us=[]∧∃ k,f.e.rds=[k]∧f.soft k (lv k)=true)))
def Fw.apart (f g:Fw):Prop:=
 (f.all=true→g.e.us=[])∧(g.all=true→f.e.us=[]) ∧
 (∀ k∈f.e.us.map (·.1),k ∉ g.e.us.map (·.1)) ∧
 (∀ k∈f.e.us.map (·.1),k ∉ g.e.rds∨(g.e.us=[]∧g.e.rds=[k]∧g.soft k (f.lv k)=true)) ∧
 (∀ k∈g.e.us.map (·.1),k ∉ f.e.rds∨(f.e.us=[]∧f.e.rds=[k]∧f.soft k (aS (fun _=>.hole) g.e.us k)=true))
theorem RY {ops:Array Oper}{s0:aB}(hlen:fs.length=ops.size)
 (hlv:∀ (i:Nat) f,fs[i]?=some f→f.lv=(bn ops (fs.map (·.e)) s0 (fun _=>true) i).lv)
 (hind:∀ (i j:Nat) f g,i<j→fs[i]?=some f→fs[j]?=some g→vn ops i j∨f.apart g) :
 ∀ (L:Nat→Bool) (i:Nat) (f:Fw),fs[i]?=some f→L i=false→(∀ j,vn ops j i→L j=true)→(∀ i j,vn ops i j→L j=true→L i=true) →
  f.ok (bn ops (fs.map (·.e)) s0 L ops.size).lv:=by
 intro L i f hf hLi h1 h2;have hi:i<ops.size:=by have:=(List.getElem?_eq_some_iff.1 hf).1;omega
 have hlen':(fs.map (·.e)).length=ops.size:=by simpa using hlen
 have hver:=fun k=>AI (s0:=s0) (k:=k) hlen' hi hLi h1 h2
 rw [← hlv i f hf] at hver
 have hget:∀ (j:Nat) (e:Fx),(fs.map (·.e))[j]?=some e→∃ g:Fw,fs[j]?=some g∧g.e=e:=by
  intro j e h;rw [Yi,W7] at h;exact h
 cases hall:f.all with
 | true=>
  left;refine⟨hall,funext fun k=>?_⟩;rcases hver k with h|⟨j,e,q1,q2,q3,q4,q5⟩|⟨j,e,q1,q2,q3,q4,q5⟩
  ·exact h
  ·obtain⟨g,hg,rfl⟩:=hget j e q2;rcases hind i j f g q1 hf hg with ha|ha
   ·exact absurd ha q3
   ·rw [ha.1 hall] at q4;cases q4
  ·obtain⟨g,hg,rfl⟩:=hget j e q2;rcases hind j i g f q1 hg hf with ha|ha
   ·exact absurd ha q3
   ·rw [ha.2.1 hall] at q4;cases q4
 | false=>
 right;refine⟨hall,?_⟩
 by_cases hs:f.e.us=[]∧∃ k,f.e.rds=[k]
 ·obtain⟨hu,k,hk⟩:=hs;rcases hver k with h|⟨j,e,q1,q2,q3,q4,q5⟩|⟨j,e,q1,q2,q3,q4,q5⟩
  ·left;refine⟨fun k' hk'=>?_,fun p hp=>by rw [hu] at hp;cases hp⟩;rw [hk] at hk';rw [List.mem_singleton.1 hk'];exact h
  all_goals (right;refine⟨hu,k,hk,?_⟩)
  ·obtain⟨g,hg,rfl⟩:=hget j e q2;rw [q5];rcases hind i j f g q1 hf hg with ha|ha
   ·exact absurd ha q3
   ·rcases ha.2.2.2.2 k q4 with h|h
    ·exact absurd (by rw [hk];exact List.mem_singleton.2 rfl) h
    ·exact h.2.2
  ·obtain⟨g,hg,rfl⟩:=hget j e q2;rw [q5,← hlv j g hg];rcases hind j i g f q1 hg hf with ha|ha
   ·exact absurd ha q3
   ·rcases ha.2.2.2.1 k q4 with h|h
    ·exact absurd (by rw [hk];exact List.mem_singleton.2 rfl) h
    ·exact h.2.2
 ·left;have hno:∀ k,¬ (f.e.us=[]∧f.e.rds=[k]):=fun k h=>hs ⟨h.1,k,h.2⟩
  have key:∀ k,(k∈f.e.rds∨k∈f.e.us.map (·.1))→(bn ops (fs.map (·.e)) s0 L ops.size).lv k=f.lv k:=by
   intro k hk;rcases hver k with h|⟨j,e,q1,q2,q3,q4,q5⟩|⟨j,e,q1,q2,q3,q4,q5⟩
   ·exact h
   ·obtain⟨g,hg,rfl⟩:=hget j e q2;exfalso;rcases hind i j f g q1 hf hg with ha|ha
    ·exact q3 ha
    ·rcases hk with hk|hk
     ·rcases ha.2.2.2.2 k q4 with h|h
      ·exact h hk
      ·exact hno k ⟨h.1,h.2.1⟩
     ·exact ha.2.2.1 k hk q4
   ·obtain⟨g,hg,rfl⟩:=hget j e q2;exfalso;rcases hind j i g f q1 hg hf with ha|ha
    ·exact q3 ha
    ·rcases hk with hk|hk
     ·rcases ha.2.2.2.1 k q4 with h|h
      ·exact h hk
      ·exact hno k ⟨h.1,h.2.1⟩
     ·exact ha.2.2.1 k q4 hk
  exact⟨fun k hk=>key k (.inl hk),fun p hp=>key p.1 (.inr (Zd hp))⟩
def jw (c:Ctx)(r:Option Nat)(ops:Array Oper):List Oper→List Fw→aB→aB→Prop
 | [],[],s,s'=>s'=s
 | o::os,f::fs,s,s'=>mb c r ops o s f.e f.ok∧f.lv=s.lv∧jw c r ops os fs (f.e.app o.dst s) s'
 | _,_,_,_=>False
section
variable {c:Ctx}{r:Option Nat}{ops:Array Oper}
theorem jw.len:∀ {os:List Oper}{es:List Fw}{s s':aB},jw c r ops os es s s'→es.length=os.length
 | [],[],_,_,_=>rfl
 | _::_,_::_,_,_,h=>by simp [jw.len h.2.2]
 | [],_::_,_,_,h=>h.elim
 | _::_,[],_,_,h=>h.elim
theorem jw.at {fs:List Fw}{s0:aB}:∀ {os:List Oper}{rs:List Fw}{s':aB}(n:Nat),ops.toList.drop n=os→fs.drop n=rs→jw c r ops os rs (bn ops (fs.map (·.e)) s0 (fun _=>true) n) s' →
 s'=bn ops (fs.map (·.e)) s0 (fun _=>true) (n+os.length)∧∀ (i:Nat) o f,n≤i→ops[i]?=some o→fs[i]?=some f→mb c r ops o (bn ops (fs.map (·.e)) s0 (fun _=>true) i) f.e f.ok∧f.lv=(bn ops (fs.map (·.e)) s0 (fun _=>true) i).lv
 | [],[],s',n,h1,h2,h=>by
  refine⟨h,fun i o e hi ho he=>?_⟩;have h3:fs.length≤n:=List.drop_eq_nil_iff.1 h2;have:=(List.getElem?_eq_some_iff.1 he).1;omega
 | o::os,e::rs,s',n,h1,h2,h=>by
  have ho:ops[n]?=some o:=by
   have:(ops.toList.drop n)[0]?=some o:=by rw [h1];rfl
   rw [XS] at this;simpa using this
  have he:fs[n]?=some e:=by
   have:(fs.drop n)[0]?=some e:=by rw [h2];rfl
   rw [XS] at this;simpa using this
  have hst:bn ops (fs.map (·.e)) s0 (fun _=>true) (n+1)=e.e.app o.dst (bn ops (fs.map (·.e)) s0 (fun _=>true) n):=by
   simp only [bn,ho,Yi,he,W4,if_true]
  obtain⟨h3,h4⟩:=jw.at (fs:=fs) (s0:=s0) (os:=os) (rs:=rs) (s':=s') (n+1) (by rw [← X4,h1];rfl) (by rw [← X4,h2];rfl) (by rw [hst];exact h.2.2);refine⟨by rw [h3];congr 1;simp;omega,fun i o' e' hi ho' he'=>?_⟩
  by_cases e1:i=n
  ·subst e1;rw [ho] at ho';rw [he] at he';simp only [ai] at ho' he';subst ho';subst he';exact⟨h.1,h.2.1⟩
  ·exact h4 i o' e' (by omega) ho' he'
 | [],_::_,_,_,_,_,h=>h.elim
 | _::_,[],_,_,_,_,h=>h.elim
theorem jw.draw{id:Nat}{s':aB}(hm:c.P.follows .mixedOrders=true) (h:jw c r ops ops.toList fs s s')
 (hback:∀ (i:Nat) o,ops[i]?=some o→∀ ed∈o.after,Region.binds .any ed=true→ed.on<i)
 (hind:∀ (i j:Nat) o o' f g,i<j→ops[i]?=some o→ops[j]?=some o'→fs[i]?=some f→fs[j]?=some g→vn ops i j∨(o.apart ops o'=true∧f.apart g))
 (hQ:∀ F' β' a' w',aD c F' β' s' a' w'→Q .normal a' w') {F:Nat→Prop}{β:Key→Nat}{a:Act}{w:World}(hs:aD c F β s a w):(Code.region id ops true).wpIn (oH r) 0 c.P Q a w:=by
 have hlen:fs.length=ops.size:=by rw [h.len];simp
 obtain⟨h3,h4⟩:=jw.at (fs:=fs) (s0:=s) 0 rfl rfl h;refine wpIn_region_any hm ?_
 have hget:∀ (j:Nat) (e:Fx),(fs.map (·.e))[j]?=some e→∃ g:Fw,fs[j]?=some g∧g.e=e:=by
  intro j e h;rw [Yi,W7] at h;exact h
 have hos:∀ (j:Nat) f,fs[j]?=some f→∃ o',ops[j]?=some o':=fun j e' h'=>by
  have:j<fs.length:=(List.getElem?_eq_some_iff.1 h').1;exact⟨ops[j]'(by omega),XM (by omega)⟩
 refine Au (es:=fs.map (·.e)) (s0:=s) (fun i lv=>∀ f,fs[i]?=some f→f.ok lv) (by simpa using hlen) (fun i o e ho he=>?_) hback (fun i j o o' e e' hij ho ho' he he'=>?_) (fun L i hi hLi h1 h2 f hf=>?_)
  (fun F' β' a' w' h'=>hQ F' β' a' w' ?_) ops.size _ (by simp) (fun j o ho hj=>?_) (by omega) F β a _ ?_
 ·obtain⟨f,hf,rfl⟩:=hget i e he;intro s1 g1 g2;exact (h4 i o f (W2 _) ho hf).1 s1 g1 (g2 f hf)
 ·obtain⟨f,hf,rfl⟩:=hget i e he;obtain⟨g,hg,rfl⟩:=hget j e' he';rcases hind i j o o' f g hij ho ho' hf hg with ha|⟨ha,hb⟩
  ·exact .inl ha
  ·exact .inr ⟨ha,hb.2.2.1⟩
 ·refine RY hlen (fun i f hf=>?_) (fun i j f g hij hf hg=>?_) L i f hf hLi h1 h2
  ·obtain⟨o,ho⟩:=hos i f hf;exact (h4 i o f (W2 _) ho hf).2
  ·obtain⟨o,ho⟩:=hos i f hf;obtain⟨o',ho'⟩:=hos j g hg;rcases hind i j o o' f g hij ho ho' hf hg with ha|ha
   ·exact .inl ha
   ·exact .inr ha.2
 ·rw [h3];simpa using h'
 ·have hf:(Array.replicate ops.size false).getD j false=false:=by
   simp only [Xz,Yv];split <;> rfl
  rw [hf] at hj;cases hj
 ·have hf:∀ j,(Array.replicate ops.size false).getD j false=false:=fun j=>by
   simp only [Xz,Yv];split <;> rfl
  have:bn ops (fs.map (·.e)) s (fun j=>(Array.replicate ops.size false).getD j false) ops.size=s:=by
   rw [fc (L':=fun _=>false) (fun j _=>hf j)]
   have:∀ m,bn ops (fs.map (·.e)) s (fun _=>false) m=s:=by
    intro m
    induction m with
    | zero=>rfl
    | succ m ih=>simp only [bn,ih,WS,if_false];split <;> rfl
   exact this _
  rw [this];exact hs.heap rfl
end
theorem AW.seq'{r:Option Nat}{κ:Nat}{Q:Ex→aB→Nat→Prop}{x y:Code}(h:AW c r x s κ (pJ (fun s κ=>AW c r y s κ Q) Q)):AW c r (.seq x y) s κ Q:=
 AW.seq h fun _ _ h=>h
theorem Ref.nI:∀ (x:Ref),x.bU (fun k=>k)=x
 | .d _=>rfl
 | .ptr ..=>rfl
 | .aR ..=>rfl
 | .agg cs=>by
  simp only [Ref.bU];congr 1;have:∀ x∈cs,ig.bU (fun k=>k) x=x:=fun x _=>by cases x <;> rfl
  simpa using Xj this
 | .ifc t x=>by simp only [Ref.bU,Ref.nI x]
theorem CV.nI (x:CV):x.bU (fun k=>k)=x:=by
 cases x with
 | func fn f c=>
  simp only [CV.bU]
  have h:∀ l:List Ref,l.map (Ref.bU fun k=>k)=l:=fun l=>by
   have:∀ x∈l,Ref.bU (fun k=>k) x=x:=fun x _=>Ref.nI x
   simpa using Xj this
  rw [h,h]
 | ifc t x=>simp only [CV.bU,Ref.nI]
 | _=>rfl
theorem xV (l:List CV):l.map (CV.bU fun k=>k)=l:=by
 have:∀ x∈l,CV.bU (fun k=>k) x=x:=fun x _=>CV.nI x
 simpa using Xj this
theorem AV.vZ(h:x.cu=true):x.lz (fun k=>k)=x:=by
 cases x with
 | c x=>simp only [AV.lz,CV.nI]
 | agg cs=>simp only [AV.lz,xV]
 | tup l=>cases h
 | undef=>rfl
 | junk=>rfl
theorem AV.nI(h:x.bY=true):x.bU (fun k=>k)=x:=by
 cases x with
 | c x=>exact AV.vZ (x:=.c x) rfl
 | agg cs=>exact AV.vZ (x:=.agg cs) rfl
 | tup l=>
  simp only [AV.bY,E5] at h;simp only [AV.bU];congr 1;have:∀ x∈l,AV.lz (fun k=>k) x=x:=fun x hx=>AV.vZ (by have:=h x hx;cases x <;> simp_all [AV.cu])
  simpa using Xj this
 | undef=>rfl
 | junk=>rfl
theorem LB.Rk {x:LB}(hm:∀ own es,x=.map own es→∀ p∈es,∀ l,p.2≠.tup l):x.as x (fun k=>k):=by
 cases x with
 | cells own fz T cs=>exact⟨own,cs,rfl,(xV cs).symm,fun h=>h⟩
 | map own es=>
  refine⟨own,es,rfl,?_,fun h=>h,fun p hp l=>hm own es rfl p hp l⟩
  have:∀ p∈es,(fun p:DV × AV=>(p.1,p.2.lz fun k=>k)) p=p:=fun p hp=>by
   have:=AV.vZ (x:=p.2) (by have:=hm own es rfl p hp;cases e:p.2 <;> simp_all [AV.cu]);simp only [this]
  simpa using (Xj this).symm
 | hole=>rfl
 | dead=>intro h;cases h
 | nils=>rfl
def bf:List (Nat × AV)→Nat→AV
 | [],_=>.junk
 | p::l,t=>if t=p.1 then p.2 else bf l t
theorem jW{P:Nat→AV→Prop}(h:∀ p∈l,P p.1 p.2) (t:Nat):bf l t=.junk∨P t (bf l t):=by
 induction l with
 | nil=>exact .inl rfl
 | cons p l ih=>
  simp only [bf];split
  ·rename_i e;subst e;exact .inr (h p (by simp))
  ·exact ih fun q hq=>h q (by simp [hq])
theorem ef.slots(hl:∀ p∈l,p.2.bY=true∧s.fr p.1=p.2) (hm:∀ k own es,s.lv k=.map own es→∀ p∈es,∀ l,p.2≠.tup l) :
 ef c s ⟨bf l,s.lv⟩ (fun k=>k):=by
 refine⟨fun k=>LB.Rk (hm k),fun k k' _ _ h=>h,fun t=>?_,fun k _=>.inr rfl⟩;rcases jW (P:=fun t x=>x.bY=true∧s.fr t=x) hl t with h|⟨h1,h2⟩
 ·exact .inl h
 ·exact .inr ⟨h1,by rw [AV.nI h1];exact h2⟩
def CV.pure:CV→Bool
 | .d _=>true
 | _=>false
def AV.jZ:AV→Bool
 | .c x=>x.pure
 | .agg cs=>cs.all CV.pure
 | .undef=>true
 | .junk=>true
 | _=>false
def AV.pure:AV→Bool
 | .tup l=>l.all AV.jZ
 | x=>x.jZ
theorem CV.bV {x:CV}(h:x.pure=true) (g:Key→Key):x.bU g=x:=by cases x <;> simp_all [CV.pure,CV.bU]
theorem AV.tu(h:x.jZ=true) (g:Key→Key):x.lz g=x:=by
 cases x with
 | c x=>simp only [AV.lz,CV.bV h]
 | agg cs=>
  simp only [AV.jZ,E5] at h;simp only [AV.lz];congr 1;have:∀ x∈cs,CV.bU g x=x:=fun x hx=>CV.bV (h x hx) g
  simpa using Xj this
 | tup l=>cases h
 | undef=>rfl
 | junk=>rfl
theorem AV.bV(h:x.pure=true) (g:Key→Key):x.bU g=x:=by
 cases x with
 | c x=>exact AV.tu (x:=.c x) h g
 | agg cs=>exact AV.tu (x:=.agg cs) h g
 | tup l=>
  simp only [AV.pure,E5] at h;simp only [AV.bU];congr 1;have:∀ x∈l,AV.lz g x=x:=fun x hx=>AV.tu (h x hx) g
  simpa using Xj this
 | undef=>rfl
 | junk=>rfl
theorem AV.gU(h:x.pure=true):x.bY=true:=by
 cases x with
 | tup l=>
  simp only [AV.pure,E5] at h;simp only [AV.bY,E5];intro x hx;have:=h x hx
  cases x <;> simp_all [AV.jZ]
 | _=>rfl
theorem ef.blind(hl:∀ p∈l,p.2.pure=true∧s.fr p.1=p.2) (kh:Key) (hh:s.lv kh=.hole) (h0:∀ k,c.lf k=.hole) :
 ef c s ⟨bf l,fun _=>.hole⟩ (fun _=>kh):=by
 refine⟨fun k=>hh,fun k k' h=>(by cases h),fun t=>?_,fun k h=>absurd (h0 k) h⟩;rcases jW (P:=fun t x=>x.pure=true∧s.fr t=x) hl t with h|⟨h1,h2⟩
 ·exact .inl h
 ·exact .inr ⟨AV.gU h1,by rw [AV.bV h1];exact h2⟩
theorem gp:bz [] []=fun _=>LB.hole:=funext fun k=>qQ k
def aq (c:Ctx)(fn:Func)(x:AV):Ex→aB→Nat→Prop
 | .normal,s,_|.ret,s,_=>∃ l kh,(∀ p∈l,p.2.pure=true∧s.fr p.1=p.2)∧s.lv kh=.hole∧cH c.P ⟨bf l,fun _=>.hole⟩ fn.results.toList=some x
 | _,_,_=>False
theorem aa.KL(hf:P.funcs[f]?=some fn) (hb:fn.body=some code) (hl:args.length≤fn.ntmps)
 (h:∀ c:Ctx,c.P=P→c.G=G→c.n=fn.ntmps→c.lf=(fun _=>.hole)→AW c none code ⟨fun t=>args.getD t .undef,fun _=>.hole⟩ 0 (aq c fn x)):aa P G f args x:=by
 refine aF.nc hf hb hl fun c h1 h2 h3 h4=>?_;rw [gp] at h4 ⊢;refine (AW.mono (fun F β a w hs=>h c h1 h2 h3 h4 F β a w hs) fun e s κ hq=>?_:AW c none code _ 1000 _)
 have fin:(∃ l kh,(∀ p∈l,p.2.pure=true∧s.fr p.1=p.2)∧s.lv kh=.hole∧cH c.P ⟨bf l,fun _=>.hole⟩ fn.results.toList=some x) →
  ∃ s2 g,ef c s s2 g∧s2.lv=bz [] []∧cH c.P s2 fn.results.toList=some x:=by
  rintro⟨l,kh,g1,g2,g3⟩;exact⟨⟨bf l,fun _=>.hole⟩,fun _=>kh,ef.blind g1 kh g2 (fun k=>by rw [h4]),by rw [gp],g3⟩
 cases e with
 | normal=>exact fin hq
 | ret=>exact fin hq
 | exit id=>exact hq.elim
 | goto l=>exact hq.elim
 | panic d=>exact hq.elim
theorem aa.nc(hf:P.funcs[f]?=some fn) (hb:fn.body=some code) (hl:args.length≤fn.ntmps)
 (h:∀ c:Ctx,c.P=P→c.G=G→c.n=fn.ntmps→AW c none code ⟨fun t=>args.getD t .undef,fun _=>.hole⟩ 0 (aq c fn x)):aa P G f args x:=
 aa.KL hf hb hl fun c h1 h2 h3 _=>h c h1 h2 h3
inductive Tr (α:Type) where
 | nil
 | node (l:Tr α) (v:Option α) (r:Tr α)
def Tr.get:Tr α→Nat→Option α
 | .nil,_=>none
 | .node l v r,n=>match n with
  | 0=>v
  | n+1=>bif Nat.beq (n % 2) 0 then l.get (n / 2) else r.get (n / 2)
def Tr.set:Nat→Tr α→Nat→α→Option (Tr α)
 | 0,_,_,_=>none
 | d+1,t,n,x=>
  match t with
  | .nil=>match n with
   | 0=>some (.node .nil (some x) .nil)
   | n+1=>bif Nat.beq (n % 2) 0 then (match Tr.set d .nil (n / 2) x with|some l=>some (.node l none .nil)|none=>none)
    else (match Tr.set d .nil (n / 2) x with|some r=>some (.node .nil none r)|none=>none)
  | .node l v r=>match n with
   | 0=>some (.node l (some x) r)
   | n+1=>bif Nat.beq (n % 2) 0 then (match Tr.set d l (n / 2) x with|some l=>some (.node l v r)|none=>none)
    else (match Tr.set d r (n / 2) x with|some r=>some (.node l v r)|none=>none)
theorem Tr.get_nil(n:Nat):(Tr.nil:Tr α).get n=none:=by unfold Tr.get;rfl
theorem Tr.kS:∀ {d:Nat}{t t':Tr α}{n:Nat}{x:α},Tr.set d t n x=some t'→∀ m,t'.get m=if m=n then some x else t.get m
 | 0,_,_,_,_,h=>by cases h
 | d+1,t,t',n,x,h=>by
  intro m
  have half:∀ p q:Nat,(p % 2 == q % 2)=true→p≠q→p / 2≠q / 2:=by
   intro p q h1 h2 h3;simp at h1;omega
  cases t with
  | nil=>
   simp only [Tr.set] at h
   cases n with
   | zero=>
    simp only [ai] at h;subst h
    cases m with
    | zero=>simp [Tr.get]
    | succ m=>simp [Tr.get,Tr.get_nil]
   | succ n=>
    simp only at h
    cases hb:Nat.beq (n % 2) 0 with
    | true=>
     rw [hb] at h;simp only [cond_true] at h;split at h
     ·rename_i l hl
      simp only [ai] at h;subst h;have ih:=Tr.kS hl
      cases m with
      | zero=>simp [Tr.get]
      | succ m=>
       simp only [Tr.get,Tr.get_nil]
       cases hm:Nat.beq (m % 2) 0 with
       | true=>
        simp only [cond_true];rw [ih,Tr.get_nil];have e1:=W1 hb;have e2:=W1 hm
        by_cases e:m=n
        ·subst e;simp
        ·rw [if_neg (half m n (by simp;omega) e),if_neg (by omega)]
       | false=>
        simp only [cond_false];rw [if_neg];intro e;have:m=n:=by omega
        subst this;rw [hb] at hm;cases hm
     ·cases h
    | false=>
     rw [hb] at h;simp only [cond_false] at h;split at h
     ·rename_i l hl
      simp only [ai] at h;subst h;have ih:=Tr.kS hl;have e1:=YL hb
      cases m with
      | zero=>simp [Tr.get]
      | succ m=>
       simp only [Tr.get,Tr.get_nil]
       cases hm:Nat.beq (m % 2) 0 with
       | false=>
        simp only [cond_false];rw [ih,Tr.get_nil];have e2:=YL hm
        by_cases e:m=n
        ·subst e;simp
        ·rw [if_neg (half m n (by simp;omega) e),if_neg (by omega)]
       | true=>
        simp only [cond_true];rw [if_neg];intro e;have:m=n:=by omega
        subst this;rw [hb] at hm;cases hm
     ·cases h
  | node l0 v0 r0=>
   simp only [Tr.set] at h
   cases n with
   | zero=>
    simp only [ai] at h;subst h
    cases m with
    | zero=>simp [Tr.get]
    | succ m=>simp [Tr.get]
   | succ n=>
    simp only at h
    cases hb:Nat.beq (n % 2) 0 with
    | true=>
     rw [hb] at h;simp only [cond_true] at h;split at h
     ·rename_i l hl
      simp only [ai] at h;subst h;have ih:=Tr.kS hl
      cases m with
      | zero=>simp [Tr.get]
      | succ m=>
       simp only [Tr.get]
       cases hm:Nat.beq (m % 2) 0 with
       | true=>
        simp only [cond_true];rw [ih];have e1:=W1 hb;have e2:=W1 hm
        by_cases e:m=n
        ·subst e;simp
        ·rw [if_neg (half m n (by simp;omega) e),if_neg (by omega)]
       | false=>
        simp only [cond_false];rw [if_neg];intro e;have:m=n:=by omega
        subst this;rw [hb] at hm;cases hm
     ·cases h
    | false=>
     rw [hb] at h;simp only [cond_false] at h;split at h
     ·rename_i l hl
      simp only [ai] at h;subst h;have ih:=Tr.kS hl;have e1:=YL hb
      cases m with
      | zero=>simp [Tr.get]
      | succ m=>
       simp only [Tr.get]
       cases hm:Nat.beq (m % 2) 0 with
       | false=>
        simp only [cond_false];rw [ih];have e2:=YL hm
        by_cases e:m=n
        ·subst e;simp
        ·rw [if_neg (half m n (by simp;omega) e),if_neg (by omega)]
       | true=>
        simp only [cond_true];rw [if_neg];intro e;have:m=n:=by omega
        subst this;rw [hb] at hm;cases hm
     ·cases h
abbrev kR:=AV × List (Key × LB) × List Key × Bool
instance (op:BinOp) (y:Int):Decidable (eH op y):=by unfold eH;cases op <;> infer_instance
instance (op:BinOp) (x y:List UInt8):Decidable (qk op x y):=by unfold qk;cases op <;> infer_instance
def uf (P:Program)(op:BinOp)(T:TypeId)(x y:AV):Option kR:=
 match x,y with
 | .c (.d (.int k m)),.c (.d (.int k' n))=>
  match op with
  | .shl|.shr=>match Qm op k m n with|some d=>some (.c (.d d),[],[],decide (0≤n))|none=>none
  | _=>if k=k' then (match kI op k m n with|some d=>some (.c (.d d),[],[],decide (eH op n))|none=>none) else none
 | .c (.d (.str m)),.c (.d (.str n))=>match Jx op m n with|some d=>some (.c (.d d),[],[],decide (qk op m n))|none=>none
 | x,y=>
  match op with
  | .eql=>if P.eqGuardType P.depth T || !od x then none else match y9 P 20 T x y with|some b=>some (.c (.d (.bool b)),[],[],true)|none=>none
  | .neq=>if P.eqGuardType P.depth T || !od x then none else match y9 P 20 T x y with|some b=>some (.c (.d (.bool (!b))),[],[],true)|none=>none
  | _=>none
def qq (P:Program)(T:TypeId)(lv:Key→LB):AV→Option kR
 | .c (.d (.ptr cs))=>match eN P T (cs.map CV.d) with|some y=>some (y,[],[],true)|none=>none
 | .c (.ptr k off)=>match lv k with
  | .cells _ _ _ cs=>match eN P T (cs.drop off) with|some y=>some (y,[],[k],true)|none=>none
  | _=>none
 | _=>none
def n7 (P:Program)(T:TypeId)(lv:Key→LB)(x y:AV):Option kR:=
 match x with
 | .c (.ptr k off)=>match lv k with
  | .cells own false T' cs=>match y.cells with
   | some xs=>if (P.info? T).isSome && xs.length == gH P T then some (.undef,[(k,.cells own false T' (aj cs off xs))],[],decide (off+xs.length≤cs.length)) else none
   | none=>none
  | _=>none
 | _=>none
def td (lv:Key→LB):AV→Option kR
 | .c (.d (.ptr cs))=>some (.c (.d (.ptr cs)),[],[],true)
 | .c (.ptr k n)=>match lv k with|.cells ..=>some (.c (.ptr k n),[],[k],true)|_=>none
 | .c (.d (.func (.func f) fs cs))=>some (.c (.d (.func (.func f) fs cs)),[],[],true)
 | .c (.func (.func f) fs cs)=>some (.c (.func (.func f) fs cs),[],[],true)
 | _=>none
def jx (P:Program)(T:TypeId)(f:Nat)(lv:Key→LB):AV→Option kR
 | .c (.d (.ptr cs))=>match cP P T f with|some (off,_)=>some (.c (.d (.ptr (cs.drop off))),[],[],decide (off≤cs.length))|none=>none
 | .c (.ptr k n)=>match lv k,cP P T f with|.cells ..,some (off,_)=>some (.c (.ptr k (n+off)),[],[k],true)|_,_=>none
 | _=>none
def jA (P:Program)(T:TypeId)(lv:Key→LB)(x i:AV):Option kR:=
 match i with
 | .c (.d (.int _ n))=>
  match x with
  | .c (.d (.sl es))=>match eP P T with
   | some (_,sz)=>some (.c (.d (.ptr (es.getD n.toNat []))),[],[],decide (0≤n∧n<es.length∧(es.getD n.toNat []).length=sz))
   | none=>none
  | .c (.aR k off len sz)=>match lv k,eP P T with
   | .cells ..,some (_,sz')=>if sz=sz' then some (.c (.ptr k (off+n.toNat*sz)),[],[k],decide (0≤n∧n<len)) else none
   | _,_=>none
  | .c (.d (.ptr cs))=>match sZ P T with
   | some (len,_,sz)=>some (.c (.d (.ptr (cs.drop (n.toNat*sz)))),[],[],decide (0≤n∧n<len∧n.toNat*sz≤cs.length))
   | none=>none
  | .c (.ptr k off)=>match lv k,sZ P T with
   | .cells ..,some (len,_,sz)=>some (.c (.ptr k (off+n.toNat*sz)),[],[k],decide (0≤n∧n<len))
   | _,_=>none
  | _=>none
 | _=>none
def oe (P:Program)(T:TypeId)(x i:AV):Option kR:=
 match i with
 | .c (.d (.int _ n))=>
  match x with
  | .c (.d (.str l))=>if ct P T then some (.c (.d (.int .u8 (l.getD n.toNat 0).toNat)),[],[],decide (0≤n∧n<l.length)) else none
  | .agg cs=>match sZ P T with
   | some (len,e,sz)=>match m6 P e cs (n.toNat*sz) with|some y=>some (y,[],[],decide (0≤n∧n<len))|none=>none
   | none=>none
  | _=>none
 | _=>none
def nY (P:Program)(T:TypeId)(lv:Key→LB)(x:AV)(lo hi:Option AV):Option kR:=
 match x with
 | .c (.d (.str bs))=>if ct P T then (match cQ lo 0,cQ hi bs.length with
  | some l,some h=>some (.c (.d (.str ((bs.take h.toNat).drop l.toNat))),[],[],decide (0≤l∧l≤h∧h≤bs.length))
  | _,_=>none) else none
 | .c (.d (.sl es))=>match eP P T with
  | some (_,sz)=>match cQ lo 0,cQ hi es.length with
   | some l,some h=>some (.c (.d (.sl ((es.take h.toNat).drop l.toNat))),[],[],decide (0≤l∧l≤h∧h≤es.length∧∀ e∈es,e.length=sz))
   | _,_=>none
  | none=>none
 | .c (.d .nilsl)=>match eP P T with
  | some _=>match cQ lo 0,cQ hi 0 with
   | some l,some h=>some (.c (.d .nilsl),[],[],decide (l=0∧h=0))
   | _,_=>none
  | none=>none
 | .c (.aR k off len sz)=>match lv k,eP P T with
  | .cells ..,some (_,sz')=>if sz=sz' then (match cQ lo 0,cQ hi len with
   | some l,some h=>some (.c (.aR k (off+l.toNat*sz) (h.toNat - l.toNat) sz),[],[k],decide (0≤l∧l≤h∧h≤len∧(l<h∨l=0)))
   | _,_=>none) else none
  | _,_=>none
 | _=>none
def qG (P:Program)(T:TypeId)(lv:Key→LB)(κ:Key)(x y:AV):Option kR:=
 match x,y with
 | .c (.d (.int _ l)),.c (.d (.int _ m))=>match eP P T,lv κ with
  | some (e,sz),.hole=>match br P e,bB P e with
   | some zs,some b=>if zs.length=sz∧0<sz then some (.c (.aR κ 0 l.toNat sz),[(κ,.cells true false e (iJ l.toNat zs))],[],decide (0≤l∧l≤m∧(b:Int)*m≤281474976710656∧m≤9223372036854775807)) else none
   | _,_=>none
  | _,_=>none
 | _,_=>none
def mG (P:Program)(T:TypeId)(lv:Key→LB)(κ:Key)(y x:AV):Option kR:=
 match eP P T,lv κ with
 | some (e,sz),.hole=>match bB P e,dY lv sz x with
  | some b,some (m,xs)=>
   match y with
   | .c (.d .nilsl)=>some (.c (.aR κ 0 m sz),[(κ,if m=0 then .nils else .cells true false e xs)],keyOf x,decide (m≤9223372036854775807∧m*b≤140737488355328))
   | .c (.aR k off n sz')=>match lv k with
    | .nils=>if off=0∧n=0∧sz'=sz then some (.c (.aR κ 0 m sz),[(κ,if m=0 then .nils else .cells true false e xs)],k::keyOf x,decide (m≤9223372036854775807∧m*b≤140737488355328)) else none
    | .cells own false e' cs=>if off=0∧sz'=sz∧e'=e then
     some (.c (.aR κ 0 (n+m) sz),[(k,.dead),(κ,.cells own false e (cs++xs))],keyOf x,decide (cs.length=n*sz∧n+m≤9223372036854775807∧(n+m)*b≤140737488355328)) else none
    | _=>none
   | _=>none
  | _,_=>none
 | _,_=>none
def iW (P:Program)(T:TypeId)(n:Nat)(ixs:List Nat)(lv:Key→LB)(κ:Key)(vals:List AV):Option kR:=
 match eP P T,lv κ with
 | some (e,sz),.hole=>match br P e with
  | some zs=>if zs.length=sz∧0<sz∧n*sz≤16777216∧ixs.length=vals.length then (match eR (fun i=>some (i*sz,sz)) (iJ n zs) (ixs.zip vals) with
   | some cs=>some (.c (.aR κ 0 n sz),[(κ,.cells true false e cs)],[],true)
   | none=>none) else none
  | none=>none
 | _,_=>none
def qj (P:Program)(T:TypeId)(lv:Key→LB)(y x:AV):Option kR:=
 match y,eP P T with
 | .c (.aR k off n sz),some (_,sz')=>if sz=1∧sz'=1 then (match lv k,dY lv 1 x with
  | .cells own false T' cs,some (m,xs)=>some (.c (.d (.int .i64 ((min m n:Nat):Int))),[(k,.cells own false T' (aj cs off (xs.take (min m n))))],keyOf x,decide (0<m∧off+min m n≤cs.length∧n≤9223372036854775807))
  | _,_=>none) else none
 | _,_=>none
def Em (x:AV)(n:Int):Bool:=
 match x with
 | .c (.aR ..)=>decide (n≤9223372036854775807)
 | _=>true
theorem Ee{n:Int}(h:Em x n=true):ng x n:=by
 cases x with
 | c y=>cases y <;> first|exact trivial|simpa [Em,ng] using h
 | _=>exact trivial
def Bn (P:Program)(cl:Call)(vals:List AV)(lv:Key→LB)(κ:Key):Option kR:=
 match cl.callee with
 | .builtin .len=>match cl.args.toList,cl.argTypes.toList,vals with
  | [_],[T],[x]=>match kH P T lv x with
   | some n=>some (.c (.d (.int .i64 n)),[],keyOf x,Em x n)
   | none=>none
  | _,_,_=>none
 | .builtin .append=>match cl.args.toList,cl.argTypes.toList,vals with
  | [_,_],[T,T'],[y,x]=>if T=T' then mG P T lv κ y x else none
  | _,_,_=>none
 | .builtin .copy=>match cl.args.toList,cl.argTypes.toList,vals with
  | [_,_],[T,_],[y,x]=>qj P T lv y x
  | _,_,_=>none
 | .builtin .max=>match dh vals with
  | some (k,n::l)=>some (.c (.d (.int k (l.foldl (fun a b=>if b > a then b else a) n))),[],[],true)
  | _=>none
 | .builtin .min=>match dh vals with
  | some (k,n::l)=>some (.c (.d (.int k (l.foldl (fun a b=>if b<a then b else a) n))),[],[],true)
  | _=>none
 | _=>none
def sU (P:Program)(op:Op)(vals:List AV)(lv:Key→LB)(κ:Key):Option kR:=
 match op,vals with
 | .move _,[x]|.assign _,[x]=>some (x,[],[],true)
 | .pick _ _ _,[t,x,y]=>match t with|.c (.d (.bool true))=>some (x,[],[],true)|.c (.d (.bool false))=>some (y,[],[],true)|_=>none
 | .alloc T,[]=>match br P T,lv κ with|some xs,.hole=>some (.c (.ptr κ 0),[(κ,.cells true false T xs)],[],true)|_,_=>none
 | .box T _,[x]=>match x.cells,lv κ with|some xs,.hole=>some (.c (.ptr κ 0),[(κ,.cells true false T xs)],[],true)|_,_=>none
 | .build T parts,vals=>match br P T,qR P T with
  | some zs,some place=>if parts.size=vals.length then (match eR place zs ((parts.toList.map (·.1)).zip vals) with|some cs=>some (.agg cs,[],[],true)|none=>none) else none
  | _,_=>none
 | .buildSlice T n parts,vals=>iW P T n (parts.toList.map (·.1)) lv κ vals
 | .load T _,[x]=>qq P T lv x
 | .store T _ _,[x,y]=>n7 P T lv x y
 | .nilCheck _,[x]=>td lv x
 | .binOp op T _ _ _,[x,y]=>uf P op T x y
 | .unOp op _ _,[x]=>match x with|.c (.d d)=>(match RI op d with|some d'=>some (.c (.d d'),[],[],true)|none=>none)|_=>none
 | .convert S T _,[x]=>match x with
  | .c (.d (.int _ n))=>match pH P S,pH P T with|some _,some k'=>some (.c (.d (.int k' (k'.wrap n))),[],[],true)|_,_=>none
  | .c (.d (.str l))=>if ct P S && ct P T then some (.c (.d (.str l)),[],[],true) else none
  | _=>none
 | .makeInterface T _,[x]=>match m8 x with|some d=>if P.concrete T then some (.c (.d (.iface T d)),[],[],true) else none|none=>none
 | .makeFunc fn first caps,vals=>if vals.length=first.size+caps.size then (match rY (vals.take first.size),rY (vals.drop first.size) with
  | some fr,some cr=>some (.c (y4 fn fr cr),[],[],true)
  | _,_=>none) else none
 | .makeSlice T _ _,[x,y]=>qG P T lv κ x y
 | .slice T _ lo hi none,x::rest=>match vj lo hi rest with|some (l,h)=>nY P T lv x l h|none=>none
 | .fieldAddr T _ f,[x]=>jx P T f lv x
 | .field T _ f,[x]=>match x with|.agg cs=>(match cP P T f with|some (off,ft)=>(match m6 P ft cs off with|some y=>some (y,[],[],true)|none=>none)|none=>none)|_=>none
 | .indexAddr T _ _,[x,i]=>jA P T lv x i
 | .index T _ _,[x,i]=>oe P T x i
 | .extract _ i,[x]=>match x with|.tup l=>(match l[i]? with|some (.tup _)=>none|some y=>some (y,[],[],true)|none=>none)|_=>none
 | .call cl,vals=>Bn P cl vals lv κ
 | _,_=>none
end Go.Am
