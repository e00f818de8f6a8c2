/- Helpers: an abstract machine for Go functions, and walks of functions of the program. -/
import Derived.Test.YtfkfimmphlpllaaGreatDoorCn08

set_option linter.all false

namespace Go.Am
open Go.Am.Ty Go.Proofs N
def oP (lv:Key→LB)(k:Key)(E:TypeId)(o:Option (List (List DV))):Prop:=match o with
 | none=>lv k=.nils
 | some es=>∃ own fz,lv k=.cells own fz E (es.flatten.map CV.d)
theorem nN {lv:Key→LB}{k:Key}{E:TypeId}{o:Option (List (List DV))}{sz n:Nat}(h:oP lv k E o) (hs:∀ e∈sO o,e.length=sz) (hl:(sO o).length≤1000) :
 cF lv (n+1) (.aJ k 0 (sO o).length sz)=some (sD o,if o.isSome then [k] else []):=by
 cases o with
 | none=>exact kM (E:=E) h hs hl
 | some es=>
  obtain⟨own,fz,h⟩:=h
  have e:cF lv (n+1) (.aJ k 0 (sO (some es)).length sz)=cF (aB lv k (.cells true false E (es.flatten.map CV.d))) (n+1) (.aJ k 0 (sO (some es)).length sz):=by
   simp only [cF,h,az]
   rw [iD (f:=cF lv n) (g:=cF (aB lv k (.cells true false E (es.flatten.map CV.d))) n)]
   intro x hx
   have hx:=List.mem_of_mem_drop (List.mem_of_mem_take hx)
   obtain⟨d,_,rfl⟩:=List.mem_map.1 hx
   cases n <;> rfl
  rw [e]
  exact kM (E:=E) (az _ _ _) hs hl
theorem F7 {lv:Key→LB}{p:PD}{a b c d:Key}(hp:p.ok) (ht:p.Fm) (h1:oP lv a 81 p.f) (h2:oP lv b 67 p.ins) (h3:oP lv c 55 p.nodes) (h4:oP lv d 69 p.states) :
 dZ lv (.agg (lP p a b c d))=some (p.A,(if p.f.isSome then [a] else [])++((if p.ins.isSome then [b] else [])++((if p.nodes.isSome then [c] else [])++(if p.states.isSome then [d] else [])))):=by
 have e1:=nN (n:=7) h1 (fun e he=>ia (hp.f e he)) ht.f
 have e2:=nN (n:=7) h2 (fun e he=>qJ (hp.ins e he)) ht.i
 have e3:=nN (n:=7) h3 (fun e he=>kX (hp.nodes e he)) ht.n
 have e4:=nN (n:=7) h4 (fun e he=>ia (hp.states e he)) ht.s
 have f1:∀ n:Int,cF lv 8 (.d (.int .i64 n))=some (.int .i64 n,[]):=fun n=>rfl
 simp only [dZ,PD.nf,PD.ni,PD.nn,PD.ns,eR,e1,e2,e3,e4,f1,Option.map_some,List.append_nil,List.nil_append]
 show some (AV.agg (p.Ei.map CV.d),_)=_
 rw [uJ]
def zS (k:Key)(E:TypeId):Option (List (List DV))→List (Key × TypeId × List CV)
 | none=>[]
 | some es=>[(k,E,es.flatten.map CV.d)]
theorem Kg (k:Key)(E:TypeId)(o:Option (List (List DV))):(zS k E o).map (·.1)=if o.isSome then [k] else []:=by cases o <;> rfl
theorem pS {lv:Key→LB}{k:Key}{E:TypeId}{o:Option (List (List DV))}{Z:List (Key × TypeId × List CV)}(h:lv k=lU E o) (hn:(Z.map (·.1)).Nodup) (hz:∀ z∈zS k E o,z∈Z) (hk:o=none→k ∉ Z.map (·.1)):oP (aW lv (dc Z)) k E o:=by
 cases o with
 | none=>
  show aW lv (dc Z) k=.nils
  rw [bL (by rw [fj];exact hk rfl)];exact h
 | some es=>
  have hm:=hz (k,E,es.flatten.map CV.d) (by simp [zS])
  refine⟨true,true,?_⟩
  exact iw (by rw [fj];exact hn) (by simp only [dc,List.mem_map];exact⟨_,hm,rfl⟩)
theorem GW {lv:Key→LB}{p:PD}{a b c d:Key}(h1:oP lv a 81 p.f) (h2:oP lv b 67 p.ins) (h3:oP lv c 55 p.nodes) (h4:oP lv d 69 p.states) {k:Key}(hk:k∈iQ lv (.agg (lP p a b c d))):k=a∨k=b∨k=c∨k=d:=by
 have key:∀ {k':Key}{E:TypeId}{o:Option (List (List DV))}{n sz:Nat},oP lv k' E o→k∈gq lv 8 (.aJ k' 0 n sz)→k=k':=by
  intro k' E o n sz h hm
  simp only [gq,List.mem_cons] at hm
  rcases hm with hm|hm
  ·exact hm
  ·exfalso
   cases o with
   | none=>rw [show lv k'=.nils from h] at hm;cases hm
   | some es=>
    obtain⟨own,fz,h⟩:=h
    rw [h] at hm
    simp only [List.mem_flatMap,List.mem_map] at hm
    obtain⟨x,⟨y,_,rfl⟩,hx⟩:=hm
    cases hx
 simp only [iQ,List.mem_flatMap,List.mem_cons,List.not_mem_nil,or_false] at hk
 obtain⟨x,hx,hk⟩:=hk
 rcases hx with rfl|rfl|rfl|rfl|rfl|rfl|rfl|rfl
 ·exact .inl (key h1 hk)
 ·cases hk
 ·exact .inr (.inl (key h2 hk))
 ·exact .inr (.inr (.inl (key h3 hk)))
 ·cases hk
 ·cases hk
 ·exact .inr (.inr (.inr (key h4 hk)))
 ·cases hk
theorem ai.prog {c:Ctx}{f:FuncId}{lv:Key→LB}{K:AV→List (Key × LB)→List Key→Nat→Prop}(κ' kh a b d e:Key) (p:PD) (hp:p.ok) (ht:p.Fm) {x:AV}(hc:ah c.P c.G f [p.A] x) (hx:x.pure=true)
 (h1:lv a=lU 81 p.f) (h2:lv b=lU 67 p.ins) (h3:lv d=lU 55 p.nodes) (h4:lv e=lU 69 p.states) (hn:[a,b,d,e].Nodup) (hh:lv kh=.hole)
 (hK:∀ us,(∀ k,k≠a→k≠b→k≠d→k≠e→aW lv us k=lv k)→K x us [kh,a,b,d,e] κ'):ai c f [.agg (lP p a b d e)] lv K:=by
 obtain⟨Z,hZ⟩:∃ Z,Z=zS a 81 p.f++(zS b 67 p.ins++(zS d 55 p.nodes++zS e 69 p.states)):=⟨_,rfl⟩
 have hZk:Z.map (·.1)=(if p.f.isSome then [a] else [])++((if p.ins.isSome then [b] else [])++((if p.nodes.isSome then [d] else [])++(if p.states.isSome then [e] else []))):=by
  rw [hZ];simp only [List.map_append,Kg]
 simp only [List.nodup_cons,List.mem_cons,List.not_mem_nil,or_false,not_or,List.nodup_nil,and_true,not_false_eq_true] at hn
 obtain⟨⟨n1,n2,n3⟩,⟨n4,n5⟩,n6⟩:=hn
 have hsub:∀ k,k∈Z.map (·.1)→k=a∨k=b∨k=d∨k=e:=by
  intro k hk
  rw [hZk] at hk
  simp only [List.mem_append] at hk
  rcases hk with h|h|h|h <;> split at h <;> simp_all
 have hZn:(Z.map (·.1)).Nodup:=by
  rw [hZk]
  (repeat' split) <;> simp_all
 have hmem:∀ z∈Z,lv z.1=.cells true false z.2.1 z.2.2:=by
  have g:∀ {k E o},lv k=lU E o→∀ z∈zS k E o,lv z.1=.cells true false z.2.1 z.2.2:=by
   intro k E o h z hz
   cases o with
   | none=>cases hz
   | some es=>simp only [zS,List.mem_singleton] at hz;subst hz;exact h
  intro z hz
  rw [hZ] at hz
  simp only [List.mem_append] at hz
  rcases hz with h|h|h|h
  ·exact g h1 z h
  ·exact g h2 z h
  ·exact g h3 z h
  ·exact g h4 z h
 have q1:oP (aW lv (dc Z)) a 81 p.f:=pS h1 hZn (fun z hz=>by rw [hZ];simp [hz]) (fun h=>by rw [hZk,h];intro hk;simp only [List.mem_append] at hk;(rcases hk with h|h|h|h <;> split at h <;> simp_all))
 have q2:oP (aW lv (dc Z)) b 67 p.ins:=pS h2 hZn (fun z hz=>by rw [hZ];simp [hz]) (fun h=>by rw [hZk,h];intro hk;simp only [List.mem_append] at hk;(rcases hk with h|h|h|h <;> split at h <;> simp_all))
 have q3:oP (aW lv (dc Z)) d 55 p.nodes:=pS h3 hZn (fun z hz=>by rw [hZ];simp [hz]) (fun h=>by rw [hZk,h];intro hk;simp only [List.mem_append] at hk;(rcases hk with h|h|h|h <;> split at h <;> simp_all))
 have q4:oP (aW lv (dc Z)) e 69 p.states:=pS h4 hZn (fun z hz=>by rw [hZ];simp [hz]) (fun h=>by rw [hZk,h];intro hk;simp only [List.mem_append] at hk;(rcases hk with h|h|h|h <;> split at h <;> simp_all))
 refine ai.Y2 (us:=[p.A]) κ' kh Z [kh,a,b,d,e] hc hx hmem hZn hh rfl (fun i p' q'=>?_) (fun x hx k hk=>?_) (by simp) (hK _ fun k k1 k2 k3 k4=>?_)
 ·have hi:i=0:=by simp at p';omega
  subst hi
  right
  exact⟨_,F7 hp ht q1 q2 q3 q4,fun k hk=>by rw [hZk];exact hk⟩
 ·simp only [List.mem_singleton] at hx;subst hx
  left
  rcases GW q1 q2 q3 q4 hk with h|h|h|h <;> simp [h]
 ·refine bL ?_
  rw [fj]
  intro hk
  rcases hsub k hk with h|h|h|h
  ·exact k1 h
  ·exact k2 h
  ·exact k3 h
  ·exact k4 h
end Go.Am

namespace Go.Am
open Go.Am.Ty Go.Proofs N
def Gy (l:List Nd)(fs:List Int):Nat→List Nd
 | 0=>l
 | i+1=>(Gy l fs i).set i ((l.getD i default).Yz (fs.getD i 0))
def Ji (l:List In)(lo hi:List (List UInt8)):Nat→List In
 | 0=>l
 | i+1=>(Ji l lo hi i).set i ((l.getD i default).X3 (lo.getD i []) (hi.getD i []))
def PD.S1 (p:PD)(l:List Nd):PD:=⟨p.f,p.mode,p.ins,some (l.map Nd.e),p.head,p.tail,p.states,p.res⟩
def PD.SE (p:PD)(l:List In):PD:=⟨p.f,p.mode,if p.ins.isSome then some (l.map In.e) else none,p.nodes,p.head,p.tail,p.states,p.res⟩
theorem PD.ME (p:PD){i:Nat}(hi:i<p.N.length):p.N[i]=p.nd i:=by
 unfold PD.N PD.nd at *
 simp only [List.length_map] at hi
 rw [List.getElem_map,List.getD_eq_getElem?_getD,List.getElem?_eq_getElem hi];rfl
@[simp] theorem LB.Qc {own fz b:Bool}{T:TypeId}{cs:List CV}:(LB.cells own fz T cs).fix b=.cells (own || b) fz T cs:=rfl
@[simp] theorem fT (l:List Nd)(g:Key→Key):(ij l).map (CV.bt g)=ij l:=by
 unfold ij;rw [List.map_map];rfl
@[simp] theorem Vc (l:List In)(g:Key→Key):(Xy l).map (CV.bt g)=Xy l:=by
 unfold Xy;rw [List.map_map];rfl
def Zm (p:PD)(fs:List Int):PD × Int:=
 if (fI p).2.2≠0 then (m9,(fI p).2.2)
 else if fs.length≠p.nn then (m9,2)
 else if fs.all (fun f=>decide (0≤f∧f<(p.nf:Int)))=true then (S5 (p.S1 (Gy p.N fs p.nn)),(fI (p.S1 (Gy p.N fs p.nn))).2.2)
 else (m9,7)
theorem zw {p:PD}(h:gp p=0):∃ es,p.nodes=some es:=by
 have h1:p.nn≠0:=by
  intro h0
  unfold gp at h
  unfold PD.nn at h0
  rw [h0] at h
  split at h
  ·cases h
  ·simp at h
 cases e:p.nodes with
 | none=>exact absurd (by simp [PD.nn,e,sO]) h1
 | some es=>exact⟨es,rfl⟩
theorem au {lv:Key→LB}(h:gj lv) (k:Key):gj (aB lv k .nils):=by
 intro k' own es h';unfold aB at h';split at h'
 ·cases h'
 ·exact h _ _ _ h'
@[simp] theorem aQ {lv:Key→LB}(h:gj lv) (k:Key) (E:TypeId) (o:Option (List (List DV))):gj (aB lv k (lU E o)):=by
 cases o with
 | none=>intro k' own es h';simp only [lU,aB] at h';split at h';cases h';exact h _ _ _ h'
 | some es=>exact aN h k true false E (es.flatten.map CV.d)
end Go.Am

namespace Go.Am
open Go.Am.Ty Go.Proofs N
def tD (l:List (List UInt8)):List (List DV):=l.map fun s=>[DV.str s]
def tC:Option (List (List UInt8))→CV
 | none=>.d .nilsl
 | some l=>.d (.sl (tD l))
def tL (o:Option (List (List UInt8))):List (List UInt8):=o.getD []
@[simp] theorem W5 (o:Option (List (List UInt8))):(AV.c (tC o)).pure=true:=by cases o <;> rfl
@[simp] theorem Rq (o:Option (List (List UInt8))):(AV.c (tC o)).bD=true:=by cases o <;> rfl
@[simp] theorem Y6 (o:Option (List (List UInt8)))(g:Key→Key):(tC o).bt g=tC o:=by cases o <;> rfl
def ZC (p:PD)(lo hi:List (List UInt8)):PD × Int:=
 if (fI p).2.2≠0 then (m9,(fI p).2.2)
 else if lo.length≠p.ni∨hi.length≠p.ni then (m9,2)
 else (S5 (p.SE (Ji p.I lo hi p.ni)),(fI (p.SE (Ji p.I lo hi p.ni))).2.2)
end Go.Am

namespace Go.Am
open Go.Am.Ty Go.Proofs N
theorem Bs {p:PD}:∀ (n k:Nat),(dh p n k).2.2=0→(∀ j,k≤j→j<k+n→∀ i,i<iU p j→dR p j i=0)∧(0≤p.res∧p.res<p.nn∧lR p p.res≠1)
 | 0,k,h=>by
  refine⟨fun j h1 h2=>by omega,?_⟩
  by_cases hc:0≤p.res∧p.res<p.nn∧lR p p.res≠1
  ·exact hc
  ·have e:dh p 0 k=(5,0,7):=if_neg hc
   rw [e] at h;cases h
 | n+1,k,h=>by
  have e:dh p (n+1) k=match iL (dR p k) (iU p k) with|some i=>((k:Int)+1,(i:Int),dR p k i)|none=>dh p n (k+1):=rfl
  rw [e] at h
  cases hf:iL (dR p k) (iU p k) with
  | some i=>
   rw [hf] at h
   unfold iL at hf
   have:=List.find?_some hf
   exact absurd h (by simpa using this)
  | none=>
   rw [hf] at h
   obtain⟨h1,h2⟩:=Bs n (k+1) h
   refine⟨fun j g1 g2 i hi=>?_,h2⟩
   by_cases hj:j=k
   ·subst hj
    unfold iL at hf
    rw [List.find?_eq_none] at hf
    have:=hf i (List.mem_range.2 hi)
    simpa using this
   ·exact h1 j (by omega) (by omega) i hi
structure PD.good (p:PD):Prop where
 ok:p.ok
 gen:gp p=0
 Ri:∀ i,i<p.nf→m4 (p.fm i).1 (p.fm i).2=0
 ins:∀ i,i<p.ni→EE p (p.CX i)=0
 nodes:∀ i,i<p.nn→rM p i (p.nd i)=0
 states:∀ i,i<p.ns→FZ p i (p.st i)=0
 res:0≤p.res∧p.res<p.nn∧lR p p.res≠1
theorem qj {p:PD}(hp:p.ok) (h:(fI p).2.2=0):p.good:=by
 have hg:=E1 h
 have e:fI p=dh p 4 0:=by unfold fI;rw [if_neg (not_not_intro hg)]
 rw [e] at h
 obtain⟨h1,h2⟩:=Bs 4 0 h
 exact⟨hp,hg,h1 0 (by omega) (by omega),h1 1 (by omega) (by omega),h1 2 (by omega) (by omega),h1 3 (by omega) (by omega),h2⟩
theorem sub_self {p:PD}(hp:p.ok) (h:(fI p).2.2=0):TX p p.res=(p,0):=by
 have hg:=qj hp h
 unfold TX
 rw [if_neg (not_not_intro h),if_pos hg.res]
 rfl
end Go.Am

namespace Go.Am
open Go.Am.Ty Go.Proofs N
def jZ (p q:PD):Bool:=decide (p.mode=q.mode) && decide (p.head=q.head) && decide (p.tail=q.tail) && decide (p.res=q.res) &&
 tY (sO p.f) (sO q.f) && tY (sO p.ins) (sO q.ins) && tY (sO p.nodes) (sO q.nodes) && tY (sO p.states) (sO q.states)
theorem wD {e:List DV}(h:Cg e):rC e e=true:=by obtain⟨a,b,rfl⟩:=h;simp [rC,Wq]
theorem Fb {e:List DV}(h:Jo e):rC e e=true:=by obtain⟨a,b,c,rfl⟩:=h;simp [rC,Wq]
theorem F6 {e:List DV}(h:Hu e):rC e e=true:=by obtain⟨a1,a2,a3,a4,a5,a6,s,rfl⟩:=h;simp [rC,Wq]
theorem mH:∀ {l:List (List DV)},(∀ e∈l,rC e e=true)→tY l l=true
 | [],_=>rfl
 | a::l,h=>by simp only [tY,Bool.and_eq_true];exact⟨h a (List.mem_cons_self ..),mH fun e he=>h e (List.mem_cons_of_mem _ he)⟩
theorem uo {p:PD}(h:p.ok):jZ p p=true:=by
 simp [jZ,mH (fun e he=>wD (h.f e he)),mH (fun e he=>Fb (h.ins e he)),mH (fun e he=>F6 (h.nodes e he)),mH (fun e he=>wD (h.states e he))]
set_option maxHeartbeats 2000000 in
theorem EG (G:List (List DV))(p q:PD)(hp:p.ok)(hq:q.ok):ah Tryz.prog G 37 [p.A,q.A] (.c (.d (.bool (jZ p q)))):=by
 refine ah.aU Go.Proofs.Tryz.func37 rfl (by rw [Tryz.ntmps37];simp) ?_
 rintro⟨_,_,w0,F0,W0,_,bu,β0⟩ rfl rfl rfl
 refine AW.ag fun K hK=>?_
 refine AW.aa rfl ?_
 simp
 apply hK;clear hK K
 refine AW.ag fun K hK=>?_
 by_cases h1:p.mode=q.mode
 rotate_left
 ·refine AW.aa rfl ?_
  simp [h1]
  apply hK;clear hK K
  exact AW.ret (κ:=0) (aK.tmp (κ:=0) rfl 4 (by simp [jZ,h1]) (by first|rfl|simp) (by first|rfl|simp) (by first|rfl|simp))
 by_cases h2:p.head=q.head
 rotate_left
 ·refine AW.aa rfl ?_
  simp [h1,h2]
  apply hK;clear hK K
  exact AW.ret (κ:=0) (aK.tmp (κ:=0) rfl 4 (by simp [jZ,h2]) (by first|rfl|simp) (by first|rfl|simp) (by first|rfl|simp))
 by_cases h3:p.tail=q.tail
 rotate_left
 ·refine AW.aa rfl ?_
  simp [h1,h2,h3]
  apply hK;clear hK K
  exact AW.ret (κ:=0) (aK.tmp (κ:=0) rfl 4 (by simp [jZ,h3]) (by first|rfl|simp) (by first|rfl|simp) (by first|rfl|simp))
 by_cases h4:p.res=q.res
 rotate_left
 ·refine AW.aa rfl ?_
  simp [h1,h2,h3,h4]
  apply hK;clear hK K
  exact AW.ret (κ:=0) (aK.tmp (κ:=0) rfl 4 (by simp [jZ,h4]) (by first|rfl|simp) (by first|rfl|simp) (by first|rfl|simp))
 refine AW.aa rfl ?_
 simp [h1,h2,h3,h4]
 refine ai.pure 2 7 (B1 _ _ _ hp.f hq.f) (by simp) (by simp) rfl ?_
 by_cases f1:tY (sO p.f) (sO q.f)=true
 rotate_left
 ·simp [f1]
  apply hK;clear hK K
  exact AW.ret (κ:=0) (aK.tmp (κ:=0) rfl 4 (by simp [jZ,f1]) (by first|rfl|simp) (by first|rfl|simp) (by first|rfl|simp))
 simp [f1]
 refine ai.pure 2 7 (Bo _ _ _ hp.ins hq.ins) (by simp) (by simp) rfl ?_
 by_cases f2:tY (sO p.ins) (sO q.ins)=true
 rotate_left
 ·simp [f2]
  apply hK;clear hK K
  exact AW.ret (κ:=0) (aK.tmp (κ:=0) rfl 4 (by simp [jZ,f2]) (by first|rfl|simp) (by first|rfl|simp) (by first|rfl|simp))
 simp [f2]
 refine ai.pure 2 7 (BQ _ _ _ hp.nodes hq.nodes) (by simp) (by simp) rfl ?_
 by_cases f3:tY (sO p.nodes) (sO q.nodes)=true
 rotate_left
 ·simp [f3]
  apply hK;clear hK K
  exact AW.ret (κ:=0) (aK.tmp (κ:=0) rfl 4 (by simp [jZ,f3]) (by first|rfl|simp) (by first|rfl|simp) (by first|rfl|simp))
 simp [f3]
 refine ai.pure 2 7 (B5 _ _ _ hp.states hq.states) (by simp) (by simp) rfl ?_
 simp
 apply hK;clear hK K
 exact AW.ret (κ:=0) (aK.tmp (κ:=0) rfl 4 (by simp [jZ,h1,h2,h3,h4,f1,f2,f3]) (by first|rfl|simp) (by first|rfl|simp) (by first|rfl|simp))
end Go.Am

namespace Go.Am
open Go.Am.Ty Go.Proofs N
theorem LO (own fz:Bool)(T:TypeId)(l:List DV)(g:Key→Key):(LB.cells own fz T (l.map CV.d)).like (.cells own fz T (l.map CV.d)) g:=LB.vt.2 ⟨rfl,rfl,by rw [List.map_map];rfl,id⟩
theorem Ij (T:TypeId)(p:PD)(g:Key→Key):(LB.cells true false T p.cs).like (.cells true false T p.cs) g:=by
 rw [← uJ];exact LO ..
def tK (l:List (List UInt8)):List CV:=l.map fun s=>CV.d (.str s)
def zB (l:List Int):LB:=if l=[] then .hole else .cells true false 3 (zK l)
def ZS (k:Key)(l:List Int):AV:=if l=[] then .c (.d .nilsl) else .c (.aJ k 0 l.length 1)
def tB (l:List (List UInt8)):LB:=if l=[] then .hole else .cells true false 53 (tK l)
def ZQ (k:Key)(l:List (List UInt8)):AV:=if l=[] then .c (.d .nilsl) else .c (.aJ k 0 l.length 1)
theorem jf {lv:Key→LB}{k:Key}(h:lv k=.hole):aB lv k .hole=lv:=by
 funext j
 unfold aB
 split
 ·rename_i e;rw [e,h]
 ·rfl
end Go.Am

namespace Go.Am
open Go.Am.Ty Go.Proofs N
def nv (l:List Int)(kk i j:Nat)(x:Int):Int:=if j<i∧j<kk then l.getD x.toNat 0 else x
def Nd.T7 (n:Nd)(l:List Int)(i:Nat):Nd:=⟨n.op,nv l (bN n.op) i 0 n.a,nv l (bN n.op) i 1 n.b,nv l (bN n.op) i 2 n.c,nv l (bN n.op) i 3 n.d,n.f,n.v⟩
def Nd.iO (n:Nd)(l:List Int):Nd:=n.T7 l 4
theorem DZ (l:List Int)(kk i j:Nat)(x:Int)(h:j≠i):nv l kk (i+1) j x=nv l kk i j x:=by
 unfold nv
 by_cases h1:j<i∧j<kk
 ·rw [if_pos h1,if_pos ⟨by omega,h1.2⟩]
 ·rw [if_neg h1,if_neg (by omega)]
theorem Kn (l:List Int)(kk j:Nat)(x:Int):nv l kk 0 j x=x:=by unfold nv;rw [if_neg (by omega)]
theorem La (f:Key→LB)(x y z x':LB):aB (aB (aB (aB f 1000 x) 1001 y) 1002 z) 1000 x'=aB (aB (aB f 1000 x') 1001 y) 1002 z:=by
 funext k
 simp only [aB]
 by_cases h1:k=1000
 ·subst h1;rfl
 ·simp [h1]
theorem MO (a b c d e f g:CV):eC Tryz.prog 55 [a,b,c,d,e,f,g]=some (.agg [a,b,c,d,e,f,g]):=by kernel_rfl
abbrev bZ (l:List Int):LB:=.cells false false 3 (zK l)
theorem DM (b:LB):aV [b] []=aB (fun _=>.hole) 0 b:=tS b
theorem UM (lv:Key→LB)(κ:Key)(h:lv κ=.hole)(a b c d:CV):aE Tryz.prog 220 4 [0,1,2,3] lv κ [.c a,.c b,.c c,.c d]=some (.c (.aJ κ 0 4 1),[(κ,.cells true false 219 [a,b,c,d])],[],True):=by
 unfold aE;rw [h];kernel_rfl
set_option maxHeartbeats 4000000 in
theorem G9 (m:Int)(n:Nd)(h1:1≤n.op)(h2:n.op≤15)(l:List Int)(hl:l.length≤1000)(hk:∀ x∈cz n,0≤x∧x<l.length) :
 aC Tryz.prog (GG m) 80 [n.A,.c (.aJ 0 0 l.length 1)] [bZ l] (.ret (n.iO l).A [bZ l] []):=by
 obtain⟨rest,hix⟩:=Xq h1 h2
 have hkl:cz n=n.l4.take (bN n.op):=by unfold cz;rw [if_pos ⟨h1,h2⟩]
 rw [hkl] at hk
 have hle:=kq n.op
 have hren:∀ i,n.T7 l i=⟨n.op,nv l (bN n.op) i 0 n.a,nv l (bN n.op) i 1 n.b,nv l (bN n.op) i 2 n.c,nv l (bN n.op) i 3 n.d,n.f,n.v⟩:=fun i=>rfl
 unfold Nd.iO
 simp only [hren]
 clear hren
 generalize bN n.op=kk at *
 refine aC.Gp Go.Proofs.Tryz.func80 rfl (by rw [Tryz.ntmps80];simp) ?_
 rintro⟨_,_,w0,F0,W0,_,bu,β0⟩ rfl rfl rfl hlv0
 simp only at hlv0
 rw [DM] at hlv0 ⊢
 refine AW.ag fun K hK=>?_
 refine AW.aa rfl ?_
 simp
 apply hK;clear hK K
 refine AW.ag fun K hK=>?_
 refine AW.ag fun K1 hK1=>?_
 have hbs:∀ (lv:Key→LB) (h:lv 1002=.hole) (a b c d:CV),aE Tryz.prog 220 4 [0,1,2,3] lv 1002 [.c a,.c b,.c c,.c d]=some (.c (.aJ 1002 0 4 1),[(1002,.cells true false 219 [a,b,c,d])],[],True):=fun lv h a b c d=>UM lv 1002 h a b c d
 refine AW.aa rfl ?_
 simp [hbs,-aE]
 apply hK1;clear hK1 K1
 refine AW.block ?_
 refine AW.b9 (fun (i:Nat)=>⟨bp [(1,.c (.aJ 0 0 l.length 1)),(2,.c (.ptr 1000 0)),(4,.c (.ptr 1001 0)),(11,.c (.aJ 1002 0 4 1)),(12,.c (.d (.int .i64 4))),(13,.c (.d (.int .i64 i)))],
  aB (aB (aB (aB (fun _=>.hole) 0 (bZ l)) 1000 (.cells true false 55 ((⟨n.op,nv l kk i 0 n.a,nv l kk i 1 n.b,nv l kk i 2 n.c,nv l kk i 3 n.d,n.f,n.v⟩:Nd).e.map CV.d))) 1001 (.cells true false 55 ((⟨0,0,0,0,0,0,[]⟩:Nd).e.map CV.d))) 1002 (.cells true false 219 [.ptr 1000 1,.ptr 1000 2,.ptr 1000 3,.ptr 1000 4])⟩) 1003
  (fun i=>i≤4) (fun i=>4 - i) 0 (Le.mk' _ (by simp [Kn]) (by repeat (first|exact aL|refine aN ?_ _ _ _ _ _|(refine aq ?_ _)|(refine aQ ?_ _ _ _)|(refine au ?_ _)|simp)) (by simp)) (Nat.zero_le _) ?_
 rintro i hi
 try simp only at hi
 refine AW.ag fun K3 hK3=>?_
 refine AW.aa rfl ?_
 simp
 apply hK3;clear hK3 K3
 refine AW.ag fun K2 hK2=>?_
 by_cases hlt:i<4
 ·have hlt':(i:Int)<4:=by omega
  refine AW.cond (b:=true) (by first|(simp [hlt,hlt'];done)|(simp [hlt,hlt'];omega)) ?_
  refine AW.skip ?_
  simp
  apply hK2
  refine AW.ag fun K3 hK3=>?_
  refine AW.block ?_
  refine AW.ag fun K4 hK4=>?_
  have hc4:i=0∨i=1∨i=2∨i=3:=by omega
  rcases hc4 with rfl|rfl|rfl|rfl
  ·
   refine AW.aa rfl ?_
   simp [aj]
   apply hK4;clear hK4 K4
   have hw:=cX (n:=1) (by omega) (by omega)
   have nve:∀ k x,k≠0→nv l kk 1 k x=nv l kk 0 k x:=fun k x h=>DZ l kk 0 k x h
   have eo:nv l kk 0 0 n.a=n.a:=by unfold nv;rw [if_neg (by omega)]
   by_cases hjk:0<kk
   ·have hjk':(0:Int)<(kk:Int):=by omega
    have hm:=hk n.a (by
     rw [List.mem_take_iff_getElem]
     exact⟨0,by rw [Nd.jq];omega,rfl⟩)
    obtain⟨q,hq⟩:∃ q:Nat,n.a=q:=⟨n.a.toNat,by omega⟩
    have hql:q<l.length:=by rw [hq] at hm;omega
    have hql':(q:Int)<(l.length:Int):=by omega
    have hld:=jb (P:=Tryz.prog) (T:=3) (by simp) hql
    have en:nv l kk 1 0 n.a=l[q]:=by unfold nv;rw [if_pos (by omega),hq,Int.toNat_natCast,List.getD_eq_getElem?_getD,List.getElem?_eq_getElem hql];rfl
    have eo2:nv l kk 0 0 n.a=(q:Int):=by rw [eo,hq]
    refine AW.ag fun K5 hK5=>?_
    refine AW.aa rfl ?_
    simp [Gz,hix,hjk']
    apply hK5;clear hK5 K5
    refine AW.cond (b:=true) (by first|(simp [];done)|(simp [];omega)) ?_
    refine AW.aa rfl ?_
    simp [eo2,hql',hld,aj]
    apply hK3;clear hK3 K3
    refine AW.aa rfl ?_
    simp
    refine⟨1,Le.mk' _ (by simp [nve,en,La]) (by repeat (first|exact aL|refine aN ?_ _ _ _ _ _|(refine aq ?_ _)|(refine aQ ?_ _ _ _)|(refine au ?_ _)|simp)) (by simp [hw]),by omega,by omega⟩
   ·refine AW.ag fun K5 hK5=>?_
    have hjk':¬ (0:Int)<(kk:Int):=by omega
    have en:nv l kk 1 0 n.a=n.a:=by unfold nv;rw [if_neg (by omega)]
    refine AW.aa rfl ?_
    simp [Gz,hix,hjk']
    apply hK5;clear hK5 K5
    refine AW.cond (b:=false) (by first|(simp [];done)|(simp [];omega)) ?_
    refine AW.skip ?_
    simp
    apply hK3
    refine AW.aa rfl ?_
    simp
    refine⟨1,Le.mk' _ (by simp [nve,en,eo]) (by repeat (first|exact aL|refine aN ?_ _ _ _ _ _|(refine aq ?_ _)|(refine aQ ?_ _ _ _)|(refine au ?_ _)|simp)) (by simp [hw]),by omega,by omega⟩
  ·
   refine AW.aa rfl ?_
   simp [aj]
   apply hK4;clear hK4 K4
   have hw:=cX (n:=2) (by omega) (by omega)
   have nve:∀ k x,k≠1→nv l kk 2 k x=nv l kk 1 k x:=fun k x h=>DZ l kk 1 k x h
   have eo:nv l kk 1 1 n.b=n.b:=by unfold nv;rw [if_neg (by omega)]
   by_cases hjk:1<kk
   ·have hjk':(1:Int)<(kk:Int):=by omega
    have hm:=hk n.b (by
     rw [List.mem_take_iff_getElem]
     exact⟨1,by rw [Nd.jq];omega,rfl⟩)
    obtain⟨q,hq⟩:∃ q:Nat,n.b=q:=⟨n.b.toNat,by omega⟩
    have hql:q<l.length:=by rw [hq] at hm;omega
    have hql':(q:Int)<(l.length:Int):=by omega
    have hld:=jb (P:=Tryz.prog) (T:=3) (by simp) hql
    have en:nv l kk 2 1 n.b=l[q]:=by unfold nv;rw [if_pos (by omega),hq,Int.toNat_natCast,List.getD_eq_getElem?_getD,List.getElem?_eq_getElem hql];rfl
    have eo2:nv l kk 1 1 n.b=(q:Int):=by rw [eo,hq]
    refine AW.ag fun K5 hK5=>?_
    refine AW.aa rfl ?_
    simp [Gz,hix,hjk']
    apply hK5;clear hK5 K5
    refine AW.cond (b:=true) (by first|(simp [];done)|(simp [];omega)) ?_
    refine AW.aa rfl ?_
    simp [eo2,hql',hld,aj]
    apply hK3;clear hK3 K3
    refine AW.aa rfl ?_
    simp
    refine⟨2,Le.mk' _ (by simp [nve,en,La]) (by repeat (first|exact aL|refine aN ?_ _ _ _ _ _|(refine aq ?_ _)|(refine aQ ?_ _ _ _)|(refine au ?_ _)|simp)) (by simp [hw]),by omega,by omega⟩
   ·refine AW.ag fun K5 hK5=>?_
    have hjk':¬ (1:Int)<(kk:Int):=by omega
    have en:nv l kk 2 1 n.b=n.b:=by unfold nv;rw [if_neg (by omega)]
    refine AW.aa rfl ?_
    simp [Gz,hix,hjk']
    apply hK5;clear hK5 K5
    refine AW.cond (b:=false) (by first|(simp [];done)|(simp [];omega)) ?_
    refine AW.skip ?_
    simp
    apply hK3
    refine AW.aa rfl ?_
    simp
    refine⟨2,Le.mk' _ (by simp [nve,en,eo]) (by repeat (first|exact aL|refine aN ?_ _ _ _ _ _|(refine aq ?_ _)|(refine aQ ?_ _ _ _)|(refine au ?_ _)|simp)) (by simp [hw]),by omega,by omega⟩
  ·
   refine AW.aa rfl ?_
   simp [aj]
   apply hK4;clear hK4 K4
   have hw:=cX (n:=3) (by omega) (by omega)
   have nve:∀ k x,k≠2→nv l kk 3 k x=nv l kk 2 k x:=fun k x h=>DZ l kk 2 k x h
   have eo:nv l kk 2 2 n.c=n.c:=by unfold nv;rw [if_neg (by omega)]
   by_cases hjk:2<kk
   ·have hjk':(2:Int)<(kk:Int):=by omega
    have hm:=hk n.c (by
     rw [List.mem_take_iff_getElem]
     exact⟨2,by rw [Nd.jq];omega,rfl⟩)
    obtain⟨q,hq⟩:∃ q:Nat,n.c=q:=⟨n.c.toNat,by omega⟩
    have hql:q<l.length:=by rw [hq] at hm;omega
    have hql':(q:Int)<(l.length:Int):=by omega
    have hld:=jb (P:=Tryz.prog) (T:=3) (by simp) hql
    have en:nv l kk 3 2 n.c=l[q]:=by unfold nv;rw [if_pos (by omega),hq,Int.toNat_natCast,List.getD_eq_getElem?_getD,List.getElem?_eq_getElem hql];rfl
    have eo2:nv l kk 2 2 n.c=(q:Int):=by rw [eo,hq]
    refine AW.ag fun K5 hK5=>?_
    refine AW.aa rfl ?_
    simp [Gz,hix,hjk']
    apply hK5;clear hK5 K5
    refine AW.cond (b:=true) (by first|(simp [];done)|(simp [];omega)) ?_
    refine AW.aa rfl ?_
    simp [eo2,hql',hld,aj]
    apply hK3;clear hK3 K3
    refine AW.aa rfl ?_
    simp
    refine⟨3,Le.mk' _ (by simp [nve,en,La]) (by repeat (first|exact aL|refine aN ?_ _ _ _ _ _|(refine aq ?_ _)|(refine aQ ?_ _ _ _)|(refine au ?_ _)|simp)) (by simp [hw]),by omega,by omega⟩
   ·refine AW.ag fun K5 hK5=>?_
    have hjk':¬ (2:Int)<(kk:Int):=by omega
    have en:nv l kk 3 2 n.c=n.c:=by unfold nv;rw [if_neg (by omega)]
    refine AW.aa rfl ?_
    simp [Gz,hix,hjk']
    apply hK5;clear hK5 K5
    refine AW.cond (b:=false) (by first|(simp [];done)|(simp [];omega)) ?_
    refine AW.skip ?_
    simp
    apply hK3
    refine AW.aa rfl ?_
    simp
    refine⟨3,Le.mk' _ (by simp [nve,en,eo]) (by repeat (first|exact aL|refine aN ?_ _ _ _ _ _|(refine aq ?_ _)|(refine aQ ?_ _ _ _)|(refine au ?_ _)|simp)) (by simp [hw]),by omega,by omega⟩
  ·
   refine AW.aa rfl ?_
   simp [aj]
   apply hK4;clear hK4 K4
   have hw:=cX (n:=4) (by omega) (by omega)
   have nve:∀ k x,k≠3→nv l kk 4 k x=nv l kk 3 k x:=fun k x h=>DZ l kk 3 k x h
   have eo:nv l kk 3 3 n.d=n.d:=by unfold nv;rw [if_neg (by omega)]
   by_cases hjk:3<kk
   ·have hjk':(3:Int)<(kk:Int):=by omega
    have hm:=hk n.d (by
     rw [List.mem_take_iff_getElem]
     exact⟨3,by rw [Nd.jq];omega,rfl⟩)
    obtain⟨q,hq⟩:∃ q:Nat,n.d=q:=⟨n.d.toNat,by omega⟩
    have hql:q<l.length:=by rw [hq] at hm;omega
    have hql':(q:Int)<(l.length:Int):=by omega
    have hld:=jb (P:=Tryz.prog) (T:=3) (by simp) hql
    have en:nv l kk 4 3 n.d=l[q]:=by unfold nv;rw [if_pos (by omega),hq,Int.toNat_natCast,List.getD_eq_getElem?_getD,List.getElem?_eq_getElem hql];rfl
    have eo2:nv l kk 3 3 n.d=(q:Int):=by rw [eo,hq]
    refine AW.ag fun K5 hK5=>?_
    refine AW.aa rfl ?_
    simp [Gz,hix,hjk']
    apply hK5;clear hK5 K5
    refine AW.cond (b:=true) (by first|(simp [];done)|(simp [];omega)) ?_
    refine AW.aa rfl ?_
    simp [eo2,hql',hld,aj]
    apply hK3;clear hK3 K3
    refine AW.aa rfl ?_
    simp
    refine⟨4,Le.mk' _ (by simp [nve,en,La]) (by repeat (first|exact aL|refine aN ?_ _ _ _ _ _|(refine aq ?_ _)|(refine aQ ?_ _ _ _)|(refine au ?_ _)|simp)) (by simp [hw]),by omega,by omega⟩
   ·refine AW.ag fun K5 hK5=>?_
    have hjk':¬ (3:Int)<(kk:Int):=by omega
    have en:nv l kk 4 3 n.d=n.d:=by unfold nv;rw [if_neg (by omega)]
    refine AW.aa rfl ?_
    simp [Gz,hix,hjk']
    apply hK5;clear hK5 K5
    refine AW.cond (b:=false) (by first|(simp [];done)|(simp [];omega)) ?_
    refine AW.skip ?_
    simp
    apply hK3
    refine AW.aa rfl ?_
    simp
    refine⟨4,Le.mk' _ (by simp [nve,en,eo]) (by repeat (first|exact aL|refine aN ?_ _ _ _ _ _|(refine aq ?_ _)|(refine aQ ?_ _ _ _)|(refine au ?_ _)|simp)) (by simp [hw]),by omega,by omega⟩
 have hi4:i=4:=by omega
 subst hi4
 refine AW.cond (b:=false) (by first|(simp [];done)|(simp [];omega)) ?_
 refine AW.exit ?_
 simp
 apply hK
 refine AW.ag fun K9 hK9=>?_
 refine AW.aa rfl ?_
 simp [aj]
 apply hK9;clear hK9 K9
 refine AW.ret ?_
 refine⟨[(0,0,bZ l)],9,?_,by simp,by simp,by simp,?_,?_,rfl,?_⟩
 ·rw [DM];rfl
 ·intro k hk
  simp only [hlv0,aB] at hk
  split at hk
  ·rename_i h0;subst h0;exact .inr (by simp [cH])
  ·exact absurd rfl hk
 ·intro e he
  simp only [List.mem_cons,List.not_mem_nil,or_false] at he
  subst he
  show (LB.cells false false 3 (zK l)).like (.cells false false 3 (zK l)) _
  rw [Cn];exact LO ..
 ·simp [Tryz.f80,cq,iB,j8,MO]
end Go.Am

namespace Go.Am
open Go.Am.Ty Go.Proofs N
def iz (p:PD)(now:List Int)(s:List Int × List Nd)(i:Nat):List Int × List Nd:=
 if (p.nd i).op=2 then (s.1.set i (now.getD (p.nd i).a.toNat 0),s.2)
 else (s.1.set i s.2.length,s.2++[(p.nd i).iO (s.1.set i s.2.length)])
def ey (p:PD)(now:List Int)(s:List Int × List Nd)(i k:Nat):List Int × List Nd:=(List.range' i k).foldl (iz p now) s
theorem FF (p:PD)(now:List Int)(s:List Int × List Nd)(i:Nat):(iz p now s i).1.length=s.1.length:=by unfold iz;split <;> simp
theorem He (p:PD)(now:List Int)(s:List Int × List Nd)(i:Nat):s.2.length≤(iz p now s i).2.length∧(iz p now s i).2.length≤s.2.length+1:=by unfold iz;split <;> simp
theorem hJ (p:PD)(now:List Int)(s:List Int × List Nd)(i k:Nat):ey p now s i (k+1)=iz p now (ey p now s i k) (i+k):=by
 unfold ey;rw [List.range'_concat,List.foldl_append];simp
theorem mw (p:PD)(now:List Int)(s:List Int × List Nd)(i k:Nat):(ey p now s i k).1.length=s.1.length:=by
 induction k with
 | zero=>rfl
 | succ k ih=>rw [hJ,FF,ih]
theorem nB (p:PD)(now:List Int)(s:List Int × List Nd)(i k:Nat):s.2.length≤(ey p now s i k).2.length∧(ey p now s i k).2.length≤s.2.length+k:=by
 induction k with
 | zero=>exact⟨Nat.le_refl _,Nat.le_refl _⟩
 | succ k ih=>rw [hJ];have:=He p now (ey p now s i k) (i+k);omega
abbrev qC (p:PD)(v:CV):List CV:=[dg p.f,.d (.int .i64 p.mode),dg p.ins,v,.d (.int .i64 p.head),.d (.int .i64 p.tail),.d .nilsl,.d (.int .i64 p.res)]
def qS (k:Key)(L:List Nd):CV:=if L=[] then .d .nilsl else .aJ k 0 L.length 7
def qB (L:List Nd):LB:=if L=[] then .hole else .cells false false 55 (ij L)
def rV (L0 L:List Nd):CV:=if L.length=L0.length then qS 6 L else .aJ 7 0 L.length 7
def r6 (L0 L:List Nd):LB:=if L.length=L0.length then qB L else if L0=[] then .hole else .dead
def r7 (L0 L:List Nd):LB:=if L.length=L0.length then .hole else .cells false false 55 (ij L)
abbrev KJ (p:PD)(now at':List Int)(v:CV)(b6 b7:LB):Key→LB:=
 aB (aB (aB (aB (aB (aB (aB (aB (fun _=>.hole) 0 (.cells false false 27 p.cs)) 1 (.cells false false 30 [.aJ 4 0 now.length 1])) 2 (.cells false false 30 [.aJ 5 0 at'.length 1])) 3 (.cells false false 27 (qC p v))) 4 (bZ now)) 5 (bZ at')) 6 b6) 7 b7
theorem cn (l:List Int)(g:Key→Key):(zK l).map (CV.bt g)=zK l:=by rw [Cn,List.map_map];rfl
theorem tu (n:Nd):(ij [n]).length=7:=by rw [nu];rfl
theorem CK (n:Nd):List.take 7 (ij [n])=ij [n]:=List.take_of_length_le (by rw [tu];exact Nat.le_refl _)
theorem Ew (L M:List Nd):ij (L++M)=ij L++ij M:=by unfold ij;rw [List.flatMap_append,List.map_append]
theorem CW {L0 L:List Nd}(h:L0.length≤L.length) (n:Nd):rV L0 (L++[n])=.aJ 7 0 (L.length+1) 7:=by
 unfold rV;rw [if_neg (by simp;omega)];simp
theorem C0 {L0 L:List Nd}(h:L0.length≤L.length) (n:Nd):r7 L0 (L++[n])=.cells false false 55 (ij (L++[n])):=by
 unfold r7;rw [if_neg (by simp;omega)]
theorem CB {L0 L:List Nd}(h:L0.length≤L.length) (n:Nd):r6 L0 (L++[n])=if L0=[] then .hole else .dead:=by
 unfold r6;rw [if_neg (by simp;omega)]
theorem ai.Hp {c:Ctx}{f:FuncId}{lv:Key→LB}{K:AV→List (Key × LB)→List Key→Nat→Prop}(κ' kh k:Key) {own:Bool}{l:List Int}{n:Nat}{x0 x:AV}(hc:aC c.P c.G f [x0,.c (.aJ 0 0 n 1)] [bZ l] (.ret x [bZ l] [])) (hx:x.pure=true) (hx0:x0.pure=true)
 (hk:lv k=.cells own false 3 (zK l)) (hh:lv kh=.hole) (hkk:kh≠k) (hK:K x [(k,.cells own false 3 (zK l))] [kh,k] κ'):ai c f [x0,.c (.aJ k 0 n 1)] lv K:=by
 refine ai.Mk κ' kh own [k] [bZ l] [bZ l] [kh,k] hc (by simp) (by simpa using hkk) rfl rfl (by simp) (fun i p q=>?_) hh (by simp [LB.pass]) (by simp) (fun ho k' hk'=>?_) rfl (fun i p q=>?_) (fun a ha j hj=>?_) (by simp) ?_
 ·have hi:i=0:=by simp at p;omega
  subst hi
  exact⟨own,zK l,hk,(cn l _).symm,fun h=>by cases h⟩
 ·simp only [List.mem_cons,List.not_mem_nil,or_false] at hk'
  subst hk';rw [hk];exact ho
 ·have hi:i=0∨i=1:=by simp at p;omega
  rcases hi with rfl|rfl
  ·exact⟨AV.bM hx0,(AV.bg hx0 _).symm⟩
  ·exact⟨rfl,rfl⟩
 ·simp only [List.mem_cons,List.not_mem_nil,or_false] at ha
  rcases ha with rfl|rfl
  ·rw [dm hx0] at hj;cases hj
  ·simp only [iQ,gq,hk,List.mem_cons,List.mem_flatMap] at hj
   rcases hj with rfl|⟨y,hy,hj⟩
   ·simp
   ·unfold zK at hy;rw [List.mem_map] at hy;obtain⟨z,_,rfl⟩:=hy;cases hj
 ·rw [AV.bg hx]
  have e:bA (aF [k] [] kh) own [k] [bZ l]=[(k,.cells own false 3 (zK l))]:=by
   simp only [bA,List.zipWith_cons_cons,List.zipWith_nil_left,LB.jc,cn,LB.fix,Bool.false_or]
  rw [e];exact hK
theorem SK (lv:Key→LB)(κ:Key)(h:lv κ=.hole)(n:Nd):aE Tryz.prog 24 1 [0] lv κ [n.A]=some (.c (.aJ κ 0 1 7),[(κ,.cells true false 55 (ij [n]))],[],True):=by
 unfold aE;rw [h];kernel_rfl
theorem DO {lv:Key→LB}(h:gj lv) {b:LB}(hb:∀ own es,b≠.map own es) (k:Key):gj (aB lv k b):=by
 intro k' own es h';unfold aB at h';split at h'
 ·exact hb _ _ h'
 ·exact h _ _ _ h'
theorem Rt (L:List Nd):∀ own es,qB L≠.map own es:=by intro own es h;unfold qB at h;split at h <;> cases h
theorem Ob (p:PD)(now av:List Int)(v:CV){b6 b7:LB}(h6:∀ own es,b6≠.map own es) (h7:∀ own es,b7≠.map own es):gj (KJ p now av v b6 b7):=by
 refine DO (DO ?_ h6 _) h7 _
 repeat (first|exact aL|refine aN ?_ _ _ _ _ _)
theorem Av (L:List Nd)(g:Key→Key):(LB.cells false false 55 (ij L)).like (.cells false false 55 (ij L)) g:=⟨false,_,rfl,(fT L g).symm,id⟩
theorem J3 (L:List Nd)(g:Key→Key):(qB L).like (qB L) g:=by
 unfold qB;split
 ·rfl
 ·exact Av L g
theorem yG (L0 L:List Nd)(g:Key→Key):(r6 L0 L).like (r6 L0 L) g:=by
 unfold r6;split
 ·exact J3 L g
 ·split
  ·rfl
  ·exact fun h=>by cases h
theorem D5 (L0 L:List Nd)(g:Key→Key):(r7 L0 L).like (r7 L0 L) g:=by
 unfold r7;split
 ·rfl
 ·exact Av L g
def rO (L0 L:List Nd):CV:=if L.length=L0.length then qS 6 L else .aJ 1000 0 L.length 7
abbrev Y9 (p:PD)(now at':List Int)(v:CV)(b6 b7:LB):Key→LB:=
 aB (aB (aB (aB (aB (aB (aB (aB (fun _=>.hole) 0 (.cells false false 27 p.cs)) 1 (.cells false false 30 [.aJ 4 0 now.length 1])) 2 (.cells false false 30 [.aJ 5 0 at'.length 1])) 3 (.cells false false 27 (qC p v))) 4 (bZ now)) 5 (bZ at')) 6 b6) 1000 b7
def g10:Key→Key:=fun k=>if k=0 then 0 else if k=1 then 1 else if k=2 then 2 else if k=3 then 3 else if k=4 then 4 else if k=5 then 5 else if k=6 then 6 else if k=1000 then 7 else 9
theorem Hr (a b d e f g h i:LB):cH [(0,0,a),(1,1,b),(2,2,d),(3,3,e),(4,4,f),(5,5,g),(6,6,h),(1000,7,i)] 9=g10:=by
 funext k
 unfold g10
 by_cases h0:k=0
 ·subst h0;rfl
 by_cases h1:k=1
 ·subst h1;rfl
 by_cases h2:k=2
 ·subst h2;rfl
 by_cases h3:k=3
 ·subst h3;rfl
 by_cases h4:k=4
 ·subst h4;rfl
 by_cases h5:k=5
 ·subst h5;rfl
 by_cases h6:k=6
 ·subst h6;rfl
 by_cases h7:k=1000
 ·subst h7;rfl
 rw [if_neg h0,if_neg h1,if_neg h2,if_neg h3,if_neg h4,if_neg h5,if_neg h6,if_neg h7]
 have e:∀ j:Key,k≠j→(j == k)=false:=fun j hj=>by simpa using fun h=>hj h.symm
 simp [cH,List.find?,e _ h0,e _ h1,e _ h2,e _ h3,e _ h4,e _ h5,e _ h6,e _ h7]
theorem MV (L0 L:List Nd):(rO L0 L).bt g10=rV L0 L:=by
 unfold rO rV qS;split
 ·split <;> rfl
 ·rfl
def g7 (k7:Key):Key→Key:=fun k=>if k=0 then 0 else if k=1 then 1 else if k=2 then 2 else if k=3 then 3 else if k=4 then 4 else if k=5 then 5 else if k=6 then 6 else if k=7 then k7 else 9
theorem J7 (k7:Key)(a b d e f g h i:LB):cH [(0,0,a),(1,1,b),(2,2,d),(3,3,e),(4,4,f),(5,5,g),(6,6,h),(7,k7,i)] 9=g7 k7:=by
 funext k
 unfold g7
 by_cases h0:k=0
 ·subst h0;rfl
 by_cases h1:k=1
 ·subst h1;rfl
 by_cases h2:k=2
 ·subst h2;rfl
 by_cases h3:k=3
 ·subst h3;rfl
 by_cases h4:k=4
 ·subst h4;rfl
 by_cases h5:k=5
 ·subst h5;rfl
 by_cases h6:k=6
 ·subst h6;rfl
 by_cases h7:k=7
 ·subst h7;rfl
 rw [if_neg h0,if_neg h1,if_neg h2,if_neg h3,if_neg h4,if_neg h5,if_neg h6,if_neg h7]
 have e:∀ j:Key,k≠j→(j == k)=false:=fun j hj=>by simpa using fun h=>hj h.symm
 simp [cH,List.find?,e _ h0,e _ h1,e _ h2,e _ h3,e _ h4,e _ h5,e _ h6,e _ h7]
theorem gN (p:PD)(g:Key→Key):p.cs.map (CV.bt g)=p.cs:=by
 rw [← uJ,List.map_map];rfl
theorem OS (L0 L:List Nd):(rV L0 L).bt (g7 7)=rV L0 L:=by
 unfold rV qS;split
 ·split <;> rfl
 ·rfl
theorem ve (l:List Int)(i:Nat)(x:Int)(h:i<l.length):aj (zK l) i [CV.d (.int .i64 x)]=zK (l.set i x):=by
 unfold aj zK
 rw [List.set_eq_take_append_cons_drop,if_pos h]
 simp [List.map_take,List.map_drop]
theorem VB {c:Ctx}{fr:Nat→AV}{lv:Key→LB}{p:PD}{now fC av:List Int}{v0:CV}{b60:LB}(v v':CV) (b6 b7:LB) (k7:Key) (l:List (Nat × AV)) (hl0:c.bu=KJ p now fC v0 b60 .hole) (hk7:([0,1,2,3,4,5,6,k7]:List Key).Nodup)
 (h0:lv 0=.cells false false 27 p.cs) (h1:lv 1=.cells false false 30 [.aJ 4 0 now.length 1]) (h2:lv 2=.cells false false 30 [.aJ 5 0 av.length 1]) (h3:lv 3=.cells false false 27 (qC p v')) (h4:lv 4=bZ now) (h5:lv 5=bZ av)
 (h6:∀ g,(lv 6).like b6 g) (h7:∀ g,(lv k7).like b7 g) (h9:lv 9=.hole) (hv:v'=v.bt (g7 k7)) (hl:∀ x∈l,x.2.bD=true∧fr x.1=x.2.bt (g7 k7)):Le c ⟨fr,lv⟩ ⟨bp l,KJ p now av v b6 b7⟩:=by
 refine⟨g7 k7,?_⟩
 have hk:=J7 k7 (.cells false false 27 p.cs) (.cells false false 30 [.aJ 4 0 now.length 1]) (.cells false false 30 [.aJ 5 0 av.length 1]) (.cells false false 27 (qC p v)) (bZ now) (bZ av) b6 b7
 rw [← hk]
 refine cD.keys (s:=⟨fr,lv⟩) [(0,0,.cells false false 27 p.cs),(1,1,.cells false false 30 [.aJ 4 0 now.length 1]),(2,2,.cells false false 30 [.aJ 5 0 av.length 1]),(3,3,.cells false false 27 (qC p v)),(4,4,bZ now),(5,5,bZ av),(6,6,b6),(7,k7,b7)] 9 l rfl ?_ (by simp) ?_ h9 ?_ (by rw [hk];exact hl)
 ·intro k hk'
  rw [hk,hl0] at *
  by_cases q0:k=0
  ·subst q0;exact .inr rfl
  by_cases q1:k=1
  ·subst q1;exact .inr rfl
  by_cases q2:k=2
  ·subst q2;exact .inr rfl
  by_cases q3:k=3
  ·subst q3;exact .inr rfl
  by_cases q4:k=4
  ·subst q4;exact .inr rfl
  by_cases q5:k=5
  ·subst q5;exact .inr rfl
  by_cases q6:k=6
  ·subst q6;exact .inr rfl
  exfalso
  apply hk'
  unfold KJ aB
  by_cases q7:k=7
  ·rw [if_pos q7]
  ·rw [if_neg q7,if_neg q6,if_neg q5,if_neg q4,if_neg q3,if_neg q2,if_neg q1,if_neg q0]
 ·exact hk7
 ·rw [hk]
  intro x hx
  simp only [List.mem_cons,List.not_mem_nil,or_false] at hx
  rcases hx with rfl|rfl|rfl|rfl|rfl|rfl|rfl|rfl
  ·exact⟨false,p.cs,h0,(gN p _).symm,id⟩
  ·exact⟨false,_,h1,rfl,id⟩
  ·exact⟨false,_,h2,rfl,id⟩
  ·refine⟨false,_,h3,?_,id⟩
   rw [hv];simp [qC]
  ·exact⟨false,_,h4,(cn now _).symm,id⟩
  ·exact⟨false,_,h5,(cn av _).symm,id⟩
  ·exact h6 _
  ·exact h7 _
theorem Xi {c:Ctx}{fn:Func}(hr:fn.results=#[]) {fr:Nat→AV}{lv:Key→LB}{κ:Nat}{p:PD}{now fC av:List Int}{v0:CV}{b60:LB}{L0 L:List Nd}{σ' ν:List LB}(hl0:c.bu=KJ p now fC v0 b60 .hole) (hlv:lv=KJ p now av (rV L0 L) (r6 L0 L) (r7 L0 L)) (hσ':aV σ' ν=Y9 p now av (rO L0 L) (r6 L0 L) (r7 L0 L)):Ru c fn (.tup []) σ' ν .normal ⟨fr,lv⟩ κ:=by
 subst hlv
 have hk:=Hr (.cells false false 27 p.cs) (.cells false false 30 [.aJ 4 0 now.length 1]) (.cells false false 30 [.aJ 5 0 av.length 1]) (.cells false false 27 (qC p (rO L0 L))) (bZ now) (bZ av) (r6 L0 L) (r7 L0 L)
 refine⟨[(0,0,.cells false false 27 p.cs),(1,1,.cells false false 30 [.aJ 4 0 now.length 1]),(2,2,.cells false false 30 [.aJ 5 0 av.length 1]),(3,3,.cells false false 27 (qC p (rO L0 L))),(4,4,bZ now),(5,5,bZ av),(6,6,r6 L0 L),(1000,7,r7 L0 L)],9,hσ',by simp,by simp,rfl,?_,?_,rfl,?_⟩
 ·intro k hk'
  rw [hk,hl0] at *
  by_cases q0:k=0
  ·subst q0;exact .inr rfl
  by_cases q1:k=1
  ·subst q1;exact .inr rfl
  by_cases q2:k=2
  ·subst q2;exact .inr rfl
  by_cases q3:k=3
  ·subst q3;exact .inr rfl
  by_cases q4:k=4
  ·subst q4;exact .inr rfl
  by_cases q5:k=5
  ·subst q5;exact .inr rfl
  by_cases q6:k=6
  ·subst q6;exact .inr rfl
  exfalso
  apply hk'
  unfold KJ aB
  by_cases q7:k=7
  ·rw [if_pos q7]
  ·rw [if_neg q7,if_neg q6,if_neg q5,if_neg q4,if_neg q3,if_neg q2,if_neg q1,if_neg q0]
 ·rw [hk]
  intro x hx
  simp only [List.mem_cons,List.not_mem_nil,or_false] at hx
  rcases hx with rfl|rfl|rfl|rfl|rfl|rfl|rfl|rfl
  ·exact⟨false,p.cs,rfl,(gN p _).symm,id⟩
  ·exact⟨false,_,rfl,rfl,id⟩
  ·exact⟨false,_,rfl,rfl,id⟩
  ·refine⟨false,_,rfl,?_,id⟩
   have:=MV L0 L
   simp [qC,this]
  ·exact⟨false,_,rfl,(cn now _).symm,id⟩
  ·exact⟨false,_,rfl,(cn av _).symm,id⟩
  ·exact yG _ _ _
  ·exact D5 _ _ _
 ·rw [hr];rfl
set_option maxHeartbeats 4000000 in
theorem HL (m:Int)(p:PD)(hp:p.ok)(now:List Int)(fC:List Int)(L0:List Nd)(i0 e:Nat)(hi0:i0≤e)(hi:e≤p.nn)(hn:p.nn≤1000)(hL:L0.length≤20000)(hat:fC.length=p.nn)(hnow:now.length≤1000)
 (hop:∀ i,i<p.nn→1≤(p.nd i).op∧(p.nd i).op≤15) (hst:∀ i,i<p.nn→(p.nd i).op=2→0≤(p.nd i).a∧(p.nd i).a<now.length) (hkd:∀ i,i<p.nn→∀ x∈cz (p.nd i),0≤x∧x<p.nn)
 (σ σ' ν:List LB) (hσ:aV σ []=KJ p now fC (qS 6 L0) (qB L0) .hole) (hσ':aV σ' ν=Y9 p now (ey p now (fC,L0) i0 (e - i0)).1 (rO L0 (ey p now (fC,L0) i0 (e - i0)).2) (r6 L0 (ey p now (fC,L0) i0 (e - i0)).2) (r7 L0 (ey p now (fC,L0) i0 (e - i0)).2)) :
 aC Tryz.prog (GG m) 79 [.c (.d (.int .i64 i0)),.c (.d (.int .i64 e)),.c (.ptr 0 0),.c (.ptr 1 0),.c (.ptr 2 0),.c (.ptr 3 0)] σ (.ret (.tup []) σ' ν):=by
 refine aC.Gp Go.Proofs.Tryz.func79 rfl (by rw [Tryz.ntmps79];simp) ?_
 rintro⟨_,_,w0,F0,W0,_,bu,β0⟩ rfl rfl rfl hlv0
 simp only at hlv0
 rw [hσ] at hlv0 ⊢
 refine AW.ag fun K hK=>?_
 refine AW.aa rfl ?_
 simp
 apply hK;clear hK K
 refine AW.block ?_
 refine AW.b9 (fun (i:Nat)=>⟨bp [(1,.c (.d (.int .i64 e))),(2,.c (.ptr 0 0)),(3,.c (.ptr 1 0)),(4,.c (.ptr 2 0)),(5,.c (.ptr 3 0)),(8,.c (.d (.int .i64 i)))],
  KJ p now (ey p now (fC,L0) i0 (i - i0)).1 (rV L0 (ey p now (fC,L0) i0 (i - i0)).2) (r6 L0 (ey p now (fC,L0) i0 (i - i0)).2) (r7 L0 (ey p now (fC,L0) i0 (i - i0)).2)⟩) 1000
  (fun i=>i0≤i∧i≤e) (fun i=>e - i) i0 (Le.mk' _ (by simp [ey,rV,r6,r7]) (Ob _ _ _ _ (Rt _) (fun _ _ h=>by cases h)) (by simp)) ⟨Nat.le_refl _,hi0⟩ ?_
 rintro i ⟨hj,hj2⟩
 try simp only at hj hj2
 have e1:=mw p now (fC,L0) i0 (i - i0)
 have e2:=nB p now (fC,L0) i0 (i - i0)
 have e3:=hJ p now (fC,L0) i0 (i - i0)
 rw [show i - i0+1=i+1 - i0 by omega,show i0+(i - i0)=i by omega] at e3
 obtain⟨⟨av,L⟩,hgs⟩:∃ s,ey p now (fC,L0) i0 (i - i0)=s:=⟨_,rfl⟩
 rw [hgs] at e1 e2 e3
 simp only [hgs]
 simp only at e1 e2 e3
 refine AW.ag fun K3 hK3=>?_
 refine AW.ag fun K4 hK4=>?_
 refine AW.aa rfl ?_
 simp
 apply hK4;clear hK4 K4
 by_cases hlt:i<e
 ·have hlt':(i:Int)<(e:Int):=by omega
  have hin:i<p.nn:=by omega
  have hx:=fun lv=>Nc p lv hp i hin
  have hw:=cX (n:=(i:Int)+1) (by omega) (by omega)
  refine AW.cond (b:=true) (by first|(simp [hlt'];done)|(simp [hlt'];omega)) ?_
  refine AW.skip ?_
  simp
  apply hK3
  refine AW.ag fun K5 hK5=>?_
  refine AW.block ?_
  refine AW.ag fun K6 hK6=>?_
  refine AW.aa rfl ?_
  simp [hx,aj]
  apply hK6;clear hK6 K6
  refine AW.ag fun K7 hK7=>?_
  refine AW.ag fun K8 hK8=>?_
  refine AW.aa rfl ?_
  simp
  apply hK8;clear hK8 K8
  by_cases h2:(p.nd i).op=2
  ·have h2':((p.nd i).op=2)=True:=by simp [h2]
   obtain⟨ha0,ha1⟩:=hst i hin h2
   obtain⟨q,hq⟩:∃ q:Nat,(p.nd i).a=q:=⟨(p.nd i).a.toNat,by omega⟩
   have hql:q<now.length:=by rw [hq] at ha1;omega
   have hql':(q:Int)<(now.length:Int):=by omega
   have hia:(i:Int)<(av.length:Int):=by omega
   have hld:=jb (P:=Tryz.prog) (T:=3) (by simp) hql
   refine AW.cond (b:=true) (by first|(simp [h2'];done)|(simp [h2'];omega)) ?_
   refine AW.ag fun K8 hK8=>?_
   refine AW.eB mixed (by kernel_rfl) rfl ?_
   simp [hq,hql',hia,hld]
   refine⟨by omega,?_⟩
   refine⟨by kernel_rfl,?_⟩
   apply hK8;clear hK8 K8
   refine AW.exit ?_
   simp
   apply hK5
   refine AW.aa rfl ?_
   simp [hw]
   have hs:iz p now (av,L) i=(av.set i now[q],L):=by
    unfold iz
    rw [if_pos h2,hq,Int.toNat_natCast,List.getD_eq_getElem?_getD,List.getElem?_eq_getElem hql];rfl
   refine⟨i+1,?_,⟨by omega,by omega⟩,by omega⟩
   simp only [e3,hs]
   exact VB _ (rV L0 L) _ _ 7 _ hlv0 (by decide) rfl rfl (by simp) rfl rfl (by simp [ve av i now[q] (by omega)]) (fun g=>yG _ _ g) (fun g=>D5 _ _ g) rfl (OS _ _).symm (by simp [g7])
  ·have h2':((p.nd i).op=2)=False:=by simp [h2]
   have hra:=G9 m (p.nd i) (hop i hin).1 (hop i hin).2 (av.set i L.length) (by simp;omega) (by intro x hx;have:=hkd i hin x hx;simp;omega)
   have hia:(i:Int)<(av.length:Int):=by omega
   have hia1:i+1≤av.length:=by omega
   have hs:iz p now (av,L) i=(av.set i L.length,L++[(p.nd i).iO (av.set i L.length)]):=by
    unfold iz
    rw [if_neg h2]
   refine AW.cond (b:=false) (by first|(simp [h2'];done)|(simp [h2'];omega)) ?_
   refine AW.skip ?_
   simp
   apply hK7;clear hK7 K7
   refine AW.ag fun K8 hK8=>?_
   by_cases hA:L=[]
   ·subst hA
    have hz:([]:List Nd).length=L0.length:=(Nat.le_zero.1 e2.1).symm
    have hL0:L0=[]:=List.eq_nil_of_length_eq_zero hz.symm
    have hr:rV L0 []=.d .nilsl:=by unfold rV;rw [if_pos hz];rfl
    have h6:r6 L0 []=.hole:=by unfold r6;rw [if_pos hz];rfl
    have h7:r7 L0 []=.hole:=by unfold r7;rw [if_pos hz]
    have lp0:∀ lv,eE Tryz.prog 24 lv (.c (.d .nilsl))=some (.c (.d (.int .i64 0)),[],[],True):=fun lv=>bY (o:=none) (by simp)
    have hbs:∀ (lv:Key→LB) (h:lv 1001=.hole) (n:Nd),aE Tryz.prog 24 1 [0] lv 1001 [n.A]=some (.c (.aJ 1001 0 1 7),[(1001,.cells true false 55 (ij [n]))],[],True):=fun lv h n=>SK lv 1001 h n
    have hz2:=ve av i 0 (by omega)
    refine AW.aa rfl ?_
    simp [hr,hia,lp0,hz2]
    refine⟨hia1,?_⟩
    apply hK8;clear hK8 K8
    refine AW.eB mixed (by kernel_rfl) rfl ?_
    simp [hr,hia]
    refine ai.Hp 1001 9 5 (by simpa using hra) (by rfl) (by rfl) rfl rfl (by decide) ?_
    simp [hbs,ga,keyOf,tu,CK,aj,-aE]
    refine⟨by kernel_rfl,?_⟩
    apply hK5
    refine AW.aa rfl ?_
    simp [hw]
    refine⟨i+1,?_,⟨by omega,by omega⟩,by omega⟩
    simp only [e3,hs]
    rw [CW e2.1,CB e2.1,C0 e2.1]
    exact VB _ (.aJ 1002 0 1 7) _ _ 1002 _ hlv0 (by decide) rfl rfl (by simp) (by simp) rfl (by simp) (fun g=>by rw [if_pos hL0];show (r6 L0 []).like _ g;rw [h6];rfl) (fun g=>⟨true,_,by simp,(fT _ g).symm,fun h=>by cases h⟩) rfl rfl (by simp [g7])
   have hLp:0<L.length:=List.length_pos_iff.2 hA
   have hLb:(L.length:Int)≤9223372036854775807:=by omega
   have hz2:=ve av i L.length (by omega)
   have hbs:∀ (lv:Key→LB) (h:lv 1001=.hole) (n:Nd),aE Tryz.prog 24 1 [0] lv 1001 [n.A]=some (.c (.aJ 1001 0 1 7),[(1001,.cells true false 55 (ij [n]))],[],True):=fun lv h n=>SK lv 1001 h n
   by_cases hB:L.length=L0.length
   ·have hL0:L0≠[]:=fun h=>by rw [h] at hB;simp at hB;exact hA hB
    have hr:rV L0 L=.aJ 6 0 L.length 7:=by unfold rV;rw [if_pos hB];unfold qS;rw [if_neg hA]
    have h6:r6 L0 L=.cells false false 55 (ij L):=by unfold r6;rw [if_pos hB];unfold qB;rw [if_neg hA]
    have h7:r7 L0 L=.hole:=by unfold r7;rw [if_pos hB]
    refine AW.aa rfl ?_
    simp [hr,h6,hia,hz2,nu]
    refine⟨hLb,hia1,?_⟩
    apply hK8;clear hK8 K8
    refine AW.eB mixed (by kernel_rfl) rfl ?_
    simp [hr,h6,hia]
    refine ai.Hp 1001 9 5 (by simpa using hra) (by rfl) (by rfl) rfl rfl (by decide) ?_
    simp [hbs,ga,keyOf,tu,CK,aj,hr,h6,nu,-aE]
    repeat (refine And.intro (by omega) ?_)
    refine⟨by kernel_rfl,?_⟩
    apply hK5
    refine AW.aa rfl ?_
    simp [hw]
    refine⟨i+1,?_,⟨by omega,by omega⟩,by omega⟩
    simp only [e3,hs]
    rw [CW e2.1,CB e2.1,C0 e2.1,Ew]
    exact VB _ (.aJ 1002 0 (L.length+1) 7) _ _ 1002 _ hlv0 (by decide) rfl rfl (by simp) (by simp) rfl (by simp) (fun g=>by rw [if_neg hL0];exact fun h=>by cases h) (fun g=>⟨false,ij L++ij [(p.nd i).iO (av.set i L.length)],by simp,by rw [List.map_append,fT,fT],id⟩) rfl rfl (by simp [g7])
   ·have hr:rV L0 L=.aJ 7 0 L.length 7:=by unfold rV;rw [if_neg hB]
    have h6:r6 L0 L=if L0=[] then .hole else .dead:=by unfold r6;rw [if_neg hB]
    have h7:r7 L0 L=.cells false false 55 (ij L):=by unfold r7;rw [if_neg hB]
    refine AW.aa rfl ?_
    simp [hr,h7,hia,hz2,nu]
    refine⟨hLb,hia1,?_⟩
    apply hK8;clear hK8 K8
    refine AW.eB mixed (by kernel_rfl) rfl ?_
    simp [hr,h7,hia]
    refine ai.Hp 1001 9 5 (by simpa using hra) (by rfl) (by rfl) rfl rfl (by decide) ?_
    simp [hbs,ga,keyOf,tu,CK,aj,hr,h7,nu,-aE]
    repeat (refine And.intro (by omega) ?_)
    refine⟨by kernel_rfl,?_⟩
    apply hK5
    refine AW.aa rfl ?_
    simp [hw]
    refine⟨i+1,?_,⟨by omega,by omega⟩,by omega⟩
    simp only [e3,hs]
    rw [CW e2.1,CB e2.1,C0 e2.1,Ew]
    exact VB _ (.aJ 1002 0 (L.length+1) 7) _ _ 1002 _ hlv0 (by decide) rfl rfl (by simp) (by simp) rfl (by simp) (fun g=>by show (r6 L0 L).like _ g;rw [← h6];exact yG L0 L g) (fun g=>⟨false,ij L++ij [(p.nd i).iO (av.set i L.length)],by simp,by rw [List.map_append,fT,fT],id⟩) rfl rfl (by simp [g7])
 have hie:i=e:=by omega
 subst hie
 refine AW.cond (b:=false) (by first|(simp [];done)|(simp [];omega)) ?_
 refine AW.exit ?_
 simp
 rw [hgs] at hσ'
 exact Xi rfl hlv0 rfl hσ'
end Go.Am

namespace Go.Am
open Go.Am.Ty Go.Proofs N
def rS (p:PD)(now at':List Int)(v:CV)(o:Option LB):List LB:=[.cells false false 27 p.cs,.cells false false 30 [.aJ 4 0 now.length 1],.cells false false 30 [.aJ 5 0 at'.length 1],.cells false false 27 (qC p v),bZ now,bZ at']++o.toList
def rN (L0 L:List Nd):List LB:=if L.length=L0.length then [] else [.cells false false 55 (ij L)]
def oB (L0:List Nd)(b:LB):Option LB:=if L0=[] then none else some b
theorem LP (p:PD)(now at':List Int)(v:CV)(L0:List Nd)(b:LB)(h:L0=[]→b=.hole):aV (rS p now at' v (oB L0 b)) []=aB (aB (aB (aB (aB (aB (aB (fun _=>.hole) 0 (.cells false false 27 p.cs)) 1 (.cells false false 30 [.aJ 4 0 now.length 1])) 2 (.cells false false 30 [.aJ 5 0 at'.length 1])) 3 (.cells false false 27 (qC p v))) 4 (bZ now)) 5 (bZ at')) 6 b:=by
 by_cases h0:L0=[]
 ·rw [h h0]
  have e:oB L0 .hole=none:=if_pos h0
  rw [e]
  refine Eq.trans (DR _ _ _ _ _ _) ?_
  exact (jf rfl).symm
 ·have e:oB L0 b=some b:=if_neg h0
  rw [e]
  exact KV _ _ _ _ _ _ _
theorem OY {L0 L:List Nd}(h:L0=[]):r6 L0 L=.hole:=by
 subst h
 unfold r6
 split
 ·rename_i h;rw [List.eq_nil_of_length_eq_zero h];rfl
 ·rfl
theorem T3 (σ:List LB)(L0 L:List Nd):aV σ (rN L0 L)=aB (aV σ []) 1000 (r7 L0 L):=by
 unfold rN r7
 by_cases h:L.length=L0.length
 ·rw [if_pos h,if_pos h]
  exact (jf rfl).symm
 ·rw [if_neg h,if_neg h]
  exact I4 σ [] _
theorem CR (m:Int)(p:PD)(hp:p.ok)(now fC:List Int)(L0:List Nd)(i0 e:Nat)(hi0:i0≤e)(hi:e≤p.nn)(hn:p.nn≤1000)(hL:L0.length≤20000)(hat:fC.length=p.nn)(hnow:now.length≤1000)
 (hop:∀ i,i<p.nn→1≤(p.nd i).op∧(p.nd i).op≤15) (hst:∀ i,i<p.nn→(p.nd i).op=2→0≤(p.nd i).a∧(p.nd i).a<now.length) (hkd:∀ i,i<p.nn→∀ x∈cz (p.nd i),0≤x∧x<p.nn)
 (av:List Int) (L:List Nd) (hs:ey p now (fC,L0) i0 (e - i0)=(av,L)) :
 aC Tryz.prog (GG m) 79 [.c (.d (.int .i64 i0)),.c (.d (.int .i64 e)),.c (.ptr 0 0),.c (.ptr 1 0),.c (.ptr 2 0),.c (.ptr 3 0)] (rS p now fC (qS 6 L0) (oB L0 (qB L0))) (.ret (.tup []) (rS p now av (rO L0 L) (oB L0 (r6 L0 L))) (rN L0 L)):=by
 refine HL m p hp now fC L0 i0 e hi0 hi hn hL hat hnow hop hst hkd _ _ _ ?_ ?_
 ·rw [LP _ _ _ _ _ _ (fun h=>by rw [h];rfl)]
  exact (jf rfl).symm
 ·rw [hs,T3,LP _ _ _ _ _ _ (fun h=>OY h)]
end Go.Am

namespace Go.Am
open Go.Am.Ty Go.Proofs N
def uS (L:List Nd):CV:=if L=[] then .d .nilsl else .aJ 7 0 L.length 7
def uB (L:List Nd):LB:=if L=[] then .hole else .cells true false 55 (ij L)
abbrev qA (p:PD)(z:LB)(now at':List Int)(v:CV)(b7 b8:LB):Key→LB:=
 aB (aB (aB (aB (aB (aB (aB (aB (aB (fun _=>.hole) 0 (.cells true false 27 p.cs)) 1 z) 2 (.cells true false 27 (qC p v))) 3 (.cells true false 3 (zK at'))) 4 (.cells true false 30 [.aJ 3 0 at'.length 1])) 5 (.cells true false 3 (zK now))) 6 (.cells true false 30 [.aJ 5 0 now.length 1])) 7 b7) 8 b8
def uV (L0 L:List Nd):CV:=if L.length=L0.length then uS L else .aJ 8 0 L.length 7
def u7 (L0 L:List Nd):LB:=if L.length=L0.length then uB L else if L0=[] then .hole else .dead
def u8 (L0 L:List Nd):LB:=if L.length=L0.length then .hole else .cells true false 55 (ij L)
theorem gE (lv:Key→LB)(n:Nat)(x:DV):gq lv n (.d x)=[]:=by cases n <;> rfl
theorem fH (lv:Key→LB)(n:Nat)(o:Option (List (List DV))):gq lv n (dg o)=[]:=by cases o <;> exact gE _ _ _
theorem iR (lv:Key→LB)(n:Nat)(l:List Int):(zK l).flatMap (gq lv n)=[]:=by
 unfold zK;rw [List.flatMap_map,List.flatMap_eq_nil_iff];intro x _;exact gE _ _ _
theorem iT (lv:Key→LB)(n:Nat)(l:List Nd):(ij l).flatMap (gq lv n)=[]:=by
 unfold ij;rw [List.flatMap_map,List.flatMap_eq_nil_iff];intro x _;exact gE _ _ _
theorem ai.run {c:Ctx}{K:AV→List (Key × LB)→List Key→Nat→Prop}(κ':Nat) (p:PD) (z:LB) (now fC av:List Int) (L0 L:List Nd) {a b:CV}(ha:(AV.c a).pure=true) (hb:(AV.c b).pure=true) (hlen:av.length=fC.length) (hL:L.length=L0.length→L=L0)
 (hc:aC c.P c.G 79 [.c a,.c b,.c (.ptr 0 0),.c (.ptr 1 0),.c (.ptr 2 0),.c (.ptr 3 0)] (rS p now fC (qS 6 L0) (oB L0 (qB L0))) (.ret (.tup []) (rS p now av (rO L0 L) (oB L0 (r6 L0 L))) (rN L0 L)))
 (hK:∀ Jn rds,aW (qA p z now fC (uS L0) (uB L0) .hole) Jn=qA p z now av (uV L0 L) (u7 L0 L) (u8 L0 L)→K (.tup []) Jn rds κ') :
 ai c 79 [.c a,.c b,.c (.ptr 0 0),.c (.ptr 6 0),.c (.ptr 4 0),.c (.ptr 2 0)] (qA p z now fC (uS L0) (uB L0) .hole) K:=by
 by_cases h0:L0=[]
 ·by_cases h1:L.length=L0.length
  ·obtain rfl:L0=L:=(hL h1).symm
   have hne:True:=trivial
   have h1:True:=trivial
   have hc2:aC c.P c.G 79 [.c a,.c b,.c (.ptr 0 0),.c (.ptr 1 0),.c (.ptr 2 0),.c (.ptr 3 0)] [.cells false false 27 p.cs,.cells false false 30 [.aJ 4 0 now.length 1],.cells false false 30 [.aJ 5 0 fC.length 1],.cells false false 27 (qC p (.d .nilsl)),bZ now,bZ fC] (.ret (.tup []) [.cells false false 27 p.cs,.cells false false 30 [.aJ 4 0 now.length 1],.cells false false 30 [.aJ 5 0 av.length 1],.cells false false 27 (qC p (.d .nilsl)),bZ now,bZ av] []):=by
    have f1:rS p now fC (qS 6 L0) (oB L0 (qB L0))=[.cells false false 27 p.cs,.cells false false 30 [.aJ 4 0 now.length 1],.cells false false 30 [.aJ 5 0 fC.length 1],.cells false false 27 (qC p (.d .nilsl)),bZ now,bZ fC]:=by simp [rS,qS,oB,qB,h0]
    have f2:rS p now av (rO L0 L0) (oB L0 (r6 L0 L0))=[.cells false false 27 p.cs,.cells false false 30 [.aJ 4 0 now.length 1],.cells false false 30 [.aJ 5 0 av.length 1],.cells false false 27 (qC p (.d .nilsl)),bZ now,bZ av]:=by simp [rS,rO,qS,oB,qB,r6,h0,h1,hne]
    have f3:rN L0 L0=[]:=by simp [rN,h1,hne]
    rw [f1,f2,f3] at hc;exact hc
   have g0:qA p z now fC (uS L0) (uB L0) .hole=qA p z now fC (.d .nilsl) (.hole) .hole:=by simp [uS,uB,h0]
   have g1:qA p z now av (uV L0 L0) (u7 L0 L0) (u8 L0 L0)=qA p z now av (.d .nilsl) (.hole) (.hole):=by simp [uV,u7,u8,uS,uB,h0,h1,hne]
   rw [g0,g1] at hK
   rw [g0]
   refine ai.DP κ' 9 true [0,6,4,2,5,3] [] _ _ _ [0,6,4,2,5,3,7,8,9] hc2 (by simp) (by simp) rfl rfl rfl (by simp) ?_ (by simp) rfl ?_ ?_ ?_ rfl ?_ ?_ (by simp) ?_
   ·intro i q1 q2
    have hi:i=0∨i=1∨i=2∨i=3∨i=4∨i=5:=by simp at q1;omega
    rcases hi with rfl|rfl|rfl|rfl|rfl|rfl
    ·exact⟨true,p.cs,rfl,(gN p _).symm,fun _=>rfl⟩
    ·exact⟨true,_,rfl,rfl,fun _=>rfl⟩
    ·exact⟨true,_,rfl,rfl,fun _=>rfl⟩
    ·refine⟨true,_,rfl,?_,fun _=>rfl⟩
     simp [qC,aF]
    ·exact⟨true,_,rfl,(cn now _).symm,fun _=>rfl⟩
    ·exact⟨true,_,rfl,(cn fC _).symm,fun _=>rfl⟩
   ·simp [LB.pass]
   ·simp
   ·simp [LB.sP]
   ·intro i q1 q2
    have hi:i=0∨i=1∨i=2∨i=3∨i=4∨i=5:=by simp at q1;omega
    rcases hi with rfl|rfl|rfl|rfl|rfl|rfl
    ·exact⟨AV.bM ha,(AV.bg ha _).symm⟩
    ·exact⟨AV.bM hb,(AV.bg hb _).symm⟩
    ·exact⟨rfl,rfl⟩
    ·exact⟨rfl,rfl⟩
    ·exact⟨rfl,rfl⟩
    ·exact⟨rfl,rfl⟩
   ·intro x hx k hk
    simp only [List.mem_cons,List.not_mem_nil,or_false] at hx
    rcases hx with rfl|rfl|rfl|rfl|rfl|rfl
    ·rw [dm ha] at hk;cases hk
    ·rw [dm hb] at hk;cases hk
    ·simp [iQ,gq,fH,gE,iR,iT] at hk;simp [hk]
    ·simp [iQ,gq,fH,gE,iR,iT] at hk;rcases hk with rfl|rfl <;> simp
    ·simp [iQ,gq,fH,gE,iR,iT] at hk;rcases hk with rfl|rfl <;> simp
    ·simp [iQ,gq,fH,gE,iR,iT] at hk;simp [hk]
   ·refine hK _ _ ?_
    funext k
    by_cases q0:k=0
    ·subst q0;exact congrArg (LB.cells true false 27) (gN p _)
    by_cases q1:k=1
    ·subst q1;rfl
    by_cases q2:k=2
    ·subst q2
     refine congrArg (LB.cells true false 27) ?_
     simp [qC,aF]
    by_cases q3:k=3
    ·subst q3;exact congrArg (LB.cells true false 3) (cn av _)
    by_cases q4:k=4
    ·subst q4;rfl
    by_cases q5:k=5
    ·subst q5;exact congrArg (LB.cells true false 3) (cn now _)
    by_cases q6:k=6
    ·subst q6;rfl
    by_cases q7:k=7
    ·subst q7;rfl
    by_cases q8:k=8
    ·subst q8;rfl
    simp [aW,bA,aB,q0,q1,q2,q3,q4,q5,q6,q7,q8]
  ·have hne:L≠[]:=fun h=>h1 (by rw [h,h0])
   have hc2:aC c.P c.G 79 [.c a,.c b,.c (.ptr 0 0),.c (.ptr 1 0),.c (.ptr 2 0),.c (.ptr 3 0)] [.cells false false 27 p.cs,.cells false false 30 [.aJ 4 0 now.length 1],.cells false false 30 [.aJ 5 0 fC.length 1],.cells false false 27 (qC p (.d .nilsl)),bZ now,bZ fC] (.ret (.tup []) [.cells false false 27 p.cs,.cells false false 30 [.aJ 4 0 now.length 1],.cells false false 30 [.aJ 5 0 av.length 1],.cells false false 27 (qC p (.aJ 1000 0 L.length 7)),bZ now,bZ av] [.cells false false 55 (ij L)]):=by
    have f1:rS p now fC (qS 6 L0) (oB L0 (qB L0))=[.cells false false 27 p.cs,.cells false false 30 [.aJ 4 0 now.length 1],.cells false false 30 [.aJ 5 0 fC.length 1],.cells false false 27 (qC p (.d .nilsl)),bZ now,bZ fC]:=by simp [rS,qS,oB,qB,h0]
    have f2:rS p now av (rO L0 L) (oB L0 (r6 L0 L))=[.cells false false 27 p.cs,.cells false false 30 [.aJ 4 0 now.length 1],.cells false false 30 [.aJ 5 0 av.length 1],.cells false false 27 (qC p (.aJ 1000 0 L.length 7)),bZ now,bZ av]:=by simp [rS,rO,qS,oB,qB,r6,h0,h1,hne]
    have f3:rN L0 L=[.cells false false 55 (ij L)]:=by simp [rN,h1,hne]
    rw [f1,f2,f3] at hc;exact hc
   have g0:qA p z now fC (uS L0) (uB L0) .hole=qA p z now fC (.d .nilsl) (.hole) .hole:=by simp [uS,uB,h0]
   have g1:qA p z now av (uV L0 L) (u7 L0 L) (u8 L0 L)=qA p z now av (.aJ 8 0 L.length 7) (.hole) (.cells true false 55 (ij L)):=by simp [uV,u7,u8,uS,uB,h0,h1,hne]
   rw [g0,g1] at hK
   rw [g0]
   refine ai.DP κ' 9 true [0,6,4,2,5,3] [8] _ _ _ [0,6,4,2,5,3,7,8,9] hc2 (by simp) (by simp) rfl rfl rfl (by simp) ?_ (by simp) rfl ?_ ?_ ?_ rfl ?_ ?_ (by simp) ?_
   ·intro i q1 q2
    have hi:i=0∨i=1∨i=2∨i=3∨i=4∨i=5:=by simp at q1;omega
    rcases hi with rfl|rfl|rfl|rfl|rfl|rfl
    ·exact⟨true,p.cs,rfl,(gN p _).symm,fun _=>rfl⟩
    ·exact⟨true,_,rfl,rfl,fun _=>rfl⟩
    ·exact⟨true,_,rfl,rfl,fun _=>rfl⟩
    ·refine⟨true,_,rfl,?_,fun _=>rfl⟩
     simp [qC,aF]
    ·exact⟨true,_,rfl,(cn now _).symm,fun _=>rfl⟩
    ·exact⟨true,_,rfl,(cn fC _).symm,fun _=>rfl⟩
   ·simp [LB.pass]
   ·simp
   ·simp [LB.sP]
   ·intro i q1 q2
    have hi:i=0∨i=1∨i=2∨i=3∨i=4∨i=5:=by simp at q1;omega
    rcases hi with rfl|rfl|rfl|rfl|rfl|rfl
    ·exact⟨AV.bM ha,(AV.bg ha _).symm⟩
    ·exact⟨AV.bM hb,(AV.bg hb _).symm⟩
    ·exact⟨rfl,rfl⟩
    ·exact⟨rfl,rfl⟩
    ·exact⟨rfl,rfl⟩
    ·exact⟨rfl,rfl⟩
   ·intro x hx k hk
    simp only [List.mem_cons,List.not_mem_nil,or_false] at hx
    rcases hx with rfl|rfl|rfl|rfl|rfl|rfl
    ·rw [dm ha] at hk;cases hk
    ·rw [dm hb] at hk;cases hk
    ·simp [iQ,gq,fH,gE,iR,iT] at hk;simp [hk]
    ·simp [iQ,gq,fH,gE,iR,iT] at hk;rcases hk with rfl|rfl <;> simp
    ·simp [iQ,gq,fH,gE,iR,iT] at hk;rcases hk with rfl|rfl <;> simp
    ·simp [iQ,gq,fH,gE,iR,iT] at hk;simp [hk]
   ·refine hK _ _ ?_
    funext k
    by_cases q0:k=0
    ·subst q0;exact congrArg (LB.cells true false 27) (gN p _)
    by_cases q1:k=1
    ·subst q1;rfl
    by_cases q2:k=2
    ·subst q2
     refine congrArg (LB.cells true false 27) ?_
     simp [qC,aF]
    by_cases q3:k=3
    ·subst q3;exact congrArg (LB.cells true false 3) (cn av _)
    by_cases q4:k=4
    ·subst q4;rfl
    by_cases q5:k=5
    ·subst q5;exact congrArg (LB.cells true false 3) (cn now _)
    by_cases q6:k=6
    ·subst q6;rfl
    by_cases q7:k=7
    ·subst q7;rfl
    by_cases q8:k=8
    ·subst q8;exact congrArg (LB.cells true false 55) (fT _ _)
    simp [aW,bA,aB,q0,q1,q2,q3,q4,q5,q6,q7,q8]
 ·by_cases h1:L.length=L0.length
  ·obtain rfl:L0=L:=(hL h1).symm
   have hne:True:=trivial
   have h1:True:=trivial
   have hc2:aC c.P c.G 79 [.c a,.c b,.c (.ptr 0 0),.c (.ptr 1 0),.c (.ptr 2 0),.c (.ptr 3 0)] [.cells false false 27 p.cs,.cells false false 30 [.aJ 4 0 now.length 1],.cells false false 30 [.aJ 5 0 fC.length 1],.cells false false 27 (qC p (.aJ 6 0 L0.length 7)),bZ now,bZ fC,.cells false false 55 (ij L0)] (.ret (.tup []) [.cells false false 27 p.cs,.cells false false 30 [.aJ 4 0 now.length 1],.cells false false 30 [.aJ 5 0 av.length 1],.cells false false 27 (qC p (.aJ 6 0 L0.length 7)),bZ now,bZ av,.cells false false 55 (ij L0)] []):=by
    have f1:rS p now fC (qS 6 L0) (oB L0 (qB L0))=[.cells false false 27 p.cs,.cells false false 30 [.aJ 4 0 now.length 1],.cells false false 30 [.aJ 5 0 fC.length 1],.cells false false 27 (qC p (.aJ 6 0 L0.length 7)),bZ now,bZ fC,.cells false false 55 (ij L0)]:=by simp [rS,qS,oB,qB,h0]
    have f2:rS p now av (rO L0 L0) (oB L0 (r6 L0 L0))=[.cells false false 27 p.cs,.cells false false 30 [.aJ 4 0 now.length 1],.cells false false 30 [.aJ 5 0 av.length 1],.cells false false 27 (qC p (.aJ 6 0 L0.length 7)),bZ now,bZ av,.cells false false 55 (ij L0)]:=by simp [rS,rO,qS,oB,qB,r6,h0,h1,hne]
    have f3:rN L0 L0=[]:=by simp [rN,h1,hne]
    rw [f1,f2,f3] at hc;exact hc
   have g0:qA p z now fC (uS L0) (uB L0) .hole=qA p z now fC (.aJ 7 0 L0.length 7) (.cells true false 55 (ij L0)) .hole:=by simp [uS,uB,h0]
   have g1:qA p z now av (uV L0 L0) (u7 L0 L0) (u8 L0 L0)=qA p z now av (.aJ 7 0 L0.length 7) (.cells true false 55 (ij L0)) (.hole):=by simp [uV,u7,u8,uS,uB,h0,h1,hne]
   rw [g0,g1] at hK
   rw [g0]
   refine ai.DP κ' 9 true [0,6,4,2,5,3,7] [] _ _ _ [0,6,4,2,5,3,7,8,9] hc2 (by simp) (by simp) rfl rfl rfl (by simp) ?_ (by simp) rfl ?_ ?_ ?_ rfl ?_ ?_ (by simp) ?_
   ·intro i q1 q2
    have hi:i=0∨i=1∨i=2∨i=3∨i=4∨i=5∨i=6:=by simp at q1;omega
    rcases hi with rfl|rfl|rfl|rfl|rfl|rfl|rfl
    ·exact⟨true,p.cs,rfl,(gN p _).symm,fun _=>rfl⟩
    ·exact⟨true,_,rfl,rfl,fun _=>rfl⟩
    ·exact⟨true,_,rfl,rfl,fun _=>rfl⟩
    ·refine⟨true,_,rfl,?_,fun _=>rfl⟩
     simp [qC,aF]
    ·exact⟨true,_,rfl,(cn now _).symm,fun _=>rfl⟩
    ·exact⟨true,_,rfl,(cn fC _).symm,fun _=>rfl⟩
    ·exact⟨true,_,rfl,(fT L0 _).symm,fun _=>rfl⟩
   ·simp [LB.pass]
   ·simp
   ·simp [LB.sP]
   ·intro i q1 q2
    have hi:i=0∨i=1∨i=2∨i=3∨i=4∨i=5:=by simp at q1;omega
    rcases hi with rfl|rfl|rfl|rfl|rfl|rfl
    ·exact⟨AV.bM ha,(AV.bg ha _).symm⟩
    ·exact⟨AV.bM hb,(AV.bg hb _).symm⟩
    ·exact⟨rfl,rfl⟩
    ·exact⟨rfl,rfl⟩
    ·exact⟨rfl,rfl⟩
    ·exact⟨rfl,rfl⟩
   ·intro x hx k hk
    simp only [List.mem_cons,List.not_mem_nil,or_false] at hx
    rcases hx with rfl|rfl|rfl|rfl|rfl|rfl
    ·rw [dm ha] at hk;cases hk
    ·rw [dm hb] at hk;cases hk
    ·simp [iQ,gq,fH,gE,iR,iT] at hk;simp [hk]
    ·simp [iQ,gq,fH,gE,iR,iT] at hk;rcases hk with rfl|rfl <;> simp
    ·simp [iQ,gq,fH,gE,iR,iT] at hk;rcases hk with rfl|rfl <;> simp
    ·simp [iQ,gq,fH,gE,iR,iT] at hk;rcases hk with rfl|rfl <;> simp
   ·refine hK _ _ ?_
    funext k
    by_cases q0:k=0
    ·subst q0;exact congrArg (LB.cells true false 27) (gN p _)
    by_cases q1:k=1
    ·subst q1;rfl
    by_cases q2:k=2
    ·subst q2
     refine congrArg (LB.cells true false 27) ?_
     simp [qC,aF]
    by_cases q3:k=3
    ·subst q3;exact congrArg (LB.cells true false 3) (cn av _)
    by_cases q4:k=4
    ·subst q4;rfl
    by_cases q5:k=5
    ·subst q5;exact congrArg (LB.cells true false 3) (cn now _)
    by_cases q6:k=6
    ·subst q6;rfl
    by_cases q7:k=7
    ·subst q7;exact congrArg (LB.cells true false 55) (fT _ _)
    by_cases q8:k=8
    ·subst q8;rfl
    simp [aW,bA,aB,q0,q1,q2,q3,q4,q5,q6,q7,q8]
  ·have hne:True:=trivial
   have hc2:aC c.P c.G 79 [.c a,.c b,.c (.ptr 0 0),.c (.ptr 1 0),.c (.ptr 2 0),.c (.ptr 3 0)] [.cells false false 27 p.cs,.cells false false 30 [.aJ 4 0 now.length 1],.cells false false 30 [.aJ 5 0 fC.length 1],.cells false false 27 (qC p (.aJ 6 0 L0.length 7)),bZ now,bZ fC,.cells false false 55 (ij L0)] (.ret (.tup []) [.cells false false 27 p.cs,.cells false false 30 [.aJ 4 0 now.length 1],.cells false false 30 [.aJ 5 0 av.length 1],.cells false false 27 (qC p (.aJ 1000 0 L.length 7)),bZ now,bZ av,.dead] [.cells false false 55 (ij L)]):=by
    have f1:rS p now fC (qS 6 L0) (oB L0 (qB L0))=[.cells false false 27 p.cs,.cells false false 30 [.aJ 4 0 now.length 1],.cells false false 30 [.aJ 5 0 fC.length 1],.cells false false 27 (qC p (.aJ 6 0 L0.length 7)),bZ now,bZ fC,.cells false false 55 (ij L0)]:=by simp [rS,qS,oB,qB,h0]
    have f2:rS p now av (rO L0 L) (oB L0 (r6 L0 L))=[.cells false false 27 p.cs,.cells false false 30 [.aJ 4 0 now.length 1],.cells false false 30 [.aJ 5 0 av.length 1],.cells false false 27 (qC p (.aJ 1000 0 L.length 7)),bZ now,bZ av,.dead]:=by simp [rS,rO,qS,oB,qB,r6,h0,h1,hne]
    have f3:rN L0 L=[.cells false false 55 (ij L)]:=by simp [rN,h1,hne]
    rw [f1,f2,f3] at hc;exact hc
   have g0:qA p z now fC (uS L0) (uB L0) .hole=qA p z now fC (.aJ 7 0 L0.length 7) (.cells true false 55 (ij L0)) .hole:=by simp [uS,uB,h0]
   have g1:qA p z now av (uV L0 L) (u7 L0 L) (u8 L0 L)=qA p z now av (.aJ 8 0 L.length 7) (.dead) (.cells true false 55 (ij L)):=by simp [uV,u7,u8,uS,uB,h0,h1,hne]
   rw [g0,g1] at hK
   rw [g0]
   refine ai.DP κ' 9 true [0,6,4,2,5,3,7] [8] _ _ _ [0,6,4,2,5,3,7,8,9] hc2 (by simp) (by simp) rfl rfl rfl (by simp) ?_ (by simp) rfl ?_ ?_ ?_ rfl ?_ ?_ (by simp) ?_
   ·intro i q1 q2
    have hi:i=0∨i=1∨i=2∨i=3∨i=4∨i=5∨i=6:=by simp at q1;omega
    rcases hi with rfl|rfl|rfl|rfl|rfl|rfl|rfl
    ·exact⟨true,p.cs,rfl,(gN p _).symm,fun _=>rfl⟩
    ·exact⟨true,_,rfl,rfl,fun _=>rfl⟩
    ·exact⟨true,_,rfl,rfl,fun _=>rfl⟩
    ·refine⟨true,_,rfl,?_,fun _=>rfl⟩
     simp [qC,aF]
    ·exact⟨true,_,rfl,(cn now _).symm,fun _=>rfl⟩
    ·exact⟨true,_,rfl,(cn fC _).symm,fun _=>rfl⟩
    ·exact⟨true,_,rfl,(fT L0 _).symm,fun _=>rfl⟩
   ·simp [LB.pass]
   ·simp
   ·simp [LB.sP]
   ·intro i q1 q2
    have hi:i=0∨i=1∨i=2∨i=3∨i=4∨i=5:=by simp at q1;omega
    rcases hi with rfl|rfl|rfl|rfl|rfl|rfl
    ·exact⟨AV.bM ha,(AV.bg ha _).symm⟩
    ·exact⟨AV.bM hb,(AV.bg hb _).symm⟩
    ·exact⟨rfl,rfl⟩
    ·exact⟨rfl,rfl⟩
    ·exact⟨rfl,rfl⟩
    ·exact⟨rfl,rfl⟩
   ·intro x hx k hk
    simp only [List.mem_cons,List.not_mem_nil,or_false] at hx
    rcases hx with rfl|rfl|rfl|rfl|rfl|rfl
    ·rw [dm ha] at hk;cases hk
    ·rw [dm hb] at hk;cases hk
    ·simp [iQ,gq,fH,gE,iR,iT] at hk;simp [hk]
    ·simp [iQ,gq,fH,gE,iR,iT] at hk;rcases hk with rfl|rfl <;> simp
    ·simp [iQ,gq,fH,gE,iR,iT] at hk;rcases hk with rfl|rfl <;> simp
    ·simp [iQ,gq,fH,gE,iR,iT] at hk;rcases hk with rfl|rfl <;> simp
   ·refine hK _ _ ?_
    funext k
    by_cases q0:k=0
    ·subst q0;exact congrArg (LB.cells true false 27) (gN p _)
    by_cases q1:k=1
    ·subst q1;rfl
    by_cases q2:k=2
    ·subst q2
     refine congrArg (LB.cells true false 27) ?_
     simp [qC,aF]
    by_cases q3:k=3
    ·subst q3;exact congrArg (LB.cells true false 3) (cn av _)
    by_cases q4:k=4
    ·subst q4;rfl
    by_cases q5:k=5
    ·subst q5;exact congrArg (LB.cells true false 3) (cn now _)
    by_cases q6:k=6
    ·subst q6;rfl
    by_cases q7:k=7
    ·subst q7;rfl
    by_cases q8:k=8
    ·subst q8;exact congrArg (LB.cells true false 55) (fT _ _)
    simp [aW,bA,aB,q0,q1,q2,q3,q4,q5,q6,q7,q8]
end Go.Am

namespace Go.Am
open Go.Am.Ty Go.Proofs N
def nr (p:PD)(i k:Nat):Nat:=((List.range' i k).filter fun j=>decide ((p.nd j).op=2)).length
def iH (p:PD):Int:=p.tail - p.head - nr p p.head.toNat (p.tail.toNat - p.head.toNat)
def AQ (p:PD)(s:Int):Int:=p.head+s*iH p+(((p.nn - p.tail.toNat:Nat):Int) - nr p p.tail.toNat (p.nn - p.tail.toNat))
def p6 (p:PD)(a b:Nat):Option (List (List DV)):=some (((sO p.nodes).take b).drop a)
theorem zR (p:PD)(a b:Nat)(hb:b≤p.nn):(sO (p6 p a b)).length=b - a:=by
 have:b≤(sO p.nodes).length:=hb
 show ((((sO p.nodes).take b).drop a)).length=b - a
 rw [List.length_drop,List.length_take];omega
theorem Zn (lv:Key→LB){p:PD}(hp:p.ok) {es:List (List DV)}(hes:p.nodes=some es) {a b:Int}(ha:0≤a) (hab:a≤b) (hb:b≤p.nn) :
 aX Tryz.prog 24 lv (.c (dg p.nodes)) (some (.c (.d (.int .i64 a)))) (some (.c (.d (.int .i64 b))))=some (.c (dg (p6 p a.toNat b.toNat)),[],[],True):=by
 have hs:eG Tryz.prog 24=some (55,7):=by kernel_rfl
 have hl:∀ e∈es,e.length=7:=fun e he=>kX (hp.nodes e (by rw [hes];exact he))
 have hb':b≤(es.length:Int):=by have h1:=hb;unfold PD.nn at h1;rw [hes] at h1;exact h1
 unfold aX p6
 rw [hes,hs]
 simp only [dg,sO,Option.getD_some,cx]
 rw [eq_true (show 0≤a∧a≤b∧b≤(es.length:Int)∧∀ e∈es,e.length=7 from ⟨ha,hab,hb',hl⟩)]
theorem Sv (lv:Key→LB){p:PD}(hp:p.ok) {es:List (List DV)}(hes:p.nodes=some es) {a:Int}(ha:0≤a) (hb:a≤p.nn) :
 aX Tryz.prog 24 lv (.c (dg p.nodes)) (some (.c (.d (.int .i64 a)))) none=some (.c (dg (p6 p a.toNat p.nn)),[],[],True):=by
 have hs:eG Tryz.prog 24=some (55,7):=by kernel_rfl
 have hl:∀ e∈es,e.length=7:=fun e he=>kX (hp.nodes e (by rw [hes];exact he))
 have hn:p.nn=es.length:=by unfold PD.nn;rw [hes];rfl
 have hb':a≤(es.length:Int):=by rw [← hn];exact hb
 unfold aX p6
 rw [hes,hs,hn]
 simp only [dg,sO,Option.getD_some,cx,Int.toNat_natCast]
 rw [eq_true (show 0≤a∧a≤(es.length:Int)∧(es.length:Int)≤(es.length:Int)∧∀ e∈es,e.length=7 from ⟨ha,hb',Int.le_refl _,hl⟩)]
theorem EI {p:PD}(hp:p.ok) (lv:Key→LB) {a b j:Nat}(hj:j<b - a) (hb:b≤p.nn):ak Tryz.prog 24 lv (.c (dg (p6 p a b))) (.c (.d (.int .i64 (j:Int))))=some (.c (.d (.ptr (p.nd (a+j)).e)),[],[],True):=by
 have hbl:b≤(sO p.nodes).length:=hb
 refine Sw (o:=p6 p a b) (sz:=7) (by simp) (by omega) (by rw [zR p a b hb];omega) ?_ rfl
 have h1:(sO (p6 p a b)).getD j []=(sO p.nodes).getD (a+j) []:=by
  show ((((sO p.nodes).take b).drop a)).getD j []=_
  rw [List.getD_eq_getElem?_getD,List.getD_eq_getElem?_getD,List.getElem?_drop,List.getElem?_take,if_pos (by omega)]
 rw [Int.toNat_natCast,h1]
 exact Dc (gD hp.nodes (by omega))
theorem yZ {p:PD}(lv:Key→LB) {a b:Nat}(hb:b≤p.nn):eE Tryz.prog 24 lv (.c (dg (p6 p a b)))=some (.c (.d (.int .i64 ((b - a:Nat):Int))),[],[],True):=by
 have h:=bY (P:=Tryz.prog) (T:=24) (lv:=lv) (o:=p6 p a b) (by simp)
 rw [zR p a b hb] at h
 exact h
theorem H8 {p:PD}(h:gp p=0):0≤p.head∧p.head≤p.tail∧p.tail≤p.nn∧p.nn≤64∧p.ns≤1000:=by
 obtain⟨a,b,c,_,_,d,e⟩:=nO h
 exact⟨a,b,c,d,by omega⟩
theorem kE (p:PD)(i k:Nat):nr p i (k+1)=nr p i k+if (p.nd (i+k)).op=2 then 1 else 0:=by
 unfold nr
 rw [List.range'_concat,List.filter_append,List.length_append]
 by_cases h:(p.nd (i+k)).op=2 <;> simp [h]
theorem rP (p:PD)(i k:Nat):nr p i k≤k:=by
 induction k with
 | zero=>exact Nat.le_refl _
 | succ k ih=>rw [kE];split <;> omega
set_option maxHeartbeats 8000000 in
theorem Ki (m:Int)(p:PD)(hp:p.ok)(s:Int)(h0:(fI p).2.2=0)(hs:0≤s∧s≤200)(hbig:64<AQ p s):ah Tryz.prog (GG m) 26 [p.A,.c (.d (.int .i64 s))] (.tup [m9.A,.c (.d (.int .i64 3))]):=by
 have h:=uY m p hp
 have hg:=qj hp h0
 rw [h0] at h
 have s1:¬ s<0:=by omega
 have s2:¬ 200<s:=by omega
 obtain⟨es,hes⟩:=zw hg.gen
 obtain⟨g1,g2,g3,g4,g5⟩:=H8 hg.gen
 have hb:p.tail.toNat≤p.nn:=by omega
 have hsn:=rP p p.head.toNat (p.tail.toNat - p.head.toNat)
 have hX:0≤iH p∧iH p≤64:=by unfold iH;omega
 have hX1:0≤s*iH p:=Int.mul_nonneg hs.1 hX.1
 have hX2:s*iH p≤200*64:=Int.mul_le_mul hs.2 hX.2 hX.1 (by omega)
 obtain⟨M0,hM0⟩:∃ M0,M0=p.head+s*iH p:=⟨_,rfl⟩
 have k1:=cX (n:=p.tail - p.head) (by omega) (by omega)
 have k2:IntKind.i64.wrap (p.tail - p.head - (nr p p.head.toNat (p.tail.toNat - p.head.toNat):Int))=iH p:=cX (n:=iH p) (by omega) (by omega)
 have k3:=cX (n:=s*iH p) (by omega) (by omega)
 have k4:=cX (n:=p.head+s*iH p) (by omega) (by omega)
 have hsl1:=fun lv=>Sv lv hp hes (a:=p.tail) (by omega) g3
 have hln1:=fun lv=>yZ (p:=p) lv (a:=p.tail.toNat) (Nat.le_refl p.nn)
 have hsl:=fun lv=>Zn lv hp hes g1 g2 g3
 have hln:=fun lv=>yZ (p:=p) lv (a:=p.head.toNat) hb
 refine ah.EU Go.Proofs.Tryz.func26 rfl (by rw [Tryz.ntmps26];simp) (fun lv=>EC lv _ _) ?_
 rintro⟨_,_,w0,F0,W0,_,bu,β0⟩ rfl rfl rfl rfl
 refine AW.ag fun K hK=>?_
 refine AW.aa rfl ?_
 simp
 apply hK;clear hK K
 refine AW.ag fun K hK=>?_
 refine AW.ag fun K1 hK1=>?_
 refine AW.aa rfl ?_
 simp
 refine ai.pure 2 9 (h) (by first|(simp;done)|rfl) (by simp) (by first|rfl|simp) ?_
 simp
 apply hK1;clear hK1 K1
 refine AW.ag fun K1 hK1=>?_
 refine AW.aa rfl ?_
 simp
 apply hK1;clear hK1 K1
 refine AW.cond (b:=false) (by first|(simp [];done)|(simp [];omega)) ?_
 refine AW.skip ?_
 simp
 apply hK;clear hK K
 refine AW.ag fun K hK=>?_
 refine AW.ag fun K1 hK1=>?_
 refine AW.aa rfl ?_
 simp [s1,s2]
 apply hK1;clear hK1 K1
 refine AW.cond (b:=false) (by first|(simp [];done)|(simp [];omega)) ?_
 refine AW.skip ?_
 simp
 apply hK;clear hK K
 refine AW.ag fun K hK=>?_
 refine AW.aa rfl ?_
 simp
 apply hK;clear hK K
 refine AW.ag fun K hK=>?_
 refine AW.ag fun K1 hK1=>?_
 refine AW.aa rfl ?_
 simp [hsl,hln]
 apply hK1;clear hK1 K1
 refine AW.block ?_
 refine AW.b9 (fun (j:Nat)=>⟨bp [(1,.c (.d (.int .i64 s))),(2,.c (.ptr 0 0)),(4,.c (.ptr 1 0)),(7,.c (.d (.int .i64 (nr p p.head.toNat j)))),(41,.c (dg (p6 p p.head.toNat p.tail.toNat))),(42,.c (.d (.int .i64 ((p.tail.toNat - p.head.toNat:Nat):Int)))),(43,.c (.d (.int .i64 j)))],
  aB (aB (fun _=>.hole) 0 (.cells true false 27 p.cs)) 1 (.cells true false 27 m9.cs)⟩) 2
  (fun j=>j≤p.tail.toNat - p.head.toNat) (fun j=>p.tail.toNat - p.head.toNat - j) 0 (Le.mk' _ (by simp [m9,dg]) (by repeat (first|exact aL|refine aN ?_ _ _ _ _ _|(refine aq ?_ _)|(refine aQ ?_ _ _ _)|(refine au ?_ _)|simp)) (by simp [nr])) (Nat.zero_le _) ?_
 rintro j hj
 try simp only at hj
 refine AW.ag fun K3 hK3=>?_
 refine AW.aa rfl ?_
 simp
 apply hK3;clear hK3 K3
 refine AW.ag fun K2 hK2=>?_
 by_cases hlt:j<p.tail.toNat - p.head.toNat
 ·have hlt':(j:Int)<((p.tail.toNat - p.head.toNat:Nat):Int):=by omega
  have hx:=fun lv=>EI hp lv hlt hb
  have f12:=cX (n:=(j:Int)+1) (by omega) (by omega)
  have hsle:=rP p p.head.toNat j
  have hss:=kE p p.head.toNat j
  have f13:=cX (n:=(nr p p.head.toNat j:Int)+1) (by omega) (by omega)
  refine AW.cond (b:=true) (by first|(simp [hlt'];done)|(simp [hlt'];omega)) ?_
  refine AW.skip ?_
  simp
  apply hK2
  refine AW.ag fun K3 hK3=>?_
  refine AW.block ?_
  refine AW.ag fun K4 hK4=>?_
  refine AW.aa rfl ?_
  simp [hx,aj]
  apply hK4;clear hK4 K4
  refine AW.ag fun K4 hK4=>?_
  refine AW.aa rfl ?_
  simp
  apply hK4;clear hK4 K4
  by_cases h2:(p.nd (p.head.toNat+j)).op=2
  ·have h2':((p.nd (p.head.toNat+j)).op=2)=True:=by simp [h2]
   refine AW.cond (b:=true) (by first|(simp [h2'];done)|(simp [h2'];omega)) ?_
   refine AW.aa rfl ?_
   simp [f13]
   apply hK3
   refine AW.aa rfl ?_
   simp [f12]
   rw [if_pos h2] at hss
   refine⟨j+1,?_,by omega,by omega⟩
   simp only [hss]
   exact (Le.drop [2]  9 _ rfl (by intro k hk;simp at hk;subst hk;simp [aB]) (by intro k hk;simp at hk;simp only [aB];(repeat (any_goals split)) <;> simp_all) (by simp [aB]) (by repeat (first|exact aL|refine aN ?_ _ _ _ _ _|(refine aq ?_ _)|(refine aQ ?_ _ _ _)|(refine au ?_ _)|simp)) (by repeat (first|exact dW|refine fc ?_ (by simp [pg]))) (by simp [pg]))
  ·have h2':((p.nd (p.head.toNat+j)).op=2)=False:=by simp [h2]
   refine AW.cond (b:=false) (by first|(simp [h2'];done)|(simp [h2'];omega)) ?_
   refine AW.skip ?_
   simp
   apply hK3
   refine AW.aa rfl ?_
   simp [f12]
   rw [if_neg h2] at hss
   refine⟨j+1,?_,by omega,by omega⟩
   simp only [hss]
   exact (Le.drop [2]  9 _ rfl (by intro k hk;simp at hk;subst hk;simp [aB]) (by intro k hk;simp at hk;simp only [aB];(repeat (any_goals split)) <;> simp_all) (by simp [aB]) (by repeat (first|exact aL|refine aN ?_ _ _ _ _ _|(refine aq ?_ _)|(refine aQ ?_ _ _ _)|(refine au ?_ _)|simp)) (by repeat (first|exact dW|refine fc ?_ (by simp [pg]))) (by simp [pg]))
 have hje:j=p.tail.toNat - p.head.toNat:=by omega
 subst hje
 refine AW.cond (b:=false) (by first|(simp [];done)|(simp [];omega)) ?_
 refine AW.exit ?_
 simp
 apply hK
 refine AW.ag fun K9 hK9=>?_
 refine AW.aa rfl ?_
 simp [k1,k2,k3,k4,hM0]
 apply hK9;clear hK9 K9
 refine AW.ag fun K9 hK9=>?_
 refine AW.ag fun K1 hK1=>?_
 refine AW.aa rfl ?_
 simp [hsl1,hln1]
 apply hK1;clear hK1 K1
 refine AW.block ?_
 refine AW.b9 (fun (j:Nat)=>⟨bp [(1,.c (.d (.int .i64 s))),(2,.c (.ptr 0 0)),(4,.c (.ptr 1 0)),(10,.c (.d (.int .i64 (M0+((j:Int) - nr p p.tail.toNat j))))),(69,.c (dg (p6 p p.tail.toNat p.nn))),(70,.c (.d (.int .i64 ((p.nn - p.tail.toNat:Nat):Int)))),(71,.c (.d (.int .i64 j)))],
  aB (aB (fun _=>.hole) 0 (.cells true false 27 p.cs)) 1 (.cells true false 27 m9.cs)⟩) 2
  (fun j=>j≤p.nn - p.tail.toNat) (fun j=>p.nn - p.tail.toNat - j) 0 (Le.mk' _ (by simp [m9,dg]) (by repeat (first|exact aL|refine aN ?_ _ _ _ _ _|(refine aq ?_ _)|(refine aQ ?_ _ _ _)|(refine au ?_ _)|simp)) (by simp [nr,hM0])) (Nat.zero_le _) ?_
 rintro j hj
 try simp only at hj
 refine AW.ag fun K3 hK3=>?_
 refine AW.aa rfl ?_
 simp
 apply hK3;clear hK3 K3
 refine AW.ag fun K2 hK2=>?_
 by_cases hlt:j<p.nn - p.tail.toNat
 ·have hlt':(j:Int)<((p.nn - p.tail.toNat:Nat):Int):=by omega
  have hx:=fun lv=>EI hp lv hlt (Nat.le_refl p.nn)
  have f12:=cX (n:=(j:Int)+1) (by omega) (by omega)
  have hsle:=rP p p.tail.toNat j
  have hss:=kE p p.tail.toNat j
  have f13:=cX (n:=M0+((j:Int) - nr p p.tail.toNat j)+1) (by omega) (by omega)
  refine AW.cond (b:=true) (by first|(simp [hlt'];done)|(simp [hlt'];omega)) ?_
  refine AW.skip ?_
  simp
  apply hK2
  refine AW.ag fun K3 hK3=>?_
  refine AW.block ?_
  refine AW.ag fun K4 hK4=>?_
  refine AW.aa rfl ?_
  simp [hx,aj]
  apply hK4;clear hK4 K4
  refine AW.ag fun K4 hK4=>?_
  refine AW.aa rfl ?_
  simp
  apply hK4;clear hK4 K4
  by_cases h2:(p.nd (p.tail.toNat+j)).op=2
  ·have h2':((p.nd (p.tail.toNat+j)).op=2)=True:=by simp [h2]
   refine AW.cond (b:=false) (by first|(simp [h2'];done)|(simp [h2'];omega)) ?_
   refine AW.skip ?_
   simp
   apply hK3
   refine AW.aa rfl ?_
   simp [f12]
   rw [if_pos h2] at hss
   refine⟨j+1,?_,by omega,by omega⟩
   have hv:M0+(((j+1:Nat):Int) - ((nr p p.tail.toNat (j+1):Nat):Int))=M0+((j:Int) - nr p p.tail.toNat j):=by rw [hss];omega
   simp only [hv]
   exact (Le.drop [2]  9 _ rfl (by intro k hk;simp at hk;subst hk;simp [aB]) (by intro k hk;simp at hk;simp only [aB];(repeat (any_goals split)) <;> simp_all) (by simp [aB]) (by repeat (first|exact aL|refine aN ?_ _ _ _ _ _|(refine aq ?_ _)|(refine aQ ?_ _ _ _)|(refine au ?_ _)|simp)) (by repeat (first|exact dW|refine fc ?_ (by simp [pg]))) (by simp [pg]))
  ·have h2':((p.nd (p.tail.toNat+j)).op=2)=False:=by simp [h2]
   refine AW.cond (b:=true) (by first|(simp [h2'];done)|(simp [h2'];omega)) ?_
   refine AW.aa rfl ?_
   simp [f13]
   apply hK3
   refine AW.aa rfl ?_
   simp [f12]
   rw [if_neg h2] at hss
   refine⟨j+1,?_,by omega,by omega⟩
   have hv:M0+(((j+1:Nat):Int) - ((nr p p.tail.toNat (j+1):Nat):Int))=M0+((j:Int) - nr p p.tail.toNat j)+1:=by rw [hss];omega
   simp only [hv]
   exact (Le.drop [2]  9 _ rfl (by intro k hk;simp at hk;subst hk;simp [aB]) (by intro k hk;simp at hk;simp only [aB];(repeat (any_goals split)) <;> simp_all) (by simp [aB]) (by repeat (first|exact aL|refine aN ?_ _ _ _ _ _|(refine aq ?_ _)|(refine aQ ?_ _ _ _)|(refine au ?_ _)|simp)) (by repeat (first|exact dW|refine fc ?_ (by simp [pg]))) (by simp [pg]))
 have hje:j=p.nn - p.tail.toNat:=by omega
 subst hje
 refine AW.cond (b:=false) (by first|(simp [];done)|(simp [];omega)) ?_
 refine AW.exit ?_
 simp
 apply hK9
 have hmm:M0+(((p.nn - p.tail.toNat:Nat):Int) - nr p p.tail.toNat (p.nn - p.tail.toNat))=AQ p s:=by rw [hM0];rfl
 generalize M0+(((p.nn - p.tail.toNat:Nat):Int) - nr p p.tail.toNat (p.nn - p.tail.toNat))=mm at *
 subst hmm
 refine AW.ag fun K4 hK4=>?_
 refine AW.ag fun K5 hK5=>?_
 refine AW.aa rfl ?_
 simp [hbig]
 apply hK5;clear hK5 K5
 refine AW.cond (b:=true) (by first|(simp [];done)|(simp [];omega)) ?_
 refine AW.ag fun K5 hK5=>?_
 refine AW.aa rfl ?_
 simp [Zc]
 apply hK5;clear hK5 K5
 refine AW.ret ?_
 refine eI.jQ (κ:=0) (T:=27) (t:=4) (u:=5) (k:=1) (off:=0) (own:=true) (fz:=false) (U:=27) (cs:=m9.cs) rfl ?_ ?_ ?_ ?_ rfl rfl
 ·simp
 ·simp [aj]
 ·rw [List.drop_zero];exact Cq ..
 ·simp
end Go.Am

namespace Go.Am
open Go.Am.Ty Go.Proofs N
theorem oF {p:PD}(hg:p.good) {i:Nat}(hi:i<p.nn):(1≤(p.nd i).op∧(p.nd i).op≤15)∧((p.nd i).op=2→0≤(p.nd i).a∧(p.nd i).a<p.ns)∧∀ x∈cz (p.nd i),0≤x∧x<i:=by
 have h:=hg.nodes i hi
 unfold rM at h
 by_cases c1:1≤(p.nd i).op∧(p.nd i).op≤15
 rotate_left
 ·rw [if_pos c1] at h;cases h
 rw [if_neg (not_not_intro c1)] at h
 refine⟨c1,fun h2=>?_,?_⟩
 ·(repeat' split at h) <;> first|omega|cases h
 ·by_cases h3:(p.nd i).op=3
  ·intro x hx
   unfold cz at hx
   rw [if_pos c1,h3] at hx
   cases hx
  ·rw [if_neg h3] at h
   have hk:(cz (p.nd i)).all (fR p i)=true:=by
    cases hkk:(cz (p.nd i)).all (fR p i) with
    | true=>rfl
    | false=>rw [hkk] at h;(repeat' split at h) <;> first|contradiction|(cases h;done)|(exfalso;simp_all)
   intro x hx
   have:=List.all_eq_true.1 hk x hx
   unfold fR at this
   simp at this
   omega
end Go.Am

namespace Go.Am
open Go.Am.Ty Go.Proofs N
theorem AW.le {c:Ctx}{r:Option Nat}{x:Code}{s s2:aG}{κ κ2:Nat}{Q:Ex→aG→Nat→Prop}(h:Le c s s2) (k:AW c r x s2 κ2 Q):AW c r x s κ Q:=by
 obtain⟨g,hg⟩:=h
 exact AW.coarse hg k
theorem CC (n:Nat):zK (List.replicate n 0)=List.replicate n (CV.d (.int .i64 0)):=by unfold zK;rw [List.map_replicate]
def g8 (k5 k7 kh:Key):Key→Key:=fun k=>if k=0 then 0 else if k=1 then 1 else if k=2 then 2 else if k=3 then 3 else if k=4 then 4 else if k=5 then k5 else if k=6 then 6 else if k=7 then k7 else kh
theorem EN (k5 k7 kh:Key)(a b d e f g h i:LB):cH [(0,0,a),(1,1,b),(2,2,d),(3,3,e),(4,4,f),(5,k5,g),(6,6,h),(7,k7,i)] kh=g8 k5 k7 kh:=by
 funext k
 unfold g8
 by_cases h0:k=0
 ·subst h0;rfl
 by_cases h1:k=1
 ·subst h1;rfl
 by_cases h2:k=2
 ·subst h2;rfl
 by_cases h3:k=3
 ·subst h3;rfl
 by_cases h4:k=4
 ·subst h4;rfl
 by_cases h5:k=5
 ·subst h5;rfl
 by_cases h6:k=6
 ·subst h6;rfl
 by_cases h7:k=7
 ·subst h7;rfl
 rw [if_neg h0,if_neg h1,if_neg h2,if_neg h3,if_neg h4,if_neg h5,if_neg h6,if_neg h7]
 have e:∀ j:Key,k≠j→(j == k)=false:=fun j hj=>by simpa using fun h=>hj h.symm
 simp [cH,List.find?,e _ h0,e _ h1,e _ h2,e _ h3,e _ h4,e _ h5,e _ h6,e _ h7]
def g9:Key→Key:=fun k=>if k=9 then 9 else g8 5 7 19 k
theorem JO (a b d e f g h i j:LB):cH [(0,0,a),(1,1,b),(2,2,d),(3,3,e),(4,4,f),(5,5,g),(6,6,h),(7,7,i),(9,9,j)] 19=g9:=by
 funext k
 unfold g9
 by_cases h9:k=9
 ·subst h9;rfl
 rw [if_neg h9,← EN 5 7 19 a b d e f g h i]
 have e:(9 == k)=false:=by simpa using fun h:(9:Nat)=k=>h9 h.symm
 simp [cH,List.find?,e]
theorem N2 (L:List Nd)(k5 k7 kh:Key):(uS L).bt (g8 k5 k7 kh)=if L=[] then .d .nilsl else .aJ k7 0 L.length 7:=by
 unfold uS;split <;> rfl
theorem qx (L:List Nd)(g:Key→Key):(uB L).like (uB L) g:=by
 unfold uB;split
 ·rfl
 ·exact⟨true,_,rfl,(fT L g).symm,id⟩
theorem WZ {c:Ctx}(hc:c.bu=fun _=>.hole) {fr:Nat→AV}{lv:Key→LB}{p:PD}{z:LB}{now av:List Int}(L:List Nd) (k5 k7 kh:Key) (l:List (Nat × AV)) (hn:([0,1,2,3,4,k5,6,k7]:List Key).Nodup) (hz:∀ g,z.like z g)
 (h0:lv 0=.cells true false 27 p.cs) (h1:lv 1=z) (h2:lv 2=.cells true false 27 (qC p (if L=[] then .d .nilsl else .aJ k7 0 L.length 7))) (h3:lv 3=.cells true false 3 (zK av)) (h4:lv 4=.cells true false 30 [.aJ 3 0 av.length 1]) (h5:lv k5=.cells true false 3 (zK now)) (h6:lv 6=.cells true false 30 [.aJ k5 0 now.length 1]) (h7:∀ g,(lv k7).like (uB L) g) (h9:lv kh=.hole)
 (hl:∀ x∈l,x.2.bD=true∧fr x.1=x.2.bt (g8 k5 k7 kh)):Le c ⟨fr,lv⟩ ⟨bp l,qA p z now av (uS L) (uB L) .hole⟩:=by
 have hk:=EN k5 k7 kh (.cells true false 27 p.cs) z (.cells true false 27 (qC p (uS L))) (.cells true false 3 (zK av)) (.cells true false 30 [.aJ 3 0 av.length 1]) (.cells true false 3 (zK now)) (.cells true false 30 [.aJ 5 0 now.length 1]) (uB L)
 refine Le.keys [(0,0,.cells true false 27 p.cs),(1,1,z),(2,2,.cells true false 27 (qC p (uS L))),(3,3,.cells true false 3 (zK av)),(4,4,.cells true false 30 [.aJ 3 0 av.length 1]),(5,k5,.cells true false 3 (zK now)),(6,6,.cells true false 30 [.aJ 5 0 now.length 1]),(7,k7,uB L)] kh l ?_ hc (by simp) hn h9 ?_ (by rw [hk];exact hl)
 ·exact jf (k:=8) rfl
 ·rw [hk]
  intro x hx
  simp only [List.mem_cons,List.not_mem_nil,or_false] at hx
  rcases hx with rfl|rfl|rfl|rfl|rfl|rfl|rfl|rfl
  ·exact⟨true,p.cs,h0,(gN p _).symm,id⟩
  ·show (lv 1).like z _
   rw [h1];exact hz _
  ·refine⟨true,_,h2,?_,id⟩
   rw [← N2 L k5 k7 kh];simp [qC]
  ·exact⟨true,_,h3,(cn _ _).symm,id⟩
  ·exact⟨true,_,h4,rfl,id⟩
  ·exact⟨true,_,h5,(cn _ _).symm,id⟩
  ·exact⟨true,_,h6,rfl,id⟩
  ·exact h7 _
theorem XZ {c:Ctx}(hc:c.bu=fun _=>.hole) {fr:Nat→AV}{lv:Key→LB}{p:PD}{z:LB}{now av:List Int}{L:List Nd}(l:List (Nat × AV)) (hz:∀ g,z.like z g) (hlv:lv=qA p z now av (uS L) (uB L) .hole)
 (hl:∀ x∈l,x.2.bD=true∧fr x.1=x.2.bt (g8 5 7 19)):Le c ⟨fr,lv⟩ ⟨bp l,qA p z now av (uS L) (uB L) .hole⟩:=by
 subst hlv
 exact WZ hc L 5 7 19 l (by decide) hz rfl rfl rfl rfl rfl rfl rfl (fun g=>qx L g) rfl hl
theorem Iz {c:Ctx}(hc:c.bu=fun _=>.hole) {fr:Nat→AV}{lv:Key→LB}{p:PD}{z:LB}{now av:List Int}{L0 L:List Nd}(hLL:L0.length≤L.length) (l:List (Nat × AV)) (hz:∀ g,z.like z g) (hlv:lv=qA p z now av (uV L0 L) (u7 L0 L) (u8 L0 L))
 (hl:∀ k7,∀ x∈l,x.2.bD=true∧fr x.1=x.2.bt (g8 5 k7 19)):Le c ⟨fr,lv⟩ ⟨bp l,qA p z now av (uS L) (uB L) .hole⟩:=by
 by_cases h:L.length=L0.length
 ·refine XZ hc l hz ?_ (hl 7)
  rw [hlv,show uV L0 L=uS L from if_pos h,show u7 L0 L=uB L from if_pos h,show u8 L0 L=.hole from if_pos h]
 ·have hne:L≠[]:=fun e=>h (by rw [e] at hLL ⊢;simp only [List.length_nil] at hLL ⊢;omega)
  subst hlv
  refine WZ hc L 5 8 19 l (by decide) hz rfl rfl ?_ rfl rfl rfl rfl (fun g=>?_) rfl (hl 8)
  ·rw [if_neg hne]
   show LB.cells true false 27 (qC p (uV L0 L))=_
   rw [show uV L0 L=.aJ 8 0 L.length 7 from if_neg h]
  ·show (u8 L0 L).like (uB L) g
   rw [show u8 L0 L=.cells true false 55 (ij L) from if_neg h,← show uB L=.cells true false 55 (ij L) from if_neg hne]
   exact qx L g
theorem SL {c:Ctx}(hc:c.bu=fun _=>.hole) {fr:Nat→AV}{lv:Key→LB}{p:PD}{z:LB}{now av nx:List Int}(L:List Nd) (l:List (Nat × AV)) (hz:∀ g,z.like z g)
 (h0:lv 0=.cells true false 27 p.cs) (h1:lv 1=z) (h2:lv 2=.cells true false 27 (qC p (uS L))) (h3:lv 3=.cells true false 3 (zK av)) (h4:lv 4=.cells true false 30 [.aJ 3 0 av.length 1]) (h5:lv 5=.cells true false 3 (zK now)) (h6:lv 6=.cells true false 30 [.aJ 5 0 now.length 1]) (h7:lv 7=uB L) (h9:lv 9=.cells true false 3 (zK nx)) (hh:lv 19=.hole)
 (hl:∀ x∈l,x.2.bD=true∧fr x.1=x.2.bt g9):Le c ⟨fr,lv⟩ ⟨bp l,aB (qA p z now av (uS L) (uB L) .hole) 9 (.cells true false 3 (zK nx))⟩:=by
 have hk:=JO (.cells true false 27 p.cs) z (.cells true false 27 (qC p (uS L))) (.cells true false 3 (zK av)) (.cells true false 30 [.aJ 3 0 av.length 1]) (.cells true false 3 (zK now)) (.cells true false 30 [.aJ 5 0 now.length 1]) (uB L) (.cells true false 3 (zK nx))
 refine Le.keys [(0,0,.cells true false 27 p.cs),(1,1,z),(2,2,.cells true false 27 (qC p (uS L))),(3,3,.cells true false 3 (zK av)),(4,4,.cells true false 30 [.aJ 3 0 av.length 1]),(5,5,.cells true false 3 (zK now)),(6,6,.cells true false 30 [.aJ 5 0 now.length 1]),(7,7,uB L),(9,9,.cells true false 3 (zK nx))] 19 l ?_ hc (by simp) (by simp) hh ?_ (by rw [hk];exact hl)
 ·exact congrArg (fun f=>aB f 9 (LB.cells true false 3 (zK nx))) (jf (k:=8) rfl)
 ·rw [hk]
  intro x hx
  simp only [List.mem_cons,List.not_mem_nil,or_false] at hx
  rcases hx with rfl|rfl|rfl|rfl|rfl|rfl|rfl|rfl|rfl
  ·exact⟨true,p.cs,h0,(gN p _).symm,id⟩
  ·show (lv 1).like z _
   rw [h1];exact hz _
  ·refine⟨true,_,h2,?_,id⟩
   have:(uS L).bt g9=uS L:=by unfold uS;split <;> rfl
   simp [qC,this]
  ·exact⟨true,_,h3,(cn _ _).symm,id⟩
  ·exact⟨true,_,h4,rfl,id⟩
  ·exact⟨true,_,h5,(cn _ _).symm,id⟩
  ·exact⟨true,_,h6,rfl,id⟩
  ·show (lv 7).like (uB L) _
   rw [h7];exact qx L _
  ·exact⟨true,_,h9,(cn _ _).symm,id⟩
def wz (p:PD)(av:List Int)(sel:Int × Int→Int):Nat→List Int→List Int
 | 0,l=>l
 | j+1,l=>(wz p av sel j l).set j (av.getD (sel (p.st j)).toNat 0)
theorem tv (p:PD)(av:List Int)(sel:Int × Int→Int)(l:List Int):∀ j,(wz p av sel j l).length=l.length
 | 0=>rfl
 | j+1=>by rw [wz,List.length_set,tv p av sel l j]
def xl (p:PD)(s:List Int × List Int × List Nd):List Int × List Int × List Nd:=
 (wz p (ey p s.1 (s.2.1,s.2.2) p.head.toNat (p.tail.toNat - p.head.toNat)).1 Prod.snd p.ns (List.replicate s.1.length 0),(ey p s.1 (s.2.1,s.2.2) p.head.toNat (p.tail.toNat - p.head.toNat)).1,(ey p s.1 (s.2.1,s.2.2) p.head.toNat (p.tail.toNat - p.head.toNat)).2)
def s8 (p:PD)(s:List Int × List Int × List Nd):Nat→List Int × List Int × List Nd
 | 0=>s
 | j+1=>xl p (s8 p s j)
theorem GS (p:PD)(now:List Int)(s:List Int × List Nd)(i k:Nat):∃ M,(ey p now s i k).2=s.2++M:=by
 induction k with
 | zero=>exact⟨[],by simp [ey]⟩
 | succ k ih=>
  obtain⟨M,hM⟩:=ih
  rw [hJ]
  unfold iz
  split
  ·exact⟨M,hM⟩
  ·exact⟨M++[(p.nd (i+k)).iO ((ey p now s i k).1.set (i+k) (ey p now s i k).2.length)],by simp [hM]⟩
theorem EL {p:PD}{now:List Int}{s:List Int × List Nd}{i k:Nat}(h:(ey p now s i k).2.length=s.2.length):(ey p now s i k).2=s.2:=by
 obtain⟨M,hM⟩:=GS p now s i k
 rw [hM,List.length_append] at h
 rw [hM,List.eq_nil_of_length_eq_zero (by omega:M.length=0),List.append_nil]
theorem EM (p:PD)(s:List Int × List Int × List Nd)(hb:p.tail.toNat - p.head.toNat≤64):∀ j,(s8 p s j).1.length=s.1.length∧(s8 p s j).2.1.length=s.2.1.length∧s.2.2.length≤(s8 p s j).2.2.length∧(s8 p s j).2.2.length≤s.2.2.length+j*64
 | 0=>⟨rfl,rfl,Nat.le_refl _,by simp [s8]⟩
 | j+1=>by
  obtain⟨h1,h2,h3,h4⟩:=EM p s hb j
  have h5:=nB p (s8 p s j).1 ((s8 p s j).2.1,(s8 p s j).2.2) p.head.toNat (p.tail.toNat - p.head.toNat)
  simp only [s8,xl,tv,mw,List.length_replicate]
  simp only at h5
  exact⟨h1,h2,by omega,by omega⟩
def nW (p:PD):List Int × List Nd:=ey p (List.replicate p.ns 0) (List.replicate p.nn 0,[]) 0 (p.head.toNat - 0)
def iK (p:PD)(n:Nat):List Int × List Int × List Nd:=s8 p (wz p (nW p).1 Prod.fst p.ns (List.replicate p.ns 0),(nW p).1,(nW p).2) n
def jn (p:PD)(n:Nat):List Int × List Nd:=ey p (iK p n).1 ((iK p n).2.1,(iK p n).2.2) p.tail.toNat (p.nn - p.tail.toNat)
def iC (p:PD)(n:Nat):PD:=⟨p.f,p.mode,p.ins,some ((jn p n).2.map Nd.e),(jn p n).2.length,(jn p n).2.length,none,(jn p n).1.getD p.res.toNat 0⟩
theorem LU {p:PD}(hp:p.ok) (lv:Key→LB) (i:Nat) (hi:i<p.ns):ak Tryz.prog 25 lv (.c (dg p.states)) (.c (.d (.int .i64 (i:Int))))=some (.c (.d (.ptr (Vx (p.st i)))),[],[],True):=by
 have:=Zt hp lv (i:Int) (by omega) (by omega)
 rwa [Int.toNat_natCast] at this
theorem OC (L:List Nd):(L.map Nd.e).flatten.map CV.d=ij L:=by unfold ij;rw [List.flatMap_def]
theorem I5 {lv:Key→LB}{p:PD}{L:List Nd}{own fz:Bool}{h t r n:Int}(hl:L.length≤1000000) (h7:lv 7=.cells own fz 55 (ij L)) :
 fX lv (.tup [.agg [dg p.f,.d (.int .i64 p.mode),dg p.ins,.aJ 7 0 L.length 7,.d (.int .i64 h),.d (.int .i64 t),.d .nilsl,.d (.int .i64 r)],.c (.d (.int .i64 n))]) =
  some (.tup [(⟨p.f,p.mode,p.ins,some (L.map Nd.e),h,t,none,r⟩:PD).A,.c (.d (.int .i64 n))],[7]):=by
 have e1:=lf (lv:=lv) (k:=7) (own:=own) (fz:=fz) (T:=55) (es:=L.map Nd.e) (sz:=7) (by rw [OC];exact h7) (fun e he=>by obtain⟨n,_,rfl⟩:=List.mem_map.1 he;rfl) (by rw [List.length_map];omega)
 rw [List.length_map] at e1
 have e2:cF lv 8 (.aJ 7 0 L.length 7)=some (.sl (L.map Nd.e),[7]):=by
  simp only [fX,dZ,Option.map_eq_some_iff] at e1
  obtain⟨⟨a,b⟩,h1,h2⟩:=e1
  rw [h1]
  simp only [Prod.mk.injEq,AV.c.injEq,CV.d.injEq] at h2
  rw [h2.1,h2.2]
 have f1:∀ x:DV,cF lv 8 (.d x)=some (x,[]):=fun x=>rfl
 simp only [fX,iP,dZ,HP,eR,f1,e2,Option.map_some,List.append_nil,List.nil_append,List.map_cons,List.map_nil,PD.A,PD.cs]
 rfl
end Go.Am

namespace Go.Am
open Go.Am.Ty Go.Proofs N
theorem Cm {p:PD}(hg:p.good) {i:Nat}(hi:i<p.ns):0≤(p.st i).1∧(p.st i).1<p.head∧0≤(p.st i).2∧(p.st i).2<p.tail:=by
 have h:=hg.states i hi
 unfold FZ at h
 by_cases h1:0≤(p.st i).1∧(p.st i).1<p.head
 ·rw [if_neg (not_not_intro h1)] at h
  by_cases h2:0≤(p.st i).2∧(p.st i).2<p.tail
  ·exact⟨h1.1,h1.2,h2.1,h2.2⟩
  ·rw [if_pos h2] at h;cases h
 ·rw [if_pos h1] at h;cases h
theorem eA {p:PD}:gp p=0↔(p.nf≤6∧p.ni≤6∧p.nn≤64∧p.ns≤4)∧(p.nf≠0∧p.nn≠0∧0≤p.mode∧p.mode≤4)∧(0≤p.head∧p.head≤p.tail∧p.tail≤p.nn)∧(p.ns=0→p.head=p.nn):=by
 unfold gp PD.nf PD.ni PD.nn PD.ns
 constructor
 ·intro h
  (repeat' split at h) <;> first|(cases h;done)|exact⟨⟨by omega,by omega,by omega,by omega⟩,⟨by omega,by omega,by omega,by omega⟩,⟨by omega,by omega,by omega⟩,fun h0=>by omega⟩
 ·rintro⟨⟨a1,a2,a3,a4⟩,⟨b1,b2,b3,b4⟩,⟨c1,c2,c3⟩,d⟩
  rw [if_neg (by omega),if_neg (by omega),if_neg (by omega),if_neg]
  rintro⟨h0,h1⟩
  exact h1 (d h0)
theorem Bj {p:PD}(hg:p.good):1≤p.head:=by
 obtain⟨_,⟨_,b,_⟩,_,d⟩:=eA.1 hg.gen
 by_cases h0:p.ns=0
 ·have:=d h0;omega
 ·have:=Cm hg (i:=0) (by omega);omega
theorem yN {p:PD}{i:Int}{n:Nd}:rM p i n=0↔(1≤n.op∧n.op≤15)∧kD n=true∧(0≤n.f∧n.f<p.nf)∧(n.op=1→0≤n.a∧n.a<p.ni)∧(n.op=1→(p.CX n.a.toNat).f=n.f)∧(n.op=2→¬ i<p.head∧0≤n.a∧n.a<p.ns)∧(n.op=3→jg n.v=0)∧(n.op≠3→(cz n).all (fR p i)=true):=by
 unfold rM
 by_cases c1:1≤n.op∧n.op≤15
 rotate_left
 ·rw [if_pos c1];exact⟨fun h=>(by cases h),fun h=>absurd h.1 c1⟩
 rw [if_neg (not_not_intro c1)]
 by_cases c2:kD n=false
 ·rw [if_pos c2];exact⟨fun h=>(by cases h),fun h=>(by rw [h.2.1] at c2;cases c2)⟩
 rw [if_neg c2]
 have c2':kD n=true:=by simpa using c2
 by_cases c3:0≤n.f∧n.f<p.nf
 rotate_left
 ·rw [if_pos c3];exact⟨fun h=>(by cases h),fun h=>absurd h.2.2.1 c3⟩
 rw [if_neg (not_not_intro c3)]
 by_cases c4:n.op=1∧¬ (0≤n.a∧n.a<p.ni)
 ·rw [if_pos c4];exact⟨fun h=>(by cases h),fun h=>absurd (h.2.2.2.1 c4.1) c4.2⟩
 rw [if_neg c4]
 by_cases c5:n.op=1∧(p.CX n.a.toNat).f≠n.f
 ·rw [if_pos c5];exact⟨fun h=>(by cases h),fun h=>absurd (h.2.2.2.2.1 c5.1) c5.2⟩
 rw [if_neg c5]
 by_cases c6:n.op=2∧(i<p.head∨¬ (0≤n.a∧n.a<p.ns))
 ·rw [if_pos c6]
  refine⟨fun h=>(by cases h),fun h=>?_⟩
  have:=h.2.2.2.2.2.1 c6.1
  rcases c6.2 with q|q
  ·exact absurd q this.1
  ·exact absurd this.2 q
 rw [if_neg c6]
 have d4:n.op=1→0≤n.a∧n.a<p.ni:=fun h=>Classical.byContradiction fun q=>c4 ⟨h,q⟩
 have d5:n.op=1→(p.CX n.a.toNat).f=n.f:=fun h=>Classical.byContradiction fun q=>c5 ⟨h,q⟩
 have d6:n.op=2→¬ i<p.head∧0≤n.a∧n.a<p.ns:=fun h=>⟨fun q=>c6 ⟨h,.inl q⟩,Classical.byContradiction fun q=>c6 ⟨h,.inr q⟩⟩
 by_cases c7:n.op=3
 ·rw [if_pos c7]
  exact⟨fun h=>⟨c1,c2',c3,d4,d5,d6,fun _=>h,fun q=>absurd c7 q⟩,fun h=>h.2.2.2.2.2.2.1 c7⟩
 rw [if_neg c7]
 cases hk:(cz n).all (fR p i) with
 | true=>exact⟨fun _=>⟨c1,c2',c3,d4,d5,d6,fun q=>absurd q c7,fun _=>rfl⟩,fun _=>(by simp)⟩
 | false=>exact⟨fun h=>(by simp at h),fun h=>(by have:=h.2.2.2.2.2.2.2 c7;cases this)⟩
structure VL (p:PD) (j:Int) (n:Nd):Prop where
 op:1≤n.op∧n.op≤15
 ne:n.op≠2
 idle:kD n=true
 fm:0≤n.f∧n.f<p.nf
 CX:n.op=1→0≤n.a∧n.a<p.ni
 inf:n.op=1→(p.CX n.a.toNat).f=n.f
 oq:n.op=3→jg n.v=0
 kids:∀ x∈cz n,0≤x∧x<j
theorem Im {p:PD}(hg:p.good) {i:Nat}(hi:i<p.nn) (h2:(p.nd i).op≠2):VL p i (p.nd i):=by
 obtain⟨a,b,c,d,e,_,f,_⟩:=yN.1 (hg.nodes i hi)
 exact⟨a,h2,b,c,d,e,f,(oF hg hi).2.2⟩
theorem B4 {p:PD}(hg:p.good) {i:Nat}(hi:i<p.nn) (hh:(i:Int)<p.head):(p.nd i).op≠2:=by
 intro h2
 obtain⟨_,_,_,_,_,f,_⟩:=yN.1 (hg.nodes i hi)
 exact (f h2).1 hh
theorem B7 {n:Nd}(l:List Int) (h:1≤n.op∧n.op≤15):cz (n.iO l)=(cz n).map fun x=>l.getD x.toNat 0:=by
 have e1:cz n=n.l4.take (bN n.op):=if_pos h
 have e2:cz (n.iO l)=[nv l (bN n.op) 4 0 n.a,nv l (bN n.op) 4 1 n.b,nv l (bN n.op) 4 2 n.c,nv l (bN n.op) 4 3 n.d].take (bN n.op):=if_pos h
 rw [e1,e2]
 have hk:=kq n.op
 generalize bN n.op=kk at *
 unfold Nd.l4
 have:kk=0∨kk=1∨kk=2∨kk=3∨kk=4:=by omega
 rcases this with rfl|rfl|rfl|rfl|rfl <;> simp [nv]
theorem IQ (op:Int):bN op≤fF op:=by
 unfold fF
 split
 ·rename_i h
  rcases h with rfl|rfl <;> simp [bN]
 ·exact Nat.le_refl _
theorem DG (n:Nd)(l:List Int):kD (n.iO l)=kD n:=by
 have e:(n.iO l).l4.drop (fF n.op)=n.l4.drop (fF n.op):=by
  show [nv l (bN n.op) 4 0 n.a,nv l (bN n.op) 4 1 n.b,nv l (bN n.op) 4 2 n.c,nv l (bN n.op) 4 3 n.d].drop (fF n.op)=[n.a,n.b,n.c,n.d].drop (fF n.op)
  have h1:=IQ n.op
  have h2:=AG n.op
  generalize bN n.op=kk at *
  generalize fF n.op=uu at *
  have hu:uu=0∨uu=1∨uu=2∨uu=3∨uu=4:=by omega
  have nvi:∀ (j:Nat) (x:Int),kk≤j→nv l kk 4 j x=x:=fun j x hj=>by unfold nv;rw [if_neg (by omega)]
  rcases hu with rfl|rfl|rfl|rfl|rfl
  ·simp [nvi 0 n.a (by omega),nvi 1 n.b (by omega),nvi 2 n.c (by omega),nvi 3 n.d (by omega)]
  ·simp [nvi 1 n.b (by omega),nvi 2 n.c (by omega),nvi 3 n.d (by omega)]
  ·simp [nvi 2 n.c (by omega),nvi 3 n.d (by omega)]
  ·simp [nvi 3 n.d (by omega)]
  ·simp
 show (((n.iO l).l4.drop (fF n.op)).all _ && _)=_
 rw [e];rfl
theorem HT {n:Nd}{l:List Int}(hop:1≤n.op∧n.op≤15) (h:∀ x∈cz n,l.getD x.toNat 0=x):n.iO l=n:=by
 have e1:cz n=n.l4.take (bN n.op):=if_pos hop
 rw [e1] at h
 obtain⟨op,a,b,c,d,f,v⟩:=n
 show (⟨op,nv l (bN op) 4 0 a,nv l (bN op) 4 1 b,nv l (bN op) 4 2 c,nv l (bN op) 4 3 d,f,v⟩:Nd)=⟨op,a,b,c,d,f,v⟩
 have h:∀ x∈[a,b,c,d].take (bN op),l.getD x.toNat 0=x:=h
 have hk:=kq op
 generalize bN op=kk at *
 have ha:nv l kk 4 0 a=a:=by
  unfold nv;split
  ·exact h a (by have:0<kk:=by omega
                 obtain⟨k,rfl⟩:∃ k,kk=k+1:=⟨kk - 1,by omega⟩
                 simp)
  ·rfl
 have hb:nv l kk 4 1 b=b:=by
  unfold nv;split
  ·exact h b (by obtain⟨k,rfl⟩:∃ k,kk=k+2:=⟨kk - 2,by omega⟩
                 simp)
  ·rfl
 have hc:nv l kk 4 2 c=c:=by
  unfold nv;split
  ·exact h c (by obtain⟨k,rfl⟩:∃ k,kk=k+3:=⟨kk - 3,by omega⟩
                 simp)
  ·rfl
 have hd:nv l kk 4 3 d=d:=by
  unfold nv;split
  ·exact h d (by obtain⟨k,rfl⟩:∃ k,kk=k+4:=⟨kk - 4,by omega⟩
                 simp)
  ·rfl
 rw [ha,hb,hc,hd]
theorem FY {p:PD}{i j:Int}{n:Nd}(h:VL p i n) {l:List Int}(hk:∀ x∈cz n,0≤l.getD x.toNat 0∧l.getD x.toNat 0<j):VL p j (n.iO l):=by
 refine⟨h.op,h.ne,by rw [DG];exact h.idle,h.fm,fun h1=>?_,fun h1=>?_,h.oq,fun x hx=>?_⟩
 ·have e:(n.iO l).a=n.a:=by
   have h1':n.op=1:=h1
   show nv l (bN n.op) 4 0 n.a=n.a
   rw [h1'];rfl
  rw [e];exact h.CX h1
 ·have e:(n.iO l).a=n.a:=by
   have h1':n.op=1:=h1
   show nv l (bN n.op) 4 0 n.a=n.a
   rw [h1'];rfl
  rw [e];exact h.inf h1
 ·rw [B7 l h.op] at hx
  obtain⟨y,hy,rfl⟩:=List.mem_map.1 hx
  exact hk y hy
def Cc (n k:Nat):List Int:=(List.range n).map fun j=>if j<k then (j:Int) else 0
theorem KE (n k:Nat):(Cc n k).length=n:=by simp [Cc]
theorem H6 (n:Nat):Cc n 0=List.replicate n 0:=by
 refine List.ext_getElem (by simp [Cc]) fun i h1 h2=>?_
 simp [Cc]
theorem KF {n k:Nat}(h:k<n):(Cc n k).set k (k:Int)=Cc n (k+1):=by
 refine List.ext_getElem (by simp [Cc]) fun i h1 h2=>?_
 simp only [Cc,List.getElem_set,List.getElem_map,List.getElem_range]
 by_cases e:k=i
 ·subst e;rw [if_pos rfl,if_pos (by omega)]
 ·rw [if_neg e]
  by_cases q:i<k
  ·rw [if_pos q,if_pos (by omega)]
  ·rw [if_neg q,if_neg (by omega)]
theorem EW {n k x:Nat}(h:x<k) (hk:k≤n):(Cc n k).getD x 0=x:=by
 rw [List.getD_eq_getElem?_getD,List.getElem?_eq_getElem (by rw [KE];omega)]
 simp [Cc,h]
theorem Kf {n k:Nat}(h:0<k):∀ x∈Cc n k,0≤x∧x<k:=by
 intro x hx
 obtain⟨j,_,rfl⟩:=List.mem_map.1 hx
 split <;> omega
theorem KH {p:PD}{i:Nat}(hi:i<p.nn):p.N.take (i+1)=p.N.take i++[p.nd i]:=by
 have h:i<p.N.length:=by rw [PD.uC];exact hi
 rw [List.take_add_one,List.getElem?_eq_getElem h,PD.ME];rfl
theorem ur {p:PD}(hg:p.good) (now:List Int):∀ k,k≤p.head.toNat→ey p now (List.replicate p.nn 0,[]) 0 k=(Cc p.nn k,p.N.take k)
 | 0,_=>by rw [H6];rfl
 | k+1,h=>by
  have ih:=ur hg now k (by omega)
  obtain⟨_,_,⟨c1,c2,c3⟩,_⟩:=eA.1 hg.gen
  have hkn:k<p.nn:=by omega
  have hne:=B4 hg hkn (by omega)
  have hl:(p.N.take k).length=k:=by rw [List.length_take,PD.uC];omega
  rw [hJ,ih,Nat.zero_add]
  unfold iz
  rw [if_neg hne]
  simp only [hl]
  rw [KF hkn,KH hkn,HT (oF hg hkn).1 fun x hx=>?_]
  have:=(oF hg hkn).2.2 x hx
  rw [EW (by omega) (by omega)]
  omega
theorem tI {p:PD}(hg:p.good):nW p=(Cc p.nn p.head.toNat,p.N.take p.head.toNat):=ur hg _ _ (by omega)
theorem NY {p:PD}(hg:p.good) {av:List Int}{L:List Nd}(h:ey p (List.replicate p.ns 0) (List.replicate p.nn 0,[]) 0 (p.head.toNat - 0)=(av,L)):1≤L.length:=by
 have h1:=tI hg
 have h2:=Bj hg
 obtain⟨_,_,⟨c1,c2,c3⟩,_⟩:=eA.1 hg.gen
 unfold nW at h1
 rw [h] at h1
 have e:L=p.N.take p.head.toNat:=congrArg Prod.snd h1
 rw [e,List.length_take,PD.uC];omega
structure Kc (p:PD) (av:List Int) (L:List Nd):Prop where
 at':∀ x∈av,0≤x∧x<L.length
 nd:∀ j (h:j<L.length),VL p j L[j]
 pos:0<L.length
theorem pQ {l:List Int}{M:Int}(h:∀ x∈l,0≤x∧x<M) (hM:0<M) (i:Nat):0≤l.getD i 0∧l.getD i 0<M:=by
 by_cases hi:i<l.length
 ·rw [List.getD_eq_getElem?_getD,List.getElem?_eq_getElem hi];exact h _ (List.getElem_mem hi)
 ·rw [List.getD_eq_getElem?_getD,List.getElem?_eq_none (by omega)];exact⟨Int.le_refl _,hM⟩
theorem GJ {p:PD}(hg:p.good) {now av:List Int}{L:List Nd}(h:Kc p av L) (hn:∀ x∈now,0≤x∧x<L.length) {i:Nat}(hi:i<p.nn):Kc p (iz p now (av,L) i).1 (iz p now (av,L) i).2:=by
 have hp:=h.pos
 unfold iz
 by_cases h2:(p.nd i).op=2
 ·rw [if_pos h2]
  refine⟨fun x hx=>?_,h.nd,h.pos⟩
  rcases List.mem_or_eq_of_mem_set hx with hx|rfl
  ·exact h.at' x hx
  ·exact pQ hn (by omega) _
 ·rw [if_neg h2]
  refine⟨fun x hx=>?_,fun j hj=>?_,by simp⟩
  ·simp only [List.length_append,List.length_cons,List.length_nil]
   rcases List.mem_or_eq_of_mem_set hx with hx|rfl
   ·have:=h.at' x hx;omega
   ·simp only;omega
  ·simp only [List.length_append,List.length_cons,List.length_nil] at hj
   by_cases hjl:j<L.length
   ·simp only [List.getElem_append_left hjl]
    exact h.nd j hjl
   ·obtain rfl:j=L.length:=by omega
    simp only [List.getElem_append_right (Nat.le_refl _),Nat.sub_self,List.getElem_cons_zero]
    refine FY (Im hg hi h2) fun x hx=>?_
    have hx2:=(oF hg hi).2.2 x hx
    have e:(av.set i (L.length:Int)).getD x.toNat 0=av.getD x.toNat 0:=by
     rw [List.getD_eq_getElem?_getD,List.getD_eq_getElem?_getD,List.getElem?_set_ne (by omega)]
    rw [e]
    exact pQ h.at' (by omega) _
theorem I3 {l:List Int}{M N:Int}(h:∀ x∈l,0≤x∧x<M) (hM:M≤N):∀ x∈l,0≤x∧x<N:=fun x hx=>by have:=h x hx;omega
theorem xO {p:PD}(hg:p.good) {now av:List Int}{L:List Nd}(h:Kc p av L) (hn:∀ x∈now,0≤x∧x<L.length) (i:Nat):∀ k,i+k≤p.nn→Kc p (ey p now (av,L) i k).1 (ey p now (av,L) i k).2
 | 0,_=>h
 | k+1,hk=>by
  have ih:=xO hg h hn i k (by omega)
  have hl:=nB p now (av,L) i k
  rw [hJ]
  exact GJ hg ih (I3 hn (by simp only at hl;omega)) (by omega)
theorem zA {p:PD}{av l:List Int}{M:Int}{sel:Int × Int→Int}(ha:∀ x∈av,0≤x∧x<M) (hl:∀ x∈l,0≤x∧x<M) (hM:0<M):∀ j,∀ x∈wz p av sel j l,0≤x∧x<M
 | 0=>hl
 | j+1=>fun x hx=>by
  rw [wz] at hx
  rcases List.mem_or_eq_of_mem_set hx with hx|rfl
  ·exact zA ha hl hM j x hx
  ·exact pQ ha hM _
theorem EB {M:Int}(hM:0<M) (n:Nat):∀ x∈List.replicate n (0:Int),0≤x∧x<M:=fun x hx=>by
 rw [List.eq_of_mem_replicate hx];omega
theorem HS {p:PD}(hg:p.good) {s:List Int × List Int × List Nd}(h:Kc p s.2.1 s.2.2) (hn:∀ x∈s.1,0≤x∧x<s.2.2.length):∀ j,Kc p (s8 p s j).2.1 (s8 p s j).2.2∧∀ x∈(s8 p s j).1,0≤x∧x<(s8 p s j).2.2.length
 | 0=>⟨h,hn⟩
 | j+1=>by
  obtain⟨h1,h2⟩:=HS hg h hn j
  obtain⟨_,_,⟨c1,c2,c3⟩,_⟩:=eA.1 hg.gen
  have h3:=xO hg h1 h2 p.head.toNat (p.tail.toNat - p.head.toNat) (by omega)
  exact⟨h3,zA h3.at' (EB (by have:=h3.pos;omega) _) (by have:=h3.pos;omega) _⟩
theorem KU {p:PD}(hg:p.good):Kc p (nW p).1 (nW p).2:=by
 have h2:=Bj hg
 obtain⟨_,_,⟨c1,c2,c3⟩,_⟩:=eA.1 hg.gen
 rw [tI hg]
 have hl:(p.N.take p.head.toNat).length=p.head.toNat:=by rw [List.length_take,PD.uC];omega
 refine⟨fun x hx=>?_,fun j hj=>?_,by simp only;omega⟩
 ·simp only [hl]
  exact Kf (by omega) x hx
 ·simp only [hl] at hj
  simp only [List.getElem_take,PD.ME]
  exact Im hg (by omega) (B4 hg (by omega) (by omega))
theorem Kp {p:PD}(hg:p.good) (n:Nat):Kc p (iK p n).2.1 (iK p n).2.2∧∀ x∈(iK p n).1,0≤x∧x<(iK p n).2.2.length:=by
 have h:=KU hg
 exact HS hg (s:=(wz p (nW p).1 Prod.fst p.ns (List.replicate p.ns 0),(nW p).1,(nW p).2)) h (zA h.at' (EB (by have:=h.pos;omega) _) (by have:=h.pos;omega) _) n
theorem Lg {p:PD}(hg:p.good) (n:Nat):Kc p (jn p n).1 (jn p n).2:=by
 obtain⟨h1,h2⟩:=Kp hg n
 obtain⟨_,_,⟨c1,c2,c3⟩,_⟩:=eA.1 hg.gen
 exact xO hg h1 h2 _ _ (by omega)
theorem tX (p:PD)(now:List Int)(s:List Int × List Nd)(i:Nat):∀ k,(ey p now s i k).2.length+nr p i k=s.2.length+k
 | 0=>rfl
 | k+1=>by
  have ih:=tX p now s i k
  rw [hJ,kE]
  unfold iz
  by_cases h2:(p.nd (i+k)).op=2
  ·rw [if_pos h2,if_pos h2];simp only;omega
  ·rw [if_neg h2,if_neg h2];simp only [List.length_append,List.length_cons,List.length_nil];omega
theorem A7 {p:PD}(hg:p.good):∀ n:Nat,((iK p n).2.2.length:Int)=p.head+n*iH p
 | 0=>by
  obtain⟨_,_,⟨c1,c2,c3⟩,_⟩:=eA.1 hg.gen
  show (((nW p).2.length:Nat):Int)=_
  rw [tI hg]
  simp only [List.length_take,PD.uC]
  rw [Int.natCast_zero,Int.zero_mul]
  omega
 | n+1=>by
  have ih:=A7 hg n
  obtain⟨_,_,⟨c1,c2,c3⟩,_⟩:=eA.1 hg.gen
  have h:=tX p (iK p n).1 ((iK p n).2.1,(iK p n).2.2) p.head.toNat (p.tail.toNat - p.head.toNat)
  show (((ey p (iK p n).1 ((iK p n).2.1,(iK p n).2.2) p.head.toNat (p.tail.toNat - p.head.toNat)).2.length:Nat):Int)=_
  simp only at h
  rw [Int.natCast_add,Int.add_mul,Int.natCast_one,Int.one_mul]
  have hx:iH p=p.tail - p.head - nr p p.head.toNat (p.tail.toNat - p.head.toNat):=rfl
  generalize (n:Int)*iH p=nx at *
  generalize iH p=ux at *
  omega
theorem DU {p:PD}(hg:p.good) {s:Int}(hs:0≤s):((jn p s.toNat).2.length:Int)=AQ p s:=by
 have h1:=A7 hg s.toNat
 obtain⟨_,_,⟨c1,c2,c3⟩,_⟩:=eA.1 hg.gen
 have h:=tX p (iK p s.toNat).1 ((iK p s.toNat).2.1,(iK p s.toNat).2.2) p.tail.toNat (p.nn - p.tail.toNat)
 show (((ey p (iK p s.toNat).1 ((iK p s.toNat).2.1,(iK p s.toNat).2.2) p.tail.toNat (p.nn - p.tail.toNat)).2.length:Nat):Int)=_
 simp only at h
 rw [Int.toNat_of_nonneg hs] at h1
 unfold AQ
 omega
theorem vq {p:PD}(hr:0≤p.res∧p.res<p.nn∧lR p p.res≠1):∀ n k,(∀ j,k≤j→j<k+n→∀ i,i<iU p j→dR p j i=0)→dh p n k=(0,0,0)
 | 0,k,_=>if_pos hr
 | n+1,k,h=>by
  have e:dh p (n+1) k=match iL (dR p k) (iU p k) with|some i=>((k:Int)+1,(i:Int),dR p k i)|none=>dh p n (k+1):=rfl
  rw [e,sE fun j hj=>h k (by omega) (by omega) j hj]
  exact vq hr n (k+1) fun j h1 h2=>h j (by omega) (by omega)
theorem B0 {p:PD}(h:p.good):fI p=(0,0,0):=by
 unfold fI
 rw [if_neg (not_not_intro h.gen)]
 refine vq h.res 4 0 fun j _ hj i hi=>?_
 have hc:j=0∨j=1∨j=2∨j=3:=by omega
 rcases hc with rfl|rfl|rfl|rfl
 ·exact h.Ri i hi
 ·exact h.ins i hi
 ·exact h.nodes i hi
 ·exact h.states i hi
theorem yM (p:PD)(n:Nat):(iC p n).nn=(jn p n).2.length:=by simp [PD.nn,iC,sO]
theorem KQ (p:PD)(n:Nat){i:Nat}(hi:i<(jn p n).2.length):(iC p n).nd i=(jn p n).2[i]:=by
 show KP ((((jn p n).2.map Nd.e)).getD i [])=_
 rw [List.getD_eq_getElem?_getD,List.getElem?_map,List.getElem?_eq_getElem hi];rfl
theorem tM {p:PD}(hg:p.good) (n:Nat) (hb:(jn p n).2.length≤64):(iC p n).good:=by
 have h:=Lg hg n
 have hp:=h.pos
 obtain⟨⟨a1,a2,a3,a4⟩,⟨b1,b2,b3,b4⟩,⟨c1,c2,c3⟩,d⟩:=eA.1 hg.gen
 have hnn:=yM p n
 have hhd:(iC p n).head=(jn p n).2.length:=rfl
 have htl:(iC p n).tail=(jn p n).2.length:=rfl
 have hns:(iC p n).ns=0:=rfl
 have hnf:(iC p n).nf=p.nf:=rfl
 have hni:(iC p n).ni=p.ni:=rfl
 have hmd:(iC p n).mode=p.mode:=rfl
 have hres:(iC p n).res=(jn p n).1.getD p.res.toNat 0:=rfl
 have hr:=pQ h.at' (by omega) p.res.toNat
 refine⟨⟨hg.ok.f,hg.ok.ins,fun e he=>?_,fun e he=>by cases he⟩,eA.2 ⟨⟨by omega,by omega,by omega,by omega⟩,⟨by omega,by omega,by omega,by omega⟩,⟨by omega,by omega,by omega⟩,fun _=>by omega⟩,hg.Ri,hg.ins,fun i hi=>?_,fun i hi=>by omega,?_⟩
 ·obtain⟨x,_,rfl⟩:=List.mem_map.1 (show e∈(jn p n).2.map Nd.e from he)
  exact Q3 x
 ·rw [hnn] at hi
  rw [KQ p n hi]
  have hd:=h.nd i hi
  refine yN.2 ⟨hd.op,hd.idle,hd.fm,hd.CX,hd.inf,fun h2=>absurd h2 hd.ne,hd.oq,fun _=>?_⟩
  rw [List.all_eq_true]
  intro x hx
  have:=hd.kids x hx
  have e:lR (iC p n) x=0:=by unfold lR;rw [if_pos (by omega)]
  unfold fR
  rw [e,decide_eq_true this];rfl
 ·rw [hres,hnn]
  refine⟨hr.1,hr.2,?_⟩
  unfold lR
  rw [if_pos (by omega)]
  decide
theorem Ai {p:PD}(h0:p.ns=0) (ht:p.tail.toNat - p.head.toNat=0) (a:List Int) (L:List Nd):∀ n,s8 p ([],a,L) n=([],a,L)
 | 0=>rfl
 | n+1=>by rw [s8,Ai h0 ht a L n,xl,h0,ht];rfl
theorem By {p:PD}(hg:p.good) (h0:p.ns=0) (n:Nat):iC p n=⟨p.f,p.mode,p.ins,p.nodes,p.head,p.tail,none,p.res⟩:=by
 obtain⟨_,_,⟨c1,c2,c3⟩,d⟩:=eA.1 hg.gen
 have hh:=d h0
 have e1:p.head.toNat=p.nn:=by omega
 have e2:p.tail.toNat=p.nn:=by omega
 have hA:nW p=(Cc p.nn p.nn,p.N):=by rw [tI hg,e1,List.take_of_length_le (by rw [PD.uC];exact Nat.le_refl _)]
 have hB:iK p n=([],Cc p.nn p.nn,p.N):=by
  unfold iK
  rw [hA,h0]
  exact Ai h0 (by omega) _ _ n
 have hC:jn p n=(Cc p.nn p.nn,p.N):=by
  unfold jn
  rw [hB,e2,Nat.sub_self];rfl
 have hr:=hg.res
 obtain⟨es,hes⟩:=zw hg.gen
 unfold iC
 rw [hC]
 simp only
 rw [PD.ZJ hg.ok,hes,PD.uC,EW (by omega) (Nat.le_refl _)]
 show (⟨p.f,p.mode,p.ins,some es,p.nn,p.nn,none,(p.res.toNat:Int)⟩:PD)=_
 rw [show (p.nn:Int)=p.head by omega,show (p.res.toNat:Int)=p.res by omega]
 congr 1
 omega
theorem FD {p:PD}(hp:p.ok) (h0:p.ns=0):jZ p ⟨p.f,p.mode,p.ins,p.nodes,p.head,p.tail,none,p.res⟩=true:=by
 have e:sO p.states=[]:=List.eq_nil_of_length_eq_zero h0
 have h:=uo hp
 unfold jZ at h ⊢
 rw [e] at h ⊢
 exact h
theorem Al {p:PD}(hg:p.good) (n m:Nat) (hb:(jn p n).2.length≤64):iC (iC p n) m=iC p n:=By (tM hg n hb) rfl m
theorem Fo {p:PD}(hg:p.good) (n:Nat) (hb:(jn p n).2.length≤64) {s:Int}(hs:0≤s):¬ 64<AQ (iC p n) s:=by
 have hg2:=tM hg n hb
 rw [← DU hg2 hs]
 have e:=Al hg n s.toNat hb
 have e2:=congrArg PD.nn e
 rw [yM,yM] at e2
 omega
end Go.Am

namespace Go.Am
open Go.Am.Ty Go.Proofs N
set_option maxHeartbeats 8000000 in
theorem HD (m:Int)(p:PD)(hp:p.ok)(s:Int)(h0:(fI p).2.2=0)(hs:0≤s∧s≤200)(hbig:¬ 64<AQ p s):ah Tryz.prog (GG m) 26 [p.A,.c (.d (.int .i64 s))] (.tup [(iC p s.toNat).A,.c (.d (.int .i64 0))]):=by
 have h:=uY m p hp
 have hg:=qj hp h0
 rw [h0] at h
 have s1:¬ s<0:=by omega
 have s2:¬ 200<s:=by omega
 obtain⟨es,hes⟩:=zw hg.gen
 obtain⟨g1,g2,g3,g4,g5⟩:=H8 hg.gen
 have hb:p.tail.toNat≤p.nn:=by omega
 have hsn:=rP p p.head.toNat (p.tail.toNat - p.head.toNat)
 have hX:0≤iH p∧iH p≤64:=by unfold iH;omega
 have hX1:0≤s*iH p:=Int.mul_nonneg hs.1 hX.1
 have hX2:s*iH p≤200*64:=Int.mul_le_mul hs.2 hX.2 hX.1 (by omega)
 obtain⟨M0,hM0⟩:∃ M0,M0=p.head+s*iH p:=⟨_,rfl⟩
 have k1:=cX (n:=p.tail - p.head) (by omega) (by omega)
 have k2:IntKind.i64.wrap (p.tail - p.head - (nr p p.head.toNat (p.tail.toNat - p.head.toNat):Int))=iH p:=cX (n:=iH p) (by omega) (by omega)
 have k3:=cX (n:=s*iH p) (by omega) (by omega)
 have k4:=cX (n:=p.head+s*iH p) (by omega) (by omega)
 have hsl1:=fun lv=>Sv lv hp hes (a:=p.tail) (by omega) g3
 have hln1:=fun lv=>yZ (p:=p) lv (a:=p.tail.toNat) (Nat.le_refl p.nn)
 have hsl:=fun lv=>Zn lv hp hes g1 g2 g3
 have hln:=fun lv=>yZ (p:=p) lv (a:=p.head.toNat) hb
 refine ah.jC Go.Proofs.Tryz.func26 rfl (by rw [Tryz.ntmps26];simp)  ?_
 rintro⟨_,_,w0,F0,W0,_,bu,β0⟩ rfl rfl rfl rfl
 refine AW.ag fun K hK=>?_
 refine AW.aa rfl ?_
 simp
 apply hK;clear hK K
 refine AW.ag fun K hK=>?_
 refine AW.ag fun K1 hK1=>?_
 refine AW.aa rfl ?_
 simp
 refine ai.pure 2 9 (h) (by first|(simp;done)|rfl) (by simp) (by first|rfl|simp) ?_
 simp
 apply hK1;clear hK1 K1
 refine AW.ag fun K1 hK1=>?_
 refine AW.aa rfl ?_
 simp
 apply hK1;clear hK1 K1
 refine AW.cond (b:=false) (by first|(simp [];done)|(simp [];omega)) ?_
 refine AW.skip ?_
 simp
 apply hK;clear hK K
 refine AW.ag fun K hK=>?_
 refine AW.ag fun K1 hK1=>?_
 refine AW.aa rfl ?_
 simp [s1,s2]
 apply hK1;clear hK1 K1
 refine AW.cond (b:=false) (by first|(simp [];done)|(simp [];omega)) ?_
 refine AW.skip ?_
 simp
 apply hK;clear hK K
 refine AW.ag fun K hK=>?_
 refine AW.aa rfl ?_
 simp
 apply hK;clear hK K
 refine AW.ag fun K hK=>?_
 refine AW.ag fun K1 hK1=>?_
 refine AW.aa rfl ?_
 simp [hsl,hln]
 apply hK1;clear hK1 K1
 refine AW.block ?_
 refine AW.b9 (fun (j:Nat)=>⟨bp [(1,.c (.d (.int .i64 s))),(2,.c (.ptr 0 0)),(4,.c (.ptr 1 0)),(7,.c (.d (.int .i64 (nr p p.head.toNat j)))),(41,.c (dg (p6 p p.head.toNat p.tail.toNat))),(42,.c (.d (.int .i64 ((p.tail.toNat - p.head.toNat:Nat):Int)))),(43,.c (.d (.int .i64 j)))],
  aB (aB (fun _=>.hole) 0 (.cells true false 27 p.cs)) 1 (.cells true false 27 m9.cs)⟩) 2
  (fun j=>j≤p.tail.toNat - p.head.toNat) (fun j=>p.tail.toNat - p.head.toNat - j) 0 (Le.mk' _ (by simp [m9,dg]) (by repeat (first|exact aL|refine aN ?_ _ _ _ _ _|(refine aq ?_ _)|(refine aQ ?_ _ _ _)|(refine au ?_ _)|simp)) (by simp [nr])) (Nat.zero_le _) ?_
 rintro j hj
 try simp only at hj
 refine AW.ag fun K3 hK3=>?_
 refine AW.aa rfl ?_
 simp
 apply hK3;clear hK3 K3
 refine AW.ag fun K2 hK2=>?_
 by_cases hlt:j<p.tail.toNat - p.head.toNat
 ·have hlt':(j:Int)<((p.tail.toNat - p.head.toNat:Nat):Int):=by omega
  have hx:=fun lv=>EI hp lv hlt hb
  have f12:=cX (n:=(j:Int)+1) (by omega) (by omega)
  have hsle:=rP p p.head.toNat j
  have hss:=kE p p.head.toNat j
  have f13:=cX (n:=(nr p p.head.toNat j:Int)+1) (by omega) (by omega)
  refine AW.cond (b:=true) (by first|(simp [hlt'];done)|(simp [hlt'];omega)) ?_
  refine AW.skip ?_
  simp
  apply hK2
  refine AW.ag fun K3 hK3=>?_
  refine AW.block ?_
  refine AW.ag fun K4 hK4=>?_
  refine AW.aa rfl ?_
  simp [hx,aj]
  apply hK4;clear hK4 K4
  refine AW.ag fun K4 hK4=>?_
  refine AW.aa rfl ?_
  simp
  apply hK4;clear hK4 K4
  by_cases h2:(p.nd (p.head.toNat+j)).op=2
  ·have h2':((p.nd (p.head.toNat+j)).op=2)=True:=by simp [h2]
   refine AW.cond (b:=true) (by first|(simp [h2'];done)|(simp [h2'];omega)) ?_
   refine AW.aa rfl ?_
   simp [f13]
   apply hK3
   refine AW.aa rfl ?_
   simp [f12]
   rw [if_pos h2] at hss
   refine⟨j+1,?_,by omega,by omega⟩
   simp only [hss]
   exact (Le.drop [2]  9 _ rfl (by intro k hk;simp at hk;subst hk;simp [aB]) (by intro k hk;simp at hk;simp only [aB];(repeat (any_goals split)) <;> simp_all) (by simp [aB]) (by repeat (first|exact aL|refine aN ?_ _ _ _ _ _|(refine aq ?_ _)|(refine aQ ?_ _ _ _)|(refine au ?_ _)|simp)) (by repeat (first|exact dW|refine fc ?_ (by simp [pg]))) (by simp [pg]))
  ·have h2':((p.nd (p.head.toNat+j)).op=2)=False:=by simp [h2]
   refine AW.cond (b:=false) (by first|(simp [h2'];done)|(simp [h2'];omega)) ?_
   refine AW.skip ?_
   simp
   apply hK3
   refine AW.aa rfl ?_
   simp [f12]
   rw [if_neg h2] at hss
   refine⟨j+1,?_,by omega,by omega⟩
   simp only [hss]
   exact (Le.drop [2]  9 _ rfl (by intro k hk;simp at hk;subst hk;simp [aB]) (by intro k hk;simp at hk;simp only [aB];(repeat (any_goals split)) <;> simp_all) (by simp [aB]) (by repeat (first|exact aL|refine aN ?_ _ _ _ _ _|(refine aq ?_ _)|(refine aQ ?_ _ _ _)|(refine au ?_ _)|simp)) (by repeat (first|exact dW|refine fc ?_ (by simp [pg]))) (by simp [pg]))
 have hje:j=p.tail.toNat - p.head.toNat:=by omega
 subst hje
 refine AW.cond (b:=false) (by first|(simp [];done)|(simp [];omega)) ?_
 refine AW.exit ?_
 simp
 apply hK
 refine AW.ag fun K9 hK9=>?_
 refine AW.aa rfl ?_
 simp [k1,k2,k3,k4,hM0]
 apply hK9;clear hK9 K9
 refine AW.ag fun K9 hK9=>?_
 refine AW.ag fun K1 hK1=>?_
 refine AW.aa rfl ?_
 simp [hsl1,hln1]
 apply hK1;clear hK1 K1
 refine AW.block ?_
 refine AW.b9 (fun (j:Nat)=>⟨bp [(1,.c (.d (.int .i64 s))),(2,.c (.ptr 0 0)),(4,.c (.ptr 1 0)),(10,.c (.d (.int .i64 (M0+((j:Int) - nr p p.tail.toNat j))))),(69,.c (dg (p6 p p.tail.toNat p.nn))),(70,.c (.d (.int .i64 ((p.nn - p.tail.toNat:Nat):Int)))),(71,.c (.d (.int .i64 j)))],
  aB (aB (fun _=>.hole) 0 (.cells true false 27 p.cs)) 1 (.cells true false 27 m9.cs)⟩) 2
  (fun j=>j≤p.nn - p.tail.toNat) (fun j=>p.nn - p.tail.toNat - j) 0 (Le.mk' _ (by simp [m9,dg]) (by repeat (first|exact aL|refine aN ?_ _ _ _ _ _|(refine aq ?_ _)|(refine aQ ?_ _ _ _)|(refine au ?_ _)|simp)) (by simp [nr,hM0])) (Nat.zero_le _) ?_
 rintro j hj
 try simp only at hj
 refine AW.ag fun K3 hK3=>?_
 refine AW.aa rfl ?_
 simp
 apply hK3;clear hK3 K3
 refine AW.ag fun K2 hK2=>?_
 by_cases hlt:j<p.nn - p.tail.toNat
 ·have hlt':(j:Int)<((p.nn - p.tail.toNat:Nat):Int):=by omega
  have hx:=fun lv=>EI hp lv hlt (Nat.le_refl p.nn)
  have f12:=cX (n:=(j:Int)+1) (by omega) (by omega)
  have hsle:=rP p p.tail.toNat j
  have hss:=kE p p.tail.toNat j
  have f13:=cX (n:=M0+((j:Int) - nr p p.tail.toNat j)+1) (by omega) (by omega)
  refine AW.cond (b:=true) (by first|(simp [hlt'];done)|(simp [hlt'];omega)) ?_
  refine AW.skip ?_
  simp
  apply hK2
  refine AW.ag fun K3 hK3=>?_
  refine AW.block ?_
  refine AW.ag fun K4 hK4=>?_
  refine AW.aa rfl ?_
  simp [hx,aj]
  apply hK4;clear hK4 K4
  refine AW.ag fun K4 hK4=>?_
  refine AW.aa rfl ?_
  simp
  apply hK4;clear hK4 K4
  by_cases h2:(p.nd (p.tail.toNat+j)).op=2
  ·have h2':((p.nd (p.tail.toNat+j)).op=2)=True:=by simp [h2]
   refine AW.cond (b:=false) (by first|(simp [h2'];done)|(simp [h2'];omega)) ?_
   refine AW.skip ?_
   simp
   apply hK3
   refine AW.aa rfl ?_
   simp [f12]
   rw [if_pos h2] at hss
   refine⟨j+1,?_,by omega,by omega⟩
   have hv:M0+(((j+1:Nat):Int) - ((nr p p.tail.toNat (j+1):Nat):Int))=M0+((j:Int) - nr p p.tail.toNat j):=by rw [hss];omega
   simp only [hv]
   exact (Le.drop [2]  9 _ rfl (by intro k hk;simp at hk;subst hk;simp [aB]) (by intro k hk;simp at hk;simp only [aB];(repeat (any_goals split)) <;> simp_all) (by simp [aB]) (by repeat (first|exact aL|refine aN ?_ _ _ _ _ _|(refine aq ?_ _)|(refine aQ ?_ _ _ _)|(refine au ?_ _)|simp)) (by repeat (first|exact dW|refine fc ?_ (by simp [pg]))) (by simp [pg]))
  ·have h2':((p.nd (p.tail.toNat+j)).op=2)=False:=by simp [h2]
   refine AW.cond (b:=true) (by first|(simp [h2'];done)|(simp [h2'];omega)) ?_
   refine AW.aa rfl ?_
   simp [f13]
   apply hK3
   refine AW.aa rfl ?_
   simp [f12]
   rw [if_neg h2] at hss
   refine⟨j+1,?_,by omega,by omega⟩
   have hv:M0+(((j+1:Nat):Int) - ((nr p p.tail.toNat (j+1):Nat):Int))=M0+((j:Int) - nr p p.tail.toNat j)+1:=by rw [hss];omega
   simp only [hv]
   exact (Le.drop [2]  9 _ rfl (by intro k hk;simp at hk;subst hk;simp [aB]) (by intro k hk;simp at hk;simp only [aB];(repeat (any_goals split)) <;> simp_all) (by simp [aB]) (by repeat (first|exact aL|refine aN ?_ _ _ _ _ _|(refine aq ?_ _)|(refine aQ ?_ _ _ _)|(refine au ?_ _)|simp)) (by repeat (first|exact dW|refine fc ?_ (by simp [pg]))) (by simp [pg]))
 have hje:j=p.nn - p.tail.toNat:=by omega
 subst hje
 refine AW.cond (b:=false) (by first|(simp [];done)|(simp [];omega)) ?_
 refine AW.exit ?_
 simp
 apply hK9
 have hmm:M0+(((p.nn - p.tail.toNat:Nat):Int) - nr p p.tail.toNat (p.nn - p.tail.toNat))=AQ p s:=by rw [hM0];rfl
 generalize M0+(((p.nn - p.tail.toNat:Nat):Int) - nr p p.tail.toNat (p.nn - p.tail.toNat))=mm at *
 subst hmm
 refine AW.ag fun K4 hK4=>?_
 refine AW.ag fun K5 hK5=>?_
 refine AW.aa rfl ?_
 simp [hbig]
 apply hK5;clear hK5 K5
 refine AW.cond (b:=false) (by first|(simp [];done)|(simp [];omega)) ?_
 refine AW.skip ?_
 simp
 apply hK4;clear hK4 K4
 have hcd:=Fk (GG m) p hp (Jf h0)
 have hz:∀ g,(LB.cells true false 27 m9.cs).like (LB.cells true false 27 m9.cs) g:=fun g=>Ij 27 m9 g
 refine AW.ag fun K4 hK4=>?_
 refine AW.aa rfl ?_
 simp
 refine ai.pure 2 9 (hcd) (by first|(simp;done)|rfl) (by simp) (by first|rfl|simp) ?_
 simp
 apply hK4;clear hK4 K4
 refine AW.ag fun K4 hK4=>?_
 refine AW.aa rfl ?_
 simp [aj]
 apply hK4;clear hK4 K4
 refine AW.ag fun K4 hK4=>?_
 refine AW.aa rfl ?_
 simp [Df,aj]
 repeat (refine And.intro (by omega) ?_)
 apply hK4;clear hK4 K4
 refine AW.ag fun K4 hK4=>?_
 refine AW.aa rfl ?_
 simp [KW,aj]
 repeat (refine And.intro (by omega) ?_)
 apply hK4;clear hK4 K4
 refine AW.ag fun K4 hK4=>?_
 refine AW.aa rfl ?_
 simp [CF,ot,sX,ue,fQ]
 apply hK4;clear hK4 K4
 refine AW.le (s2:=⟨bp [(1,.c (.d (.int .i64 s))),(2,.c (.ptr 0 0)),(4,.c (.ptr 1 0)),(13,.c (.ptr 2 0)),(14,.c (.ptr 4 0)),(15,.c (.ptr 6 0)),(16,.c (.func (.func 79) [] [.ptr 0 0,.ptr 6 0,.ptr 4 0,.ptr 2 0]))],qA p (.cells true false 27 m9.cs) (List.replicate p.ns 0) (List.replicate p.nn 0) (uS []) (uB []) .hole⟩) (κ2:=9) (Le.keys [(0,0,.cells true false 27 p.cs),(1,1,.cells true false 27 m9.cs),(2,2,.cells true false 27 (qC p (uS []))),(3,6,.cells true false 3 (zK (List.replicate p.nn 0))),(4,7,.cells true false 30 [.aJ 3 0 (List.replicate p.nn (0:Int)).length 1]),(5,9,.cells true false 3 (zK (List.replicate p.ns 0))),(6,10,.cells true false 30 [.aJ 5 0 (List.replicate p.ns (0:Int)).length 1])] 19 _ ?_ rfl (by simp) (by simp) rfl ?_ ?_) ?_
 ·refine Eq.trans (jf (k:=8) rfl) ?_
  refine Eq.trans (jf (k:=7) rfl) ?_
  rfl
 ·intro x hx
  simp only [List.mem_cons,List.not_mem_nil,or_false] at hx
  rcases hx with rfl|rfl|rfl|rfl|rfl|rfl|rfl
  ·exact⟨true,p.cs,rfl,(gN p _).symm,id⟩
  ·exact⟨true,_,rfl,(gN m9 _).symm,id⟩
  ·exact⟨true,_,rfl,by simp [qC,uS],id⟩
  ·exact⟨true,zK (List.replicate p.nn 0),by simp [CC],(cn _ _).symm,id⟩
  ·exact⟨true,[.aJ 6 0 p.nn 1],by simp,by simp [cH],id⟩
  ·exact⟨true,zK (List.replicate p.ns 0),by simp [CC],(cn _ _).symm,id⟩
  ·exact⟨true,[.aJ 9 0 p.ns 1],by simp,by simp [cH],id⟩
 ·simp [cH]
  rfl
 have hno:∀ i,i<p.nn→1≤(p.nd i).op∧(p.nd i).op≤15:=fun i hi=>(oF hg hi).1
 have hnk:∀ i,i<p.nn→∀ x∈cz (p.nd i),0≤x∧x<p.nn:=fun i hi x hx=>by have:=(oF hg hi).2.2 x hx;omega
 have hns:∀ l:List Int,l.length=p.ns→∀ i,i<p.nn→(p.nd i).op=2→0≤(p.nd i).a∧(p.nd i).a<l.length:=fun l hl i hi h2=>by have:=(oF hg hi).2.1 h2;omega
 have hN4:p.ns≤4:=(nO hg.gen).2.2.2.2.2.2
 obtain⟨⟨av1,L1⟩,hr1⟩:∃ r,ey p (List.replicate p.ns 0) (List.replicate p.nn 0,[]) 0 (p.head.toNat - 0)=r:=⟨_,rfl⟩
 have hA:nW p=(av1,L1):=hr1
 have hc1:=CR m p hp (List.replicate p.ns 0) (List.replicate p.nn 0) [] 0 p.head.toNat (by omega) (by omega) (by omega) (by simp) (by simp) (by simp;omega) hno (hns _ (by simp)) hnk av1 L1 hr1
 rw [show ((p.head.toNat:Nat):Int)=p.head by omega] at hc1
 have hl1:=mw p (List.replicate p.ns 0) (List.replicate p.nn 0,[]) 0 (p.head.toNat - 0)
 have hL1:=nB p (List.replicate p.ns 0) (List.replicate p.nn 0,[]) 0 (p.head.toNat - 0)
 rw [hr1] at hl1 hL1
 simp only [List.length_replicate,List.length_nil] at hl1 hL1
 refine AW.ag fun K4 hK4=>?_
 refine AW.aa rfl ?_
 simp [nj,kB,l5]
 refine ai.run 9 p (.cells true false 27 m9.cs) (List.replicate p.ns 0) (List.replicate p.nn 0) av1 [] L1 (by rfl) (by rfl) (by simpa using hl1) (fun h=>List.eq_nil_of_length_eq_zero h) hc1 ?_
 intro Jn rds he
 simp
 apply hK4;clear hK4 K4
 refine AW.le (κ2:=9) (Iz rfl (Nat.zero_le _) [(1,.c (.d (.int .i64 s))),(2,.c (.ptr 0 0)),(4,.c (.ptr 1 0)),(13,.c (.ptr 2 0)),(14,.c (.ptr 4 0)),(15,.c (.ptr 6 0)),(16,.c (.func (.func 79) [] [.ptr 0 0,.ptr 6 0,.ptr 4 0,.ptr 2 0]))] hz he (by intro k7;simp [g8];try rfl)) ?_
 refine AW.ag fun K4 hK4=>?_
 refine AW.ag fun K1 hK1=>?_
 refine AW.aa rfl ?_
 simp [KW]
 apply hK1;clear hK1 K1
 refine AW.block ?_
 refine AW.b9 (fun (j:Nat)=>⟨bp [(1,.c (.d (.int .i64 s))),(2,.c (.ptr 0 0)),(4,.c (.ptr 1 0)),(13,.c (.ptr 2 0)),(14,.c (.ptr 4 0)),(15,.c (.ptr 6 0)),(16,.c (.func (.func 79) [] [.ptr 0 0,.ptr 6 0,.ptr 4 0,.ptr 2 0])),(102,.c (dg p.states)),(103,.c (.d (.int .i64 p.ns))),(104,.c (.d (.int .i64 j)))],
  qA p (.cells true false 27 m9.cs) (wz p av1 Prod.fst j (List.replicate p.ns 0)) av1 (uS L1) (uB L1) .hole⟩) 9
  (fun j=>j≤p.ns) (fun j=>p.ns - j) 0 (XZ rfl _ hz rfl (by simp [g8];try rfl)) (Nat.zero_le _) ?_
 rintro j hj
 try simp only at hj
 have el:=tv p av1 Prod.fst (List.replicate p.ns 0) j
 rw [List.length_replicate] at el
 have es:wz p av1 Prod.fst (j+1) (List.replicate p.ns 0)=(wz p av1 Prod.fst j (List.replicate p.ns 0)).set j (av1.getD (p.st j).1.toNat 0):=rfl
 obtain⟨nw,hnw⟩:∃ nw,wz p av1 Prod.fst j (List.replicate p.ns 0)=nw:=⟨_,rfl⟩
 rw [hnw] at el es
 simp only [hnw]
 refine AW.ag fun K3 hK3=>?_
 refine AW.aa rfl ?_
 simp
 apply hK3;clear hK3 K3
 refine AW.ag fun K2 hK2=>?_
 by_cases hlt:j<p.ns
 ·have hlt':(j:Int)<(p.ns:Int):=by omega
  have hx:=fun lv=>LU hp lv j hlt
  have hw:=cX (n:=(j:Int)+1) (by omega) (by omega)
  have hst0:=Cm hg hlt
  obtain⟨q,hq⟩:∃ q:Nat,(p.st j).1=q:=⟨(p.st j).1.toNat,by omega⟩
  have hql:q<av1.length:=by omega
  have hql':(q:Int)<(av1.length:Int):=by omega
  have hia:(j:Int)<(nw.length:Int):=by omega
  have hld:=jb (P:=Tryz.prog) (T:=3) (by simp) hql
  have es2:wz p av1 Prod.fst (j+1) (List.replicate p.ns 0)=nw.set j av1[q]:=by
   rw [es,hq,Int.toNat_natCast,List.getD_eq_getElem?_getD,List.getElem?_eq_getElem hql];rfl
  have hzs:=ve nw j av1[q] (by omega)
  refine AW.cond (b:=true) (by first|(simp [hlt'];done)|(simp [hlt'];omega)) ?_
  refine AW.skip ?_
  simp
  apply hK2
  refine AW.ag fun K3 hK3=>?_
  refine AW.block ?_
  refine AW.ag fun K5 hK5=>?_
  refine AW.aa rfl ?_
  simp [hx,aj]
  apply hK5;clear hK5 K5
  refine AW.eB mixed (by kernel_rfl) rfl ?_
  simp [hq,hql',hia,hld]
  repeat (refine And.intro (by omega) ?_)
  refine⟨by kernel_rfl,?_⟩
  apply hK3
  refine AW.aa rfl ?_
  simp [hw]
  refine⟨j+1,?_,by omega,by omega⟩
  simp only [es2]
  exact WZ rfl L1 5 7 19 _ (by decide) hz (by simp) (by simp) (by simp;try rfl) (by simp) (by simp) (by simp [hzs]) (by simp) (fun g=>by simpa using qx L1 g) (by simp) (by simp [g8];try rfl)
 have hje:j=p.ns:=by omega
 subst hje
 refine AW.cond (b:=false) (by first|(simp [];done)|(simp [];omega)) ?_
 refine AW.exit ?_
 simp
 apply hK4
 have hB0:iK p 0=(nw,av1,L1):=by
  show (wz p (nW p).1 Prod.fst p.ns (List.replicate p.ns 0),(nW p).1,(nW p).2)=_
  rw [hA,hnw]
 have hBl:=fun n=>EM p (nw,av1,L1) (by omega) n
 have hBe:∀ n,iK p n=s8 p (nw,av1,L1) n:=fun n=>by rw [← hB0];rfl
 refine AW.ag fun K4 hK4=>?_
 refine AW.ag fun K1 hK1=>?_
 refine AW.aa rfl ?_
 simp
 apply hK1;clear hK1 K1
 refine AW.block ?_
 refine AW.b9 (fun (j:Nat)=>⟨bp [(1,.c (.d (.int .i64 s))),(2,.c (.ptr 0 0)),(4,.c (.ptr 1 0)),(13,.c (.ptr 2 0)),(14,.c (.ptr 4 0)),(15,.c (.ptr 6 0)),(16,.c (.func (.func 79) [] [.ptr 0 0,.ptr 6 0,.ptr 4 0,.ptr 2 0])),(118,.c (.d (.int .i64 s))),(119,.c (.d (.int .i64 j)))],
  qA p (.cells true false 27 m9.cs) (s8 p (nw,av1,L1) j).1 (s8 p (nw,av1,L1) j).2.1 (uS (s8 p (nw,av1,L1) j).2.2) (uB (s8 p (nw,av1,L1) j).2.2) .hole⟩) 9
  (fun j=>j≤s.toNat) (fun j=>s.toNat - j) 0 (XZ rfl _ hz rfl (by simp [g8];try rfl)) (Nat.zero_le _) ?_
 rintro j hj
 try simp only at hj
 have hlen:=hBl j
 have hsx:s8 p (nw,av1,L1) (j+1)=xl p (s8 p (nw,av1,L1) j):=rfl
 obtain⟨⟨now,av,L⟩,hS⟩:∃ S,s8 p (nw,av1,L1) j=S:=⟨_,rfl⟩
 rw [hS] at hlen hsx
 simp only at hlen
 simp only [hS]
 obtain⟨hln,hla,hLg,hLl⟩:=hlen
 refine AW.ag fun K3 hK3=>?_
 refine AW.aa rfl ?_
 simp
 apply hK3;clear hK3 K3
 refine AW.ag fun K2 hK2=>?_
 by_cases hlt:j<s.toNat
 ·have hlt':(j:Int)<s:=by omega
  have hw:=cX (n:=(j:Int)+1) (by omega) (by omega)
  obtain⟨⟨av2,L2⟩,hr2⟩:∃ r,ey p now (av,L) p.head.toNat (p.tail.toNat - p.head.toNat)=r:=⟨_,rfl⟩
  have hc2:=CR m p hp now av L p.head.toNat p.tail.toNat (by omega) (by omega) (by omega) (by omega) (by omega) (by omega) hno (hns _ (by omega)) hnk av2 L2 hr2
  rw [show ((p.head.toNat:Nat):Int)=p.head by omega,show ((p.tail.toNat:Nat):Int)=p.tail by omega] at hc2
  have hl2:=mw p now (av,L) p.head.toNat (p.tail.toNat - p.head.toNat)
  have hL2:=nB p now (av,L) p.head.toNat (p.tail.toNat - p.head.toNat)
  have hq2:=EL (p:=p) (now:=now) (s:=(av,L)) (i:=p.head.toNat) (k:=p.tail.toNat - p.head.toNat)
  rw [hr2] at hl2 hL2 hq2
  simp only at hl2 hL2 hq2
  have hus:xl p (now,av,L)=(wz p av2 Prod.snd p.ns (List.replicate now.length 0),av2,L2):=by
   unfold xl;simp only [hr2]
  refine AW.cond (b:=true) (by first|(simp [hlt'];done)|(simp [hlt'];omega)) ?_
  refine AW.skip ?_
  simp
  apply hK2
  refine AW.ag fun K3 hK3=>?_
  refine AW.block ?_
  refine AW.ag fun K5 hK5=>?_
  refine AW.aa rfl ?_
  simp [nj,kB,l5]
  refine ai.run 9 p (.cells true false 27 m9.cs) now av av2 L L2 (by rfl) (by rfl) hl2 hq2 hc2 ?_
  intro Jn rds he
  simp
  apply hK5;clear hK5 K5
  refine AW.le (κ2:=9) (Iz rfl hL2.1 [(1,.c (.d (.int .i64 s))),(2,.c (.ptr 0 0)),(4,.c (.ptr 1 0)),(13,.c (.ptr 2 0)),(14,.c (.ptr 4 0)),(15,.c (.ptr 6 0)),(16,.c (.func (.func 79) [] [.ptr 0 0,.ptr 6 0,.ptr 4 0,.ptr 2 0])),(118,.c (.d (.int .i64 s))),(119,.c (.d (.int .i64 j)))] hz he (by intro k7;simp [g8];try rfl)) ?_
  refine AW.ag fun K5 hK5=>?_
  refine AW.aa rfl ?_
  simp [aj]
  repeat (refine And.intro (by omega) ?_)
  apply hK5;clear hK5 K5
  refine AW.ag fun K5 hK5=>?_
  refine AW.ag fun K6 hK6=>?_
  refine AW.aa rfl ?_
  simp [KW]
  apply hK6;clear hK6 K6
  refine AW.block ?_
  refine AW.b9 (fun (i:Nat)=>⟨bp [(1,.c (.d (.int .i64 s))),(2,.c (.ptr 0 0)),(4,.c (.ptr 1 0)),(13,.c (.ptr 2 0)),(14,.c (.ptr 4 0)),(15,.c (.ptr 6 0)),(16,.c (.func (.func 79) [] [.ptr 0 0,.ptr 6 0,.ptr 4 0,.ptr 2 0])),(118,.c (.d (.int .i64 s))),(119,.c (.d (.int .i64 j))),(19,.c (.aJ 9 0 now.length 1)),(131,.c (dg p.states)),(132,.c (.d (.int .i64 p.ns))),(133,.c (.d (.int .i64 i)))],
   aB (qA p (.cells true false 27 m9.cs) now av2 (uS L2) (uB L2) .hole) 9 (.cells true false 3 (zK (wz p av2 Prod.snd i (List.replicate now.length 0))))⟩) 10
   (fun i=>i≤p.ns) (fun i=>p.ns - i) 0 (SL rfl L2 _ hz rfl rfl rfl rfl rfl rfl rfl rfl (by simp [wz,CC]) rfl (by simp [g9,g8];try rfl)) (Nat.zero_le _) ?_
  rintro i hi
  try simp only at hi
  have el:=tv p av2 Prod.snd (List.replicate now.length 0) i
  rw [List.length_replicate] at el
  have es:wz p av2 Prod.snd (i+1) (List.replicate now.length 0)=(wz p av2 Prod.snd i (List.replicate now.length 0)).set i (av2.getD (p.st i).2.toNat 0):=rfl
  obtain⟨nx,hnx⟩:∃ nx,wz p av2 Prod.snd i (List.replicate now.length 0)=nx:=⟨_,rfl⟩
  rw [hnx] at el es
  simp only [hnx]
  refine AW.ag fun K7 hK7=>?_
  refine AW.aa rfl ?_
  simp
  apply hK7;clear hK7 K7
  refine AW.ag fun K6 hK6=>?_
  by_cases hli:i<p.ns
  ·have hli':(i:Int)<(p.ns:Int):=by omega
   have hx:=fun lv=>LU hp lv i hli
   have hwi:=cX (n:=(i:Int)+1) (by omega) (by omega)
   have hst0:=Cm hg hli
   obtain⟨q,hq⟩:∃ q:Nat,(p.st i).2=q:=⟨(p.st i).2.toNat,by omega⟩
   have hql:q<av2.length:=by omega
   have hql':(q:Int)<(av2.length:Int):=by omega
   have hia:(i:Int)<(now.length:Int):=by omega
   have hld:=jb (P:=Tryz.prog) (T:=3) (by simp) hql
   have es2:wz p av2 Prod.snd (i+1) (List.replicate now.length 0)=nx.set i av2[q]:=by
    rw [es,hq,Int.toNat_natCast,List.getD_eq_getElem?_getD,List.getElem?_eq_getElem hql];rfl
   have hzs:=ve nx i av2[q] (by omega)
   refine AW.cond (b:=true) (by first|(simp [hli'];done)|(simp [hli'];omega)) ?_
   refine AW.skip ?_
   simp
   apply hK6
   refine AW.ag fun K7 hK7=>?_
   refine AW.block ?_
   refine AW.ag fun K8 hK8=>?_
   refine AW.aa rfl ?_
   simp [hx,aj]
   apply hK8;clear hK8 K8
   refine AW.aa rfl ?_
   simp [hq,hql',hia,hld]
   repeat (refine And.intro (by omega) ?_)
   apply hK7
   refine AW.aa rfl ?_
   simp [hwi]
   refine⟨i+1,?_,by omega,by omega⟩
   simp only [es2]
   exact SL rfl L2 _ hz (by simp) (by simp) (by simp) (by simp) (by simp) (by simp) (by simp) (by simp) (by simp [hzs]) (by simp) (by simp [g9,g8];try rfl)
  have hie:i=p.ns:=by omega
  subst hie
  refine AW.cond (b:=false) (by first|(simp [];done)|(simp [];omega)) ?_
  refine AW.exit ?_
  simp
  apply hK5
  refine AW.aa rfl ?_
  simp [aj]
  apply hK3
  refine AW.aa rfl ?_
  simp [hw]
  refine⟨j+1,?_,by omega,by omega⟩
  rw [hus,hnx] at hsx
  simp only [hsx]
  exact WZ rfl L2 9 7 19 _ (by decide) hz (by simp) (by simp) (by simp;try rfl) (by simp) (by simp) (by simp) (by simp [el]) (fun g=>by simpa using qx L2 g) (by simp) (by simp [g8];try rfl)
 have hje:j=s.toNat:=by omega
 subst hje
 refine AW.cond (b:=false) (by first|(simp [];done)|(simp [];omega)) ?_
 refine AW.exit ?_
 simp
 apply hK4
 have hBs:iK p s.toNat=(now,av,L):=(hBe _).trans hS
 obtain⟨⟨av3,L3⟩,hr3⟩:∃ r,ey p now (av,L) p.tail.toNat (p.nn - p.tail.toNat)=r:=⟨_,rfl⟩
 have hC:jn p s.toNat=(av3,L3):=by unfold jn;rw [hBs];exact hr3
 have hc3:=CR m p hp now av L p.tail.toNat p.nn (by omega) (by omega) (by omega) (by omega) (by omega) (by omega) hno (hns _ (by omega)) hnk av3 L3 hr3
 rw [show ((p.tail.toNat:Nat):Int)=p.tail by omega] at hc3
 have hl3:=mw p now (av,L) p.tail.toNat (p.nn - p.tail.toNat)
 have hL3:=nB p now (av,L) p.tail.toNat (p.nn - p.tail.toNat)
 have hq3:=EL (p:=p) (now:=now) (s:=(av,L)) (i:=p.tail.toNat) (k:=p.nn - p.tail.toNat)
 rw [hr3] at hl3 hL3 hq3
 simp only at hl3 hL3 hq3
 have hne:L3≠[]:=by have h1:=NY hg hr1;have h3:=hL3.1;intro e;rw [e,List.length_nil] at h3;omega
 have huS:uS L3=.aJ 7 0 L3.length 7:=if_neg hne
 have huB:uB L3=.cells true false 55 (ij L3):=if_neg hne
 refine AW.ag fun K4 hK4=>?_
 refine AW.aa rfl ?_
 simp [nj,kB,l5,Df]
 refine ai.run 9 p (.cells true false 27 m9.cs) now av av3 L L3 (by rfl) (by rfl) hl3 hq3 hc3 ?_
 intro Jn rds he
 simp
 apply hK4;clear hK4 K4
 refine AW.le (κ2:=9) (Iz rfl hL3.1 [(1,.c (.d (.int .i64 s))),(2,.c (.ptr 0 0)),(4,.c (.ptr 1 0)),(13,.c (.ptr 2 0)),(14,.c (.ptr 4 0)),(15,.c (.ptr 6 0)),(16,.c (.func (.func 79) [] [.ptr 0 0,.ptr 6 0,.ptr 4 0,.ptr 2 0]))] hz he (by intro k7;simp [g8];try rfl)) ?_
 rw [huS,huB]
 refine AW.ag fun K4 hK4=>?_
 refine AW.aa rfl ?_
 simp [aj,nu]
 repeat (refine And.intro (by omega) ?_)
 apply hK4;clear hK4 K4
 have hres:=hg.res
 obtain⟨q,hq⟩:∃ q:Nat,p.res=q:=⟨p.res.toNat,by omega⟩
 have hql:q<av3.length:=by omega
 have hql':(q:Int)<(av3.length:Int):=by omega
 have hld:=jb (P:=Tryz.prog) (T:=3) (by simp) hql
 refine AW.ag fun K4 hK4=>?_
 refine AW.aa rfl ?_
 simp [hq,hql',hld,aj]
 apply hK4;clear hK4 K4
 refine AW.ag fun K4 hK4=>?_
 refine AW.aa rfl ?_
 simp [aj]
 apply hK4;clear hK4 K4
 have hV:iC p s.toNat=⟨p.f,p.mode,p.ins,some (L3.map Nd.e),L3.length,L3.length,none,av3[q]⟩:=by
  unfold iC;rw [hC,hq,Int.toNat_natCast,List.getD_eq_getElem?_getD,List.getElem?_eq_getElem hql];rfl
 rw [hV]
 refine AW.ret ?_
 refine mc.jQ (X:=.agg [dg p.f,.d (.int .i64 p.mode),dg p.ins,.aJ 7 0 L3.length 7,.d (.int .i64 L3.length),.d (.int .i64 L3.length),.d .nilsl,.d (.int .i64 av3[q])]) (y:=.c (.d (.int .i64 0))) (κ:=0) (T:=27) (t:=4) (u:=5) (k:=1) (off:=0) (own:=true) (fz:=false) (U:=27) (cs:=[dg p.f,.d (.int .i64 p.mode),dg p.ins,.aJ 7 0 L3.length 7,.d (.int .i64 L3.length),.d (.int .i64 L3.length),.d .nilsl,.d (.int .i64 av3[q])]) (ks:=[7]) rfl ?_ ?_ ?_ ?_ rfl rfl ?_
 ·simp
 ·simp [aj]
 ·rw [List.drop_zero];exact Cq ..
 ·simp
 ·exact I5 (own:=true) (fz:=false) (by omega) (by simp)
end Go.Am
