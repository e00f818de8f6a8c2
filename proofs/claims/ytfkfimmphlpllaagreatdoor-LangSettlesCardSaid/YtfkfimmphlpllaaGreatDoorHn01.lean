/- Helpers: an abstract machine for Go functions, and walks of functions of the program. -/
import Derived.Test.YtfkfimmphlpllaaGreatDoorHn00
import Derived.OrdersIn
import Derived.LoopNIn
import Derived.RangeFuncCalls
import Derived.Lib.AppendStr
import Derived.Lib.UnsafeStr
import Derived.Lib.ConvBytes
import Derived.WideKeyRuns

set_option linter.all false
set_option maxHeartbeats 8000000
set_option maxRecDepth 100000
namespace Go.Am
variable {o:Oper}{f:FuncId}{x fv y:AV}{P:Program}{us:List (Key × LB)}{i id n κ:Nat}{lv lv':Key→LB}{w:World}{Q:Exit→Act→World→Prop}{s s0 s':au}{ops:Array Oper}{k kh:Key}{ν σ σ':List LB}{cl:Call}{fo:Operand}{fs cs args:List AV}{b own:Bool}{G:List (List DV)}{rds l sel nk ks:List Key}{fn:Func}{fr:Nat→AV}{r:Option Nat}{a:Act}{F:Nat→Prop}{β:Key→Nat}{V:Vw}{v u:Value}{code:Code}{T:TypeId}{α:Type}{K:Act→World→Prop}
abbrev YT:=@List.mem_cons
abbrev abx:=@List.nodup_cons
abbrev abM:=@List.mem_map_of_mem
abbrev aby:=@List.idxOf?_eq_some_iff
abbrev abz:=@List.zipWith_cons_cons
abbrev Zo:=@List.mem_map
abbrev abN:=@List.flatMap_cons
abbrev ZY:=@List.mem_flatMap
abbrev ZM:=@List.mem_append
abbrev Zj:=@List.map_congr_left
abbrev aaV:=@List.mem_range
abbrev aaL:=@Option.getD_some
abbrev Zp:=@Bool.or_eq_true
abbrev abi:=@Oper.apart_spec
abbrev abO:=@Nat.lt_trichotomy
abbrev Zf:=@List.getElem?_append_right
abbrev abj:=@List.take_add_one
abbrev ZQ:=@List.getElem?_append_left
abbrev aaW:=@List.getElem?_cons_zero
abbrev abA:=@List.range'_succ
abbrev aa4:=@Array.getElem?_replicate
abbrev aaE:=@List.all_cons
abbrev abY:=@Array.getElem?_append_left
abbrev abZ:=@Array.getElem?_append_right
abbrev aaX:=@List.length_nil
abbrev aa5:=@Nat.mul_one
abbrev Ze:=@Nat.le_of_ble_eq_true
abbrev Y9:=@Nat.eq_of_beq_eq_true
abbrev abk:=@Nat.ne_of_beq_eq_false
theorem pE (lv:Key→LB)(p:Key × LB)(us:List (Key × LB)):aR lv (p::us)=aR (aD lv p.1 p.2) us:=rfl
theorem Di (lv:Key→LB)(us vs:List (Key × LB)):aR lv (us++vs)=aR (aR lv us) vs:=by
 simp [aR,List.foldl_append]
theorem bU:∀ {lv:Key→LB}{k:Key},k ∉ us.map (·.1)→aR lv us k=lv k:=by
 induction us with
 | nil=>intro lv k _;rfl
 | cons p us ih=>
  intro lv k h;simp only [Y0,YT,not_or] at h;rw [pE,ih h.2,aC _ _ h.1]
theorem jA:∀ {lv:Key→LB}{k:Key}{b:LB},(us.map (·.1)).Nodup→(k,b)∈us→aR lv us k=b:=by
 induction us with
 | nil=>intro lv k b _ h;cases h
 | cons p us ih=>
  intro lv k b hn h;simp only [Y0,abx] at hn;rw [pE];rcases List.mem_cons.1 h with rfl|h
  ·rw [bU hn.1,az]
  ·exact ih hn.2 h
section
variable {c:Ctx}{F:Nat→Prop}{β:Key→Nat}{s:au}{a:Act}{w:World}
theorem aE.GW:∀ {Z:List (Key × TypeId × List CV)}{F:Nat→Prop}{lv:Key→LB},aE c F β ⟨fr,lv⟩ a w→(Z.map (·.1)).Nodup→(∀ z∈Z,lv z.1=.cells true false z.2.1 z.2.2) →
 ∃ F',aE c F' β ⟨fr,aR lv (ec Z)⟩ a w∧∀ b,F b→F' b
 | [],F,lv,h,_,_=>⟨F,h,fun _ hb=>hb⟩
 | z::Z,F,lv,h,hn,hz=>by
  simp only [Y0,abx] at hn;have h1:=h.freeze (k:=z.1) (hz z (by simp))
  obtain⟨F',h2,h3⟩:=aE.GW (Z:=Z) h1 hn.2 (fun y hy=>by
   have hne:y.1≠z.1:=fun e=>hn.1 (e ▸ abM hy)
   rw [aC _ _ hne];exact hz y (by simp [hy]))
  exact⟨F',h2,fun b hb=>h3 b (.inl hb)⟩
theorem idxOf_getElem(hn:l.Nodup)(hi:i<l.length):l.idxOf? l[i]=some i:=by
 rw [aby];refine⟨hi,by simp,fun j hj=>?_⟩
 have:l[j]'(by omega)≠l[i]:=fun e=>by
  have:=List.pairwise_iff_getElem.1 hn j i (by omega) hi hj;exact this e
 simpa using this
theorem Fm(h:k ∉ l):l.idxOf? k=none:=by
 rw [List.idxOf?_eq_none_iff];exact h
theorem ld(h:k<1000):bn σ ν k=σ.getD k .hole:=by simp [bn,h]
theorem sZ(h:¬ k<1000):bn σ ν k=ν.getD (k - 1000) .hole:=by simp [bn,h]
theorem cZ{l:List α}{d:α}(h:i<l.length):l.getD i d=l[i]:=by
 rw [hJ,cn h];rfl
theorem c8{l:List α}{d:α}(h:¬ i<l.length):l.getD i d=d:=by
 rw [hJ,ZU (by omega)];rfl
theorem Nx(hn:(sel++nk).Nodup)
 (hl1:sel.length=σ.length) (hl2:σ'.length=σ.length) (hl3:nk.length=ν.length) (hb:σ.length≤1000)
 (hsel:∀ i (h:i<sel.length) (h':i<σ.length),(lv sel[i]).as σ[i] (aF sel nk kh)) (hnk:∀ k∈nk,lv k=.hole) (hh:lv kh=.hole)
 (hpass:∀ b∈σ,b.pass=true) (hnh:∀ b,b∈σ++σ'++ν→b≠.hole) (hown:own=true→∀ k∈sel,(lv k).wz=true) :
 vZ ⟨fr,lv⟩ (aF sel nk kh) (qa sel nk) (bn σ []) (bn σ' ν) own:=by
 have hns:sel.Nodup:=(List.nodup_append.1 hn).1;have hnn:nk.Nodup:=(List.nodup_append.1 hn).2.1;have hdis:∀ x∈sel,∀ y∈nk,x≠y:=(List.nodup_append.1 hn).2.2
 have hL:∀ k:Nat,bn σ [] k≠.hole→k<1000∧k<σ.length:=by
  intro k hk
  by_cases h1:k<1000
  ·rw [ld h1] at hk
   by_cases h2:k<σ.length
   ·exact⟨h1,h2⟩
   ·rw [c8 h2] at hk;exact absurd rfl hk
  ·rw [sZ h1] at hk;simp at hk
 refine⟨?_,?_,?_,?_,?_,?_⟩
 ·intro k;change Nat at k
  by_cases hk:bn σ [] k=.hole
  ·rw [hk];rfl
  ·obtain⟨h1,h2⟩:=hL k hk;rw [ld h1,cZ h2];exact hpass _ (cq h2)
 ·intro k;change Nat at k
  by_cases h1:k<1000
  ·by_cases h2:k<σ.length
   ·have h3:aF sel nk kh k=sel[k]'(by omega):=by simp only [aF,if_pos h1];exact cZ (by omega)
    rw [ld h1,cZ h2];show (lv (aF sel nk kh k)).as _ _;rw [h3];exact hsel k (by omega) h2
   ·have h3:aF sel nk kh k=kh:=by simp only [aF,if_pos h1];exact c8 (by omega)
    rw [ld h1,c8 h2];show lv (aF sel nk kh k)=.hole;rw [h3];exact hh
  ·rw [sZ h1];show (lv (aF sel nk kh k)).as (List.getD [] (k - 1000) .hole) _;have h4:List.getD ([]:List LB) (k - 1000) .hole=.hole:=by simp
   rw [h4];show lv (aF sel nk kh k)=.hole
   by_cases h2:k - 1000<nk.length
   ·have h3:aF sel nk kh k=nk[k - 1000]:=by simp only [aF,if_neg h1];exact cZ h2
    rw [h3];exact hnk _ (cq h2)
   ·have h3:aF sel nk kh k=kh:=by simp only [aF,if_neg h1];exact c8 h2
    rw [h3];exact hh
 ·intro k' k h;change Nat at k;unfold qa at h;split at h
  ·rename_i j hj
   simp only [ai] at h;subst h;rw [aby] at hj;obtain⟨hlt,he,_⟩:=hj;have h1:j<1000:=by omega
   refine⟨?_,?_⟩
   ·simp only [aF,if_pos h1];rw [cZ hlt];simpa using he
   ·rw [ld h1,cZ (by omega)];exact hnh _ (by simp [cq])
  ·split at h
   ·rename_i j hj
    simp only [ai] at h;subst h;rw [aby] at hj;obtain⟨hlt,he,_⟩:=hj;have h1:¬ 1000+j<1000:=by omega
    refine⟨?_,?_⟩
    ·simp only [aF,if_neg h1,ZE];rw [cZ hlt];simpa using he
    ·rw [sZ h1,ZE,cZ (by omega)];exact hnh _ (by simp [cq])
   ·cases h
 ·intro k hk;change Nat at k
  by_cases h1:k<1000
  ·rw [ld h1] at hk
   have h2:k<σ'.length:=by
    rcases Z7 k σ'.length with h|h
    ·exact h
    ·rw [c8 (by omega)] at hk;exact absurd rfl hk
   have h3:aF sel nk kh k=sel[k]'(by omega):=by simp only [aF,if_pos h1];exact cZ (by omega)
   rw [h3];unfold qa;rw [idxOf_getElem hns (by omega)]
  ·obtain⟨m,rfl⟩:∃ m:Nat,k=1000+m:=⟨k - 1000,by omega⟩
   rw [sZ h1,ZE] at hk
   have h2:m<ν.length:=by
    rcases Z7 m ν.length with h|h
    ·exact h
    ·rw [c8 (by omega)] at hk;exact absurd rfl hk
   have h4:m<nk.length:=by omega
   have h3:aF sel nk kh (1000+m)=nk[m]'h4:=by
    unfold aF;rw [if_neg h1,ZE];exact cZ h4
   rw [h3];unfold qa;rw [Fm (fun hm=>hdis _ hm _ (cq h4) rfl),idxOf_getElem hnn h4]
 ·intro k hk;change Nat at k;obtain⟨h1,h2⟩:=hL k hk;rw [ld h1,cZ (by omega)];exact hnh _ (by simp [cq])
 ·intro ho k hk;change Nat at k;obtain⟨h1,h2⟩:=hL k (iI hk);have h3:aF sel nk kh k=sel[k]'(by omega):=by simp only [aF,if_pos h1];exact cZ (by omega)
  show (lv (aF sel nk kh k)).wz=true;rw [h3];exact hown ho _ (cq _)
theorem kj (g:Key→Key)(own:Bool):∀ (ks:List Key) (bs:List LB),ks.length=bs.length→(bB g own ks bs).map (·.1)=ks
 | [],[],_=>rfl
 | k::ks,b::bs,h=>by
  have:=kj g own ks bs (by simpa using h);simp only [bB,abz,Y0] at this ⊢;rw [this]
 | [],_::_,h=>by simp at h
 | _::_,[],h=>by simp at h
theorem Ae (g:Key→Key)(own:Bool){bs:List LB}(h:i<ks.length) (h':i<bs.length):(ks[i],(bs[i].br g).fix own)∈bB g own ks bs:=by
 unfold bB;rw [List.mem_iff_getElem];exact⟨i,by simp;omega,by simp⟩
theorem Gl(hn:(sel++nk).Nodup)
 (hl2:sel.length=σ'.length) (hl3:nk.length=ν.length) (hb:σ'.length≤1000) :
 fk ⟨fr,lv⟩ (aF sel nk kh) (qa sel nk) (bn σ' ν) own=aR lv (bB (aF sel nk kh) own sel σ'++bB (aF sel nk kh) own nk ν):=by
 funext k'
 have hkeys:(bB (aF sel nk kh) own sel σ'++bB (aF sel nk kh) own nk ν).map (·.1)=sel++nk:=by
  rw [Z2,kj _ _ _ _ hl2,kj _ _ _ _ hl3]
 unfold fk qa
 cases h1:sel.idxOf? k' with
 | some j=>
  rw [aby] at h1;obtain⟨hlt,he,_⟩:=h1;have he:sel[j]=k':=by simpa using he
  subst he;simp only;rw [jA (by rw [hkeys];exact hn) (aaU _ (Ae _ own hlt (by omega)))];have hlt':j<σ'.length:=by omega
  have hlt2:(show Nat from j)<1000:=by show j<1000;omega
  rw [ld hlt2,cZ hlt']
 | none=>
  have h1':k' ∉ sel:=by rwa [List.idxOf?_eq_none_iff] at h1
  simp only
  cases h2:nk.idxOf? k' with
  | some j=>
   rw [aby] at h2;obtain⟨hlt,he,_⟩:=h2;have he:nk[j]=k':=by simpa using he
   subst he;simp only;rw [jA (by rw [hkeys];exact hn) (aa2 _ (Ae _ own hlt (by omega)))];have hlt':j<ν.length:=by omega
   have hlt2:¬ (show Nat from 1000+j)<1000:=by show ¬ 1000+j<1000;omega
   rw [sZ hlt2,ZE,cZ hlt']
  | none=>
   have h2':k' ∉ nk:=by rwa [List.idxOf?_eq_none_iff] at h2
   simp only;rw [bU (by rw [hkeys];simp [h1',h2'])]
theorem gq (Z:List (Key × TypeId × List CV)):(ec Z).map (·.1)=Z.map (·.1):=by simp [ec]
theorem bM.Pm(hd:∀ d,o.dst=some d→d<c.n) (ho:o.op=.call cl) (hcal:cl.callee=.value fo)
 (hfo:s.val c.G fo=fv) (ht:cj fv=some (f,fs,cs)) (hf:aT c.P f=true) (he:bM c f (fs++cl.args.toList.map (s.val c.G)++cs) s.lv x us rds) :
 bP c o s (au.put ⟨s.fr,aR s.lv us⟩ o.dst x):=by
 cases he with
 | flat us' ks rds x ha hc hx hr=>exact bM.LW hd ho hcal hfo ht hf ha hc hx
 | gen us Z sel nk kh σ σ' ν x own rds hZ hZn hn hZs hkh hkZ hl1 hl2 hl3 hb hsel hnk hh hpass hnh hown hlen hargs hrd hrh hc=>
  intro F β a w K Q h hK;refine G5 h ho hcal hfo ht hf fun vs hl hv=>?_;obtain⟨F1,h1,hF1⟩:=aE.GW (Z:=Z) (lv:=s.lv) h hZn hZ
  have hsame:∀ k,(∀ z∈Z,z.1≠k)→aR s.lv (ec Z) k=s.lv k:=fun k hk=>bU (by
   rw [gq];intro hm;obtain⟨z,hz,e⟩:=List.mem_map.1 hm;exact hk z hz e)
  have hB:vZ ⟨s.fr,aR s.lv (ec Z)⟩ (aF sel nk kh) (qa sel nk) (bn σ []) (bn σ' ν) own:=by
   refine Nx hn hl1 hl2 hl3 hb (fun i p q=>?_) (fun k hk=>?_) ?_ hpass hnh (fun ho k hk=>?_)
   ·rw [hsame _ (fun z hz e=>hZs z hz (by rw [e];simp [cq]))];exact hsel i p q
   ·rw [hsame _ (fun z hz e=>hZs z hz (by rw [e];simp [hk]))];exact hnk k hk
   ·rw [hsame _ hkZ];exact hh
   ·rw [hsame _ (fun z hz e=>hZs z hz (by rw [e];simp [hk]))];exact hown ho k hk
  have hR:=hB.br (F:=F1) (β:=β) (w:=w)
  have hK1:∀ v x,(Vw.mk F β s.lv w).av v x→(Vw.mk F1 β (aR s.lv (ec Z)) w).av v x:=by
   intro v x hv;refine (Vw.iG (V:=Vw.mk F β s.lv w) (V':=Vw.mk F1 β (aR s.lv (ec Z)) w) hF1 (fun _ _=>rfl) (fun k=>?_) (fun _ _ _=>rfl) (fun _=>aW _)).av hv;show (s.lv k).sub (aR s.lv (ec Z) k)
   by_cases hk:k∈Z.map (·.1)
   ·obtain⟨z,hz,rfl⟩:=List.mem_map.1 hk;rw [hZ z hz,jA (b:=.cells true true z.2.1 z.2.2) (by rw [gq];exact hZn) (by simp only [ec,Zo];exact⟨z,hz,rfl⟩)];simp [LB.sub]
   ·rw [bU (by rw [gq];exact hk)];exact LB.bl _
  refine (hc F1 (fun k=>β (aF sel nk kh k)) w vs (h1.enter hB) (by omega) (fun i p q=>?_)).mono fun e w' he=>?_
  ·have vw:=hK1 _ _ (hv i (by omega) q);rcases hargs i (by omega) p with ⟨g1,g2⟩|⟨ks,g1,g2⟩
   ·rw [g2] at vw;exact hR.av g1 vw
   ·exact h1.wu.fq (fun _ hb=>hb) g1 (fun k hk=>by
     obtain⟨own',T,cs',e⟩:=g2 k hk;have hb:=h1.bx k;unfold Vw.bx at hb;simp only [e] at hb;obtain⟨arr,p1,p2,p3,p4,p5⟩:=hb;exact p4) vw
  ·obtain⟨v,F',β',rfl,hS',hav⟩:=he;have hbk:=h1.back hB hS';have hup:=(hB.up (β:=β) F' β' w').av hav;rw [Gl hn (by omega) hl3 (by omega)] at hbk hup;rw [← Di,← YZ] at hbk hup;exact⟨v,rfl,hK _ _ _ _ (hbk.AX hd hup)⟩
end
theorem jx {f g:CV→Option (DV × List Key)}:∀ {cs:List CV},(∀ x∈cs,f x=g x)→fG f cs=fG g cs
 | [],_=>rfl
 | x::r,h=>by simp only [fG,h x (by simp),jx (cs:=r) (fun y hy=>h y (by simp [hy]))]
theorem ia {α β:Type}{f g:α→List β}:∀ {l:List α},(∀ x∈l,f x=g x)→l.flatMap f=l.flatMap g
 | [],_=>rfl
 | x::r,h=>by simp only [abN,h x (by simp),ia (l:=r) (fun y hy=>h y (by simp [hy]))]
theorem nh {lv lv':Key→LB}:∀ (n:Nat) (x:CV),(∀ k∈fY lv n x,lv' k=lv k)→cC lv' n x=cC lv n x∧fY lv' n x=fY lv n x
 | n+1,.ptr k off,h=>by
  have h1:lv' k=lv k:=h k (by simp [fY]);simp only [cC,fY,h1]
  cases e:lv k with
  | cells own fz T cs=>
   have ih:∀ x∈cs,cC lv' n x=cC lv n x∧fY lv' n x=fY lv n x:=fun x hx=>nh n x fun k' hk'=>h k' (by
    simp only [fY,e,YT,ZY];exact .inr ⟨x,hx,hk'⟩)
   simp only;refine⟨?_,?_⟩
   ·rw [jx (fun x hx=>(ih x (aaJ hx)).1)]
   ·congr 1;exact ia fun x hx=>(ih x hx).2
  | _=>exact⟨rfl,rfl⟩
 | n+1,.aI k off len sz,h=>by
  have h1:lv' k=lv k:=h k (by simp [fY]);simp only [cC,fY,h1]
  cases e:lv k with
  | cells own fz T cs=>
   have ih:∀ x∈cs,cC lv' n x=cC lv n x∧fY lv' n x=fY lv n x:=fun x hx=>nh n x fun k' hk'=>h k' (by
    simp only [fY,e,YT,ZY];exact .inr ⟨x,hx,hk'⟩)
   simp only;refine⟨?_,?_⟩
   ·rw [jx (fun x hx=>(ih x (aaJ (Z6 hx))).1)]
   ·congr 1;exact ia fun x hx=>(ih x hx).2
  | _=>exact⟨rfl,rfl⟩
 | n,.d x,_=>by cases n <;> exact⟨rfl,rfl⟩
 | 0,.ptr ..,_=>⟨rfl,rfl⟩
 | 0,.aI ..,_=>⟨rfl,rfl⟩
 | n,.mapr _,_=>by cases n <;> exact⟨rfl,rfl⟩
 | n,.func ..,_=>by cases n <;> exact⟨rfl,rfl⟩
 | n,.ifc ..,_=>by cases n <;> exact⟨rfl,rfl⟩
 | n,.junk,_=>by cases n <;> exact⟨rfl,rfl⟩
theorem oT {f:CV→Option (DV × List Key)}{g:CV→List Key}:∀ {cs:List CV}{l:List DV}{ks:List Key},(∀ x∈cs,∀ d ks,f x=some (d,ks)→∀ k∈ks,k∈g x)→fG f cs=some (l,ks)→∀ k∈ks,k∈cs.flatMap g
 | [],l,ks,_,h=>by simp only [fG,ai,fy] at h;obtain⟨rfl,rfl⟩:=h;simp
 | x::r,l,ks,hf,h=>by
  simp only [fG] at h;split at h
  ·rename_i d k l' ks' h1 h2
   simp only [ai,fy] at h;obtain⟨rfl,rfl⟩:=h;intro y hy;simp only [abN,ZM];rcases List.mem_append.1 hy with h|h
   ·exact .inl (hf x (by simp) _ _ h1 y h)
   ·exact .inr (oT (fun x hx=>hf x (by simp [hx])) h2 y h)
  ·cases h
theorem s8 {lv:Key→LB}:∀ (n:Nat) (x:CV) (d:DV) (ks:List Key),cC lv n x=some (d,ks)→∀ k∈ks,k∈fY lv n x
 | n,.d x,d,ks,h=>by simp only [cC,ai,fy] at h;obtain⟨rfl,rfl⟩:=h;simp
 | n+1,.ptr k off,d,ks,h=>by
  simp only [cC] at h;simp only [fY];split at h
  ·rename_i own fz T cs e
   split at h
   ·rw [Y8] at h;obtain⟨⟨l,ks'⟩,ht,he⟩:=h;simp only [fy] at he;obtain⟨rfl,rfl⟩:=he;intro y hy;rcases List.mem_cons.1 hy with rfl|hy
    ·simp
    ·have:=oT (g:=fY lv n) (fun x _ d ks hx=>s8 n x d ks hx) ht y hy;obtain⟨x,hx,hk⟩:=List.mem_flatMap.1 this
     try rw [e]
     exact ZX _ (List.mem_flatMap.2 ⟨x,aaJ hx,hk⟩)
   ·cases h
  ·cases h
 | n+1,.aI k off len sz,d,ks,h=>by
  simp only [cC] at h;simp only [fY];split at h
  ·rename_i own fz T cs e
   split at h
   ·rw [Y8] at h;obtain⟨⟨l,ks'⟩,ht,he⟩:=h;simp only [fy] at he;obtain⟨rfl,rfl⟩:=he;intro y hy;rcases List.mem_cons.1 hy with rfl|hy
    ·simp
    ·have:=oT (g:=fY lv n) (fun x _ d ks hx=>s8 n x d ks hx) ht y hy;obtain⟨x,hx,hk⟩:=List.mem_flatMap.1 this
     try rw [e]
     exact ZX _ (List.mem_flatMap.2 ⟨x,aaJ (Z6 hx),hk⟩)
   ·cases h
  ·simp only [ai,fy] at h;obtain⟨rfl,rfl⟩:=h;simp
  ·cases h
 | 0,.ptr ..,_,_,h=>by cases h
 | 0,.aI ..,_,_,h=>by cases h
 | n,.mapr _,_,_,h=>by cases n <;> cases h
 | n,.func ..,_,_,h=>by cases n <;> cases h
 | n,.ifc ..,_,_,h=>by cases n <;> cases h
 | n,.junk,_,_,h=>by cases n <;> cases h
theorem mT(h:∀ k∈jo lv x,lv' k=lv k):fq lv' x=fq lv x∧jo lv' x=jo lv x:=by
 cases x with
 | c x=>obtain⟨h1,h2⟩:=nh 8 x h;exact⟨by simp only [fq,h1],h2⟩
 | agg cs=>
  have ih:∀ x∈cs,cC lv' 8 x=cC lv 8 x∧fY lv' 8 x=fY lv 8 x:=fun x hx=>nh 8 x fun k hk=>h k (List.mem_flatMap.2 ⟨x,hx,hk⟩)
  exact⟨by simp only [fq,jx (fun x hx=>(ih x hx).1)],ia fun x hx=>(ih x hx).2⟩
 | tup l=>exact⟨rfl,rfl⟩
 | undef=>exact⟨rfl,rfl⟩
 | junk=>exact⟨rfl,rfl⟩
theorem Ky(h:fq lv x=some (y,ks)):∀ k∈ks,k∈jo lv x:=by
 cases x with
 | c x=>
  simp only [fq,Y8] at h;obtain⟨⟨d,ks'⟩,ht,he⟩:=h;simp only [fy] at he;obtain⟨rfl,rfl⟩:=he;exact s8 _ _ _ _ ht
 | agg cs=>
  simp only [fq,Y8] at h;obtain⟨⟨d,ks'⟩,ht,he⟩:=h;simp only [fy] at he;obtain⟨rfl,rfl⟩:=he;exact oT (fun x _ d ks hx=>s8 8 x d ks hx) ht
 | tup l=>cases h
 | undef=>cases h
 | junk=>cases h
theorem ve {lv lv':Key→LB}:∀ {xs:List AV},(∀ a∈xs,∀ k∈jo lv a,lv' k=lv k)→jn lv' xs=jn lv xs
 | [],_=>rfl
 | x::r,h=>by simp only [jn,(mT (h x (by simp))).1,ve (xs:=r) (fun a ha=>h a (by simp [ha]))]
theorem bM.local {c:Ctx}{xs:List AV}(h:bM c f xs lv x us rds) (ha:Agree lv lv' us rds):bM c f xs lv' x us rds:=by
 obtain⟨ha1,ha2⟩:=ha
 cases h with
 | flat us' ks rds x hd hc hx hr=>
  have hl:∀ a∈xs,∀ k∈jo lv a,lv' k=lv k:=fun a h k hk=>ha1 k (hr a h k hk)
  exact .flat us' ks rds x (by rw [ve hl];exact hd) hc hx (fun a h k hk=>hr a h k (by rw [(mT (hl a h)).2] at hk;exact hk))
 | gen us Z sel nk kh σ σ' ν x own rds hZ hZn hn hZs hkh hkZ hl1 hl2 hl3 hb hsel hnk hh hpass hnh hown hlen hargs hrd hrh hc=>
  have hkeysZ:∀ z∈Z,lv' z.1=lv z.1:=fun z hz=>ha2 (z.1,.cells true true z.2.1 z.2.2) (by
   refine aaU _ (aaU _ ?_);simp only [ec,Zo];exact⟨z,hz,rfl⟩)
  have hks:∀ i (h:i<sel.length),lv' sel[i]=lv sel[i]:=fun i h=>by
   have hm:sel[i]∈(bB (aF sel nk kh) own sel σ').map (·.1):=by rw [kj _ _ _ _ (by omega)];exact cq h
   obtain⟨p,hp,e⟩:=List.mem_map.1 hm;rw [← e];exact ha2 p (aaU _ (aa2 _ hp))
  have hkn:∀ k∈nk,lv' k=lv k:=fun k hk=>by
   have hm:k∈(bB (aF sel nk kh) own nk ν).map (·.1):=by rw [kj _ _ _ _ (by omega)];exact hk
   obtain⟨p,hp,e⟩:=List.mem_map.1 hm;rw [← e];exact ha2 p (aa2 _ hp)
  have hfr:∀ k,(k∈rds∨k∈Z.map (·.1))→aR lv' (ec Z) k=aR lv (ec Z) k:=by
   intro k hk
   by_cases hz:k∈(ec Z).map (·.1)
   ·obtain⟨p,hp,e⟩:=List.mem_map.1 hz;have hn':((ec Z).map (·.1)).Nodup:=by rw [gq];exact hZn
    obtain⟨k',b⟩:=p;simp only at e;subst e;rw [jA hn' hp,jA hn' hp]
   ·rw [bU hz,bU hz];rcases hk with hk|hk
    ·exact ha1 k hk
    ·rw [gq] at hz;exact absurd hk hz
  have hla:∀ a∈xs,∀ k∈jo (aR lv (ec Z)) a,aR lv' (ec Z) k=aR lv (ec Z) k:=fun a h k hk=>hfr k (hrd a h k hk)
  refine .gen us Z sel nk kh σ σ' ν x own rds (fun z hz=>by rw [hkeysZ z hz];exact hZ z hz) hZn hn hZs hkh hkZ hl1 hl2 hl3 hb (fun i p q=>by rw [hks i p];exact hsel i p q)
   (fun k hk=>by rw [hkn k hk];exact hnk k hk) (by rw [ha1 kh hrh];exact hh) hpass hnh (fun ho k hk=>?_) hlen (fun i p q=>?_) (fun a h k hk=>?_) hrh hc
  ·obtain⟨i,hi,rfl⟩:=List.mem_iff_getElem.1 hk;rw [hks i hi];exact hown ho _ (cq hi)
  ·rcases hargs i p q with ⟨g1,g2⟩|⟨ks,g1,g2⟩
   ·exact .inl ⟨g1,g2⟩
   ·refine .inr ⟨ks,by rw [(mT (hla _ (cq p))).1];exact g1,fun k hk=>?_⟩;rw [hla _ (cq p) k (Ky g1 k hk)];exact g2 k hk
  ·rw [(mT (hla a h)).2] at hk;exact hrd a h k hk
def nS (r:Option Nat):Fence:={ Fence.wide with round:=r }
theorem DH{args:Array Value}{R:Ending→World→Prop}(h:Calls P f args w R):CallsIn (nS r) n P f args w R:=
 (callsIn_wide (n:=n)).2 h
theorem Gg{row:String}{args:Array Value}{R:Value→World→Prop}(h:Rows P row args w R):RowsIn (nS r) n P row args w R:=
 fun c cs _=>let ⟨v,w',hr,hs⟩:=h c cs;⟨v,w',hr,stepsIn_wide.2 hs⟩
theorem rI(hd:∀ c,o.op≠.defer c) (h:o.wp P a w K Q) :
 o.wpIn (nS r) n P a w K Q:=by
 refine⟨fun _ _=>trivial,?_⟩;rw [Oper.semAt_eq _ _ _ hd];unfold Oper.wp at h;generalize (execOp a.eval o).run P w=res at *
 have hdep:∀ m:Nat,(nS r).depth.isSome=true→1≤m:=fun m h=>by simp [nS,Fence.wide] at h
 cases res with
 | ok x w'=>
  cases x <;> simp only [Oper.upon] at h <;> simp only [Oper.uponIn] <;> first|exact h|exact⟨hdep _,DH h⟩|exact⟨hdep _,Gg h⟩|exact h.elim
 | halt x w'=>cases x <;> simp only [Oper.upon] at h <;> simp only [Oper.uponIn] <;> first|exact h|exact h.elim
def eC (ops:Array Oper)(g:Option (Nat × Bool))(fr:Nat→AV):Option Bool:=
 match g with
 | none=>some true
 | some (j,want)=>match (ops[j]?).bind (·.dst) with
  | some d=>match fr d with
   | .c (.d (.bool b))=>some (b == want)
   | .undef=>some false
   | _=>none
  | none=>none
section
variable {c:Ctx}{F:Nat→Prop}{β:Key→Nat}{s:au}{a:Act}{w:World}{ops:Array Oper}
theorem ga(h:aE c F β s a w) (hw:eC ops o.guard s.fr=some b):Region.wanted o (yielded ops a.tmps)=b:=by
 unfold eC at hw;unfold Region.wanted;split at hw
 ·rename_i hg;rw [hg];simpa using hw
 ·rename_i j want hg
  rw [hg];simp only;split at hw
  ·rename_i d hd
   have hv:=h.fr d;unfold yielded;rw [hd];simp only [Option.bind_some];split at hw
   ·rename_i b' hb
    rw [hb] at hv;have hv':=Vw.qp hv;simp only [ai] at hw;subst hw
    have hq:a.tmps[d]?=some (.bool b'):=by
     cases e:a.tmps[d]? with
     | none=>rw [ZA,e] at hv';cases hv'
     | some v=>rw [ZA,e] at hv';simp at hv';rw [hv']
    rw [hq];cases b' <;> cases want <;> rfl
   ·rename_i hb
    rw [hb] at hv;simp only [ai] at hw;subst hw;have hv':a.tmps.getD d undef=undef:=hv
    cases e:a.tmps[d]? with
    | none=>rfl
    | some v=>
     rw [ZA,e] at hv';simp at hv';subst hv';rfl
   ·cases hw
  ·cases hw
end
structure Fx where
 x:AV
 us:List (Key × LB)
 rds:List Key
variable {e e':Fx}{es:List Fx}
def Fx.app (e:Fx)(dst:Option Nat)(s:au):au:=au.put ⟨s.fr,aR s.lv e.us⟩ dst e.x
def cO (c:Ctx)(r:Option Nat)(ops:Array Oper)(o:Oper)(s0:au)(e:Fx):Prop:=
 ∀ s:au,(∀ t∈o.looksAt ops,s.fr t=s0.fr t)→Agree s0.lv s.lv e.us e.rds →
  ∀ F β a w K Q,aE c F β s a w→(∀ F' β' a' w',aE c F' β' (e.app o.dst s) a' w'→K a' w') →
   if Region.wanted o (yielded ops a.tmps) then o.wpIn (nS r) 0 c.P a w K Q else K (a.put o.dst undef) w
theorem val_congr{x:Operand}(h:∀ t,x=.tmp t→s.fr t=s0.fr t):s.val G x=s0.val G x:=by
 cases x with
 | tmp t=>exact h t rfl
 | _=>rfl
theorem xY(h:∀ t∈o.looksAt ops,s.fr t=s0.fr t):∀ x∈o.op.operands.toList,s.val G x=s0.val G x:=by
 intro x hx;refine val_congr fun t ht=>h t ?_;subst ht;exact aaU _ (List.mem_filterMap.2 ⟨.tmp t,hx,rfl⟩)
theorem mO(h:∀ t∈o.looksAt ops,s.fr t=s0.fr t):eC ops o.guard s.fr=eC ops o.guard s0.fr:=by
 unfold eC
 cases hg:o.guard with
 | none=>rfl
 | some p=>
  obtain⟨j,want⟩:=p;simp only
  cases hd:(ops[j]?).bind (·.dst) with
  | none=>rfl
  | some d=>
   simp only;rw [h d (aa2 _ (by rw [hg];simp [hd]))]
section
variable {c:Ctx}{r:Option Nat}{ops:Array Oper}{o:Oper}{s0:au}
theorem cO.skip (hd:∀ d,o.dst=some d→d<c.n)(hw:eC ops o.guard s0.fr=some false):cO c r ops o s0 ⟨.undef,[],[]⟩:=by
 intro s h1 _ F β a w K Q h hK;rw [ga h ((mO h1).trans hw)];simp only [Y2,if_false];exact hK F β _ _ (h.AX hd (mU _))
theorem cO.qb(hw:eC ops o.guard s0.fr=some true) (hdf:∀ cl,o.op≠.defer cl)
 (hs:∀ s:au,(∀ x∈o.op.operands.toList,s.val c.G x=s0.val c.G x)→Agree s0.lv s.lv e.us e.rds→bP c o s (e.app o.dst s)):cO c r ops o s0 e:=by
 intro s h1 h2 F β a w K Q h hK;rw [ga h ((mO h1).trans hw)];simp only [if_true];exact rI hdf (hs s (xY h1) h2 F β a w K Q h hK)
theorem cO.plain {κ:Key}{vc:Prop}(hd:∀ d,o.dst=some d→d<c.n) (hw:eC ops o.guard s0.fr=some true)
 (h:aZ c.P o.op (o.op.operands.toList.map (s0.val c.G)) s0.lv κ=some (x,us,rds,vc)) (hvc:vc):cO c r ops o s0 ⟨x,us,rds⟩:=by
 refine cO.qb hw (fun cl hcl=>?_) (fun s h1 h2=>?_)
 ·rw [hcl] at h;simp [aZ] at h
 ·have hl:=nT h (show Agree s0.lv s.lv us rds from h2);exact zY hd rfl (Zj h1) hl hvc
end
theorem rM:∀ {f g:Key→LB}{k:Key},k∈us.map (·.1)→aR f us k=aR g us k:=by
 induction us with
 | nil=>intro f g k h;cases h
 | cons p us ih=>
  intro f g k h;rw [pE,pE]
  by_cases hk:k∈us.map (·.1)
  ·exact ih hk
  ·rw [bU hk,bU hk];simp only [Y0,YT] at h;rcases h with h|h
   ·rw [h,az,az]
   ·exact absurd h hk
theorem n8 (e:Fx)(dst:Option Nat)(s:au)(t:Nat):(e.app dst s).fr t=if dst=some t then e.x else s.fr t:=by
 cases dst with
 | none=>simp [Fx.app,au.put]
 | some d=>
  simp only [Fx.app,au.put,ai]
  by_cases h:d=t
  ·subst h;rw [az];simp
  ·rw [aC _ _ (fun e=>h e.symm)];simp [h]
theorem nq (e:Fx)(dst:Option Nat)(s:au):(e.app dst s).lv=aR s.lv e.us:=by
 cases dst <;> rfl
def bf (ops:Array Oper)(es:List Fx)(s0:au)(L:Nat→Bool):Nat→au
 | 0=>s0
 | m+1=>match ops[m]?,es[m]? with
  | some o,some e=>if L m then e.app o.dst (bf ops es s0 L m) else bf ops es s0 L m
  | _,_=>bf ops es s0 L m
inductive uX (ops:Array Oper):Nat→Nat→Prop where
 | one {i j:Nat}{o:Oper}{ed:Edge}(ho:ops[j]?=some o) (he:ed∈o.after) (hb:Region.binds .any ed=true) (hi:ed.on=i):uX ops i j
 | more {i j:Nat}{o:Oper}{ed:Edge}(ho:ops[j]?=some o) (he:ed∈o.after) (hb:Region.binds .any ed=true) (hi:uX ops i ed.on):uX ops i j
section
variable {ops:Array Oper}{es:List Fx}{s0:au}{L:Nat→Bool}
theorem fB {L L':Nat→Bool}:∀ {m:Nat},(∀ j,j<m→L j=L' j)→bf ops es s0 L m=bf ops es s0 L' m
 | 0,_=>rfl
 | m+1,h=>by
  have ih:=fB (m:=m) (fun j hj=>h j (by omega));simp only [bf,ih,h m (by omega)]
theorem Cp {i t:Nat}(h:∀ j o,ops[j]?=some o→o.dst=some t→(j<i↔L j=true)):∀ m,(bf ops es s0 L m).fr t=(bf ops es s0 (fun _=>true) (min m i)).fr t
 | 0=>by simp [bf]
 | m+1=>by
  have ih:=Cp h m
  by_cases hm:m<i
  ·have e1:min (m+1) i=min m i+1:=by omega
   have e2:min m i=m:=by omega
   rw [e1,e2];rw [e2] at ih;simp only [bf]
   cases ho:ops[m]? with
   | none=>exact ih
   | some o=>
    cases he:es[m]? with
    | none=>exact ih
    | some e=>
     simp only [if_true]
     by_cases hd:o.dst=some t
     ·rw [(h m o ho hd).1 hm];simp only [if_true,n8,hd]
     ·by_cases hL:L m=true
      ·simp only [hL,if_true,n8,hd,if_false];exact ih
      ·simp only [hL,n8,hd,if_false];exact ih
  ·have e1:min (m+1) i=min m i:=by omega
   rw [e1,← ih];simp only [bf]
   cases ho:ops[m]? with
   | none=>rfl
   | some o=>
    cases he:es[m]? with
    | none=>rfl
    | some e=>
     simp only
     by_cases hL:L m=true
     ·have hd:o.dst≠some t:=fun hd=>hm ((h m o ho hd).2 hL)
      simp only [hL,if_true,n8,hd,if_false]
     ·simp only [hL,if_false,Y2]
theorem Hi {i:Nat}{k:Key}(h:∀ (j:Nat) e,es[j]?=some e→k∈e.us.map (·.1)→(j<i↔L j=true)):∀ m,(bf ops es s0 L m).lv k=(bf ops es s0 (fun _=>true) (min m i)).lv k
 | 0=>by simp [bf]
 | m+1=>by
  have ih:=Hi h m
  by_cases hm:m<i
  ·have e1:min (m+1) i=min m i+1:=by omega
   have e2:min m i=m:=by omega
   rw [e1,e2];rw [e2] at ih;simp only [bf]
   cases ho:ops[m]? with
   | none=>exact ih
   | some o=>
    cases he:es[m]? with
    | none=>exact ih
    | some e=>
     simp only [if_true]
     by_cases hd:k∈e.us.map (·.1)
     ·rw [(h m e he hd).1 hm];simp only [if_true,nq];exact rM hd
     ·by_cases hL:L m=true
      ·simp only [hL,if_true,nq,bU hd];exact ih
      ·simp only [hL,nq,bU hd];exact ih
  ·have e1:min (m+1) i=min m i:=by omega
   rw [e1,← ih];simp only [bf]
   cases ho:ops[m]? with
   | none=>rfl
   | some o=>
    cases he:es[m]? with
    | none=>rfl
    | some e=>
     simp only
     by_cases hL:L m=true
     ·have hd:k ∉ e.us.map (·.1):=fun hd=>hm ((h m e he hd).2 hL)
      simp only [hL,if_true,nq,bU hd]
     ·simp only [hL,if_false,Y2]
theorem u6 {t:Nat}(ho:ops[i]?=some o) (he:es[i]?=some e) (hi:i<n) (hL:L i=false)
 (hlt:∀ j o',i<j→ops[j]?=some o'→L j=true→o.dst=some t→o'.dst≠some t) :
 (e.app o.dst (bf ops es s0 L n)).fr t=(bf ops es s0 (fun j=>L j || j == i) n).fr t:=by
 have below:∀ m,m≤i→bf ops es s0 (fun j=>L j || j == i) m=bf ops es s0 L m:=fun m hm=>
  fB fun j hj=>by have:(j == i)=false:=by simp;omega
                  simp [this]
 have h1:∀ m,i<m→(e.app o.dst (bf ops es s0 L m)).fr t=(bf ops es s0 (fun j=>L j || j == i) m).fr t:=by
  intro m
  induction m with
  | zero=>intro h;omega
  | succ m ih=>
   intro hm
   by_cases hmi:m=i
   ·subst hmi;simp only [bf,ho,he,hL,Y2,if_false,beq_self_eq_true,Bool.or_true,if_true];rw [below m (by omega)]
   ·have ih:=ih (by omega);have hne:(m == i)=false:=by simpa using hmi
    simp only [bf]
    cases ho':ops[m]? with
    | none=>exact ih
    | some o'=>
     cases he':es[m]? with
     | none=>exact ih
     | some e'=>
      simp only [hne,Bool.or_false]
      by_cases hLm:L m=true
      ·simp only [hLm,if_true];rw [n8,n8,n8];rw [n8] at ih
       by_cases hd:o.dst=some t
       ·have:=hlt m o' (by omega) ho' hLm hd;simp only [hd,if_true,this,if_false] at ih ⊢;exact ih
       ·simp only [hd,if_false] at ih ⊢;rw [ih]
      ·simp only [hLm,Y2,if_false];exact ih
 exact h1 n hi
theorem uY(ho:ops[i]?=some o) (he:es[i]?=some e) (hi:i<n) (hL:L i=false)
 (hlt:∀ (j:Nat) e',i<j→es[j]?=some e'→L j=true→k∈e.us.map (·.1)→k ∉ e'.us.map (·.1)) :
 (e.app o.dst (bf ops es s0 L n)).lv k=(bf ops es s0 (fun j=>L j || j == i) n).lv k:=by
 have below:∀ m,m≤i→bf ops es s0 (fun j=>L j || j == i) m=bf ops es s0 L m:=fun m hm=>
  fB fun j hj=>by have:(j == i)=false:=by simp;omega
                  simp [this]
 have h1:∀ m,i<m→(e.app o.dst (bf ops es s0 L m)).lv k=(bf ops es s0 (fun j=>L j || j == i) m).lv k:=by
  intro m
  induction m with
  | zero=>intro h;omega
  | succ m ih=>
   intro hm
   by_cases hmi:m=i
   ·subst hmi;simp only [bf,ho,he,hL,Y2,if_false,beq_self_eq_true,Bool.or_true,if_true];rw [below m (by omega)]
   ·have ih:=ih (by omega);have hne:(m == i)=false:=by simpa using hmi
    simp only [bf]
    cases ho':ops[m]? with
    | none=>exact ih
    | some o'=>
     cases he':es[m]? with
     | none=>exact ih
     | some e'=>
      simp only [hne,Bool.or_false]
      by_cases hLm:L m=true
      ·simp only [hLm,if_true];rw [nq,nq,nq];rw [nq] at ih
       by_cases hd:k∈e.us.map (·.1)
       ·have hd':=hlt m e' (by omega) he' hLm hd;rw [bU hd',← ih];exact rM hd
       ·rw [bU hd];rw [bU hd] at ih
        by_cases hd':k∈e'.us.map (·.1)
        ·exact rM hd'
        ·rw [bU hd',bU hd'];exact ih
      ·simp only [hLm,Y2,if_false];exact ih
 exact h1 n hi
end
def O7 (ops:Array Oper)(o o':Oper)(e e':Fx):Prop:=
 o.apart ops o'=true∧(∀ k∈e.us.map (·.1),k ∉ e'.us.map (·.1)∧k ∉ e'.rds)∧∀ k∈e'.us.map (·.1),k ∉ e.rds
def cnt (p:Nat→Bool):Nat→Nat
 | 0=>0
 | n+1=>cnt p n+(if p n then 1 else 0)
theorem pg {p q:Nat→Bool}:∀ {n:Nat},(∀ i,i<n→p i=q i)→cnt p n=cnt q n
 | 0,_=>rfl
 | n+1,h=>by simp only [cnt,pg (n:=n) (fun i hi=>h i (by omega)),h n (by omega)]
theorem Cy {p:Nat→Bool}{i:Nat}(h:p i=false):∀ {n:Nat},i<n→cnt (fun j=>p j || j == i) n=cnt p n+1
 | 0,hi=>absurd hi (by omega)
 | n+1,hi=>by
  by_cases e:n=i
  ·subst e
   have h0:∀ j,j<n→(p j || j == n)=p j:=fun j hj=>by
    have h1:(j == n)=false:=by simp;omega
    simp [h1]
   have:=pg h0;simp only [cnt,this,h];simp
  ·have hne:(n == i)=false:=by simpa using e
   simp only [cnt,Cy h (n:=n) (by omega),hne,Bool.or_false];omega
theorem Mf (p:Nat→Bool):∀ n,cnt p n≤n
 | 0=>aW _
 | n+1=>by have:=Mf p n;simp only [cnt];split <;> omega
theorem Be {p:Nat→Bool}:∀ {n:Nat},n≤cnt p n→∀ i,i<n→p i=true
 | 0,_,i,hi=>absurd hi (by omega)
 | n+1,h,i,hi=>by
  have h1:=Mf p n;simp only [cnt] at h
  by_cases hp:p n=true
  ·rw [if_pos hp] at h
   by_cases e:i=n
   ·rw [e];exact hp
   ·exact Be (n:=n) (by omega) i (by omega)
  ·rw [if_neg hp] at h;omega
theorem mem_ready{listed:Array Bool}:i∈Region.ready .any ops listed ↔
 i<ops.size∧listed.getD i true=false∧∃ o,ops[i]?=some o∧∀ ed∈o.after,Region.binds .any ed=true→listed.getD ed.on false=true:=by
 unfold Region.ready;simp only [List.mem_filter,aaV,cy,Zd];refine and_congr_right fun hi=>and_congr_right fun _=>?_;have ho:ops[i]?=some ops[i]:=ZL hi;rw [ho];simp only [Zb,aaL,Array.all_eq_true',Zp,Zd,ai,exists_eq_left'];constructor
 ·intro h ed hed hb;rcases h ed hed with h|h
  ·rw [hb] at h;cases h
  ·exact h
 ·intro h ed hed
  cases hb:Region.binds .any ed with
  | false=>exact .inl rfl
  | true=>exact .inr (h ed hed hb)
section
variable {c:Ctx}{r:Option Nat}{ops:Array Oper}{es:List Fx}{s0:au}
theorem tR (hlen:es.length=ops.size)
 (hE:∀ (i:Nat) o e,ops[i]?=some o→es[i]?=some e→cO c r ops o (bf ops es s0 (fun _=>true) i) e)
 (hback:∀ (i:Nat) o,ops[i]?=some o→∀ ed∈o.after,Region.binds .any ed=true→ed.on<i)
 (hind:∀ (i j:Nat) o o' e e',i<j→ops[i]?=some o→ops[j]?=some o'→es[i]?=some e→es[j]?=some e'→uX ops i j∨O7 ops o o' e e')(hQ:∀ F' β' a' w',aE c F' β' (bf ops es s0 (fun _=>true) ops.size) a' w'→Q .normal a' w') :
 ∀ (fuel:Nat) (listed:Array Bool),listed.size=ops.size →
  (∀ (j:Nat) o,ops[j]?=some o→listed.getD j false=true→∀ ed∈o.after,Region.binds .any ed=true→listed.getD ed.on false=true) →
  ops.size≤fuel+cnt (fun j=>listed.getD j false) ops.size →
  ∀ F β a w,aE c F β (bf ops es s0 (fun j=>listed.getD j false) ops.size) a w→wpAnyIn (nS r) 0 c.P .any ops Q fuel listed a w:=by
 intro fuel
 have hall:∀ (listed:Array Bool),(∀ i,i<ops.size→listed.getD i false=true)→∀ F β a w,aE c F β (bf ops es s0 (fun j=>listed.getD j false) ops.size) a w→Q .normal a w:=by
  intro listed hl F β a w h;rw [fB (L':=fun _=>true) hl] at h;exact hQ _ _ _ _ h
 induction fuel with
 | zero=>
  intro listed hsz hcl hcnt F β a w h;have hl:=Be (p:=fun j=>listed.getD j false) (n:=ops.size) (by omega);refine⟨?_,hall listed hl F β a w h⟩;rw [List.eq_nil_iff_forall_not_mem];intro i hi;obtain⟨h1,h2,_⟩:=mem_ready.1 hi;have h3:listed.getD i false=true:=hl i h1;have h4:i<listed.size:=by omega
  simp [Array.getD,h4] at h2 h3;rw [h2] at h3;cases h3
 | succ fuel ih=>
  intro listed hsz hcl hcnt F β a w h
  have hanc:∀ i j,uX ops i j→listed.getD j false=true→listed.getD i false=true:=by
   intro i j ha
   induction ha with
   | one ho he hb hi=>intro hj;subst hi;exact hcl _ _ ho hj _ he hb
   | more ho he hb _ ih=>intro hj;exact ih (hcl _ _ ho hj _ he hb)
  refine⟨fun hnil=>?_,fun i hi=>?_⟩
  ·refine hall listed (fun i hi=>?_) F β a w h
   induction i using Nat.strongRecOn with
   | _ i ihi=>
    cases hL:listed.getD i false with
    | true=>rfl
    | false=>
     exfalso
     have:i∈Region.ready .any ops listed:=by
      refine mem_ready.2 ⟨hi,?_,ops[i],ZL hi,fun ed hed hb=>?_⟩
      ·have h4:i<listed.size:=by omega
       simp [Array.getD,h4] at hL ⊢;exact hL
      ·have:=hback i _ (ZL hi) ed hed hb;exact ihi _ this (by omega)
     rw [hnil] at this;cases this
  ·obtain⟨hi1,hi2,o,ho,hpre⟩:=mem_ready.1 hi;have h4:i<listed.size:=by omega
   have hLi:listed.getD i false=false:=by simp [Array.getD,h4] at hi2 ⊢;exact hi2
   obtain⟨e,he⟩:∃ e,es[i]?=some e:=⟨es[i]'(by omega),cn (by omega)⟩
   have hes:∀ j o',ops[j]?=some o'→∃ e',es[j]?=some e':=fun j o' h'=>by
    have:j<ops.size:=(Array.getElem?_eq_some_iff.1 h').1;exact⟨es[j]'(by omega),cn (by omega)⟩
   have hos:∀ (j:Nat) e',es[j]?=some e'→∃ o',ops[j]?=some o':=fun j e' h'=>by
    have:j<es.length:=(List.getElem?_eq_some_iff.1 h').1;exact⟨ops[j]'(by omega),ZL (by omega)⟩
   have hancR:∀ j,uX ops j i→listed.getD j false=true:=by
    intro j ha
    cases ha with
    | one ho' he' hb hj=>
     rw [ho] at ho';simp only [ai] at ho';subst ho';subst hj;exact hpre _ he' hb
    | more ho' he' hb hj=>
     rw [ho] at ho';simp only [ai] at ho';subst ho';exact hanc _ _ hj (hpre _ he' hb)
   have key:=hE i o e ho he (bf ops es s0 (fun j=>listed.getD j false) ops.size) (fun t ht=>?_) ?_ F β a w
    (wpAnyIn (nS r) 0 c.P .any ops Q fuel (listed.setIfInBounds i true)) Q h (fun F' β' a' w' h'=>?_)
   ·unfold wpOpIn;rw [ho];simp only;split at key
    ·rename_i hw;rw [if_pos hw];exact key
    ·rename_i hw;rw [if_neg hw];exact⟨fun _ _=>trivial,key⟩
   ·rw [Cp (i:=i) (fun j o' ho' hd=>?_) ops.size,Nat.min_eq_right (by omega)];obtain⟨e',he'⟩:=hes j o' ho';constructor
    ·intro hji;rcases hind j i o' o e' e hji ho' ho he' he with ha|ha
     ·exact hancR j ha
     ·exact absurd ht ((abi ha.1).1 t hd)
    ·intro hj;rcases abO j i with hlt|heq|hgt
     ·exact hlt
     ·subst heq;rw [hLi] at hj;cases hj
     ·rcases hind i j o o' e e' hgt ho ho' he he' with ha|ha
      ·have:=hanc _ _ ha hj;rw [hLi] at this;cases this
      ·exact absurd ht ((abi ha.1).2.2 t hd)
   ·have hk:∀ k,(k∈e.rds∨k∈e.us.map (·.1))→(bf ops es s0 (fun j=>listed.getD j false) ops.size).lv k=(bf ops es s0 (fun _=>true) i).lv k:=by
     intro k hk;rw [Hi (i:=i) (fun j e' he' hd=>?_) ops.size,Nat.min_eq_right (by omega)];obtain⟨o',ho'⟩:=hos j e' he';constructor
     ·intro hji;rcases hind j i o' o e' e hji ho' ho he' he with ha|ha
      ·exact hancR j ha
      ·rcases hk with hk|hk
       ·exact absurd hk (ha.2.1 k hd).2
       ·exact absurd hk (ha.2.1 k hd).1
     ·intro hj;rcases abO j i with hlt|heq|hgt
      ·exact hlt
      ·subst heq;rw [hLi] at hj;cases hj
      ·rcases hind i j o o' e e' hgt ho ho' he he' with ha|ha
       ·have:=hanc _ _ ha hj;rw [hLi] at this;cases this
       ·rcases hk with hk|hk
        ·exact absurd hk (ha.2.2 k hd)
        ·exact absurd hd (ha.2.1 k hk).1
    exact⟨fun k h'=>hk k (.inl h'),fun p h'=>hk p.1 (.inr (abM h'))⟩
   ·have hset:∀ j,(listed.setIfInBounds i true).getD j false=(listed.getD j false || j == i):=by
     intro j;simp only [ZA,aa9]
     by_cases hj:i=j
     ·subst hj;simp [h4]
     ·have hne:(j == i)=false:=by simp;exact fun e=>hj e.symm
      simp [hj,hne]
    refine ih (listed.setIfInBounds i true) (by simp [hsz]) (fun j o' ho' hj ed hed hb=>?_) ?_ F' β' a' w' ?_
    ·rw [hset] at hj ⊢;simp only [Zp,beq_iff_eq] at hj ⊢;rcases hj with hj|hj
     ·exact .inl (hcl j o' ho' hj ed hed hb)
     ·subst hj;rw [ho] at ho';simp only [ai] at ho';subst ho';exact .inl (hpre ed hed hb)
    ·rw [pg (q:=fun j=>listed.getD j false || j == i) (fun j _=>hset j),Cy (p:=fun j=>listed.getD j false) hLi hi1];omega
    ·rw [fB (L':=fun j=>listed.getD j false || j == i) (fun j _=>hset j)]
     have hst:e.app o.dst (bf ops es s0 (fun j=>listed.getD j false) ops.size)=bf ops es s0 (fun j=>listed.getD j false || j == i) ops.size:=by
      have e1:(e.app o.dst (bf ops es s0 (fun j=>listed.getD j false) ops.size)).fr=(bf ops es s0 (fun j=>listed.getD j false || j == i) ops.size).fr:=by
       funext t;refine u6 ho he hi1 hLi (fun j o' hij ho' hj hd=>?_);obtain⟨e',he'⟩:=hes j o' ho';rcases hind i j o o' e e' hij ho ho' he he' with ha|ha
       ·have:=hanc _ _ ha hj;rw [hLi] at this;cases this
       ·exact (abi ha.1).2.1 t hd
      have e2:(e.app o.dst (bf ops es s0 (fun j=>listed.getD j false) ops.size)).lv=(bf ops es s0 (fun j=>listed.getD j false || j == i) ops.size).lv:=by
       funext k;refine uY ho he hi1 hLi (fun j e' hij he' hj hd=>?_);obtain⟨o',ho'⟩:=hos j e' he';rcases hind i j o o' e e' hij ho ho' he he' with ha|ha
       ·have:=hanc _ _ ha hj;rw [hLi] at this;cases this
       ·exact (ha.2.1 k hd).1
      cases h1:e.app o.dst (bf ops es s0 (fun j=>listed.getD j false) ops.size)
      cases h2:bf ops es s0 (fun j=>listed.getD j false || j == i) ops.size
      rw [h1,h2] at e1 e2;simp only at e1 e2;rw [e1,e2]
     rw [← hst];exact h'
end
def BX (acc:List Nat)(o:Oper):Nat:=o.after.toList.foldl (fun m e=>if Region.binds .any e then m ||| (2 ^ e.on ||| acc.getD e.on 0) else m) 0
def fX:List Oper→List Nat→List Nat
 | [],acc=>acc
 | o::r,acc=>fX r (acc++[BX acc o])
theorem xH {acc:List Nat}{i:Nat}:∀ (l:List Edge) (m:Nat),(l.foldl (fun m e=>if Region.binds .any e then m ||| (2 ^ e.on ||| acc.getD e.on 0) else m) m).testBit i=true →
 m.testBit i=true∨∃ e∈l,Region.binds .any e=true∧(e.on=i∨(acc.getD e.on 0).testBit i=true)
 | [],m,h=>.inl h
 | e::l,m,h=>by
  rcases xH l _ h with h1|⟨e',h1,h2⟩
  ·dsimp only at h1
   split at h1
   ·rename_i hb
    simp only [Nat.testBit_or,Zp,Nat.testBit_two_pow,decide_eq_true_eq] at h1;rcases h1 with h1|h1|h1
    ·exact .inl h1
    ·exact .inr ⟨e,by simp,hb,.inl h1⟩
    ·exact .inr ⟨e,by simp,hb,.inr h1⟩
   ·exact .inl h1
  ·exact .inr ⟨e',by simp [h1],h2⟩
theorem iF {ops:Array Oper}:∀ (os:List Oper) (acc:List Nat),ops.toList=ops.toList.take acc.length++os →
 (∀ i j,(acc.getD j 0).testBit i=true→uX ops i j)→∀ i j,((fX os acc).getD j 0).testBit i=true→uX ops i j
 | [],acc,_,h=>h
 | o::os,acc,hl,h=>by
  have hlen:acc.length<ops.toList.length:=by
   have h1:=congrArg List.length hl;simp only [YY,Zc,Zn] at h1;omega
  have ho:ops[acc.length]?=some o:=by
   have h1:ops.toList[acc.length]?=(ops.toList.take acc.length++o::os)[acc.length]?:=by rw [← hl]
   rw [Zf (by simp;omega)] at h1;simp only [Zc] at h1;rw [show acc.length - min acc.length ops.toList.length=0 by omega] at h1;simpa using h1
  refine iF os _ ?_ (fun i j hb=>?_)
  ·have h2:(acc++[BX acc o]).length=acc.length+1:=by simp
   rw [h2,abj];have h3:ops.toList[acc.length]?=some o:=by simpa using ho
   rw [h3];simp only [Option.toList_some,YZ,List.singleton_append];exact hl
  ·by_cases hj:j<acc.length
   ·rw [hJ,ZQ hj] at hb;exact h i j (by rw [hJ];exact hb)
   ·by_cases hj2:j=acc.length
    ·subst hj2;rw [hJ,Zf (aW _)] at hb;simp only [ZJ,aaW,aaL] at hb;unfold BX at hb;rcases xH _ _ hb with h1|⟨e,h1,h2,h3⟩
     ·simp at h1
     ·have he:e∈o.after:=by simpa using h1
      rcases h3 with h3|h3
      ·exact .one ho he h2 h3
      ·exact .more ho he h2 (h _ _ h3)
    ·rw [hJ,ZU (by simp;omega)] at hb;simp at hb
def Hz:Nat→List Oper→Bool
 | _,[]=>true
 | i,o::r=>o.after.toList.all (fun e=>!Region.binds .any e || decide (e.on<i)) && Hz (i+1) r
theorem nG {ops:Array Oper}:∀ (os:List Oper) (n:Nat),ops.toList.drop n=os→Hz n os=true →
 ∀ (i:Nat) o,n≤i→ops[i]?=some o→∀ ed∈o.after,Region.binds .any ed=true→ed.on<i
 | [],n,hl,_=>by
  intro i o hi ho;have h1:ops.toList.length≤n:=List.drop_eq_nil_iff.1 hl;have h2:=(Array.getElem?_eq_some_iff.1 ho).1;simp at h1;omega
 | o::os,n,hl,hb=>by
  simp only [Hz,cy] at hb;intro i o' hi ho ed hed hbd
  by_cases e:i=n
  ·subst e;have h1:(ops.toList.drop i)[0]?=some o:=by rw [hl];rfl
   rw [Z0] at h1;simp only [ZT,abr] at h1;rw [ho] at h1;simp only [ai] at h1;subst h1;have h2:=hb.1;rw [YU] at h2;have h3:=h2 ed (by simpa using hed);rw [hbd] at h3;simpa using h3
  ·refine nG os (n+1) ?_ hb.2 i o' (by omega) ho ed hed hbd;rw [← Z9,hl];rfl
def eX (ops:Array Oper):Bool:=
 let ms:=fX ops.toList []
 Hz 0 ops.toList && (List.range ops.size).all fun j=>(List.range j).all fun i=>
  (ms.getD j 0).testBit i || (match ops[i]?,ops[j]? with|some o,some o'=>o.apart ops o'|_,_=>true)
def uO (e e':Fx):Bool:=
 e.us.all (fun p=>!(e'.us.any fun q=>q.1 == p.1) && !e'.rds.contains p.1) && e'.us.all (fun p=>!e.rds.contains p.1)
def idle (e:Fx):Bool:=e.us.isEmpty && e.rds.isEmpty
def BK (ops:Array Oper)(es:List Fx):Bool:=
 let ms:=fX ops.toList []
 (List.range es.length).all fun j=>match es[j]? with
  | some e'=>idle e' || (List.range j).all fun i=>match es[i]? with
   | some e=>idle e || (ms.getD j 0).testBit i || uO e e'
   | none=>true
  | none=>true
theorem CB(h:uO e e'=true):(∀ k∈e.us.map (·.1),k ∉ e'.us.map (·.1)∧k ∉ e'.rds)∧∀ k∈e'.us.map (·.1),k ∉ e.rds:=by
 simp only [uO,cy,YU,Zd,List.any_eq_false,beq_iff_eq,List.contains_eq_mem,decide_eq_false_iff_not] at h;refine⟨fun k hk=>?_,fun k hk=>?_⟩
 ·obtain⟨p,hp,rfl⟩:=List.mem_map.1 hk;obtain⟨h1,h2⟩:=h.1 p hp;refine⟨fun hk'=>?_,h2⟩;obtain⟨q,hq,e⟩:=List.mem_map.1 hk';exact h1 q hq e
 ·obtain⟨p,hp,rfl⟩:=List.mem_map.1 hk;exact h.2 p hp
theorem yH(h:idle e=true∨idle e'=true):(∀ k∈e.us.map (·.1),k ∉ e'.us.map (·.1)∧k ∉ e'.rds)∧∀ k∈e'.us.map (·.1),k ∉ e.rds:=by
 simp only [idle,cy,List.isEmpty_iff] at h;rcases h with ⟨h1,h2⟩|⟨h1,h2⟩ <;> simp [h1,h2]
theorem pV(hlen:es.length=ops.size) (hs:eX ops=true) (hd:BK ops es=true) :
 (∀ (i:Nat) o,ops[i]?=some o→∀ ed∈o.after,Region.binds .any ed=true→ed.on<i) ∧
 (∀ (i j:Nat) o o' e e',i<j→ops[i]?=some o→ops[j]?=some o'→es[i]?=some e→es[j]?=some e'→uX ops i j∨O7 ops o o' e e'):=by
 simp only [eX,cy,YU,aaV] at hs;refine⟨fun i o=>nG ops.toList 0 rfl hs.1 i o (Y4 _),fun i j o o' e e' hij ho ho' he he'=>?_⟩;have hj:j<ops.size:=(Array.getElem?_eq_some_iff.1 ho').1;have hm:=iF (ops:=ops) ops.toList [] (by simp) (fun i j h=>by simp at h) i j;have h1:=hs.2 j hj i hij;rw [ho,ho'] at h1;simp only [Zp] at h1;simp only [BK,YU,aaV] at hd;have h2:=hd j (by omega);rw [he'] at h2;simp only [Zp,YU,aaV] at h2;rcases h1 with h1|h1
 ·exact .inl (hm h1)
 ·rcases h2 with h2|h2
  ·exact .inr ⟨h1,yH (.inr h2)⟩
  ·have h3:=h2 i hij;rw [he] at h3;simp only [Zp] at h3;rcases h3 with (h3|h3)|h3
   ·exact .inr ⟨h1,yH (.inl h3)⟩
   ·exact .inl (hm h3)
   ·exact .inr ⟨h1,CB h3⟩
def eY (c:Ctx)(r:Option Nat)(ops:Array Oper):List Oper→List Fx→au→au→Prop
 | [],[],s,s'=>s'=s
 | o::os,e::es,s,s'=>cO c r ops o s e∧eY c r ops os es (e.app o.dst s) s'
 | _,_,_,_=>False
section
variable {c:Ctx}{r:Option Nat}{ops:Array Oper}
theorem eY.len:∀ {os:List Oper}{es:List Fx}{s s':au},eY c r ops os es s s'→es.length=os.length
 | [],[],_,_,_=>rfl
 | _::_,_::_,_,_,h=>by simp [eY.len h.2]
 | [],_::_,_,_,h=>h.elim
 | _::_,[],_,_,h=>h.elim
theorem eY.at {es:List Fx}{s0:au}:∀ {os:List Oper}{rs:List Fx}{s':au}(n:Nat),ops.toList.drop n=os→es.drop n=rs→eY c r ops os rs (bf ops es s0 (fun _=>true) n) s' →
 s'=bf ops es s0 (fun _=>true) (n+os.length)∧∀ (i:Nat) o e,n≤i→ops[i]?=some o→es[i]?=some e→cO c r ops o (bf ops es s0 (fun _=>true) i) e
 | [],[],s',n,h1,h2,h=>by
  refine⟨h,fun i o e hi ho he=>?_⟩;have h3:es.length≤n:=List.drop_eq_nil_iff.1 h2;have:=(List.getElem?_eq_some_iff.1 he).1;omega
 | o::os,e::rs,s',n,h1,h2,h=>by
  have ho:ops[n]?=some o:=by
   have:(ops.toList.drop n)[0]?=some o:=by rw [h1];rfl
   rw [Z0] at this;simpa using this
  have he:es[n]?=some e:=by
   have:(es.drop n)[0]?=some e:=by rw [h2];rfl
   rw [Z0] at this;simpa using this
  have hst:bf ops es s0 (fun _=>true) (n+1)=e.app o.dst (bf ops es s0 (fun _=>true) n):=by
   simp only [bf,ho,he,if_true]
  obtain⟨h3,h4⟩:=eY.at (es:=es) (s0:=s0) (os:=os) (rs:=rs) (s':=s') (n+1) (by rw [← Z9,h1];rfl) (by rw [← Z9,h2];rfl) (by rw [hst];exact h.2);refine⟨by rw [h3];congr 1;simp;omega,fun i o' e' hi ho' he'=>?_⟩
  by_cases e1:i=n
  ·subst e1;rw [ho] at ho';rw [he] at he';simp only [ai] at ho' he';subst ho';subst he';exact h.1
  ·exact h4 i o' e' (by omega) ho' he'
 | [],_::_,_,_,_,_,h=>h.elim
 | _::_,[],_,_,_,_,h=>h.elim
theorem eY.opers:∀ {os:List Oper}{es:List Fx}{s s':au}(n:Nat),ops.toList.drop n=os→eY c r ops os es s s' →
 (∀ F' β' a' w',aE c F' β' s' a' w'→Q .normal a' w')→∀ F β a w,aE c F β s a w→wpOpsIn (nS r) 0 c.P ops Q (List.range' n os.length) a w
 | [],[],s,s',n,_,h,hQ=>fun F β a w hs=>by
  have h:s'=s:=h;subst h;exact hQ F β a w hs
 | o::os,e::es,s,s',n,h1,h,hQ=>fun F β a w hs=>by
  have ho:ops[n]?=some o:=by
   have:(ops.toList.drop n)[0]?=some o:=by rw [h1];rfl
   rw [Z0] at this;simpa using this
  have ih:=eY.opers (os:=os) (es:=es) (n+1) (by rw [← Z9,h1];rfl) h.2 hQ;have key:=h.1 s (fun _ _=>rfl) ⟨fun _ _=>rfl,fun _ _=>rfl⟩ F β a w (wpOpsIn (nS r) 0 c.P ops Q (List.range' (n+1) os.length)) Q hs (fun F' β' a' w' h'=>ih F' β' a' w' h');simp only [Zn,abA];rw [wpOpsIn_cons];unfold wpOpIn;rw [ho];simp only;split at key
  ·rename_i hw;rw [if_pos hw];exact key
  ·rename_i hw;rw [if_neg hw];exact⟨fun _ _=>trivial,key⟩
 | [],_::_,_,_,_,_,h,_=>h.elim
 | _::_,[],_,_,_,_,h,_=>h.elim
theorem eY.region(h:eY c r ops ops.toList es s s')
 (hQ:∀ F' β' a' w',aE c F' β' s' a' w'→Q .normal a' w')(hs:aE c F β s a w):(Code.region id ops false).wpIn (nS r) 0 c.P Q a w:=by
 refine wpIn_region ?_;have:=eY.opers 0 rfl h hQ F β a w hs;rw [List.range_eq_range'];simpa using this
theorem eY.draw(hm:c.P.follows .mixedOrders=true) (h:eY c r ops ops.toList es s s') (h1:eX ops=true) (h2:BK ops es=true)
 (hQ:∀ F' β' a' w',aE c F' β' s' a' w'→Q .normal a' w')(hs:aE c F β s a w):(Code.region id ops true).wpIn (nS r) 0 c.P Q a w:=by
 have hlen:es.length=ops.size:=by rw [h.len];simp
 obtain⟨h3,h4⟩:=eY.at (es:=es) (s0:=s) 0 rfl rfl h;obtain⟨h5,h6⟩:=pV hlen h1 h2;refine wpIn_region_any hm ?_;refine tR (s0:=s) hlen (fun i o e ho he=>h4 i o e (Y4 _) ho he) h5 h6 (fun F' β' a' w' h'=>hQ F' β' a' w' ?_) ops.size _ (by simp) (fun j o ho hj=>?_) (by omega) F β a _ ?_
 ·rw [h3];simpa using h'
 ·have hf:(Array.replicate ops.size false).getD j false=false:=by
   simp only [ZA,aa4];split <;> rfl
  rw [hf] at hj;cases hj
 ·have hf:∀ j,(Array.replicate ops.size false).getD j false=false:=fun j=>by
   simp only [ZA,aa4];split <;> rfl
  have:bf ops es s (fun j=>(Array.replicate ops.size false).getD j false) ops.size=s:=by
   rw [fB (L':=fun _=>false) (fun j _=>hf j)]
   have:∀ m,bf ops es s (fun _=>false) m=s:=by
    intro m
    induction m with
    | zero=>rfl
    | succ m ih=>simp only [bf,ih,Y2,if_false];split <;> rfl
   exact this _
  rw [this];exact hs.heap rfl
end
section
variable {c:Ctx}{r:Option Nat}{ops:Array Oper}{o:Oper}{s0:au}
theorem cO.call(hd:∀ d,o.dst=some d→d<c.n) (hw:eC ops o.guard s0.fr=some true)
 (ho:o.op=.call cl) (hcal:cl.callee=.value fo) (ht:cj (s0.val c.G fo)=some (f,fs,cs)) (hf:aT c.P f=true)
 (he:bM c f (fs++cl.args.toList.map (s0.val c.G)++cs) s0.lv x us rds):cO c r ops o s0 ⟨x,us,rds⟩:=by
 refine cO.qb hw (fun cl' h=>by rw [ho] at h;cases h) (fun s h1 h2=>?_);have hfo:s.val c.G fo=s0.val c.G fo:=h1 fo (by rw [ho];simp [Op.operands,Call.operands,hcal])
 have hargs:cl.args.toList.map (s.val c.G)=cl.args.toList.map (s0.val c.G):=Zj fun y hy=>h1 y (by
  rw [ho];simp only [Op.operands,Call.operands,hcal];simp at hy ⊢;exact .inr hy)
 refine bM.Pm (rds:=rds) hd ho hcal rfl (by rw [hfo];exact ht) hf ?_;rw [hargs];exact he.local h2
end
def dz (c:Ctx)(o:Oper)(s:au)(κ:Nat)(K:AV→List (Key × LB)→List Key→Nat→Prop):Prop:=
 match o.op with
 | .call cl=>match cl.callee with
  | .value fo=>match cj (s.val c.G fo) with
   | some (f,fs,cs)=>aT c.P f=true∧∃ x us rds κ',bM c f (fs++cl.args.toList.map (s.val c.G)++cs) s.lv x us rds∧K x us rds κ'
   | none=>False
  | _=>match aZ c.P o.op (o.op.operands.toList.map (s.val c.G)) s.lv κ with
   | some (x,us,rds,vc)=>vc∧K x us rds (match us with|[]=>κ|_=>κ+1)
   | none=>False
 | op=>match aZ c.P op (op.operands.toList.map (s.val c.G)) s.lv κ with
  | some (x,us,rds,vc)=>vc∧K x us rds (match us with|[]=>κ|_=>κ+1)
  | none=>False
def fM (c:Ctx)(ops:Array Oper):List Oper→au→Nat→List Fx→(au→Nat→List Fx→Prop)→Prop
 | [],s,κ,acc,K=>K s κ acc
 | o::os,s,κ,acc,K=>match eC ops o.guard s.fr with
  | some true=>dz c o s κ fun x us rds κ'=>fM c ops os (au.put ⟨s.fr,aR s.lv us⟩ o.dst x) κ' (⟨x,us,rds⟩::acc) K
  | some false=>fM c ops os (s.put o.dst .undef) κ (⟨.undef,[],[]⟩::acc) K
  | none=>False
def cu (n:Nat)(os:List Oper):Bool:=os.all fun o=>match o.dst with|some d=>decide (d<n)|none=>true
section
variable {c:Ctx}{r:Option Nat}{ops:Array Oper}
theorem dz.ME{K:AV→List (Key × LB)→List Key→Nat→Prop}(hd:∀ d,o.dst=some d→d<c.n) (hw:eC ops o.guard s.fr=some true) (h:dz c o s κ K) :
 ∃ x us rds κ',cO c r ops o s ⟨x,us,rds⟩∧K x us rds κ':=by
 have plain:(match aZ c.P o.op (o.op.operands.toList.map (s.val c.G)) s.lv κ with
  | some (x,us,rds,vc)=>vc∧K x us rds (match us with|[]=>κ|_=>κ+1)
  | none=>False)→∃ x us rds κ',cO c r ops o s ⟨x,us,rds⟩∧K x us rds κ':=by
  intro h;split at h
  ·rename_i x us rds vc hs
   exact⟨x,us,rds,_,cO.plain hd hw hs h.1,h.2⟩
  ·exact h.elim
 unfold dz at h;split at h
 ·rename_i cl ho
  split at h
  ·rename_i fo hcal
   split at h
   ·rename_i f fs cs ht
    obtain⟨hf,x,us,rds,κ',he,hK⟩:=h;exact⟨x,us,rds,κ',cO.call hd hw ho hcal ht hf he,hK⟩
   ·exact h.elim
  ·rw [ho] at h plain;exact plain h
 ·exact plain h
theorem fM.chain {K:au→Nat→List Fx→Prop}:∀ {os:List Oper}{s:au}{κ:Nat}{acc:List Fx},cu c.n os=true→fM c ops os s κ acc K →
 ∃ es s' κ',eY c r ops os es s s'∧K s' κ' (es.reverse++acc)
 | [],s,κ,_,_,h=>⟨[],s,κ,rfl,h⟩
 | o::os,s,κ,acc,hd,h=>by
  simp only [cu,aaE,cy] at hd;have hdo:∀ d,o.dst=some d→d<c.n:=fun d e=>by have:=hd.1;rw [e] at this;simpa using this
  simp only [fM] at h;split at h
  ·rename_i hw
   obtain⟨x,us,rds,κ',he,hK⟩:=dz.ME (r:=r) hdo hw h;obtain⟨es,s',κ'',h1,h2⟩:=fM.chain hd.2 hK;exact⟨⟨x,us,rds⟩::es,s',κ'',⟨he,h1⟩,by simpa using h2⟩
  ·rename_i hw
   obtain⟨es,s',κ'',h1,h2⟩:=fM.chain hd.2 h;exact⟨⟨.undef,[],[]⟩::es,s',κ'',⟨cO.skip hdo hw,h1⟩,by simpa using h2⟩
  ·exact h.elim
end
inductive Ex where
 | normal
 | exit (id:Nat)
 | goto (l:Nat)
 | ret
 | panic (d:DV)
def EC (x:Ex)(e:Exit)(F:Nat→Prop)(w:World):Prop:=
 match x with
 | .normal=>e=.normal
 | .exit id=>e=.exit id
 | .goto l=>e=.goto l
 | .ret=>e=.ret
 | .panic d=>∃ v,e=.panic [{ v:=v,recovered:=false }]∧Rd (kI w F) v d
def Post (c:Ctx)(Q:Ex→au→Nat→Prop):Exit→Act→World→Prop:=fun e a w=>∃ x s κ F β,Q x s κ∧aE c F β s a w∧EC x e F w
def AW (c:Ctx)(r:Option Nat)(code:Code)(s:au)(κ:Nat)(Q:Ex→au→Nat→Prop):Prop:=
 ∀ F β a w,aE c F β s a w→code.wpIn (nS r) 0 c.P (Post c Q) a w
def pR (K:au→Nat→Prop)(Q:Ex→au→Nat→Prop):Ex→au→Nat→Prop
 | .normal,s,κ=>K s κ
 | e,s,κ=>Q e s κ
def um (id:Nat)(Q:Ex→au→Nat→Prop):Ex→au→Nat→Prop
 | .exit id',s,κ=>if id'=id then Q .normal s κ else Q (.exit id') s κ
 | e,s,κ=>Q e s κ
section
variable {c:Ctx}{r:Option Nat}{s:au}{κ:Nat}{Q:Ex→au→Nat→Prop}
theorem AW.region(hd:cu c.n ops.toList=true) (h:fM c ops ops.toList s κ [] fun s' κ' _=>Q .normal s' κ'):AW c r (.region id ops false) s κ Q:=by
 intro F β a w hs;obtain⟨es,s',κ',h1,h2⟩:=fM.chain (r:=r) hd h;exact h1.region (fun F' β' a' w' h'=>⟨.normal,s',κ',F',β',h2,h',rfl⟩) hs
theorem AW.draw(hm:c.P.follows .mixedOrders=true) (hst:eX ops=true) (hd:cu c.n ops.toList=true)
 (h:fM c ops ops.toList s κ [] fun s' κ' acc=>BK ops acc.reverse=true∧Q .normal s' κ'):AW c r (.region id ops true) s κ Q:=by
 intro F β a w hs;obtain⟨es,s',κ',h1,h2,h3⟩:=fM.chain (r:=r) hd h;exact h1.draw hm hst (by simpa using h2) (fun F' β' a' w' h'=>⟨.normal,s',κ',F',β',h3,h',rfl⟩) hs
theorem aac (h:Q .normal s κ):AW c r .skip s κ Q:=fun F β _ _ hs=>wpIn_skip ⟨.normal,s,κ,F,β,h,hs,rfl⟩
theorem AW.label {l:Nat}(h:Q .normal s κ):AW c r (.label l) s κ Q:=fun F β _ _ hs=>wpIn_label ⟨.normal,s,κ,F,β,h,hs,rfl⟩
theorem aan(h:Q (.exit id) s κ):AW c r (.exit id) s κ Q:=fun F β _ _ hs=>wpIn_exit ⟨.exit id,s,κ,F,β,h,hs,rfl⟩
theorem AW.goto {l:Nat}(h:Q (.goto l) s κ):AW c r (.goto l) s κ Q:=fun F β _ _ hs=>wpIn_goto ⟨.goto l,s,κ,F,β,h,hs,rfl⟩
theorem aam (h:Q .ret s κ):AW c r .ret s κ Q:=fun F β _ _ hs=>wpIn_ret ⟨.ret,s,κ,F,β,h,hs,rfl⟩
theorem AW.seq {x y:Code}{K:au→Nat→Prop}(h:AW c r x s κ (pR K Q)) (hK:∀ s κ,K s κ→AW c r y s κ Q):AW c r (.seq x y) s κ Q:=by
 intro F β a w hs;refine wpIn_seq (wpIn_mono (h F β a w hs) fun e a' w' hp=>?_);obtain⟨e',s',κ',F',β',hq,hs',he⟩:=hp
 cases e' with
 | normal=>cases he;exact hK s' κ' hq F' β' a' w' hs'
 | exit id=>cases he;exact⟨.exit id,s',κ',F',β',hq,hs',rfl⟩
 | goto l=>cases he;exact⟨.goto l,s',κ',F',β',hq,hs',rfl⟩
 | ret=>cases he;exact⟨.ret,s',κ',F',β',hq,hs',rfl⟩
 | panic d=>obtain⟨v,rfl,hv⟩:=he;exact⟨.panic d,s',κ',F',β',hq,hs',v,rfl,hv⟩
theorem AW.mono {x:Code}{Q':Ex→au→Nat→Prop}(h:AW c r x s κ Q) (hq:∀ e s κ,Q e s κ→Q' e s κ):AW c r x s κ Q':=fun F β a w hs=>
 wpIn_mono (h F β a w hs) fun _ _ _ ⟨e',s',κ',F',β',h1,h2,h3⟩=>⟨e',s',κ',F',β',hq _ _ _ h1,h2,h3⟩
theorem aay {o:Operand}{x y:Code}(hb:s.val c.G o=.c (.d (.bool b))) (h:AW c r (if b then x else y) s κ Q):AW c r (.cond o x y) s κ Q:=by
 intro F β a w hs;have h1:=hs.val o;rw [hb] at h1;exact wpIn_cond (Vw.qp h1) (h F β a w hs)
theorem aag{x:Code}(h:AW c r x s κ (um id Q)):AW c r (.block id x) s κ Q:=by
 intro F β a w hs;refine wpIn_block (wpIn_mono (h F β a w hs) fun e a' w' hp=>?_);obtain⟨e',s',κ',F',β',hq,hs',he⟩:=hp
 cases e' with
 | normal=>cases he;exact⟨.normal,s',κ',F',β',hq,hs',rfl⟩
 | exit id'=>
  cases he
  simp only [um] at hq;simp only [Exit.inBlock];split
  ·rename_i hid;rw [if_pos hid] at hq;exact⟨.normal,s',κ',F',β',hq,hs',rfl⟩
  ·rename_i hid;rw [if_neg hid] at hq;exact⟨.exit id',s',κ',F',β',hq,hs',rfl⟩
 | goto l=>cases he;exact⟨.goto l,s',κ',F',β',hq,hs',rfl⟩
 | ret=>cases he;exact⟨.ret,s',κ',F',β',hq,hs',rfl⟩
 | panic d=>obtain⟨v,rfl,hv⟩:=he;exact⟨.panic d,s',κ',F',β',hq,hs',v,rfl,hv⟩
theorem AW.coarse {x:Code}{s2:au}{κ2:Nat}{g:Key→Key}(hc:dn c s s2 g) (h:AW c r x s2 κ2 Q):AW c r x s κ Q:=
 fun F β a w hs=>h F _ a w (hs.coarse hc)
theorem AW.loop {x:Code}(I:au→Nat→Prop) (μ:au→Nat→Nat) (h0:I s κ)
 (hr:∀ s κ,I s κ→AW c r x s κ (pR (fun s' κ'=>∃ s2 κ2 g,dn c s' s2 g∧I s2 κ2∧μ s2 κ2<μ s κ) Q)):AW c r (.loop x) s κ Q:=by
 have key:∀ n s κ,I s κ→μ s κ≤n→∀ F β a w,aE c F β s a w→Code.roundsIn (nS r) 0 c.P x (Post c Q) (n+1) a w:=by
  intro n
  induction n with
  | zero=>
   intro s κ hI hn F β a w hs;rw [roundsIn_succ];refine wpIn_mono (hr s κ hI F β a w hs) fun e a' w' hp=>?_;obtain⟨e',s',κ',F',β',hq,hs',he⟩:=hp
   cases e' with
   | normal=>obtain⟨s2,κ2,g,h1,h2,h3⟩:=hq;omega
   | exit id=>cases he;exact⟨.exit id,s',κ',F',β',hq,hs',rfl⟩
   | goto l=>cases he;exact⟨.goto l,s',κ',F',β',hq,hs',rfl⟩
   | ret=>cases he;exact⟨.ret,s',κ',F',β',hq,hs',rfl⟩
   | panic d=>obtain⟨v,rfl,hv⟩:=he;exact⟨.panic d,s',κ',F',β',hq,hs',v,rfl,hv⟩
  | succ n ih=>
   intro s κ hI hn F β a w hs;rw [roundsIn_succ];refine wpIn_mono (hr s κ hI F β a w hs) fun e a' w' hp=>?_;obtain⟨e',s',κ',F',β',hq,hs',he⟩:=hp
   cases e' with
   | normal=>
    cases he
    obtain⟨s2,κ2,g,h1,h2,h3⟩:=hq;exact ih s2 κ2 h2 (by omega) F' _ a' w' (hs'.coarse h1)
   | exit id=>cases he;exact⟨.exit id,s',κ',F',β',hq,hs',rfl⟩
   | goto l=>cases he;exact⟨.goto l,s',κ',F',β',hq,hs',rfl⟩
   | ret=>cases he;exact⟨.ret,s',κ',F',β',hq,hs',rfl⟩
   | panic d=>obtain⟨v,rfl,hv⟩:=he;exact⟨.panic d,s',κ',F',β',hq,hs',v,rfl,hv⟩
 intro F β a w hs;exact wpIn_loop_rounds _ (key (μ s κ) s κ h0 (aW _) F β a w hs)
end
def iB (P:Program)(s:au):ResultVar→Option AV
 | .tmp t=>some (s.fr t)
 | .cell a T=>match s.fr a with
  | .c (.ptr k off)=>match s.lv k with|.cells _ _ _ cs=>dQ P T (cs.drop off)|_=>none
  | _=>none
def gz (P:Program)(s:au):List ResultVar→Option (List AV)
 | []=>some []
 | x::l=>match iB P s x,gz P s l with|some y,some r=>some (y::r)|_,_=>none
def AV.bV:AV→Bool
 | .tup _=>false
 | _=>true
def cM (P:Program)(s:au)(l:List ResultVar):Option AV:=
 match gz P s l with
 | some [x]=>some x
 | some r=>if r.all AV.bV then some (.tup r) else none
 | none=>none
theorem Vw.Pk(h:V.av v x) (hx:x.bV=true):V.kF v x:=by
 cases x with
 | tup l=>cases hx
 | _=>exact h
def Ce (tmps:Array Value):ResultVar→Sem Value
 | .tmp t=>pure (tmps.getD t undef)
 | .cell a t=>do loadVar t (← asAddr (tmps.getD a undef))
theorem EX (fn:Func)(tmps:Array Value):results fn tmps=(do let vs ← fn.results.mapM (Ce tmps);pure (if h:vs.size=1 then vs[0] else .tuple vs)):=by
 unfold results;refine congrArg (fun g:ResultVar→Sem Value=>(do let vs ← fn.results.mapM g;pure (if h:vs.size=1 then vs[0] else .tuple vs):Sem Value)) (a₂:=Ce tmps) ?_;funext x
 cases x <;> rfl
section
variable {c:Ctx}{F:Nat→Prop}{β:Key→Nat}{s:au}{a:Act}{w:World}
theorem KK (h:aE c F β s a w){x:ResultVar}(hr:iB c.P s x=some y) :
 ∃ v,(Ce a.tmps x).run c.P w=.ok v w∧(Vw.mk F β s.lv w).av v y:=by
 cases x with
 | tmp t=>
  simp only [iB,ai] at hr;subst hr;exact⟨a.tmps.getD t undef,rfl,h.fr t⟩
 | cell b T=>
  simp only [iB] at hr;split at hr
  ·rename_i k off he
   split at hr
   ·rename_i own fz T' cs hk
    have h1:=h.fr b;rw [he] at h1;obtain⟨h1,_⟩:=h1;simp only [Vw.de,hk] at h1;have hb:=h.bx k;unfold Vw.bx at hb;simp only [hk] at hb;obtain⟨arr,h2,h3,h4,_⟩:=hb
    obtain⟨v,h5,h6⟩:=qN (P:=c.P) (T:=T) (Vw.mk F β s.lv w) (b:=β k) (o:=off) hr (fun i=>arr.getD (off+i) undef)
     (fun i hi=>by
      have hi':off+i<arr.size:=by simp at hi;omega
      rw [gM h2 hi'];simp [Array.getD,hi'])
     (fun i hi=>by
      have hi':off+i<arr.size:=by simp at hi;omega
      simp only [Array.getD,hi',dite_true,ZZ];exact h4 (off+i) (by simp at hi;omega) hi')
    refine⟨v,?_,h6⟩;simp only [Instr.loadAt,Instr.sureAddr,cK,Zi,rP] at h5;show (do loadVar T (← asAddr (a.tmps.getD b undef)):Sem Value).run c.P w=.ok v w;rw [h1];simp only [asAddr,cK,Zi,rP];exact h5
   ·cases hr
  ·cases hr
theorem CL (h:aE c F β s a w):∀ {l:List ResultVar}{ys:List AV},gz c.P s l=some ys →
 ∃ vs:List Value,(l.mapM (Ce a.tmps)).run c.P w=.ok vs w∧vs.length=ys.length ∧
  ∀ i (h:i<ys.length) (h':i<vs.length),(Vw.mk F β s.lv w).av vs[i] ys[i]
 | [],ys,hr=>by simp only [gz,ai] at hr;subst hr;exact⟨[],rfl,rfl,fun i h=>absurd h (ZN i)⟩
 | x::l,ys,hr=>by
  simp only [gz] at hr;split at hr
  ·rename_i y r' h1 h2
   simp only [ai] at hr;subst hr;obtain⟨v,h3,h4⟩:=KK h h1;obtain⟨vs,h5,h6,h7⟩:=CL h h2;refine⟨v::vs,?_,by simp [h6],fun i p q=>?_⟩
   ·rw [List.mapM_cons,cK,h3,rP,cK,h5];rfl
   ·cases i with
    | zero=>exact h4
    | succ i=>exact h7 i (by simpa using p) (by simpa using q)
  ·cases hr
theorem tg (h:aE c F β s a w)(hr:cM c.P s fn.results.toList=some y):∃ v,(results fn a.tmps).run c.P w=.ok v w∧(Vw.mk F β s.lv w).av v y:=by
 unfold cM at hr
 have key:∀ ys,gz c.P s fn.results.toList=some ys→∃ vs:Array Value,(results fn a.tmps).run c.P w=.ok (if h:vs.size=1 then vs[0] else .tuple vs) w∧vs.size=ys.length ∧
  ∀ i (h:i<ys.length) (h':i<vs.size),(Vw.mk F β s.lv w).av vs[i] ys[i]:=by
  intro ys hys;obtain⟨vs,h1,h2,h3⟩:=CL h hys;refine⟨vs.toArray,?_,by simpa using h2,fun i p q=>by simpa using h3 i p (by simpa using q)⟩;rw [EX,cK,Array.mapM_eq_mapM_toList,map_eq_pure_bind,cK,h1];rfl
 split at hr
 ·rename_i x hx
  simp only [ai] at hr;subst hr;obtain⟨vs,h1,h2,h3⟩:=key _ hx;have h2':vs.size=1:=h2;rw [dif_pos h2'] at h1;exact⟨_,h1,h3 0 (by simp) (by omega)⟩
 ·rename_i ys hne hys
  split at hr
  ·rename_i hall
   simp only [ai] at hr;subst hr;obtain⟨vs,h1,h2,h3⟩:=key _ hys
   have h2':vs.size≠1:=fun e=>by
    rw [e] at h2
    match ys,h2,hne with
    | [x],_,hne=>exact hne x rfl
   rw [dif_neg h2'] at h1;rw [YU] at hall;exact⟨_,h1,vs,rfl,h2,fun i p q=>Vw.Pk (h3 i p q) (hall _ (cq p))⟩
  ·cases hr
 ·cases hr
end
def Fin (c:Ctx)(fn:Func)(x:AV)(σ' ν:List LB):Ex→au→Nat→Prop
 | .normal,s,_|.ret,s,_=>∃ s2 g,dn c s s2 g∧s2.lv=bn σ' ν∧cM c.P s2 fn.results.toList=some x
 | _,_,_=>False
theorem xC{vs:Array Value}{Q:Ex→au→Nat→Prop}{K:Ending→World→Prop}
 (hf:P.funcs[f]?=some fn) (hb:fn.body=some code) (hl:args.length≤fn.ntmps) (hS:cG (cQ P G w F β lv) F β lv w) (hvl:vs.size=args.length) (hv:∀ i (h:i<args.length) (h':i<vs.size),(Vw.mk F β lv w).av vs[i] args[i])
 (h:AW { cQ P G w F β lv with n:=fn.ntmps } none code ⟨fun t=>args.getD t .undef,lv⟩ κ Q) (hQ:∀ e s κ,Q e s κ→e=.normal∨e=.ret)
 (fin:∀ e s κ F' β' a w',Q e s κ→aE { cQ P G w F β lv with n:=fn.ntmps } F' β' s a w'→a.defers=[]∧∃ v,(results fn a.tmps).run P w'=.ok v w'∧K (.returned v) w'):Calls P f vs w K:=by
 refine calls_of_wp hf hb ?_
 let c:Ctx:={ cQ P G w F β lv with n:=fn.ntmps }
 have hS':cG c F β lv w:=hS
 let a:Act:={ tmps:=vs++Array.replicate (fn.ntmps - vs.size) undef,defers:=[] }
 have hst:aE c F β ⟨fun t=>args.getD t .undef,lv⟩ a w:=by
  refine hS'.with ?_ rfl (fun t=>?_)
  ·show (vs++Array.replicate (fn.ntmps - vs.size) undef).size=fn.ntmps;simp;omega
  ·show (Vw.mk F β lv w).av ((vs++Array.replicate (fn.ntmps - vs.size) undef).getD t undef) (args.getD t .undef)
   by_cases ht:t<args.length
   ·have h1:args.getD t .undef=args[t]:=cZ ht
    have h2:(vs++Array.replicate (fn.ntmps - vs.size) undef).getD t undef=vs[t]'(by omega):=by
     rw [ZA,abY (by omega),ZL (by omega)];rfl
    rw [h1,h2];exact hv t ht (by omega)
   ·have h1:args.getD t .undef=.undef:=c8 ht
    have h2:(vs++Array.replicate (fn.ntmps - vs.size) undef).getD t undef=undef:=by
     rw [ZA,abZ (by omega),aa4];split <;> rfl
    rw [h1,h2];rfl
 have hw:=(wpIn_wide (n:=0)).1 (h F β a w hst);refine wp_mono hw fun e a' w' hp=>?_;obtain⟨e',s',κ',F',β',hq,hs',he⟩:=hp;rcases hQ e' s' κ' hq with rfl|rfl
 ·cases he;exact fin _ _ _ _ _ _ _ hq hs'
 ·cases he;exact fin _ _ _ _ _ _ _ hq hs'
theorem aG.ny(hf:P.funcs[f]?=some fn) (hb:fn.body=some code) (hl:args.length≤fn.ntmps)
 (h:∀ c:Ctx,c.P=P→c.G=G→c.n=fn.ntmps→c.js=bn σ []→AW c none code ⟨fun t=>args.getD t .undef,bn σ []⟩ 1000 (Fin c fn x σ' ν)):aG P G f args σ (.ret x σ' ν):=by
 intro F β w vs hS hvl hv;refine xC hf hb hl hS hvl hv (h _ rfl rfl rfl rfl) (fun e s κ hq=>by cases e <;> first|exact .inl rfl|exact .inr rfl|exact hq.elim) fun e s' κ F' β' a' w' hq hs'=>?_;obtain⟨s2,g,h1,h2,h3⟩:∃ s2 g,dn _ s' s2 g∧s2.lv=bn σ' ν∧cM P s2 fn.results.toList=some x:=by cases e <;> first|exact hq|exact hq.elim
 have hs2:=hs'.coarse h1;obtain⟨v,h4,h5⟩:=tg hs2 h3;refine⟨hs'.defers,v,h4,v,F',fun k=>β' (g k),rfl,?_,?_⟩
 ·have:=hs2.wu;rw [h2] at this;exact this
 ·rw [h2] at h5;exact h5
def LB.okB:LB→Bool
 | .cells own fz _ _=>!own && !fz
 | .map own _=>!own
 | _=>true
def cN (lv:Key→LB):Prop:=∀ k,(lv k).okB=true
inductive LL where
 | ret (x:AV) (lv:Key→LB)
 | tq (d:DV) (lv:Key→LB)
def R8 (P:Program)(G:List (List DV))(lv:Key→LB)(F:Nat→Prop)(β:Key→Nat)(w:World)(o:LL)(e:Ending)(w':World):Prop:=
 match o with
 | .ret x lv'=>∃ v F' β',e=.returned v∧cG (cQ P G w F β lv) F' β' lv' w'∧(Vw.mk F' β' lv' w').av v x
 | .tq d lv'=>∃ v F' β',e=.panicked [{ v:=v,recovered:=false }]∧cG (cQ P G w F β lv) F' β' lv' w'∧Rd (kI w' F') v d
def bO (P:Program)(G:List (List DV))(f:FuncId)(args:List AV)(lv:Key→LB)(o:LL):Prop:=
 ∀ (F:Nat→Prop) (β:Key→Nat) (w:World) (vs:Array Value),cG (cQ P G w F β lv) F β lv w→vs.size=args.length →
  (∀ i (h:i<args.length) (h':i<vs.size),(Vw.mk F β lv w).av vs[i] args[i])→Calls P f vs w (R8 P G lv F β w o)
section
variable {c:Ctx}{F:Nat→Prop}{β:Key→Nat}{s:au}{a:Act}{w:World}
theorem aE.uT (h:aE c F β s a w)(ho:cN s.lv):cG (cQ c.P c.G w F β s.lv) F β s.lv w:=by
 refine⟨?_,h.inj,fun _=>trivial,rfl,rfl,fun b hb=>⟨(h.mh b hb).1,.inl hb⟩,fun _ hb=>hb,fun _ _ _=>rfl,aW _,h.pK,fun k _=>.inr ⟨rfl,LB.bl _⟩,fun _=>aW _,⟨rfl,rfl⟩⟩;intro k;have hb:=h.bx k;have hp:=ho k;unfold Vw.bx at hb ⊢
 cases e:s.lv k with
 | cells own fz T cs=>
  rw [e] at hp;simp only [LB.okB,cy,Zd] at hp;simp only [e] at hb ⊢;obtain⟨arr,b1,b2,b3,b4,b5⟩:=hb;refine⟨arr,b1,b2,b3,b4,?_⟩;rw [hp.1];simp only [eH,Y2,if_false];exact .inr ⟨k,by rw [e,hp.2];rfl,rfl⟩
 | map own es=>
  rw [e] at hp;simp only [LB.okB,Zd] at hp;simp only [e] at hb ⊢;obtain⟨ents,clock,b1,b2,b3,b4,b5⟩:=hb;refine⟨ents,clock,b1,b2,b3,b4,?_⟩;rw [hp];simp only [eH,Y2,if_false];exact .inr ⟨k,by rw [e];rfl,rfl⟩
 | hole=>simp only [e]
 | dead=>simp only [e]
 | bk=>simp only [e]
theorem Vw.GO {c c':Ctx}(h:∀ o,eH c o (V.β k)→eH c' o (V.β k)) (hb:V.bx c k):V.bx c' k:=by
 unfold Vw.bx at *
 cases e:V.lv k with
 | cells own fz T cs=>rw [e] at hb;obtain⟨arr,b1,b2,b3,b4,b5⟩:=hb;exact⟨arr,b1,b2,b3,b4,h _ b5⟩
 | map own es=>rw [e] at hb;obtain⟨x,y,b1,b2,b3,b4,b5⟩:=hb;exact⟨x,y,b1,b2,b3,b4,h _ b5⟩
 | hole=>trivial
 | dead=>trivial
 | bk=>trivial
theorem aE.AO (h:aE c F β s a w){F':Nat→Prop}{β':Key→Nat}{w':World}
 (hx:cG (cQ c.P c.G w F β s.lv) F' β' lv' w'):aE c F' β' ⟨s.fr,lv'⟩ a w':=by
 have hF:∀ b,F b→F' b:=hx.F0;have hold:∀ b,b<w.heap.size→¬ (∃ k,(s.lv k).live=true∧β k=b)→w'.heap[b]?=w.heap[b]?:=hx.old;have hkeep:∀ k,s.lv k≠.hole→lv' k=.dead∨(β' k=β k∧(s.lv k).sub (lv' k)):=hx.keep;have hge:=h.ge;refine h.step (hoo:=hx.Et) hF ?_ ?_ ?_ hx.Ht ?_ hx.inj ?_ hx.ge ?_
 ·intro b hb;refine hold b (h.mh b hb).1 ?_;rintro⟨k,hk,rfl⟩;exact h.mI hk hb
 ·intro k
  by_cases h0:s.lv k=.hole
  ·rw [h0];simp [LB.sub]
  ·rcases hkeep k h0 with hd|⟨_,hs⟩
   ·rw [hd];cases s.lv k <;> simp [LB.sub]
   ·exact hs
 ·intro k h0 hd;rcases hkeep k h0 with hd'|⟨h1,_⟩
  ·exact absurd hd' hd
  ·exact h1
 ·intro k _;refine Vw.GO ?_ (hx.bx k);intro o ho;unfold eH at ho ⊢;have ho':if o=true then w.heap.size≤β' k else w.heap.size≤β' k∨∃ j,(s.lv j).live=true∧β j=β' k:=ho
  cases o with
  | true=>simp only [if_true] at ho' ⊢;exact Za hge ho'
  | false=>
   simp only [Y2,if_false] at ho' ⊢;rcases ho' with h1|⟨j,hj,hj2⟩
   ·exact .inl (Za hge h1)
   ·have:=h.eM hj;rw [hj2] at this;exact this
 ·intro b hb;rcases (hx.mh b hb).2 with h1|h1
  ·exact .inl h1
  ·have h1':w.heap.size≤b:=h1;exact .inr ⟨(hx.mh b hb).1,Za hge h1'⟩
 ·intro b hb hnW;refine hold b (ZS hb hge) ?_;rintro⟨k,hk,rfl⟩;rcases h.eM hk with h1|h1
  ·omega
  ·exact hnW h1
def PK (c:Ctx)(o:Oper)(s:au)(d:DV)(s':au):Prop:=
 ∀ (F:Nat→Prop) (β:Key→Nat) (a:Act) (w:World) (K:Act→World→Prop) (Q:Exit→Act→World→Prop),aE c F β s a w →
  (∀ F' β' v a' w',aE c F' β' s' a' w'→Rd (kI w' F') v d→Q (.panic [{ v:=v,recovered:=false }]) a' w')→o.wp c.P a w K Q
theorem DW(h:aE c F β s a w) (ho:o.op=.call cl) (hcal:cl.callee=.value fo) (hfo:s.val c.G fo=fv)
 (ht:cj fv=some (f,fs,cs)) (hf:aT c.P f=true)
 (hK:∀ vs:Array Value,vs.size=(fs++cl.args.toList.map (s.val c.G)++cs).length→(∀ i (h:i<(fs++cl.args.toList.map (s.val c.G)++cs).length) (h':i<vs.size),(Vw.mk F β s.lv w).av vs[i] (fs++cl.args.toList.map (s.val c.G)++cs)[i]) →
  Calls c.P f vs w fun e w'=>(∃ v,e=.returned v∧K (a.put o.dst v) w')∨∃ ch,e=.panicked ch∧Q (.panic ch) a w'):o.wp c.P a w K Q:=by
 obtain⟨fs',cs',h1,h2,h3,h4,h5⟩:=lA (hfo ▸ h.val fo) ht;have hv:=pe (V:=Vw.mk F β s.lv w) (args':=cl.args.map a.eval) (as:=cl.args.toList.map (s.val c.G)) h2 (by simp) h3 h4 (fun i p q=>by simp only [abq,sr,Zw];exact h.val _) h5;have hc:=hK _ hv.1 hv.2
 have hr:(execOp a.eval o).run c.P w=.ok (.enter f (fs'++cl.args.map a.eval++cs')) w:=by
  simp only [execOp,ho,resolve,hcal,h1,Deferred.ofValue,cK,Zi,rP,invoke];rw [iN hf]
 unfold Oper.wp;rw [hr,Oper.upon_enter];refine hc.mono fun e w' he=>?_;rcases he with ⟨v,rfl,hk⟩|⟨ch,rfl,hk⟩ <;> exact hk
theorem bO.Pm(hd:∀ d,o.dst=some d→d<c.n) (ho:o.op=.call cl) (hcal:cl.callee=.value fo)
 (hfo:s.val c.G fo=fv) (ht:cj fv=some (f,fs,cs)) (hf:aT c.P f=true) (hok:cN s.lv) (hc:bO c.P c.G f (fs++cl.args.toList.map (s.val c.G)++cs) s.lv (.ret x lv')) :
 bP c o s (au.put ⟨s.fr,lv'⟩ o.dst x):=by
 intro F β a w K Q h hK;refine DW h ho hcal hfo ht hf fun vs hl hv=>?_;refine (hc F β w vs (h.uT hok) hl hv).mono fun e w' he=>?_;obtain⟨v,F',β',rfl,hS,hav⟩:=he;exact .inl ⟨v,rfl,hK _ _ _ _ (aE.AX (h.AO hS) hd hav)⟩
theorem bO.Wy{d:DV}(ho:o.op=.call cl) (hcal:cl.callee=.value fo)
 (hfo:s.val c.G fo=fv) (ht:cj fv=some (f,fs,cs)) (hf:aT c.P f=true) (hok:cN s.lv) (hc:bO c.P c.G f (fs++cl.args.toList.map (s.val c.G)++cs) s.lv (.tq d lv')) :
 PK c o s d ⟨s.fr,lv'⟩:=by
 intro F β a w K Q h hK;refine DW h ho hcal hfo ht hf fun vs hl hv=>?_;refine (hc F β w vs (h.uT hok) hl hv).mono fun e w' he=>?_;obtain⟨v,F',β',rfl,hS,hav⟩:=he;exact .inr ⟨_,rfl,hK _ _ v _ _ (h.AO hS) hav⟩
end
def WO (c:Ctx)(fn:Func):LL→Ex→au→Nat→Prop
 | .ret x lv',.normal,s,_|.ret x lv',.ret,s,_=>cM c.P s fn.results.toList=some x∧s.lv=lv'
 | .tq d lv',.panic d',s,_=>d'=d∧s.lv=lv'
 | _,_,_,_=>False
theorem bO.ny{o:LL}(hf:P.funcs[f]?=some fn) (hb:fn.body=some code) (hl:args.length≤fn.ntmps)
 (h:∀ c:Ctx,c.P=P→c.G=G→c.n=fn.ntmps→c.js=lv→AW c none code ⟨fun t=>args.getD t .undef,lv⟩ κ (WO c fn o)):bO P G f args lv o:=by
 intro F β w vs hS hvl hv;refine calls_of_wp hf hb ?_
 let c:Ctx:={ cQ P G w F β lv with n:=fn.ntmps }
 have hS':cG c F β lv w:=hS
 let a:Act:={ tmps:=vs++Array.replicate (fn.ntmps - vs.size) undef,defers:=[] }
 have hst:aE c F β ⟨fun t=>args.getD t .undef,lv⟩ a w:=by
  refine hS'.with ?_ rfl (fun t=>?_)
  ·show (vs++Array.replicate (fn.ntmps - vs.size) undef).size=fn.ntmps;simp;omega
  ·show (Vw.mk F β lv w).av ((vs++Array.replicate (fn.ntmps - vs.size) undef).getD t undef) (args.getD t .undef)
   by_cases ht:t<args.length
   ·have h1:args.getD t .undef=args[t]:=cZ ht
    have h2:(vs++Array.replicate (fn.ntmps - vs.size) undef).getD t undef=vs[t]'(by omega):=by
     rw [ZA,abY (by omega),ZL (by omega)];rfl
    rw [h1,h2];exact hv t ht (by omega)
   ·have h1:args.getD t .undef=.undef:=c8 ht
    have h2:(vs++Array.replicate (fn.ntmps - vs.size) undef).getD t undef=undef:=by
     rw [ZA,abZ (by omega),aa4];split <;> rfl
    rw [h1,h2];rfl
 have hw:=(wpIn_wide (n:=0)).1 (h c rfl rfl rfl rfl F β a w hst);refine wp_mono hw fun e a' w' hp=>?_;obtain⟨e',s',κ',F',β',hq,hs',he⟩:=hp
 cases o with
 | ret x lv'=>
  have fin:cM c.P s' fn.results.toList=some x∧s'.lv=lv'→a'.defers=[]∧∃ v,(results fn a'.tmps).run P w'=.ok v w'∧R8 P G lv F β w (.ret x lv') (.returned v) w':=by
   rintro⟨h0,h1⟩;obtain⟨v,h4,h5⟩:=tg hs' h0;subst h1;exact⟨hs'.defers,v,h4,v,F',β',rfl,hs'.wu,h5⟩
  cases e' with
  | normal=>cases he;exact fin hq
  | ret=>cases he;exact fin hq
  | exit id=>exact hq.elim
  | goto l=>exact hq.elim
  | panic d=>exact hq.elim
 | tq d lv'=>
  cases e' with
  | normal=>exact hq.elim
  | ret=>exact hq.elim
  | exit id=>exact hq.elim
  | goto l=>exact hq.elim
  | panic d'=>
   obtain⟨rfl,h1⟩:=hq;subst h1;obtain⟨v,rfl,hr⟩:=he;exact⟨hs'.defers,v,F',β',rfl,hs'.wu,hr⟩
section
variable {c:Ctx}{F:Nat→Prop}{β:Key→Nat}{s:au}{a:Act}{w:World}
def s5 (lv:Key→LB):AV→Option Bool
 | .c (.ptr k _)=>match lv k with|.cells ..=>some false|_=>none
 | .c (.aI k _ _ _)=>match lv k with|.cells ..=>some false|.bk=>some true|_=>none
 | .c (.mapr k)=>match lv k with|.map ..=>some false|_=>none
 | .c (.d .nilmap)=>some true
 | .c (.func ..)=>some false
 | .c (.d (.func ..))=>some false
 | .c (.d .nilFunc)=>some true
 | .c (.ifc ..)=>some false
 | _=>none
def G0:AV→AV→Bool
 | .c (.ptr ..),.c (.d .nilp)=>true
 | .c (.aI ..),.c (.d .nilsl)=>true
 | .c (.mapr _),.c (.d .nilmap)=>true
 | .c (.d .nilmap),.c (.d .nilmap)=>true
 | .c (.func ..),.c (.d .nilFunc)=>true
 | .c (.d (.func ..)),.c (.d .nilFunc)=>true
 | .c (.d .nilFunc),.c (.d .nilFunc)=>true
 | .c (.ifc ..),.c (.d .nilIface)=>true
 | _,_=>false
def xJ (P:Program)(T:TypeId):AV→Bool
 | .c (.ptr ..)=>match P.underlying T with|some (.pointer _)=>true|_=>false
 | .c (.aI ..)=>match P.underlying T with|some (.slice _)=>true|_=>false
 | .c (.mapr _)|.c (.d .nilmap)=>match P.underlying T with|some (.map _ _)=>true|_=>false
 | .c (.func ..)|.c (.d (.func ..))|.c (.d .nilFunc)=>match P.underlying T with|some (.func _ _ _)=>true|_=>false
 | .c (.ifc ..)=>match P.underlying T with|some (.interface _)=>true|_=>false
 | _=>false
def QL:AV→List Key
 | .c (.ptr k _)=>[k]
 | .c (.aI k ..)=>[k]
 | .c (.mapr k)=>[k]
 | _=>[]
theorem mL{w:World}{x y:Operand}(hE:∀ m,(Op.equalIn (m+1) T u v).run P w=.ok b w)
 (h1:binOp .eql T u v=(do pure (.bool (← Op.equal T u v)))) (h2:binOp .neq T u v=(do pure (.bool (!(← Op.equal T u v))))) (h3:eqGuard .eql T x y u v=pure ()) (h4:eqGuard .neq T x y u v=pure ()) :
 (do eqGuard .eql T x y u v;binOp .eql T u v:Sem Value).run P w=.ok (.bool b) w∧(do eqGuard .neq T x y u v;binOp .neq T u v:Sem Value).run P w=.ok (.bool (!b)) w:=by
 have hq:(Op.equal T u v).run P w=.ok b w:=hE 9999;rw [h1,h2,h3,h4];constructor <;> (rw [cK,Zi,rP,cK,hq];rfl)
theorem Ik{x y:Operand}{p q:AV}(hu:V.av u p) (hv:V.av v q) (hn:s5 V.lv p=some b) (hq:G0 p q=true) (hT:xJ P T p=true) :
 (do eqGuard .eql T x y u v;binOp .eql T u v:Sem Value).run P V.w=.ok (.bool b) V.w∧(do eqGuard .neq T x y u v;binOp .neq T u v:Sem Value).run P V.w=.ok (.bool (!b)) V.w:=by
 unfold G0 at hq;split at hq
 case h_1 k o=>
  simp only [s5] at hn;split at hn
  ·rename_i e
   simp only [ai] at hn;subst hn;obtain⟨hu,_⟩:=hu;simp only [Vw.de,e] at hu;obtain⟨hv,_⟩:=hv
   cases hv
   subst hu;simp only [xJ] at hT;split at hT
   ·rename_i e hT'
    exact mL (fun m=>by simp [Op.equalIn,run_underlying hT']) rfl rfl rfl rfl
   ·cases hT
  ·cases hn
 case h_2 k o l z=>
  simp only [s5] at hn;obtain⟨hv,_⟩:=hv
  cases hv
  obtain⟨hu,_⟩:=hu;simp only [xJ] at hT;split at hT
  ·rename_i e hT'
   split at hn
   ·rename_i e
    simp only [ai] at hn;subst hn;simp only [Vw.cB,e] at hu;obtain⟨cap,rfl,_⟩:=hu;exact mL (fun m=>by simp [Op.equalIn,run_underlying hT']) rfl rfl rfl rfl
   ·rename_i e
    simp only [ai] at hn;subst hn;simp only [Vw.cB,e] at hu;rw [hu.1];exact mL (fun m=>by simp [Op.equalIn,run_underlying hT']) rfl rfl rfl rfl
   ·cases hn
  ·cases hT
 case h_3 k=>
  simp only [s5] at hn;split at hn
  ·rename_i e
   simp only [ai] at hn;subst hn;obtain⟨hu,_⟩:=hu;simp only [Vw.ku,e] at hu;obtain⟨hv,_⟩:=hv
   cases hv
   subst hu;simp only [xJ] at hT;split at hT
   ·rename_i e hT'
    exact mL (fun m=>by simp [Op.equalIn,run_underlying hT']) rfl rfl rfl rfl
   ·cases hT
  ·cases hn
 case h_4=>
  simp only [s5,ai] at hn;subst hn;obtain⟨hu,_⟩:=hu;cases hu;obtain⟨hv,_⟩:=hv;cases hv;simp only [xJ] at hT;split at hT
  ·rename_i e hT'
   exact mL (fun m=>by simp [Op.equalIn,run_underlying hT']) rfl rfl rfl rfl
  ·cases hT
 case h_5 fn f cs=>
  simp only [s5,ai] at hn;subst hn;obtain⟨_,_,rfl,_⟩:=hu;obtain⟨hv,_⟩:=hv;cases hv;simp only [xJ] at hT;split at hT
  ·rename_i e hT'
   exact mL (fun m=>by simp [Op.equalIn,run_underlying hT']) rfl rfl rfl rfl
  ·cases hT
 case h_6 fn f cs=>
  simp only [s5,ai] at hn;subst hn;obtain⟨hu,_⟩:=hu;cases hu;obtain⟨hv,_⟩:=hv;cases hv;simp only [xJ] at hT;split at hT
  ·rename_i e hT'
   exact mL (fun m=>by simp [Op.equalIn,run_underlying hT']) rfl rfl rfl rfl
  ·cases hT
 case h_7=>
  simp only [s5,ai] at hn;subst hn;obtain⟨hu,_⟩:=hu;cases hu;obtain⟨hv,_⟩:=hv;cases hv;simp only [xJ] at hT;split at hT
  ·rename_i e hT'
   exact mL (fun m=>by simp [Op.equalIn,run_underlying hT']) rfl rfl rfl rfl
  ·cases hT
 case h_8 t r=>
  simp only [s5,ai] at hn;subst hn;obtain⟨_,rfl,_⟩:=hu;obtain⟨hv,_⟩:=hv;cases hv;simp only [xJ] at hT;split at hT
  ·rename_i e hT'
   exact mL (fun m=>by simp [Op.equalIn,run_underlying hT']) rfl rfl rfl rfl
  ·cases hT
 case h_9=>cases hq
theorem Ag{op:BinOp}{T':TypeId}{x y:Operand}(hd:∀ d,o.dst=some d→d<c.n) (ho:o.op=.binOp op T x y T') (hop:op=.eql∨op=.neq)
 (hn:s5 s.lv (s.val c.G x)=some b) (hq:G0 (s.val c.G x) (s.val c.G y)=true) (hT:xJ c.P T (s.val c.G x)=true) :
 bP c o s (s.put o.dst (.c (.d (.bool (if op=.eql then b else !b))))):=
 bP.aU hd fun F β a w hs=>by
  have h:=Ik (V:=Vw.mk F β s.lv w) (P:=c.P) (T:=T) (x:=x) (y:=y) (hs.val x) (hs.val y) hn hq hT;rcases hop with rfl|rfl
  ·exact⟨.bool b,by simp only [execOp,ho];have:=h.1;simp only [cK] at this ⊢;rw [this];rfl,Vw.m7 _ _⟩
  ·exact⟨.bool (!b),by simp only [execOp,ho];have:=h.2;simp only [cK] at this ⊢;rw [this];rfl,Vw.m7 _ _⟩
end
end Go.Am
namespace Go.Am
open Go.Lib
variable {T e T' ty pt it kT eT:TypeId}{d:DV}{o:Oper}{x y m kx:Operand}{own ok b fz:Bool}{κ k:Key}{l:List UInt8}{cs:List CV}{v z:Value}{es:List (DV × AV)}{n sz off:Nat}{i:TypeInfo}{V:Vw}{P:Program}{vals:List AV}{ds:List DV}{lo hi:Option Operand}{h:Int}{op:Op}
def eE (l:List UInt8):List CV:=l.map fun b=>.d (.int .u8 (b.toNat:Int))
theorem jj (l:List UInt8):(eE l).length=l.length:=by simp [eE]
theorem JZ (b:UInt8):IntKind.u8.wrap (b.toNat:Int)=(b.toNat:Int):=by
 refine c9 ?_;have:=UInt8.toNat_lt b;simp only [CF,qd];omega
section
variable {c:Ctx}{F:Nat→Prop}{β:Key→Nat}{s:au}{a:Act}{w:World}
theorem M3 (V:Vw)(b:UInt8):V.cv (.int .u8 (b.toNat:Int)) (.d (.int .u8 (b.toNat:Int))):=⟨.int _ _ (JZ b),rfl⟩
theorem CO (l:List UInt8):strCells ⟨l.toArray⟩=l.map fun b=>Value.int .u8 (b.toNat:Int):=by
 simp [strCells]
theorem xk (V:Vw)(l:List UInt8):∀ i (h:i<(eE l).length) (h':i<(strCells ⟨l.toArray⟩).length),V.cv (strCells ⟨l.toArray⟩)[i] (eE l)[i]:=by
 intro i h h';simp only [CO,eE,sr];exact M3 V _
theorem cY (l:List UInt8):(ByteArray.mk l.toArray).size=l.length:=by simp [ByteArray.size]
theorem aE.qy (hs:aE c F β s a w)(hκ:s.lv κ=.hole) (hT:ff c.P T=some (e,1)) (hT':ct c.P T'=true)
 (hi:c.P.info? e=some i) (hz:i.zero=some z) (hzs:z.cells.size=1) (h63:l.length≤9223372036854775807) (hb:l.length*i.bytes≤140737488355328) :
 ∃ v F' β' w',(Builtin.append_ #[T,T'] ty #[.slice none 0 0,.string ⟨l.toArray⟩]).run c.P w=.ok v w' ∧
  aE c F' β' ⟨s.fr,aD s.lv κ (if l.length=0 then .bk else .cells true false e (eE l))⟩ a w' ∧
  (Vw.mk F' β' (aD s.lv κ (if l.length=0 then .bk else .cells true false e (eE l))) w').cv v (.aI κ 0 l.length 1):=by
 obtain⟨hu,hie,hsz⟩:=dL hT;have hsize:i.size=1:=by rw [← hsz];simp [gb,hi]
 have hstr:=hH hT';have hf:=run_firstCells_string (P:=c.P) w 1 ⟨l.toArray⟩;rw [cY] at hf
 by_cases hm:l.length=0
 ·have hl:l=[]:=abt hm;subst hl
  have hn:aE c F β ⟨s.fr,aD s.lv κ .bk⟩ a w:=by
   refine hs.step (fun _ h=>h) (fun _ _=>rfl) ?_ (fun _ _ _=>rfl) (fun _=>aW _) ?_ ?_ (fun b h=>.inl h) (aW _) (fun _ _ _=>rfl)
   ·intro k
    by_cases e:k=κ
    ·subst e;rw [hκ];simp [LB.sub]
    ·rw [aC _ _ e];exact LB.bl _
   ·intro k hK
    by_cases e:k=κ
    ·subst e;unfold Vw.bx;simp only [az]
    ·exact Vw.bp (hs.bx k) hK (aC _ _ e) rfl rfl (fun _ h=>h)
   ·intro k1 k2 g1 g2 he
    have g:∀ k',(aD s.lv κ .bk k').live=true→(s.lv k').live=true:=by
     intro k' hk'
     by_cases e:k'=κ
     ·subst e;rw [az] at hk';simp [LB.live] at hk'
     ·rwa [aC _ _ e] at hk'
    exact hs.inj _ _ (g _ g1) (g _ g2) he
  refine⟨.slice none 0 0,F,β,w,?_,by simpa using hn,?_⟩
  ·simp at hf;simp [Builtin.append_,run_underlying hu,run_underlying hstr,sizeOf,typeInfo,hi,hsize,Builtin.lenOf,hf,cY]
  ·simp [Vw.cv,Vw.cB,az,Value.oneCell']
 ·have he:(Builtin.append_ #[T,T'] ty #[.slice none 0 0,.string ⟨l.toArray⟩]).run c.P w=(Builtin.append_ #[T,T'] ty #[.slice (some ⟨0,0,none⟩) 0 0,.string ⟨l.toArray⟩]).run c.P w:=by
   have h1:¬ (9223372036854775807<(l.length:Int)):=by omega
   have h2:=growslice_fits (old:=0) (by omega:0<l.length) hb;simp [Builtin.append_,run_underlying hu,run_underlying hstr,sizeOf,typeInfo,hi,hsize,Builtin.lenOf,cY,hm,Builtin.firstCells,loadCells,loadCellsFrom,Nat.not_lt.2 h2]
  have hr:=run_append_grow_string (P:=c.P) w T T' ty e i z hu hstr hi hz ⟨0,0,none⟩ 0 0 [] (by simp) (by simp) ⟨l.toArray⟩ (by rw [cY];omega) (by rw [cY];omega) (by
   rw [cY];simpa using growslice_fits (old:=0) (by omega:0<l.length) hb)
  rw [← he] at hr;simp only [cY,Y5] at hr;have hd:aE c F β s a w.drew:=hs.heap rfl;have hge:=grownCap_ge w l.length 0 e
  have hal:=hd.alloc hκ (arr:=([]:List Value).toArray++(strCells ⟨l.toArray⟩).toArray++Builtin.zeroCells z.cells (grownCap w l.length 0 e - l.length)) e (cs:=eE l) (by simp [jj,strCells_length,cY]) (fun j p q=>by
   have hj:j<(strCells ⟨l.toArray⟩).length:=by rw [strCells_length,cY];rw [jj] at p;exact p
   have:(([]:List Value).toArray++(strCells ⟨l.toArray⟩).toArray++Builtin.zeroCells z.cells (grownCap w l.length 0 e - l.length))[j]=(strCells ⟨l.toArray⟩)[j]:=by
    rw [Z1 (by simpa using hj)];simp
   rw [this];exact xk _ _ _ _ _)
  refine⟨_,F,aD β κ w.heap.size,_,hr,by simpa [hm] using hal,?_⟩;simp only [hm,if_false,Vw.cv,Vw.cB,az];refine⟨⟨_,rfl,hge,?_⟩,rfl⟩;simp only [cw,heap_alloc,World.size_drew,if_true,abb,abu,size_zeroCells,strCells_length,cY,hzs,aaX];omega
theorem aE.qu (hs:aE c F β s a w)(hκ:s.lv κ=.hole) (hT:ff c.P T=some (e,1)) (hT':ct c.P T'=true)
 (hi:c.P.info? e=some i) (hz:i.zero=some z)(hy:s.val c.G y=.c (.aI k 0 n 1)) (hk:s.lv k=.cells own false e cs) (hfull:cs.length=n)
 (hzs:z.cells.size=1) (h63:n+l.length≤9223372036854775807) (hb:(n+l.length)*i.bytes≤140737488355328) :
 ∃ v F' β' w',(Builtin.append_ #[T,T'] ty #[a.eval y,.string ⟨l.toArray⟩]).run c.P w=.ok v w' ∧
  aE c F' β' ⟨s.fr,aD (aD s.lv k .dead) κ (.cells own false e (cs++eE l))⟩ a w' ∧
  (Vw.mk F' β' (aD (aD s.lv k .dead) κ (.cells own false e (cs++eE l))) w').cv v (.aI κ 0 (n+l.length) 1):=by
 obtain⟨hu,hie,hsz⟩:=dL hT;have hsize:i.size=1:=by rw [← hsz];simp [gb,hi]
 have hstr:=hH hT';have hkκ:k≠κ:=fun e=>by rw [e,hκ] at hk;cases hk
 have hv:=hy ▸ hs.val y;obtain⟨hv,_⟩:=hv;simp only [Vw.cB,hk] at hv;obtain⟨cap,vw,PB,hv3⟩:=hv;have hbk:=hs.bx k;unfold Vw.bx at hbk;simp only [hk] at hbk;obtain⟨arr,g1,g2,g3,g4,g5⟩:=hbk;have has:cw w (β k)=arr.size:=by simp [cw,g1]
 rw [has] at hv3;simp only [Y5,aa5] at hv3;rw [vw];have hvl:(strCells ⟨l.toArray⟩).length=l.length:=by rw [strCells_length,cY]
 have hbl:=jj l
 by_cases hroom:n+l.length≤cap
 ·have hr:=run_append_room_string (P:=c.P) w T T' ty e i hu hstr hi hsize (β k) n cap arr g1 ⟨l.toArray⟩ (by rw [cY];exact hroom) (by rw [cY];omega);rw [cY] at hr
  have hseg:arr.toList.take n++strCells ⟨l.toArray⟩++arr.toList.drop (n+l.length)=aj arr.toList n (strCells ⟨l.toArray⟩):=by
   unfold aj;rw [hvl]
  rw [hseg] at hr;have hle:n+(strCells ⟨l.toArray⟩).length≤arr.toList.length:=by rw [hvl];simp;omega
  have hset:=hs.setRow (arr:=(aj arr.toList n (strCells ⟨l.toArray⟩)).toArray) hk g1 (cs':=cs) (by simp [aO _ _ _ hle]) (by simp [aO _ _ _ hle];omega) (fun j p q=>by
   simp only [aaH];rw [dm _ _ _ hle j (by simpa using q),dif_neg (by omega)];simp only [Zw];exact g3 _ _ _)
  have hsame:aD s.lv k (.cells own false e cs)=s.lv:=by
   funext t;unfold aD;split
   ·rename_i h;rw [h,hk]
   ·rfl
  rw [hsame] at hset
  have hK:(Vw.mk F β s.lv w).iz (Vw.mk F β s.lv (w.setRow (β k) (aj arr.toList n (strCells ⟨l.toArray⟩)).toArray)):=
   Vw.iG (fun _ h=>h) (fun b hb=>setRow_other _ _ _ _ (fun e=>by
    have:F (β k):=e ▸ hb;simp at g4;exact g4 this)) (fun _=>LB.bl _) (fun _ _ _=>rfl) (fun b=>by rw [gh w (β k) arr _ e (0,0) g1 (by simp [aO _ _ _ hle]) b];exact aW _)
  have hmv:=hset.move (k:=k) (κ:=κ) hk hκ (cs':=cs++eE l) (arr:=(aj arr.toList n (strCells ⟨l.toArray⟩)).toArray) (setRow_heap w _ arr _ e (0,0) g1) (by simp [aO _ _ _ hle];omega) (fun j p q=>by
   simp only [aaH];rw [dm _ _ _ hle j (by simpa using q)]
   by_cases hj:j<n
   ·rw [dif_neg (by omega),ZB (by omega)];simp only [Zw];exact hK.cv (g3 _ _ _)
   ·rw [dif_pos ⟨by omega,by simp at p;omega⟩,ZI (by omega)];simp only [hfull];exact xk _ _ _ _ _)
  refine⟨_,_,_,_,hr,hmv,⟨?_,rfl⟩⟩;simp only [Vw.cB,az];refine⟨cap,rfl,hroom,?_⟩;rw [gh w (β k) arr _ e (0,0) g1 (by simp [aO _ _ _ hle])];rw [has];omega
 ·have holds:∀ j u,(arr.toList.take n)[j]?=some u→w.cell? ((⟨β k,0,none⟩:Addr).add j)=some u:=by
   intro j u hu;rw [aaT] at hu;split at hu
   ·rw [abr] at hu;rw [Z5,cell_of_row w _ _ _ _ _ g1,Y5];exact hu
   ·cases hu
  have hn:n≤arr.size:=by omega
  have hr:=run_append_grow_string (P:=c.P) w T T' ty e i z hu hstr hi hz ⟨β k,0,none⟩ n cap (arr.toList.take n) (by simp [hsize];omega) holds ⟨l.toArray⟩ (by rw [cY];omega) (by rw [cY];omega) (by rw [cY];exact growslice_fits (by omega) hb);rw [cY] at hr;have hd:aE c F β s a w.drew:=hs.heap rfl
  have hal:=(hd.kill k).alloc (κ:=κ) (by show aD s.lv k .dead κ=_;rw [aC _ _ (Ne.symm hkκ)];exact hκ) (arr:=((arr.toList.take n).toArray++(strCells ⟨l.toArray⟩).toArray++Builtin.zeroCells z.cells (grownCap w (n+l.length) cap e - (n+l.length)))) e (cs:=cs++eE l)
   (by simp;omega) (fun j p q=>by
    have hK2:(Vw.mk F β s.lv w).iz (Vw.mk F β (aD s.lv k .dead) w.drew):=Vw.iG (fun _ h=>h) (fun _ _=>rfl) (fun t=>by
     by_cases e:t=k
     ·subst e;show LB.sub (s.lv t) (aD s.lv t .dead t);rw [az];cases s.lv t <;> simp [LB.sub]
     ·show LB.sub (s.lv t) (aD s.lv k .dead t);rw [aC _ _ e];exact LB.bl _) (fun _ _ _=>rfl) (fun _=>aW _)
    simp only [YY] at p;have hto:(arr.toList.take n).length=n:=by simp;omega
    by_cases hj:j<n
    ·have e1:((arr.toList.take n).toArray++(strCells ⟨l.toArray⟩).toArray++Builtin.zeroCells z.cells (grownCap w (n+l.length) cap e - (n+l.length)))[j]=arr[j]'(by omega):=by
      rw [Z1 (by simp;omega),Z1 (by simp;omega)];simp
     rw [e1,ZB (by omega)];exact hK2.cv (g3 _ _ _)
    ·have e1:((arr.toList.take n).toArray++(strCells ⟨l.toArray⟩).toArray++Builtin.zeroCells z.cells (grownCap w (n+l.length) cap e - (n+l.length)))[j]=(strCells ⟨l.toArray⟩)[j - n]'(by omega):=by
      rw [Z1 (by simp;omega),abL (by simp;omega)];simp [hto]
     rw [e1,ZI (by omega)];simp only [hfull];exact xk _ _ _ _ _)
  have hun:=hal.nu (k:=κ) own Ad;rw [Bf] at hun;refine⟨_,_,_,_,hr,hun,⟨?_,rfl⟩⟩;simp only [Vw.cB,az];refine⟨_,rfl,grownCap_ge w (n+l.length) cap e,?_⟩;have hge:=grownCap_ge w (n+l.length) cap e;simp only [cw,heap_alloc,World.size_drew,if_true,abb,abu,size_zeroCells,hvl,hzs,Zc,aaR];omega
end
section
variable {c:Ctx}{F:Nat→Prop}{β:Key→Nat}{s:au}{a:Act}{w:World}
theorem jX(hd:∀ d,o.dst=some d→d<c.n)
 (ho:o.op=.call { callee:=.builtin .append,args:=#[y,x],argTypes:=#[T,T'] }) (hκ:s.lv κ=.hole) (hy:s.val c.G y=.c (.d .nilsl)∨∃ k,s.val c.G y=.c (.aI k 0 0 1)∧s.lv k=.bk) (hT:ff c.P T=some (e,1)) (hT':ct c.P T'=true)
 (hi:c.P.info? e=some i) (hz:i.zero=some z) (hx:s.val c.G x=.c (.d (.str l))) (hzs:z.cells.size=1) (h63:l.length≤9223372036854775807) (hb:l.length*i.bytes≤140737488355328) :
 bP c o s (au.put ⟨s.fr,aD s.lv κ (if l.length=0 then .bk else .cells true false e (eE l))⟩ o.dst (.c (.aI κ 0 l.length 1))):=
 bP.eB hd fun F β a w hs=>by
  obtain⟨v,F',β',w',h1,h2,h3⟩:=hs.qy (ty:=o.type) hκ hT hT' hi hz hzs h63 hb;refine⟨v,F',β',w',?_,h2,h3⟩;have hxv:=Vw.iR (hx ▸ hs.val x)
  have hu:a.eval y=.slice none 0 0:=by
   rcases hy with hy|⟨k,hy,hk⟩
   ·have hv:=hy ▸ hs.val y;obtain⟨hv,_⟩:=hv;obtain⟨u,hu⟩:∃ u,a.eval y=u:=⟨_,rfl⟩
    rw [hu] at hv ⊢
    cases hv;rfl
   ·have hv:=hy ▸ hs.val y;obtain⟨hv,_⟩:=hv;simp only [Vw.cB,hk] at hv;exact hv.1
  simp [execOp,ho,resolve,invoke,builtin,hu,hxv,h1]
theorem qo(hd:∀ d,o.dst=some d→d<c.n)
 (ho:o.op=.call { callee:=.builtin .append,args:=#[y,x],argTypes:=#[T,T'] }) (hκ:s.lv κ=.hole) (hT:ff c.P T=some (e,1)) (hT':ct c.P T'=true)
 (hi:c.P.info? e=some i) (hz:i.zero=some z) (hy:s.val c.G y=.c (.aI k 0 n 1)) (hk:s.lv k=.cells own false e cs) (hfull:cs.length=n)
 (hx:s.val c.G x=.c (.d (.str l))) (hzs:z.cells.size=1) (h63:n+l.length≤9223372036854775807) (hb:(n+l.length)*i.bytes≤140737488355328) :
 bP c o s (au.put ⟨s.fr,aD (aD s.lv k .dead) κ (.cells own false e (cs++eE l))⟩ o.dst (.c (.aI κ 0 (n+l.length) 1))):=
 bP.eB hd fun F β a w hs=>by
  obtain⟨v,F',β',w',h1,h2,h3⟩:=hs.qu (ty:=o.type) (l:=l) hκ hT hT' hi hz hy hk hfull hzs h63 hb;have hxv:=Vw.iR (hx ▸ hs.val x);exact⟨v,F',β',w',by simp [execOp,ho,resolve,invoke,builtin,hxv,h1],h2,h3⟩
theorem zm{len:Nat}{T0:TypeId}(hd:∀ d,o.dst=some d→d<c.n)
 (ho:o.op=.call { callee:=.builtin .unsafeSliceData,args:=#[x],argTypes:=#[T] }) (hx:s.val c.G x=.c (.aI k off len sz)) (hk:s.lv k=.cells own fz T0 cs) (hlen:0<len) :
 bP c o s (s.put o.dst (.c (.ptr k off))):=
 bP.aU hd fun F β a w hs=>by
  have hv:=hx ▸ hs.val x;obtain⟨hv,_⟩:=hv;simp only [Vw.cB,hk] at hv;obtain⟨cap,vw,PB,hv3⟩:=hv;refine⟨.pointer (some ⟨β k,off,none⟩),?_,?_⟩
  ·have:=run_unsafeSliceData_row (P:=c.P) w #[T] o.type ⟨β k,off,none⟩ len cap (by omega);simp [execOp,ho,resolve,invoke,builtin,vw,this]
  ·exact⟨by simp only [Vw.de,hk],rfl⟩
theorem kU(hd:∀ d,o.dst=some d→d<c.n)
 (ho:o.op=.call { callee:=.builtin .unsafeSliceData,args:=#[x],argTypes:=#[T] }) (hx:s.val c.G x=.c (.d .nilsl)∨∃ k,s.val c.G x=.c (.aI k 0 0 1)∧s.lv k=.bk) :
 bP c o s (s.put o.dst (.c (.d .nilp))):=
 bP.aU hd fun F β a w hs=>by
  have hu:a.eval x=.slice none 0 0:=by
   rcases hx with hy|⟨k,hy,hk⟩
   ·have hv:=hy ▸ hs.val x;obtain⟨hv,_⟩:=hv;obtain⟨u,hu⟩:∃ u,a.eval x=u:=⟨_,rfl⟩
    rw [hu] at hv ⊢
    cases hv;rfl
   ·have hv:=hy ▸ hs.val x;obtain⟨hv,_⟩:=hv;simp only [Vw.cB,hk] at hv;exact hv.1
  refine⟨.pointer none,?_,.nilp,rfl⟩;simp [execOp,ho,resolve,invoke,builtin,hu,run_unsafeSliceData_nil]
theorem nP(hd:∀ d,o.dst=some d→d<c.n)
 (ho:o.op=.call { callee:=.builtin .unsafeString,args:=#[x,y],argTypes:=#[pt,it] }) (hx:s.val c.G x=.c (.d .nilp)) (hy:s.val c.G y=.c (.d (.int .i64 0))) :
 bP c o s (s.put o.dst (.c (.d (.str [])))):=
 bP.aU hd fun F β a w hs=>by
  have hv:=hx ▸ hs.val x;obtain⟨hv,_⟩:=hv;obtain⟨u,hu⟩:∃ u,a.eval x=u:=⟨_,rfl⟩
  rw [hu] at hv;have hyv:=Vw.fP (hy ▸ hs.val y)
  cases hv
  refine⟨.string .empty,?_,?_⟩
  ·have:=run_unsafeString_none (P:=c.P) w pt it o.type none;simp [execOp,ho,resolve,invoke,builtin,hu,hyv,this]
  ·have:ByteArray.empty=⟨([]:List UInt8).toArray⟩:=rfl;rw [this];exact Vw.uF _ _ (by simp)
def rX:List CV→Option (List UInt8)
 | []=>some []
 | .d (.int .u8 n)::r=>match n with
  | .ofNat m=>if m<256 then (match rX r with|some l=>some (UInt8.ofNat m::l)|none=>none) else none
  | _=>none
 | _=>none
theorem ym:∀ {cs:List CV}{l:List UInt8},rX cs=some l→cs=eE l
 | [],l,h=>by simp only [rX,ai] at h;subst h;rfl
 | x::r,l,h=>by
  unfold rX at h;split at h
  ·rename_i h0;cases h0
  ·rename_i n r' h0
   simp only [Zh] at h0;obtain⟨rfl,rfl⟩:=h0;split at h
   ·rename_i m
    split at h
    ·rename_i hm
     split at h
     ·rename_i l' hl
      simp only [ai] at h;subst h;have:=ym hl;simp only [eE,Y0] at this ⊢;rw [this];congr 3;have:(UInt8.ofNat m).toNat=m:=by simp [UInt8.toNat_ofNat'];omega
      rw [this];rfl
     ·cases h
    ·cases h
   ·cases h
  ·cases h
theorem aE.CK (h:aE c F β s a w)(hk:s.lv k=.cells own false T cs) (n:Nat) :
 aE c F β ⟨s.fr,aD s.lv k .dead⟩ a (w.freeze ⟨β k,0,none⟩ n):=by
 have hlive:(s.lv k).live=true:=by rw [hk];rfl
 have hoth:∀ b,b≠β k→(w.freeze ⟨β k,0,none⟩ n).heap[b]?=w.heap[b]?:=by
  intro b hb;unfold World.freeze;split
  ·rfl
  ·simp only [Array.getElem?_modify];rw [if_neg (fun e=>hb e.symm)]
 have hsz:(w.freeze ⟨β k,0,none⟩ n).heap.size=w.heap.size:=by
  unfold World.freeze;split <;> simp
 have has:∀ b,cw w b=cw (w.freeze ⟨β k,0,none⟩ n) b:=by
  intro b
  by_cases e:b=β k
  ·subst e;unfold World.freeze;split
   ·rfl
   ·simp only [cw,Array.getElem?_modify,if_true]
    cases h1:w.heap[β k]? with
    | none=>rfl
    | some o=>cases o <;> rfl
  ·simp only [cw,hoth b e]
 refine h.step (hoo:=by unfold World.freeze;split <;> exact⟨rfl,rfl⟩) (fun _ h=>h) (fun b hb=>hoth b (fun e=>h.mI hlive (e ▸ hb))) ?_ (fun _ _ _=>rfl) (fun b=>Z8 (has b)) ?_ ?_ (fun b h=>.inl h) (Z8 hsz.symm) ?_
 ·intro k'
  by_cases e:k'=k
  ·subst e;rw [az];cases s.lv k' <;> simp [LB.sub]
  ·rw [aC _ _ e];exact LB.bl _
 ·intro k' hK
  by_cases e:k'=k
  ·subst e;unfold Vw.bx;simp only [az]
  ·have hb:=h.bx k'
   by_cases hl:(s.lv k').live=true
   ·exact Vw.bp hb hK (aC _ _ e) rfl (hoth _ (fun e'=>e (h.inj _ _ hl hlive e'))) (fun _ h=>h)
   ·cases ek:s.lv k' with
    | cells o fz T' cs'=>
     cases fz with
     | false=>rw [ek] at hl;exact absurd rfl hl
     | true=>
      have hF:F (β k'):=by unfold Vw.bx at hb;simp only [ek] at hb;obtain⟨_,_,_,_,h4,_⟩:=hb;exact h4
      exact Vw.bp hb hK (aC _ _ e) rfl (hoth _ (fun e'=>h.mI hlive (e' ▸ hF))) (fun _ h=>h)
    | map o es=>rw [ek] at hl;exact absurd rfl hl
    | hole=>unfold Vw.bx;simp only [aC _ _ e,ek]
    | dead=>unfold Vw.bx;simp only [aC _ _ e,ek]
    | bk=>unfold Vw.bx;simp only [aC _ _ e,ek]
 ·intro k1 k2 a1 a2 he
  have g:∀ k',(aD s.lv k .dead k').live=true→(s.lv k').live=true:=by
   intro k' hk'
   by_cases e:k'=k
   ·subst e;rw [az] at hk';cases hk'
   ·rwa [aC _ _ e] at hk'
  exact h.inj _ _ (g _ a1) (g _ a2) he
 ·intro b hb hnW;refine hoth b (fun e=>?_);rcases h.eM hlive with h1|h1
  ·omega
  ·exact hnW (e ▸ h1)
theorem tY(hd:∀ d,o.dst=some d→d<c.n)
 (ho:o.op=.call { callee:=.builtin .unsafeString,args:=#[x,y],argTypes:=#[pt,it] }) (hx:s.val c.G x=.c (.ptr k 0)) (hk:s.lv k=.cells own false e cs) (hy:s.val c.G y=.c (.d (.int .i64 l.length)))
 (hp:c.P.underlying pt=some (.pointer e)) (hc:c.P.cellsOf e=1) (hl:cs.take l.length=eE l) (h0:l≠[]) (h63:l.length≤9223372036854775807) :
 bP c o s (au.put ⟨s.fr,aD s.lv k .dead⟩ o.dst (.c (.d (.str l)))):=
 bP.eB hd fun F β a w hs=>by
  have hv:=hx ▸ hs.val x;obtain⟨hv,_⟩:=hv;simp only [Vw.de,hk] at hv;have hyv:=Vw.fP (hy ▸ hs.val y);have hb:=hs.bx k;unfold Vw.bx at hb;simp only [hk] at hb;obtain⟨arr,b1,b2,b3,b4,b5⟩:=hb
  have hll:l.length≤cs.length:=by
   have:=congrArg List.length hl;rw [Zc,jj] at this;omega
  have hcell:∀ j x,l[j]?=some x→w.cell? ((⟨β k,0,none⟩:Addr).add j)=some (.int .u8 x.toNat):=by
   intro j x hj;obtain⟨hj1,hj2⟩:=List.getElem?_eq_some_iff.1 hj
   have h1:cs[j]'(by omega)=.d (.int .u8 (x.toNat:Int)):=by
    have h2:(cs.take l.length)[j]?=some (cs[j]'(by omega)):=by
     rw [aaT,if_pos hj1,cn (by omega)]
    rw [hl,eE,ZO,hj] at h2;simpa using h2.symm
   have h3:=b3 j (by omega) (by omega);rw [h1] at h3;have h4:=Vw.fP (V:=Vw.mk F β s.lv w) h3
   have h5:(⟨β k,0,none⟩:Addr).add j=⟨β k,j,none⟩:=by
    unfold Addr.add;by_cases e:j=0
    ·subst e;simp
    ·simp [e]
   rw [h5,gM b1 (by omega),h4]
  have hr:=run_unsafeString_row (P:=c.P) w pt it o.type e hp hc (β k) arr.size (by simp [World.shape?,b1]) l h0 (by omega) h63 hcell;refine⟨.string ⟨l.toArray⟩,F,β,w.freeze ⟨β k,0,none⟩ l.length,?_,hs.CK hk l.length,Vw.uF _ _ h63⟩;simp [execOp,ho,resolve,invoke,builtin,hv,hyv,hr]
theorem xu{S:TypeId}(hd:∀ d,o.dst=some d→d<c.n) (ho:o.op=.convert S T x)
 (hx:s.val c.G x=.c (.d (.str l))) (hS:ct c.P S=true) (hT:ff c.P T=some (e,1)) (he:c.P.underlying e=some (.int .u8)) (h63:l.length≤9223372036854775807) :
 bP c o s (s.put o.dst (.c (.d (.sl (l.map fun b=>[.int .u8 (b.toNat:Int)]))))):=by
 have hput:s.put o.dst (.c (.d (.sl (l.map fun b=>[.int .u8 (b.toNat:Int)]))))=au.put ⟨s.fr,s.lv⟩ o.dst (.c (.d (.sl (l.map fun b=>[.int .u8 (b.toNat:Int)])))):=rfl;rw [hput];refine bP.eB hd fun F β a w hs=>?_;have hxv:=Vw.iR (hx ▸ hs.val x);obtain⟨hu,_,_⟩:=dL hT;have hstr:=hH hS;have hr:=Go.Lib.run_convert_string_bytes (P:=c.P) w S T e ⟨l.toArray⟩ hstr hu he;rw [cY] at hr;have hold:∀ b,b<w.heap.size→(bytesWorld w e ⟨l.toArray⟩).heap[b]?=w.heap[b]?:=fun b hb=>bytesWorld_at_old w e _ b hb
 have hsz:=bytesWorld_size w e ⟨l.toArray⟩;have hge:=hs.ge
 have hst:aE c (fun b=>F b∨b=w.heap.size) β s a (bytesWorld w e ⟨l.toArray⟩):=by
  refine hs.step (fun _ h=>.inl h) (fun b hb=>hold b (hs.mh b hb).1) (fun k=>LB.bl _) (fun _ _ _=>rfl) (fun b=>?_) ?_ hs.inj (fun b hb=>?_) (by omega) (fun b hb _=>hold b (by omega))
  ·by_cases hb:b<w.heap.size
   ·simp only [cw,hold b hb];exact aW _
   ·have:w.heap[b]?=none:=abv (by omega);simp [cw,this]
  ·intro k hK;have hb:=hs.bx k
   have hlt:(∃ own fz T cs,s.lv k=.cells own fz T cs)∨(∃ own es,s.lv k=.map own es)→β k<w.heap.size:=by
    unfold Vw.bx at hb;rintro (⟨o,fz,T,cs,e⟩|⟨o,es,e⟩)
    ·simp only [e] at hb;obtain⟨_,h1,_⟩:=hb;exact eG h1
    ·simp only [e] at hb;obtain⟨_,_,h1,_⟩:=hb;exact eG h1
   cases ek:s.lv k with
   | cells own fz T cs=>
    have:=hlt (.inl ⟨_,_,_,_,ek⟩);exact Vw.bp hb hK rfl rfl (hold _ this) (fun _ hf=>hf.resolve_right (by show β k≠w.heap.size;omega))
   | map own es=>
    have:=hlt (.inr ⟨_,_,ek⟩);exact Vw.bp hb hK rfl rfl (hold _ this) (fun _ hf=>hf.resolve_right (by show β k≠w.heap.size;omega))
   | hole=>unfold Vw.bx;simp only [ek]
   | dead=>unfold Vw.bx;simp only [ek]
   | bk=>unfold Vw.bx;simp only [ek]
  ·rcases hb with hb|hb
   ·exact .inl hb
   ·subst hb;exact .inr ⟨by omega,hge⟩
 refine⟨.slice (some ⟨w.heap.size,0,none⟩) l.length (grownCap w l.length 0 e),_,β,_,by simp [execOp,ho,hxv,hr],hst,?_,rfl⟩;have hcap:=grownCap_ge w l.length 0 e
 have key:=Rd.sl (M:=kI (bytesWorld w e ⟨l.toArray⟩) (fun b=>F b∨b=w.heap.size)) w.heap.size 0 (grownCap w l.length 0 e) 1 (l.map fun b=>[DV.int .u8 (b.toNat:Int)]) (fun i _=>.int .u8 (l.getD i 0).toNat)
  (by simp) (by simpa using hcap) (by simpa using h63) ?_ (by intros;rfl) ?_
 ·rw [YX] at key;exact key
 ·intro i hi j hj;simp at hi;refine⟨.inr rfl,?_⟩;have:=bytesWorld_cell w e ⟨l.toArray⟩ i (by rw [cY];exact hi);have hj0:j=0:=by omega
  subst hj0;simpa using this
 ·intro i hi j hj;simp at hi hj;have hj0:j=0:=by omega
  subst hj0;simp only [sr,Zx];have:l.getD i 0=l[i]:=by rw [hJ,cn hi];rfl
  rw [this];exact .int _ _ (JZ _)
end
def CP:DV→AV
 | .agg l=>.agg (l.map .d)
 | x=>.c (.d x)
theorem Vw.CP(h:Rd V.mem v d):V.av v (Am.CP d):=by
 cases h with
 | agg arr cs hl ho hr=>
  refine⟨arr,rfl,by simpa using hl,fun i p q=>?_⟩;simp only [sr];exact⟨hr i (by simpa using p),ho i q⟩
 | _=>first
  | exact⟨.bool _,rfl⟩
  | exact⟨.int _ _ (by assumption),rfl⟩
  | exact⟨.str _ (by assumption),rfl⟩
  | exact⟨.nilp,rfl⟩
  | exact⟨.nilsl,rfl⟩
  | exact⟨.nilIface,rfl⟩
  | exact⟨.nilFunc,rfl⟩
  | exact⟨.nilmap,rfl⟩
  | exact⟨.ptr _ _ _ _ (by assumption) (by assumption) (by assumption),rfl⟩
  | exact⟨.sl _ _ _ _ _ _ (by assumption) (by assumption) (by assumption) (by assumption) (by assumption) (by assumption),rfl⟩
  | exact⟨.iface _ _ _ (by assumption),rfl⟩
  | exact⟨.func _ _ _ _ _ (by assumption) (by assumption) (by assumption) (by assumption),rfl⟩
theorem yc (d:DV):∀ l,CP d≠.tup l:=by intro l;cases d <;> simp [CP]
def dP (P:Program)(T:TypeId)(d:DV):Bool:=
 match P.underlying T,d with
 | some (.int k),.int k' _=>decide (k=k')
 | some .string,.str _=>true
 | some .bool,.bool _=>true
 | _,_=>false
def jk (P:Program):List Field→List DV→Bool
 | [],_=>true
 | f::r,ds=>f.name != "_" && (match cR P f.type with|some false=>true|_=>false) && (match ds[f.offset]? with|some d=>dP P f.type d|none=>false) && jk P r ds
def fh (P:Program)(T:TypeId)(d:DV):Bool:=
 match P.underlying T,d with
 | some (.struct fs),.agg ds=>!P.stoodInHeld T && jk P fs.toList ds && fs.toList.map (·.offset) == List.range ds.length
 | _,d=>dP P T d
def lO:DV→DV→Bool
 | .int k a,.int k' b=>decide (k=k') && a == b
 | .str a,.str b=>a == b
 | .bool a,.bool b=>a == b
 | _,_=>false
theorem GC {e:DV}(h:lO d e=true):d=e:=by
 unfold lO at h;split at h
 ·simp only [cy,decide_eq_true_eq,beq_iff_eq] at h;rw [h.1,h.2]
 ·simp only [beq_iff_eq] at h;rw [h]
 ·simp only [beq_iff_eq] at h;rw [h]
 ·cases h
def Gj:List DV→List DV→Bool
 | [],[]=>true
 | a::l,b::m=>lO a b && Gj l m
 | _,_=>false
theorem G6:∀ {l m:List DV},Gj l m=true→l=m
 | [],[],_=>rfl
 | a::l,b::m,h=>by simp only [Gj,cy] at h;rw [GC h.1,G6 h.2]
 | [],_::_,h=>by cases h
 | _::_,[],h=>by cases h
def tZ:DV→DV→Bool
 | .agg a,.agg b=>Gj a b
 | a,b=>lO a b
theorem MP {e:DV}(h:tZ d e=true):d=e:=by
 unfold tZ at h;split at h
 ·rw [G6 h]
 ·exact GC h
theorem y6 (a b:List UInt8):(ByteArray.mk a.toArray == ByteArray.mk b.toArray)=(a == b):=by
 rw [Bool.eq_iff_iff,MapKept.bytes_beq,beq_iff_eq];constructor
 ·intro h;simpa using h
 ·rintro rfl;rfl
section
variable {P:Program}{w:World}{M:Mem}
theorem Db(h:dP P T d=true) (hv:Rd M v d):v=d.eW:=by
 unfold dP at h;split at h
 ·cases hv;rfl
 ·cases hv with|str s hl=>simp [DV.eW]
 ·cases hv;rfl
 ·cases h
theorem LD{t:TypeDesc}{e:DV}(hT:P.underlying T=some t) (h1:dP P T d=true) (h2:dP P T e=true):Instr.sameNow t d.eW e.eW=some (lO d e):=by
 unfold dP at h1 h2;rw [hT] at h1 h2
 cases t <;> cases d <;> simp at h1 <;> cases e <;> simp at h2
 ·simp [DV.eW,Instr.sameNow,lO]
 ·subst h1;subst h2;simp [DV.eW,Instr.sameNow,lO]
 ·rename_i a b
  simp only [DV.eW,Instr.sameNow,lO,ai];exact y6 a b
theorem GZ{e:DV}(h1:dP P T d=true) (h2:dP P T e=true) (n:Nat):(Op.equalIn (n+1) T d.eW e.eW).run P w=.ok (lO d e) w:=by
 unfold dP at h1 h2
 cases hT:P.underlying T with
 | none=>rw [hT] at h1;simp at h1
 | some t=>
  rw [hT] at h1 h2
  cases t <;> cases d <;> simp at h1 <;> cases e <;> simp at h2
  ·rename_i a b;simp only [DV.eW,lO];exact run_equalIn_bool' w n T a b hT
  ·subst h1;subst h2;simp only [DV.eW,lO,decide_true,Bool.true_and];exact run_equalIn_int w n T _ _ _ _ hT
  ·simp only [DV.eW,lO];rw [run_equalIn_string w n T _ _ hT,toList_mk,toList_mk]
theorem yh(h1:dP P T d=true) (em:Bool) (n:Nat):(Instr.checkKey em (n+1) T d.eW).run P w=.ok () w:=by
 unfold dP at h1
 cases hT:P.underlying T with
 | none=>rw [hT] at h1;simp at h1
 | some t=>
  rw [hT] at h1
  cases t <;> cases d <;> simp at h1 <;> simp [Instr.checkKey,run_underlying hT,DV.eW]
theorem AR(h1:dP P T d=true) (n:Nat):Instr.sameBits n d.eW d.eW=true:=by
 unfold dP at h1;split at h1
 ·cases n <;> simp [DV.eW,Instr.sameBits]
 ·cases n <;> simp only [DV.eW,Instr.sameBits] <;> rw [y6] <;> simp
 ·cases n <;> simp [DV.eW,Instr.sameBits]
 ·cases h1
theorem lK{arr:Array Value}(ha:cR P T=some false) (h:arr[off]?=some d.eW):(part T arr off).run P w=.ok d.eW w:=by
 simp [part,lR ha,h]
theorem jg:∀ {fs:List Field}{ds:List DV},jk P fs ds=true→∀ f∈fs,f.name ≠ "_" ∧ cR P f.type=some false∧∃ d,ds[f.offset]?=some d∧dP P f.type d=true
 | [],_,_,f,hf=>by cases hf
 | g::r,ds,h,f,hf=>by
  simp only [jk,cy,bne_iff_ne] at h;obtain⟨⟨⟨h1,h2⟩,h3⟩,h4⟩:=h;rcases List.mem_cons.1 hf with rfl|hf
  ·refine⟨h1,?_,?_⟩
   ·split at h2
    ·assumption
    ·cases h2
   ·split at h3
    ·rename_i d hd;exact⟨d,hd,h3⟩
    ·cases h3
  ·exact jg h4 f hf
theorem IS{fs:Array Field}(hT:P.underlying T=some (.struct fs)) (h:fh P T (.agg ds)=true) (hv:Rd M v (.agg ds)) :
 v=.agg (ds.map DV.eW).toArray:=by
 simp only [fh,hT,cy,beq_iff_eq] at h;obtain⟨⟨_,h2⟩,h3⟩:=h
 cases hv with
 | agg arr _ hl ho hr=>
  congr 1;apply Array.ext
  ·simpa using hl
  ·intro i p q;simp only [aaH,sr];have hi:i<ds.length:=by omega
   have hm:i∈fs.toList.map (·.offset):=by rw [h3];exact List.mem_range.2 hi
   obtain⟨f,hf,rfl⟩:=List.mem_map.1 hm;obtain⟨_,_,d,hd,hs⟩:=jg h2 f hf;have hd':ds[f.offset]=d:=by rw [cn hi] at hd;simpa using hd
   have:=hr f.offset hi;rw [hd'] at this ⊢;exact Db hs this
def DV.fJ:DV→Value
 | .agg ds=>.agg (ds.map DV.eW).toArray
 | d=>d.eW
theorem oU(h:dP P T d=true):d.fJ=d.eW:=by
 cases d with
 | agg ds=>unfold dP at h;split at h <;> simp_all
 | _=>rfl
theorem wM(h:fh P T d=true) (hv:Rd M v d):v=d.fJ:=by
 unfold fh at h;split at h
 ·rename_i fs ds hT
  have h':fh P T (.agg ds)=true:=by simp only [fh,hT];exact h
  exact IS hT h' hv
 ·have:=Db h hv;rw [this];exact (oU h).symm
theorem pQ {ds es:List DV}:∀ (fs:List Field),jk P fs ds=true→jk P fs es=true→∀ n,
 (Op.eqFields (n+1) (ds.map DV.eW).toArray (es.map DV.eW).toArray fs).run P w=.ok (fs.all fun f=>match ds[f.offset]?,es[f.offset]? with|some a,some b=>lO a b|_,_=>false) w
 | [],_,_,n=>by simp [Op.eqFields]
 | f::r,h1,h2,n=>by
  obtain⟨a1,a2,d,a3,a4⟩:=jg h1 f (ZP ..);obtain⟨_,_,e,b3,b4⟩:=jg h2 f (ZP ..);have r1:jk P r ds=true:=by simp only [jk,cy] at h1;exact h1.2
  have r2:jk P r es=true:=by simp only [jk,cy] at h2;exact h2.2
  have p1:=lK (P:=P) (w:=w) (d:=d) (off:=f.offset) (arr:=(ds.map DV.eW).toArray) a2 (by simp [a3]);have p2:=lK (P:=P) (w:=w) (d:=e) (off:=f.offset) (arr:=(es.map DV.eW).toArray) a2 (by simp [b3]);simp only [Op.eqFields,if_pos a1,cK,p1,p2,GZ a4 b4,rP,aaE,a3,b3]
  cases hb:lO d e with
  | false=>simp
  | true=>simp only [Bool.not_true,Y2,if_false,Bool.true_and];exact pQ r r1 r2 n
theorem CQ {es:List DV}{fs:List Field}(h1:fs.map (·.offset)=List.range ds.length) (h2:fs.map (·.offset)=List.range es.length) :
 (fs.all fun f=>match ds[f.offset]?,es[f.offset]? with|some a,some b=>lO a b|_,_=>false)=Gj ds es:=by
 have hl:ds.length=es.length:=by
  have:=congrArg List.length (h1.symm.trans h2);simpa using this
 have h3:(fs.all fun f=>match ds[f.offset]?,es[f.offset]? with|some a,some b=>lO a b|_,_=>false) =
  ((fs.map (·.offset)).all fun i=>match ds[i]?,es[i]? with|some a,some b=>lO a b|_,_=>false):=by rw [List.all_map];rfl
 rw [h3,h1];clear h1 h2 h3 fs
 induction ds generalizing es with
 | nil=>cases es with
  | nil=>rfl
  | cons b m=>simp at hl
 | cons a l ih=>
  cases es with
  | nil=>simp at hl
  | cons b m=>
   simp only [Zn,List.range_succ_eq_map,aaE,aaW,Gj,List.all_map];congr 1;have:=ih (es:=m) (by simpa using hl);rw [← this];congr 1
theorem Pu{e:DV}(h1:fh P T d=true) (h2:fh P T e=true) (n:Nat):(Op.equalIn (n+2) T d.fJ e.fJ).run P w=.ok (tZ d e) w:=by
 cases hT:P.underlying T with
 | none=>unfold fh at h1;simp [hT,dP] at h1
 | some t=>
  by_cases hs:∃ fs,t=.struct fs
  ·obtain⟨fs,rfl⟩:=hs;have hfo:P.fieldsOf T=fs:=by simp [Program.fieldsOf,hT]
   cases d with
   | agg ds=>
    cases e with
    | agg es=>
     simp only [fh,hT,cy,beq_iff_eq,Zd] at h1 h2;obtain⟨⟨q1,q2⟩,q3⟩:=h1;obtain⟨⟨p1,p2⟩,p3⟩:=h2;simp only [DV.fJ,tZ];rw [run_equalIn_struct w (n+1) T _ _ (by rw [hfo];exact hT) q1,hfo,pQ _ q2 p2,CQ q3 p3]
    | _=>unfold fh at h2;simp [hT,dP] at h2
   | _=>unfold fh at h1;simp [hT,dP] at h1
  ·have key:∀ x,fh P T x=true→dP P T x=true:=by
    intro x hx;unfold fh at hx;split at hx
    ·rename_i fs ds h;rw [hT] at h;simp only [ai] at h;exact absurd ⟨fs,h⟩ hs
    ·exact hx
   have e1:=key _ h1;have e2:=key _ h2
   have k1:∀ x,dP P T x=true→x.fJ=x.eW:=by
    intro x hx;cases x with
    | agg ds=>unfold dP at hx;split at hx <;> simp_all
    | _=>rfl
   rw [k1 _ e1,k1 _ e2,GZ e1 e2]
   have:tZ d e=lO d e:=by
    cases d with
    | agg ds=>unfold dP at e1;split at e1 <;> simp_all
    | _=>rfl
   rw [this]
theorem td {α:Type}{f:α→Sem (ForInStep PUnit)}:∀ (l:List α),(∀ x∈l,(f x).run P w=.ok (.yield ⟨⟩) w)→(forIn l PUnit.unit (fun x _=>f x)).run P w=.ok ⟨⟩ w
 | [],_=>by simp
 | x::l,h=>by
  simp only [List.forIn_cons,cK,h x (ZP ..),rP];exact td l fun y hy=>h y (ZX _ hy)
theorem Ar(h1:fh P T d=true) (em:Bool) (n:Nat):(Instr.checkKey em (n+2) T d.fJ).run P w=.ok () w:=by
 cases hT:P.underlying T with
 | none=>unfold fh at h1;simp [hT,dP] at h1
 | some t=>
  by_cases hs:∃ fs,t=.struct fs
  ·obtain⟨fs,rfl⟩:=hs
   cases d with
   | agg ds=>
    simp only [fh,hT,cy,beq_iff_eq,Zd] at h1;obtain⟨⟨q1,q2⟩,q3⟩:=h1;simp only [DV.fJ];rw [Instr.checkKey];simp only [cK,run_underlying hT,rP];rw [← Array.forIn_toList]
    have:=td (P:=P) (w:=w) (f:=fun f:Field=>(if f.name ≠ "_" then (do Instr.checkKey em (n+1) f.type (← part f.type (ds.map DV.eW).toArray f.offset);pure (.yield ⟨⟩)) else pure (.yield ⟨⟩):Sem (ForInStep PUnit))) fs.toList (fun f hf=>by
     obtain⟨a1,a2,x,a3,a4⟩:=jg q2 f hf;have p1:=lK (P:=P) (w:=w) (d:=x) (off:=f.offset) (arr:=(ds.map DV.eW).toArray) a2 (by simp [a3]);simp [a1,p1,yh a4])
    simp at this ⊢;rw [this];rfl
   | _=>unfold fh at h1;simp [hT,dP] at h1
  ·have e1:dP P T d=true:=by
    unfold fh at h1;split at h1
    ·rename_i fs ds h;rw [hT] at h;simp only [ai] at h;exact absurd ⟨fs,h⟩ hs
    ·exact h1
   have k1:d.fJ=d.eW:=by
    cases d with
    | agg ds=>unfold dP at e1;split at e1 <;> simp_all
    | _=>rfl
   rw [k1];exact yh e1 em (n+1)
end
def jm (k:DV):List (DV × AV)→Option Nat
 | []=>none
 | e::es=>if tZ k e.1 then some 0 else (jm k es).map (·+1)
theorem uG {k:DV}:∀ {es:List (DV × AV)}{i:Nat},jm k es=some i→∃ e,es[i]?=some e∧e.1=k
 | [],_,h=>by cases h
 | e::es,i,h=>by
  simp only [jm] at h;split at h
  ·rename_i hb
   simp only [ai] at h;subst h;exact⟨e,rfl,(MP hb).symm⟩
  ·rw [Y8] at h;obtain⟨j,hj,rfl⟩:=h;obtain⟨e',h1,h2⟩:=uG hj;exact⟨e',by simpa using h1,h2⟩
def vO (k:DV)(y:AV)(es:List (DV × AV)):List (DV × AV):=
 match jm k es with
 | some i=>es.set i (k,y)
 | none=>es++[(k,y)]
section
variable {P:Program}{w:World}{M:Mem}
theorem Av{k:DV}(hk:fh P T k=true)(hes:∀ e∈es,fh P T e.1=true) {ents:List MapEntry}(hl:ents.length=es.length)
 (hr:∀ i (h:i<es.length) (h':i<ents.length),Rd M ents[i].key es[i].1) :
 (Instr.findKey T k.fJ ents).run P w=.ok ((jm k es).bind fun i=>ents[i]?.map fun e=>(i,e.val)) w:=by
 have hkeys:∀ i (h:i<es.length) (h':i<ents.length),ents[i].key=es[i].1.fJ:=fun i h h'=>wM (hes _ (cq h)) (hr i h h')
 clear hr
 cases hT:P.underlying T with
 | none=>unfold fh at hk;simp [hT,dP] at hk
 | some t=>
  by_cases hs:∃ fs,t=.struct fs
  ·obtain⟨fs,rfl⟩:=hs;rw [run_findKey_eq w (by simp [hT])]
   have key:∀ (es:List (DV × AV)) (ents:List MapEntry) (n:Nat),(∀ e∈es,fh P T e.1=true)→ents.length=es.length→(∀ i (h:i<es.length) (h':i<ents.length),ents[i].key=es[i].1.fJ) →
    (Instr.findAsking T k.fJ ents n).run P w=.ok ((jm k es).bind fun i=>ents[i]?.map fun e=>(n+i,e.val)) w:=by
    intro es
    induction es with
    | nil=>intro ents n _ hl _;have:ents=[]:=abt (by simpa using hl)
           subst this;simp [Instr.findAsking,jm]
    | cons e es ih=>
     intro ents n h1 hl h2
     cases ents with
     | nil=>simp at hl
     | cons m ents=>
      have hm:=h2 0 (by simp) (by simp);simp only [Zx] at hm;have he:(Op.equal T k.fJ m.key).run P w=.ok (tZ k e.1) w:=by rw [hm];exact Pu hk (h1 e (ZP ..)) 9998
      simp only [Instr.findAsking,cK,he,rP,jm]
      cases hb:tZ k e.1 with
      | true=>simp
      | false=>
       simp only [Y2,if_false];rw [ih ents (n+1) (fun e he=>h1 e (ZX _ he)) (by simpa using hl) (fun i p q=>h2 (i+1) (by simp;omega) (by simp;omega))]
       cases jm k es with
       | none=>simp
       | some i=>simp;congr 1;funext x;rw [ZC,ZV 1]
   have:=key es ents 0 hes hl hkeys;simpa using this
  ·have hsc:∀ x,fh P T x=true→dP P T x=true:=by
    intro x hx;unfold fh at hx;split at hx
    ·rename_i fs ds h;rw [hT] at h;simp only [ai] at h;exact absurd ⟨fs,h⟩ hs
    ·exact hx
   have key:∀ (es:List (DV × AV)) (ents:List MapEntry) (n:Nat),(∀ e∈es,fh P T e.1=true)→ents.length=es.length→(∀ i (h:i<es.length) (h':i<ents.length),ents[i].key=es[i].1.fJ) →
    Instr.findNow t k.fJ ents n=some ((jm k es).bind fun i=>ents[i]?.map fun e=>(n+i,e.val)):=by
    intro es
    induction es with
    | nil=>intro ents n _ hl _;have:ents=[]:=abt (by simpa using hl)
           subst this;simp [Instr.findNow,jm]
    | cons e es ih=>
     intro ents n h1 hl h2
     cases ents with
     | nil=>simp at hl
     | cons m ents=>
      have hm:=h2 0 (by simp) (by simp);simp only [Zx] at hm;have e1:=hsc _ hk;have e2:=hsc _ (h1 e (ZP ..))
      have hb2:tZ k e.1=lO k e.1:=by
       cases k with
       | agg ds=>unfold dP at e1;split at e1 <;> simp_all
       | _=>rfl
      have he:Instr.sameNow t k.fJ m.key=some (tZ k e.1):=by rw [hm,oU e1,oU e2,LD hT e1 e2,hb2]
      simp only [Instr.findNow,he,jm]
      cases hb:tZ k e.1 with
      | true=>simp
      | false=>
       simp only [Y2,if_false];rw [ih ents (n+1) (fun e he=>h1 e (ZX _ he)) (by simpa using hl) (fun i p q=>h2 (i+1) (by simp;omega) (by simp;omega))]
       cases jm k es with
       | none=>simp
       | some i=>simp;congr 1;funext x;rw [ZC,ZV 1]
   have:=key es ents 0 hes hl hkeys;simp only [Instr.findKey,cK,run_underlying hT,rP,this];simp
theorem LM(h1:fh P T d=true) (n:Nat):Instr.sameBits (n+1) d.fJ d.fJ=true:=by
 unfold fh at h1;split at h1
 ·rename_i fs ds hT
  simp only [cy,beq_iff_eq,Zd] at h1;obtain⟨⟨q1,q2⟩,q3⟩:=h1;simp only [DV.fJ,Instr.sameBits,beq_self_eq_true,Bool.true_and,YU];intro p hp
  have:p.1=p.2∧∃ x∈ds,p.1=x.eW:=by
   have hz:∀ (l:List Value) (p:Value × Value),p∈l.zip l→p.1=p.2∧p.1∈l:=by
    intro l
    induction l with
    | nil=>intro p hp;simp at hp
    | cons a l ih=>
     intro p hp;simp only [List.zip_cons_cons,YT] at hp;rcases hp with rfl|hp
     ·exact⟨rfl,ZP ..⟩
     ·exact⟨(ih p hp).1,ZX _ (ih p hp).2⟩
   have:=hz _ p hp;refine⟨this.1,?_⟩;have h2:=this.2;simp only [Zo] at h2;obtain⟨x,hx,h3⟩:=h2;exact⟨x,hx,h3.symm⟩
  obtain⟨h2,x,hx,h3⟩:=this;obtain⟨i,hi,rfl⟩:=List.mem_iff_getElem.1 hx;have hm:i∈fs.toList.map (·.offset):=by rw [q3];exact List.mem_range.2 hi
  obtain⟨f,hf,rfl⟩:=List.mem_map.1 hm;obtain⟨_,_,d,hd,hs⟩:=jg q2 f hf;have hd':ds[f.offset]=d:=by rw [cn hi] at hd;simpa using hd
  rw [← h2,h3,hd'];exact AR hs n
 ·rw [oU h1];exact AR h1 (n+1)
theorem CC(h1:fh P T d=true):(Instr.keyThatStays d.fJ d.fJ).run P w=.ok d.fJ w:=by
 simp [Instr.keyThatStays,LM h1 9999]
end
section
variable {c:Ctx}{F:Nat→Prop}{β:Key→Nat}{s:au}{a:Act}{w:World}
theorem aE.allocMap (h:aE c F β s a w)(hκ:s.lv κ=.hole) :
 aE c F (aD β κ w.heap.size) ⟨s.fr,aD s.lv κ (.map true [])⟩ a (w.alloc (.map #[] 0)):=by
 have hnew:∀ b,F b→b≠w.heap.size:=fun b hb e=>by have:=(h.mh b hb).1;omega
 have hge:=h.ge
 have hlt:∀ k,(∃ own fz T cs,s.lv k=.cells own fz T cs)∨(∃ own es,s.lv k=.map own es)→β k<w.heap.size:=by
  intro k hk;have hb:=h.bx k;unfold Vw.bx at hb;rcases hk with ⟨o,fz,T,cs,e⟩|⟨o,es,e⟩
  ·simp only [e] at hb;obtain⟨_,h1,_⟩:=hb;exact eG h1
  ·simp only [e] at hb;obtain⟨_,_,h1,_⟩:=hb;exact eG h1
 refine h.step (fun _ h=>h) (fun b hb=>by rw [heap_alloc,if_neg (hnew b hb)]) ?_ ?_ (iJ w _) ?_ ?_ (fun b h=>.inl h) (by simp) ?_
 ·intro k
  by_cases e:k=κ
  ·subst e;rw [hκ];simp [LB.sub]
  ·rw [aC _ _ e];exact LB.bl _
 ·intro k hk _;have e:k≠κ:=fun e=>hk (e ▸ hκ)
  exact aC _ _ e
 ·intro k hK
  by_cases e:k=κ
  ·subst e;simp only [Vw.bx,az];refine⟨#[],0,by rw [heap_alloc,if_pos rfl],rfl,fun i x=>by simp at x,fun hf=>hnew _ hf rfl,?_⟩;simp only [eH,if_true];exact hge
  ·have hb:=h.bx k
   cases ek:s.lv k with
   | cells own fz T cs=>
    have:=hlt k (.inl ⟨_,_,_,_,ek⟩);refine Vw.bp hb hK (aC _ _ e) (aC _ _ e) ?_ (fun _ h=>h);show (w.alloc _).heap[β k]?=_;rw [heap_alloc,if_neg (by omega)]
   | map own es=>
    have:=hlt k (.inr ⟨_,_,ek⟩);refine Vw.bp hb hK (aC _ _ e) (aC _ _ e) ?_ (fun _ h=>h);show (w.alloc _).heap[β k]?=_;rw [heap_alloc,if_neg (by omega)]
   | hole=>unfold Vw.bx;simp only [aC _ _ e,ek]
   | dead=>unfold Vw.bx;simp only [aC _ _ e,ek]
   | bk=>unfold Vw.bx;simp only [aC _ _ e,ek]
 ·intro k k' hk hk' he
  have side:∀ j,j≠κ→(aD s.lv κ (.map true []) j).live=true→β j<w.heap.size:=by
   intro j hj hl;rw [aC _ _ hj] at hl;exact h.fO hl
  by_cases e:k=κ <;> by_cases e':k'=κ
  ·rw [e,e']
  ·subst e;have:=side k' e' hk';rw [az,aC _ _ e'] at he;omega
  ·subst e';have:=side k e hk;rw [az,aC _ _ e] at he;omega
  ·rw [aC _ _ e,aC _ _ e'] at he;rw [aC _ _ e] at hk;rw [aC _ _ e'] at hk';exact h.inj _ _ hk hk' he
 ·intro b hb _;rw [heap_alloc,if_neg (by omega)]
theorem D6{r:Option Operand}(hd:∀ d,o.dst=some d→d<c.n) (ho:o.op=.makeMap T r) (hr:r=none) (hκ:s.lv κ=.hole) :
 bP c o s (au.put ⟨s.fr,aD s.lv κ (.map true [])⟩ o.dst (.c (.mapr κ))):=
 bP.eB hd fun F β a w hs=>by
  subst hr;refine⟨.map (some w.heap.size),F,aD β κ w.heap.size,_,by simp [execOp,ho,Instr.makeMap],hs.allocMap hκ,?_,rfl⟩;simp only [Vw.ku,az]
theorem aE.Qa (h:aE c F β s a w){es':List (DV × AV)}(hk:s.lv k=.map own es) {ents ents':Array MapEntry}{cl cl':Nat}
 (hg:w.heap[β k]?=some (.map ents cl)) (hl:ents'.size=es'.length)
 (hc:∀ i (h:i<es'.length) (h':i<ents'.size),Rd (kI w F) ents'[i].key es'[i].1∧(Vw.mk F β s.lv w).kF ents'[i].val es'[i].2) :
 aE c F β ⟨s.fr,aD s.lv k (.map own es')⟩ a { w with heap:=w.heap.setIfInBounds (β k) (.map ents' cl') }:=by
 have hlive:(s.lv k).live=true:=by rw [hk];rfl
 have hoth:∀ b,b≠β k→(w.heap.setIfInBounds (β k) (.map ents' cl'))[b]?=w.heap[b]?:=by
  intro b hb;rw [aa9,if_neg (fun e=>hb e.symm)]
 have hb0:=h.bx k;unfold Vw.bx at hb0;simp only [hk] at hb0;obtain⟨e0,c0,p1,p2,p3,p4,p5⟩:=hb0;refine h.step (fun _ h=>h) (fun b hb=>hoth b (fun e=>h.mI hlive (e ▸ hb))) ?_ (fun _ _ _=>rfl) (fun b=>?_) ?_ ?_ (fun b h=>.inl h) (by simp) ?_
 ·intro k'
  by_cases e:k'=k
  ·subst e;rw [az,hk];simp [LB.sub]
  ·rw [aC _ _ e];exact LB.bl _
 ·by_cases e:b=β k
  ·subst e;simp [cw,hg]
  ·simp only [cw,hoth b e];exact aW _
 ·intro k' hK
  by_cases e:k'=k
  ·subst e;unfold Vw.bx;simp only [az];refine⟨ents',cl',?_,hl,fun i x y=>?_,p4,p5⟩
   ·rw [aa9,if_pos rfl,if_pos (eG hg)]
   ·exact⟨Rd.mono (gm hK.F hK.mem) (hc i x y).1,hK.kF (hc i x y).2⟩
  ·have hb:=h.bx k'
   by_cases hl:(s.lv k').live=true
   ·exact Vw.bp hb hK (aC _ _ e) rfl (hoth _ (fun e'=>e (h.inj _ _ hl hlive e'))) (fun _ h=>h)
   ·cases ek:s.lv k' with
    | cells o fz T' cs'=>
     cases fz with
     | false=>rw [ek] at hl;exact absurd rfl hl
     | true=>
      have hF:F (β k'):=by unfold Vw.bx at hb;simp only [ek] at hb;obtain⟨_,_,_,_,h4,_⟩:=hb;exact h4
      exact Vw.bp hb hK (aC _ _ e) rfl (hoth _ (fun e'=>h.mI hlive (e' ▸ hF))) (fun _ h=>h)
    | map o es=>rw [ek] at hl;exact absurd rfl hl
    | hole=>unfold Vw.bx;simp only [aC _ _ e,ek]
    | dead=>unfold Vw.bx;simp only [aC _ _ e,ek]
    | bk=>unfold Vw.bx;simp only [aC _ _ e,ek]
 ·intro k1 k2 a1 a2 he
  have g:∀ k',(aD s.lv k (.map own es') k').live=true→(s.lv k').live=true:=by
   intro k' hk'
   by_cases e:k'=k
   ·subst e;exact hlive
   ·rwa [aC _ _ e] at hk'
  exact h.inj _ _ (g _ a1) (g _ a2) he
 ·intro b hb hnW;refine hoth b (fun e=>?_);rcases h.eM hlive with h1|h1
  ·omega
  ·exact hnW (e ▸ h1)
def BD (P:Program)(T:TypeId):Option (TypeId × TypeId):=
 match P.underlying T with
 | some (.map k e)=>some (k,e)
 | _=>none
theorem uU{k:TypeId}(h:BD P T=some (k,e)):P.underlying T=some (.map k e):=by
 unfold BD at h;split at h
 ·rename_i h';simp only [ai,fy] at h;obtain⟨rfl,rfl⟩:=h;exact h'
 ·cases h
theorem zw{v:AV}(hd:∀ d,o.dst=some d→d<c.n) (ho:o.op=.mapUpdate T m kx y∨o.op=.insert T m kx y)
 (hm:s.val c.G m=.c (.mapr k)) (hk:s.lv k=.map own es) (hT:BD c.P T=some (kT,eT)) (hkx:kW (s.val c.G kx)=some d) (hkT:fh c.P kT d=true) (hes:∀ e∈es,fh c.P kT e.1=true) (hy:s.val c.G y=v) (hv:∀ l,v≠.tup l) :
 bP c o s (au.put ⟨s.fr,aD s.lv k (.map own (vO d v es))⟩ o.dst .undef):=
 bP.GF hd fun F β a w hs=>by
  have hmv:=hm ▸ hs.val m;obtain⟨hmv,_⟩:=hmv;simp only [Vw.ku,hk] at hmv;have hkv:=wM hkT (Vw.deep (hs.val kx) hkx)
  have hyv:(Vw.mk F β s.lv w).kF (a.eval y) v:=by
   have h1:=hy ▸ hs.val y
   cases v with
   | tup l=>exact absurd rfl (hv l)
   | _=>exact h1
  have hb:=hs.bx k;unfold Vw.bx at hb;simp only [hk] at hb;obtain⟨ents,cl,b1,b2,b3,b4,b5⟩:=hb;have hu:=uU hT;have hf:=Av (P:=c.P) (w:=w) (M:=kI w F) hkT hes (ents:=ents.toList) (by simpa using b2) (fun i p q=>by have:=(b3 i p (by simpa using q)).1;simp only [Zw];exact this);have hck:=Ar (P:=c.P) (w:=w) hkT false 9998;have hob:(getObj (β k)).run c.P w=.ok (.map ents cl) w:=by simp [getObj,Sem.run,b1]
  have hset:∀ e' c',(setObj (β k) (.map e' c')).run c.P w=.ok () { w with heap:=w.heap.setIfInBounds (β k) (.map e' c') }:=by intro e' c';simp [setObj,Sem.run,b1]
  have hrun:∃ e' c',(Instr.mapUpdate T (.map (some (β k))) d.fJ (a.eval y)).run c.P w=.ok () { w with heap:=w.heap.setIfInBounds (β k) (.map e' c') }∧e'.size=(vO d v es).length ∧
   ∀ i (h:i<(vO d v es).length) (h':i<e'.size),Rd (kI w F) e'[i].key (vO d v es)[i].1∧(Vw.mk F β s.lv w).kF e'[i].val (vO d v es)[i].2:=by
   have hkr:Rd (kI w F) d.fJ d:=hkv ▸ Vw.deep (hs.val kx) hkx
   cases hfk:jm d es with
   | none=>
    rw [hfk] at hf;refine⟨ents.push { key:=d.fJ,val:=a.eval y,born:=cl },cl+1,?_,?_,?_⟩
    ·simp only [Instr.mapUpdate,cK,run_underlying hu,rP,hob,hck,hf,Option.bind_none];simp [hset]
    ·simp [vO,hfk,b2]
    ·intro i p q;simp only [vO,hfk] at p ⊢
     by_cases hi:i<es.length
     ·rw [ZB hi,Array.getElem_push_lt (by omega)];exact b3 i hi (by omega)
     ·have hi2:i=es.length:=by simp at p;omega
      subst hi2;rw [ZI (by omega)];simp only [ZJ,Zx]
      have:(ents.push { key:=d.fJ,val:=a.eval y,born:=cl })[es.length]={ key:=d.fJ,val:=a.eval y,born:=cl }:=by
       have:=Array.getElem_push_eq (xs:=ents) (x:={ key:=d.fJ,val:=a.eval y,born:=cl });simp only [b2] at this;exact this
      rw [this];exact⟨hkr,hyv⟩
   | some i=>
    obtain⟨e,he1,he2⟩:=uG hfk;obtain⟨hi,hie⟩:=List.getElem?_eq_some_iff.1 he1;have hi':i<ents.size:=by omega
    have hkk:ents[i].key=d.fJ:=by
     have:=wM (hes _ (cq hi)) (b3 i hi hi').1;rw [this,hie,he2]
    rw [hfk] at hf;refine⟨ents.modify i fun e=>{ e with key:=d.fJ,val:=a.eval y },cl,?_,?_,?_⟩
    ·have h1:ents.toList[i]?=some ents[i]:=by simp [hi']
     simp only [Instr.mapUpdate,cK,run_underlying hu,rP,hob,hck,hf,Option.bind_some,h1,Zb];have h2:((ents[i]?.map (·.key)).getD d.fJ)=d.fJ:=by simp [hi',hkk]
     rw [h2,CC hkT];simp [hset]
    ·simp [vO,hfk,b2]
    ·intro j p q;simp only [vO,hfk] at p ⊢;simp only [Array.getElem_modify,List.getElem_set]
     by_cases e:i=j
     ·subst e;simp only [if_true];exact⟨hkr,hyv⟩
     ·simp only [if_neg e];exact b3 j (by simpa using p) (by simpa using q)
  obtain⟨e',c',r1,r2,r3⟩:=hrun;refine⟨F,β,_,?_,hs.Qa (cl':=c') hk b1 r2 r3⟩;rcases ho with ho|ho <;> simp [execOp,ho,hmv,hkv,r1]
def yA (P:Program)(T:TypeId):Option AV:=((P.info? T).bind (·.zero)).map qV
theorem CM{x:AV}(h:yA P T=some x) (V:Vw) (w:World):∃ v,(zeroValue T).run P w=.ok v w∧V.av v x∧(∀ l,x≠.tup l):=by
 unfold yA at h;rw [Y8] at h;obtain⟨z,hz,rfl⟩:=h;obtain⟨i,hi,hz⟩:=Option.bind_eq_some_iff.1 hz;refine⟨z,by simp [zeroValue,typeInfo,hi,hz],tN V z,?_⟩;intro l;unfold qV;split
 ·split <;> simp
 ·simp
 ·simp
def Dz (P:Program)(eT:TypeId)(d:DV)(es:List (DV × AV)):Option (AV × Bool):=
 match jm d es with
 | some i=>(es[i]?).map fun e=>(e.2,true)
 | none=>(yA P eT).map fun z=>(z,false)
theorem FU{v:AV}(hd:∀ d,o.dst=some d→d<c.n) (ho:o.op=.lookup T m kx ok)
 (hm:(∃ k own,s.val c.G m=.c (.mapr k)∧s.lv k=.map own es)∨(s.val c.G m=.c (.d .nilmap)∧es=[])) (hT:BD c.P T=some (kT,eT)) (hkx:kW (s.val c.G kx)=some d) (hkT:fh c.P kT d=true) (hes:∀ e∈es,fh c.P kT e.1=true)
 (hl:Dz c.P eT d es=some (v,b)) (hv:∀ l,v≠.tup l) :
 bP c o s (s.put o.dst (if ok then .tup [v,.c (.d (.bool b))] else v)):=
 bP.aU hd fun F β a w hs=>by
  have hkv:=wM hkT (Vw.deep (hs.val kx) hkx);have hu:=uU hT
  have hents:∃ ents:List MapEntry,ents.length=es.length∧(∀ i (h:i<es.length) (h':i<ents.length),Rd (kI w F) ents[i].key es[i].1∧(Vw.mk F β s.lv w).kF ents[i].val es[i].2) ∧
   (Instr.lookup T (a.eval m) d.fJ ok).run c.P w=(do
    Instr.checkKey ents.toArray.isEmpty 10000 kT d.fJ
    let (v,b) ← match ← Instr.findKey kT d.fJ ents with
     | some (_,v)=>pure (v,true)
     | none=>pure (← zeroValue eT,false)
    pure (if ok then .tuple #[v,.bool b] else v):Sem Value).run c.P w:=by
   rcases hm with ⟨k,own,hm,hk⟩|⟨hm,rfl⟩
   ·have hmv:=hm ▸ hs.val m;obtain⟨hmv,_⟩:=hmv;simp only [Vw.ku,hk] at hmv;have hb:=hs.bx k;unfold Vw.bx at hb;simp only [hk] at hb;obtain⟨ents,cl,b1,b2,b3,b4,b5⟩:=hb;have hob:(getObj (β k)).run c.P w=.ok (.map ents cl) w:=by simp [getObj,Sem.run,b1]
    refine⟨ents.toList,by simpa using b2,fun i p q=>by have:=b3 i p (by simpa using q);simp only [Zw];exact this,?_⟩;simp only [Instr.lookup,hmv,cK,run_underlying hu,rP,hob,Zi,Array.toArray_toList];rfl
   ·have hmv:=hm ▸ hs.val m;obtain⟨hmv,_⟩:=hmv;obtain⟨u,hu'⟩:∃ u,a.eval m=u:=⟨_,rfl⟩
    rw [hu'] at hmv
    cases hmv
    refine⟨[],rfl,fun i p=>by simp at p,?_⟩;rw [hu'];simp only [Instr.lookup,cK,run_underlying hu,rP,Zi];rfl
  obtain⟨ents,e1,e2,e3⟩:=hents;have hf:=Av (P:=c.P) (w:=w) (M:=kI w F) hkT hes e1 (fun i p q=>(e2 i p q).1);have hck:=fun em=>Ar (P:=c.P) (w:=w) hkT em 9998
  have hres:∃ u,(Instr.lookup T (a.eval m) d.fJ ok).run c.P w=.ok (if ok then .tuple #[u,.bool b] else u) w∧(Vw.mk F β s.lv w).kF u v:=by
   rw [e3];unfold Dz at hl;split at hl
   ·rename_i i hfk
    obtain⟨e,he1,he2⟩:=uG hfk;obtain⟨hi,hie⟩:=List.getElem?_eq_some_iff.1 he1;rw [he1] at hl;simp only [Zb,ai,fy] at hl;obtain⟨rfl,rfl⟩:=hl;rw [hfk] at hf;have h1:ents[i]?=some (ents[i]'(by omega)):=cn (by omega);refine⟨(ents[i]'(by omega)).val,?_,?_⟩
    ·simp only [cK,hck,rP,hf,Option.bind_some,h1,Zb,Zi]
    ·have:=(e2 i hi (by omega)).2;rw [hie] at this;exact this
   ·rename_i hfk
    rw [Y8] at hl;obtain⟨z,hz,hl⟩:=hl;simp only [fy] at hl;obtain⟨rfl,rfl⟩:=hl;obtain⟨u,hu1,OV,_⟩:=CM hz (Vw.mk F β s.lv w) w;rw [hfk] at hf;refine⟨u,?_,?_⟩
    ·simp only [cK,hck,rP,hf,Option.bind_none,hu1,Zi]
    ·cases z with
     | tup l=>exact absurd rfl (hv l)
     | _=>exact OV
  obtain⟨u,r1,r2⟩:=hres;refine⟨if ok then .tuple #[u,.bool b] else u,by simp [execOp,ho,hkv,r1],?_⟩
  cases ok with
  | false=>
   simp only [Y2,if_false]
   cases v with
   | tup l=>exact absurd rfl (hv l)
   | _=>exact r2
  | true=>
   simp only [if_true];refine⟨#[u,.bool b],rfl,rfl,fun i p q=>?_⟩;have:i=0∨i=1:=by simp at p;omega
   rcases this with rfl|rfl
   ·exact r2
   ·exact⟨.bool b,rfl⟩
end
section
variable {c:Ctx}{F:Nat→Prop}{β:Key→Nat}{s:au}{a:Act}{w:World}
theorem iq(h:qX P T=some (n,e,sz)) {b o:Nat}{lo hi:Option Value}{l hh:Int}
 (hlo:lo=none∧l=0∨∃ k,lo=some (.int k l)) (hhi:hi=none∧hh=n∨∃ k,hi=some (.int k hh)) (h0:0≤l) (h1:l≤hh) (h2:hh≤n) (w:World) :
 (Instr.sliceAt T (.pointer (some ⟨b,o,none⟩)) lo hi none).run P w=.ok (.slice (some (if n=l.toNat then ⟨b,o,none⟩ else ⟨b,o+l.toNat*sz,none⟩)) (hh.toNat - l.toNat) (n - l.toNat)) w:=by
 obtain⟨hu,hie,hsz⟩:=yU h;have hr:=gU (P:=P) (isSlice:=false) (len:=n) (cap:=n) hlo hhi h0 h1 h2 w;simp only [Instr.sliceAt,cK,run_underlying hu,rP,Instr.sureAddr,Zi,hr,run_sizeOf hie,hsz];congr 3;split
 ·rfl
 ·rw [Z5]
theorem B2{l:Int}(hd:∀ d,o.dst=some d→d<c.n) (ho:o.op=.slice T x lo hi none)
 (hx:s.val c.G x=.c (.ptr κ off)) (hk:s.lv κ=.cells own fz T' cs) (hT:qX c.P T=some (n,e,sz)) (hcs:off+n*sz≤cs.length) (hlo:dc (lo.map (s.val c.G)) 0=some l) (hhi:dc (hi.map (s.val c.G)) n=some h)
 (h0:0≤l) (h1:l≤h) (h2:h≤n) (h3:l<h∨l=0):bP c o s (s.put o.dst (.c (.aI κ (off+l.toNat*sz) (h.toNat - l.toNat) sz))):=
 bP.aU hd fun F β a w hs=>by
  have hv:=hx ▸ hs.val x;obtain⟨hv,_⟩:=hv;simp only [Vw.de,hk] at hv;have hr:=iq hT (b:=β κ) (o:=off) (gJ (fun x=>hs.val x) hlo) (gJ (fun x=>hs.val x) hhi) h0 h1 h2 w;refine⟨_,by simp only [execOp,ho,aaS,hv];simp [hr];rfl,?_,rfl⟩;simp only [Vw.cB,hk];have hb:=hs.bx κ;unfold Vw.bx at hb;simp only [hk] at hb;obtain⟨arr,b1,b2,_⟩:=hb;have has:cw w (β κ)=arr.size:=by simp [cw,b1]
  have e1:(if n=l.toNat then (⟨β κ,off,none⟩:Addr) else ⟨β κ,off+l.toNat*sz,none⟩)=⟨β κ,off+l.toNat*sz,none⟩:=by
   split
   ·have:l.toNat=0:=by omega
    rw [this];simp
   ·rfl
  refine⟨n - l.toNat,by rw [e1],by omega,?_⟩;show off+l.toNat*sz+(n - l.toNat)*sz≤cw w (β κ);rw [has];have:l.toNat*sz+(n - l.toNat)*sz=n*sz:=by rw [← Y3];congr 1;omega
  omega
theorem BM{cs:List DV}{l:Int}(hd:∀ d,o.dst=some d→d<c.n) (ho:o.op=.slice T x lo hi none)
 (hx:s.val c.G x=.c (.d (.ptr cs))) (hT:qX c.P T=some (n,e,sz)) (hcs:n*sz≤cs.length) (hlo:dc (lo.map (s.val c.G)) 0=some l) (hhi:dc (hi.map (s.val c.G)) n=some h)
 (h0:0≤l) (h1:l≤h) (h2:h≤n) (h63:n≤9223372036854775807):bP c o s (s.put o.dst (.c (.d (.sl (((chunk sz n cs).take h.toNat).drop l.toNat))))):=
 bP.aU hd fun F β a w hs=>by
  have hv:=hx ▸ hs.val x;obtain⟨hv,_⟩:=hv;obtain⟨u,hu⟩:∃ u,a.eval x=u:=⟨_,rfl⟩
  rw [hu] at hv
  cases hv with
  | ptr b off vs _ hm ho' hr'=>
   have hr:=iq hT (b:=b) (o:=off) (gJ (fun x=>hs.val x) hlo) (gJ (fun x=>hs.val x) hhi) h0 h1 h2 w;refine⟨_,by simp only [execOp,ho,aaS,hu];simp [hr];rfl,?_,rfl⟩;have hcl:(chunk sz n cs).length=n:=by simp [chunk]
   have hsz:∀ i,i<n→i*sz+sz≤n*sz:=by
    intro i hi;have:(i+1)*sz≤n*sz:=Zg _ hi
    rwa [Y3,ZK] at this
   have key:=Rd.sl (M:=kI w F) b off n sz (chunk sz n cs) (fun i j=>vs (i*sz+j)) (by
    intro e he;obtain⟨i,hi,rfl⟩:=List.mem_iff_getElem.1 he;rw [hcl] at hi;have:=hsz i hi;simp [chunk];omega) (by rw [hcl];exact aW _) (by rw [hcl];exact h63)
    (by intro i hi j hj;rw [hcl] at hi;have:=hsz i hi;have:=hm (i*sz+j) (by omega);rw [← ZC] at this;exact this)
    (by intro i hi j hj;rw [hcl] at hi;have:=hsz i hi;exact ho' _ (by omega))
    (by
     intro i hi j hj;rw [hcl] at hi;have h5:=hsz i hi;have hj':j<sz:=by simp [chunk] at hj;omega
     have h6:=hr' (i*sz+j) (by omega);simp only [chunk,sr,abJ,aaI,ZZ];exact h6)
   rw [hcl] at key
   have hall:∀ e∈chunk sz n cs,e.length=sz:=by
    intro e he;obtain⟨i,hi,rfl⟩:=List.mem_iff_getElem.1 he;rw [hcl] at hi;have:=hsz i hi;simp [chunk];omega
   have e1:(if n=l.toNat then (⟨b,off,none⟩:Addr) else ⟨b,off+l.toNat*sz,none⟩)=⟨b,if n=l.toNat then off else off+l.toNat*sz,none⟩:=by split <;> rfl
   rw [e1];refine Rd.A7 (l:=l.toNat) (h':=h.toNat) key hall (by omega) (by rw [hcl];omega) b _ ?_ (n - l.toNat) (by omega);intro hlt;rw [if_neg (by omega)];exact⟨rfl,rfl⟩
def Lj (P:Program)(T:TypeId):Bool:=
 match P.underlying T with
 | some (.interface _)=>false
 | some _=>true
 | none=>false
def JU:AV→Option (Option (TypeId × AV))
 | .c (.d (.iface t d))=>some (some (t,CP d))
 | .c (.ifc t r)=>some (some (t,match r with
  | .d x=>CP x
  | .ptr k o=>.c (.ptr k o)
  | .aI k o l z=>.c (.aI k o l z)
  | .agg cs=>.agg (cs.map fun x=>match x with|.d x=>.d x|.ptr k o=>.ptr k o|.aI k o l z=>.aI k o l z)
  | .ifc t x=>.c (.ifc t x)))
 | .c (.d .nilIface)=>some none
 | _=>none
theorem I5{x:AV}{t:TypeId}{y:AV}(h:V.av v x) (hi:JU x=some (some (t,y))):∃ u,v=.iface t u∧V.av u y∧∀ l,y≠.tup l:=by
 unfold JU at hi;split at hi
 ·rename_i t' d
  simp only [ai,fy] at hi;obtain⟨rfl,rfl⟩:=hi;obtain⟨h,_⟩:=h
  cases h with
  | iface _ u _ hu=>exact⟨u,rfl,Vw.CP hu,yc d⟩
 ·rename_i t' r
  simp only [ai,fy] at hi;obtain⟨rfl,rfl⟩:=hi;obtain⟨u,rfl,hu⟩:=h;refine⟨u,rfl,?_,?_⟩
  ·cases r with
   | d x=>exact Vw.CP hu
   | ptr k o=>exact hu
   | aI k o l z=>exact hu
   | agg cs=>
    obtain⟨arr,rfl,h1,h2⟩:=hu;refine⟨arr,rfl,by simpa using h1,fun i p q=>?_⟩;simp only [sr];have:=h2 i (by simpa using p) q;split <;> rename_i e <;> rw [e] at this <;> exact this
   | ifc t x=>exact hu
  ·intro l
   cases r with
   | d x=>exact yc x l
   | _=>simp
 ·cases hi
 ·cases hi
theorem Ja{x:AV}(h:V.av v x) (hi:JU x=some none):v=.nilIface:=by
 unfold JU at hi;split at hi
 ·cases hi
 ·cases hi
 ·obtain⟨h,_⟩:=h;cases h;rfl
 ·cases hi
def BQ (P:Program)(T:TypeId)(ok:Bool)(x:AV):Option AV:=
 match JU x with
 | some (some (t,y))=>if t=T then some (if ok then .tup [y,.c (.d (.bool true))] else y)
  else (if ok then (yA P T).map fun z=>.tup [z,.c (.d (.bool false))] else none)
 | some none=>if ok then (yA P T).map fun z=>.tup [z,.c (.d (.bool false))] else none
 | none=>none
theorem Gw{u:Value}{y:AV}(h:V.av u y) (hy:∀ l,y≠.tup l):V.av (.tuple #[u,.bool b]) (.tup [y,.c (.d (.bool b))]):=by
 refine⟨#[u,.bool b],rfl,rfl,fun i p q=>?_⟩;have:i=0∨i=1:=by simp at p;omega
 rcases this with rfl|rfl
 ·cases y with
  | tup l=>exact absurd rfl (hy l)
  | _=>exact h
 ·exact⟨.bool b,rfl⟩
theorem FQ{xT:TypeId}{v:AV}(hd:∀ d,o.dst=some d→d<c.n) (ho:o.op=.typeAssert x xT T ok) (hT:Lj c.P T=true)
 (hv:BQ c.P T ok (s.val c.G x)=some v):bP c o s (s.put o.dst v):=
 bP.aU hd fun F β a w hs=>by
  have hx:=hs.val x
  obtain⟨ud,hu,hni⟩:∃ u,c.P.underlying T=some u∧∀ ms,u≠.interface ms:=by
   unfold Lj at hT;split at hT
   ·cases hT
   ·rename_i u h1 h2;exact⟨u,h2,fun ms e=>h1 ms e⟩
   ·cases hT
  have hgen:∀ (z:AV),yA c.P T=some z→ok=true→∀ u,(∀ t w',u=.iface t w'→t≠T)→(u=.nilIface∨∃ t w',u=.iface t w')→∃ q,(Instr.typeAssert u xT T ok).run c.P w=.ok q w∧(Vw.mk F β s.lv w).av q (.tup [z,.c (.d (.bool false))]):=by
   intro z hz hok u hne hu';obtain⟨q,q1,q2,q3⟩:=CM hz (Vw.mk F β s.lv w) w;refine⟨.tuple #[q,.bool false],?_,Gw q2 q3⟩;subst hok;rcases hu' with rfl|⟨t,w',rfl⟩
   ·cases ud <;> first|exact absurd rfl (hni _)|simp [Instr.typeAssert,run_underlying hu,q1]
   ·have:=hne t w' rfl
    cases ud <;> first|exact absurd rfl (hni _)|simp [Instr.typeAssert,run_underlying hu,q1,this]
  unfold BQ at hv;split at hv
  ·rename_i t y hi
   obtain⟨u,hu1,OV,hu3⟩:=I5 hx hi;split at hv
   ·rename_i e
    subst e;simp only [ai] at hv;subst hv
    cases ok with
    | false=>
     refine⟨u,?_,OV⟩;simp only [execOp,ho,hu1]
     cases ud <;> first|exact absurd rfl (hni _)|simp [Instr.typeAssert,run_underlying hu]
    | true=>
     refine⟨.tuple #[u,.bool true],?_,Gw OV hu3⟩;simp only [execOp,ho,hu1]
     cases ud <;> first|exact absurd rfl (hni _)|simp [Instr.typeAssert,run_underlying hu]
   ·rename_i hne
    cases ok with
    | false=>cases hv
    | true=>
     simp only [if_true,Y8] at hv;obtain⟨z,hz,rfl⟩:=hv;obtain⟨q,q1,q2⟩:=hgen z hz rfl (.iface t u) (fun t' w' e=>by cases e;exact hne) (.inr ⟨_,_,rfl⟩);exact⟨q,by simp [execOp,ho,hu1,q1],q2⟩
  ·rename_i hi
   have hn:=Ja hx hi
   cases ok with
   | false=>cases hv
   | true=>
    simp only [if_true,Y8] at hv;obtain⟨z,hz,rfl⟩:=hv;obtain⟨q,q1,q2⟩:=hgen z hz rfl .nilIface (fun t' w' e=>by cases e) (.inl rfl);exact⟨q,by simp [execOp,ho,hn,q1],q2⟩
  ·cases hv
theorem Eb(hd:∀ d,o.dst=some d→d<c.n) (ho:o.op=.call { callee:=.builtin .len,args:=#[x],argTypes:=#[T] })
 (hx:s.val c.G x=.c (.mapr k)) (hk:s.lv k=.map own es) (hT:(BD c.P T).isSome=true) (h63:es.length≤9223372036854775807):bP c o s (s.put o.dst (.c (.d (.int .i64 es.length)))):=
 bP.aU hd fun F β a w hs=>by
  have hmv:=hx ▸ hs.val x;obtain⟨hmv,_⟩:=hmv;simp only [Vw.ku,hk] at hmv;have hb:=hs.bx k;unfold Vw.bx at hb;simp only [hk] at hb;obtain⟨ents,cl,b1,b2,b3,b4,b5⟩:=hb;obtain⟨⟨kT,eT⟩,hT⟩:=Option.isSome_iff_exists.1 hT;have hu:=uU hT;have hob:(getObj (β k)).run c.P w=.ok (.map ents cl) w:=by simp [getObj,Sem.run,b1]
  refine⟨.int .i64 (es.length:Int),?_,Vw.jB _ _ _ (c9 ⟨?_,?_⟩)⟩
  ·have hl:(Builtin.len_ #[T] o.type #[a.eval x]).run c.P w=.ok (.int .i64 (es.length:Int)) w:=by
    rw [hmv,← b2];simp [Builtin.len_,run_underlying hu,hob,goInt]
   simp [execOp,ho,resolve,invoke,builtin,hl]
  ·simp only [CF];omega
  ·simp only [qd];omega
theorem zA{r:Ref}(hd:∀ d,o.dst=some d→d<c.n) (ho:o.op=.makeInterface T x)
 (hx:xI (s.val c.G x)=some r) (hT:c.P.concrete T=true):bP c o s (s.put o.dst (.c (.ifc T r))):=
 bP.aU hd fun F β a w hs=>by
  have hr:=Vw.xI (hs.val x) hx;refine⟨.iface T (a.eval x),?_,?_⟩
  ·simp only [execOp,ho,cK,run_makeInterface w T _ hT,rP];rfl
  ·exact⟨a.eval x,rfl,hr⟩
end
abbrev kR:=AV × List (Key × LB) × List Key
variable {r:kR}
def JI (P:Program)(op:BinOp)(T:TypeId)(lv:Key→LB)(x y:AV):Option kR:=
 match s5 lv x with
 | some b=>if G0 x y && xJ P T x then (match op with|.eql=>some (.c (.d (.bool b)),[],QL x)|.neq=>some (.c (.d (.bool !b)),[],QL x)|_=>none) else none
 | none=>none
def E8:AV→Bool
 | .tup _=>false
 | _=>true
def mH (P:Program)(T:TypeId)(lv:Key→LB)(m kx y:AV):Option kR:=
 match m with
 | .c (.mapr k)=>match lv k with
  | .map own es=>match BD P T,kW kx with
   | some (kT,_),some d=>if fh P kT d && es.all (fun e=>fh P kT e.1) && E8 y then some (.undef,[(k,.map own (vO d y es))],[]) else none
   | _,_=>none
  | _=>none
 | _=>none
def F8 (lv:Key→LB):AV→Option (List (DV × AV) × List Key)
 | .c (.mapr k)=>match lv k with|.map _ es=>some (es,[k])|_=>none
 | .c (.d .nilmap)=>some ([],[])
 | _=>none
theorem HZ {x:AV}(h:E8 x=true):∀ l,x≠.tup l:=by intro l e;rw [e] at h;cases h
def yf (P:Program)(T:TypeId)(ok:Bool)(lv:Key→LB)(m kx:AV):Option kR:=
 match F8 lv m with
 | some (es,ks)=>match BD P T,kW kx with
  | some (kT,eT),some d=>if fh P kT d && es.all (fun e=>fh P kT e.1) then (match Dz P eT d es with
   | some (v,b)=>if E8 v then some (if ok then .tup [v,.c (.d (.bool b))] else v,[],ks) else none
   | none=>none) else none
  | _,_=>none
 | none=>none
def qK (P:Program)(T:TypeId)(lv:Key→LB)(x:AV)(lo hi:Option AV):Option kR:=
 match x with
 | .c (.ptr k off)=>match lv k,qX P T with
  | .cells _ _ _ cs,some (n,_,sz)=>match dc lo 0,dc hi n with
   | some l,some h=>if off+n*sz≤cs.length∧0≤l∧l≤h∧h≤n∧(l<h∨l=0) then some (.c (.aI k (off+l.toNat*sz) (h.toNat - l.toNat) sz),[],[k]) else none
   | _,_=>none
  | _,_=>none
 | .c (.d (.ptr cs))=>match qX P T with
  | some (n,_,sz)=>match dc lo 0,dc hi n with
   | some l,some h=>if n*sz≤cs.length∧0≤l∧l≤h∧h≤n∧n≤9223372036854775807 then some (.c (.d (.sl (((chunk sz n cs).take h.toNat).drop l.toNat))),[],[]) else none
   | _,_=>none
  | none=>none
 | .c (.aI k _ len sz)=>match lv k,ff P T with
  | .cells ..,some (_,sz')=>if sz=sz' then (match dc lo 0,dc hi len with
   | some l,some h=>if 0≤l∧l=h∧h≤len then some (.c (.d (.sl [])),[],[k]) else none
   | _,_=>none) else none
  | _,_=>none
 | _=>none
def Pc (P:Program)(S T:TypeId)(x:AV):Option kR:=
 match x with
 | .c (.d (.str l))=>if ct P S then (match ff P T with
  | some (e,1)=>(match P.underlying e with
   | some (.int .u8)=>if l.length≤9223372036854775807 then some (.c (.d (.sl (l.map fun b=>[.int .u8 (b.toNat:Int)]))),[],[]) else none
   | _=>none)
  | _=>none) else none
 | _=>none
def oA (P:Program)(T T':TypeId)(lv:Key→LB)(κ:Key)(y x:AV):Option kR:=
 match x,lv κ with
 | .c (.d (.str l)),.hole=>if ct P T' then (match ff P T with
  | some (e,1)=>match P.info? e with
   | some i=>match i.zero with
    | some z=>if z.cells.size=1 then (match y with
     | .c (.d .nilsl)=>if l.length≤9223372036854775807∧l.length*i.bytes≤140737488355328 then some (.c (.aI κ 0 l.length 1),[(κ,if l.length=0 then .bk else .cells true false e (eE l))],[]) else none
     | .c (.aI k off n sz)=>match lv k with
      | .bk=>if off=0∧n=0∧sz=1∧l.length≤9223372036854775807∧l.length*i.bytes≤140737488355328 then some (.c (.aI κ 0 l.length 1),[(κ,if l.length=0 then .bk else .cells true false e (eE l))],[k]) else none
      | .cells own false e' cs=>if off=0∧sz=1∧e'=e∧cs.length=n∧n+l.length≤9223372036854775807∧(n+l.length)*i.bytes≤140737488355328 then some (.c (.aI κ 0 (n+l.length) 1),[(k,.dead),(κ,.cells own false e (cs++eE l))],[]) else none
      | _=>none
     | _=>none) else none
    | none=>none
   | none=>none
  | _=>none) else none
 | _,_=>none
def Dp (lv:Key→LB)(x:AV):Option kR:=
 match x with
 | .c (.d .nilsl)=>some (.c (.d .nilp),[],[])
 | .c (.aI k off len sz)=>match lv k with
  | .cells ..=>if 0<len then some (.c (.ptr k off),[],[k]) else none
  | .bk=>if off=0∧len=0∧sz=1 then some (.c (.d .nilp),[],[k]) else none
  | _=>none
 | _=>none
def rY (P:Program)(pt:TypeId)(lv:Key→LB)(x y:AV):Option kR:=
 match y with
 | .c (.d (.int .i64 n))=>match x with
  | .c (.d .nilp)=>if n=0 then some (.c (.d (.str [])),[],[]) else none
  | .c (.ptr k 0)=>match lv k,P.underlying pt with
   | .cells _ false e cs,some (.pointer e')=>if e'=e∧P.cellsOf e=1∧0<n∧n≤9223372036854775807 then (match rX (cs.take n.toNat) with
    | some l=>if l.length=n.toNat then some (.c (.d (.str l)),[(k,.dead)],[]) else none
    | none=>none) else none
   | _,_=>none
  | _=>none
 | _=>none
def JQ (P:Program)(T:TypeId)(lv:Key→LB)(x:AV):Option kR:=
 match x with
 | .c (.mapr k)=>match lv k with
  | .map _ es=>if (BD P T).isSome && Nat.ble es.length 9223372036854775807 then some (.c (.d (.int .i64 es.length)),[],[k]) else none
  | _=>none
 | _=>none
def Dg (P:Program)(cl:Call)(vals:List AV)(lv:Key→LB)(κ:Key):Option kR:=
 match cl.callee,cl.args.toList,cl.argTypes.toList,vals with
 | .builtin .append,[_,_],[T,T'],[y,x]=>oA P T T' lv κ y x
 | .builtin .unsafeSliceData,[_],[_],[x]=>Dp lv x
 | .builtin .len,[_],[T],[x]=>JQ P T lv x
 | .builtin .unsafeString,[_,_],[pt,_],[x,y]=>rY P pt lv x y
 | _,_,_,_=>none
def cU (P:Program)(op:Op)(vals:List AV)(lv:Key→LB)(κ:Key):Option kR:=
 match op,vals with
 | .binOp op T _ _ _,[x,y]=>JI P op T lv x y
 | .makeMap _ none,[]=>match lv κ with|.hole=>some (.c (.mapr κ),[(κ,.map true [])],[])|_=>none
 | .mapUpdate T _ _ _,[m,k,y]=>mH P T lv m k y
 | .insert T _ _ _,[m,k,y]=>mH P T lv m k y
 | .lookup T _ _ ok,[m,k]=>yf P T ok lv m k
 | .typeAssert _ _ T ok,[x]=>if Lj P T then (match BQ P T ok x with|some v=>some (v,[],[])|none=>none) else none
 | .makeInterface T _,[x]=>if P.concrete T then (match xI x with|some r=>some (.c (.ifc T r),[],[])|none=>none) else none
 | .slice T _ lo hi none,x::rest=>match wv lo hi rest with|some (l,h)=>qK P T lv x l h|none=>none
 | .convert S T _,[x]=>Pc P S T x
 | .call cl,vals=>Dg P cl vals lv κ
 | _,_=>none
section
variable {c:Ctx}{s:au}{o:Oper}
theorem zh(hd:∀ d,o.dst=some d→d<c.n) (ho:o.op=.mapUpdate T m kx y∨o.op=.insert T m kx y) (h:mH c.P T s.lv (s.val c.G m) (s.val c.G kx) (s.val c.G y)=some r) :
 bP c o s (au.put ⟨s.fr,aR s.lv r.2.1⟩ o.dst r.1):=by
 unfold mH at h;split at h
 ·rename_i k hm
  split at h
  ·rename_i own es hk
   split at h
   ·rename_i kT eT d hT hdp
    split at h
    ·rename_i hc
     simp only [cy,YU] at hc;simp only [ai] at h;subst h;refine zw hd ho hm hk hT hdp hc.1.1 hc.1.2 rfl (fun l e=>?_);have:=hc.2;rw [e] at this;cases this
    ·cases h
   ·cases h
  ·cases h
 ·cases h
theorem As(hd:∀ d,o.dst=some d→d<c.n) (ho:o.op=op) (hv:op.operands.toList.map (s.val c.G)=vals)
 (h:cU c.P op vals s.lv κ=some r):bP c o s (au.put ⟨s.fr,aR s.lv r.2.1⟩ o.dst r.1):=by
 unfold cU at h;split at h
 ·
  rename_i bop T x y T' a b
  simp only [Op.operands,Y0,Zy,Zh,and_true] at hv;obtain⟨rfl,rfl⟩:=hv;unfold JI at h;split at h
  ·rename_i bb hn
   split at h
   ·rename_i hc
    simp only [cy] at hc;split at h
    ·simp only [ai] at h;subst h;exact Ag hd ho (.inl rfl) hn hc.1 hc.2
    ·simp only [ai] at h;subst h;exact Ag hd ho (.inr rfl) hn hc.1 hc.2
    ·cases h
   ·cases h
  ·cases h
 ·rename_i T
  split at h
  ·rename_i hκ
   simp only [ai] at h;subst h;exact D6 hd ho rfl hκ
  ·cases h
 ·rename_i T m kx y a b cc
  simp only [Op.operands,Y0,Zy,Zh,and_true] at hv;obtain⟨rfl,rfl,rfl⟩:=hv;exact zh hd (.inl ho) h
 ·rename_i T m kx y a b cc
  simp only [Op.operands,Y0,Zy,Zh,and_true] at hv;obtain⟨rfl,rfl,rfl⟩:=hv;exact zh hd (.inr ho) h
 ·rename_i T m kx ok a b
  simp only [Op.operands,Y0,Zy,Zh,and_true] at hv;obtain⟨rfl,rfl⟩:=hv;unfold yf at h;split at h
  ·rename_i es ks hm
   split at h
   ·rename_i kT eT d hT hdp
    split at h
    ·rename_i hc
     simp only [cy,YU] at hc;split at h
     ·rename_i v bb hl
      split at h
      ·rename_i hv
       simp only [ai] at h;subst h;refine FU hd ho ?_ hT hdp hc.1 hc.2 hl (HZ hv);unfold F8 at hm;split at hm
       ·rename_i k hmk
        split at hm
        ·rename_i own es' hk
         simp only [ai,fy] at hm;obtain⟨rfl,rfl⟩:=hm;exact .inl ⟨k,own,hmk,hk⟩
        ·cases hm
       ·rename_i hmk
        simp only [ai,fy] at hm;obtain⟨rfl,rfl⟩:=hm;exact .inr ⟨hmk,rfl⟩
       ·cases hm
      ·cases h
     ·cases h
    ·cases h
   ·cases h
  ·cases h
 ·rename_i x xT T ok a
  simp only [Op.operands,Y0,Zy,Zh,and_true] at hv;subst hv;split at h
  ·rename_i hT
   split at h
   ·rename_i v hvv
    simp only [ai] at h;subst h;exact FQ hd ho hT hvv
   ·cases h
  ·cases h
 ·rename_i T x a
  simp only [Op.operands,Y0,Zy,Zh,and_true] at hv;subst hv;split at h
  ·rename_i hT
   split at h
   ·rename_i v hvv
    simp only [ai] at h;subst h;exact zA hd ho hvv hT
   ·cases h
  ·cases h
 ·rename_i T x lo hi a rest
  have hop:(Op.slice T x lo hi none).operands.toList=x::(lo.toArray++hi.toArray).toList:=by
   simp [Op.operands]
  rw [hop] at hv;simp only [Y0,Zh] at hv;obtain⟨rfl,rfl⟩:=hv;split at h
  ·rename_i l hh hb
   obtain⟨rfl,rfl⟩:=GV hb;unfold qK at h;split at h
   ·rename_i k off hx
    split at h
    ·rename_i own fz T0 cs n e sz hk hT
     split at h
     ·rename_i l h' hl hh
      split at h
      ·rename_i hc
       simp only [ai] at h;subst h;exact B2 hd ho hx hk hT hc.1 hl hh hc.2.1 hc.2.2.1 hc.2.2.2.1 hc.2.2.2.2
      ·cases h
     ·cases h
    ·cases h
   ·rename_i cs hx
    split at h
    ·rename_i n e sz hT
     split at h
     ·rename_i l h' hl hh
      split at h
      ·rename_i hc
       simp only [ai] at h;subst h;exact BM hd ho hx hT hc.1 hl hh hc.2.1 hc.2.2.1 hc.2.2.2.1 hc.2.2.2.2
      ·cases h
     ·cases h
    ·cases h
   ·rename_i k off len sz hx
    split at h
    ·rename_i own fz T0 cs e sz' hk hT
     split at h
     ·rename_i hsz
      subst hsz;split at h
      ·rename_i l h' hl hh
       split at h
       ·rename_i hc
        simp only [ai] at h;subst h;exact BE hd ho hx hk hT hl hh hc.1 hc.2.1 hc.2.2
       ·cases h
      ·cases h
     ·cases h
    ·cases h
   ·cases h
  ·cases h
 ·rename_i S T x a
  simp only [Op.operands,Y0,Zy,Zh,and_true] at hv;subst hv;unfold Pc at h;split at h
  ·rename_i l hx
   split at h
   ·rename_i hS
    split at h
    ·rename_i e hT
     split at h
     ·rename_i he
      split at h
      ·rename_i hl
       simp only [ai] at h;subst h;exact xu hd ho hx hS hT he hl
      ·cases h
     ·cases h
    ·cases h
   ·cases h
  ·cases h
 ·rename_i cl vals
  unfold Dg at h;split at h
  ·rename_i y0 x0 T T' y x h1 h2 h3
   have e:=mX h1 h2 h3;subst e;simp only [Op.operands,Call.operands] at hv;simp at hv;obtain⟨rfl,rfl⟩:=hv;unfold oA at h;split at h
   ·rename_i l hx hκ
    split at h
    ·rename_i hT'
     split at h
     ·rename_i e hT
      split at h
      ·rename_i i hi
       split at h
       ·rename_i z hz
        split at h
        ·rename_i hzs
         split at h
         ·rename_i hy
          split at h
          ·rename_i hc
           simp only [ai] at h;subst h;exact jX hd ho hκ (.inl hy) hT hT' hi hz hx hzs hc.1 hc.2
          ·cases h
         ·rename_i k off n sz hy
          split at h
          ·rename_i hk
           split at h
           ·rename_i hc
            obtain⟨rfl,rfl,rfl,c1,c2⟩:=hc;simp only [ai] at h;subst h;exact jX hd ho hκ (.inr ⟨k,hy,hk⟩) hT hT' hi hz hx hzs c1 c2
           ·cases h
          ·rename_i own e' cs hk
           split at h
           ·rename_i hc
            obtain⟨rfl,rfl,rfl,c1,c2,c3⟩:=hc;simp only [ai] at h;subst h;exact qo hd ho hκ hT hT' hi hz hy hk c1 hx hzs c2 c3
           ·cases h
          ·cases h
         ·cases h
        ·cases h
       ·cases h
      ·cases h
     ·cases h
    ·cases h
   ·cases h
  ·rename_i x0 T x h1 h2 h3
   have e:=mX h1 h2 h3;subst e;simp only [Op.operands,Call.operands] at hv;simp at hv;subst hv;unfold Dp at h;split at h
   ·rename_i hx
    simp only [ai] at h;subst h;exact kU hd ho (.inl hx)
   ·rename_i k off len sz hx
    split at h
    ·rename_i hk
     split at h
     ·rename_i hl
      simp only [ai] at h;subst h;exact zm hd ho hx hk hl
     ·cases h
    ·rename_i hk
     split at h
     ·rename_i hc
      obtain⟨rfl,rfl,rfl⟩:=hc;simp only [ai] at h;subst h;exact kU hd ho (.inr ⟨k,hx,hk⟩)
     ·cases h
    ·cases h
   ·cases h
  ·rename_i x0 T x h1 h2 h3
   have e:=mX h1 h2 h3;subst e;simp only [Op.operands,Call.operands] at hv;simp at hv;subst hv;unfold JQ at h;split at h
   ·rename_i k hx
    split at h
    ·rename_i own es hk
     split at h
     ·rename_i hc
      simp only [cy] at hc;simp only [ai] at h;subst h;exact Eb hd ho hx hk hc.1 (Ze hc.2)
     ·cases h
    ·cases h
   ·cases h
  ·rename_i x0 y0 pt it x y h1 h2 h3
   have e:=mX h1 h2 h3;subst e;simp only [Op.operands,Call.operands] at hv;simp at hv;obtain⟨rfl,rfl⟩:=hv;unfold rY at h;split at h
   ·rename_i n hy
    split at h
    ·rename_i hx
     split at h
     ·rename_i hn
      subst hn;simp only [ai] at h;subst h;exact nP hd ho hx hy
     ·cases h
    ·rename_i k hx
     split at h
     ·rename_i own e cs e' hk hp
      split at h
      ·rename_i hc
       obtain⟨rfl,c1,c2,c3⟩:=hc;split at h
       ·rename_i l hl
        split at h
        ·rename_i hll
         simp only [ai] at h;subst h;have hn:n=(l.length:Int):=by omega
         refine tY hd ho hx hk (by rw [hy,hn]) hp c1 (by rw [hll];exact ym hl) (fun e=>?_) (by omega);subst e;simp at hll;omega
        ·cases h
       ·cases h
      ·cases h
     ·cases h
    ·cases h
   ·cases h
  ·cases h
 ·cases h
end
section
variable {P:Program}{T T':TypeId}{lv lv':Key→LB}{κ:Key}{r:kR}
theorem ya {x:AV}(h:s5 lv x=some b) (hk:∀ k∈QL x,lv' k=lv k):s5 lv' x=some b:=by
 unfold s5 at h ⊢
 split at h <;> first
  | (rename_i k _;rw [hk k (List.mem_singleton.2 rfl)];exact h)
  | (rename_i k;rw [hk k (List.mem_singleton.2 rfl)];exact h)
  | (rename_i k _ _ _;rw [hk k (List.mem_singleton.2 rfl)];exact h)
  | exact h
  | cases h
theorem FZ {op:BinOp}{x y:AV}(h:JI P op T lv x y=some r) (ha:Agree lv lv' r.2.1 r.2.2):JI P op T lv' x y=some r:=by
 unfold JI at h ⊢;split at h
 ·rename_i b hn
  split at h
  ·rename_i hc
   split at h
   ·simp only [ai] at h;subst h;rw [ya hn (fun k hk=>ha.1 k hk)];simp only [hc,if_true]
   ·simp only [ai] at h;subst h;rw [ya hn (fun k hk=>ha.1 k hk)];simp only [hc,if_true]
   ·cases h
  ·cases h
 ·cases h
theorem tn {m kx y:AV}(h:mH P T lv m kx y=some r) (ha:Agree lv lv' r.2.1 r.2.2):mH P T lv' m kx y=some r:=by
 unfold mH at h ⊢;split at h
 ·rename_i k
  split at h
  ·rename_i own es hk
   split at h
   ·rename_i kT _ d hT hd
    split at h
    ·rename_i hc
     simp only [ai] at h;subst h;have h1:=ha.2 _ (List.mem_singleton.2 rfl);simp only at h1;rw [h1,hk];simp only [hT,hd,hc,if_true]
    ·cases h
   ·cases h
  ·cases h
 ·cases h
theorem E7 {x:AV}{ks:List Key}(h:F8 lv x=some (es,ks)) (hk:∀ k∈ks,lv' k=lv k):F8 lv' x=some (es,ks):=by
 unfold F8 at h ⊢;split at h
 ·rename_i k
  split at h
  ·rename_i own es' hl
   simp only [ai,fy] at h;obtain⟨rfl,rfl⟩:=h;rw [hk k (List.mem_singleton.2 rfl),hl]
  ·cases h
 ·exact h
 ·cases h
theorem Dl{m kx:AV}(h:yf P T ok lv m kx=some r) (ha:Agree lv lv' r.2.1 r.2.2):yf P T ok lv' m kx=some r:=by
 unfold yf at h ⊢;split at h
 ·rename_i es ks hm
  have hr:r.2.2=ks:=by
   split at h
   ·split at h
    ·split at h
     ·split at h
      ·simp only [ai] at h;subst h;rfl
      ·cases h
     ·cases h
    ·cases h
   ·cases h
  rw [E7 hm (fun k hk=>ha.1 k (hr ▸ hk))];exact h
 ·cases h
theorem CA {x:AV}{lo hi:Option AV}(h:qK P T lv x lo hi=some r) (ha:Agree lv lv' r.2.1 r.2.2):qK P T lv' x lo hi=some r:=by
 unfold qK at h ⊢;split at h
 ·rename_i k off
  have hr:r.2.2=[k]:=by
   split at h
   ·split at h
    ·split at h
     ·simp only [ai] at h;subst h;rfl
     ·cases h
    ·cases h
   ·cases h
  rw [ha.1 k (by rw [hr];exact List.mem_singleton.2 rfl)];exact h
 ·exact h
 ·rename_i k off len sz
  have hr:r.2.2=[k]:=by
   split at h
   ·split at h
    ·split at h
     ·split at h
      ·simp only [ai] at h;subst h;rfl
      ·cases h
     ·cases h
    ·cases h
   ·cases h
  rw [ha.1 k (by rw [hr];exact List.mem_singleton.2 rfl)];exact h
 ·cases h
theorem yo {x y:AV}(h:oA P T T' lv κ y x=some r) (ha:Agree lv lv' r.2.1 r.2.2):oA P T T' lv' κ y x=some r:=by
 unfold oA at h ⊢;split at h
 ·rename_i l hκ
  split at h
  ·rename_i hT'
   split at h
   ·rename_i e hT
    split at h
    ·rename_i i hi
     split at h
     ·rename_i z hz
      split at h
      ·rename_i hzs
       split at h
       ·split at h
        ·rename_i hc
         simp only [ai] at h;subst h;have h1:=ha.2 _ (List.mem_singleton.2 rfl);simp only at h1;rw [h1,hκ];simp only [hT',hT,hi,hz,hzs,hc,if_true,and_self]
        ·cases h
       ·rename_i k off n sz
        split at h
        ·rename_i hk
         split at h
         ·rename_i hc
          simp only [ai] at h;subst h;have h1:=ha.2 _ (List.mem_singleton.2 rfl);have h2:=ha.1 k (List.mem_singleton.2 rfl);simp only at h1;rw [h1,hκ];simp only [hT',hT,hi,hz,hzs,hc,h2,hk,if_true,and_self]
         ·cases h
        ·rename_i own e' cs hk
         split at h
         ·rename_i hc
          simp only [ai] at h;subst h;have h1:=ha.2 (κ,_) (ZX _ (List.mem_singleton.2 rfl));have h2:=ha.2 (k,_) (ZP ..);simp only at h1 h2;rw [h1,hκ];simp only [hT',hT,hi,hz,hzs,h2,hk,if_true];rw [if_pos hc]
         ·cases h
        ·cases h
       ·cases h
      ·cases h
     ·cases h
    ·cases h
   ·cases h
  ·cases h
 ·cases h
theorem D5 {x:AV}(h:Dp lv x=some r) (ha:Agree lv lv' r.2.1 r.2.2):Dp lv' x=some r:=by
 unfold Dp at h ⊢;split at h
 ·exact h
 ·rename_i k off len sz
  have hr:r.2.2=[k]:=by
   split at h
   ·split at h
    ·simp only [ai] at h;subst h;rfl
    ·cases h
   ·split at h
    ·simp only [ai] at h;subst h;rfl
    ·cases h
   ·cases h
  rw [ha.1 k (by rw [hr];exact List.mem_singleton.2 rfl)];exact h
 ·cases h
theorem zq {x y:AV}(h:rY P T lv x y=some r) (ha:Agree lv lv' r.2.1 r.2.2):rY P T lv' x y=some r:=by
 unfold rY at h ⊢;split at h
 ·rename_i n
  split at h
  ·exact h
  ·rename_i k
   have hr:r.2.1=[(k,.dead)]:=by
    split at h
    ·split at h
     ·split at h
      ·split at h
       ·simp only [ai] at h;subst h;rfl
       ·cases h
      ·cases h
     ·cases h
    ·cases h
   have:=ha.2 (k,.dead) (by rw [hr];exact List.mem_singleton.2 rfl);simp only at this;rw [this];exact h
  ·cases h
 ·cases h
theorem FG {x:AV}(h:JQ P T lv x=some r) (ha:Agree lv lv' r.2.1 r.2.2):JQ P T lv' x=some r:=by
 unfold JQ at h ⊢;split at h
 ·rename_i k
  have hr:r.2.2=[k]:=by
   split at h
   ·split at h
    ·simp only [ai] at h;subst h;rfl
    ·cases h
   ·cases h
  rw [ha.1 k (by rw [hr];exact List.mem_singleton.2 rfl)];exact h
 ·cases h
theorem Eh {cl:Call}(h:Dg P cl vals lv κ=some r) (ha:Agree lv lv' r.2.1 r.2.2):Dg P cl vals lv' κ=some r:=by
 unfold Dg at h ⊢;split at h
 ·exact yo h ha
 ·exact D5 h ha
 ·exact FG h ha
 ·exact zq h ha
 ·cases h
theorem vg(h:cU P op vals lv κ=some r) (ha:Agree lv lv' r.2.1 r.2.2):cU P op vals lv' κ=some r:=by
 unfold cU at h ⊢;split at h
 ·exact FZ h ha
 ·split at h
  ·rename_i hκ
   simp only [ai] at h;subst h;have:=ha.2 _ (List.mem_singleton.2 rfl);simp only at this;simp only [this,hκ]
  ·cases h
 ·exact tn h ha
 ·exact tn h ha
 ·exact Dl h ha
 ·exact h
 ·exact h
 ·split at h
  ·rename_i l hh hb
   exact CA h ha
  ·cases h
 ·exact h
 ·exact Eh h ha
 ·cases h
end
end Go.Am
namespace Go.Am
variable {β α:Type}{x:AV}{s:au}{L:Nat→Bool}{m:Nat}{c:Ctx}{l:List (Nat × AV)}{Q:Exit→Act→World→Prop}{k:Key}{P:Program}{G:List (List DV)}{f:FuncId}{fn:Func}{code:Code}{args:List AV}
def PM (ops:Array Oper)(o o':Oper)(e e':Fx):Prop:=
 o.apart ops o'=true∧∀ k∈e.us.map (·.1),k ∉ e'.us.map (·.1)
def lS (c:Ctx)(r:Option Nat)(ops:Array Oper)(o:Oper)(s0:au)(e:Fx)(ok:(Key→LB)→Prop):Prop:=
 ∀ s:au,(∀ t∈o.looksAt ops,s.fr t=s0.fr t)→ok s.lv →
  ∀ F β a w K Q,aE c F β s a w→(∀ F' β' a' w',aE c F' β' (e.app o.dst s) a' w'→K a' w') →
   if Region.wanted o (yielded ops a.tmps) then o.wpIn (nS r) 0 c.P a w K Q else K (a.put o.dst undef) w
section
variable {c:Ctx}{r:Option Nat}{ops:Array Oper}{es:List Fx}{s0:au}
theorem B6 (ok:Nat→(Key→LB)→Prop)(hlen:es.length=ops.size)
 (hE:∀ (i:Nat) o e,ops[i]?=some o→es[i]?=some e→lS c r ops o (bf ops es s0 (fun _=>true) i) e (ok i))
 (hback:∀ (i:Nat) o,ops[i]?=some o→∀ ed∈o.after,Region.binds .any ed=true→ed.on<i)
 (hind:∀ (i j:Nat) o o' e e',i<j→ops[i]?=some o→ops[j]?=some o'→es[i]?=some e→es[j]?=some e'→uX ops i j∨PM ops o o' e e')
 (hok:∀ (L:Nat→Bool) (i:Nat),i<ops.size→L i=false→(∀ j,uX ops j i→L j=true)→(∀ i j,uX ops i j→L j=true→L i=true)→ok i (bf ops es s0 L ops.size).lv)(hQ:∀ F' β' a' w',aE c F' β' (bf ops es s0 (fun _=>true) ops.size) a' w'→Q .normal a' w') :
 ∀ (fuel:Nat) (listed:Array Bool),listed.size=ops.size →
  (∀ (j:Nat) o,ops[j]?=some o→listed.getD j false=true→∀ ed∈o.after,Region.binds .any ed=true→listed.getD ed.on false=true) →
  ops.size≤fuel+cnt (fun j=>listed.getD j false) ops.size →
  ∀ F β a w,aE c F β (bf ops es s0 (fun j=>listed.getD j false) ops.size) a w→wpAnyIn (nS r) 0 c.P .any ops Q fuel listed a w:=by
 intro fuel
 have hall:∀ (listed:Array Bool),(∀ i,i<ops.size→listed.getD i false=true)→∀ F β a w,aE c F β (bf ops es s0 (fun j=>listed.getD j false) ops.size) a w→Q .normal a w:=by
  intro listed hl F β a w h;rw [fB (L':=fun _=>true) hl] at h;exact hQ _ _ _ _ h
 induction fuel with
 | zero=>
  intro listed hsz hcl hcnt F β a w h;have hl:=Be (p:=fun j=>listed.getD j false) (n:=ops.size) (by omega);refine⟨?_,hall listed hl F β a w h⟩;rw [List.eq_nil_iff_forall_not_mem];intro i hi;obtain⟨h1,h2,_⟩:=mem_ready.1 hi;have h3:listed.getD i false=true:=hl i h1;have h4:i<listed.size:=by omega
  simp [Array.getD,h4] at h2 h3;rw [h2] at h3;cases h3
 | succ fuel ih=>
  intro listed hsz hcl hcnt F β a w h
  have hanc:∀ i j,uX ops i j→listed.getD j false=true→listed.getD i false=true:=by
   intro i j ha
   induction ha with
   | one ho he hb hi=>intro hj;subst hi;exact hcl _ _ ho hj _ he hb
   | more ho he hb _ ih=>intro hj;exact ih (hcl _ _ ho hj _ he hb)
  refine⟨fun hnil=>?_,fun i hi=>?_⟩
  ·refine hall listed (fun i hi=>?_) F β a w h
   induction i using Nat.strongRecOn with
   | _ i ihi=>
    cases hL:listed.getD i false with
    | true=>rfl
    | false=>
     exfalso
     have:i∈Region.ready .any ops listed:=by
      refine mem_ready.2 ⟨hi,?_,ops[i],ZL hi,fun ed hed hb=>?_⟩
      ·have h4:i<listed.size:=by omega
       simp [Array.getD,h4] at hL ⊢;exact hL
      ·have:=hback i _ (ZL hi) ed hed hb;exact ihi _ this (by omega)
     rw [hnil] at this;cases this
  ·obtain⟨hi1,hi2,o,ho,hpre⟩:=mem_ready.1 hi;have h4:i<listed.size:=by omega
   have hLi:listed.getD i false=false:=by simp [Array.getD,h4] at hi2 ⊢;exact hi2
   obtain⟨e,he⟩:∃ e,es[i]?=some e:=⟨es[i]'(by omega),cn (by omega)⟩
   have hes:∀ j o',ops[j]?=some o'→∃ e',es[j]?=some e':=fun j o' h'=>by
    have:j<ops.size:=(Array.getElem?_eq_some_iff.1 h').1;exact⟨es[j]'(by omega),cn (by omega)⟩
   have hos:∀ (j:Nat) e',es[j]?=some e'→∃ o',ops[j]?=some o':=fun j e' h'=>by
    have:j<es.length:=(List.getElem?_eq_some_iff.1 h').1;exact⟨ops[j]'(by omega),ZL (by omega)⟩
   have hancR:∀ j,uX ops j i→listed.getD j false=true:=by
    intro j ha
    cases ha with
    | one ho' he' hb hj=>
     rw [ho] at ho';simp only [ai] at ho';subst ho';subst hj;exact hpre _ he' hb
    | more ho' he' hb hj=>
     rw [ho] at ho';simp only [ai] at ho';subst ho';exact hanc _ _ hj (hpre _ he' hb)
   have key:=hE i o e ho he (bf ops es s0 (fun j=>listed.getD j false) ops.size) (fun t ht=>?_) ?_ F β a w
    (wpAnyIn (nS r) 0 c.P .any ops Q fuel (listed.setIfInBounds i true)) Q h (fun F' β' a' w' h'=>?_)
   ·unfold wpOpIn;rw [ho];simp only;split at key
    ·rename_i hw;rw [if_pos hw];exact key
    ·rename_i hw;rw [if_neg hw];exact⟨fun _ _=>trivial,key⟩
   ·rw [Cp (i:=i) (fun j o' ho' hd=>?_) ops.size,Nat.min_eq_right (by omega)];obtain⟨e',he'⟩:=hes j o' ho';constructor
    ·intro hji;rcases hind j i o' o e' e hji ho' ho he' he with ha|ha
     ·exact hancR j ha
     ·exact absurd ht ((abi ha.1).1 t hd)
    ·intro hj;rcases abO j i with hlt|heq|hgt
     ·exact hlt
     ·subst heq;rw [hLi] at hj;cases hj
     ·rcases hind i j o o' e e' hgt ho ho' he he' with ha|ha
      ·have:=hanc _ _ ha hj;rw [hLi] at this;cases this
      ·exact absurd ht ((abi ha.1).2.2 t hd)
   ·exact hok _ i hi1 hLi hancR hanc
   ·have hset:∀ j,(listed.setIfInBounds i true).getD j false=(listed.getD j false || j == i):=by
     intro j;simp only [ZA,aa9]
     by_cases hj:i=j
     ·subst hj;simp [h4]
     ·have hne:(j == i)=false:=by simp;exact fun e=>hj e.symm
      simp [hj,hne]
    refine ih (listed.setIfInBounds i true) (by simp [hsz]) (fun j o' ho' hj ed hed hb=>?_) ?_ F' β' a' w' ?_
    ·rw [hset] at hj ⊢;simp only [Zp,beq_iff_eq] at hj ⊢;rcases hj with hj|hj
     ·exact .inl (hcl j o' ho' hj ed hed hb)
     ·subst hj;rw [ho] at ho';simp only [ai] at ho';subst ho';exact .inl (hpre ed hed hb)
    ·rw [pg (q:=fun j=>listed.getD j false || j == i) (fun j _=>hset j),Cy (p:=fun j=>listed.getD j false) hLi hi1];omega
    ·rw [fB (L':=fun j=>listed.getD j false || j == i) (fun j _=>hset j)]
     have hst:e.app o.dst (bf ops es s0 (fun j=>listed.getD j false) ops.size)=bf ops es s0 (fun j=>listed.getD j false || j == i) ops.size:=by
      have e1:(e.app o.dst (bf ops es s0 (fun j=>listed.getD j false) ops.size)).fr=(bf ops es s0 (fun j=>listed.getD j false || j == i) ops.size).fr:=by
       funext t;refine u6 ho he hi1 hLi (fun j o' hij ho' hj hd=>?_);obtain⟨e',he'⟩:=hes j o' ho';rcases hind i j o o' e e' hij ho ho' he he' with ha|ha
       ·have:=hanc _ _ ha hj;rw [hLi] at this;cases this
       ·exact (abi ha.1).2.1 t hd
      have e2:(e.app o.dst (bf ops es s0 (fun j=>listed.getD j false) ops.size)).lv=(bf ops es s0 (fun j=>listed.getD j false || j == i) ops.size).lv:=by
       funext k;refine uY ho he hi1 hLi (fun j e' hij he' hj hd=>?_);obtain⟨o',ho'⟩:=hos j e' he';rcases hind i j o o' e e' hij ho ho' he he' with ha|ha
       ·have:=hanc _ _ ha hj;rw [hLi] at this;cases this
       ·exact ha.2 k hd
      cases h1:e.app o.dst (bf ops es s0 (fun j=>listed.getD j false) ops.size)
      cases h2:bf ops es s0 (fun j=>listed.getD j false || j == i) ops.size
      rw [h1,h2] at e1 e2;simp only at e1 e2;rw [e1,e2]
     rw [← hst];exact h'
end
section
variable {ops:Array Oper}{es:List Fx}{s0:au}
theorem IA{o:Oper}{e:Fx}(ho:ops[m]?=some o) (he:es[m]?=some e) :
 bf ops es s0 L (m+1)=if L m then e.app o.dst (bf ops es s0 L m) else bf ops es s0 L m:=by
 simp only [bf,ho,he]
theorem mE(hlen:es.length=ops.size) (hm:m<ops.size) :
 ∃ e,es[m]?=some e∧(bf ops es s0 L (m+1)).lv k=if L m=true then aR (bf ops es s0 L m).lv e.us k else (bf ops es s0 L m).lv k:=by
 have ho:ops[m]?=some ops[m]:=ZL hm;have he:es[m]?=some (es[m]'(by omega)):=cn (by omega);refine⟨_,he,?_⟩;rw [IA ho he]
 cases L m <;> simp [nq]
theorem Ca (hlen:es.length=ops.size){i:Nat}(hi:i<ops.size) (hLi:L i=false) (h1:∀ j,uX ops j i→L j=true) (h2:∀ i j,uX ops i j→L j=true→L i=true) :
 (bf ops es s0 L ops.size).lv k=(bf ops es s0 (fun _=>true) i).lv k ∨
 (∃ j e,i<j∧es[j]?=some e∧¬ uX ops i j∧k∈e.us.map (·.1)∧(bf ops es s0 L ops.size).lv k=aR (fun _=>.hole) e.us k) ∨
 (∃ j e,j<i∧es[j]?=some e∧¬ uX ops j i∧k∈e.us.map (·.1)∧(bf ops es s0 L ops.size).lv k=(bf ops es s0 (fun _=>true) j).lv k):=by
 have hA:∀ m,m≤i→((bf ops es s0 L m).lv k=(bf ops es s0 (fun _=>true) m).lv k ∨
  ∃ j e,j<i∧es[j]?=some e∧¬ uX ops j i∧k∈e.us.map (·.1)∧(bf ops es s0 L m).lv k=(bf ops es s0 (fun _=>true) j).lv k):=by
  intro m
  induction m with
  | zero=>intro _;exact .inl rfl
  | succ m ih=>
   intro hm;obtain⟨e,he,e1⟩:=mE (ops:=ops) (s0:=s0) (L:=L) (k:=k) hlen (by omega:m<ops.size);obtain⟨e',he',e2⟩:=mE (ops:=ops) (s0:=s0) (L:=fun _=>true) (k:=k) hlen (by omega:m<ops.size);rw [he] at he';simp only [ai] at he';subst he';simp only [if_true] at e2;rw [e1,e2]
   by_cases hk:k∈e.us.map (·.1)
   ·cases hL:L m with
    | true=>simp only [if_true];exact .inl (rM hk)
    | false=>
     simp only [Y2,if_false];rcases ih (by omega) with h|⟨j,e',q1,q2,q3,q4,q5⟩
     ·refine .inr ⟨m,e,by omega,he,fun ha=>?_,hk,h⟩;have:=h1 m ha;rw [hL] at this;cases this
     ·exact .inr ⟨j,e',q1,q2,q3,q4,q5⟩
   ·rw [bU hk,bU hk]
    cases hL:L m with
    | true=>simp only [if_true];exact ih (by omega)
    | false=>simp only [Y2,if_false];exact ih (by omega)
 have hB:∀ m,i≤m→m≤ops.size→((bf ops es s0 L m).lv k=(bf ops es s0 L i).lv k ∨
  ∃ j e,i<j∧es[j]?=some e∧¬ uX ops i j∧k∈e.us.map (·.1)∧(bf ops es s0 L m).lv k=aR (fun _=>.hole) e.us k):=by
  intro m
  induction m with
  | zero=>intro h _;have:i=0:=by omega
          subst this;exact .inl rfl
  | succ m ih=>
   intro hm hms
   by_cases hmi:i=m+1
   ·rw [hmi];exact .inl rfl
   obtain⟨e,he,e1⟩:=mE (ops:=ops) (s0:=s0) (L:=L) (k:=k) hlen (by omega:m<ops.size);rw [e1]
   cases hL:L m with
   | false=>simp only [Y2,if_false];exact ih (by omega) (by omega)
   | true=>
    simp only [if_true]
    by_cases hk:k∈e.us.map (·.1)
    ·refine .inr ⟨m,e,?_,he,fun ha=>?_,hk,rM hk⟩
     ·rcases Z7 i m with h|h
      ·exact h
      ·have:i=m:=by omega
       subst this;rw [hLi] at hL;cases hL
     ·have:=h2 i m ha hL;rw [hLi] at this;cases this
    ·rw [bU hk];exact ih (by omega) (by omega)
 rcases hB ops.size (by omega) (aW _) with h|⟨j,e,q1,q2,q3,q4,q5⟩
 ·rw [h];rcases hA i (aW _) with h'|⟨j,e,q1,q2,q3,q4,q5⟩
  ·exact .inl h'
  ·exact .inr (.inr ⟨j,e,q1,q2,q3,q4,q5⟩)
 ·exact .inr (.inl ⟨j,e,q1,q2,q3,q4,q5⟩)
end
structure Fw where
 e:Fx
 lv:Key→LB
 all:Bool
 soft:Key→LB→Bool
variable {fs:List Fw}
def Fw.ok (f:Fw)(lv:Key→LB):Prop:=
 (f.all=true∧lv=f.lv)∨(f.all=false∧(Agree f.lv lv f.e.us f.e.rds∨(f.e.us=[]∧∃ k,f.e.rds=[k]∧f.soft k (lv k)=true)))
def Fw.apart (f g:Fw):Prop:=
 (f.all=true→g.e.us=[])∧(g.all=true→f.e.us=[]) ∧
 (∀ k∈f.e.us.map (·.1),k ∉ g.e.us.map (·.1)) ∧
 (∀ k∈f.e.us.map (·.1),k ∉ g.e.rds∨(g.e.us=[]∧g.e.rds=[k]∧g.soft k (f.lv k)=true)) ∧
 (∀ k∈g.e.us.map (·.1),k ∉ f.e.rds∨(f.e.us=[]∧f.e.rds=[k]∧f.soft k (aR (fun _=>.hole) g.e.us k)=true))
theorem Tj {ops:Array Oper}{s0:au}(hlen:fs.length=ops.size)
 (hlv:∀ (i:Nat) f,fs[i]?=some f→f.lv=(bf ops (fs.map (·.e)) s0 (fun _=>true) i).lv)
 (hind:∀ (i j:Nat) f g,i<j→fs[i]?=some f→fs[j]?=some g→uX ops i j∨f.apart g) :
 ∀ (L:Nat→Bool) (i:Nat) (f:Fw),fs[i]?=some f→L i=false→(∀ j,uX ops j i→L j=true)→(∀ i j,uX ops i j→L j=true→L i=true) →
  f.ok (bf ops (fs.map (·.e)) s0 L ops.size).lv:=by
 intro L i f hf hLi h1 h2;have hi:i<ops.size:=by have:=(List.getElem?_eq_some_iff.1 hf).1;omega
 have hlen':(fs.map (·.e)).length=ops.size:=by simpa using hlen
 have hver:=fun k=>Ca (s0:=s0) (k:=k) hlen' hi hLi h1 h2
 rw [← hlv i f hf] at hver
 have hget:∀ (j:Nat) (e:Fx),(fs.map (·.e))[j]?=some e→∃ g:Fw,fs[j]?=some g∧g.e=e:=by
  intro j e h;rw [ZO,Y8] at h;exact h
 cases hall:f.all with
 | true=>
  left;refine⟨hall,funext fun k=>?_⟩;rcases hver k with h|⟨j,e,q1,q2,q3,q4,q5⟩|⟨j,e,q1,q2,q3,q4,q5⟩
  ·exact h
  ·obtain⟨g,hg,rfl⟩:=hget j e q2;rcases hind i j f g q1 hf hg with ha|ha
   ·exact absurd ha q3
   ·rw [ha.1 hall] at q4;cases q4
  ·obtain⟨g,hg,rfl⟩:=hget j e q2;rcases hind j i g f q1 hg hf with ha|ha
   ·exact absurd ha q3
   ·rw [ha.2.1 hall] at q4;cases q4
 | false=>
 right;refine⟨hall,?_⟩
 by_cases hs:f.e.us=[]∧∃ k,f.e.rds=[k]
 ·obtain⟨hu,k,hk⟩:=hs;rcases hver k with h|⟨j,e,q1,q2,q3,q4,q5⟩|⟨j,e,q1,q2,q3,q4,q5⟩
  ·left;refine⟨fun k' hk'=>?_,fun p hp=>by rw [hu] at hp;cases hp⟩;rw [hk] at hk';rw [List.mem_singleton.1 hk'];exact h
  all_goals (right;refine⟨hu,k,hk,?_⟩)
  ·obtain⟨g,hg,rfl⟩:=hget j e q2;rw [q5];rcases hind i j f g q1 hf hg with ha|ha
   ·exact absurd ha q3
   ·rcases ha.2.2.2.2 k q4 with h|h
    ·exact absurd (by rw [hk];exact List.mem_singleton.2 rfl) h
    ·exact h.2.2
  ·obtain⟨g,hg,rfl⟩:=hget j e q2;rw [q5,← hlv j g hg];rcases hind j i g f q1 hg hf with ha|ha
   ·exact absurd ha q3
   ·rcases ha.2.2.2.1 k q4 with h|h
    ·exact absurd (by rw [hk];exact List.mem_singleton.2 rfl) h
    ·exact h.2.2
 ·left;have hno:∀ k,¬ (f.e.us=[]∧f.e.rds=[k]):=fun k h=>hs ⟨h.1,k,h.2⟩
  have key:∀ k,(k∈f.e.rds∨k∈f.e.us.map (·.1))→(bf ops (fs.map (·.e)) s0 L ops.size).lv k=f.lv k:=by
   intro k hk;rcases hver k with h|⟨j,e,q1,q2,q3,q4,q5⟩|⟨j,e,q1,q2,q3,q4,q5⟩
   ·exact h
   ·obtain⟨g,hg,rfl⟩:=hget j e q2;exfalso;rcases hind i j f g q1 hf hg with ha|ha
    ·exact q3 ha
    ·rcases hk with hk|hk
     ·rcases ha.2.2.2.2 k q4 with h|h
      ·exact h hk
      ·exact hno k ⟨h.1,h.2.1⟩
     ·exact ha.2.2.1 k hk q4
   ·obtain⟨g,hg,rfl⟩:=hget j e q2;exfalso;rcases hind j i g f q1 hg hf with ha|ha
    ·exact q3 ha
    ·rcases hk with hk|hk
     ·rcases ha.2.2.2.1 k q4 with h|h
      ·exact h hk
      ·exact hno k ⟨h.1,h.2.1⟩
     ·exact ha.2.2.1 k q4 hk
  exact⟨fun k hk=>key k (.inl hk),fun p hp=>key p.1 (.inr (abM hp))⟩
def iX (c:Ctx)(r:Option Nat)(ops:Array Oper):List Oper→List Fw→au→au→Prop
 | [],[],s,s'=>s'=s
 | o::os,f::fs,s,s'=>lS c r ops o s f.e f.ok∧f.lv=s.lv∧iX c r ops os fs (f.e.app o.dst s) s'
 | _,_,_,_=>False
section
variable {c:Ctx}{r:Option Nat}{ops:Array Oper}
theorem iX.len:∀ {os:List Oper}{es:List Fw}{s s':au},iX c r ops os es s s'→es.length=os.length
 | [],[],_,_,_=>rfl
 | _::_,_::_,_,_,h=>by simp [iX.len h.2.2]
 | [],_::_,_,_,h=>h.elim
 | _::_,[],_,_,h=>h.elim
theorem iX.at {fs:List Fw}{s0:au}:∀ {os:List Oper}{rs:List Fw}{s':au}(n:Nat),ops.toList.drop n=os→fs.drop n=rs→iX c r ops os rs (bf ops (fs.map (·.e)) s0 (fun _=>true) n) s' →
 s'=bf ops (fs.map (·.e)) s0 (fun _=>true) (n+os.length)∧∀ (i:Nat) o f,n≤i→ops[i]?=some o→fs[i]?=some f→lS c r ops o (bf ops (fs.map (·.e)) s0 (fun _=>true) i) f.e f.ok∧f.lv=(bf ops (fs.map (·.e)) s0 (fun _=>true) i).lv
 | [],[],s',n,h1,h2,h=>by
  refine⟨h,fun i o e hi ho he=>?_⟩;have h3:fs.length≤n:=List.drop_eq_nil_iff.1 h2;have:=(List.getElem?_eq_some_iff.1 he).1;omega
 | o::os,e::rs,s',n,h1,h2,h=>by
  have ho:ops[n]?=some o:=by
   have:(ops.toList.drop n)[0]?=some o:=by rw [h1];rfl
   rw [Z0] at this;simpa using this
  have he:fs[n]?=some e:=by
   have:(fs.drop n)[0]?=some e:=by rw [h2];rfl
   rw [Z0] at this;simpa using this
  have hst:bf ops (fs.map (·.e)) s0 (fun _=>true) (n+1)=e.e.app o.dst (bf ops (fs.map (·.e)) s0 (fun _=>true) n):=by
   simp only [bf,ho,ZO,he,Zb,if_true]
  obtain⟨h3,h4⟩:=iX.at (fs:=fs) (s0:=s0) (os:=os) (rs:=rs) (s':=s') (n+1) (by rw [← Z9,h1];rfl) (by rw [← Z9,h2];rfl) (by rw [hst];exact h.2.2);refine⟨by rw [h3];congr 1;simp;omega,fun i o' e' hi ho' he'=>?_⟩
  by_cases e1:i=n
  ·subst e1;rw [ho] at ho';rw [he] at he';simp only [ai] at ho' he';subst ho';subst he';exact⟨h.1,h.2.1⟩
  ·exact h4 i o' e' (by omega) ho' he'
 | [],_::_,_,_,_,_,h=>h.elim
 | _::_,[],_,_,_,_,h=>h.elim
theorem iX.draw{id:Nat}{s':au}(hm:c.P.follows .mixedOrders=true) (h:iX c r ops ops.toList fs s s')
 (hback:∀ (i:Nat) o,ops[i]?=some o→∀ ed∈o.after,Region.binds .any ed=true→ed.on<i)
 (hind:∀ (i j:Nat) o o' f g,i<j→ops[i]?=some o→ops[j]?=some o'→fs[i]?=some f→fs[j]?=some g→uX ops i j∨(o.apart ops o'=true∧f.apart g))
 (hQ:∀ F' β' a' w',aE c F' β' s' a' w'→Q .normal a' w') {F:Nat→Prop}{β:Key→Nat}{a:Act}{w:World}(hs:aE c F β s a w):(Code.region id ops true).wpIn (nS r) 0 c.P Q a w:=by
 have hlen:fs.length=ops.size:=by rw [h.len];simp
 obtain⟨h3,h4⟩:=iX.at (fs:=fs) (s0:=s) 0 rfl rfl h;refine wpIn_region_any hm ?_
 have hget:∀ (j:Nat) (e:Fx),(fs.map (·.e))[j]?=some e→∃ g:Fw,fs[j]?=some g∧g.e=e:=by
  intro j e h;rw [ZO,Y8] at h;exact h
 have hos:∀ (j:Nat) f,fs[j]?=some f→∃ o',ops[j]?=some o':=fun j e' h'=>by
  have:j<fs.length:=(List.getElem?_eq_some_iff.1 h').1;exact⟨ops[j]'(by omega),ZL (by omega)⟩
 refine B6 (es:=fs.map (·.e)) (s0:=s) (fun i lv=>∀ f,fs[i]?=some f→f.ok lv) (by simpa using hlen) (fun i o e ho he=>?_) hback (fun i j o o' e e' hij ho ho' he he'=>?_) (fun L i hi hLi h1 h2 f hf=>?_)
  (fun F' β' a' w' h'=>hQ F' β' a' w' ?_) ops.size _ (by simp) (fun j o ho hj=>?_) (by omega) F β a _ ?_
 ·obtain⟨f,hf,rfl⟩:=hget i e he;intro s1 g1 g2;exact (h4 i o f (Y4 _) ho hf).1 s1 g1 (g2 f hf)
 ·obtain⟨f,hf,rfl⟩:=hget i e he;obtain⟨g,hg,rfl⟩:=hget j e' he';rcases hind i j o o' f g hij ho ho' hf hg with ha|⟨ha,hb⟩
  ·exact .inl ha
  ·exact .inr ⟨ha,hb.2.2.1⟩
 ·refine Tj hlen (fun i f hf=>?_) (fun i j f g hij hf hg=>?_) L i f hf hLi h1 h2
  ·obtain⟨o,ho⟩:=hos i f hf;exact (h4 i o f (Y4 _) ho hf).2
  ·obtain⟨o,ho⟩:=hos i f hf;obtain⟨o',ho'⟩:=hos j g hg;rcases hind i j o o' f g hij ho ho' hf hg with ha|ha
   ·exact .inl ha
   ·exact .inr ha.2
 ·rw [h3];simpa using h'
 ·have hf:(Array.replicate ops.size false).getD j false=false:=by
   simp only [ZA,aa4];split <;> rfl
  rw [hf] at hj;cases hj
 ·have hf:∀ j,(Array.replicate ops.size false).getD j false=false:=fun j=>by
   simp only [ZA,aa4];split <;> rfl
  have:bf ops (fs.map (·.e)) s (fun j=>(Array.replicate ops.size false).getD j false) ops.size=s:=by
   rw [fB (L':=fun _=>false) (fun j _=>hf j)]
   have:∀ m,bf ops (fs.map (·.e)) s (fun _=>false) m=s:=by
    intro m
    induction m with
    | zero=>rfl
    | succ m ih=>simp only [bf,ih,Y2,if_false];split <;> rfl
   exact this _
  rw [this];exact hs.heap rfl
end
theorem AW.seq'{r:Option Nat}{κ:Nat}{Q:Ex→au→Nat→Prop}{x y:Code}(h:AW c r x s κ (pR (fun s κ=>AW c r y s κ Q) Q)):AW c r (.seq x y) s κ Q:=
 AW.seq h fun _ _ h=>h
theorem Ref.ou:∀ (x:Ref),x.br (fun k=>k)=x
 | .d _=>rfl
 | .ptr ..=>rfl
 | .aI ..=>rfl
 | .agg cs=>by
  simp only [Ref.br];congr 1;have:∀ x∈cs,ij.br (fun k=>k) x=x:=fun x _=>by cases x <;> rfl
  simpa using Zj this
 | .ifc t x=>by simp only [Ref.br,Ref.ou x]
theorem CV.ou (x:CV):x.br (fun k=>k)=x:=by
 cases x with
 | func fn f c=>
  simp only [CV.br]
  have h:∀ l:List Ref,l.map (Ref.br fun k=>k)=l:=fun l=>by
   have:∀ x∈l,Ref.br (fun k=>k) x=x:=fun x _=>Ref.ou x
   simpa using Zj this
  rw [h,h]
 | ifc t x=>simp only [CV.br,Ref.ou]
 | _=>rfl
theorem yQ (l:List CV):l.map (CV.br fun k=>k)=l:=by
 have:∀ x∈l,CV.br (fun k=>k) x=x:=fun x _=>CV.ou x
 simpa using Zj this
theorem AV.wN(h:x.bV=true):x.kM (fun k=>k)=x:=by
 cases x with
 | c x=>simp only [AV.kM,CV.ou]
 | agg cs=>simp only [AV.kM,yQ]
 | tup l=>cases h
 | undef=>rfl
 | junk=>rfl
theorem AV.ou(h:x.bu=true):x.br (fun k=>k)=x:=by
 cases x with
 | c x=>exact AV.wN (x:=.c x) rfl
 | agg cs=>exact AV.wN (x:=.agg cs) rfl
 | tup l=>
  simp only [AV.bu,YU] at h;simp only [AV.br];congr 1;have:∀ x∈l,AV.kM (fun k=>k) x=x:=fun x hx=>AV.wN (by have:=h x hx;cases x <;> simp_all [AV.bV])
  simpa using Zj this
 | undef=>rfl
 | junk=>rfl
theorem LB.RV {x:LB}(hm:∀ own es,x=.map own es→∀ p∈es,∀ l,p.2≠.tup l):x.as x (fun k=>k):=by
 cases x with
 | cells own fz T cs=>exact⟨own,cs,rfl,(yQ cs).symm,fun h=>h⟩
 | map own es=>
  refine⟨own,es,rfl,?_,fun h=>h,fun p hp l=>hm own es rfl p hp l⟩
  have:∀ p∈es,(fun p:DV × AV=>(p.1,p.2.kM fun k=>k)) p=p:=fun p hp=>by
   have:=AV.wN (x:=p.2) (by have:=hm own es rfl p hp;cases e:p.2 <;> simp_all [AV.bV]);simp only [this]
  simpa using (Zj this).symm
 | hole=>rfl
 | dead=>intro h;cases h
 | bk=>rfl
def bq:List (Nat × AV)→Nat→AV
 | [],_=>.junk
 | p::l,t=>if t=p.1 then p.2 else bq l t
theorem je{P:Nat→AV→Prop}(h:∀ p∈l,P p.1 p.2) (t:Nat):bq l t=.junk∨P t (bq l t):=by
 induction l with
 | nil=>exact .inl rfl
 | cons p l ih=>
  simp only [bq];split
  ·rename_i e;subst e;exact .inr (h p (by simp))
  ·exact ih fun q hq=>h q (by simp [hq])
theorem dn.slots(hl:∀ p∈l,p.2.bu=true∧s.fr p.1=p.2) (hm:∀ k own es,s.lv k=.map own es→∀ p∈es,∀ l,p.2≠.tup l) :
 dn c s ⟨bq l,s.lv⟩ (fun k=>k):=by
 refine⟨fun k=>LB.RV (hm k),fun k k' _ _ h=>h,fun t=>?_,fun k _=>.inr rfl⟩;rcases je (P:=fun t x=>x.bu=true∧s.fr t=x) hl t with h|⟨h1,h2⟩
 ·exact .inl h
 ·exact .inr ⟨h1,by rw [AV.ou h1];exact h2⟩
def CV.pure:CV→Bool
 | .d _=>true
 | _=>false
def AV.kE:AV→Bool
 | .c x=>x.pure
 | .agg cs=>cs.all CV.pure
 | .undef=>true
 | .junk=>true
 | _=>false
def AV.pure:AV→Bool
 | .tup l=>l.all AV.kE
 | x=>x.kE
theorem CV.aX {x:CV}(h:x.pure=true) (g:Key→Key):x.br g=x:=by cases x <;> simp_all [CV.pure,CV.br]
theorem AV.tQ(h:x.kE=true) (g:Key→Key):x.kM g=x:=by
 cases x with
 | c x=>simp only [AV.kM,CV.aX h]
 | agg cs=>
  simp only [AV.kE,YU] at h;simp only [AV.kM];congr 1;have:∀ x∈cs,CV.br g x=x:=fun x hx=>CV.aX (h x hx) g
  simpa using Zj this
 | tup l=>cases h
 | undef=>rfl
 | junk=>rfl
theorem AV.aX(h:x.pure=true) (g:Key→Key):x.br g=x:=by
 cases x with
 | c x=>exact AV.tQ (x:=.c x) h g
 | agg cs=>exact AV.tQ (x:=.agg cs) h g
 | tup l=>
  simp only [AV.pure,YU] at h;simp only [AV.br];congr 1;have:∀ x∈l,AV.kM g x=x:=fun x hx=>AV.tQ (h x hx) g
  simpa using Zj this
 | undef=>rfl
 | junk=>rfl
theorem AV.bQ(h:x.pure=true):x.bu=true:=by
 cases x with
 | tup l=>
  simp only [AV.pure,YU] at h;simp only [AV.bu,YU];intro x hx;have:=h x hx
  cases x <;> simp_all [AV.kE]
 | _=>rfl
theorem dn.blind(hl:∀ p∈l,p.2.pure=true∧s.fr p.1=p.2) (kh:Key) (hh:s.lv kh=.hole) (h0:∀ k,c.js k=.hole) :
 dn c s ⟨bq l,fun _=>.hole⟩ (fun _=>kh):=by
 refine⟨fun k=>hh,fun k k' h=>(by cases h),fun t=>?_,fun k h=>absurd (h0 k) h⟩;rcases je (P:=fun t x=>x.pure=true∧s.fr t=x) hl t with h|⟨h1,h2⟩
 ·exact .inl h
 ·exact .inr ⟨AV.bQ h1,by rw [AV.aX h1];exact h2⟩
theorem jV:bn [] []=fun _=>LB.hole:=funext fun k=>ru k
def aH (c:Ctx)(fn:Func)(x:AV):Ex→au→Nat→Prop
 | .normal,s,_|.ret,s,_=>∃ l kh,(∀ p∈l,p.2.pure=true∧s.fr p.1=p.2)∧s.lv kh=.hole∧cM c.P ⟨bq l,fun _=>.hole⟩ fn.results.toList=some x
 | _,_,_=>False
theorem aa.Km(hf:P.funcs[f]?=some fn) (hb:fn.body=some code) (hl:args.length≤fn.ntmps)
 (h:∀ c:Ctx,c.P=P→c.G=G→c.n=fn.ntmps→c.js=(fun _=>.hole)→AW c none code ⟨fun t=>args.getD t .undef,fun _=>.hole⟩ 0 (aH c fn x)):aa P G f args x:=by
 refine aG.ny hf hb hl fun c h1 h2 h3 h4=>?_;rw [jV] at h4 ⊢;refine (AW.mono (fun F β a w hs=>h c h1 h2 h3 h4 F β a w hs) fun e s κ hq=>?_:AW c none code _ 1000 _)
 have fin:(∃ l kh,(∀ p∈l,p.2.pure=true∧s.fr p.1=p.2)∧s.lv kh=.hole∧cM c.P ⟨bq l,fun _=>.hole⟩ fn.results.toList=some x) →
  ∃ s2 g,dn c s s2 g∧s2.lv=bn [] []∧cM c.P s2 fn.results.toList=some x:=by
  rintro⟨l,kh,g1,g2,g3⟩;exact⟨⟨bq l,fun _=>.hole⟩,fun _=>kh,dn.blind g1 kh g2 (fun k=>by rw [h4]),by rw [jV],g3⟩
 cases e with
 | normal=>exact fin hq
 | ret=>exact fin hq
 | exit id=>exact hq.elim
 | goto l=>exact hq.elim
 | panic d=>exact hq.elim
theorem aa.ny(hf:P.funcs[f]?=some fn) (hb:fn.body=some code) (hl:args.length≤fn.ntmps)
 (h:∀ c:Ctx,c.P=P→c.G=G→c.n=fn.ntmps→AW c none code ⟨fun t=>args.getD t .undef,fun _=>.hole⟩ 0 (aH c fn x)):aa P G f args x:=
 aa.Km hf hb hl fun c h1 h2 h3 _=>h c h1 h2 h3
inductive Tr (α:Type) where
 | nil
 | node (l:Tr α) (v:Option α) (r:Tr α)
def Tr.get:Tr α→Nat→Option α
 | .nil,_=>none
 | .node l v r,n=>match n with
  | 0=>v
  | n+1=>bif Nat.beq (n % 2) 0 then l.get (n / 2) else r.get (n / 2)
def Tr.set:Nat→Tr α→Nat→α→Option (Tr α)
 | 0,_,_,_=>none
 | d+1,t,n,x=>
  match t with
  | .nil=>match n with
   | 0=>some (.node .nil (some x) .nil)
   | n+1=>bif Nat.beq (n % 2) 0 then (match Tr.set d .nil (n / 2) x with|some l=>some (.node l none .nil)|none=>none)
    else (match Tr.set d .nil (n / 2) x with|some r=>some (.node .nil none r)|none=>none)
  | .node l v r=>match n with
   | 0=>some (.node l (some x) r)
   | n+1=>bif Nat.beq (n % 2) 0 then (match Tr.set d l (n / 2) x with|some l=>some (.node l v r)|none=>none)
    else (match Tr.set d r (n / 2) x with|some r=>some (.node l v r)|none=>none)
theorem Tr.get_nil(n:Nat):(Tr.nil:Tr α).get n=none:=by unfold Tr.get;rfl
theorem Tr.kQ:∀ {d:Nat}{t t':Tr α}{n:Nat}{x:α},Tr.set d t n x=some t'→∀ m,t'.get m=if m=n then some x else t.get m
 | 0,_,_,_,_,h=>by cases h
 | d+1,t,t',n,x,h=>by
  intro m
  have half:∀ p q:Nat,(p % 2 == q % 2)=true→p≠q→p / 2≠q / 2:=by
   intro p q h1 h2 h3;simp at h1;omega
  cases t with
  | nil=>
   simp only [Tr.set] at h
   cases n with
   | zero=>
    simp only [ai] at h;subst h
    cases m with
    | zero=>simp [Tr.get]
    | succ m=>simp [Tr.get,Tr.get_nil]
   | succ n=>
    simp only at h
    cases hb:Nat.beq (n % 2) 0 with
    | true=>
     rw [hb] at h;simp only [cond_true] at h;split at h
     ·rename_i l hl
      simp only [ai] at h;subst h;have ih:=Tr.kQ hl
      cases m with
      | zero=>simp [Tr.get]
      | succ m=>
       simp only [Tr.get,Tr.get_nil]
       cases hm:Nat.beq (m % 2) 0 with
       | true=>
        simp only [cond_true];rw [ih,Tr.get_nil];have e1:=Y9 hb;have e2:=Y9 hm
        by_cases e:m=n
        ·subst e;simp
        ·rw [if_neg (half m n (by simp;omega) e),if_neg (by omega)]
       | false=>
        simp only [cond_false];rw [if_neg];intro e;have:m=n:=by omega
        subst this;rw [hb] at hm;cases hm
     ·cases h
    | false=>
     rw [hb] at h;simp only [cond_false] at h;split at h
     ·rename_i l hl
      simp only [ai] at h;subst h;have ih:=Tr.kQ hl;have e1:=abk hb
      cases m with
      | zero=>simp [Tr.get]
      | succ m=>
       simp only [Tr.get,Tr.get_nil]
       cases hm:Nat.beq (m % 2) 0 with
       | false=>
        simp only [cond_false];rw [ih,Tr.get_nil];have e2:=abk hm
        by_cases e:m=n
        ·subst e;simp
        ·rw [if_neg (half m n (by simp;omega) e),if_neg (by omega)]
       | true=>
        simp only [cond_true];rw [if_neg];intro e;have:m=n:=by omega
        subst this;rw [hb] at hm;cases hm
     ·cases h
  | node l0 v0 r0=>
   simp only [Tr.set] at h
   cases n with
   | zero=>
    simp only [ai] at h;subst h
    cases m with
    | zero=>simp [Tr.get]
    | succ m=>simp [Tr.get]
   | succ n=>
    simp only at h
    cases hb:Nat.beq (n % 2) 0 with
    | true=>
     rw [hb] at h;simp only [cond_true] at h;split at h
     ·rename_i l hl
      simp only [ai] at h;subst h;have ih:=Tr.kQ hl
      cases m with
      | zero=>simp [Tr.get]
      | succ m=>
       simp only [Tr.get]
       cases hm:Nat.beq (m % 2) 0 with
       | true=>
        simp only [cond_true];rw [ih];have e1:=Y9 hb;have e2:=Y9 hm
        by_cases e:m=n
        ·subst e;simp
        ·rw [if_neg (half m n (by simp;omega) e),if_neg (by omega)]
       | false=>
        simp only [cond_false];rw [if_neg];intro e;have:m=n:=by omega
        subst this;rw [hb] at hm;cases hm
     ·cases h
    | false=>
     rw [hb] at h;simp only [cond_false] at h;split at h
     ·rename_i l hl
      simp only [ai] at h;subst h;have ih:=Tr.kQ hl;have e1:=abk hb
      cases m with
      | zero=>simp [Tr.get]
      | succ m=>
       simp only [Tr.get]
       cases hm:Nat.beq (m % 2) 0 with
       | false=>
        simp only [cond_false];rw [ih];have e2:=abk hm
        by_cases e:m=n
        ·subst e;simp
        ·rw [if_neg (half m n (by simp;omega) e),if_neg (by omega)]
       | true=>
        simp only [cond_true];rw [if_neg];intro e;have:m=n:=by omega
        subst this;rw [hb] at hm;cases hm
     ·cases h
abbrev kX:=AV × List (Key × LB) × List Key × Bool
instance (op:BinOp) (y:Int):Decidable (eV op y):=by unfold eV;cases op <;> infer_instance
instance (op:BinOp) (x y:List UInt8):Decidable (uE op x y):=by unfold uE;cases op <;> infer_instance
def uv (P:Program)(op:BinOp)(T:TypeId)(x y:AV):Option kX:=
 match x,y with
 | .c (.d (.int k m)),.c (.d (.int k' n))=>
  match op with
  | .shl|.shr=>match Rj op k m n with|some d=>some (.c (.d d),[],[],decide (0≤n))|none=>none
  | _=>if k=k' then (match kJ op k m n with|some d=>some (.c (.d d),[],[],decide (eV op n))|none=>none) else none
 | .c (.d (.str m)),.c (.d (.str n))=>match Nq op m n with|some d=>some (.c (.d d),[],[],decide (uE op m n))|none=>none
 | x,y=>
  match op with
  | .eql=>if P.eqGuardType P.depth T || !m8 x then none else match zl P 20 T x y with|some b=>some (.c (.d (.bool b)),[],[],true)|none=>none
  | .neq=>if P.eqGuardType P.depth T || !m8 x then none else match zl P 20 T x y with|some b=>some (.c (.d (.bool (!b))),[],[],true)|none=>none
  | _=>none
def qz (P:Program)(T:TypeId)(lv:Key→LB):AV→Option kX
 | .c (.d (.ptr cs))=>match dQ P T (cs.map CV.d) with|some y=>some (y,[],[],true)|none=>none
 | .c (.ptr k off)=>match lv k with
  | .cells _ _ _ cs=>match dQ P T (cs.drop off) with|some y=>some (y,[],[k],true)|none=>none
  | _=>none
 | _=>none
def ov (P:Program)(T:TypeId)(lv:Key→LB)(x y:AV):Option kX:=
 match x with
 | .c (.ptr k off)=>match lv k with
  | .cells own false T' cs=>match y.cells with
   | some xs=>if (P.info? T).isSome && xs.length == gb P T then some (.undef,[(k,.cells own false T' (aj cs off xs))],[],decide (off+xs.length≤cs.length)) else none
   | none=>none
  | _=>none
 | _=>none
def tT (lv:Key→LB):AV→Option kX
 | .c (.d (.ptr cs))=>some (.c (.d (.ptr cs)),[],[],true)
 | .c (.ptr k n)=>match lv k with|.cells ..=>some (.c (.ptr k n),[],[k],true)|_=>none
 | .c (.d (.func (.func f) fs cs))=>some (.c (.d (.func (.func f) fs cs)),[],[],true)
 | .c (.func (.func f) fs cs)=>some (.c (.func (.func f) fs cs),[],[],true)
 | _=>none
def jF (P:Program)(T:TypeId)(f:Nat)(lv:Key→LB):AV→Option kX
 | .c (.d (.ptr cs))=>match cW P T f with|some (off,_)=>some (.c (.d (.ptr (cs.drop off))),[],[],decide (off≤cs.length))|none=>none
 | .c (.ptr k n)=>match lv k,cW P T f with|.cells ..,some (off,_)=>some (.c (.ptr k (n+off)),[],[k],true)|_,_=>none
 | _=>none
def jD (P:Program)(T:TypeId)(lv:Key→LB)(x i:AV):Option kX:=
 match i with
 | .c (.d (.int _ n))=>
  match x with
  | .c (.d (.sl es))=>match ff P T with
   | some (_,sz)=>some (.c (.d (.ptr (es.getD n.toNat []))),[],[],decide (0≤n∧n<es.length∧(es.getD n.toNat []).length=sz))
   | none=>none
  | .c (.aI k off len sz)=>match lv k,ff P T with
   | .cells ..,some (_,sz')=>if sz=sz' then some (.c (.ptr k (off+n.toNat*sz)),[],[k],decide (0≤n∧n<len)) else none
   | _,_=>none
  | .c (.d (.ptr cs))=>match qX P T with
   | some (len,_,sz)=>some (.c (.d (.ptr (cs.drop (n.toNat*sz)))),[],[],decide (0≤n∧n<len∧n.toNat*sz≤cs.length))
   | none=>none
  | .c (.ptr k off)=>match lv k,qX P T with
   | .cells ..,some (len,_,sz)=>some (.c (.ptr k (off+n.toNat*sz)),[],[k],decide (0≤n∧n<len))
   | _,_=>none
  | _=>none
 | _=>none
def nL (P:Program)(T:TypeId)(x i:AV):Option kX:=
 match i with
 | .c (.d (.int _ n))=>
  match x with
  | .c (.d (.str l))=>if ct P T then some (.c (.d (.int .u8 (l.getD n.toNat 0).toNat)),[],[],decide (0≤n∧n<l.length)) else none
  | .agg cs=>match qX P T with
   | some (len,e,sz)=>match nw P e cs (n.toNat*sz) with|some y=>some (y,[],[],decide (0≤n∧n<len))|none=>none
   | none=>none
  | _=>none
 | _=>none
def oc (P:Program)(T:TypeId)(lv:Key→LB)(x:AV)(lo hi:Option AV):Option kX:=
 match x with
 | .c (.d (.str bs))=>if ct P T then (match dc lo 0,dc hi bs.length with
  | some l,some h=>some (.c (.d (.str ((bs.take h.toNat).drop l.toNat))),[],[],decide (0≤l∧l≤h∧h≤bs.length))
  | _,_=>none) else none
 | .c (.d (.sl es))=>match ff P T with
  | some (_,sz)=>match dc lo 0,dc hi es.length with
   | some l,some h=>some (.c (.d (.sl ((es.take h.toNat).drop l.toNat))),[],[],decide (0≤l∧l≤h∧h≤es.length∧∀ e∈es,e.length=sz))
   | _,_=>none
  | none=>none
 | .c (.d .nilsl)=>match ff P T with
  | some _=>match dc lo 0,dc hi 0 with
   | some l,some h=>some (.c (.d .nilsl),[],[],decide (l=0∧h=0))
   | _,_=>none
  | none=>none
 | .c (.aI k off len sz)=>match lv k,ff P T with
  | .cells ..,some (_,sz')=>if sz=sz' then (match dc lo 0,dc hi len with
   | some l,some h=>some (.c (.aI k (off+l.toNat*sz) (h.toNat - l.toNat) sz),[],[k],decide (0≤l∧l≤h∧h≤len∧(l<h∨l=0)))
   | _,_=>none) else none
  | _,_=>none
 | _=>none
def qg (P:Program)(T:TypeId)(lv:Key→LB)(κ:Key)(x y:AV):Option kX:=
 match x,y with
 | .c (.d (.int _ l)),.c (.d (.int _ m))=>match ff P T,lv κ with
  | some (e,sz),.hole=>match aY P e,bg P e with
   | some zs,some b=>if zs.length=sz∧0<sz then some (.c (.aI κ 0 l.toNat sz),[(κ,.cells true false e (kB l.toNat zs))],[],decide (0≤l∧l≤m∧(b:Int)*m≤281474976710656∧m≤9223372036854775807)) else none
   | _,_=>none
  | _,_=>none
 | _,_=>none
def mY (P:Program)(T:TypeId)(lv:Key→LB)(κ:Key)(y x:AV):Option kX:=
 match ff P T,lv κ with
 | some (e,sz),.hole=>match bg P e,jl lv sz x with
  | some b,some (m,xs)=>
   match y with
   | .c (.d .nilsl)=>some (.c (.aI κ 0 m sz),[(κ,if m=0 then .bk else .cells true false e xs)],keyOf x,decide (m≤9223372036854775807∧m*b≤140737488355328))
   | .c (.aI k off n sz')=>match lv k with
    | .bk=>if off=0∧n=0∧sz'=sz then some (.c (.aI κ 0 m sz),[(κ,if m=0 then .bk else .cells true false e xs)],k::keyOf x,decide (m≤9223372036854775807∧m*b≤140737488355328)) else none
    | .cells own false e' cs=>if off=0∧sz'=sz∧e'=e then
     some (.c (.aI κ 0 (n+m) sz),[(k,.dead),(κ,.cells own false e (cs++xs))],keyOf x,decide (cs.length=n*sz∧n+m≤9223372036854775807∧(n+m)*b≤140737488355328)) else none
    | _=>none
   | _=>none
  | _,_=>none
 | _,_=>none
def jh (P:Program)(T:TypeId)(n:Nat)(ixs:List Nat)(lv:Key→LB)(κ:Key)(vals:List AV):Option kX:=
 match ff P T,lv κ with
 | some (e,sz),.hole=>match aY P e with
  | some zs=>if zs.length=sz∧0<sz∧n*sz≤16777216∧ixs.length=vals.length then (match iT (fun i=>some (i*sz,sz)) (kB n zs) (ixs.zip vals) with
   | some cs=>some (.c (.aI κ 0 n sz),[(κ,.cells true false e cs)],[],true)
   | none=>none) else none
  | none=>none
 | _,_=>none
def qA (P:Program)(T:TypeId)(lv:Key→LB)(y x:AV):Option kX:=
 match y,ff P T with
 | .c (.aI k off n sz),some (_,sz')=>if sz=1∧sz'=1 then (match lv k,jl lv 1 x with
  | .cells own false T' cs,some (m,xs)=>some (.c (.d (.int .i64 ((min m n:Nat):Int))),[(k,.cells own false T' (aj cs off (xs.take (min m n))))],keyOf x,decide (0<m∧off+min m n≤cs.length∧n≤9223372036854775807))
  | _,_=>none) else none
 | _,_=>none
def E3 (x:AV)(n:Int):Bool:=
 match x with
 | .c (.aI ..)=>decide (n≤9223372036854775807)
 | _=>true
theorem Fs{n:Int}(h:E3 x n=true):kV x n:=by
 cases x with
 | c y=>cases y <;> first|exact trivial|simpa [E3,kV] using h
 | _=>exact trivial
def BW (P:Program)(cl:Call)(vals:List AV)(lv:Key→LB)(κ:Key):Option kX:=
 match cl.callee with
 | .builtin .len=>match cl.args.toList,cl.argTypes.toList,vals with
  | [_],[T],[x]=>match lF P T lv x with
   | some n=>some (.c (.d (.int .i64 n)),[],keyOf x,E3 x n)
   | none=>none
  | _,_,_=>none
 | .builtin .append=>match cl.args.toList,cl.argTypes.toList,vals with
  | [_,_],[T,T'],[y,x]=>if T=T' then mY P T lv κ y x else none
  | _,_,_=>none
 | .builtin .copy=>match cl.args.toList,cl.argTypes.toList,vals with
  | [_,_],[T,_],[y,x]=>qA P T lv y x
  | _,_,_=>none
 | .builtin .max=>match eN vals with
  | some (k,n::l)=>some (.c (.d (.int k (l.foldl (fun a b=>if b > a then b else a) n))),[],[],true)
  | _=>none
 | .builtin .min=>match eN vals with
  | some (k,n::l)=>some (.c (.d (.int k (l.foldl (fun a b=>if b<a then b else a) n))),[],[],true)
  | _=>none
 | _=>none
def qY (P:Program)(op:Op)(vals:List AV)(lv:Key→LB)(κ:Key):Option kX:=
 match op,vals with
 | .move _,[x]|.assign _,[x]=>some (x,[],[],true)
 | .pick _ _ _,[t,x,y]=>match t with|.c (.d (.bool true))=>some (x,[],[],true)|.c (.d (.bool false))=>some (y,[],[],true)|_=>none
 | .alloc T,[]=>match aY P T,lv κ with|some xs,.hole=>some (.c (.ptr κ 0),[(κ,.cells true false T xs)],[],true)|_,_=>none
 | .box T _,[x]=>match x.cells,lv κ with|some xs,.hole=>some (.c (.ptr κ 0),[(κ,.cells true false T xs)],[],true)|_,_=>none
 | .build T parts,vals=>match aY P T,sM P T with
  | some zs,some place=>if parts.size=vals.length then (match iT place zs ((parts.toList.map (·.1)).zip vals) with|some cs=>some (.agg cs,[],[],true)|none=>none) else none
  | _,_=>none
 | .buildSlice T n parts,vals=>jh P T n (parts.toList.map (·.1)) lv κ vals
 | .load T _,[x]=>qz P T lv x
 | .store T _ _,[x,y]=>ov P T lv x y
 | .nilCheck _,[x]=>tT lv x
 | .binOp op T _ _ _,[x,y]=>uv P op T x y
 | .unOp op _ _,[x]=>match x with|.c (.d d)=>(match Sx op d with|some d'=>some (.c (.d d'),[],[],true)|none=>none)|_=>none
 | .convert S T _,[x]=>match x with
  | .c (.d (.int _ n))=>match pL P S,pL P T with|some _,some k'=>some (.c (.d (.int k' (k'.wrap n))),[],[],true)|_,_=>none
  | .c (.d (.str l))=>if ct P S && ct P T then some (.c (.d (.str l)),[],[],true) else none
  | _=>none
 | .makeInterface T _,[x]=>match kW x with|some d=>if P.concrete T then some (.c (.d (.iface T d)),[],[],true) else none|none=>none
 | .makeFunc fn first caps,vals=>if vals.length=first.size+caps.size then (match qZ (vals.take first.size),qZ (vals.drop first.size) with
  | some fr,some cr=>some (.c (zI fn fr cr),[],[],true)
  | _,_=>none) else none
 | .makeSlice T _ _,[x,y]=>qg P T lv κ x y
 | .slice T _ lo hi none,x::rest=>match wv lo hi rest with|some (l,h)=>oc P T lv x l h|none=>none
 | .fieldAddr T _ f,[x]=>jF P T f lv x
 | .field T _ f,[x]=>match x with|.agg cs=>(match cW P T f with|some (off,ft)=>(match nw P ft cs off with|some y=>some (y,[],[],true)|none=>none)|none=>none)|_=>none
 | .indexAddr T _ _,[x,i]=>jD P T lv x i
 | .index T _ _,[x,i]=>nL P T x i
 | .extract _ i,[x]=>match x with|.tup l=>(match l[i]? with|some (.tup _)=>none|some y=>some (y,[],[],true)|none=>none)|_=>none
 | .call cl,vals=>BW P cl vals lv κ
 | _,_=>none
inductive Tb (α:Type) where
 | leaf
 | node (l:Tb α) (v:α) (r:Tb α)
inductive Pa where
 | e
 | l (p:Pa)
 | r (p:Pa)
noncomputable def Tb.get(d:α) (t:Tb α) (p:Pa):α:=
 Pa.rec (motive:=fun _=>Tb α→α) (fun t=>Tb.rec (motive:=fun _=>α) d (fun _ v _ _ _=>v) t)
  (fun _ ih t=>Tb.rec (motive:=fun _=>α) d (fun l _ _ _ _=>ih l) t)
  (fun _ ih t=>Tb.rec (motive:=fun _=>α) d (fun _ _ r _ _=>ih r) t) p t
noncomputable def Tb.set(d x:α) (p:Pa) (t:Tb α):Tb α:=
 Pa.rec (motive:=fun _=>Tb α→Tb α) (fun t=>Tb.rec (motive:=fun _=>Tb α) (.node .leaf x .leaf) (fun l _ r _ _=>.node l x r) t)
  (fun _ ih t=>Tb.rec (motive:=fun _=>Tb α) (.node (ih .leaf) d .leaf) (fun l v r _ _=>.node (ih l) v r) t)
  (fun _ ih t=>Tb.rec (motive:=fun _=>Tb α) (.node .leaf d (ih .leaf)) (fun l v r _ _=>.node l v (ih r)) t) p t
noncomputable def Tb.A9(d x:α) (p:Pa) (t:Tb α) (k:Tb α→β):β:=
 Pa.rec (motive:=fun _=>Tb α→(Tb α→β)→β) (fun t k=>Tb.rec (motive:=fun _=>β) (k (.node .leaf x .leaf)) (fun l _ r _ _=>k (.node l x r)) t)
  (fun _ ih t k=>Tb.rec (motive:=fun _=>β) (ih .leaf fun s=>k (.node s d .leaf)) (fun l v r _ _=>ih l fun s=>k (.node s v r)) t)
  (fun _ ih t k=>Tb.rec (motive:=fun _=>β) (ih .leaf fun s=>k (.node .leaf d s)) (fun l v r _ _=>ih r fun s=>k (.node l v s)) t) p t k
theorem Tb.kN(d x:α):∀ (p:Pa) (t:Tb α) (k:Tb α→β),Tb.A9 d x p t k=k (Tb.set d x p t)
 | .e,.leaf,_=>rfl
 | .e,.node _ _ _,_=>rfl
 | .l p,.leaf,k=>Tb.kN d x p .leaf fun s=>k (.node s d .leaf)
 | .l p,.node l v r,k=>Tb.kN d x p l fun s=>k (.node s v r)
 | .r p,.leaf,k=>Tb.kN d x p .leaf fun s=>k (.node .leaf d s)
 | .r p,.node l v r,k=>Tb.kN d x p r fun s=>k (.node l v s)
theorem Tb.dZ(d:α) (p:Pa):Tb.get d .leaf p=d:=by cases p <;> rfl
theorem Tb.kQ(d x:α):∀ (p:Pa) (t:Tb α) (q:Pa) [Decidable (q=p)],Tb.get d (Tb.set d x p t) q=if q=p then x else Tb.get d t q:=by
 intro p
 induction p with
 | e=>
  intro t q _
  cases q with
  | e=>cases t <;> simp [Tb.get,Tb.set]
  | l q=>cases t with
   | leaf=>simp only [reduceCtorEq,if_false];rw [Tb.dZ];exact Tb.dZ d q
   | node l v r=>rw [if_neg (by simp)];rfl
  | r q=>cases t with
   | leaf=>simp only [reduceCtorEq,if_false];rw [Tb.dZ];exact Tb.dZ d q
   | node l v r=>rw [if_neg (by simp)];rfl
 | l p ih=>
  intro t q _
  cases q with
  | l q=>
   have:Decidable (q=p):=Classical.propDecidable _
   cases t with
   | leaf=>
    have h1:Tb.get d (Tb.set d x (.l p) .leaf) (.l q)=Tb.get d (Tb.set d x p .leaf) q:=rfl;rw [h1,ih .leaf q]
    by_cases h:q=p
    ·subst h;simp
    ·have:¬ (Pa.l q=Pa.l p):=fun e=>h (by injection e)
     rw [if_neg h,if_neg this,Tb.dZ,Tb.dZ]
   | node l v r=>
    have h1:Tb.get d (Tb.set d x (.l p) (.node l v r)) (.l q)=Tb.get d (Tb.set d x p l) q:=rfl;rw [h1,ih l q]
    by_cases h:q=p
    ·subst h;simp
    ·have:¬ (Pa.l q=Pa.l p):=fun e=>h (by injection e)
     rw [if_neg h,if_neg this];rfl
  | e=>cases t <;> simp [Tb.get,Tb.set]
  | r q=>cases t <;> simp [Tb.get,Tb.set];cases q <;> rfl
 | r p ih=>
  intro t q _
  cases q with
  | r q=>
   have:Decidable (q=p):=Classical.propDecidable _
   cases t with
   | leaf=>
    have h1:Tb.get d (Tb.set d x (.r p) .leaf) (.r q)=Tb.get d (Tb.set d x p .leaf) q:=rfl;rw [h1,ih .leaf q]
    by_cases h:q=p
    ·subst h;simp
    ·have:¬ (Pa.r q=Pa.r p):=fun e=>h (by injection e)
     rw [if_neg h,if_neg this,Tb.dZ,Tb.dZ]
   | node l v r=>
    have h1:Tb.get d (Tb.set d x (.r p) (.node l v r)) (.r q)=Tb.get d (Tb.set d x p r) q:=rfl;rw [h1,ih r q]
    by_cases h:q=p
    ·subst h;simp
    ·have:¬ (Pa.r q=Pa.r p):=fun e=>h (by injection e)
     rw [if_neg h,if_neg this];rfl
  | e=>cases t <;> simp [Tb.get,Tb.set]
  | l q=>cases t <;> simp [Tb.get,Tb.set];cases q <;> rfl
noncomputable def Ak (f:Nat):Nat→Pa:=
 Nat.rec (motive:=fun _=>Nat→Pa) (fun _=>.e) (fun _ ih n=>Nat.rec (motive:=fun _=>Pa) .e
  (fun m _=>Bool.rec (motive:=fun _=>Pa) (.r (ih (Nat.div m 2))) (.l (ih (Nat.div m 2))) (Nat.beq (Nat.mod m 2) 0)) n) f
noncomputable def pathOf (n:Nat):Pa:=Ak n n
def Pa.num:Pa→Nat
 | .e=>0
 | .l p=>2*p.num+1
 | .r p=>2*p.num+2
theorem uy:∀ (f n:Nat),n≤f→(Ak f n).num=n
 | 0,n,h=>by have:n=0:=by omega
             subst this;rfl
 | f+1,0,_=>rfl
 | f+1,m+1,h=>by
  have ih:=uy f (m / 2) (by omega);show (Bool.rec (motive:=fun _=>Pa) (.r (Ak f (Nat.div m 2))) (.l (Ak f (Nat.div m 2))) (Nat.beq (Nat.mod m 2) 0)).num=m+1;have e:Nat.div m 2=m / 2:=rfl;have e2:Nat.mod m 2=m % 2:=rfl;rw [e,e2]
  cases hb:Nat.beq (m % 2) 0 with
  | true=>
   have:=Y9 hb;show 2*(Ak f (m / 2)).num+1=m+1;rw [ih];omega
  | false=>
   have:=abk hb;show 2*(Ak f (m / 2)).num+2=m+1;rw [ih];omega
theorem qn {n:Nat}(h:pathOf n=pathOf m):n=m:=by
 have h1:=uy n n (aW _);have h2:=uy m m (aW _);unfold pathOf at h;rw [← h1,← h2,h]
noncomputable def jO (t:Tb AV):Nat→AV:=fun i=>t.get .undef (pathOf i)
noncomputable def aV (t:Tb LB):Key→LB:=fun i=>t.get .hole (pathOf i)
theorem Ed (t:Tb AV)(k:Nat)(x:AV):jO (t.set .undef x (pathOf k))=aD (jO t) k x:=by
 funext i;have:Decidable (pathOf i=pathOf k):=Classical.propDecidable _;simp only [jO,aD,Tb.kQ]
 by_cases e:i=k
 ·subst e;simp
 ·rw [if_neg e,if_neg (fun h=>e (qn h))]
theorem Ew (t:Tb LB)(k:Nat)(x:LB):aV (t.set .hole x (pathOf k))=aD (aV t) k x:=by
 funext i;have:Decidable (pathOf i=pathOf k):=Classical.propDecidable _;simp only [aV,aD,Tb.kQ]
 by_cases e:i=k
 ·subst e;simp
 ·rw [if_neg e,if_neg (fun h=>e (qn h))]
noncomputable def dw(n:Nat) (k:Nat→β):β:=Nat.rec (motive:=fun _=>β) (k 0) (fun m _=>k (Nat.succ m)) n
noncomputable def D7(n:Int) (k:Int→β):β:=Int.rec (motive:=fun _=>β) (fun m=>dw m fun m=>k (.ofNat m)) (fun m=>dw m fun m=>k (.negSucc m)) n
theorem gZ(n:Nat) (k:Nat→β):dw n k=k n:=by cases n <;> rfl
theorem DL(n:Int) (k:Int→β):D7 n k=k n:=by cases n with
 | ofNat m=>exact gZ m fun m=>k (.ofNat m)
 | negSucc m=>exact gZ m fun m=>k (.negSucc m)
noncomputable def Aq(b:Bool) (k:Bool→β):β:=Bool.rec (motive:=fun _=>β) (k false) (k true) b
theorem Bi(b:Bool) (k:Bool→β):Aq b k=k b:=by cases b <;> rfl
noncomputable def qI(f:α→(α→β)→β) (l:List α) (k:List α→β):β:=
 List.rec (motive:=fun _=>(List α→β)→β) (fun k=>k []) (fun x _ ih k=>f x fun x=>ih fun l=>k (x::l)) l k
theorem jT {α β:Type}(f:α→(α→β)→β) (hf:∀ x k,f x k=k x):∀ (l:List α) (k:List α→β),qI f l k=k l
 | [],_=>rfl
 | x::l,k=>by
  show f x (fun x=>qI f l fun l=>k (x::l))=_;rw [hf,jT f hf l]
noncomputable def tU(b:UInt8) (k:UInt8→β):β:=dw b.toNat fun n=>k (UInt8.ofNat n)
theorem AU(b:UInt8) (k:UInt8→β):tU b k=k b:=by unfold tU;rw [gZ];simp
noncomputable def F4(d:DV) (k:DV→β):β:=
 DV.casesOn (motive_1:=fun _=>β) d (fun b=>Aq b fun b=>k (.bool b)) (fun q n=>D7 n fun n=>k (.int q n)) (fun s=>qI tU s fun s=>k (.str s)) (k .nilp) (fun cs=>k (.ptr cs)) (k .nilsl)
  (fun es=>k (.sl es)) (fun cs=>k (.agg cs)) (k .nilIface) (fun t v=>k (.iface t v)) (k .nilFunc) (fun f a b=>k (.func f a b)) (k .nilmap)
theorem I9(d:DV) (k:DV→β):F4 d k=k d:=by
 cases d <;> simp only [F4] <;> first|exact Bi _ _|exact DL _ _|exact jT _ AU _ _|rfl
noncomputable def qh(x:CV) (k:CV→β):β:=
 CV.casesOn (motive:=fun _=>β) x (fun d=>F4 d fun d=>k (.d d)) (fun a b=>dw a fun a=>dw b fun b=>k (.ptr a b))
  (fun a b c d=>dw a fun a=>dw b fun b=>dw c fun c=>dw d fun d=>k (.aI a b c d)) (fun a=>dw a fun a=>k (.mapr a)) (fun f a b=>k (.func f a b)) (fun t r=>k (.ifc t r)) (k .junk)
theorem lW(x:CV) (k:CV→β):qh x k=k x:=by
 cases x <;> simp only [qh,I9,gZ]
noncomputable def Cf(x:AV) (k:AV→β):β:=
 AV.casesOn (motive_1:=fun _=>β) x (fun c=>qh c fun c=>k (.c c)) (fun l=>qI qh l fun l=>k (.agg l)) (fun l=>k (.tup l)) (k .undef) (k .junk)
theorem EZ(x:AV) (k:AV→β):Cf x k=k x:=by
 cases x <;> simp only [Cf,lW,jT _ lW]
noncomputable def dY(x:AV) (k:AV→β):β:=
 AV.casesOn (motive_1:=fun _=>β) x (fun c=>qh c fun c=>k (.c c)) (fun l=>qI qh l fun l=>k (.agg l)) (fun l=>qI Cf l fun l=>k (.tup l)) (k .undef) (k .junk)
theorem jc(x:AV) (k:AV→β):dY x k=k x:=by
 cases x <;> simp only [dY,lW,jT _ lW,jT _ EZ]
noncomputable def uN(b:LB) (k:LB→β):β:=
 LB.casesOn (motive:=fun _=>β) b (k .hole) (k .dead) (k .bk) (fun _ fz T cs=>qI qh cs fun cs=>k (.cells false fz T cs)) (fun _ es=>k (.map false es))
def LB.un:LB→LB
 | .cells _ fz T cs=>.cells false fz T cs
 | .map _ es=>.map false es
 | x=>x
def tw (us:List (Key × LB)):List (Key × LB):=us.map fun p=>(p.1,p.2.un)
theorem zW(b:LB) (k:LB→β):uN b k=k b.un:=by
 cases b <;> simp only [uN,LB.un,jT _ lW]
end Go.Am
