/- Helpers: an abstract machine for Go functions, and walks of functions of the program. -/
import Derived.Test.YtfkfimmphlpllaaGreatDoorEn00
import Derived.OrdersIn
import Derived.LoopNIn
import Derived.RangeFuncCalls
import Derived.Lib.AppendStr
import Derived.Lib.UnsafeStr
import Derived.Lib.ConvBytes
import Derived.WideKeyRuns

set_option linter.all false
set_option maxHeartbeats 8000000
set_option maxRecDepth 100000
namespace Go.Am
variable {o:Oper}{f:FuncId}{x fv y:AV}{us:List (Key × LB)}{i id n κ:Nat}{P:Program}{lv lv':Key→LB}{Q:Exit→Act→World→Prop}{s s0 s':aB}{ops:Array Oper}{k kh:Key}{ν σ σ':List LB}{cl:Call}{fo:Operand}{fs cs:List AV}{w:World}{b own:Bool}{rds l sel nk ks:List Key}{G:List (List DV)}{fr:Nat→AV}{r:Option Nat}{a:Act}{V:Vw}{v u:Value}{fn:Func}{T:TypeId}{α:Type}{args:Array Value}{K:Act→World→Prop}{F:Nat→Prop}{β:Key→Nat}{code:Code}
theorem ou (lv:Key→LB)(p:Key × LB)(us:List (Key × LB)):bk lv (p::us)=bk (aG lv p.1 p.2) us:=rfl
theorem Dr (lv:Key→LB)(us vs:List (Key × LB)):bk lv (us++vs)=bk (bk lv us) vs:=by
 simp [bk,List.foldl_append]
theorem cB:∀ {lv:Key→LB}{k:Key},k ∉ us.map (·.1)→bk lv us k=lv k:=by
 induction us with
 | nil=>intro lv k _;rfl
 | cons p us ih=>
  intro lv k h;simp only [List.map_cons,List.mem_cons,not_or] at h;rw [ou,ih h.2,aF _ _ h.1]
theorem jS:∀ {lv:Key→LB}{k:Key}{b:LB},(us.map (·.1)).Nodup→(k,b)∈us→bk lv us k=b:=by
 induction us with
 | nil=>intro lv k b _ h;cases h
 | cons p us ih=>
  intro lv k b hn h;simp only [List.map_cons,List.nodup_cons] at hn;rw [ou];rcases List.mem_cons.1 h with rfl|h
  ·rw [cB hn.1,aA]
  ·exact ih hn.2 h
section
variable {c:Ctx}{F:Nat→Prop}{β:Key→Nat}{s:aB}{a:Act}{w:World}
theorem aC.Gh:∀ {Z:List (Key × TypeId × List CV)}{F:Nat→Prop}{lv:Key→LB},aC c F β ⟨fr,lv⟩ a w→(Z.map (·.1)).Nodup→(∀ z∈Z,lv z.1=.cells true false z.2.1 z.2.2) →
 ∃ F',aC c F' β ⟨fr,bk lv (eU Z)⟩ a w∧∀ b,F b→F' b
 | [],F,lv,h,_,_=>⟨F,h,fun _ hb=>hb⟩
 | z::Z,F,lv,h,hn,hz=>by
  simp only [List.map_cons,List.nodup_cons] at hn;have h1:=h.freeze (k:=z.1) (hz z (by simp))
  obtain⟨F',h2,h3⟩:=aC.Gh (Z:=Z) h1 hn.2 (fun y hy=>by
   have hne:y.1≠z.1:=fun e=>hn.1 (e ▸ List.mem_map_of_mem hy)
   rw [aF _ _ hne];exact hz y (by simp [hy]))
  exact⟨F',h2,fun b hb=>h3 b (.inl hb)⟩
theorem idxOf_getElem(hn:l.Nodup)(hi:i<l.length):l.idxOf? l[i]=some i:=by
 rw [List.idxOf?_eq_some_iff];refine⟨hi,by simp,fun j hj=>?_⟩
 have:l[j]'(by omega)≠l[i]:=fun e=>by
  have:=List.pairwise_iff_getElem.1 hn j i (by omega) hi hj;exact this e
 simpa using this
theorem DB(h:k ∉ l):l.idxOf? k=none:=by
 rw [List.idxOf?_eq_none_iff];exact h
theorem kU(h:k<1000):bF σ ν k=σ.getD k .hole:=by simp [bF,h]
theorem qq(h:¬ k<1000):bF σ ν k=ν.getD (k - 1000) .hole:=by simp [bF,h]
theorem cC{l:List α}{d:α}(h:i<l.length):l.getD i d=l[i]:=by
 rw [List.getD_eq_getElem?_getD,List.getElem?_eq_getElem h];rfl
theorem cL{l:List α}{d:α}(h:¬ i<l.length):l.getD i d=d:=by
 rw [List.getD_eq_getElem?_getD,List.getElem?_eq_none (by omega)];rfl
theorem L4(hn:(sel++nk).Nodup)
 (hl1:sel.length=σ.length) (hl2:σ'.length=σ.length) (hl3:nk.length=ν.length) (hb:σ.length≤1000)
 (hsel:∀ i (h:i<sel.length) (h':i<σ.length),(lv sel[i]).as σ[i] (aJ sel nk kh)) (hnk:∀ k∈nk,lv k=.hole) (hh:lv kh=.hole)
 (hpass:∀ b∈σ,b.pass=true) (hnh:∀ b,b∈σ++σ'++ν→b≠.hole) (hown:own=true→∀ k∈sel,(lv k).CB=true) :
 ue ⟨fr,lv⟩ (aJ sel nk kh) (qd sel nk) (bF σ []) (bF σ' ν) own:=by
 have hns:sel.Nodup:=(List.nodup_append.1 hn).1;have hnn:nk.Nodup:=(List.nodup_append.1 hn).2.1;have hdis:∀ x∈sel,∀ y∈nk,x≠y:=(List.nodup_append.1 hn).2.2
 have hL:∀ k:Nat,bF σ [] k≠.hole→k<1000∧k<σ.length:=by
  intro k hk
  by_cases h1:k<1000
  ·rw [kU h1] at hk
   by_cases h2:k<σ.length
   ·exact⟨h1,h2⟩
   ·rw [cL h2] at hk;exact absurd rfl hk
  ·rw [qq h1] at hk;simp at hk
 refine⟨?_,?_,?_,?_,?_,?_⟩
 ·intro k;change Nat at k
  by_cases hk:bF σ [] k=.hole
  ·rw [hk];rfl
  ·obtain⟨h1,h2⟩:=hL k hk;rw [kU h1,cC h2];exact hpass _ (List.getElem_mem h2)
 ·intro k;change Nat at k
  by_cases h1:k<1000
  ·by_cases h2:k<σ.length
   ·have h3:aJ sel nk kh k=sel[k]'(by omega):=by simp only [aJ,if_pos h1];exact cC (by omega)
    rw [kU h1,cC h2];show (lv (aJ sel nk kh k)).as _ _;rw [h3];exact hsel k (by omega) h2
   ·have h3:aJ sel nk kh k=kh:=by simp only [aJ,if_pos h1];exact cL (by omega)
    rw [kU h1,cL h2];show lv (aJ sel nk kh k)=.hole;rw [h3];exact hh
  ·rw [qq h1];show (lv (aJ sel nk kh k)).as (List.getD [] (k - 1000) .hole) _;have h4:List.getD ([]:List LB) (k - 1000) .hole=.hole:=by simp
   rw [h4];show lv (aJ sel nk kh k)=.hole
   by_cases h2:k - 1000<nk.length
   ·have h3:aJ sel nk kh k=nk[k - 1000]:=by simp only [aJ,if_neg h1];exact cC h2
    rw [h3];exact hnk _ (List.getElem_mem h2)
   ·have h3:aJ sel nk kh k=kh:=by simp only [aJ,if_neg h1];exact cL h2
    rw [h3];exact hh
 ·intro k' k h;change Nat at k;unfold qd at h;split at h
  ·rename_i j hj
   simp only [Option.some.injEq] at h;subst h;rw [List.idxOf?_eq_some_iff] at hj;obtain⟨hlt,he,_⟩:=hj;have h1:j<1000:=by omega
   refine⟨?_,?_⟩
   ·simp only [aJ,if_pos h1];rw [cC hlt];simpa using he
   ·rw [kU h1,cC (by omega)];exact hnh _ (by simp [List.getElem_mem])
  ·split at h
   ·rename_i j hj
    simp only [Option.some.injEq] at h;subst h;rw [List.idxOf?_eq_some_iff] at hj;obtain⟨hlt,he,_⟩:=hj;have h1:¬ 1000+j<1000:=by omega
    refine⟨?_,?_⟩
    ·simp only [aJ,if_neg h1,Nat.add_sub_cancel_left];rw [cC hlt];simpa using he
    ·rw [qq h1,Nat.add_sub_cancel_left,cC (by omega)];exact hnh _ (by simp [List.getElem_mem])
   ·cases h
 ·intro k hk;change Nat at k
  by_cases h1:k<1000
  ·rw [kU h1] at hk
   have h2:k<σ'.length:=by
    rcases Nat.lt_or_ge k σ'.length with h|h
    ·exact h
    ·rw [cL (by omega)] at hk;exact absurd rfl hk
   have h3:aJ sel nk kh k=sel[k]'(by omega):=by simp only [aJ,if_pos h1];exact cC (by omega)
   rw [h3];unfold qd;rw [idxOf_getElem hns (by omega)]
  ·obtain⟨m,rfl⟩:∃ m:Nat,k=1000+m:=⟨k - 1000,by omega⟩
   rw [qq h1,Nat.add_sub_cancel_left] at hk
   have h2:m<ν.length:=by
    rcases Nat.lt_or_ge m ν.length with h|h
    ·exact h
    ·rw [cL (by omega)] at hk;exact absurd rfl hk
   have h4:m<nk.length:=by omega
   have h3:aJ sel nk kh (1000+m)=nk[m]'h4:=by
    unfold aJ;rw [if_neg h1,Nat.add_sub_cancel_left];exact cC h4
   rw [h3];unfold qd;rw [DB (fun hm=>hdis _ hm _ (List.getElem_mem h4) rfl),idxOf_getElem hnn h4]
 ·intro k hk;change Nat at k;obtain⟨h1,h2⟩:=hL k hk;rw [kU h1,cC (by omega)];exact hnh _ (by simp [List.getElem_mem])
 ·intro ho k hk;change Nat at k;obtain⟨h1,h2⟩:=hL k (iy hk);have h3:aJ sel nk kh k=sel[k]'(by omega):=by simp only [aJ,if_pos h1];exact cC (by omega)
  show (lv (aJ sel nk kh k)).CB=true;rw [h3];exact hown ho _ (List.getElem_mem _)
theorem ki (g:Key→Key)(own:Bool):∀ (ks:List Key) (bs:List LB),ks.length=bs.length→(cH g own ks bs).map (·.1)=ks
 | [],[],_=>rfl
 | k::ks,b::bs,h=>by
  have:=ki g own ks bs (by simpa using h);simp only [cH,List.zipWith_cons_cons,List.map_cons] at this ⊢;rw [this]
 | [],_::_,h=>by simp at h
 | _::_,[],h=>by simp at h
theorem zh (g:Key→Key)(own:Bool){bs:List LB}(h:i<ks.length) (h':i<bs.length):(ks[i],(bs[i].b6 g).fix own)∈cH g own ks bs:=by
 unfold cH;rw [List.mem_iff_getElem];exact⟨i,by simp;omega,by simp⟩
theorem DR(hn:(sel++nk).Nodup)
 (hl2:sel.length=σ'.length) (hl3:nk.length=ν.length) (hb:σ'.length≤1000) :
 eM ⟨fr,lv⟩ (aJ sel nk kh) (qd sel nk) (bF σ' ν) own=bk lv (cH (aJ sel nk kh) own sel σ'++cH (aJ sel nk kh) own nk ν):=by
 funext k'
 have hkeys:(cH (aJ sel nk kh) own sel σ'++cH (aJ sel nk kh) own nk ν).map (·.1)=sel++nk:=by
  rw [List.map_append,ki _ _ _ _ hl2,ki _ _ _ _ hl3]
 unfold eM qd
 cases h1:sel.idxOf? k' with
 | some j=>
  rw [List.idxOf?_eq_some_iff] at h1;obtain⟨hlt,he,_⟩:=h1;have he:sel[j]=k':=by simpa using he
  subst he;simp only;rw [jS (by rw [hkeys];exact hn) (List.mem_append_left _ (zh _ own hlt (by omega)))];have hlt':j<σ'.length:=by omega
  have hlt2:(show Nat from j)<1000:=by show j<1000;omega
  rw [kU hlt2,cC hlt']
 | none=>
  have h1':k' ∉ sel:=by rwa [List.idxOf?_eq_none_iff] at h1
  simp only
  cases h2:nk.idxOf? k' with
  | some j=>
   rw [List.idxOf?_eq_some_iff] at h2;obtain⟨hlt,he,_⟩:=h2;have he:nk[j]=k':=by simpa using he
   subst he;simp only;rw [jS (by rw [hkeys];exact hn) (List.mem_append_right _ (zh _ own hlt (by omega)))];have hlt':j<ν.length:=by omega
   have hlt2:¬ (show Nat from 1000+j)<1000:=by show ¬ 1000+j<1000;omega
   rw [qq hlt2,Nat.add_sub_cancel_left,cC hlt']
  | none=>
   have h2':k' ∉ nk:=by rwa [List.idxOf?_eq_none_iff] at h2
   simp only;rw [cB (by rw [hkeys];simp [h1',h2'])]
theorem jF (Z:List (Key × TypeId × List CV)):(eU Z).map (·.1)=Z.map (·.1):=by simp [eU]
theorem bU.OE(hd:∀ d,o.dst=some d→d<c.n) (ho:o.op=.call cl) (hcal:cl.callee=.value fo)
 (hfo:s.val c.G fo=fv) (ht:cj fv=some (f,fs,cs)) (hf:aI c.P f=true) (he:bU c f (fs++cl.args.toList.map (s.val c.G)++cs) s.lv x us rds) :
 bZ c o s (aB.put ⟨s.fr,bk s.lv us⟩ o.dst x):=by
 cases he with
 | flat us' ks rds x ha hc hx hr=>exact bU.JW hd ho hcal hfo ht hf ha hc hx
 | gen us Z sel nk kh σ σ' ν x own rds hZ hZn hn hZs hkh hkZ hl1 hl2 hl3 hb hsel hnk hh hpass hnh hown hlen hargs hrd hrh hc=>
  intro F β a w K Q h hK;refine Fj h ho hcal hfo ht hf fun vs hl hv=>?_;obtain⟨F1,h1,hF1⟩:=aC.Gh (Z:=Z) (lv:=s.lv) h hZn hZ
  have hsame:∀ k,(∀ z∈Z,z.1≠k)→bk s.lv (eU Z) k=s.lv k:=fun k hk=>cB (by
   rw [jF];intro hm;obtain⟨z,hz,e⟩:=List.mem_map.1 hm;exact hk z hz e)
  have hB:ue ⟨s.fr,bk s.lv (eU Z)⟩ (aJ sel nk kh) (qd sel nk) (bF σ []) (bF σ' ν) own:=by
   refine L4 hn hl1 hl2 hl3 hb (fun i p q=>?_) (fun k hk=>?_) ?_ hpass hnh (fun ho k hk=>?_)
   ·rw [hsame _ (fun z hz e=>hZs z hz (by rw [e];simp [List.getElem_mem]))];exact hsel i p q
   ·rw [hsame _ (fun z hz e=>hZs z hz (by rw [e];simp [hk]))];exact hnk k hk
   ·rw [hsame _ hkZ];exact hh
   ·rw [hsame _ (fun z hz e=>hZs z hz (by rw [e];simp [hk]))];exact hown ho k hk
  have hR:=hB.b6 (F:=F1) (β:=β) (w:=w)
  have hK1:∀ v x,(Vw.mk F β s.lv w).av v x→(Vw.mk F1 β (bk s.lv (eU Z)) w).av v x:=by
   intro v x hv;refine (Vw.iA (V:=Vw.mk F β s.lv w) (V':=Vw.mk F1 β (bk s.lv (eU Z)) w) hF1 (fun _ _=>rfl) (fun k=>?_) (fun _ _ _=>rfl) (fun _=>Nat.le_refl _)).av hv;show (s.lv k).sub (bk s.lv (eU Z) k)
   by_cases hk:k∈Z.map (·.1)
   ·obtain⟨z,hz,rfl⟩:=List.mem_map.1 hk;rw [hZ z hz,jS (b:=.cells true true z.2.1 z.2.2) (by rw [jF];exact hZn) (by simp only [eU,List.mem_map];exact⟨z,hz,rfl⟩)];simp [LB.sub]
   ·rw [cB (by rw [jF];exact hk)];exact LB.bz _
  refine (hc F1 (fun k=>β (aJ sel nk kh k)) w vs (h1.enter hB) (by omega) (fun i p q=>?_)).mono fun e w' he=>?_
  ·have C4:=hK1 _ _ (hv i (by omega) q);rcases hargs i (by omega) p with ⟨g1,g2⟩|⟨ks,g1,g2⟩
   ·rw [g2] at C4;exact hR.av g1 C4
   ·exact h1.s9.fI (fun _ hb=>hb) g1 (fun k hk=>by
     obtain⟨own',T,cs',e⟩:=g2 k hk;have hb:=h1.bH k;unfold Vw.bH at hb;simp only [e] at hb;obtain⟨arr,p1,p2,p3,p4,p5⟩:=hb;exact p4) C4
  ·obtain⟨v,F',β',rfl,hS',hav⟩:=he;have hbk:=h1.back hB hS';have hup:=(hB.up (β:=β) F' β' w').av hav;rw [DR hn (by omega) hl3 (by omega)] at hbk hup;rw [← Dr,← List.append_assoc] at hbk hup;exact⟨v,rfl,hK _ _ _ _ (hbk.zT hd hup)⟩
end
theorem kL {f g:CV→Option (DV × List Key)}:∀ {cs:List CV},(∀ x∈cs,f x=g x)→fS f cs=fS g cs
 | [],_=>rfl
 | x::r,h=>by simp only [fS,h x (by simp),kL (cs:=r) (fun y hy=>h y (by simp [hy]))]
theorem iB {α β:Type}{f g:α→List β}:∀ {l:List α},(∀ x∈l,f x=g x)→l.flatMap f=l.flatMap g
 | [],_=>rfl
 | x::r,h=>by simp only [List.flatMap_cons,h x (by simp),iB (l:=r) (fun y hy=>h y (by simp [hy]))]
theorem lZ {lv lv':Key→LB}:∀ (n:Nat) (x:CV),(∀ k∈ld lv n x,lv' k=lv k)→dx lv' n x=dx lv n x∧ld lv' n x=ld lv n x
 | n+1,.ptr k off,h=>by
  have h1:lv' k=lv k:=h k (by simp [ld]);simp only [dx,ld,h1]
  cases e:lv k with
  | cells own fz T cs=>
   have ih:∀ x∈cs,dx lv' n x=dx lv n x∧ld lv' n x=ld lv n x:=fun x hx=>lZ n x fun k' hk'=>h k' (by
    simp only [ld,e,List.mem_cons,List.mem_flatMap];exact .inr ⟨x,hx,hk'⟩)
   simp only;refine⟨?_,?_⟩
   ·rw [kL (fun x hx=>(ih x (List.mem_of_mem_drop hx)).1)]
   ·congr 1;exact iB fun x hx=>(ih x hx).2
  | _=>exact⟨rfl,rfl⟩
 | n+1,.aV k off len sz,h=>by
  have h1:lv' k=lv k:=h k (by simp [ld]);simp only [dx,ld,h1]
  cases e:lv k with
  | cells own fz T cs=>
   have ih:∀ x∈cs,dx lv' n x=dx lv n x∧ld lv' n x=ld lv n x:=fun x hx=>lZ n x fun k' hk'=>h k' (by
    simp only [ld,e,List.mem_cons,List.mem_flatMap];exact .inr ⟨x,hx,hk'⟩)
   simp only;refine⟨?_,?_⟩
   ·rw [kL (fun x hx=>(ih x (List.mem_of_mem_drop (List.mem_of_mem_take hx))).1)]
   ·congr 1;exact iB fun x hx=>(ih x hx).2
  | _=>exact⟨rfl,rfl⟩
 | n,.d x,_=>by cases n <;> exact⟨rfl,rfl⟩
 | 0,.ptr ..,_=>⟨rfl,rfl⟩
 | 0,.aV ..,_=>⟨rfl,rfl⟩
 | n,.mapr _,_=>by cases n <;> exact⟨rfl,rfl⟩
 | n,.func ..,_=>by cases n <;> exact⟨rfl,rfl⟩
 | n,.ifc ..,_=>by cases n <;> exact⟨rfl,rfl⟩
 | n,.junk,_=>by cases n <;> exact⟨rfl,rfl⟩
theorem oh {f:CV→Option (DV × List Key)}{g:CV→List Key}:∀ {cs:List CV}{l:List DV}{ks:List Key},(∀ x∈cs,∀ d ks,f x=some (d,ks)→∀ k∈ks,k∈g x)→fS f cs=some (l,ks)→∀ k∈ks,k∈cs.flatMap g
 | [],l,ks,_,h=>by simp only [fS,Option.some.injEq,Prod.mk.injEq] at h;obtain⟨rfl,rfl⟩:=h;simp
 | x::r,l,ks,hf,h=>by
  simp only [fS] at h;split at h
  ·rename_i d k l' ks' h1 h2
   simp only [Option.some.injEq,Prod.mk.injEq] at h;obtain⟨rfl,rfl⟩:=h;intro y hy;simp only [List.flatMap_cons,List.mem_append];rcases List.mem_append.1 hy with h|h
   ·exact .inl (hf x (by simp) _ _ h1 y h)
   ·exact .inr (oh (fun x hx=>hf x (by simp [hx])) h2 y h)
  ·cases h
theorem qj {lv:Key→LB}:∀ (n:Nat) (x:CV) (d:DV) (ks:List Key),dx lv n x=some (d,ks)→∀ k∈ks,k∈ld lv n x
 | n,.d x,d,ks,h=>by simp only [dx,Option.some.injEq,Prod.mk.injEq] at h;obtain⟨rfl,rfl⟩:=h;simp
 | n+1,.ptr k off,d,ks,h=>by
  simp only [dx] at h;simp only [ld];split at h
  ·rename_i own fz T cs e
   split at h
   ·rw [Option.map_eq_some_iff] at h;obtain⟨⟨l,ks'⟩,ht,he⟩:=h;simp only [Prod.mk.injEq] at he;obtain⟨rfl,rfl⟩:=he;intro y hy;rcases List.mem_cons.1 hy with rfl|hy
    ·simp
    ·have:=oh (g:=ld lv n) (fun x _ d ks hx=>qj n x d ks hx) ht y hy;obtain⟨x,hx,hk⟩:=List.mem_flatMap.1 this
     try rw [e]
     exact List.mem_cons_of_mem _ (List.mem_flatMap.2 ⟨x,List.mem_of_mem_drop hx,hk⟩)
   ·cases h
  ·cases h
 | n+1,.aV k off len sz,d,ks,h=>by
  simp only [dx] at h;simp only [ld];split at h
  ·rename_i own fz T cs e
   split at h
   ·rw [Option.map_eq_some_iff] at h;obtain⟨⟨l,ks'⟩,ht,he⟩:=h;simp only [Prod.mk.injEq] at he;obtain⟨rfl,rfl⟩:=he;intro y hy;rcases List.mem_cons.1 hy with rfl|hy
    ·simp
    ·have:=oh (g:=ld lv n) (fun x _ d ks hx=>qj n x d ks hx) ht y hy;obtain⟨x,hx,hk⟩:=List.mem_flatMap.1 this
     try rw [e]
     exact List.mem_cons_of_mem _ (List.mem_flatMap.2 ⟨x,List.mem_of_mem_drop (List.mem_of_mem_take hx),hk⟩)
   ·cases h
  ·simp only [Option.some.injEq,Prod.mk.injEq] at h;obtain⟨rfl,rfl⟩:=h;simp
  ·cases h
 | 0,.ptr ..,_,_,h=>by cases h
 | 0,.aV ..,_,_,h=>by cases h
 | n,.mapr _,_,_,h=>by cases n <;> cases h
 | n,.func ..,_,_,h=>by cases n <;> cases h
 | n,.ifc ..,_,_,h=>by cases n <;> cases h
 | n,.junk,_,_,h=>by cases n <;> cases h
theorem mh(h:∀ k∈om lv x,lv' k=lv k):fI lv' x=fI lv x∧om lv' x=om lv x:=by
 cases x with
 | c x=>obtain⟨h1,h2⟩:=lZ 8 x h;exact⟨by simp only [fI,h1],h2⟩
 | agg cs=>
  have ih:∀ x∈cs,dx lv' 8 x=dx lv 8 x∧ld lv' 8 x=ld lv 8 x:=fun x hx=>lZ 8 x fun k hk=>h k (List.mem_flatMap.2 ⟨x,hx,hk⟩)
  exact⟨by simp only [fI,kL (fun x hx=>(ih x hx).1)],iB fun x hx=>(ih x hx).2⟩
 | tup l=>exact⟨rfl,rfl⟩
 | undef=>exact⟨rfl,rfl⟩
 | junk=>exact⟨rfl,rfl⟩
theorem KO(h:fI lv x=some (y,ks)):∀ k∈ks,k∈om lv x:=by
 cases x with
 | c x=>
  simp only [fI,Option.map_eq_some_iff] at h;obtain⟨⟨d,ks'⟩,ht,he⟩:=h;simp only [Prod.mk.injEq] at he;obtain⟨rfl,rfl⟩:=he;exact qj _ _ _ _ ht
 | agg cs=>
  simp only [fI,Option.map_eq_some_iff] at h;obtain⟨⟨d,ks'⟩,ht,he⟩:=h;simp only [Prod.mk.injEq] at he;obtain⟨rfl,rfl⟩:=he;exact oh (fun x _ d ks hx=>qj 8 x d ks hx) ht
 | tup l=>cases h
 | undef=>cases h
 | junk=>cases h
theorem tT {lv lv':Key→LB}:∀ {xs:List AV},(∀ a∈xs,∀ k∈om lv a,lv' k=lv k)→jt lv' xs=jt lv xs
 | [],_=>rfl
 | x::r,h=>by simp only [jt,(mh (h x (by simp))).1,tT (xs:=r) (fun a ha=>h a (by simp [ha]))]
theorem bU.local {c:Ctx}{xs:List AV}(h:bU c f xs lv x us rds) (ha:Agree lv lv' us rds):bU c f xs lv' x us rds:=by
 obtain⟨ha1,ha2⟩:=ha
 cases h with
 | flat us' ks rds x hd hc hx hr=>
  have hl:∀ a∈xs,∀ k∈om lv a,lv' k=lv k:=fun a h k hk=>ha1 k (hr a h k hk)
  exact .flat us' ks rds x (by rw [tT hl];exact hd) hc hx (fun a h k hk=>hr a h k (by rw [(mh (hl a h)).2] at hk;exact hk))
 | gen us Z sel nk kh σ σ' ν x own rds hZ hZn hn hZs hkh hkZ hl1 hl2 hl3 hb hsel hnk hh hpass hnh hown hlen hargs hrd hrh hc=>
  have hkeysZ:∀ z∈Z,lv' z.1=lv z.1:=fun z hz=>ha2 (z.1,.cells true true z.2.1 z.2.2) (by
   refine List.mem_append_left _ (List.mem_append_left _ ?_);simp only [eU,List.mem_map];exact⟨z,hz,rfl⟩)
  have hks:∀ i (h:i<sel.length),lv' sel[i]=lv sel[i]:=fun i h=>by
   have hm:sel[i]∈(cH (aJ sel nk kh) own sel σ').map (·.1):=by rw [ki _ _ _ _ (by omega)];exact List.getElem_mem h
   obtain⟨p,hp,e⟩:=List.mem_map.1 hm;rw [← e];exact ha2 p (List.mem_append_left _ (List.mem_append_right _ hp))
  have hkn:∀ k∈nk,lv' k=lv k:=fun k hk=>by
   have hm:k∈(cH (aJ sel nk kh) own nk ν).map (·.1):=by rw [ki _ _ _ _ (by omega)];exact hk
   obtain⟨p,hp,e⟩:=List.mem_map.1 hm;rw [← e];exact ha2 p (List.mem_append_right _ hp)
  have hfr:∀ k,(k∈rds∨k∈Z.map (·.1))→bk lv' (eU Z) k=bk lv (eU Z) k:=by
   intro k hk
   by_cases hz:k∈(eU Z).map (·.1)
   ·obtain⟨p,hp,e⟩:=List.mem_map.1 hz;have hn':((eU Z).map (·.1)).Nodup:=by rw [jF];exact hZn
    obtain⟨k',b⟩:=p;simp only at e;subst e;rw [jS hn' hp,jS hn' hp]
   ·rw [cB hz,cB hz];rcases hk with hk|hk
    ·exact ha1 k hk
    ·rw [jF] at hz;exact absurd hk hz
  have hla:∀ a∈xs,∀ k∈om (bk lv (eU Z)) a,bk lv' (eU Z) k=bk lv (eU Z) k:=fun a h k hk=>hfr k (hrd a h k hk)
  refine .gen us Z sel nk kh σ σ' ν x own rds (fun z hz=>by rw [hkeysZ z hz];exact hZ z hz) hZn hn hZs hkh hkZ hl1 hl2 hl3 hb (fun i p q=>by rw [hks i p];exact hsel i p q)
   (fun k hk=>by rw [hkn k hk];exact hnk k hk) (by rw [ha1 kh hrh];exact hh) hpass hnh (fun ho k hk=>?_) hlen (fun i p q=>?_) (fun a h k hk=>?_) hrh hc
  ·obtain⟨i,hi,rfl⟩:=List.mem_iff_getElem.1 hk;rw [hks i hi];exact hown ho _ (List.getElem_mem hi)
  ·rcases hargs i p q with ⟨g1,g2⟩|⟨ks,g1,g2⟩
   ·exact .inl ⟨g1,g2⟩
   ·refine .inr ⟨ks,by rw [(mh (hla _ (List.getElem_mem p))).1];exact g1,fun k hk=>?_⟩;rw [hla _ (List.getElem_mem p) k (KO g1 k hk)];exact g2 k hk
  ·rw [(mh (hla a h)).2] at hk;exact hrd a h k hk
def od (r:Option Nat):Fence:={ Fence.wide with round:=r }
theorem C5{R:Ending→World→Prop}(h:Calls P f args w R):CallsIn (od r) n P f args w R:=
 (callsIn_wide (n:=n)).2 h
theorem Eh{row:String}{R:Value→World→Prop}(h:Rows P row args w R):RowsIn (od r) n P row args w R:=
 fun c cs _=>let ⟨v,w',hr,hs⟩:=h c cs;⟨v,w',hr,stepsIn_wide.2 hs⟩
theorem qw(hd:∀ c,o.op≠.defer c) (h:o.wp P a w K Q) :
 o.wpIn (od r) n P a w K Q:=by
 refine⟨fun _ _=>trivial,?_⟩;rw [Oper.semAt_eq _ _ _ hd];unfold Oper.wp at h;generalize (execOp a.eval o).run P w=res at *
 have hdep:∀ m:Nat,(od r).depth.isSome=true→1≤m:=fun m h=>by simp [od,Fence.wide] at h
 cases res with
 | ok x w'=>
  cases x <;> simp only [Oper.upon] at h <;> simp only [Oper.uponIn] <;> first|exact h|exact⟨hdep _,C5 h⟩|exact⟨hdep _,Eh h⟩|exact h.elim
 | halt x w'=>cases x <;> simp only [Oper.upon] at h <;> simp only [Oper.uponIn] <;> first|exact h|exact h.elim
def dP (ops:Array Oper)(g:Option (Nat × Bool))(fr:Nat→AV):Option Bool:=
 match g with
 | none=>some true
 | some (j,want)=>match (ops[j]?).bind (·.dst) with
  | some d=>match fr d with
   | .c (.d (.bool b))=>some (b == want)
   | .undef=>some false
   | _=>none
  | none=>none
section
variable {c:Ctx}{F:Nat→Prop}{β:Key→Nat}{s:aB}{a:Act}{w:World}{ops:Array Oper}
theorem fT(h:aC c F β s a w) (hw:dP ops o.guard s.fr=some b):Region.wanted o (yielded ops a.tmps)=b:=by
 unfold dP at hw;unfold Region.wanted;split at hw
 ·rename_i hg;rw [hg];simpa using hw
 ·rename_i j want hg
  rw [hg];simp only;split at hw
  ·rename_i d hd
   have hv:=h.fr d;unfold yielded;rw [hd];simp only [Option.bind_some];split at hw
   ·rename_i b' hb
    rw [hb] at hv;have hv':=Vw.pY hv;simp only [Option.some.injEq] at hw;subst hw
    have hq:a.tmps[d]?=some (.bool b'):=by
     cases e:a.tmps[d]? with
     | none=>rw [Array.getD_eq_getD_getElem?,e] at hv';cases hv'
     | some v=>rw [Array.getD_eq_getD_getElem?,e] at hv';simp at hv';rw [hv']
    rw [hq];cases b' <;> cases want <;> rfl
   ·rename_i hb
    rw [hb] at hv;simp only [Option.some.injEq] at hw;subst hw;have hv':a.tmps.getD d undef=undef:=hv
    cases e:a.tmps[d]? with
    | none=>rfl
    | some v=>
     rw [Array.getD_eq_getD_getElem?,e] at hv';simp at hv';subst hv';rfl
   ·cases hw
  ·cases hw
end
structure Fx where
 x:AV
 us:List (Key × LB)
 rds:List Key
variable {e e':Fx}{es:List Fx}
def Fx.app (e:Fx)(dst:Option Nat)(s:aB):aB:=aB.put ⟨s.fr,bk s.lv e.us⟩ dst e.x
def cR (c:Ctx)(r:Option Nat)(ops:Array Oper)(o:Oper)(s0:aB)(e:Fx):Prop:=
 ∀ s:aB,(∀ t∈o.looksAt ops,s.fr t=s0.fr t)→Agree s0.lv s.lv e.us e.rds →
  ∀ F β a w K Q,aC c F β s a w→(∀ F' β' a' w',aC c F' β' (e.app o.dst s) a' w'→K a' w') →
   if Region.wanted o (yielded ops a.tmps) then o.wpIn (od r) 0 c.P a w K Q else K (a.put o.dst undef) w
theorem val_congr{x:Operand}(h:∀ t,x=.tmp t→s.fr t=s0.fr t):s.val G x=s0.val G x:=by
 cases x with
 | tmp t=>exact h t rfl
 | _=>rfl
theorem we(h:∀ t∈o.looksAt ops,s.fr t=s0.fr t):∀ x∈o.op.operands.toList,s.val G x=s0.val G x:=by
 intro x hx;refine val_congr fun t ht=>h t ?_;subst ht;exact List.mem_append_left _ (List.mem_filterMap.2 ⟨.tmp t,hx,rfl⟩)
theorem l6(h:∀ t∈o.looksAt ops,s.fr t=s0.fr t):dP ops o.guard s.fr=dP ops o.guard s0.fr:=by
 unfold dP
 cases hg:o.guard with
 | none=>rfl
 | some p=>
  obtain⟨j,want⟩:=p;simp only
  cases hd:(ops[j]?).bind (·.dst) with
  | none=>rfl
  | some d=>
   simp only;rw [h d (List.mem_append_right _ (by rw [hg];simp [hd]))]
section
variable {c:Ctx}{r:Option Nat}{ops:Array Oper}{o:Oper}{s0:aB}
theorem cR.skip (hd:∀ d,o.dst=some d→d<c.n)(hw:dP ops o.guard s0.fr=some false):cR c r ops o s0 ⟨.undef,[],[]⟩:=by
 intro s h1 _ F β a w K Q h hK;rw [fT h ((l6 h1).trans hw)];simp only [Bool.false_eq_true,if_false];exact hK F β _ _ (h.zT hd (mz _))
theorem cR.mT(hw:dP ops o.guard s0.fr=some true) (hdf:∀ cl,o.op≠.defer cl)
 (hs:∀ s:aB,(∀ x∈o.op.operands.toList,s.val c.G x=s0.val c.G x)→Agree s0.lv s.lv e.us e.rds→bZ c o s (e.app o.dst s)):cR c r ops o s0 e:=by
 intro s h1 h2 F β a w K Q h hK;rw [fT h ((l6 h1).trans hw)];simp only [if_true];exact qw hdf (hs s (we h1) h2 F β a w K Q h hK)
theorem cR.plain {κ:Key}{vc:Prop}(hd:∀ d,o.dst=some d→d<c.n) (hw:dP ops o.guard s0.fr=some true)
 (h:bE c.P o.op (o.op.operands.toList.map (s0.val c.G)) s0.lv κ=some (x,us,rds,vc)) (hvc:vc):cR c r ops o s0 ⟨x,us,rds⟩:=by
 refine cR.mT hw (fun cl hcl=>?_) (fun s h1 h2=>?_)
 ·rw [hcl] at h;simp [bE] at h
 ·have hl:=nQ h (show Agree s0.lv s.lv us rds from h2);exact zb hd rfl (List.map_congr_left h1) hl hvc
end
theorem qV:∀ {f g:Key→LB}{k:Key},k∈us.map (·.1)→bk f us k=bk g us k:=by
 induction us with
 | nil=>intro f g k h;cases h
 | cons p us ih=>
  intro f g k h;rw [ou,ou]
  by_cases hk:k∈us.map (·.1)
  ·exact ih hk
  ·rw [cB hk,cB hk];simp only [List.map_cons,List.mem_cons] at h;rcases h with h|h
   ·rw [h,aA,aA]
   ·exact absurd h hk
theorem nu (e:Fx)(dst:Option Nat)(s:aB)(t:Nat):(e.app dst s).fr t=if dst=some t then e.x else s.fr t:=by
 cases dst with
 | none=>simp [Fx.app,aB.put]
 | some d=>
  simp only [Fx.app,aB.put,Option.some.injEq]
  by_cases h:d=t
  ·subst h;rw [aA];simp
  ·rw [aF _ _ (fun e=>h e.symm)];simp [h]
theorem lT (e:Fx)(dst:Option Nat)(s:aB):(e.app dst s).lv=bk s.lv e.us:=by
 cases dst <;> rfl
def bp (ops:Array Oper)(es:List Fx)(s0:aB)(L:Nat→Bool):Nat→aB
 | 0=>s0
 | m+1=>match ops[m]?,es[m]? with
  | some o,some e=>if L m then e.app o.dst (bp ops es s0 L m) else bp ops es s0 L m
  | _,_=>bp ops es s0 L m
inductive uc (ops:Array Oper):Nat→Nat→Prop where
 | one {i j:Nat}{o:Oper}{ed:Edge}(ho:ops[j]?=some o) (he:ed∈o.after) (hb:Region.binds .any ed=true) (hi:ed.on=i):uc ops i j
 | more {i j:Nat}{o:Oper}{ed:Edge}(ho:ops[j]?=some o) (he:ed∈o.after) (hb:Region.binds .any ed=true) (hi:uc ops i ed.on):uc ops i j
section
variable {ops:Array Oper}{es:List Fx}{s0:aB}{L:Nat→Bool}
theorem eR {L L':Nat→Bool}:∀ {m:Nat},(∀ j,j<m→L j=L' j)→bp ops es s0 L m=bp ops es s0 L' m
 | 0,_=>rfl
 | m+1,h=>by
  have ih:=eR (m:=m) (fun j hj=>h j (by omega));simp only [bp,ih,h m (by omega)]
theorem AL {i t:Nat}(h:∀ j o,ops[j]?=some o→o.dst=some t→(j<i↔L j=true)):∀ m,(bp ops es s0 L m).fr t=(bp ops es s0 (fun _=>true) (min m i)).fr t
 | 0=>by simp [bp]
 | m+1=>by
  have ih:=AL h m
  by_cases hm:m<i
  ·have e1:min (m+1) i=min m i+1:=by omega
   have e2:min m i=m:=by omega
   rw [e1,e2];rw [e2] at ih;simp only [bp]
   cases ho:ops[m]? with
   | none=>exact ih
   | some o=>
    cases he:es[m]? with
    | none=>exact ih
    | some e=>
     simp only [if_true]
     by_cases hd:o.dst=some t
     ·rw [(h m o ho hd).1 hm];simp only [if_true,nu,hd]
     ·by_cases hL:L m=true
      ·simp only [hL,if_true,nu,hd,if_false];exact ih
      ·simp only [hL,nu,hd,if_false];exact ih
  ·have e1:min (m+1) i=min m i:=by omega
   rw [e1,← ih];simp only [bp]
   cases ho:ops[m]? with
   | none=>rfl
   | some o=>
    cases he:es[m]? with
    | none=>rfl
    | some e=>
     simp only
     by_cases hL:L m=true
     ·have hd:o.dst≠some t:=fun hd=>hm ((h m o ho hd).2 hL)
      simp only [hL,if_true,nu,hd,if_false]
     ·simp only [hL,if_false,Bool.false_eq_true]
theorem FY {i:Nat}{k:Key}(h:∀ (j:Nat) e,es[j]?=some e→k∈e.us.map (·.1)→(j<i↔L j=true)):∀ m,(bp ops es s0 L m).lv k=(bp ops es s0 (fun _=>true) (min m i)).lv k
 | 0=>by simp [bp]
 | m+1=>by
  have ih:=FY h m
  by_cases hm:m<i
  ·have e1:min (m+1) i=min m i+1:=by omega
   have e2:min m i=m:=by omega
   rw [e1,e2];rw [e2] at ih;simp only [bp]
   cases ho:ops[m]? with
   | none=>exact ih
   | some o=>
    cases he:es[m]? with
    | none=>exact ih
    | some e=>
     simp only [if_true]
     by_cases hd:k∈e.us.map (·.1)
     ·rw [(h m e he hd).1 hm];simp only [if_true,lT];exact qV hd
     ·by_cases hL:L m=true
      ·simp only [hL,if_true,lT,cB hd];exact ih
      ·simp only [hL,lT,cB hd];exact ih
  ·have e1:min (m+1) i=min m i:=by omega
   rw [e1,← ih];simp only [bp]
   cases ho:ops[m]? with
   | none=>rfl
   | some o=>
    cases he:es[m]? with
    | none=>rfl
    | some e=>
     simp only
     by_cases hL:L m=true
     ·have hd:k ∉ e.us.map (·.1):=fun hd=>hm ((h m e he hd).2 hL)
      simp only [hL,if_true,lT,cB hd]
     ·simp only [hL,if_false,Bool.false_eq_true]
theorem tF {t:Nat}(ho:ops[i]?=some o) (he:es[i]?=some e) (hi:i<n) (hL:L i=false)
 (hlt:∀ j o',i<j→ops[j]?=some o'→L j=true→o.dst=some t→o'.dst≠some t) :
 (e.app o.dst (bp ops es s0 L n)).fr t=(bp ops es s0 (fun j=>L j || j == i) n).fr t:=by
 have below:∀ m,m≤i→bp ops es s0 (fun j=>L j || j == i) m=bp ops es s0 L m:=fun m hm=>
  eR fun j hj=>by have:(j == i)=false:=by simp;omega
                  simp [this]
 have h1:∀ m,i<m→(e.app o.dst (bp ops es s0 L m)).fr t=(bp ops es s0 (fun j=>L j || j == i) m).fr t:=by
  intro m
  induction m with
  | zero=>intro h;omega
  | succ m ih=>
   intro hm
   by_cases hmi:m=i
   ·subst hmi;simp only [bp,ho,he,hL,Bool.false_eq_true,if_false,beq_self_eq_true,Bool.or_true,if_true];rw [below m (by omega)]
   ·have ih:=ih (by omega);have hne:(m == i)=false:=by simpa using hmi
    simp only [bp]
    cases ho':ops[m]? with
    | none=>exact ih
    | some o'=>
     cases he':es[m]? with
     | none=>exact ih
     | some e'=>
      simp only [hne,Bool.or_false]
      by_cases hLm:L m=true
      ·simp only [hLm,if_true];rw [nu,nu,nu];rw [nu] at ih
       by_cases hd:o.dst=some t
       ·have:=hlt m o' (by omega) ho' hLm hd;simp only [hd,if_true,this,if_false] at ih ⊢;exact ih
       ·simp only [hd,if_false] at ih ⊢;rw [ih]
      ·simp only [hLm,Bool.false_eq_true,if_false];exact ih
 exact h1 n hi
theorem tL(ho:ops[i]?=some o) (he:es[i]?=some e) (hi:i<n) (hL:L i=false)
 (hlt:∀ (j:Nat) e',i<j→es[j]?=some e'→L j=true→k∈e.us.map (·.1)→k ∉ e'.us.map (·.1)) :
 (e.app o.dst (bp ops es s0 L n)).lv k=(bp ops es s0 (fun j=>L j || j == i) n).lv k:=by
 have below:∀ m,m≤i→bp ops es s0 (fun j=>L j || j == i) m=bp ops es s0 L m:=fun m hm=>
  eR fun j hj=>by have:(j == i)=false:=by simp;omega
                  simp [this]
 have h1:∀ m,i<m→(e.app o.dst (bp ops es s0 L m)).lv k=(bp ops es s0 (fun j=>L j || j == i) m).lv k:=by
  intro m
  induction m with
  | zero=>intro h;omega
  | succ m ih=>
   intro hm
   by_cases hmi:m=i
   ·subst hmi;simp only [bp,ho,he,hL,Bool.false_eq_true,if_false,beq_self_eq_true,Bool.or_true,if_true];rw [below m (by omega)]
   ·have ih:=ih (by omega);have hne:(m == i)=false:=by simpa using hmi
    simp only [bp]
    cases ho':ops[m]? with
    | none=>exact ih
    | some o'=>
     cases he':es[m]? with
     | none=>exact ih
     | some e'=>
      simp only [hne,Bool.or_false]
      by_cases hLm:L m=true
      ·simp only [hLm,if_true];rw [lT,lT,lT];rw [lT] at ih
       by_cases hd:k∈e.us.map (·.1)
       ·have hd':=hlt m e' (by omega) he' hLm hd;rw [cB hd',← ih];exact qV hd
       ·rw [cB hd];rw [cB hd] at ih
        by_cases hd':k∈e'.us.map (·.1)
        ·exact qV hd'
        ·rw [cB hd',cB hd'];exact ih
      ·simp only [hLm,Bool.false_eq_true,if_false];exact ih
 exact h1 n hi
end
def M5 (ops:Array Oper)(o o':Oper)(e e':Fx):Prop:=
 o.apart ops o'=true∧(∀ k∈e.us.map (·.1),k ∉ e'.us.map (·.1)∧k ∉ e'.rds)∧∀ k∈e'.us.map (·.1),k ∉ e.rds
def cnt (p:Nat→Bool):Nat→Nat
 | 0=>0
 | n+1=>cnt p n+(if p n then 1 else 0)
theorem oE {p q:Nat→Bool}:∀ {n:Nat},(∀ i,i<n→p i=q i)→cnt p n=cnt q n
 | 0,_=>rfl
 | n+1,h=>by simp only [cnt,oE (n:=n) (fun i hi=>h i (by omega)),h n (by omega)]
theorem zU {p:Nat→Bool}{i:Nat}(h:p i=false):∀ {n:Nat},i<n→cnt (fun j=>p j || j == i) n=cnt p n+1
 | 0,hi=>absurd hi (by omega)
 | n+1,hi=>by
  by_cases e:n=i
  ·subst e
   have h0:∀ j,j<n→(p j || j == n)=p j:=fun j hj=>by
    have h1:(j == n)=false:=by simp;omega
    simp [h1]
   have:=oE h0;simp only [cnt,this,h];simp
  ·have hne:(n == i)=false:=by simpa using e
   simp only [cnt,zU h (n:=n) (by omega),hne,Bool.or_false];omega
theorem Kc (p:Nat→Bool):∀ n,cnt p n≤n
 | 0=>Nat.le_refl _
 | n+1=>by have:=Kc p n;simp only [cnt];split <;> omega
theorem Ar {p:Nat→Bool}:∀ {n:Nat},n≤cnt p n→∀ i,i<n→p i=true
 | 0,_,i,hi=>absurd hi (by omega)
 | n+1,h,i,hi=>by
  have h1:=Kc p n;simp only [cnt] at h
  by_cases hp:p n=true
  ·rw [if_pos hp] at h
   by_cases e:i=n
   ·rw [e];exact hp
   ·exact Ar (n:=n) (by omega) i (by omega)
  ·rw [if_neg hp] at h;omega
theorem mem_ready{listed:Array Bool}:i∈Region.ready .any ops listed ↔
 i<ops.size∧listed.getD i true=false∧∃ o,ops[i]?=some o∧∀ ed∈o.after,Region.binds .any ed=true→listed.getD ed.on false=true:=by
 unfold Region.ready;simp only [List.mem_filter,List.mem_range,Bool.and_eq_true,Bool.not_eq_true'];refine and_congr_right fun hi=>and_congr_right fun _=>?_;have ho:ops[i]?=some ops[i]:=Array.getElem?_eq_getElem hi;rw [ho];simp only [Option.map_some,Option.getD_some,Array.all_eq_true',Bool.or_eq_true,Bool.not_eq_true',Option.some.injEq,exists_eq_left'];constructor
 ·intro h ed hed hb;rcases h ed hed with h|h
  ·rw [hb] at h;cases h
  ·exact h
 ·intro h ed hed
  cases hb:Region.binds .any ed with
  | false=>exact .inl rfl
  | true=>exact .inr (h ed hed hb)
section
variable {c:Ctx}{r:Option Nat}{ops:Array Oper}{es:List Fx}{s0:aB}
theorem th (hlen:es.length=ops.size)
 (hE:∀ (i:Nat) o e,ops[i]?=some o→es[i]?=some e→cR c r ops o (bp ops es s0 (fun _=>true) i) e)
 (hback:∀ (i:Nat) o,ops[i]?=some o→∀ ed∈o.after,Region.binds .any ed=true→ed.on<i)
 (hind:∀ (i j:Nat) o o' e e',i<j→ops[i]?=some o→ops[j]?=some o'→es[i]?=some e→es[j]?=some e'→uc ops i j∨M5 ops o o' e e')(hQ:∀ F' β' a' w',aC c F' β' (bp ops es s0 (fun _=>true) ops.size) a' w'→Q .normal a' w') :
 ∀ (fuel:Nat) (listed:Array Bool),listed.size=ops.size →
  (∀ (j:Nat) o,ops[j]?=some o→listed.getD j false=true→∀ ed∈o.after,Region.binds .any ed=true→listed.getD ed.on false=true) →
  ops.size≤fuel+cnt (fun j=>listed.getD j false) ops.size →
  ∀ F β a w,aC c F β (bp ops es s0 (fun j=>listed.getD j false) ops.size) a w→wpAnyIn (od r) 0 c.P .any ops Q fuel listed a w:=by
 intro fuel
 have hall:∀ (listed:Array Bool),(∀ i,i<ops.size→listed.getD i false=true)→∀ F β a w,aC c F β (bp ops es s0 (fun j=>listed.getD j false) ops.size) a w→Q .normal a w:=by
  intro listed hl F β a w h;rw [eR (L':=fun _=>true) hl] at h;exact hQ _ _ _ _ h
 induction fuel with
 | zero=>
  intro listed hsz hcl hcnt F β a w h;have hl:=Ar (p:=fun j=>listed.getD j false) (n:=ops.size) (by omega);refine⟨?_,hall listed hl F β a w h⟩;rw [List.eq_nil_iff_forall_not_mem];intro i hi;obtain⟨h1,h2,_⟩:=mem_ready.1 hi;have h3:listed.getD i false=true:=hl i h1;have h4:i<listed.size:=by omega
  simp [Array.getD,h4] at h2 h3;rw [h2] at h3;cases h3
 | succ fuel ih=>
  intro listed hsz hcl hcnt F β a w h
  have hanc:∀ i j,uc ops i j→listed.getD j false=true→listed.getD i false=true:=by
   intro i j ha
   induction ha with
   | one ho he hb hi=>intro hj;subst hi;exact hcl _ _ ho hj _ he hb
   | more ho he hb _ ih=>intro hj;exact ih (hcl _ _ ho hj _ he hb)
  refine⟨fun hnil=>?_,fun i hi=>?_⟩
  ·refine hall listed (fun i hi=>?_) F β a w h
   induction i using Nat.strongRecOn with
   | _ i ihi=>
    cases hL:listed.getD i false with
    | true=>rfl
    | false=>
     exfalso
     have:i∈Region.ready .any ops listed:=by
      refine mem_ready.2 ⟨hi,?_,ops[i],Array.getElem?_eq_getElem hi,fun ed hed hb=>?_⟩
      ·have h4:i<listed.size:=by omega
       simp [Array.getD,h4] at hL ⊢;exact hL
      ·have:=hback i _ (Array.getElem?_eq_getElem hi) ed hed hb;exact ihi _ this (by omega)
     rw [hnil] at this;cases this
  ·obtain⟨hi1,hi2,o,ho,hpre⟩:=mem_ready.1 hi;have h4:i<listed.size:=by omega
   have hLi:listed.getD i false=false:=by simp [Array.getD,h4] at hi2 ⊢;exact hi2
   obtain⟨e,he⟩:∃ e,es[i]?=some e:=⟨es[i]'(by omega),List.getElem?_eq_getElem (by omega)⟩
   have hes:∀ j o',ops[j]?=some o'→∃ e',es[j]?=some e':=fun j o' h'=>by
    have:j<ops.size:=(Array.getElem?_eq_some_iff.1 h').1;exact⟨es[j]'(by omega),List.getElem?_eq_getElem (by omega)⟩
   have hos:∀ (j:Nat) e',es[j]?=some e'→∃ o',ops[j]?=some o':=fun j e' h'=>by
    have:j<es.length:=(List.getElem?_eq_some_iff.1 h').1;exact⟨ops[j]'(by omega),Array.getElem?_eq_getElem (by omega)⟩
   have hancR:∀ j,uc ops j i→listed.getD j false=true:=by
    intro j ha
    cases ha with
    | one ho' he' hb hj=>
     rw [ho] at ho';simp only [Option.some.injEq] at ho';subst ho';subst hj;exact hpre _ he' hb
    | more ho' he' hb hj=>
     rw [ho] at ho';simp only [Option.some.injEq] at ho';subst ho';exact hanc _ _ hj (hpre _ he' hb)
   have key:=hE i o e ho he (bp ops es s0 (fun j=>listed.getD j false) ops.size) (fun t ht=>?_) ?_ F β a w
    (wpAnyIn (od r) 0 c.P .any ops Q fuel (listed.setIfInBounds i true)) Q h (fun F' β' a' w' h'=>?_)
   ·unfold wpOpIn;rw [ho];simp only;split at key
    ·rename_i hw;rw [if_pos hw];exact key
    ·rename_i hw;rw [if_neg hw];exact⟨fun _ _=>trivial,key⟩
   ·rw [AL (i:=i) (fun j o' ho' hd=>?_) ops.size,Nat.min_eq_right (by omega)];obtain⟨e',he'⟩:=hes j o' ho';constructor
    ·intro hji;rcases hind j i o' o e' e hji ho' ho he' he with ha|ha
     ·exact hancR j ha
     ·exact absurd ht ((Oper.apart_spec ha.1).1 t hd)
    ·intro hj;rcases Nat.lt_trichotomy j i with hlt|heq|hgt
     ·exact hlt
     ·subst heq;rw [hLi] at hj;cases hj
     ·rcases hind i j o o' e e' hgt ho ho' he he' with ha|ha
      ·have:=hanc _ _ ha hj;rw [hLi] at this;cases this
      ·exact absurd ht ((Oper.apart_spec ha.1).2.2 t hd)
   ·have hk:∀ k,(k∈e.rds∨k∈e.us.map (·.1))→(bp ops es s0 (fun j=>listed.getD j false) ops.size).lv k=(bp ops es s0 (fun _=>true) i).lv k:=by
     intro k hk;rw [FY (i:=i) (fun j e' he' hd=>?_) ops.size,Nat.min_eq_right (by omega)];obtain⟨o',ho'⟩:=hos j e' he';constructor
     ·intro hji;rcases hind j i o' o e' e hji ho' ho he' he with ha|ha
      ·exact hancR j ha
      ·rcases hk with hk|hk
       ·exact absurd hk (ha.2.1 k hd).2
       ·exact absurd hk (ha.2.1 k hd).1
     ·intro hj;rcases Nat.lt_trichotomy j i with hlt|heq|hgt
      ·exact hlt
      ·subst heq;rw [hLi] at hj;cases hj
      ·rcases hind i j o o' e e' hgt ho ho' he he' with ha|ha
       ·have:=hanc _ _ ha hj;rw [hLi] at this;cases this
       ·rcases hk with hk|hk
        ·exact absurd hk (ha.2.2 k hd)
        ·exact absurd hd (ha.2.1 k hk).1
    exact⟨fun k h'=>hk k (.inl h'),fun p h'=>hk p.1 (.inr (List.mem_map_of_mem h'))⟩
   ·have hset:∀ j,(listed.setIfInBounds i true).getD j false=(listed.getD j false || j == i):=by
     intro j;simp only [Array.getD_eq_getD_getElem?,Array.getElem?_setIfInBounds]
     by_cases hj:i=j
     ·subst hj;simp [h4]
     ·have hne:(j == i)=false:=by simp;exact fun e=>hj e.symm
      simp [hj,hne]
    refine ih (listed.setIfInBounds i true) (by simp [hsz]) (fun j o' ho' hj ed hed hb=>?_) ?_ F' β' a' w' ?_
    ·rw [hset] at hj ⊢;simp only [Bool.or_eq_true,beq_iff_eq] at hj ⊢;rcases hj with hj|hj
     ·exact .inl (hcl j o' ho' hj ed hed hb)
     ·subst hj;rw [ho] at ho';simp only [Option.some.injEq] at ho';subst ho';exact .inl (hpre ed hed hb)
    ·rw [oE (q:=fun j=>listed.getD j false || j == i) (fun j _=>hset j),zU (p:=fun j=>listed.getD j false) hLi hi1];omega
    ·rw [eR (L':=fun j=>listed.getD j false || j == i) (fun j _=>hset j)]
     have hst:e.app o.dst (bp ops es s0 (fun j=>listed.getD j false) ops.size)=bp ops es s0 (fun j=>listed.getD j false || j == i) ops.size:=by
      have e1:(e.app o.dst (bp ops es s0 (fun j=>listed.getD j false) ops.size)).fr=(bp ops es s0 (fun j=>listed.getD j false || j == i) ops.size).fr:=by
       funext t;refine tF ho he hi1 hLi (fun j o' hij ho' hj hd=>?_);obtain⟨e',he'⟩:=hes j o' ho';rcases hind i j o o' e e' hij ho ho' he he' with ha|ha
       ·have:=hanc _ _ ha hj;rw [hLi] at this;cases this
       ·exact (Oper.apart_spec ha.1).2.1 t hd
      have e2:(e.app o.dst (bp ops es s0 (fun j=>listed.getD j false) ops.size)).lv=(bp ops es s0 (fun j=>listed.getD j false || j == i) ops.size).lv:=by
       funext k;refine tL ho he hi1 hLi (fun j e' hij he' hj hd=>?_);obtain⟨o',ho'⟩:=hos j e' he';rcases hind i j o o' e e' hij ho ho' he he' with ha|ha
       ·have:=hanc _ _ ha hj;rw [hLi] at this;cases this
       ·exact (ha.2.1 k hd).1
      cases h1:e.app o.dst (bp ops es s0 (fun j=>listed.getD j false) ops.size)
      cases h2:bp ops es s0 (fun j=>listed.getD j false || j == i) ops.size
      rw [h1,h2] at e1 e2;simp only at e1 e2;rw [e1,e2]
     rw [← hst];exact h'
end
def AM (acc:List Nat)(o:Oper):Nat:=o.after.toList.foldl (fun m e=>if Region.binds .any e then m ||| (2 ^ e.on ||| acc.getD e.on 0) else m) 0
def gy:List Oper→List Nat→List Nat
 | [],acc=>acc
 | o::r,acc=>gy r (acc++[AM acc o])
theorem wo {acc:List Nat}{i:Nat}:∀ (l:List Edge) (m:Nat),(l.foldl (fun m e=>if Region.binds .any e then m ||| (2 ^ e.on ||| acc.getD e.on 0) else m) m).testBit i=true →
 m.testBit i=true∨∃ e∈l,Region.binds .any e=true∧(e.on=i∨(acc.getD e.on 0).testBit i=true)
 | [],m,h=>.inl h
 | e::l,m,h=>by
  rcases wo l _ h with h1|⟨e',h1,h2⟩
  ·dsimp only at h1
   split at h1
   ·rename_i hb
    simp only [Nat.testBit_or,Bool.or_eq_true,Nat.testBit_two_pow,decide_eq_true_eq] at h1;rcases h1 with h1|h1|h1
    ·exact .inl h1
    ·exact .inr ⟨e,by simp,hb,.inl h1⟩
    ·exact .inr ⟨e,by simp,hb,.inr h1⟩
   ·exact .inl h1
  ·exact .inr ⟨e',by simp [h1],h2⟩
theorem jY {ops:Array Oper}:∀ (os:List Oper) (acc:List Nat),ops.toList=ops.toList.take acc.length++os →
 (∀ i j,(acc.getD j 0).testBit i=true→uc ops i j)→∀ i j,((gy os acc).getD j 0).testBit i=true→uc ops i j
 | [],acc,_,h=>h
 | o::os,acc,hl,h=>by
  have hlen:acc.length<ops.toList.length:=by
   have h1:=congrArg List.length hl;simp only [List.length_append,List.length_take,List.length_cons] at h1;omega
  have ho:ops[acc.length]?=some o:=by
   have h1:ops.toList[acc.length]?=(ops.toList.take acc.length++o::os)[acc.length]?:=by rw [← hl]
   rw [List.getElem?_append_right (by simp;omega)] at h1;simp only [List.length_take] at h1;rw [show acc.length - min acc.length ops.toList.length=0 by omega] at h1;simpa using h1
  refine jY os _ ?_ (fun i j hb=>?_)
  ·have h2:(acc++[AM acc o]).length=acc.length+1:=by simp
   rw [h2,List.take_add_one];have h3:ops.toList[acc.length]?=some o:=by simpa using ho
   rw [h3];simp only [Option.toList_some,List.append_assoc,List.singleton_append];exact hl
  ·by_cases hj:j<acc.length
   ·rw [List.getD_eq_getElem?_getD,List.getElem?_append_left hj] at hb;exact h i j (by rw [List.getD_eq_getElem?_getD];exact hb)
   ·by_cases hj2:j=acc.length
    ·subst hj2;rw [List.getD_eq_getElem?_getD,List.getElem?_append_right (Nat.le_refl _)] at hb;simp only [Nat.sub_self,List.getElem?_cons_zero,Option.getD_some] at hb;unfold AM at hb;rcases wo _ _ hb with h1|⟨e,h1,h2,h3⟩
     ·simp at h1
     ·have he:e∈o.after:=by simpa using h1
      rcases h3 with h3|h3
      ·exact .one ho he h2 h3
      ·exact .more ho he h2 (h _ _ h3)
    ·rw [List.getD_eq_getElem?_getD,List.getElem?_eq_none (by simp;omega)] at hb;simp at hb
def Fc:Nat→List Oper→Bool
 | _,[]=>true
 | i,o::r=>o.after.toList.all (fun e=>!Region.binds .any e || decide (e.on<i)) && Fc (i+1) r
theorem nR {ops:Array Oper}:∀ (os:List Oper) (n:Nat),ops.toList.drop n=os→Fc n os=true →
 ∀ (i:Nat) o,n≤i→ops[i]?=some o→∀ ed∈o.after,Region.binds .any ed=true→ed.on<i
 | [],n,hl,_=>by
  intro i o hi ho;have h1:ops.toList.length≤n:=List.drop_eq_nil_iff.1 hl;have h2:=(Array.getElem?_eq_some_iff.1 ho).1;simp at h1;omega
 | o::os,n,hl,hb=>by
  simp only [Fc,Bool.and_eq_true] at hb;intro i o' hi ho ed hed hbd
  by_cases e:i=n
  ·subst e;have h1:(ops.toList.drop i)[0]?=some o:=by rw [hl];rfl
   rw [List.getElem?_drop] at h1;simp only [Nat.add_zero,Array.getElem?_toList] at h1;rw [ho] at h1;simp only [Option.some.injEq] at h1;subst h1;have h2:=hb.1;rw [List.all_eq_true] at h2;have h3:=h2 ed (by simpa using hed);rw [hbd] at h3;simpa using h3
  ·refine nR os (n+1) ?_ hb.2 i o' (by omega) ho ed hed hbd;rw [← List.drop_drop,hl];rfl
def fM (ops:Array Oper):Bool:=
 let ms:=gy ops.toList []
 Fc 0 ops.toList && (List.range ops.size).all fun j=>(List.range j).all fun i=>
  (ms.getD j 0).testBit i || (match ops[i]?,ops[j]? with|some o,some o'=>o.apart ops o'|_,_=>true)
def sj (e e':Fx):Bool:=
 e.us.all (fun p=>!(e'.us.any fun q=>q.1 == p.1) && !e'.rds.contains p.1) && e'.us.all (fun p=>!e.rds.contains p.1)
def idle (e:Fx):Bool:=e.us.isEmpty && e.rds.isEmpty
def C6 (ops:Array Oper)(es:List Fx):Bool:=
 let ms:=gy ops.toList []
 (List.range es.length).all fun j=>match es[j]? with
  | some e'=>idle e' || (List.range j).all fun i=>match es[i]? with
   | some e=>idle e || (ms.getD j 0).testBit i || sj e e'
   | none=>true
  | none=>true
theorem Ah(h:sj e e'=true):(∀ k∈e.us.map (·.1),k ∉ e'.us.map (·.1)∧k ∉ e'.rds)∧∀ k∈e'.us.map (·.1),k ∉ e.rds:=by
 simp only [sj,Bool.and_eq_true,List.all_eq_true,Bool.not_eq_true',List.any_eq_false,beq_iff_eq,List.contains_eq_mem,decide_eq_false_iff_not] at h;refine⟨fun k hk=>?_,fun k hk=>?_⟩
 ·obtain⟨p,hp,rfl⟩:=List.mem_map.1 hk;obtain⟨h1,h2⟩:=h.1 p hp;refine⟨fun hk'=>?_,h2⟩;obtain⟨q,hq,e⟩:=List.mem_map.1 hk';exact h1 q hq e
 ·obtain⟨p,hp,rfl⟩:=List.mem_map.1 hk;exact h.2 p hp
theorem vE(h:idle e=true∨idle e'=true):(∀ k∈e.us.map (·.1),k ∉ e'.us.map (·.1)∧k ∉ e'.rds)∧∀ k∈e'.us.map (·.1),k ∉ e.rds:=by
 simp only [idle,Bool.and_eq_true,List.isEmpty_iff] at h;rcases h with ⟨h1,h2⟩|⟨h1,h2⟩ <;> simp [h1,h2]
theorem yb(hlen:es.length=ops.size) (hs:fM ops=true) (hd:C6 ops es=true) :
 (∀ (i:Nat) o,ops[i]?=some o→∀ ed∈o.after,Region.binds .any ed=true→ed.on<i) ∧
 (∀ (i j:Nat) o o' e e',i<j→ops[i]?=some o→ops[j]?=some o'→es[i]?=some e→es[j]?=some e'→uc ops i j∨M5 ops o o' e e'):=by
 simp only [fM,Bool.and_eq_true,List.all_eq_true,List.mem_range] at hs;refine⟨fun i o=>nR ops.toList 0 rfl hs.1 i o (Nat.zero_le _),fun i j o o' e e' hij ho ho' he he'=>?_⟩;have hj:j<ops.size:=(Array.getElem?_eq_some_iff.1 ho').1;have hm:=jY (ops:=ops) ops.toList [] (by simp) (fun i j h=>by simp at h) i j;have h1:=hs.2 j hj i hij;rw [ho,ho'] at h1;simp only [Bool.or_eq_true] at h1;simp only [C6,List.all_eq_true,List.mem_range] at hd;have h2:=hd j (by omega);rw [he'] at h2;simp only [Bool.or_eq_true,List.all_eq_true,List.mem_range] at h2;rcases h1 with h1|h1
 ·exact .inl (hm h1)
 ·rcases h2 with h2|h2
  ·exact .inr ⟨h1,vE (.inr h2)⟩
  ·have h3:=h2 i hij;rw [he] at h3;simp only [Bool.or_eq_true] at h3;rcases h3 with (h3|h3)|h3
   ·exact .inr ⟨h1,vE (.inl h3)⟩
   ·exact .inl (hm h3)
   ·exact .inr ⟨h1,Ah h3⟩
def fu (c:Ctx)(r:Option Nat)(ops:Array Oper):List Oper→List Fx→aB→aB→Prop
 | [],[],s,s'=>s'=s
 | o::os,e::es,s,s'=>cR c r ops o s e∧fu c r ops os es (e.app o.dst s) s'
 | _,_,_,_=>False
section
variable {c:Ctx}{r:Option Nat}{ops:Array Oper}
theorem fu.len:∀ {os:List Oper}{es:List Fx}{s s':aB},fu c r ops os es s s'→es.length=os.length
 | [],[],_,_,_=>rfl
 | _::_,_::_,_,_,h=>by simp [fu.len h.2]
 | [],_::_,_,_,h=>h.elim
 | _::_,[],_,_,h=>h.elim
theorem fu.at {es:List Fx}{s0:aB}:∀ {os:List Oper}{rs:List Fx}{s':aB}(n:Nat),ops.toList.drop n=os→es.drop n=rs→fu c r ops os rs (bp ops es s0 (fun _=>true) n) s' →
 s'=bp ops es s0 (fun _=>true) (n+os.length)∧∀ (i:Nat) o e,n≤i→ops[i]?=some o→es[i]?=some e→cR c r ops o (bp ops es s0 (fun _=>true) i) e
 | [],[],s',n,h1,h2,h=>by
  refine⟨h,fun i o e hi ho he=>?_⟩;have h3:es.length≤n:=List.drop_eq_nil_iff.1 h2;have:=(List.getElem?_eq_some_iff.1 he).1;omega
 | o::os,e::rs,s',n,h1,h2,h=>by
  have ho:ops[n]?=some o:=by
   have:(ops.toList.drop n)[0]?=some o:=by rw [h1];rfl
   rw [List.getElem?_drop] at this;simpa using this
  have he:es[n]?=some e:=by
   have:(es.drop n)[0]?=some e:=by rw [h2];rfl
   rw [List.getElem?_drop] at this;simpa using this
  have hst:bp ops es s0 (fun _=>true) (n+1)=e.app o.dst (bp ops es s0 (fun _=>true) n):=by
   simp only [bp,ho,he,if_true]
  obtain⟨h3,h4⟩:=fu.at (es:=es) (s0:=s0) (os:=os) (rs:=rs) (s':=s') (n+1) (by rw [← List.drop_drop,h1];rfl) (by rw [← List.drop_drop,h2];rfl) (by rw [hst];exact h.2);refine⟨by rw [h3];congr 1;simp;omega,fun i o' e' hi ho' he'=>?_⟩
  by_cases e1:i=n
  ·subst e1;rw [ho] at ho';rw [he] at he';simp only [Option.some.injEq] at ho' he';subst ho';subst he';exact h.1
  ·exact h4 i o' e' (by omega) ho' he'
 | [],_::_,_,_,_,_,h=>h.elim
 | _::_,[],_,_,_,_,h=>h.elim
theorem fu.opers:∀ {os:List Oper}{es:List Fx}{s s':aB}(n:Nat),ops.toList.drop n=os→fu c r ops os es s s' →
 (∀ F' β' a' w',aC c F' β' s' a' w'→Q .normal a' w')→∀ F β a w,aC c F β s a w→wpOpsIn (od r) 0 c.P ops Q (List.range' n os.length) a w
 | [],[],s,s',n,_,h,hQ=>fun F β a w hs=>by
  have h:s'=s:=h;subst h;exact hQ F β a w hs
 | o::os,e::es,s,s',n,h1,h,hQ=>fun F β a w hs=>by
  have ho:ops[n]?=some o:=by
   have:(ops.toList.drop n)[0]?=some o:=by rw [h1];rfl
   rw [List.getElem?_drop] at this;simpa using this
  have ih:=fu.opers (os:=os) (es:=es) (n+1) (by rw [← List.drop_drop,h1];rfl) h.2 hQ;have key:=h.1 s (fun _ _=>rfl) ⟨fun _ _=>rfl,fun _ _=>rfl⟩ F β a w (wpOpsIn (od r) 0 c.P ops Q (List.range' (n+1) os.length)) Q hs (fun F' β' a' w' h'=>ih F' β' a' w' h');simp only [List.length_cons,List.range'_succ];rw [wpOpsIn_cons];unfold wpOpIn;rw [ho];simp only;split at key
  ·rename_i hw;rw [if_pos hw];exact key
  ·rename_i hw;rw [if_neg hw];exact⟨fun _ _=>trivial,key⟩
 | [],_::_,_,_,_,_,h,_=>h.elim
 | _::_,[],_,_,_,_,h,_=>h.elim
theorem fu.region(h:fu c r ops ops.toList es s s')
 (hQ:∀ F' β' a' w',aC c F' β' s' a' w'→Q .normal a' w')(hs:aC c F β s a w):(Code.region id ops false).wpIn (od r) 0 c.P Q a w:=by
 refine wpIn_region ?_;have:=fu.opers 0 rfl h hQ F β a w hs;rw [List.range_eq_range'];simpa using this
theorem fu.draw(hm:c.P.follows .mixedOrders=true) (h:fu c r ops ops.toList es s s') (h1:fM ops=true) (h2:C6 ops es=true)
 (hQ:∀ F' β' a' w',aC c F' β' s' a' w'→Q .normal a' w')(hs:aC c F β s a w):(Code.region id ops true).wpIn (od r) 0 c.P Q a w:=by
 have hlen:es.length=ops.size:=by rw [h.len];simp
 obtain⟨h3,h4⟩:=fu.at (es:=es) (s0:=s) 0 rfl rfl h;obtain⟨h5,h6⟩:=yb hlen h1 h2;refine wpIn_region_any hm ?_;refine th (s0:=s) hlen (fun i o e ho he=>h4 i o e (Nat.zero_le _) ho he) h5 h6 (fun F' β' a' w' h'=>hQ F' β' a' w' ?_) ops.size _ (by simp) (fun j o ho hj=>?_) (by omega) F β a _ ?_
 ·rw [h3];simpa using h'
 ·have hf:(Array.replicate ops.size false).getD j false=false:=by
   simp only [Array.getD_eq_getD_getElem?,Array.getElem?_replicate];split <;> rfl
  rw [hf] at hj;cases hj
 ·have hf:∀ j,(Array.replicate ops.size false).getD j false=false:=fun j=>by
   simp only [Array.getD_eq_getD_getElem?,Array.getElem?_replicate];split <;> rfl
  have:bp ops es s (fun j=>(Array.replicate ops.size false).getD j false) ops.size=s:=by
   rw [eR (L':=fun _=>false) (fun j _=>hf j)]
   have:∀ m,bp ops es s (fun _=>false) m=s:=by
    intro m
    induction m with
    | zero=>rfl
    | succ m ih=>simp only [bp,ih,Bool.false_eq_true,if_false];split <;> rfl
   exact this _
  rw [this];exact hs.heap rfl
end
section
variable {c:Ctx}{r:Option Nat}{ops:Array Oper}{o:Oper}{s0:aB}
theorem cR.call(hd:∀ d,o.dst=some d→d<c.n) (hw:dP ops o.guard s0.fr=some true)
 (ho:o.op=.call cl) (hcal:cl.callee=.value fo) (ht:cj (s0.val c.G fo)=some (f,fs,cs)) (hf:aI c.P f=true)
 (he:bU c f (fs++cl.args.toList.map (s0.val c.G)++cs) s0.lv x us rds):cR c r ops o s0 ⟨x,us,rds⟩:=by
 refine cR.mT hw (fun cl' h=>by rw [ho] at h;cases h) (fun s h1 h2=>?_);have hfo:s.val c.G fo=s0.val c.G fo:=h1 fo (by rw [ho];simp [Op.operands,Call.operands,hcal])
 have hargs:cl.args.toList.map (s.val c.G)=cl.args.toList.map (s0.val c.G):=List.map_congr_left fun y hy=>h1 y (by
  rw [ho];simp only [Op.operands,Call.operands,hcal];simp at hy ⊢;exact .inr hy)
 refine bU.OE (rds:=rds) hd ho hcal rfl (by rw [hfo];exact ht) hf ?_;rw [hargs];exact he.local h2
end
def dy (c:Ctx)(o:Oper)(s:aB)(κ:Nat)(K:AV→List (Key × LB)→List Key→Nat→Prop):Prop:=
 match o.op with
 | .call cl=>match cl.callee with
  | .value fo=>match cj (s.val c.G fo) with
   | some (f,fs,cs)=>aI c.P f=true∧∃ x us rds κ',bU c f (fs++cl.args.toList.map (s.val c.G)++cs) s.lv x us rds∧K x us rds κ'
   | none=>False
  | _=>match bE c.P o.op (o.op.operands.toList.map (s.val c.G)) s.lv κ with
   | some (x,us,rds,vc)=>vc∧K x us rds (match us with|[]=>κ|_=>κ+1)
   | none=>False
 | op=>match bE c.P op (op.operands.toList.map (s.val c.G)) s.lv κ with
  | some (x,us,rds,vc)=>vc∧K x us rds (match us with|[]=>κ|_=>κ+1)
  | none=>False
def fG (c:Ctx)(ops:Array Oper):List Oper→aB→Nat→List Fx→(aB→Nat→List Fx→Prop)→Prop
 | [],s,κ,acc,K=>K s κ acc
 | o::os,s,κ,acc,K=>match dP ops o.guard s.fr with
  | some true=>dy c o s κ fun x us rds κ'=>fG c ops os (aB.put ⟨s.fr,bk s.lv us⟩ o.dst x) κ' (⟨x,us,rds⟩::acc) K
  | some false=>fG c ops os (s.put o.dst .undef) κ (⟨.undef,[],[]⟩::acc) K
  | none=>False
def cD (n:Nat)(os:List Oper):Bool:=os.all fun o=>match o.dst with|some d=>decide (d<n)|none=>true
section
variable {c:Ctx}{r:Option Nat}{ops:Array Oper}
theorem dy.QI{K:AV→List (Key × LB)→List Key→Nat→Prop}(hd:∀ d,o.dst=some d→d<c.n) (hw:dP ops o.guard s.fr=some true) (h:dy c o s κ K) :
 ∃ x us rds κ',cR c r ops o s ⟨x,us,rds⟩∧K x us rds κ':=by
 have plain:(match bE c.P o.op (o.op.operands.toList.map (s.val c.G)) s.lv κ with
  | some (x,us,rds,vc)=>vc∧K x us rds (match us with|[]=>κ|_=>κ+1)
  | none=>False)→∃ x us rds κ',cR c r ops o s ⟨x,us,rds⟩∧K x us rds κ':=by
  intro h;split at h
  ·rename_i x us rds vc hs
   exact⟨x,us,rds,_,cR.plain hd hw hs h.1,h.2⟩
  ·exact h.elim
 unfold dy at h;split at h
 ·rename_i cl ho
  split at h
  ·rename_i fo hcal
   split at h
   ·rename_i f fs cs ht
    obtain⟨hf,x,us,rds,κ',he,hK⟩:=h;exact⟨x,us,rds,κ',cR.call hd hw ho hcal ht hf he,hK⟩
   ·exact h.elim
  ·rw [ho] at h plain;exact plain h
 ·exact plain h
theorem fG.chain {K:aB→Nat→List Fx→Prop}:∀ {os:List Oper}{s:aB}{κ:Nat}{acc:List Fx},cD c.n os=true→fG c ops os s κ acc K →
 ∃ es s' κ',fu c r ops os es s s'∧K s' κ' (es.reverse++acc)
 | [],s,κ,_,_,h=>⟨[],s,κ,rfl,h⟩
 | o::os,s,κ,acc,hd,h=>by
  simp only [cD,List.all_cons,Bool.and_eq_true] at hd;have hdo:∀ d,o.dst=some d→d<c.n:=fun d e=>by have:=hd.1;rw [e] at this;simpa using this
  simp only [fG] at h;split at h
  ·rename_i hw
   obtain⟨x,us,rds,κ',he,hK⟩:=dy.QI (r:=r) hdo hw h;obtain⟨es,s',κ'',h1,h2⟩:=fG.chain hd.2 hK;exact⟨⟨x,us,rds⟩::es,s',κ'',⟨he,h1⟩,by simpa using h2⟩
  ·rename_i hw
   obtain⟨es,s',κ'',h1,h2⟩:=fG.chain hd.2 h;exact⟨⟨.undef,[],[]⟩::es,s',κ'',⟨cR.skip hdo hw,h1⟩,by simpa using h2⟩
  ·exact h.elim
end
inductive Ex where
 | normal
 | exit (id:Nat)
 | goto (l:Nat)
 | ret
 | panic (d:DV)
def Co (x:Ex)(e:Exit)(F:Nat→Prop)(w:World):Prop:=
 match x with
 | .normal=>e=.normal
 | .exit id=>e=.exit id
 | .goto l=>e=.goto l
 | .ret=>e=.ret
 | .panic d=>∃ v,e=.panic [{ v:=v,recovered:=false }]∧Rd (kZ w F) v d
def Post (c:Ctx)(Q:Ex→aB→Nat→Prop):Exit→Act→World→Prop:=fun e a w=>∃ x s κ F β,Q x s κ∧aC c F β s a w∧Co x e F w
def AW (c:Ctx)(r:Option Nat)(code:Code)(s:aB)(κ:Nat)(Q:Ex→aB→Nat→Prop):Prop:=
 ∀ F β a w,aC c F β s a w→code.wpIn (od r) 0 c.P (Post c Q) a w
def oV (K:aB→Nat→Prop)(Q:Ex→aB→Nat→Prop):Ex→aB→Nat→Prop
 | .normal,s,κ=>K s κ
 | e,s,κ=>Q e s κ
def r6 (id:Nat)(Q:Ex→aB→Nat→Prop):Ex→aB→Nat→Prop
 | .exit id',s,κ=>if id'=id then Q .normal s κ else Q (.exit id') s κ
 | e,s,κ=>Q e s κ
section
variable {c:Ctx}{r:Option Nat}{s:aB}{κ:Nat}{Q:Ex→aB→Nat→Prop}
theorem AW.region(hd:cD c.n ops.toList=true) (h:fG c ops ops.toList s κ [] fun s' κ' _=>Q .normal s' κ'):AW c r (.region id ops false) s κ Q:=by
 intro F β a w hs;obtain⟨es,s',κ',h1,h2⟩:=fG.chain (r:=r) hd h;exact h1.region (fun F' β' a' w' h'=>⟨.normal,s',κ',F',β',h2,h',rfl⟩) hs
theorem AW.draw(hm:c.P.follows .mixedOrders=true) (hst:fM ops=true) (hd:cD c.n ops.toList=true)
 (h:fG c ops ops.toList s κ [] fun s' κ' acc=>C6 ops acc.reverse=true∧Q .normal s' κ'):AW c r (.region id ops true) s κ Q:=by
 intro F β a w hs;obtain⟨es,s',κ',h1,h2,h3⟩:=fG.chain (r:=r) hd h;exact h1.draw hm hst (by simpa using h2) (fun F' β' a' w' h'=>⟨.normal,s',κ',F',β',h3,h',rfl⟩) hs
theorem aac (h:Q .normal s κ):AW c r .skip s κ Q:=fun F β _ _ hs=>wpIn_skip ⟨.normal,s,κ,F,β,h,hs,rfl⟩
theorem AW.label {l:Nat}(h:Q .normal s κ):AW c r (.label l) s κ Q:=fun F β _ _ hs=>wpIn_label ⟨.normal,s,κ,F,β,h,hs,rfl⟩
theorem aam(h:Q (.exit id) s κ):AW c r (.exit id) s κ Q:=fun F β _ _ hs=>wpIn_exit ⟨.exit id,s,κ,F,β,h,hs,rfl⟩
theorem AW.goto {l:Nat}(h:Q (.goto l) s κ):AW c r (.goto l) s κ Q:=fun F β _ _ hs=>wpIn_goto ⟨.goto l,s,κ,F,β,h,hs,rfl⟩
theorem aal (h:Q .ret s κ):AW c r .ret s κ Q:=fun F β _ _ hs=>wpIn_ret ⟨.ret,s,κ,F,β,h,hs,rfl⟩
theorem AW.seq {x y:Code}{K:aB→Nat→Prop}(h:AW c r x s κ (oV K Q)) (hK:∀ s κ,K s κ→AW c r y s κ Q):AW c r (.seq x y) s κ Q:=by
 intro F β a w hs;refine wpIn_seq (wpIn_mono (h F β a w hs) fun e a' w' hp=>?_);obtain⟨e',s',κ',F',β',hq,hs',he⟩:=hp
 cases e' with
 | normal=>cases he;exact hK s' κ' hq F' β' a' w' hs'
 | exit id=>cases he;exact⟨.exit id,s',κ',F',β',hq,hs',rfl⟩
 | goto l=>cases he;exact⟨.goto l,s',κ',F',β',hq,hs',rfl⟩
 | ret=>cases he;exact⟨.ret,s',κ',F',β',hq,hs',rfl⟩
 | panic d=>obtain⟨v,rfl,hv⟩:=he;exact⟨.panic d,s',κ',F',β',hq,hs',v,rfl,hv⟩
theorem AW.mono {x:Code}{Q':Ex→aB→Nat→Prop}(h:AW c r x s κ Q) (hq:∀ e s κ,Q e s κ→Q' e s κ):AW c r x s κ Q':=fun F β a w hs=>
 wpIn_mono (h F β a w hs) fun _ _ _ ⟨e',s',κ',F',β',h1,h2,h3⟩=>⟨e',s',κ',F',β',hq _ _ _ h1,h2,h3⟩
theorem aaz {o:Operand}{x y:Code}(hb:s.val c.G o=.c (.d (.bool b))) (h:AW c r (if b then x else y) s κ Q):AW c r (.cond o x y) s κ Q:=by
 intro F β a w hs;have h1:=hs.val o;rw [hb] at h1;exact wpIn_cond (Vw.pY h1) (h F β a w hs)
theorem aaf{x:Code}(h:AW c r x s κ (r6 id Q)):AW c r (.block id x) s κ Q:=by
 intro F β a w hs;refine wpIn_block (wpIn_mono (h F β a w hs) fun e a' w' hp=>?_);obtain⟨e',s',κ',F',β',hq,hs',he⟩:=hp
 cases e' with
 | normal=>cases he;exact⟨.normal,s',κ',F',β',hq,hs',rfl⟩
 | exit id'=>
  cases he
  simp only [r6] at hq;simp only [Exit.inBlock];split
  ·rename_i hid;rw [if_pos hid] at hq;exact⟨.normal,s',κ',F',β',hq,hs',rfl⟩
  ·rename_i hid;rw [if_neg hid] at hq;exact⟨.exit id',s',κ',F',β',hq,hs',rfl⟩
 | goto l=>cases he;exact⟨.goto l,s',κ',F',β',hq,hs',rfl⟩
 | ret=>cases he;exact⟨.ret,s',κ',F',β',hq,hs',rfl⟩
 | panic d=>obtain⟨v,rfl,hv⟩:=he;exact⟨.panic d,s',κ',F',β',hq,hs',v,rfl,hv⟩
theorem AW.coarse {x:Code}{s2:aB}{κ2:Nat}{g:Key→Key}(hc:dh c s s2 g) (h:AW c r x s2 κ2 Q):AW c r x s κ Q:=
 fun F β a w hs=>h F _ a w (hs.coarse hc)
theorem AW.loop {x:Code}(I:aB→Nat→Prop) (μ:aB→Nat→Nat) (h0:I s κ)
 (hr:∀ s κ,I s κ→AW c r x s κ (oV (fun s' κ'=>∃ s2 κ2 g,dh c s' s2 g∧I s2 κ2∧μ s2 κ2<μ s κ) Q)):AW c r (.loop x) s κ Q:=by
 have key:∀ n s κ,I s κ→μ s κ≤n→∀ F β a w,aC c F β s a w→Code.roundsIn (od r) 0 c.P x (Post c Q) (n+1) a w:=by
  intro n
  induction n with
  | zero=>
   intro s κ hI hn F β a w hs;rw [roundsIn_succ];refine wpIn_mono (hr s κ hI F β a w hs) fun e a' w' hp=>?_;obtain⟨e',s',κ',F',β',hq,hs',he⟩:=hp
   cases e' with
   | normal=>obtain⟨s2,κ2,g,h1,h2,h3⟩:=hq;omega
   | exit id=>cases he;exact⟨.exit id,s',κ',F',β',hq,hs',rfl⟩
   | goto l=>cases he;exact⟨.goto l,s',κ',F',β',hq,hs',rfl⟩
   | ret=>cases he;exact⟨.ret,s',κ',F',β',hq,hs',rfl⟩
   | panic d=>obtain⟨v,rfl,hv⟩:=he;exact⟨.panic d,s',κ',F',β',hq,hs',v,rfl,hv⟩
  | succ n ih=>
   intro s κ hI hn F β a w hs;rw [roundsIn_succ];refine wpIn_mono (hr s κ hI F β a w hs) fun e a' w' hp=>?_;obtain⟨e',s',κ',F',β',hq,hs',he⟩:=hp
   cases e' with
   | normal=>
    cases he
    obtain⟨s2,κ2,g,h1,h2,h3⟩:=hq;exact ih s2 κ2 h2 (by omega) F' _ a' w' (hs'.coarse h1)
   | exit id=>cases he;exact⟨.exit id,s',κ',F',β',hq,hs',rfl⟩
   | goto l=>cases he;exact⟨.goto l,s',κ',F',β',hq,hs',rfl⟩
   | ret=>cases he;exact⟨.ret,s',κ',F',β',hq,hs',rfl⟩
   | panic d=>obtain⟨v,rfl,hv⟩:=he;exact⟨.panic d,s',κ',F',β',hq,hs',v,rfl,hv⟩
 intro F β a w hs;exact wpIn_loop_rounds _ (key (μ s κ) s κ h0 (Nat.le_refl _) F β a w hs)
end
def mZ (P:Program)(s:aB):ResultVar→Option AV
 | .tmp t=>some (s.fr t)
 | .cell a T=>match s.fr a with
  | .c (.ptr k off)=>match s.lv k with|.cells _ _ _ cs=>eK P T (cs.drop off)|_=>none
  | _=>none
def kn (P:Program)(s:aB):List ResultVar→Option (List AV)
 | []=>some []
 | x::l=>match mZ P s x,kn P s l with|some y,some r=>some (y::r)|_,_=>none
def AV.cq:AV→Bool
 | .tup _=>false
 | _=>true
def dF (P:Program)(s:aB)(l:List ResultVar):Option AV:=
 match kn P s l with
 | some [x]=>some x
 | some r=>if r.all AV.cq then some (.tup r) else none
 | none=>none
theorem Vw.NJ(h:V.av v x) (hx:x.cq=true):V.mH v x:=by
 cases x with
 | tup l=>cases hx
 | _=>exact h
def A8 (tmps:Array Value):ResultVar→Sem Value
 | .tmp t=>pure (tmps.getD t undef)
 | .cell a t=>do loadVar t (← asAddr (tmps.getD a undef))
theorem DD (fn:Func)(tmps:Array Value):results fn tmps=(do let vs ← fn.results.mapM (A8 tmps);pure (if h:vs.size=1 then vs[0] else .tuple vs)):=by
 unfold results;refine congrArg (fun g:ResultVar→Sem Value=>(do let vs ← fn.results.mapM g;pure (if h:vs.size=1 then vs[0] else .tuple vs):Sem Value)) (a₂:=A8 tmps) ?_;funext x
 cases x <;> rfl
section
variable {c:Ctx}{F:Nat→Prop}{β:Key→Nat}{s:aB}{a:Act}{w:World}
theorem KB (h:aC c F β s a w){x:ResultVar}(hr:mZ c.P s x=some y) :
 ∃ v,(A8 a.tmps x).run c.P w=.ok v w∧(Vw.mk F β s.lv w).av v y:=by
 cases x with
 | tmp t=>
  simp only [mZ,Option.some.injEq] at hr;subst hr;exact⟨a.tmps.getD t undef,rfl,h.fr t⟩
 | cell b T=>
  simp only [mZ] at hr;split at hr
  ·rename_i k off he
   split at hr
   ·rename_i own fz T' cs hk
    have h1:=h.fr b;rw [he] at h1;obtain⟨h1,_⟩:=h1;simp only [Vw.cX,hk] at h1;have hb:=h.bH k;unfold Vw.bH at hb;simp only [hk] at hb;obtain⟨arr,h2,h3,h4,_⟩:=hb
    obtain⟨v,h5,h6⟩:=pV (P:=c.P) (T:=T) (Vw.mk F β s.lv w) (b:=β k) (o:=off) hr (fun i=>arr.getD (off+i) undef)
     (fun i hi=>by
      have hi':off+i<arr.size:=by simp at hi;omega
      rw [eZ h2 hi'];simp [Array.getD,hi'])
     (fun i hi=>by
      have hi':off+i<arr.size:=by simp at hi;omega
      simp only [Array.getD,hi',dite_true,List.getElem_drop];exact h4 (off+i) (by simp at hi;omega) hi')
    refine⟨v,?_,h6⟩;simp only [Instr.loadAt,Instr.sureAddr,Sem.run_bind,Sem.run_pure,Result.andThen_ok] at h5;show (do loadVar T (← asAddr (a.tmps.getD b undef)):Sem Value).run c.P w=.ok v w;rw [h1];simp only [asAddr,Sem.run_bind,Sem.run_pure,Result.andThen_ok];exact h5
   ·cases hr
  ·cases hr
theorem Cn (h:aC c F β s a w):∀ {l:List ResultVar}{ys:List AV},kn c.P s l=some ys →
 ∃ vs:List Value,(l.mapM (A8 a.tmps)).run c.P w=.ok vs w∧vs.length=ys.length ∧
  ∀ i (h:i<ys.length) (h':i<vs.length),(Vw.mk F β s.lv w).av vs[i] ys[i]
 | [],ys,hr=>by simp only [kn,Option.some.injEq] at hr;subst hr;exact⟨[],rfl,rfl,fun i h=>absurd h (Nat.not_lt_zero i)⟩
 | x::l,ys,hr=>by
  simp only [kn] at hr;split at hr
  ·rename_i y r' h1 h2
   simp only [Option.some.injEq] at hr;subst hr;obtain⟨v,h3,h4⟩:=KB h h1;obtain⟨vs,h5,h6,h7⟩:=Cn h h2;refine⟨v::vs,?_,by simp [h6],fun i p q=>?_⟩
   ·rw [List.mapM_cons,Sem.run_bind,h3,Result.andThen_ok,Sem.run_bind,h5];rfl
   ·cases i with
    | zero=>exact h4
    | succ i=>exact h7 i (by simpa using p) (by simpa using q)
  ·cases hr
theorem ny (h:aC c F β s a w)(hr:dF c.P s fn.results.toList=some y):∃ v,(results fn a.tmps).run c.P w=.ok v w∧(Vw.mk F β s.lv w).av v y:=by
 unfold dF at hr
 have key:∀ ys,kn c.P s fn.results.toList=some ys→∃ vs:Array Value,(results fn a.tmps).run c.P w=.ok (if h:vs.size=1 then vs[0] else .tuple vs) w∧vs.size=ys.length ∧
  ∀ i (h:i<ys.length) (h':i<vs.size),(Vw.mk F β s.lv w).av vs[i] ys[i]:=by
  intro ys hys;obtain⟨vs,h1,h2,h3⟩:=Cn h hys;refine⟨vs.toArray,?_,by simpa using h2,fun i p q=>by simpa using h3 i p (by simpa using q)⟩;rw [DD,Sem.run_bind,Array.mapM_eq_mapM_toList,map_eq_pure_bind,Sem.run_bind,h1];rfl
 split at hr
 ·rename_i x hx
  simp only [Option.some.injEq] at hr;subst hr;obtain⟨vs,h1,h2,h3⟩:=key _ hx;have h2':vs.size=1:=h2;rw [dif_pos h2'] at h1;exact⟨_,h1,h3 0 (by simp) (by omega)⟩
 ·rename_i ys hne hys
  split at hr
  ·rename_i hall
   simp only [Option.some.injEq] at hr;subst hr;obtain⟨vs,h1,h2,h3⟩:=key _ hys
   have h2':vs.size≠1:=fun e=>by
    rw [e] at h2
    match ys,h2,hne with
    | [x],_,hne=>exact hne x rfl
   rw [dif_neg h2'] at h1;rw [List.all_eq_true] at hall;exact⟨_,h1,vs,rfl,h2,fun i p q=>Vw.NJ (h3 i p q) (hall _ (List.getElem_mem p))⟩
  ·cases hr
 ·cases hr
end
def Fin (c:Ctx)(fn:Func)(x:AV)(σ' ν:List LB):Ex→aB→Nat→Prop
 | .normal,s,_|.ret,s,_=>∃ s2 g,dh c s s2 g∧s2.lv=bF σ' ν∧dF c.P s2 fn.results.toList=some x
 | _,_,_=>False
theorem aL.lq{args:List AV}(hf:P.funcs[f]?=some fn) (hb:fn.body=some code) (hl:args.length≤fn.ntmps)
 (h:∀ c:Ctx,c.P=P→c.G=G→c.n=fn.ntmps→c.kB=bF σ []→AW c none code ⟨fun t=>args.getD t .undef,bF σ []⟩ 1000 (Fin c fn x σ' ν)):aL P G f args σ (.ret x σ' ν):=by
 intro F β w vs hS hvl hv;refine calls_of_wp hf hb ?_
 let c:Ctx:={ cO P G w F β (bF σ []) with n:=fn.ntmps }
 have hS':cz c F β (bF σ []) w:=hS
 let a:Act:={ tmps:=vs++Array.replicate (fn.ntmps - vs.size) undef,defers:=[] }
 have hst:aC c F β ⟨fun t=>args.getD t .undef,bF σ []⟩ a w:=by
  refine hS'.with ?_ rfl (fun t=>?_)
  ·show (vs++Array.replicate (fn.ntmps - vs.size) undef).size=fn.ntmps;simp;omega
  ·show (Vw.mk F β (bF σ []) w).av ((vs++Array.replicate (fn.ntmps - vs.size) undef).getD t undef) (args.getD t .undef)
   by_cases ht:t<args.length
   ·have h1:args.getD t .undef=args[t]:=cC ht
    have h2:(vs++Array.replicate (fn.ntmps - vs.size) undef).getD t undef=vs[t]'(by omega):=by
     rw [Array.getD_eq_getD_getElem?,Array.getElem?_append_left (by omega),Array.getElem?_eq_getElem (by omega)];rfl
    rw [h1,h2];exact hv t ht (by omega)
   ·have h1:args.getD t .undef=.undef:=cL ht
    have h2:(vs++Array.replicate (fn.ntmps - vs.size) undef).getD t undef=undef:=by
     rw [Array.getD_eq_getD_getElem?,Array.getElem?_append_right (by omega),Array.getElem?_replicate];split <;> rfl
    rw [h1,h2];rfl
 have hw:=(wpIn_wide (n:=0)).1 (h c rfl rfl rfl rfl F β a w hst);refine wp_mono hw fun e a' w' hp=>?_;obtain⟨e',s',κ',F',β',hq,hs',he⟩:=hp
 have fin:(∃ s2 g,dh c s' s2 g∧s2.lv=bF σ' ν∧dF c.P s2 fn.results.toList=some x)→a'.defers=[]∧∃ v,(results fn a'.tmps).run P w'=.ok v w'∧ID P G σ F β w (.ret x σ' ν) (.returned v) w':=by
  rintro⟨s2,g,h1,h2,h3⟩;have hs2:=hs'.coarse h1;obtain⟨v,h4,h5⟩:=ny hs2 h3;refine⟨hs'.defers,v,h4,v,F',fun k=>β' (g k),rfl,?_,?_⟩
  ·have:=hs2.s9;rw [h2] at this;exact this
  ·rw [h2] at h5;exact h5
 cases e' with
 | normal=>cases he;exact fin hq
 | ret=>cases he;exact fin hq
 | exit id=>exact hq.elim
 | goto l=>exact hq.elim
 | panic d=>exact hq.elim
def LB.okB:LB→Bool
 | .cells own fz _ _=>!own && !fz
 | .map own _=>!own
 | _=>true
def cJ (lv:Key→LB):Prop:=∀ k,(lv k).okB=true
inductive Ik where
 | ret (x:AV) (lv:Key→LB)
 | qz (d:DV) (lv:Key→LB)
def Qw (P:Program)(G:List (List DV))(lv:Key→LB)(F:Nat→Prop)(β:Key→Nat)(w:World)(o:Ik)(e:Ending)(w':World):Prop:=
 match o with
 | .ret x lv'=>∃ v F' β',e=.returned v∧cz (cO P G w F β lv) F' β' lv' w'∧(Vw.mk F' β' lv' w').av v x
 | .qz d lv'=>∃ v F' β',e=.panicked [{ v:=v,recovered:=false }]∧cz (cO P G w F β lv) F' β' lv' w'∧Rd (kZ w' F') v d
def bY (P:Program)(G:List (List DV))(f:FuncId)(args:List AV)(lv:Key→LB)(o:Ik):Prop:=
 ∀ (F:Nat→Prop) (β:Key→Nat) (w:World) (vs:Array Value),cz (cO P G w F β lv) F β lv w→vs.size=args.length →
  (∀ i (h:i<args.length) (h':i<vs.size),(Vw.mk F β lv w).av vs[i] args[i])→Calls P f vs w (Qw P G lv F β w o)
section
variable {c:Ctx}{F:Nat→Prop}{β:Key→Nat}{s:aB}{a:Act}{w:World}
theorem aC.sF (h:aC c F β s a w)(ho:cJ s.lv):cz (cO c.P c.G w F β s.lv) F β s.lv w:=by
 refine⟨?_,h.inj,fun _=>trivial,rfl,rfl,fun b hb=>⟨(h.lf b hb).1,.inl hb⟩,fun _ hb=>hb,fun _ _ _=>rfl,Nat.le_refl _,h.nq,fun k _=>.inr ⟨rfl,LB.bz _⟩,fun _=>Nat.le_refl _,⟨rfl,rfl⟩⟩;intro k;have hb:=h.bH k;have hp:=ho k;unfold Vw.bH at hb ⊢
 cases e:s.lv k with
 | cells own fz T cs=>
  rw [e] at hp;simp only [LB.okB,Bool.and_eq_true,Bool.not_eq_true'] at hp;simp only [e] at hb ⊢;obtain⟨arr,b1,b2,b3,b4,b5⟩:=hb;refine⟨arr,b1,b2,b3,b4,?_⟩;rw [hp.1];simp only [ei,Bool.false_eq_true,if_false];exact .inr ⟨k,by rw [e,hp.2];rfl,rfl⟩
 | map own es=>
  rw [e] at hp;simp only [LB.okB,Bool.not_eq_true'] at hp;simp only [e] at hb ⊢;obtain⟨ents,clock,b1,b2,b3,b4,b5⟩:=hb;refine⟨ents,clock,b1,b2,b3,b4,?_⟩;rw [hp];simp only [ei,Bool.false_eq_true,if_false];exact .inr ⟨k,by rw [e];rfl,rfl⟩
 | hole=>simp only [e]
 | dead=>simp only [e]
 | nils=>simp only [e]
theorem Vw.FE {c c':Ctx}(h:∀ o,ei c o (V.β k)→ei c' o (V.β k)) (hb:V.bH c k):V.bH c' k:=by
 unfold Vw.bH at *
 cases e:V.lv k with
 | cells own fz T cs=>rw [e] at hb;obtain⟨arr,b1,b2,b3,b4,b5⟩:=hb;exact⟨arr,b1,b2,b3,b4,h _ b5⟩
 | map own es=>rw [e] at hb;obtain⟨x,y,b1,b2,b3,b4,b5⟩:=hb;exact⟨x,y,b1,b2,b3,b4,h _ b5⟩
 | hole=>trivial
 | dead=>trivial
 | nils=>trivial
theorem aC.yu (h:aC c F β s a w){F':Nat→Prop}{β':Key→Nat}{w':World}
 (hx:cz (cO c.P c.G w F β s.lv) F' β' lv' w'):aC c F' β' ⟨s.fr,lv'⟩ a w':=by
 have hF:∀ b,F b→F' b:=hx.F0;have hold:∀ b,b<w.heap.size→¬ (∃ k,(s.lv k).live=true∧β k=b)→w'.heap[b]?=w.heap[b]?:=hx.old;have hkeep:∀ k,s.lv k≠.hole→lv' k=.dead∨(β' k=β k∧(s.lv k).sub (lv' k)):=hx.keep;have hge:=h.ge;refine h.step (hoo:=hx.Bi) hF ?_ ?_ ?_ hx.DF ?_ hx.inj ?_ hx.ge ?_
 ·intro b hb;refine hold b (h.lf b hb).1 ?_;rintro⟨k,hk,rfl⟩;exact h.l8 hk hb
 ·intro k
  by_cases h0:s.lv k=.hole
  ·rw [h0];simp [LB.sub]
  ·rcases hkeep k h0 with hd|⟨_,hs⟩
   ·rw [hd];cases s.lv k <;> simp [LB.sub]
   ·exact hs
 ·intro k h0 hd;rcases hkeep k h0 with hd'|⟨h1,_⟩
  ·exact absurd hd' hd
  ·exact h1
 ·intro k _;refine Vw.FE ?_ (hx.bH k);intro o ho;unfold ei at ho ⊢;have ho':if o=true then w.heap.size≤β' k else w.heap.size≤β' k∨∃ j,(s.lv j).live=true∧β j=β' k:=ho
  cases o with
  | true=>simp only [if_true] at ho' ⊢;exact Nat.le_trans hge ho'
  | false=>
   simp only [Bool.false_eq_true,if_false] at ho' ⊢;rcases ho' with h1|⟨j,hj,hj2⟩
   ·exact .inl (Nat.le_trans hge h1)
   ·have:=h.eE hj;rw [hj2] at this;exact this
 ·intro b hb;rcases (hx.lf b hb).2 with h1|h1
  ·exact .inl h1
  ·have h1':w.heap.size≤b:=h1;exact .inr ⟨(hx.lf b hb).1,Nat.le_trans hge h1'⟩
 ·intro b hb hnW;refine hold b (Nat.lt_of_lt_of_le hb hge) ?_;rintro⟨k,hk,rfl⟩;rcases h.eE hk with h1|h1
  ·omega
  ·exact hnW h1
def OB (c:Ctx)(o:Oper)(s:aB)(d:DV)(s':aB):Prop:=
 ∀ (F:Nat→Prop) (β:Key→Nat) (a:Act) (w:World) (K:Act→World→Prop) (Q:Exit→Act→World→Prop),aC c F β s a w →
  (∀ F' β' v a' w',aC c F' β' s' a' w'→Rd (kZ w' F') v d→Q (.panic [{ v:=v,recovered:=false }]) a' w')→o.wp c.P a w K Q
theorem Cx(h:aC c F β s a w) (ho:o.op=.call cl) (hcal:cl.callee=.value fo) (hfo:s.val c.G fo=fv)
 (ht:cj fv=some (f,fs,cs)) (hf:aI c.P f=true)
 (hK:∀ vs:Array Value,vs.size=(fs++cl.args.toList.map (s.val c.G)++cs).length→(∀ i (h:i<(fs++cl.args.toList.map (s.val c.G)++cs).length) (h':i<vs.size),(Vw.mk F β s.lv w).av vs[i] (fs++cl.args.toList.map (s.val c.G)++cs)[i]) →
  Calls c.P f vs w fun e w'=>(∃ v,e=.returned v∧K (a.put o.dst v) w')∨∃ ch,e=.panicked ch∧Q (.panic ch) a w'):o.wp c.P a w K Q:=by
 obtain⟨fs',cs',h1,h2,h3,h4,h5⟩:=kE (hfo ▸ h.val fo) ht;have hv:=oq (V:=Vw.mk F β s.lv w) (args':=cl.args.map a.eval) (as:=cl.args.toList.map (s.val c.G)) h2 (by simp) h3 h4 (fun i p q=>by simp only [Array.getElem_map,List.getElem_map,Array.getElem_toList];exact h.val _) h5;have hc:=hK _ hv.1 hv.2
 have hr:(execOp a.eval o).run c.P w=.ok (.enter f (fs'++cl.args.map a.eval++cs')) w:=by
  simp only [execOp,ho,resolve,hcal,h1,Deferred.ofValue,Sem.run_bind,Sem.run_pure,Result.andThen_ok,invoke];rw [gX hf]
 unfold Oper.wp;rw [hr,Oper.upon_enter];refine hc.mono fun e w' he=>?_;rcases he with ⟨v,rfl,hk⟩|⟨ch,rfl,hk⟩ <;> exact hk
theorem bY.OE(hd:∀ d,o.dst=some d→d<c.n) (ho:o.op=.call cl) (hcal:cl.callee=.value fo)
 (hfo:s.val c.G fo=fv) (ht:cj fv=some (f,fs,cs)) (hf:aI c.P f=true) (hok:cJ s.lv) (hc:bY c.P c.G f (fs++cl.args.toList.map (s.val c.G)++cs) s.lv (.ret x lv')) :
 bZ c o s (aB.put ⟨s.fr,lv'⟩ o.dst x):=by
 intro F β a w K Q h hK;refine Cx h ho hcal hfo ht hf fun vs hl hv=>?_;refine (hc F β w vs (h.sF hok) hl hv).mono fun e w' he=>?_;obtain⟨v,F',β',rfl,hS,hav⟩:=he;exact .inl ⟨v,rfl,hK _ _ _ _ (aC.zT (h.yu hS) hd hav)⟩
theorem bY.SC{d:DV}(ho:o.op=.call cl) (hcal:cl.callee=.value fo)
 (hfo:s.val c.G fo=fv) (ht:cj fv=some (f,fs,cs)) (hf:aI c.P f=true) (hok:cJ s.lv) (hc:bY c.P c.G f (fs++cl.args.toList.map (s.val c.G)++cs) s.lv (.qz d lv')) :
 OB c o s d ⟨s.fr,lv'⟩:=by
 intro F β a w K Q h hK;refine Cx h ho hcal hfo ht hf fun vs hl hv=>?_;refine (hc F β w vs (h.sF hok) hl hv).mono fun e w' he=>?_;obtain⟨v,F',β',rfl,hS,hav⟩:=he;exact .inr ⟨_,rfl,hK _ _ v _ _ (h.yu hS) hav⟩
end
def Tl (c:Ctx)(fn:Func):Ik→Ex→aB→Nat→Prop
 | .ret x lv',.normal,s,_|.ret x lv',.ret,s,_=>dF c.P s fn.results.toList=some x∧s.lv=lv'
 | .qz d lv',.panic d',s,_=>d'=d∧s.lv=lv'
 | _,_,_,_=>False
theorem bY.lq{args:List AV}{o:Ik}(hf:P.funcs[f]?=some fn) (hb:fn.body=some code) (hl:args.length≤fn.ntmps)
 (h:∀ c:Ctx,c.P=P→c.G=G→c.n=fn.ntmps→c.kB=lv→AW c none code ⟨fun t=>args.getD t .undef,lv⟩ κ (Tl c fn o)):bY P G f args lv o:=by
 intro F β w vs hS hvl hv;refine calls_of_wp hf hb ?_
 let c:Ctx:={ cO P G w F β lv with n:=fn.ntmps }
 have hS':cz c F β lv w:=hS
 let a:Act:={ tmps:=vs++Array.replicate (fn.ntmps - vs.size) undef,defers:=[] }
 have hst:aC c F β ⟨fun t=>args.getD t .undef,lv⟩ a w:=by
  refine hS'.with ?_ rfl (fun t=>?_)
  ·show (vs++Array.replicate (fn.ntmps - vs.size) undef).size=fn.ntmps;simp;omega
  ·show (Vw.mk F β lv w).av ((vs++Array.replicate (fn.ntmps - vs.size) undef).getD t undef) (args.getD t .undef)
   by_cases ht:t<args.length
   ·have h1:args.getD t .undef=args[t]:=cC ht
    have h2:(vs++Array.replicate (fn.ntmps - vs.size) undef).getD t undef=vs[t]'(by omega):=by
     rw [Array.getD_eq_getD_getElem?,Array.getElem?_append_left (by omega),Array.getElem?_eq_getElem (by omega)];rfl
    rw [h1,h2];exact hv t ht (by omega)
   ·have h1:args.getD t .undef=.undef:=cL ht
    have h2:(vs++Array.replicate (fn.ntmps - vs.size) undef).getD t undef=undef:=by
     rw [Array.getD_eq_getD_getElem?,Array.getElem?_append_right (by omega),Array.getElem?_replicate];split <;> rfl
    rw [h1,h2];rfl
 have hw:=(wpIn_wide (n:=0)).1 (h c rfl rfl rfl rfl F β a w hst);refine wp_mono hw fun e a' w' hp=>?_;obtain⟨e',s',κ',F',β',hq,hs',he⟩:=hp
 cases o with
 | ret x lv'=>
  have fin:dF c.P s' fn.results.toList=some x∧s'.lv=lv'→a'.defers=[]∧∃ v,(results fn a'.tmps).run P w'=.ok v w'∧Qw P G lv F β w (.ret x lv') (.returned v) w':=by
   rintro⟨h0,h1⟩;obtain⟨v,h4,h5⟩:=ny hs' h0;subst h1;exact⟨hs'.defers,v,h4,v,F',β',rfl,hs'.s9,h5⟩
  cases e' with
  | normal=>cases he;exact fin hq
  | ret=>cases he;exact fin hq
  | exit id=>exact hq.elim
  | goto l=>exact hq.elim
  | panic d=>exact hq.elim
 | qz d lv'=>
  cases e' with
  | normal=>exact hq.elim
  | ret=>exact hq.elim
  | exit id=>exact hq.elim
  | goto l=>exact hq.elim
  | panic d'=>
   obtain⟨rfl,h1⟩:=hq;subst h1;obtain⟨v,rfl,hr⟩:=he;exact⟨hs'.defers,v,F',β',rfl,hs'.s9,hr⟩
section
variable {c:Ctx}{F:Nat→Prop}{β:Key→Nat}{s:aB}{a:Act}{w:World}
def rH (lv:Key→LB):AV→Option Bool
 | .c (.ptr k _)=>match lv k with|.cells ..=>some false|_=>none
 | .c (.aV k _ _ _)=>match lv k with|.cells ..=>some false|.nils=>some true|_=>none
 | .c (.mapr k)=>match lv k with|.map ..=>some false|_=>none
 | .c (.d .nilmap)=>some true
 | .c (.func ..)=>some false
 | .c (.d (.func ..))=>some false
 | .c (.d .nilFunc)=>some true
 | .c (.ifc ..)=>some false
 | _=>none
def F2:AV→AV→Bool
 | .c (.ptr ..),.c (.d .nilp)=>true
 | .c (.aV ..),.c (.d .nilsl)=>true
 | .c (.mapr _),.c (.d .nilmap)=>true
 | .c (.d .nilmap),.c (.d .nilmap)=>true
 | .c (.func ..),.c (.d .nilFunc)=>true
 | .c (.d (.func ..)),.c (.d .nilFunc)=>true
 | .c (.d .nilFunc),.c (.d .nilFunc)=>true
 | .c (.ifc ..),.c (.d .nilIface)=>true
 | _,_=>false
def vv (P:Program)(T:TypeId):AV→Bool
 | .c (.ptr ..)=>match P.underlying T with|some (.pointer _)=>true|_=>false
 | .c (.aV ..)=>match P.underlying T with|some (.slice _)=>true|_=>false
 | .c (.mapr _)|.c (.d .nilmap)=>match P.underlying T with|some (.map _ _)=>true|_=>false
 | .c (.func ..)|.c (.d (.func ..))|.c (.d .nilFunc)=>match P.underlying T with|some (.func _ _ _)=>true|_=>false
 | .c (.ifc ..)=>match P.underlying T with|some (.interface _)=>true|_=>false
 | _=>false
def OS:AV→List Key
 | .c (.ptr k _)=>[k]
 | .c (.aV k ..)=>[k]
 | .c (.mapr k)=>[k]
 | _=>[]
theorem lR{w:World}{x y:Operand}(hE:∀ m,(Op.equalIn (m+1) T u v).run P w=.ok b w)
 (h1:binOp .eql T u v=(do pure (.bool (← Op.equal T u v)))) (h2:binOp .neq T u v=(do pure (.bool (!(← Op.equal T u v))))) (h3:eqGuard .eql T x y u v=pure ()) (h4:eqGuard .neq T x y u v=pure ()) :
 (do eqGuard .eql T x y u v;binOp .eql T u v:Sem Value).run P w=.ok (.bool b) w∧(do eqGuard .neq T x y u v;binOp .neq T u v:Sem Value).run P w=.ok (.bool (!b)) w:=by
 have hq:(Op.equal T u v).run P w=.ok b w:=hE 9999;rw [h1,h2,h3,h4];constructor <;> (rw [Sem.run_bind,Sem.run_pure,Result.andThen_ok,Sem.run_bind,hq];rfl)
theorem HV{x y:Operand}{p q:AV}(hu:V.av u p) (hv:V.av v q) (hn:rH V.lv p=some b) (hq:F2 p q=true) (hT:vv P T p=true) :
 (do eqGuard .eql T x y u v;binOp .eql T u v:Sem Value).run P V.w=.ok (.bool b) V.w∧(do eqGuard .neq T x y u v;binOp .neq T u v:Sem Value).run P V.w=.ok (.bool (!b)) V.w:=by
 unfold F2 at hq;split at hq
 case h_1 k o=>
  simp only [rH] at hn;split at hn
  ·rename_i e
   simp only [Option.some.injEq] at hn;subst hn;obtain⟨hu,_⟩:=hu;simp only [Vw.cX,e] at hu;obtain⟨hv,_⟩:=hv
   cases hv
   subst hu;simp only [vv] at hT;split at hT
   ·rename_i e hT'
    exact lR (fun m=>by simp [Op.equalIn,run_underlying hT']) rfl rfl rfl rfl
   ·cases hT
  ·cases hn
 case h_2 k o l z=>
  simp only [rH] at hn;obtain⟨hv,_⟩:=hv
  cases hv
  obtain⟨hu,_⟩:=hu;simp only [vv] at hT;split at hT
  ·rename_i e hT'
   split at hn
   ·rename_i e
    simp only [Option.some.injEq] at hn;subst hn;simp only [Vw.cA,e] at hu;obtain⟨cap,rfl,_⟩:=hu;exact lR (fun m=>by simp [Op.equalIn,run_underlying hT']) rfl rfl rfl rfl
   ·rename_i e
    simp only [Option.some.injEq] at hn;subst hn;simp only [Vw.cA,e] at hu;rw [hu.1];exact lR (fun m=>by simp [Op.equalIn,run_underlying hT']) rfl rfl rfl rfl
   ·cases hn
  ·cases hT
 case h_3 k=>
  simp only [rH] at hn;split at hn
  ·rename_i e
   simp only [Option.some.injEq] at hn;subst hn;obtain⟨hu,_⟩:=hu;simp only [Vw.jL,e] at hu;obtain⟨hv,_⟩:=hv
   cases hv
   subst hu;simp only [vv] at hT;split at hT
   ·rename_i e hT'
    exact lR (fun m=>by simp [Op.equalIn,run_underlying hT']) rfl rfl rfl rfl
   ·cases hT
  ·cases hn
 case h_4=>
  simp only [rH,Option.some.injEq] at hn;subst hn;obtain⟨hu,_⟩:=hu;cases hu;obtain⟨hv,_⟩:=hv;cases hv;simp only [vv] at hT;split at hT
  ·rename_i e hT'
   exact lR (fun m=>by simp [Op.equalIn,run_underlying hT']) rfl rfl rfl rfl
  ·cases hT
 case h_5 fn f cs=>
  simp only [rH,Option.some.injEq] at hn;subst hn;obtain⟨_,_,rfl,_⟩:=hu;obtain⟨hv,_⟩:=hv;cases hv;simp only [vv] at hT;split at hT
  ·rename_i e hT'
   exact lR (fun m=>by simp [Op.equalIn,run_underlying hT']) rfl rfl rfl rfl
  ·cases hT
 case h_6 fn f cs=>
  simp only [rH,Option.some.injEq] at hn;subst hn;obtain⟨hu,_⟩:=hu;cases hu;obtain⟨hv,_⟩:=hv;cases hv;simp only [vv] at hT;split at hT
  ·rename_i e hT'
   exact lR (fun m=>by simp [Op.equalIn,run_underlying hT']) rfl rfl rfl rfl
  ·cases hT
 case h_7=>
  simp only [rH,Option.some.injEq] at hn;subst hn;obtain⟨hu,_⟩:=hu;cases hu;obtain⟨hv,_⟩:=hv;cases hv;simp only [vv] at hT;split at hT
  ·rename_i e hT'
   exact lR (fun m=>by simp [Op.equalIn,run_underlying hT']) rfl rfl rfl rfl
  ·cases hT
 case h_8 t r=>
  simp only [rH,Option.some.injEq] at hn;subst hn;obtain⟨_,rfl,_⟩:=hu;obtain⟨hv,_⟩:=hv;cases hv;simp only [vv] at hT;split at hT
  ·rename_i e hT'
   exact lR (fun m=>by simp [Op.equalIn,run_underlying hT']) rfl rfl rfl rfl
  ·cases hT
 case h_9=>cases hq
theorem yq{op:BinOp}{T':TypeId}{x y:Operand}(hd:∀ d,o.dst=some d→d<c.n) (ho:o.op=.binOp op T x y T') (hop:op=.eql∨op=.neq)
 (hn:rH s.lv (s.val c.G x)=some b) (hq:F2 (s.val c.G x) (s.val c.G y)=true) (hT:vv c.P T (s.val c.G x)=true) :
 bZ c o s (s.put o.dst (.c (.d (.bool (if op=.eql then b else !b))))):=
 bZ.aU hd fun F β a w hs=>by
  have h:=HV (V:=Vw.mk F β s.lv w) (P:=c.P) (T:=T) (x:=x) (y:=y) (hs.val x) (hs.val y) hn hq hT;rcases hop with rfl|rfl
  ·exact⟨.bool b,by simp only [execOp,ho];have:=h.1;simp only [Sem.run_bind] at this ⊢;rw [this];rfl,Vw.l9 _ _⟩
  ·exact⟨.bool (!b),by simp only [execOp,ho];have:=h.2;simp only [Sem.run_bind] at this ⊢;rw [this];rfl,Vw.l9 _ _⟩
end
end Go.Am
namespace Go.Am
open Go.Lib
variable {T e T' ty pt it kT eT:TypeId}{d:DV}{o:Oper}{x y m kx:Operand}{own ok b fz:Bool}{κ k:Key}{l:List UInt8}{cs:List CV}{v z:Value}{es:List (DV × AV)}{n sz off:Nat}{i:TypeInfo}{V:Vw}{P:Program}{vals:List AV}{ds:List DV}{lo hi:Option Operand}{h:Int}{op:Op}
def ef (l:List UInt8):List CV:=l.map fun b=>.d (.int .u8 (b.toNat:Int))
theorem ja (l:List UInt8):(ef l).length=l.length:=by simp [ef]
theorem Js (b:UInt8):IntKind.u8.wrap (b.toNat:Int)=(b.toNat:Int):=by
 refine cE ?_;have:=UInt8.toNat_lt b;simp only [yQ,oL];omega
section
variable {c:Ctx}{F:Nat→Prop}{β:Key→Nat}{s:aB}{a:Act}{w:World}
theorem LG (V:Vw)(b:UInt8):V.cv (.int .u8 (b.toNat:Int)) (.d (.int .u8 (b.toNat:Int))):=⟨.int _ _ (Js b),rfl⟩
theorem Cr (l:List UInt8):strCells ⟨l.toArray⟩=l.map fun b=>Value.int .u8 (b.toNat:Int):=by
 simp [strCells]
theorem wJ (V:Vw)(l:List UInt8):∀ i (h:i<(ef l).length) (h':i<(strCells ⟨l.toArray⟩).length),V.cv (strCells ⟨l.toArray⟩)[i] (ef l)[i]:=by
 intro i h h';simp only [Cr,ef,List.getElem_map];exact LG V _
theorem cS (l:List UInt8):(ByteArray.mk l.toArray).size=l.length:=by simp [ByteArray.size]
theorem aC.pz (hs:aC c F β s a w)(hκ:s.lv κ=.hole) (hT:eI c.P T=some (e,1)) (hT':cu c.P T'=true)
 (hi:c.P.info? e=some i) (hz:i.zero=some z) (hzs:z.cells.size=1) (h63:l.length≤9223372036854775807) (hb:l.length*i.bytes≤140737488355328) :
 ∃ v F' β' w',(Builtin.append_ #[T,T'] ty #[.slice none 0 0,.string ⟨l.toArray⟩]).run c.P w=.ok v w' ∧
  aC c F' β' ⟨s.fr,aG s.lv κ (if l.length=0 then .nils else .cells true false e (ef l))⟩ a w' ∧
  (Vw.mk F' β' (aG s.lv κ (if l.length=0 then .nils else .cells true false e (ef l))) w').cv v (.aV κ 0 l.length 1):=by
 obtain⟨hu,hie,hsz⟩:=dc hT;have hsize:i.size=1:=by rw [← hsz];simp [gx,hi]
 have hstr:=fY hT';have hf:=run_firstCells_string (P:=c.P) w 1 ⟨l.toArray⟩;rw [cS] at hf
 by_cases hm:l.length=0
 ·have hl:l=[]:=List.eq_nil_of_length_eq_zero hm;subst hl
  have hn:aC c F β ⟨s.fr,aG s.lv κ .nils⟩ a w:=by
   refine hs.step (fun _ h=>h) (fun _ _=>rfl) ?_ (fun _ _ _=>rfl) (fun _=>Nat.le_refl _) ?_ ?_ (fun b h=>.inl h) (Nat.le_refl _) (fun _ _ _=>rfl)
   ·intro k
    by_cases e:k=κ
    ·subst e;rw [hκ];simp [LB.sub]
    ·rw [aF _ _ e];exact LB.bz _
   ·intro k hK
    by_cases e:k=κ
    ·subst e;unfold Vw.bH;simp only [aA]
    ·exact Vw.bG (hs.bH k) hK (aF _ _ e) rfl rfl (fun _ h=>h)
   ·intro k1 k2 g1 g2 he
    have g:∀ k',(aG s.lv κ .nils k').live=true→(s.lv k').live=true:=by
     intro k' hk'
     by_cases e:k'=κ
     ·subst e;rw [aA] at hk';simp [LB.live] at hk'
     ·rwa [aF _ _ e] at hk'
    exact hs.inj _ _ (g _ g1) (g _ g2) he
  refine⟨.slice none 0 0,F,β,w,?_,by simpa using hn,?_⟩
  ·simp at hf;simp [Builtin.append_,run_underlying hu,run_underlying hstr,sizeOf,typeInfo,hi,hsize,Builtin.lenOf,hf,cS]
  ·simp [Vw.cv,Vw.cA,aA,Value.oneCell']
 ·have he:(Builtin.append_ #[T,T'] ty #[.slice none 0 0,.string ⟨l.toArray⟩]).run c.P w=(Builtin.append_ #[T,T'] ty #[.slice (some ⟨0,0,none⟩) 0 0,.string ⟨l.toArray⟩]).run c.P w:=by
   have h1:¬ (9223372036854775807<(l.length:Int)):=by omega
   have h2:=growslice_fits (old:=0) (by omega:0<l.length) hb;simp [Builtin.append_,run_underlying hu,run_underlying hstr,sizeOf,typeInfo,hi,hsize,Builtin.lenOf,cS,hm,Builtin.firstCells,loadCells,loadCellsFrom,Nat.not_lt.2 h2]
  have hr:=run_append_grow_string (P:=c.P) w T T' ty e i z hu hstr hi hz ⟨0,0,none⟩ 0 0 [] (by simp) (by simp) ⟨l.toArray⟩ (by rw [cS];omega) (by rw [cS];omega) (by
   rw [cS];simpa using growslice_fits (old:=0) (by omega:0<l.length) hb)
  rw [← he] at hr;simp only [cS,Nat.zero_add] at hr;have hd:aC c F β s a w.drew:=hs.heap rfl;have hge:=grownCap_ge w l.length 0 e
  have hal:=hd.alloc hκ (arr:=([]:List Value).toArray++(strCells ⟨l.toArray⟩).toArray++Builtin.zeroCells z.cells (grownCap w l.length 0 e - l.length)) e (cs:=ef l) (by simp [ja,strCells_length,cS]) (fun j p q=>by
   have hj:j<(strCells ⟨l.toArray⟩).length:=by rw [strCells_length,cS];rw [ja] at p;exact p
   have:(([]:List Value).toArray++(strCells ⟨l.toArray⟩).toArray++Builtin.zeroCells z.cells (grownCap w l.length 0 e - l.length))[j]=(strCells ⟨l.toArray⟩)[j]:=by
    rw [Array.getElem_append_left (by simpa using hj)];simp
   rw [this];exact wJ _ _ _ _ _)
  refine⟨_,F,aG β κ w.heap.size,_,hr,by simpa [hm] using hal,?_⟩;simp only [hm,if_false,Vw.cv,Vw.cA,aA];refine⟨⟨_,rfl,hge,?_⟩,rfl⟩;simp only [cw,heap_alloc,World.size_drew,if_true,Array.size_append,List.size_toArray,size_zeroCells,strCells_length,cS,hzs,List.length_nil];omega
theorem aC.pE (hs:aC c F β s a w)(hκ:s.lv κ=.hole) (hT:eI c.P T=some (e,1)) (hT':cu c.P T'=true)
 (hi:c.P.info? e=some i) (hz:i.zero=some z)(hy:s.val c.G y=.c (.aV k 0 n 1)) (hk:s.lv k=.cells own false e cs) (hfull:cs.length=n)
 (hzs:z.cells.size=1) (h63:n+l.length≤9223372036854775807) (hb:(n+l.length)*i.bytes≤140737488355328) :
 ∃ v F' β' w',(Builtin.append_ #[T,T'] ty #[a.eval y,.string ⟨l.toArray⟩]).run c.P w=.ok v w' ∧
  aC c F' β' ⟨s.fr,aG (aG s.lv k .dead) κ (.cells own false e (cs++ef l))⟩ a w' ∧
  (Vw.mk F' β' (aG (aG s.lv k .dead) κ (.cells own false e (cs++ef l))) w').cv v (.aV κ 0 (n+l.length) 1):=by
 obtain⟨hu,hie,hsz⟩:=dc hT;have hsize:i.size=1:=by rw [← hsz];simp [gx,hi]
 have hstr:=fY hT';have hkκ:k≠κ:=fun e=>by rw [e,hκ] at hk;cases hk
 have hv:=hy ▸ hs.val y;obtain⟨hv,_⟩:=hv;simp only [Vw.cA,hk] at hv;obtain⟨cap,C4,N6,hv3⟩:=hv;have hbk:=hs.bH k;unfold Vw.bH at hbk;simp only [hk] at hbk;obtain⟨arr,g1,g2,g3,g4,g5⟩:=hbk;have has:cw w (β k)=arr.size:=by simp [cw,g1]
 rw [has] at hv3;simp only [Nat.zero_add,Nat.mul_one] at hv3;rw [C4];have hvl:(strCells ⟨l.toArray⟩).length=l.length:=by rw [strCells_length,cS]
 have hbl:=ja l
 by_cases hroom:n+l.length≤cap
 ·have hr:=run_append_room_string (P:=c.P) w T T' ty e i hu hstr hi hsize (β k) n cap arr g1 ⟨l.toArray⟩ (by rw [cS];exact hroom) (by rw [cS];omega);rw [cS] at hr
  have hseg:arr.toList.take n++strCells ⟨l.toArray⟩++arr.toList.drop (n+l.length)=aj arr.toList n (strCells ⟨l.toArray⟩):=by
   unfold aj;rw [hvl]
  rw [hseg] at hr;have hle:n+(strCells ⟨l.toArray⟩).length≤arr.toList.length:=by rw [hvl];simp;omega
  have hset:=hs.setRow (arr:=(aj arr.toList n (strCells ⟨l.toArray⟩)).toArray) hk g1 (cs':=cs) (by simp [aR _ _ _ hle]) (by simp [aR _ _ _ hle];omega) (fun j p q=>by
   simp only [List.getElem_toArray];rw [c6 _ _ _ hle j (by simpa using q),dif_neg (by omega)];simp only [Array.getElem_toList];exact g3 _ _ _)
  have hsame:aG s.lv k (.cells own false e cs)=s.lv:=by
   funext t;unfold aG;split
   ·rename_i h;rw [h,hk]
   ·rfl
  rw [hsame] at hset
  have hK:(Vw.mk F β s.lv w).ia (Vw.mk F β s.lv (w.setRow (β k) (aj arr.toList n (strCells ⟨l.toArray⟩)).toArray)):=
   Vw.iA (fun _ h=>h) (fun b hb=>setRow_other _ _ _ _ (fun e=>by
    have:F (β k):=e ▸ hb;simp at g4;exact g4 this)) (fun _=>LB.bz _) (fun _ _ _=>rfl) (fun b=>by rw [fZ w (β k) arr _ e (0,0) g1 (by simp [aR _ _ _ hle]) b];exact Nat.le_refl _)
  have hmv:=hset.move (k:=k) (κ:=κ) hk hκ (cs':=cs++ef l) (arr:=(aj arr.toList n (strCells ⟨l.toArray⟩)).toArray) (setRow_heap w _ arr _ e (0,0) g1) (by simp [aR _ _ _ hle];omega) (fun j p q=>by
   simp only [List.getElem_toArray];rw [c6 _ _ _ hle j (by simpa using q)]
   by_cases hj:j<n
   ·rw [dif_neg (by omega),List.getElem_append_left (by omega)];simp only [Array.getElem_toList];exact hK.cv (g3 _ _ _)
   ·rw [dif_pos ⟨by omega,by simp at p;omega⟩,List.getElem_append_right (by omega)];simp only [hfull];exact wJ _ _ _ _ _)
  refine⟨_,_,_,_,hr,hmv,⟨?_,rfl⟩⟩;simp only [Vw.cA,aA];refine⟨cap,rfl,hroom,?_⟩;rw [fZ w (β k) arr _ e (0,0) g1 (by simp [aR _ _ _ hle])];rw [has];omega
 ·have holds:∀ j u,(arr.toList.take n)[j]?=some u→w.cell? ((⟨β k,0,none⟩:Addr).add j)=some u:=by
   intro j u hu;rw [List.getElem?_take] at hu;split at hu
   ·rw [Array.getElem?_toList] at hu;rw [Addr.add_lit,cell_of_row w _ _ _ _ _ g1,Nat.zero_add];exact hu
   ·cases hu
  have hn:n≤arr.size:=by omega
  have hr:=run_append_grow_string (P:=c.P) w T T' ty e i z hu hstr hi hz ⟨β k,0,none⟩ n cap (arr.toList.take n) (by simp [hsize];omega) holds ⟨l.toArray⟩ (by rw [cS];omega) (by rw [cS];omega) (by rw [cS];exact growslice_fits (by omega) hb);rw [cS] at hr;have hd:aC c F β s a w.drew:=hs.heap rfl
  have hal:=(hd.kill k).alloc (κ:=κ) (by show aG s.lv k .dead κ=_;rw [aF _ _ (Ne.symm hkκ)];exact hκ) (arr:=((arr.toList.take n).toArray++(strCells ⟨l.toArray⟩).toArray++Builtin.zeroCells z.cells (grownCap w (n+l.length) cap e - (n+l.length)))) e (cs:=cs++ef l)
   (by simp;omega) (fun j p q=>by
    have hK2:(Vw.mk F β s.lv w).ia (Vw.mk F β (aG s.lv k .dead) w.drew):=Vw.iA (fun _ h=>h) (fun _ _=>rfl) (fun t=>by
     by_cases e:t=k
     ·subst e;show LB.sub (s.lv t) (aG s.lv t .dead t);rw [aA];cases s.lv t <;> simp [LB.sub]
     ·show LB.sub (s.lv t) (aG s.lv k .dead t);rw [aF _ _ e];exact LB.bz _) (fun _ _ _=>rfl) (fun _=>Nat.le_refl _)
    simp only [List.length_append] at p;have hto:(arr.toList.take n).length=n:=by simp;omega
    by_cases hj:j<n
    ·have e1:((arr.toList.take n).toArray++(strCells ⟨l.toArray⟩).toArray++Builtin.zeroCells z.cells (grownCap w (n+l.length) cap e - (n+l.length)))[j]=arr[j]'(by omega):=by
      rw [Array.getElem_append_left (by simp;omega),Array.getElem_append_left (by simp;omega)];simp
     rw [e1,List.getElem_append_left (by omega)];exact hK2.cv (g3 _ _ _)
    ·have e1:((arr.toList.take n).toArray++(strCells ⟨l.toArray⟩).toArray++Builtin.zeroCells z.cells (grownCap w (n+l.length) cap e - (n+l.length)))[j]=(strCells ⟨l.toArray⟩)[j - n]'(by omega):=by
      rw [Array.getElem_append_left (by simp;omega),Array.getElem_append_right (by simp;omega)];simp [hto]
     rw [e1,List.getElem_append_right (by omega)];simp only [hfull];exact wJ _ _ _ _ _)
  have hun:=hal.mO (k:=κ) own yw;rw [Aa] at hun;refine⟨_,_,_,_,hr,hun,⟨?_,rfl⟩⟩;simp only [Vw.cA,aA];refine⟨_,rfl,grownCap_ge w (n+l.length) cap e,?_⟩;have hge:=grownCap_ge w (n+l.length) cap e;simp only [cw,heap_alloc,World.size_drew,if_true,Array.size_append,List.size_toArray,size_zeroCells,hvl,hzs,List.length_take,Array.length_toList];omega
end
section
variable {c:Ctx}{F:Nat→Prop}{β:Key→Nat}{s:aB}{a:Act}{w:World}
theorem jU(hd:∀ d,o.dst=some d→d<c.n)
 (ho:o.op=.call { callee:=.builtin .append,args:=#[y,x],argTypes:=#[T,T'] }) (hκ:s.lv κ=.hole) (hy:s.val c.G y=.c (.d .nilsl)∨∃ k,s.val c.G y=.c (.aV k 0 0 1)∧s.lv k=.nils) (hT:eI c.P T=some (e,1)) (hT':cu c.P T'=true)
 (hi:c.P.info? e=some i) (hz:i.zero=some z) (hx:s.val c.G x=.c (.d (.str l))) (hzs:z.cells.size=1) (h63:l.length≤9223372036854775807) (hb:l.length*i.bytes≤140737488355328) :
 bZ c o s (aB.put ⟨s.fr,aG s.lv κ (if l.length=0 then .nils else .cells true false e (ef l))⟩ o.dst (.c (.aV κ 0 l.length 1))):=
 bZ.dX hd fun F β a w hs=>by
  obtain⟨v,F',β',w',h1,h2,h3⟩:=hs.pz (ty:=o.type) hκ hT hT' hi hz hzs h63 hb;refine⟨v,F',β',w',?_,h2,h3⟩;have hxv:=Vw.iF (hx ▸ hs.val x)
  have hu:a.eval y=.slice none 0 0:=by
   rcases hy with hy|⟨k,hy,hk⟩
   ·have hv:=hy ▸ hs.val y;obtain⟨hv,_⟩:=hv;obtain⟨u,hu⟩:∃ u,a.eval y=u:=⟨_,rfl⟩
    rw [hu] at hv ⊢
    cases hv;rfl
   ·have hv:=hy ▸ hs.val y;obtain⟨hv,_⟩:=hv;simp only [Vw.cA,hk] at hv;exact hv.1
  simp [execOp,ho,resolve,invoke,builtin,hu,hxv,h1]
theorem pU(hd:∀ d,o.dst=some d→d<c.n)
 (ho:o.op=.call { callee:=.builtin .append,args:=#[y,x],argTypes:=#[T,T'] }) (hκ:s.lv κ=.hole) (hT:eI c.P T=some (e,1)) (hT':cu c.P T'=true)
 (hi:c.P.info? e=some i) (hz:i.zero=some z) (hy:s.val c.G y=.c (.aV k 0 n 1)) (hk:s.lv k=.cells own false e cs) (hfull:cs.length=n)
 (hx:s.val c.G x=.c (.d (.str l))) (hzs:z.cells.size=1) (h63:n+l.length≤9223372036854775807) (hb:(n+l.length)*i.bytes≤140737488355328) :
 bZ c o s (aB.put ⟨s.fr,aG (aG s.lv k .dead) κ (.cells own false e (cs++ef l))⟩ o.dst (.c (.aV κ 0 (n+l.length) 1))):=
 bZ.dX hd fun F β a w hs=>by
  obtain⟨v,F',β',w',h1,h2,h3⟩:=hs.pE (ty:=o.type) (l:=l) hκ hT hT' hi hz hy hk hfull hzs h63 hb;have hxv:=Vw.iF (hx ▸ hs.val x);exact⟨v,F',β',w',by simp [execOp,ho,resolve,invoke,builtin,hxv,h1],h2,h3⟩
theorem xq{len:Nat}{T0:TypeId}(hd:∀ d,o.dst=some d→d<c.n)
 (ho:o.op=.call { callee:=.builtin .unsafeSliceData,args:=#[x],argTypes:=#[T] }) (hx:s.val c.G x=.c (.aV k off len sz)) (hk:s.lv k=.cells own fz T0 cs) (hlen:0<len) :
 bZ c o s (s.put o.dst (.c (.ptr k off))):=
 bZ.aU hd fun F β a w hs=>by
  have hv:=hx ▸ hs.val x;obtain⟨hv,_⟩:=hv;simp only [Vw.cA,hk] at hv;obtain⟨cap,C4,N6,hv3⟩:=hv;refine⟨.pointer (some ⟨β k,off,none⟩),?_,?_⟩
  ·have:=run_unsafeSliceData_row (P:=c.P) w #[T] o.type ⟨β k,off,none⟩ len cap (by omega);simp [execOp,ho,resolve,invoke,builtin,C4,this]
  ·exact⟨by simp only [Vw.cX,hk],rfl⟩
theorem kP(hd:∀ d,o.dst=some d→d<c.n)
 (ho:o.op=.call { callee:=.builtin .unsafeSliceData,args:=#[x],argTypes:=#[T] }) (hx:s.val c.G x=.c (.d .nilsl)∨∃ k,s.val c.G x=.c (.aV k 0 0 1)∧s.lv k=.nils) :
 bZ c o s (s.put o.dst (.c (.d .nilp))):=
 bZ.aU hd fun F β a w hs=>by
  have hu:a.eval x=.slice none 0 0:=by
   rcases hx with hy|⟨k,hy,hk⟩
   ·have hv:=hy ▸ hs.val x;obtain⟨hv,_⟩:=hv;obtain⟨u,hu⟩:∃ u,a.eval x=u:=⟨_,rfl⟩
    rw [hu] at hv ⊢
    cases hv;rfl
   ·have hv:=hy ▸ hs.val x;obtain⟨hv,_⟩:=hv;simp only [Vw.cA,hk] at hv;exact hv.1
  refine⟨.pointer none,?_,.nilp,rfl⟩;simp [execOp,ho,resolve,invoke,builtin,hu,run_unsafeSliceData_nil]
theorem m4(hd:∀ d,o.dst=some d→d<c.n)
 (ho:o.op=.call { callee:=.builtin .unsafeString,args:=#[x,y],argTypes:=#[pt,it] }) (hx:s.val c.G x=.c (.d .nilp)) (hy:s.val c.G y=.c (.d (.int .i64 0))) :
 bZ c o s (s.put o.dst (.c (.d (.str [])))):=
 bZ.aU hd fun F β a w hs=>by
  have hv:=hx ▸ hs.val x;obtain⟨hv,_⟩:=hv;obtain⟨u,hu⟩:∃ u,a.eval x=u:=⟨_,rfl⟩
  rw [hu] at hv;have hyv:=Vw.eW (hy ▸ hs.val y)
  cases hv
  refine⟨.string .empty,?_,?_⟩
  ·have:=run_unsafeString_none (P:=c.P) w pt it o.type none;simp [execOp,ho,resolve,invoke,builtin,hu,hyv,this]
  ·have:ByteArray.empty=⟨([]:List UInt8).toArray⟩:=rfl;rw [this];exact Vw.pq _ _ (by simp)
def qN:List CV→Option (List UInt8)
 | []=>some []
 | .d (.int .u8 n)::r=>match n with
  | .ofNat m=>if m<256 then (match qN r with|some l=>some (UInt8.ofNat m::l)|none=>none) else none
  | _=>none
 | _=>none
theorem vW:∀ {cs:List CV}{l:List UInt8},qN cs=some l→cs=ef l
 | [],l,h=>by simp only [qN,Option.some.injEq] at h;subst h;rfl
 | x::r,l,h=>by
  unfold qN at h;split at h
  ·rename_i h0;cases h0
  ·rename_i n r' h0
   simp only [List.cons.injEq] at h0;obtain⟨rfl,rfl⟩:=h0;split at h
   ·rename_i m
    split at h
    ·rename_i hm
     split at h
     ·rename_i l' hl
      simp only [Option.some.injEq] at h;subst h;have:=vW hl;simp only [ef,List.map_cons] at this ⊢;rw [this];congr 3;have:(UInt8.ofNat m).toNat=m:=by simp [UInt8.toNat_ofNat'];omega
      rw [this];rfl
     ·cases h
    ·cases h
   ·cases h
  ·cases h
theorem aC.Bt (h:aC c F β s a w)(hk:s.lv k=.cells own false T cs) (n:Nat) :
 aC c F β ⟨s.fr,aG s.lv k .dead⟩ a (w.freeze ⟨β k,0,none⟩ n):=by
 have hlive:(s.lv k).live=true:=by rw [hk];rfl
 have hoth:∀ b,b≠β k→(w.freeze ⟨β k,0,none⟩ n).heap[b]?=w.heap[b]?:=by
  intro b hb;unfold World.freeze;split
  ·rfl
  ·simp only [Array.getElem?_modify];rw [if_neg (fun e=>hb e.symm)]
 have hsz:(w.freeze ⟨β k,0,none⟩ n).heap.size=w.heap.size:=by
  unfold World.freeze;split <;> simp
 have has:∀ b,cw w b=cw (w.freeze ⟨β k,0,none⟩ n) b:=by
  intro b
  by_cases e:b=β k
  ·subst e;unfold World.freeze;split
   ·rfl
   ·simp only [cw,Array.getElem?_modify,if_true]
    cases h1:w.heap[β k]? with
    | none=>rfl
    | some o=>cases o <;> rfl
  ·simp only [cw,hoth b e]
 refine h.step (hoo:=by unfold World.freeze;split <;> exact⟨rfl,rfl⟩) (fun _ h=>h) (fun b hb=>hoth b (fun e=>h.l8 hlive (e ▸ hb))) ?_ (fun _ _ _=>rfl) (fun b=>Nat.le_of_eq (has b)) ?_ ?_ (fun b h=>.inl h) (Nat.le_of_eq hsz.symm) ?_
 ·intro k'
  by_cases e:k'=k
  ·subst e;rw [aA];cases s.lv k' <;> simp [LB.sub]
  ·rw [aF _ _ e];exact LB.bz _
 ·intro k' hK
  by_cases e:k'=k
  ·subst e;unfold Vw.bH;simp only [aA]
  ·have hb:=h.bH k'
   by_cases hl:(s.lv k').live=true
   ·exact Vw.bG hb hK (aF _ _ e) rfl (hoth _ (fun e'=>e (h.inj _ _ hl hlive e'))) (fun _ h=>h)
   ·cases ek:s.lv k' with
    | cells o fz T' cs'=>
     cases fz with
     | false=>rw [ek] at hl;exact absurd rfl hl
     | true=>
      have hF:F (β k'):=by unfold Vw.bH at hb;simp only [ek] at hb;obtain⟨_,_,_,_,h4,_⟩:=hb;exact h4
      exact Vw.bG hb hK (aF _ _ e) rfl (hoth _ (fun e'=>h.l8 hlive (e' ▸ hF))) (fun _ h=>h)
    | map o es=>rw [ek] at hl;exact absurd rfl hl
    | hole=>unfold Vw.bH;simp only [aF _ _ e,ek]
    | dead=>unfold Vw.bH;simp only [aF _ _ e,ek]
    | nils=>unfold Vw.bH;simp only [aF _ _ e,ek]
 ·intro k1 k2 a1 a2 he
  have g:∀ k',(aG s.lv k .dead k').live=true→(s.lv k').live=true:=by
   intro k' hk'
   by_cases e:k'=k
   ·subst e;rw [aA] at hk';cases hk'
   ·rwa [aF _ _ e] at hk'
  exact h.inj _ _ (g _ a1) (g _ a2) he
 ·intro b hb hnW;refine hoth b (fun e=>?_);rcases h.eE hlive with h1|h1
  ·omega
  ·exact hnW (e ▸ h1)
theorem tn(hd:∀ d,o.dst=some d→d<c.n)
 (ho:o.op=.call { callee:=.builtin .unsafeString,args:=#[x,y],argTypes:=#[pt,it] }) (hx:s.val c.G x=.c (.ptr k 0)) (hk:s.lv k=.cells own false e cs) (hy:s.val c.G y=.c (.d (.int .i64 l.length)))
 (hp:c.P.underlying pt=some (.pointer e)) (hc:c.P.cellsOf e=1) (hl:cs.take l.length=ef l) (h0:l≠[]) (h63:l.length≤9223372036854775807) :
 bZ c o s (aB.put ⟨s.fr,aG s.lv k .dead⟩ o.dst (.c (.d (.str l)))):=
 bZ.dX hd fun F β a w hs=>by
  have hv:=hx ▸ hs.val x;obtain⟨hv,_⟩:=hv;simp only [Vw.cX,hk] at hv;have hyv:=Vw.eW (hy ▸ hs.val y);have hb:=hs.bH k;unfold Vw.bH at hb;simp only [hk] at hb;obtain⟨arr,b1,b2,b3,b4,b5⟩:=hb
  have hll:l.length≤cs.length:=by
   have:=congrArg List.length hl;rw [List.length_take,ja] at this;omega
  have hcell:∀ j x,l[j]?=some x→w.cell? ((⟨β k,0,none⟩:Addr).add j)=some (.int .u8 x.toNat):=by
   intro j x hj;obtain⟨hj1,hj2⟩:=List.getElem?_eq_some_iff.1 hj
   have h1:cs[j]'(by omega)=.d (.int .u8 (x.toNat:Int)):=by
    have h2:(cs.take l.length)[j]?=some (cs[j]'(by omega)):=by
     rw [List.getElem?_take,if_pos hj1,List.getElem?_eq_getElem (by omega)]
    rw [hl,ef,List.getElem?_map,hj] at h2;simpa using h2.symm
   have h3:=b3 j (by omega) (by omega);rw [h1] at h3;have h4:=Vw.eW (V:=Vw.mk F β s.lv w) h3
   have h5:(⟨β k,0,none⟩:Addr).add j=⟨β k,j,none⟩:=by
    unfold Addr.add;by_cases e:j=0
    ·subst e;simp
    ·simp [e]
   rw [h5,eZ b1 (by omega),h4]
  have hr:=run_unsafeString_row (P:=c.P) w pt it o.type e hp hc (β k) arr.size (by simp [World.shape?,b1]) l h0 (by omega) h63 hcell;refine⟨.string ⟨l.toArray⟩,F,β,w.freeze ⟨β k,0,none⟩ l.length,?_,hs.Bt hk l.length,Vw.pq _ _ h63⟩;simp [execOp,ho,resolve,invoke,builtin,hv,hyv,hr]
theorem wW{S:TypeId}(hd:∀ d,o.dst=some d→d<c.n) (ho:o.op=.convert S T x)
 (hx:s.val c.G x=.c (.d (.str l))) (hS:cu c.P S=true) (hT:eI c.P T=some (e,1)) (he:c.P.underlying e=some (.int .u8)) (h63:l.length≤9223372036854775807) :
 bZ c o s (s.put o.dst (.c (.d (.sl (l.map fun b=>[.int .u8 (b.toNat:Int)]))))):=by
 have hput:s.put o.dst (.c (.d (.sl (l.map fun b=>[.int .u8 (b.toNat:Int)]))))=aB.put ⟨s.fr,s.lv⟩ o.dst (.c (.d (.sl (l.map fun b=>[.int .u8 (b.toNat:Int)])))):=rfl;rw [hput];refine bZ.dX hd fun F β a w hs=>?_;have hxv:=Vw.iF (hx ▸ hs.val x);obtain⟨hu,_,_⟩:=dc hT;have hstr:=fY hS;have hr:=Go.Lib.run_convert_string_bytes (P:=c.P) w S T e ⟨l.toArray⟩ hstr hu he;rw [cS] at hr;have hold:∀ b,b<w.heap.size→(bytesWorld w e ⟨l.toArray⟩).heap[b]?=w.heap[b]?:=fun b hb=>bytesWorld_at_old w e _ b hb
 have hsz:=bytesWorld_size w e ⟨l.toArray⟩;have hge:=hs.ge
 have hst:aC c (fun b=>F b∨b=w.heap.size) β s a (bytesWorld w e ⟨l.toArray⟩):=by
  refine hs.step (fun _ h=>.inl h) (fun b hb=>hold b (hs.lf b hb).1) (fun k=>LB.bz _) (fun _ _ _=>rfl) (fun b=>?_) ?_ hs.inj (fun b hb=>?_) (by omega) (fun b hb _=>hold b (by omega))
  ·by_cases hb:b<w.heap.size
   ·simp only [cw,hold b hb];exact Nat.le_refl _
   ·have:w.heap[b]?=none:=Array.getElem?_eq_none (by omega);simp [cw,this]
  ·intro k hK;have hb:=hs.bH k
   have hlt:(∃ own fz T cs,s.lv k=.cells own fz T cs)∨(∃ own es,s.lv k=.map own es)→β k<w.heap.size:=by
    unfold Vw.bH at hb;rintro (⟨o,fz,T,cs,e⟩|⟨o,es,e⟩)
    ·simp only [e] at hb;obtain⟨_,h1,_⟩:=hb;exact ec h1
    ·simp only [e] at hb;obtain⟨_,_,h1,_⟩:=hb;exact ec h1
   cases ek:s.lv k with
   | cells own fz T cs=>
    have:=hlt (.inl ⟨_,_,_,_,ek⟩);exact Vw.bG hb hK rfl rfl (hold _ this) (fun _ hf=>hf.resolve_right (by show β k≠w.heap.size;omega))
   | map own es=>
    have:=hlt (.inr ⟨_,_,ek⟩);exact Vw.bG hb hK rfl rfl (hold _ this) (fun _ hf=>hf.resolve_right (by show β k≠w.heap.size;omega))
   | hole=>unfold Vw.bH;simp only [ek]
   | dead=>unfold Vw.bH;simp only [ek]
   | nils=>unfold Vw.bH;simp only [ek]
  ·rcases hb with hb|hb
   ·exact .inl hb
   ·subst hb;exact .inr ⟨by omega,hge⟩
 refine⟨.slice (some ⟨w.heap.size,0,none⟩) l.length (grownCap w l.length 0 e),_,β,_,by simp [execOp,ho,hxv,hr],hst,?_,rfl⟩;have hcap:=grownCap_ge w l.length 0 e
 have key:=Rd.sl (M:=kZ (bytesWorld w e ⟨l.toArray⟩) (fun b=>F b∨b=w.heap.size)) w.heap.size 0 (grownCap w l.length 0 e) 1 (l.map fun b=>[DV.int .u8 (b.toNat:Int)]) (fun i _=>.int .u8 (l.getD i 0).toNat)
  (by simp) (by simpa using hcap) (by simpa using h63) ?_ (by intros;rfl) ?_
 ·rw [List.length_map] at key;exact key
 ·intro i hi j hj;simp at hi;refine⟨.inr rfl,?_⟩;have:=bytesWorld_cell w e ⟨l.toArray⟩ i (by rw [cS];exact hi);have hj0:j=0:=by omega
  subst hj0;simpa using this
 ·intro i hi j hj;simp at hi hj;have hj0:j=0:=by omega
  subst hj0;simp only [List.getElem_map,List.getElem_cons_zero];have:l.getD i 0=l[i]:=by rw [List.getD_eq_getElem?_getD,List.getElem?_eq_getElem hi];rfl
  rw [this];exact .int _ _ (Js _)
end
def CF:DV→AV
 | .agg l=>.agg (l.map .d)
 | x=>.c (.d x)
theorem Vw.CF(h:Rd V.mem v d):V.av v (Am.CF d):=by
 cases h with
 | agg arr cs hl ho hr=>
  refine⟨arr,rfl,by simpa using hl,fun i p q=>?_⟩;simp only [List.getElem_map];exact⟨hr i (by simpa using p),ho i q⟩
 | _=>first
  | exact⟨.bool _,rfl⟩
  | exact⟨.int _ _ (by assumption),rfl⟩
  | exact⟨.str _ (by assumption),rfl⟩
  | exact⟨.nilp,rfl⟩
  | exact⟨.nilsl,rfl⟩
  | exact⟨.nilIface,rfl⟩
  | exact⟨.nilFunc,rfl⟩
  | exact⟨.nilmap,rfl⟩
  | exact⟨.ptr _ _ _ _ (by assumption) (by assumption) (by assumption),rfl⟩
  | exact⟨.sl _ _ _ _ _ _ (by assumption) (by assumption) (by assumption) (by assumption) (by assumption) (by assumption),rfl⟩
  | exact⟨.iface _ _ _ (by assumption),rfl⟩
  | exact⟨.func _ _ _ _ _ (by assumption) (by assumption) (by assumption) (by assumption),rfl⟩
theorem wu (d:DV):∀ l,CF d≠.tup l:=by intro l;cases d <;> simp [CF]
def dG (P:Program)(T:TypeId)(d:DV):Bool:=
 match P.underlying T,d with
 | some (.int k),.int k' _=>decide (k=k')
 | some .string,.str _=>true
 | some .bool,.bool _=>true
 | _,_=>false
def jd (P:Program):List Field→List DV→Bool
 | [],_=>true
 | f::r,ds=>f.name != "_" && (match cV P f.type with|some false=>true|_=>false) && (match ds[f.offset]? with|some d=>dG P f.type d|none=>false) && jd P r ds
def fk (P:Program)(T:TypeId)(d:DV):Bool:=
 match P.underlying T,d with
 | some (.struct fs),.agg ds=>!P.stoodInHeld T && jd P fs.toList ds && fs.toList.map (·.offset) == List.range ds.length
 | _,d=>dG P T d
def mb:DV→DV→Bool
 | .int k a,.int k' b=>decide (k=k') && a == b
 | .str a,.str b=>a == b
 | .bool a,.bool b=>a == b
 | _,_=>false
theorem Fy {e:DV}(h:mb d e=true):d=e:=by
 unfold mb at h;split at h
 ·simp only [Bool.and_eq_true,decide_eq_true_eq,beq_iff_eq] at h;rw [h.1,h.2]
 ·simp only [beq_iff_eq] at h;rw [h]
 ·simp only [beq_iff_eq] at h;rw [h]
 ·cases h
def Hp:List DV→List DV→Bool
 | [],[]=>true
 | a::l,b::m=>mb a b && Hp l m
 | _,_=>false
theorem Fk:∀ {l m:List DV},Hp l m=true→l=m
 | [],[],_=>rfl
 | a::l,b::m,h=>by simp only [Hp,Bool.and_eq_true] at h;rw [Fy h.1,Fk h.2]
 | [],_::_,h=>by cases h
 | _::_,[],h=>by cases h
def uY:DV→DV→Bool
 | .agg a,.agg b=>Hp a b
 | a,b=>mb a b
theorem L6 {e:DV}(h:uY d e=true):d=e:=by
 unfold uY at h;split at h
 ·rw [Fk h]
 ·exact Fy h
theorem vP (a b:List UInt8):(ByteArray.mk a.toArray == ByteArray.mk b.toArray)=(a == b):=by
 rw [Bool.eq_iff_iff,MapKept.bytes_beq,beq_iff_eq];constructor
 ·intro h;simpa using h
 ·rintro rfl;rfl
section
variable {P:Program}{w:World}{M:Mem}
theorem BA(h:dG P T d=true) (hv:Rd M v d):v=d.eJ:=by
 unfold dG at h;split at h
 ·cases hv;rfl
 ·cases hv with|str s hl=>simp [DV.eJ]
 ·cases hv;rfl
 ·cases h
theorem I6{t:TypeDesc}{e:DV}(hT:P.underlying T=some t) (h1:dG P T d=true) (h2:dG P T e=true):Instr.sameNow t d.eJ e.eJ=some (mb d e):=by
 unfold dG at h1 h2;rw [hT] at h1 h2
 cases t <;> cases d <;> simp at h1 <;> cases e <;> simp at h2
 ·simp [DV.eJ,Instr.sameNow,mb]
 ·subst h1;subst h2;simp [DV.eJ,Instr.sameNow,mb]
 ·rename_i a b
  simp only [DV.eJ,Instr.sameNow,mb,Option.some.injEq];exact vP a b
theorem FL{e:DV}(h1:dG P T d=true) (h2:dG P T e=true) (n:Nat):(Op.equalIn (n+1) T d.eJ e.eJ).run P w=.ok (mb d e) w:=by
 unfold dG at h1 h2
 cases hT:P.underlying T with
 | none=>rw [hT] at h1;simp at h1
 | some t=>
  rw [hT] at h1 h2
  cases t <;> cases d <;> simp at h1 <;> cases e <;> simp at h2
  ·rename_i a b;simp only [DV.eJ,mb];exact run_equalIn_bool' w n T a b hT
  ·subst h1;subst h2;simp only [DV.eJ,mb,decide_true,Bool.true_and];exact run_equalIn_int w n T _ _ _ _ hT
  ·simp only [DV.eJ,mb];rw [run_equalIn_string w n T _ _ hT,toList_mk,toList_mk]
theorem wz(h1:dG P T d=true) (em:Bool) (n:Nat):(Instr.checkKey em (n+1) T d.eJ).run P w=.ok () w:=by
 unfold dG at h1
 cases hT:P.underlying T with
 | none=>rw [hT] at h1;simp at h1
 | some t=>
  rw [hT] at h1
  cases t <;> cases d <;> simp at h1 <;> simp [Instr.checkKey,run_underlying hT,DV.eJ]
theorem yV(h1:dG P T d=true) (n:Nat):Instr.sameBits n d.eJ d.eJ=true:=by
 unfold dG at h1;split at h1
 ·cases n <;> simp [DV.eJ,Instr.sameBits]
 ·cases n <;> simp only [DV.eJ,Instr.sameBits] <;> rw [vP] <;> simp
 ·cases n <;> simp [DV.eJ,Instr.sameBits]
 ·cases h1
theorem k9{arr:Array Value}(ha:cV P T=some false) (h:arr[off]?=some d.eJ):(part T arr off).run P w=.ok d.eJ w:=by
 simp [part,lD ha,h]
theorem iU:∀ {fs:List Field}{ds:List DV},jd P fs ds=true→∀ f∈fs,f.name ≠ "_" ∧ cV P f.type=some false∧∃ d,ds[f.offset]?=some d∧dG P f.type d=true
 | [],_,_,f,hf=>by cases hf
 | g::r,ds,h,f,hf=>by
  simp only [jd,Bool.and_eq_true,bne_iff_ne] at h;obtain⟨⟨⟨h1,h2⟩,h3⟩,h4⟩:=h;rcases List.mem_cons.1 hf with rfl|hf
  ·refine⟨h1,?_,?_⟩
   ·split at h2
    ·assumption
    ·cases h2
   ·split at h3
    ·rename_i d hd;exact⟨d,hd,h3⟩
    ·cases h3
  ·exact iU h4 f hf
theorem Hx{fs:Array Field}(hT:P.underlying T=some (.struct fs)) (h:fk P T (.agg ds)=true) (hv:Rd M v (.agg ds)) :
 v=.agg (ds.map DV.eJ).toArray:=by
 simp only [fk,hT,Bool.and_eq_true,beq_iff_eq] at h;obtain⟨⟨_,h2⟩,h3⟩:=h
 cases hv with
 | agg arr _ hl ho hr=>
  congr 1;apply Array.ext
  ·simpa using hl
  ·intro i p q;simp only [List.getElem_toArray,List.getElem_map];have hi:i<ds.length:=by omega
   have hm:i∈fs.toList.map (·.offset):=by rw [h3];exact List.mem_range.2 hi
   obtain⟨f,hf,rfl⟩:=List.mem_map.1 hm;obtain⟨_,_,d,hd,hs⟩:=iU h2 f hf;have hd':ds[f.offset]=d:=by rw [List.getElem?_eq_getElem hi] at hd;simpa using hd
   have:=hr f.offset hi;rw [hd'] at this ⊢;exact BA hs this
def DV.fh:DV→Value
 | .agg ds=>.agg (ds.map DV.eJ).toArray
 | d=>d.eJ
theorem n5(h:dG P T d=true):d.fh=d.eJ:=by
 cases d with
 | agg ds=>unfold dG at h;split at h <;> simp_all
 | _=>rfl
theorem uR(h:fk P T d=true) (hv:Rd M v d):v=d.fh:=by
 unfold fk at h;split at h
 ·rename_i fs ds hT
  have h':fk P T (.agg ds)=true:=by simp only [fk,hT];exact h
  exact Hx hT h' hv
 ·have:=BA h hv;rw [this];exact (n5 h).symm
theorem oT {ds es:List DV}:∀ (fs:List Field),jd P fs ds=true→jd P fs es=true→∀ n,
 (Op.eqFields (n+1) (ds.map DV.eJ).toArray (es.map DV.eJ).toArray fs).run P w=.ok (fs.all fun f=>match ds[f.offset]?,es[f.offset]? with|some a,some b=>mb a b|_,_=>false) w
 | [],_,_,n=>by simp [Op.eqFields]
 | f::r,h1,h2,n=>by
  obtain⟨a1,a2,d,a3,a4⟩:=iU h1 f (List.mem_cons_self ..);obtain⟨_,_,e,b3,b4⟩:=iU h2 f (List.mem_cons_self ..);have r1:jd P r ds=true:=by simp only [jd,Bool.and_eq_true] at h1;exact h1.2
  have r2:jd P r es=true:=by simp only [jd,Bool.and_eq_true] at h2;exact h2.2
  have p1:=k9 (P:=P) (w:=w) (d:=d) (off:=f.offset) (arr:=(ds.map DV.eJ).toArray) a2 (by simp [a3]);have p2:=k9 (P:=P) (w:=w) (d:=e) (off:=f.offset) (arr:=(es.map DV.eJ).toArray) a2 (by simp [b3]);simp only [Op.eqFields,if_pos a1,Sem.run_bind,p1,p2,FL a4 b4,Result.andThen_ok,List.all_cons,a3,b3]
  cases hb:mb d e with
  | false=>simp
  | true=>simp only [Bool.not_true,Bool.false_eq_true,if_false,Bool.true_and];exact oT r r1 r2 n
theorem CZ {es:List DV}{fs:List Field}(h1:fs.map (·.offset)=List.range ds.length) (h2:fs.map (·.offset)=List.range es.length) :
 (fs.all fun f=>match ds[f.offset]?,es[f.offset]? with|some a,some b=>mb a b|_,_=>false)=Hp ds es:=by
 have hl:ds.length=es.length:=by
  have:=congrArg List.length (h1.symm.trans h2);simpa using this
 have h3:(fs.all fun f=>match ds[f.offset]?,es[f.offset]? with|some a,some b=>mb a b|_,_=>false) =
  ((fs.map (·.offset)).all fun i=>match ds[i]?,es[i]? with|some a,some b=>mb a b|_,_=>false):=by rw [List.all_map];rfl
 rw [h3,h1];clear h1 h2 h3 fs
 induction ds generalizing es with
 | nil=>cases es with
  | nil=>rfl
  | cons b m=>simp at hl
 | cons a l ih=>
  cases es with
  | nil=>simp at hl
  | cons b m=>
   simp only [List.length_cons,List.range_succ_eq_map,List.all_cons,List.getElem?_cons_zero,Hp,List.all_map];congr 1;have:=ih (es:=m) (by simpa using hl);rw [← this];congr 1
theorem NN{e:DV}(h1:fk P T d=true) (h2:fk P T e=true) (n:Nat):(Op.equalIn (n+2) T d.fh e.fh).run P w=.ok (uY d e) w:=by
 cases hT:P.underlying T with
 | none=>unfold fk at h1;simp [hT,dG] at h1
 | some t=>
  by_cases hs:∃ fs,t=.struct fs
  ·obtain⟨fs,rfl⟩:=hs;have hfo:P.fieldsOf T=fs:=by simp [Program.fieldsOf,hT]
   cases d with
   | agg ds=>
    cases e with
    | agg es=>
     simp only [fk,hT,Bool.and_eq_true,beq_iff_eq,Bool.not_eq_true'] at h1 h2;obtain⟨⟨q1,q2⟩,q3⟩:=h1;obtain⟨⟨p1,p2⟩,p3⟩:=h2;simp only [DV.fh,uY];rw [run_equalIn_struct w (n+1) T _ _ (by rw [hfo];exact hT) q1,hfo,oT _ q2 p2,CZ q3 p3]
    | _=>unfold fk at h2;simp [hT,dG] at h2
   | _=>unfold fk at h1;simp [hT,dG] at h1
  ·have key:∀ x,fk P T x=true→dG P T x=true:=by
    intro x hx;unfold fk at hx;split at hx
    ·rename_i fs ds h;rw [hT] at h;simp only [Option.some.injEq] at h;exact absurd ⟨fs,h⟩ hs
    ·exact hx
   have e1:=key _ h1;have e2:=key _ h2
   have k1:∀ x,dG P T x=true→x.fh=x.eJ:=by
    intro x hx;cases x with
    | agg ds=>unfold dG at hx;split at hx <;> simp_all
    | _=>rfl
   rw [k1 _ e1,k1 _ e2,FL e1 e2]
   have:uY d e=mb d e:=by
    cases d with
    | agg ds=>unfold dG at e1;split at e1 <;> simp_all
    | _=>rfl
   rw [this]
theorem qZ {α:Type}{f:α→Sem (ForInStep PUnit)}:∀ (l:List α),(∀ x∈l,(f x).run P w=.ok (.yield ⟨⟩) w)→(forIn l PUnit.unit (fun x _=>f x)).run P w=.ok ⟨⟩ w
 | [],_=>by simp
 | x::l,h=>by
  simp only [List.forIn_cons,Sem.run_bind,h x (List.mem_cons_self ..),Result.andThen_ok];exact qZ l fun y hy=>h y (List.mem_cons_of_mem _ hy)
theorem yF(h1:fk P T d=true) (em:Bool) (n:Nat):(Instr.checkKey em (n+2) T d.fh).run P w=.ok () w:=by
 cases hT:P.underlying T with
 | none=>unfold fk at h1;simp [hT,dG] at h1
 | some t=>
  by_cases hs:∃ fs,t=.struct fs
  ·obtain⟨fs,rfl⟩:=hs
   cases d with
   | agg ds=>
    simp only [fk,hT,Bool.and_eq_true,beq_iff_eq,Bool.not_eq_true'] at h1;obtain⟨⟨q1,q2⟩,q3⟩:=h1;simp only [DV.fh];rw [Instr.checkKey];simp only [Sem.run_bind,run_underlying hT,Result.andThen_ok];rw [← Array.forIn_toList]
    have:=qZ (P:=P) (w:=w) (f:=fun f:Field=>(if f.name ≠ "_" then (do Instr.checkKey em (n+1) f.type (← part f.type (ds.map DV.eJ).toArray f.offset);pure (.yield ⟨⟩)) else pure (.yield ⟨⟩):Sem (ForInStep PUnit))) fs.toList (fun f hf=>by
     obtain⟨a1,a2,x,a3,a4⟩:=iU q2 f hf;have p1:=k9 (P:=P) (w:=w) (d:=x) (off:=f.offset) (arr:=(ds.map DV.eJ).toArray) a2 (by simp [a3]);simp [a1,p1,wz a4])
    simp at this ⊢;rw [this];rfl
   | _=>unfold fk at h1;simp [hT,dG] at h1
  ·have e1:dG P T d=true:=by
    unfold fk at h1;split at h1
    ·rename_i fs ds h;rw [hT] at h;simp only [Option.some.injEq] at h;exact absurd ⟨fs,h⟩ hs
    ·exact h1
   have k1:d.fh=d.eJ:=by
    cases d with
    | agg ds=>unfold dG at e1;split at e1 <;> simp_all
    | _=>rfl
   rw [k1];exact wz e1 em (n+1)
end
def jO (k:DV):List (DV × AV)→Option Nat
 | []=>none
 | e::es=>if uY k e.1 then some 0 else (jO k es).map (·+1)
theorem sG {k:DV}:∀ {es:List (DV × AV)}{i:Nat},jO k es=some i→∃ e,es[i]?=some e∧e.1=k
 | [],_,h=>by cases h
 | e::es,i,h=>by
  simp only [jO] at h;split at h
  ·rename_i hb
   simp only [Option.some.injEq] at h;subst h;exact⟨e,rfl,(L6 hb).symm⟩
  ·rw [Option.map_eq_some_iff] at h;obtain⟨j,hj,rfl⟩:=h;obtain⟨e',h1,h2⟩:=sG hj;exact⟨e',by simpa using h1,h2⟩
def xH (k:DV)(y:AV)(es:List (DV × AV)):List (DV × AV):=
 match jO k es with
 | some i=>es.set i (k,y)
 | none=>es++[(k,y)]
section
variable {P:Program}{w:World}{M:Mem}
theorem yN{k:DV}(hk:fk P T k=true)(hes:∀ e∈es,fk P T e.1=true) {ents:List MapEntry}(hl:ents.length=es.length)
 (hr:∀ i (h:i<es.length) (h':i<ents.length),Rd M ents[i].key es[i].1) :
 (Instr.findKey T k.fh ents).run P w=.ok ((jO k es).bind fun i=>ents[i]?.map fun e=>(i,e.val)) w:=by
 have hkeys:∀ i (h:i<es.length) (h':i<ents.length),ents[i].key=es[i].1.fh:=fun i h h'=>uR (hes _ (List.getElem_mem h)) (hr i h h')
 clear hr
 cases hT:P.underlying T with
 | none=>unfold fk at hk;simp [hT,dG] at hk
 | some t=>
  by_cases hs:∃ fs,t=.struct fs
  ·obtain⟨fs,rfl⟩:=hs;rw [run_findKey_eq w (by simp [hT])]
   have key:∀ (es:List (DV × AV)) (ents:List MapEntry) (n:Nat),(∀ e∈es,fk P T e.1=true)→ents.length=es.length→(∀ i (h:i<es.length) (h':i<ents.length),ents[i].key=es[i].1.fh) →
    (Instr.findAsking T k.fh ents n).run P w=.ok ((jO k es).bind fun i=>ents[i]?.map fun e=>(n+i,e.val)) w:=by
    intro es
    induction es with
    | nil=>intro ents n _ hl _;have:ents=[]:=List.eq_nil_of_length_eq_zero (by simpa using hl)
           subst this;simp [Instr.findAsking,jO]
    | cons e es ih=>
     intro ents n h1 hl h2
     cases ents with
     | nil=>simp at hl
     | cons m ents=>
      have hm:=h2 0 (by simp) (by simp);simp only [List.getElem_cons_zero] at hm;have he:(Op.equal T k.fh m.key).run P w=.ok (uY k e.1) w:=by rw [hm];exact NN hk (h1 e (List.mem_cons_self ..)) 9998
      simp only [Instr.findAsking,Sem.run_bind,he,Result.andThen_ok,jO]
      cases hb:uY k e.1 with
      | true=>simp
      | false=>
       simp only [Bool.false_eq_true,if_false];rw [ih ents (n+1) (fun e he=>h1 e (List.mem_cons_of_mem _ he)) (by simpa using hl) (fun i p q=>h2 (i+1) (by simp;omega) (by simp;omega))]
       cases jO k es with
       | none=>simp
       | some i=>simp;congr 1;funext x;rw [Nat.add_assoc,Nat.add_comm 1]
   have:=key es ents 0 hes hl hkeys;simpa using this
  ·have hsc:∀ x,fk P T x=true→dG P T x=true:=by
    intro x hx;unfold fk at hx;split at hx
    ·rename_i fs ds h;rw [hT] at h;simp only [Option.some.injEq] at h;exact absurd ⟨fs,h⟩ hs
    ·exact hx
   have key:∀ (es:List (DV × AV)) (ents:List MapEntry) (n:Nat),(∀ e∈es,fk P T e.1=true)→ents.length=es.length→(∀ i (h:i<es.length) (h':i<ents.length),ents[i].key=es[i].1.fh) →
    Instr.findNow t k.fh ents n=some ((jO k es).bind fun i=>ents[i]?.map fun e=>(n+i,e.val)):=by
    intro es
    induction es with
    | nil=>intro ents n _ hl _;have:ents=[]:=List.eq_nil_of_length_eq_zero (by simpa using hl)
           subst this;simp [Instr.findNow,jO]
    | cons e es ih=>
     intro ents n h1 hl h2
     cases ents with
     | nil=>simp at hl
     | cons m ents=>
      have hm:=h2 0 (by simp) (by simp);simp only [List.getElem_cons_zero] at hm;have e1:=hsc _ hk;have e2:=hsc _ (h1 e (List.mem_cons_self ..))
      have hb2:uY k e.1=mb k e.1:=by
       cases k with
       | agg ds=>unfold dG at e1;split at e1 <;> simp_all
       | _=>rfl
      have he:Instr.sameNow t k.fh m.key=some (uY k e.1):=by rw [hm,n5 e1,n5 e2,I6 hT e1 e2,hb2]
      simp only [Instr.findNow,he,jO]
      cases hb:uY k e.1 with
      | true=>simp
      | false=>
       simp only [Bool.false_eq_true,if_false];rw [ih ents (n+1) (fun e he=>h1 e (List.mem_cons_of_mem _ he)) (by simpa using hl) (fun i p q=>h2 (i+1) (by simp;omega) (by simp;omega))]
       cases jO k es with
       | none=>simp
       | some i=>simp;congr 1;funext x;rw [Nat.add_assoc,Nat.add_comm 1]
   have:=key es ents 0 hes hl hkeys;simp only [Instr.findKey,Sem.run_bind,run_underlying hT,Result.andThen_ok,this];simp
theorem JR(h1:fk P T d=true) (n:Nat):Instr.sameBits (n+1) d.fh d.fh=true:=by
 unfold fk at h1;split at h1
 ·rename_i fs ds hT
  simp only [Bool.and_eq_true,beq_iff_eq,Bool.not_eq_true'] at h1;obtain⟨⟨q1,q2⟩,q3⟩:=h1;simp only [DV.fh,Instr.sameBits,beq_self_eq_true,Bool.true_and,List.all_eq_true];intro p hp
  have:p.1=p.2∧∃ x∈ds,p.1=x.eJ:=by
   have hz:∀ (l:List Value) (p:Value × Value),p∈l.zip l→p.1=p.2∧p.1∈l:=by
    intro l
    induction l with
    | nil=>intro p hp;simp at hp
    | cons a l ih=>
     intro p hp;simp only [List.zip_cons_cons,List.mem_cons] at hp;rcases hp with rfl|hp
     ·exact⟨rfl,List.mem_cons_self ..⟩
     ·exact⟨(ih p hp).1,List.mem_cons_of_mem _ (ih p hp).2⟩
   have:=hz _ p hp;refine⟨this.1,?_⟩;have h2:=this.2;simp only [List.mem_map] at h2;obtain⟨x,hx,h3⟩:=h2;exact⟨x,hx,h3.symm⟩
  obtain⟨h2,x,hx,h3⟩:=this;obtain⟨i,hi,rfl⟩:=List.mem_iff_getElem.1 hx;have hm:i∈fs.toList.map (·.offset):=by rw [q3];exact List.mem_range.2 hi
  obtain⟨f,hf,rfl⟩:=List.mem_map.1 hm;obtain⟨_,_,d,hd,hs⟩:=iU q2 f hf;have hd':ds[f.offset]=d:=by rw [List.getElem?_eq_getElem hi] at hd;simpa using hd
  rw [← h2,h3,hd'];exact yV hs n
 ·rw [n5 h1];exact yV h1 (n+1)
theorem Ax(h1:fk P T d=true):(Instr.keyThatStays d.fh d.fh).run P w=.ok d.fh w:=by
 simp [Instr.keyThatStays,JR h1 9999]
end
section
variable {c:Ctx}{F:Nat→Prop}{β:Key→Nat}{s:aB}{a:Act}{w:World}
theorem aC.allocMap (h:aC c F β s a w)(hκ:s.lv κ=.hole) :
 aC c F (aG β κ w.heap.size) ⟨s.fr,aG s.lv κ (.map true [])⟩ a (w.alloc (.map #[] 0)):=by
 have hnew:∀ b,F b→b≠w.heap.size:=fun b hb e=>by have:=(h.lf b hb).1;omega
 have hge:=h.ge
 have hlt:∀ k,(∃ own fz T cs,s.lv k=.cells own fz T cs)∨(∃ own es,s.lv k=.map own es)→β k<w.heap.size:=by
  intro k hk;have hb:=h.bH k;unfold Vw.bH at hb;rcases hk with ⟨o,fz,T,cs,e⟩|⟨o,es,e⟩
  ·simp only [e] at hb;obtain⟨_,h1,_⟩:=hb;exact ec h1
  ·simp only [e] at hb;obtain⟨_,_,h1,_⟩:=hb;exact ec h1
 refine h.step (fun _ h=>h) (fun b hb=>by rw [heap_alloc,if_neg (hnew b hb)]) ?_ ?_ (ic w _) ?_ ?_ (fun b h=>.inl h) (by simp) ?_
 ·intro k
  by_cases e:k=κ
  ·subst e;rw [hκ];simp [LB.sub]
  ·rw [aF _ _ e];exact LB.bz _
 ·intro k hk _;have e:k≠κ:=fun e=>hk (e ▸ hκ)
  exact aF _ _ e
 ·intro k hK
  by_cases e:k=κ
  ·subst e;simp only [Vw.bH,aA];refine⟨#[],0,by rw [heap_alloc,if_pos rfl],rfl,fun i x=>by simp at x,fun hf=>hnew _ hf rfl,?_⟩;simp only [ei,if_true];exact hge
  ·have hb:=h.bH k
   cases ek:s.lv k with
   | cells own fz T cs=>
    have:=hlt k (.inl ⟨_,_,_,_,ek⟩);refine Vw.bG hb hK (aF _ _ e) (aF _ _ e) ?_ (fun _ h=>h);show (w.alloc _).heap[β k]?=_;rw [heap_alloc,if_neg (by omega)]
   | map own es=>
    have:=hlt k (.inr ⟨_,_,ek⟩);refine Vw.bG hb hK (aF _ _ e) (aF _ _ e) ?_ (fun _ h=>h);show (w.alloc _).heap[β k]?=_;rw [heap_alloc,if_neg (by omega)]
   | hole=>unfold Vw.bH;simp only [aF _ _ e,ek]
   | dead=>unfold Vw.bH;simp only [aF _ _ e,ek]
   | nils=>unfold Vw.bH;simp only [aF _ _ e,ek]
 ·intro k k' hk hk' he
  have side:∀ j,j≠κ→(aG s.lv κ (.map true []) j).live=true→β j<w.heap.size:=by
   intro j hj hl;rw [aF _ _ hj] at hl;exact h.fE hl
  by_cases e:k=κ <;> by_cases e':k'=κ
  ·rw [e,e']
  ·subst e;have:=side k' e' hk';rw [aA,aF _ _ e'] at he;omega
  ·subst e';have:=side k e hk;rw [aA,aF _ _ e] at he;omega
  ·rw [aF _ _ e,aF _ _ e'] at he;rw [aF _ _ e] at hk;rw [aF _ _ e'] at hk';exact h.inj _ _ hk hk' he
 ·intro b hb _;rw [heap_alloc,if_neg (by omega)]
theorem BP{r:Option Operand}(hd:∀ d,o.dst=some d→d<c.n) (ho:o.op=.makeMap T r) (hr:r=none) (hκ:s.lv κ=.hole) :
 bZ c o s (aB.put ⟨s.fr,aG s.lv κ (.map true [])⟩ o.dst (.c (.mapr κ))):=
 bZ.dX hd fun F β a w hs=>by
  subst hr;refine⟨.map (some w.heap.size),F,aG β κ w.heap.size,_,by simp [execOp,ho,Instr.makeMap],hs.allocMap hκ,?_,rfl⟩;simp only [Vw.jL,aA]
theorem aC.NC (h:aC c F β s a w){es':List (DV × AV)}(hk:s.lv k=.map own es) {ents ents':Array MapEntry}{cl cl':Nat}
 (hg:w.heap[β k]?=some (.map ents cl)) (hl:ents'.size=es'.length)
 (hc:∀ i (h:i<es'.length) (h':i<ents'.size),Rd (kZ w F) ents'[i].key es'[i].1∧(Vw.mk F β s.lv w).mH ents'[i].val es'[i].2) :
 aC c F β ⟨s.fr,aG s.lv k (.map own es')⟩ a { w with heap:=w.heap.setIfInBounds (β k) (.map ents' cl') }:=by
 have hlive:(s.lv k).live=true:=by rw [hk];rfl
 have hoth:∀ b,b≠β k→(w.heap.setIfInBounds (β k) (.map ents' cl'))[b]?=w.heap[b]?:=by
  intro b hb;rw [Array.getElem?_setIfInBounds,if_neg (fun e=>hb e.symm)]
 have hb0:=h.bH k;unfold Vw.bH at hb0;simp only [hk] at hb0;obtain⟨e0,c0,p1,p2,p3,p4,p5⟩:=hb0;refine h.step (fun _ h=>h) (fun b hb=>hoth b (fun e=>h.l8 hlive (e ▸ hb))) ?_ (fun _ _ _=>rfl) (fun b=>?_) ?_ ?_ (fun b h=>.inl h) (by simp) ?_
 ·intro k'
  by_cases e:k'=k
  ·subst e;rw [aA,hk];simp [LB.sub]
  ·rw [aF _ _ e];exact LB.bz _
 ·by_cases e:b=β k
  ·subst e;simp [cw,hg]
  ·simp only [cw,hoth b e];exact Nat.le_refl _
 ·intro k' hK
  by_cases e:k'=k
  ·subst e;unfold Vw.bH;simp only [aA];refine⟨ents',cl',?_,hl,fun i x y=>?_,p4,p5⟩
   ·rw [Array.getElem?_setIfInBounds,if_pos rfl,if_pos (ec hg)]
   ·exact⟨Rd.mono (ga hK.F hK.mem) (hc i x y).1,hK.mH (hc i x y).2⟩
  ·have hb:=h.bH k'
   by_cases hl:(s.lv k').live=true
   ·exact Vw.bG hb hK (aF _ _ e) rfl (hoth _ (fun e'=>e (h.inj _ _ hl hlive e'))) (fun _ h=>h)
   ·cases ek:s.lv k' with
    | cells o fz T' cs'=>
     cases fz with
     | false=>rw [ek] at hl;exact absurd rfl hl
     | true=>
      have hF:F (β k'):=by unfold Vw.bH at hb;simp only [ek] at hb;obtain⟨_,_,_,_,h4,_⟩:=hb;exact h4
      exact Vw.bG hb hK (aF _ _ e) rfl (hoth _ (fun e'=>h.l8 hlive (e' ▸ hF))) (fun _ h=>h)
    | map o es=>rw [ek] at hl;exact absurd rfl hl
    | hole=>unfold Vw.bH;simp only [aF _ _ e,ek]
    | dead=>unfold Vw.bH;simp only [aF _ _ e,ek]
    | nils=>unfold Vw.bH;simp only [aF _ _ e,ek]
 ·intro k1 k2 a1 a2 he
  have g:∀ k',(aG s.lv k (.map own es') k').live=true→(s.lv k').live=true:=by
   intro k' hk'
   by_cases e:k'=k
   ·subst e;exact hlive
   ·rwa [aF _ _ e] at hk'
  exact h.inj _ _ (g _ a1) (g _ a2) he
 ·intro b hb hnW;refine hoth b (fun e=>?_);rcases h.eE hlive with h1|h1
  ·omega
  ·exact hnW (e ▸ h1)
def Ds (P:Program)(T:TypeId):Option (TypeId × TypeId):=
 match P.underlying T with
 | some (.map k e)=>some (k,e)
 | _=>none
theorem s6{k:TypeId}(h:Ds P T=some (k,e)):P.underlying T=some (.map k e):=by
 unfold Ds at h;split at h
 ·rename_i h';simp only [Option.some.injEq,Prod.mk.injEq] at h;obtain⟨rfl,rfl⟩:=h;exact h'
 ·cases h
theorem xL{v:AV}(hd:∀ d,o.dst=some d→d<c.n) (ho:o.op=.mapUpdate T m kx y∨o.op=.insert T m kx y)
 (hm:s.val c.G m=.c (.mapr k)) (hk:s.lv k=.map own es) (hT:Ds c.P T=some (kT,eT)) (hkx:mN (s.val c.G kx)=some d) (hkT:fk c.P kT d=true) (hes:∀ e∈es,fk c.P kT e.1=true) (hy:s.val c.G y=v) (hv:∀ l,v≠.tup l) :
 bZ c o s (aB.put ⟨s.fr,aG s.lv k (.map own (xH d v es))⟩ o.dst .undef):=
 bZ.Gn hd fun F β a w hs=>by
  have hmv:=hm ▸ hs.val m;obtain⟨hmv,_⟩:=hmv;simp only [Vw.jL,hk] at hmv;have hkv:=uR hkT (Vw.deep (hs.val kx) hkx)
  have hyv:(Vw.mk F β s.lv w).mH (a.eval y) v:=by
   have h1:=hy ▸ hs.val y
   cases v with
   | tup l=>exact absurd rfl (hv l)
   | _=>exact h1
  have hb:=hs.bH k;unfold Vw.bH at hb;simp only [hk] at hb;obtain⟨ents,cl,b1,b2,b3,b4,b5⟩:=hb;have hu:=s6 hT;have hf:=yN (P:=c.P) (w:=w) (M:=kZ w F) hkT hes (ents:=ents.toList) (by simpa using b2) (fun i p q=>by have:=(b3 i p (by simpa using q)).1;simp only [Array.getElem_toList];exact this);have hck:=yF (P:=c.P) (w:=w) hkT false 9998;have hob:(getObj (β k)).run c.P w=.ok (.map ents cl) w:=by simp [getObj,Sem.run,b1]
  have hset:∀ e' c',(setObj (β k) (.map e' c')).run c.P w=.ok () { w with heap:=w.heap.setIfInBounds (β k) (.map e' c') }:=by intro e' c';simp [setObj,Sem.run,b1]
  have hrun:∃ e' c',(Instr.mapUpdate T (.map (some (β k))) d.fh (a.eval y)).run c.P w=.ok () { w with heap:=w.heap.setIfInBounds (β k) (.map e' c') }∧e'.size=(xH d v es).length ∧
   ∀ i (h:i<(xH d v es).length) (h':i<e'.size),Rd (kZ w F) e'[i].key (xH d v es)[i].1∧(Vw.mk F β s.lv w).mH e'[i].val (xH d v es)[i].2:=by
   have hkr:Rd (kZ w F) d.fh d:=hkv ▸ Vw.deep (hs.val kx) hkx
   cases hfk:jO d es with
   | none=>
    rw [hfk] at hf;refine⟨ents.push { key:=d.fh,val:=a.eval y,born:=cl },cl+1,?_,?_,?_⟩
    ·simp only [Instr.mapUpdate,Sem.run_bind,run_underlying hu,Result.andThen_ok,hob,hck,hf,Option.bind_none];simp [hset]
    ·simp [xH,hfk,b2]
    ·intro i p q;simp only [xH,hfk] at p ⊢
     by_cases hi:i<es.length
     ·rw [List.getElem_append_left hi,Array.getElem_push_lt (by omega)];exact b3 i hi (by omega)
     ·have hi2:i=es.length:=by simp at p;omega
      subst hi2;rw [List.getElem_append_right (by omega)];simp only [Nat.sub_self,List.getElem_cons_zero]
      have:(ents.push { key:=d.fh,val:=a.eval y,born:=cl })[es.length]={ key:=d.fh,val:=a.eval y,born:=cl }:=by
       have:=Array.getElem_push_eq (xs:=ents) (x:={ key:=d.fh,val:=a.eval y,born:=cl });simp only [b2] at this;exact this
      rw [this];exact⟨hkr,hyv⟩
   | some i=>
    obtain⟨e,he1,he2⟩:=sG hfk;obtain⟨hi,hie⟩:=List.getElem?_eq_some_iff.1 he1;have hi':i<ents.size:=by omega
    have hkk:ents[i].key=d.fh:=by
     have:=uR (hes _ (List.getElem_mem hi)) (b3 i hi hi').1;rw [this,hie,he2]
    rw [hfk] at hf;refine⟨ents.modify i fun e=>{ e with key:=d.fh,val:=a.eval y },cl,?_,?_,?_⟩
    ·have h1:ents.toList[i]?=some ents[i]:=by simp [hi']
     simp only [Instr.mapUpdate,Sem.run_bind,run_underlying hu,Result.andThen_ok,hob,hck,hf,Option.bind_some,h1,Option.map_some];have h2:((ents[i]?.map (·.key)).getD d.fh)=d.fh:=by simp [hi',hkk]
     rw [h2,Ax hkT];simp [hset]
    ·simp [xH,hfk,b2]
    ·intro j p q;simp only [xH,hfk] at p ⊢;simp only [Array.getElem_modify,List.getElem_set]
     by_cases e:i=j
     ·subst e;simp only [if_true];exact⟨hkr,hyv⟩
     ·simp only [if_neg e];exact b3 j (by simpa using p) (by simpa using q)
  obtain⟨e',c',r1,r2,r3⟩:=hrun;refine⟨F,β,_,?_,hs.NC (cl':=c') hk b1 r2 r3⟩;rcases ho with ho|ho <;> simp [execOp,ho,hmv,hkv,r1]
def yz (P:Program)(T:TypeId):Option AV:=((P.info? T).bind (·.zero)).map rm
theorem CI{x:AV}(h:yz P T=some x) (V:Vw) (w:World):∃ v,(zeroValue T).run P w=.ok v w∧V.av v x∧(∀ l,x≠.tup l):=by
 unfold yz at h;rw [Option.map_eq_some_iff] at h;obtain⟨z,hz,rfl⟩:=h;obtain⟨i,hi,hz⟩:=Option.bind_eq_some_iff.1 hz;refine⟨z,by simp [zeroValue,typeInfo,hi,hz],sL V z,?_⟩;intro l;unfold rm;split
 ·split <;> simp
 ·simp
 ·simp
def Jb (P:Program)(eT:TypeId)(d:DV)(es:List (DV × AV)):Option (AV × Bool):=
 match jO d es with
 | some i=>(es[i]?).map fun e=>(e.2,true)
 | none=>(yz P eT).map fun z=>(z,false)
theorem DQ{v:AV}(hd:∀ d,o.dst=some d→d<c.n) (ho:o.op=.lookup T m kx ok)
 (hm:(∃ k own,s.val c.G m=.c (.mapr k)∧s.lv k=.map own es)∨(s.val c.G m=.c (.d .nilmap)∧es=[])) (hT:Ds c.P T=some (kT,eT)) (hkx:mN (s.val c.G kx)=some d) (hkT:fk c.P kT d=true) (hes:∀ e∈es,fk c.P kT e.1=true)
 (hl:Jb c.P eT d es=some (v,b)) (hv:∀ l,v≠.tup l) :
 bZ c o s (s.put o.dst (if ok then .tup [v,.c (.d (.bool b))] else v)):=
 bZ.aU hd fun F β a w hs=>by
  have hkv:=uR hkT (Vw.deep (hs.val kx) hkx);have hu:=s6 hT
  have hents:∃ ents:List MapEntry,ents.length=es.length∧(∀ i (h:i<es.length) (h':i<ents.length),Rd (kZ w F) ents[i].key es[i].1∧(Vw.mk F β s.lv w).mH ents[i].val es[i].2) ∧
   (Instr.lookup T (a.eval m) d.fh ok).run c.P w=(do
    Instr.checkKey ents.toArray.isEmpty 10000 kT d.fh
    let (v,b) ← match ← Instr.findKey kT d.fh ents with
     | some (_,v)=>pure (v,true)
     | none=>pure (← zeroValue eT,false)
    pure (if ok then .tuple #[v,.bool b] else v):Sem Value).run c.P w:=by
   rcases hm with ⟨k,own,hm,hk⟩|⟨hm,rfl⟩
   ·have hmv:=hm ▸ hs.val m;obtain⟨hmv,_⟩:=hmv;simp only [Vw.jL,hk] at hmv;have hb:=hs.bH k;unfold Vw.bH at hb;simp only [hk] at hb;obtain⟨ents,cl,b1,b2,b3,b4,b5⟩:=hb;have hob:(getObj (β k)).run c.P w=.ok (.map ents cl) w:=by simp [getObj,Sem.run,b1]
    refine⟨ents.toList,by simpa using b2,fun i p q=>by have:=b3 i p (by simpa using q);simp only [Array.getElem_toList];exact this,?_⟩;simp only [Instr.lookup,hmv,Sem.run_bind,run_underlying hu,Result.andThen_ok,hob,Sem.run_pure,Array.toArray_toList];rfl
   ·have hmv:=hm ▸ hs.val m;obtain⟨hmv,_⟩:=hmv;obtain⟨u,hu'⟩:∃ u,a.eval m=u:=⟨_,rfl⟩
    rw [hu'] at hmv
    cases hmv
    refine⟨[],rfl,fun i p=>by simp at p,?_⟩;rw [hu'];simp only [Instr.lookup,Sem.run_bind,run_underlying hu,Result.andThen_ok,Sem.run_pure];rfl
  obtain⟨ents,e1,e2,e3⟩:=hents;have hf:=yN (P:=c.P) (w:=w) (M:=kZ w F) hkT hes e1 (fun i p q=>(e2 i p q).1);have hck:=fun em=>yF (P:=c.P) (w:=w) hkT em 9998
  have hres:∃ u,(Instr.lookup T (a.eval m) d.fh ok).run c.P w=.ok (if ok then .tuple #[u,.bool b] else u) w∧(Vw.mk F β s.lv w).mH u v:=by
   rw [e3];unfold Jb at hl;split at hl
   ·rename_i i hfk
    obtain⟨e,he1,he2⟩:=sG hfk;obtain⟨hi,hie⟩:=List.getElem?_eq_some_iff.1 he1;rw [he1] at hl;simp only [Option.map_some,Option.some.injEq,Prod.mk.injEq] at hl;obtain⟨rfl,rfl⟩:=hl;rw [hfk] at hf;have h1:ents[i]?=some (ents[i]'(by omega)):=List.getElem?_eq_getElem (by omega);refine⟨(ents[i]'(by omega)).val,?_,?_⟩
    ·simp only [Sem.run_bind,hck,Result.andThen_ok,hf,Option.bind_some,h1,Option.map_some,Sem.run_pure]
    ·have:=(e2 i hi (by omega)).2;rw [hie] at this;exact this
   ·rename_i hfk
    rw [Option.map_eq_some_iff] at hl;obtain⟨z,hz,hl⟩:=hl;simp only [Prod.mk.injEq] at hl;obtain⟨rfl,rfl⟩:=hl;obtain⟨u,hu1,Po,_⟩:=CI hz (Vw.mk F β s.lv w) w;rw [hfk] at hf;refine⟨u,?_,?_⟩
    ·simp only [Sem.run_bind,hck,Result.andThen_ok,hf,Option.bind_none,hu1,Sem.run_pure]
    ·cases z with
     | tup l=>exact absurd rfl (hv l)
     | _=>exact Po
  obtain⟨u,r1,r2⟩:=hres;refine⟨if ok then .tuple #[u,.bool b] else u,by simp [execOp,ho,hkv,r1],?_⟩
  cases ok with
  | false=>
   simp only [Bool.false_eq_true,if_false]
   cases v with
   | tup l=>exact absurd rfl (hv l)
   | _=>exact r2
  | true=>
   simp only [if_true];refine⟨#[u,.bool b],rfl,rfl,fun i p q=>?_⟩;have:i=0∨i=1:=by simp at p;omega
   rcases this with rfl|rfl
   ·exact r2
   ·exact⟨.bool b,rfl⟩
end
section
variable {c:Ctx}{F:Nat→Prop}{β:Key→Nat}{s:aB}{a:Act}{w:World}
theorem iC(h:rZ P T=some (n,e,sz)) {b o:Nat}{lo hi:Option Value}{l hh:Int}
 (hlo:lo=none∧l=0∨∃ k,lo=some (.int k l)) (hhi:hi=none∧hh=n∨∃ k,hi=some (.int k hh)) (h0:0≤l) (h1:l≤hh) (h2:hh≤n) (w:World) :
 (Instr.sliceAt T (.pointer (some ⟨b,o,none⟩)) lo hi none).run P w=.ok (.slice (some (if n=l.toNat then ⟨b,o,none⟩ else ⟨b,o+l.toNat*sz,none⟩)) (hh.toNat - l.toNat) (n - l.toNat)) w:=by
 obtain⟨hu,hie,hsz⟩:=wX h;have hr:=gG (P:=P) (isSlice:=false) (len:=n) (cap:=n) hlo hhi h0 h1 h2 w;simp only [Instr.sliceAt,Sem.run_bind,run_underlying hu,Result.andThen_ok,Instr.sureAddr,Sem.run_pure,hr,run_sizeOf hie,hsz];congr 3;split
 ·rfl
 ·rw [Addr.add_lit]
theorem AA{l:Int}(hd:∀ d,o.dst=some d→d<c.n) (ho:o.op=.slice T x lo hi none)
 (hx:s.val c.G x=.c (.ptr κ off)) (hk:s.lv κ=.cells own fz T' cs) (hT:rZ c.P T=some (n,e,sz)) (hcs:off+n*sz≤cs.length) (hlo:cU (lo.map (s.val c.G)) 0=some l) (hhi:cU (hi.map (s.val c.G)) n=some h)
 (h0:0≤l) (h1:l≤h) (h2:h≤n) (h3:l<h∨l=0):bZ c o s (s.put o.dst (.c (.aV κ (off+l.toNat*sz) (h.toNat - l.toNat) sz))):=
 bZ.aU hd fun F β a w hs=>by
  have hv:=hx ▸ hs.val x;obtain⟨hv,_⟩:=hv;simp only [Vw.cX,hk] at hv;have hr:=iC hT (b:=β κ) (o:=off) (gu (fun x=>hs.val x) hlo) (gu (fun x=>hs.val x) hhi) h0 h1 h2 w;refine⟨_,by simp only [execOp,ho,Option.map_none,hv];simp [hr];rfl,?_,rfl⟩;simp only [Vw.cA,hk];have hb:=hs.bH κ;unfold Vw.bH at hb;simp only [hk] at hb;obtain⟨arr,b1,b2,_⟩:=hb;have has:cw w (β κ)=arr.size:=by simp [cw,b1]
  have e1:(if n=l.toNat then (⟨β κ,off,none⟩:Addr) else ⟨β κ,off+l.toNat*sz,none⟩)=⟨β κ,off+l.toNat*sz,none⟩:=by
   split
   ·have:l.toNat=0:=by omega
    rw [this];simp
   ·rfl
  refine⟨n - l.toNat,by rw [e1],by omega,?_⟩;show off+l.toNat*sz+(n - l.toNat)*sz≤cw w (β κ);rw [has];have:l.toNat*sz+(n - l.toNat)*sz=n*sz:=by rw [← Nat.add_mul];congr 1;omega
  omega
theorem zP{cs:List DV}{l:Int}(hd:∀ d,o.dst=some d→d<c.n) (ho:o.op=.slice T x lo hi none)
 (hx:s.val c.G x=.c (.d (.ptr cs))) (hT:rZ c.P T=some (n,e,sz)) (hcs:n*sz≤cs.length) (hlo:cU (lo.map (s.val c.G)) 0=some l) (hhi:cU (hi.map (s.val c.G)) n=some h)
 (h0:0≤l) (h1:l≤h) (h2:h≤n) (h63:n≤9223372036854775807):bZ c o s (s.put o.dst (.c (.d (.sl (((chunk sz n cs).take h.toNat).drop l.toNat))))):=
 bZ.aU hd fun F β a w hs=>by
  have hv:=hx ▸ hs.val x;obtain⟨hv,_⟩:=hv;obtain⟨u,hu⟩:∃ u,a.eval x=u:=⟨_,rfl⟩
  rw [hu] at hv
  cases hv with
  | ptr b off vs _ hm ho' hr'=>
   have hr:=iC hT (b:=b) (o:=off) (gu (fun x=>hs.val x) hlo) (gu (fun x=>hs.val x) hhi) h0 h1 h2 w;refine⟨_,by simp only [execOp,ho,Option.map_none,hu];simp [hr];rfl,?_,rfl⟩;have hcl:(chunk sz n cs).length=n:=by simp [chunk]
   have hsz:∀ i,i<n→i*sz+sz≤n*sz:=by
    intro i hi;have:(i+1)*sz≤n*sz:=Nat.mul_le_mul_right _ hi
    rwa [Nat.add_mul,Nat.one_mul] at this
   have key:=Rd.sl (M:=kZ w F) b off n sz (chunk sz n cs) (fun i j=>vs (i*sz+j)) (by
    intro e he;obtain⟨i,hi,rfl⟩:=List.mem_iff_getElem.1 he;rw [hcl] at hi;have:=hsz i hi;simp [chunk];omega) (by rw [hcl];exact Nat.le_refl _) (by rw [hcl];exact h63)
    (by intro i hi j hj;rw [hcl] at hi;have:=hsz i hi;have:=hm (i*sz+j) (by omega);rw [← Nat.add_assoc] at this;exact this)
    (by intro i hi j hj;rw [hcl] at hi;have:=hsz i hi;exact ho' _ (by omega))
    (by
     intro i hi j hj;rw [hcl] at hi;have h5:=hsz i hi;have hj':j<sz:=by simp [chunk] at hj;omega
     have h6:=hr' (i*sz+j) (by omega);simp only [chunk,List.getElem_map,List.getElem_range,List.getElem_take,List.getElem_drop];exact h6)
   rw [hcl] at key
   have hall:∀ e∈chunk sz n cs,e.length=sz:=by
    intro e he;obtain⟨i,hi,rfl⟩:=List.mem_iff_getElem.1 he;rw [hcl] at hi;have:=hsz i hi;simp [chunk];omega
   have e1:(if n=l.toNat then (⟨b,off,none⟩:Addr) else ⟨b,off+l.toNat*sz,none⟩)=⟨b,if n=l.toNat then off else off+l.toNat*sz,none⟩:=by split <;> rfl
   rw [e1];refine Rd.A6 (l:=l.toNat) (h':=h.toNat) key hall (by omega) (by rw [hcl];omega) b _ ?_ (n - l.toNat) (by omega);intro hlt;rw [if_neg (by omega)];exact⟨rfl,rfl⟩
def Jh (P:Program)(T:TypeId):Bool:=
 match P.underlying T with
 | some (.interface _)=>false
 | some _=>true
 | none=>false
def Jj:AV→Option (Option (TypeId × AV))
 | .c (.d (.iface t d))=>some (some (t,CF d))
 | .c (.ifc t r)=>some (some (t,match r with
  | .d x=>CF x
  | .ptr k o=>.c (.ptr k o)
  | .aV k o l z=>.c (.aV k o l z)
  | .agg cs=>.agg (cs.map fun x=>match x with|.d x=>.d x|.ptr k o=>.ptr k o|.aV k o l z=>.aV k o l z)
  | .ifc t x=>.c (.ifc t x)))
 | .c (.d .nilIface)=>some none
 | _=>none
theorem G4{x:AV}{t:TypeId}{y:AV}(h:V.av v x) (hi:Jj x=some (some (t,y))):∃ u,v=.iface t u∧V.av u y∧∀ l,y≠.tup l:=by
 unfold Jj at hi;split at hi
 ·rename_i t' d
  simp only [Option.some.injEq,Prod.mk.injEq] at hi;obtain⟨rfl,rfl⟩:=hi;obtain⟨h,_⟩:=h
  cases h with
  | iface _ u _ hu=>exact⟨u,rfl,Vw.CF hu,wu d⟩
 ·rename_i t' r
  simp only [Option.some.injEq,Prod.mk.injEq] at hi;obtain⟨rfl,rfl⟩:=hi;obtain⟨u,rfl,hu⟩:=h;refine⟨u,rfl,?_,?_⟩
  ·cases r with
   | d x=>exact Vw.CF hu
   | ptr k o=>exact hu
   | aV k o l z=>exact hu
   | agg cs=>
    obtain⟨arr,rfl,h1,h2⟩:=hu;refine⟨arr,rfl,by simpa using h1,fun i p q=>?_⟩;simp only [List.getElem_map];have:=h2 i (by simpa using p) q;split <;> rename_i e <;> rw [e] at this <;> exact this
   | ifc t x=>exact hu
  ·intro l
   cases r with
   | d x=>exact wu x l
   | _=>simp
 ·cases hi
 ·cases hi
theorem HR{x:AV}(h:V.av v x) (hi:Jj x=some none):v=.nilIface:=by
 unfold Jj at hi;split at hi
 ·cases hi
 ·cases hi
 ·obtain⟨h,_⟩:=h;cases h;rfl
 ·cases hi
def zq (P:Program)(T:TypeId)(ok:Bool)(x:AV):Option AV:=
 match Jj x with
 | some (some (t,y))=>if t=T then some (if ok then .tup [y,.c (.d (.bool true))] else y)
  else (if ok then (yz P T).map fun z=>.tup [z,.c (.d (.bool false))] else none)
 | some none=>if ok then (yz P T).map fun z=>.tup [z,.c (.d (.bool false))] else none
 | none=>none
theorem Fo{u:Value}{y:AV}(h:V.av u y) (hy:∀ l,y≠.tup l):V.av (.tuple #[u,.bool b]) (.tup [y,.c (.d (.bool b))]):=by
 refine⟨#[u,.bool b],rfl,rfl,fun i p q=>?_⟩;have:i=0∨i=1:=by simp at p;omega
 rcases this with rfl|rfl
 ·cases y with
  | tup l=>exact absurd rfl (hy l)
  | _=>exact h
 ·exact⟨.bool b,rfl⟩
theorem Er{xT:TypeId}{v:AV}(hd:∀ d,o.dst=some d→d<c.n) (ho:o.op=.typeAssert x xT T ok) (hT:Jh c.P T=true)
 (hv:zq c.P T ok (s.val c.G x)=some v):bZ c o s (s.put o.dst v):=
 bZ.aU hd fun F β a w hs=>by
  have hx:=hs.val x
  obtain⟨ud,hu,hni⟩:∃ u,c.P.underlying T=some u∧∀ ms,u≠.interface ms:=by
   unfold Jh at hT;split at hT
   ·cases hT
   ·rename_i u h1 h2;exact⟨u,h2,fun ms e=>h1 ms e⟩
   ·cases hT
  have hgen:∀ (z:AV),yz c.P T=some z→ok=true→∀ u,(∀ t w',u=.iface t w'→t≠T)→(u=.nilIface∨∃ t w',u=.iface t w')→∃ q,(Instr.typeAssert u xT T ok).run c.P w=.ok q w∧(Vw.mk F β s.lv w).av q (.tup [z,.c (.d (.bool false))]):=by
   intro z hz hok u hne hu';obtain⟨q,q1,q2,q3⟩:=CI hz (Vw.mk F β s.lv w) w;refine⟨.tuple #[q,.bool false],?_,Fo q2 q3⟩;subst hok;rcases hu' with rfl|⟨t,w',rfl⟩
   ·cases ud <;> first|exact absurd rfl (hni _)|simp [Instr.typeAssert,run_underlying hu,q1]
   ·have:=hne t w' rfl
    cases ud <;> first|exact absurd rfl (hni _)|simp [Instr.typeAssert,run_underlying hu,q1,this]
  unfold zq at hv;split at hv
  ·rename_i t y hi
   obtain⟨u,hu1,Po,hu3⟩:=G4 hx hi;split at hv
   ·rename_i e
    subst e;simp only [Option.some.injEq] at hv;subst hv
    cases ok with
    | false=>
     refine⟨u,?_,Po⟩;simp only [execOp,ho,hu1]
     cases ud <;> first|exact absurd rfl (hni _)|simp [Instr.typeAssert,run_underlying hu]
    | true=>
     refine⟨.tuple #[u,.bool true],?_,Fo Po hu3⟩;simp only [execOp,ho,hu1]
     cases ud <;> first|exact absurd rfl (hni _)|simp [Instr.typeAssert,run_underlying hu]
   ·rename_i hne
    cases ok with
    | false=>cases hv
    | true=>
     simp only [if_true,Option.map_eq_some_iff] at hv;obtain⟨z,hz,rfl⟩:=hv;obtain⟨q,q1,q2⟩:=hgen z hz rfl (.iface t u) (fun t' w' e=>by cases e;exact hne) (.inr ⟨_,_,rfl⟩);exact⟨q,by simp [execOp,ho,hu1,q1],q2⟩
  ·rename_i hi
   have hn:=HR hx hi
   cases ok with
   | false=>cases hv
   | true=>
    simp only [if_true,Option.map_eq_some_iff] at hv;obtain⟨z,hz,rfl⟩:=hv;obtain⟨q,q1,q2⟩:=hgen z hz rfl .nilIface (fun t' w' e=>by cases e) (.inl rfl);exact⟨q,by simp [execOp,ho,hn,q1],q2⟩
  ·cases hv
theorem Dd(hd:∀ d,o.dst=some d→d<c.n) (ho:o.op=.call { callee:=.builtin .len,args:=#[x],argTypes:=#[T] })
 (hx:s.val c.G x=.c (.mapr k)) (hk:s.lv k=.map own es) (hT:(Ds c.P T).isSome=true) (h63:es.length≤9223372036854775807):bZ c o s (s.put o.dst (.c (.d (.int .i64 es.length)))):=
 bZ.aU hd fun F β a w hs=>by
  have hmv:=hx ▸ hs.val x;obtain⟨hmv,_⟩:=hmv;simp only [Vw.jL,hk] at hmv;have hb:=hs.bH k;unfold Vw.bH at hb;simp only [hk] at hb;obtain⟨ents,cl,b1,b2,b3,b4,b5⟩:=hb;obtain⟨⟨kT,eT⟩,hT⟩:=Option.isSome_iff_exists.1 hT;have hu:=s6 hT;have hob:(getObj (β k)).run c.P w=.ok (.map ents cl) w:=by simp [getObj,Sem.run,b1]
  refine⟨.int .i64 (es.length:Int),?_,Vw.jk _ _ _ (cE ⟨?_,?_⟩)⟩
  ·have hl:(Builtin.len_ #[T] o.type #[a.eval x]).run c.P w=.ok (.int .i64 (es.length:Int)) w:=by
    rw [hmv,← b2];simp [Builtin.len_,run_underlying hu,hob,goInt]
   simp [execOp,ho,resolve,invoke,builtin,hl]
  ·simp only [yQ];omega
  ·simp only [oL];omega
theorem xu{r:Ref}(hd:∀ d,o.dst=some d→d<c.n) (ho:o.op=.makeInterface T x)
 (hx:vF (s.val c.G x)=some r) (hT:c.P.concrete T=true):bZ c o s (s.put o.dst (.c (.ifc T r))):=
 bZ.aU hd fun F β a w hs=>by
  have hr:=Vw.vF (hs.val x) hx;refine⟨.iface T (a.eval x),?_,?_⟩
  ·simp only [execOp,ho,Sem.run_bind,run_makeInterface w T _ hT,Result.andThen_ok];rfl
  ·exact⟨a.eval x,rfl,hr⟩
end
abbrev kO:=AV × List (Key × LB) × List Key
variable {r:kO}
def IK (P:Program)(op:BinOp)(T:TypeId)(lv:Key→LB)(x y:AV):Option kO:=
 match rH lv x with
 | some b=>if F2 x y && vv P T x then (match op with|.eql=>some (.c (.d (.bool b)),[],OS x)|.neq=>some (.c (.d (.bool !b)),[],OS x)|_=>none) else none
 | none=>none
def DO:AV→Bool
 | .tup _=>false
 | _=>true
def p8 (P:Program)(T:TypeId)(lv:Key→LB)(m kx y:AV):Option kO:=
 match m with
 | .c (.mapr k)=>match lv k with
  | .map own es=>match Ds P T,mN kx with
   | some (kT,_),some d=>if fk P kT d && es.all (fun e=>fk P kT e.1) && DO y then some (.undef,[(k,.map own (xH d y es))],[]) else none
   | _,_=>none
  | _=>none
 | _=>none
def Jn (lv:Key→LB):AV→Option (List (DV × AV) × List Key)
 | .c (.mapr k)=>match lv k with|.map _ es=>some (es,[k])|_=>none
 | .c (.d .nilmap)=>some ([],[])
 | _=>none
theorem GQ {x:AV}(h:DO x=true):∀ l,x≠.tup l:=by intro l e;rw [e] at h;cases h
def CJ (P:Program)(T:TypeId)(ok:Bool)(lv:Key→LB)(m kx:AV):Option kO:=
 match Jn lv m with
 | some (es,ks)=>match Ds P T,mN kx with
  | some (kT,eT),some d=>if fk P kT d && es.all (fun e=>fk P kT e.1) then (match Jb P eT d es with
   | some (v,b)=>if DO v then some (if ok then .tup [v,.c (.d (.bool b))] else v,[],ks) else none
   | none=>none) else none
  | _,_=>none
 | none=>none
def pQ (P:Program)(T:TypeId)(lv:Key→LB)(x:AV)(lo hi:Option AV):Option kO:=
 match x with
 | .c (.ptr k off)=>match lv k,rZ P T with
  | .cells _ _ _ cs,some (n,_,sz)=>match cU lo 0,cU hi n with
   | some l,some h=>if off+n*sz≤cs.length∧0≤l∧l≤h∧h≤n∧(l<h∨l=0) then some (.c (.aV k (off+l.toNat*sz) (h.toNat - l.toNat) sz),[],[k]) else none
   | _,_=>none
  | _,_=>none
 | .c (.d (.ptr cs))=>match rZ P T with
  | some (n,_,sz)=>match cU lo 0,cU hi n with
   | some l,some h=>if n*sz≤cs.length∧0≤l∧l≤h∧h≤n∧n≤9223372036854775807 then some (.c (.d (.sl (((chunk sz n cs).take h.toNat).drop l.toNat))),[],[]) else none
   | _,_=>none
  | none=>none
 | .c (.aV k _ len sz)=>match lv k,eI P T with
  | .cells ..,some (_,sz')=>if sz=sz' then (match cU lo 0,cU hi len with
   | some l,some h=>if 0≤l∧l=h∧h≤len then some (.c (.d (.sl [])),[],[k]) else none
   | _,_=>none) else none
  | _,_=>none
 | _=>none
def M3 (P:Program)(S T:TypeId)(x:AV):Option kO:=
 match x with
 | .c (.d (.str l))=>if cu P S then (match eI P T with
  | some (e,1)=>(match P.underlying e with
   | some (.int .u8)=>if l.length≤9223372036854775807 then some (.c (.d (.sl (l.map fun b=>[.int .u8 (b.toNat:Int)]))),[],[]) else none
   | _=>none)
  | _=>none) else none
 | _=>none
def nc (P:Program)(T T':TypeId)(lv:Key→LB)(κ:Key)(y x:AV):Option kO:=
 match x,lv κ with
 | .c (.d (.str l)),.hole=>if cu P T' then (match eI P T with
  | some (e,1)=>match P.info? e with
   | some i=>match i.zero with
    | some z=>if z.cells.size=1 then (match y with
     | .c (.d .nilsl)=>if l.length≤9223372036854775807∧l.length*i.bytes≤140737488355328 then some (.c (.aV κ 0 l.length 1),[(κ,if l.length=0 then .nils else .cells true false e (ef l))],[]) else none
     | .c (.aV k off n sz)=>match lv k with
      | .nils=>if off=0∧n=0∧sz=1∧l.length≤9223372036854775807∧l.length*i.bytes≤140737488355328 then some (.c (.aV κ 0 l.length 1),[(κ,if l.length=0 then .nils else .cells true false e (ef l))],[k]) else none
      | .cells own false e' cs=>if off=0∧sz=1∧e'=e∧cs.length=n∧n+l.length≤9223372036854775807∧(n+l.length)*i.bytes≤140737488355328 then some (.c (.aV κ 0 (n+l.length) 1),[(k,.dead),(κ,.cells own false e (cs++ef l))],[]) else none
      | _=>none
     | _=>none) else none
    | none=>none
   | none=>none
  | _=>none) else none
 | _,_=>none
def Dp (lv:Key→LB)(x:AV):Option kO:=
 match x with
 | .c (.d .nilsl)=>some (.c (.d .nilp),[],[])
 | .c (.aV k off len sz)=>match lv k with
  | .cells ..=>if 0<len then some (.c (.ptr k off),[],[k]) else none
  | .nils=>if off=0∧len=0∧sz=1 then some (.c (.d .nilp),[],[k]) else none
  | _=>none
 | _=>none
def rQ (P:Program)(pt:TypeId)(lv:Key→LB)(x y:AV):Option kO:=
 match y with
 | .c (.d (.int .i64 n))=>match x with
  | .c (.d .nilp)=>if n=0 then some (.c (.d (.str [])),[],[]) else none
  | .c (.ptr k 0)=>match lv k,P.underlying pt with
   | .cells _ false e cs,some (.pointer e')=>if e'=e∧P.cellsOf e=1∧0<n∧n≤9223372036854775807 then (match qN (cs.take n.toNat) with
    | some l=>if l.length=n.toNat then some (.c (.d (.str l)),[(k,.dead)],[]) else none
    | none=>none) else none
   | _,_=>none
  | _=>none
 | _=>none
def HY (P:Program)(T:TypeId)(lv:Key→LB)(x:AV):Option kO:=
 match x with
 | .c (.mapr k)=>match lv k with
  | .map _ es=>if (Ds P T).isSome && Nat.ble es.length 9223372036854775807 then some (.c (.d (.int .i64 es.length)),[],[k]) else none
  | _=>none
 | _=>none
def BU (P:Program)(cl:Call)(vals:List AV)(lv:Key→LB)(κ:Key):Option kO:=
 match cl.callee,cl.args.toList,cl.argTypes.toList,vals with
 | .builtin .append,[_,_],[T,T'],[y,x]=>nc P T T' lv κ y x
 | .builtin .unsafeSliceData,[_],[_],[x]=>Dp lv x
 | .builtin .len,[_],[T],[x]=>HY P T lv x
 | .builtin .unsafeString,[_,_],[pt,_],[x,y]=>rQ P pt lv x y
 | _,_,_,_=>none
def gA (P:Program)(op:Op)(vals:List AV)(lv:Key→LB)(κ:Key):Option kO:=
 match op,vals with
 | .binOp op T _ _ _,[x,y]=>IK P op T lv x y
 | .makeMap _ none,[]=>match lv κ with|.hole=>some (.c (.mapr κ),[(κ,.map true [])],[])|_=>none
 | .mapUpdate T _ _ _,[m,k,y]=>p8 P T lv m k y
 | .insert T _ _ _,[m,k,y]=>p8 P T lv m k y
 | .lookup T _ _ ok,[m,k]=>CJ P T ok lv m k
 | .typeAssert _ _ T ok,[x]=>if Jh P T then (match zq P T ok x with|some v=>some (v,[],[])|none=>none) else none
 | .makeInterface T _,[x]=>if P.concrete T then (match vF x with|some r=>some (.c (.ifc T r),[],[])|none=>none) else none
 | .slice T _ lo hi none,x::rest=>match uf lo hi rest with|some (l,h)=>pQ P T lv x l h|none=>none
 | .convert S T _,[x]=>M3 P S T x
 | .call cl,vals=>BU P cl vals lv κ
 | _,_=>none
section
variable {c:Ctx}{s:aB}{o:Oper}
theorem vD(hd:∀ d,o.dst=some d→d<c.n) (ho:o.op=.mapUpdate T m kx y∨o.op=.insert T m kx y) (h:p8 c.P T s.lv (s.val c.G m) (s.val c.G kx) (s.val c.G y)=some r) :
 bZ c o s (aB.put ⟨s.fr,bk s.lv r.2.1⟩ o.dst r.1):=by
 unfold p8 at h;split at h
 ·rename_i k hm
  split at h
  ·rename_i own es hk
   split at h
   ·rename_i kT eT d hT hdp
    split at h
    ·rename_i hc
     simp only [Bool.and_eq_true,List.all_eq_true] at hc;simp only [Option.some.injEq] at h;subst h;refine xL hd ho hm hk hT hdp hc.1.1 hc.1.2 rfl (fun l e=>?_);have:=hc.2;rw [e] at this;cases this
    ·cases h
   ·cases h
  ·cases h
 ·cases h
theorem y7(hd:∀ d,o.dst=some d→d<c.n) (ho:o.op=op) (hv:op.operands.toList.map (s.val c.G)=vals)
 (h:gA c.P op vals s.lv κ=some r):bZ c o s (aB.put ⟨s.fr,bk s.lv r.2.1⟩ o.dst r.1):=by
 unfold gA at h;split at h
 ·
  rename_i bop T x y T' a b
  simp only [Op.operands,List.map_cons,List.map_nil,List.cons.injEq,and_true] at hv;obtain⟨rfl,rfl⟩:=hv;unfold IK at h;split at h
  ·rename_i bb hn
   split at h
   ·rename_i hc
    simp only [Bool.and_eq_true] at hc;split at h
    ·simp only [Option.some.injEq] at h;subst h;exact yq hd ho (.inl rfl) hn hc.1 hc.2
    ·simp only [Option.some.injEq] at h;subst h;exact yq hd ho (.inr rfl) hn hc.1 hc.2
    ·cases h
   ·cases h
  ·cases h
 ·rename_i T
  split at h
  ·rename_i hκ
   simp only [Option.some.injEq] at h;subst h;exact BP hd ho rfl hκ
  ·cases h
 ·rename_i T m kx y a b cc
  simp only [Op.operands,List.map_cons,List.map_nil,List.cons.injEq,and_true] at hv;obtain⟨rfl,rfl,rfl⟩:=hv;exact vD hd (.inl ho) h
 ·rename_i T m kx y a b cc
  simp only [Op.operands,List.map_cons,List.map_nil,List.cons.injEq,and_true] at hv;obtain⟨rfl,rfl,rfl⟩:=hv;exact vD hd (.inr ho) h
 ·rename_i T m kx ok a b
  simp only [Op.operands,List.map_cons,List.map_nil,List.cons.injEq,and_true] at hv;obtain⟨rfl,rfl⟩:=hv;unfold CJ at h;split at h
  ·rename_i es ks hm
   split at h
   ·rename_i kT eT d hT hdp
    split at h
    ·rename_i hc
     simp only [Bool.and_eq_true,List.all_eq_true] at hc;split at h
     ·rename_i v bb hl
      split at h
      ·rename_i hv
       simp only [Option.some.injEq] at h;subst h;refine DQ hd ho ?_ hT hdp hc.1 hc.2 hl (GQ hv);unfold Jn at hm;split at hm
       ·rename_i k hmk
        split at hm
        ·rename_i own es' hk
         simp only [Option.some.injEq,Prod.mk.injEq] at hm;obtain⟨rfl,rfl⟩:=hm;exact .inl ⟨k,own,hmk,hk⟩
        ·cases hm
       ·rename_i hmk
        simp only [Option.some.injEq,Prod.mk.injEq] at hm;obtain⟨rfl,rfl⟩:=hm;exact .inr ⟨hmk,rfl⟩
       ·cases hm
      ·cases h
     ·cases h
    ·cases h
   ·cases h
  ·cases h
 ·rename_i x xT T ok a
  simp only [Op.operands,List.map_cons,List.map_nil,List.cons.injEq,and_true] at hv;subst hv;split at h
  ·rename_i hT
   split at h
   ·rename_i v hvv
    simp only [Option.some.injEq] at h;subst h;exact Er hd ho hT hvv
   ·cases h
  ·cases h
 ·rename_i T x a
  simp only [Op.operands,List.map_cons,List.map_nil,List.cons.injEq,and_true] at hv;subst hv;split at h
  ·rename_i hT
   split at h
   ·rename_i v hvv
    simp only [Option.some.injEq] at h;subst h;exact xu hd ho hvv hT
   ·cases h
  ·cases h
 ·rename_i T x lo hi a rest
  have hop:(Op.slice T x lo hi none).operands.toList=x::(lo.toArray++hi.toArray).toList:=by
   simp [Op.operands]
  rw [hop] at hv;simp only [List.map_cons,List.cons.injEq] at hv;obtain⟨rfl,rfl⟩:=hv;split at h
  ·rename_i l hh hb
   obtain⟨rfl,rfl⟩:=Ff hb;unfold pQ at h;split at h
   ·rename_i k off hx
    split at h
    ·rename_i own fz T0 cs n e sz hk hT
     split at h
     ·rename_i l h' hl hh
      split at h
      ·rename_i hc
       simp only [Option.some.injEq] at h;subst h;exact AA hd ho hx hk hT hc.1 hl hh hc.2.1 hc.2.2.1 hc.2.2.2.1 hc.2.2.2.2
      ·cases h
     ·cases h
    ·cases h
   ·rename_i cs hx
    split at h
    ·rename_i n e sz hT
     split at h
     ·rename_i l h' hl hh
      split at h
      ·rename_i hc
       simp only [Option.some.injEq] at h;subst h;exact zP hd ho hx hT hc.1 hl hh hc.2.1 hc.2.2.1 hc.2.2.2.1 hc.2.2.2.2
      ·cases h
     ·cases h
    ·cases h
   ·rename_i k off len sz hx
    split at h
    ·rename_i own fz T0 cs e sz' hk hT
     split at h
     ·rename_i hsz
      subst hsz;split at h
      ·rename_i l h' hl hh
       split at h
       ·rename_i hc
        simp only [Option.some.injEq] at h;subst h;exact AG hd ho hx hk hT hl hh hc.1 hc.2.1 hc.2.2
       ·cases h
      ·cases h
     ·cases h
    ·cases h
   ·cases h
  ·cases h
 ·rename_i S T x a
  simp only [Op.operands,List.map_cons,List.map_nil,List.cons.injEq,and_true] at hv;subst hv;unfold M3 at h;split at h
  ·rename_i l hx
   split at h
   ·rename_i hS
    split at h
    ·rename_i e hT
     split at h
     ·rename_i he
      split at h
      ·rename_i hl
       simp only [Option.some.injEq] at h;subst h;exact wW hd ho hx hS hT he hl
      ·cases h
     ·cases h
    ·cases h
   ·cases h
  ·cases h
 ·rename_i cl vals
  unfold BU at h;split at h
  ·rename_i y0 x0 T T' y x h1 h2 h3
   have e:=lP h1 h2 h3;subst e;simp only [Op.operands,Call.operands] at hv;simp at hv;obtain⟨rfl,rfl⟩:=hv;unfold nc at h;split at h
   ·rename_i l hx hκ
    split at h
    ·rename_i hT'
     split at h
     ·rename_i e hT
      split at h
      ·rename_i i hi
       split at h
       ·rename_i z hz
        split at h
        ·rename_i hzs
         split at h
         ·rename_i hy
          split at h
          ·rename_i hc
           simp only [Option.some.injEq] at h;subst h;exact jU hd ho hκ (.inl hy) hT hT' hi hz hx hzs hc.1 hc.2
          ·cases h
         ·rename_i k off n sz hy
          split at h
          ·rename_i hk
           split at h
           ·rename_i hc
            obtain⟨rfl,rfl,rfl,c1,c2⟩:=hc;simp only [Option.some.injEq] at h;subst h;exact jU hd ho hκ (.inr ⟨k,hy,hk⟩) hT hT' hi hz hx hzs c1 c2
           ·cases h
          ·rename_i own e' cs hk
           split at h
           ·rename_i hc
            obtain⟨rfl,rfl,rfl,c1,c2,c3⟩:=hc;simp only [Option.some.injEq] at h;subst h;exact pU hd ho hκ hT hT' hi hz hy hk c1 hx hzs c2 c3
           ·cases h
          ·cases h
         ·cases h
        ·cases h
       ·cases h
      ·cases h
     ·cases h
    ·cases h
   ·cases h
  ·rename_i x0 T x h1 h2 h3
   have e:=lP h1 h2 h3;subst e;simp only [Op.operands,Call.operands] at hv;simp at hv;subst hv;unfold Dp at h;split at h
   ·rename_i hx
    simp only [Option.some.injEq] at h;subst h;exact kP hd ho (.inl hx)
   ·rename_i k off len sz hx
    split at h
    ·rename_i hk
     split at h
     ·rename_i hl
      simp only [Option.some.injEq] at h;subst h;exact xq hd ho hx hk hl
     ·cases h
    ·rename_i hk
     split at h
     ·rename_i hc
      obtain⟨rfl,rfl,rfl⟩:=hc;simp only [Option.some.injEq] at h;subst h;exact kP hd ho (.inr ⟨k,hx,hk⟩)
     ·cases h
    ·cases h
   ·cases h
  ·rename_i x0 T x h1 h2 h3
   have e:=lP h1 h2 h3;subst e;simp only [Op.operands,Call.operands] at hv;simp at hv;subst hv;unfold HY at h;split at h
   ·rename_i k hx
    split at h
    ·rename_i own es hk
     split at h
     ·rename_i hc
      simp only [Bool.and_eq_true] at hc;simp only [Option.some.injEq] at h;subst h;exact Dd hd ho hx hk hc.1 (Nat.le_of_ble_eq_true hc.2)
     ·cases h
    ·cases h
   ·cases h
  ·rename_i x0 y0 pt it x y h1 h2 h3
   have e:=lP h1 h2 h3;subst e;simp only [Op.operands,Call.operands] at hv;simp at hv;obtain⟨rfl,rfl⟩:=hv;unfold rQ at h;split at h
   ·rename_i n hy
    split at h
    ·rename_i hx
     split at h
     ·rename_i hn
      subst hn;simp only [Option.some.injEq] at h;subst h;exact m4 hd ho hx hy
     ·cases h
    ·rename_i k hx
     split at h
     ·rename_i own e cs e' hk hp
      split at h
      ·rename_i hc
       obtain⟨rfl,c1,c2,c3⟩:=hc;split at h
       ·rename_i l hl
        split at h
        ·rename_i hll
         simp only [Option.some.injEq] at h;subst h;have hn:n=(l.length:Int):=by omega
         refine tn hd ho hx hk (by rw [hy,hn]) hp c1 (by rw [hll];exact vW hl) (fun e=>?_) (by omega);subst e;simp at hll;omega
        ·cases h
       ·cases h
      ·cases h
     ·cases h
    ·cases h
   ·cases h
  ·cases h
 ·cases h
end
section
variable {P:Program}{T T':TypeId}{lv lv':Key→LB}{κ:Key}{r:kO}
theorem vJ {x:AV}(h:rH lv x=some b) (hk:∀ k∈OS x,lv' k=lv k):rH lv' x=some b:=by
 unfold rH at h ⊢
 split at h <;> first
  | (rename_i k _;rw [hk k (List.mem_singleton.2 rfl)];exact h)
  | (rename_i k;rw [hk k (List.mem_singleton.2 rfl)];exact h)
  | (rename_i k _ _ _;rw [hk k (List.mem_singleton.2 rfl)];exact h)
  | exact h
  | cases h
theorem DY {op:BinOp}{x y:AV}(h:IK P op T lv x y=some r) (ha:Agree lv lv' r.2.1 r.2.2):IK P op T lv' x y=some r:=by
 unfold IK at h ⊢;split at h
 ·rename_i b hn
  split at h
  ·rename_i hc
   split at h
   ·simp only [Option.some.injEq] at h;subst h;rw [vJ hn (fun k hk=>ha.1 k hk)];simp only [hc,if_true]
   ·simp only [Option.some.injEq] at h;subst h;rw [vJ hn (fun k hk=>ha.1 k hk)];simp only [hc,if_true]
   ·cases h
  ·cases h
 ·cases h
theorem rR {m kx y:AV}(h:p8 P T lv m kx y=some r) (ha:Agree lv lv' r.2.1 r.2.2):p8 P T lv' m kx y=some r:=by
 unfold p8 at h ⊢;split at h
 ·rename_i k
  split at h
  ·rename_i own es hk
   split at h
   ·rename_i kT _ d hT hd
    split at h
    ·rename_i hc
     simp only [Option.some.injEq] at h;subst h;have h1:=ha.2 _ (List.mem_singleton.2 rfl);simp only at h1;rw [h1,hk];simp only [hT,hd,hc,if_true]
    ·cases h
   ·cases h
  ·cases h
 ·cases h
theorem Ew {x:AV}{ks:List Key}(h:Jn lv x=some (es,ks)) (hk:∀ k∈ks,lv' k=lv k):Jn lv' x=some (es,ks):=by
 unfold Jn at h ⊢;split at h
 ·rename_i k
  split at h
  ·rename_i own es' hl
   simp only [Option.some.injEq,Prod.mk.injEq] at h;obtain⟨rfl,rfl⟩:=h;rw [hk k (List.mem_singleton.2 rfl),hl]
  ·cases h
 ·exact h
 ·cases h
theorem Bm{m kx:AV}(h:CJ P T ok lv m kx=some r) (ha:Agree lv lv' r.2.1 r.2.2):CJ P T ok lv' m kx=some r:=by
 unfold CJ at h ⊢;split at h
 ·rename_i es ks hm
  have hr:r.2.2=ks:=by
   split at h
   ·split at h
    ·split at h
     ·split at h
      ·simp only [Option.some.injEq] at h;subst h;rfl
      ·cases h
     ·cases h
    ·cases h
   ·cases h
  rw [Ew hm (fun k hk=>ha.1 k (hr ▸ hk))];exact h
 ·cases h
theorem zE {x:AV}{lo hi:Option AV}(h:pQ P T lv x lo hi=some r) (ha:Agree lv lv' r.2.1 r.2.2):pQ P T lv' x lo hi=some r:=by
 unfold pQ at h ⊢;split at h
 ·rename_i k off
  have hr:r.2.2=[k]:=by
   split at h
   ·split at h
    ·split at h
     ·simp only [Option.some.injEq] at h;subst h;rfl
     ·cases h
    ·cases h
   ·cases h
  rw [ha.1 k (by rw [hr];exact List.mem_singleton.2 rfl)];exact h
 ·exact h
 ·rename_i k off len sz
  have hr:r.2.2=[k]:=by
   split at h
   ·split at h
    ·split at h
     ·split at h
      ·simp only [Option.some.injEq] at h;subst h;rfl
      ·cases h
     ·cases h
    ·cases h
   ·cases h
  rw [ha.1 k (by rw [hr];exact List.mem_singleton.2 rfl)];exact h
 ·cases h
theorem wR {x y:AV}(h:nc P T T' lv κ y x=some r) (ha:Agree lv lv' r.2.1 r.2.2):nc P T T' lv' κ y x=some r:=by
 unfold nc at h ⊢;split at h
 ·rename_i l hκ
  split at h
  ·rename_i hT'
   split at h
   ·rename_i e hT
    split at h
    ·rename_i i hi
     split at h
     ·rename_i z hz
      split at h
      ·rename_i hzs
       split at h
       ·split at h
        ·rename_i hc
         simp only [Option.some.injEq] at h;subst h;have h1:=ha.2 _ (List.mem_singleton.2 rfl);simp only at h1;rw [h1,hκ];simp only [hT',hT,hi,hz,hzs,hc,if_true,and_self]
        ·cases h
       ·rename_i k off n sz
        split at h
        ·rename_i hk
         split at h
         ·rename_i hc
          simp only [Option.some.injEq] at h;subst h;have h1:=ha.2 _ (List.mem_singleton.2 rfl);have h2:=ha.1 k (List.mem_singleton.2 rfl);simp only at h1;rw [h1,hκ];simp only [hT',hT,hi,hz,hzs,hc,h2,hk,if_true,and_self]
         ·cases h
        ·rename_i own e' cs hk
         split at h
         ·rename_i hc
          simp only [Option.some.injEq] at h;subst h;have h1:=ha.2 (κ,_) (List.mem_cons_of_mem _ (List.mem_singleton.2 rfl));have h2:=ha.2 (k,_) (List.mem_cons_self ..);simp only at h1 h2;rw [h1,hκ];simp only [hT',hT,hi,hz,hzs,h2,hk,if_true];rw [if_pos hc]
         ·cases h
        ·cases h
       ·cases h
      ·cases h
     ·cases h
    ·cases h
   ·cases h
  ·cases h
 ·cases h
theorem C2 {x:AV}(h:Dp lv x=some r) (ha:Agree lv lv' r.2.1 r.2.2):Dp lv' x=some r:=by
 unfold Dp at h ⊢;split at h
 ·exact h
 ·rename_i k off len sz
  have hr:r.2.2=[k]:=by
   split at h
   ·split at h
    ·simp only [Option.some.injEq] at h;subst h;rfl
    ·cases h
   ·split at h
    ·simp only [Option.some.injEq] at h;subst h;rfl
    ·cases h
   ·cases h
  rw [ha.1 k (by rw [hr];exact List.mem_singleton.2 rfl)];exact h
 ·cases h
theorem xU {x y:AV}(h:rQ P T lv x y=some r) (ha:Agree lv lv' r.2.1 r.2.2):rQ P T lv' x y=some r:=by
 unfold rQ at h ⊢;split at h
 ·rename_i n
  split at h
  ·exact h
  ·rename_i k
   have hr:r.2.1=[(k,.dead)]:=by
    split at h
    ·split at h
     ·split at h
      ·split at h
       ·simp only [Option.some.injEq] at h;subst h;rfl
       ·cases h
      ·cases h
     ·cases h
    ·cases h
   have:=ha.2 (k,.dead) (by rw [hr];exact List.mem_singleton.2 rfl);simp only at this;rw [this];exact h
  ·cases h
 ·cases h
theorem Ed {x:AV}(h:HY P T lv x=some r) (ha:Agree lv lv' r.2.1 r.2.2):HY P T lv' x=some r:=by
 unfold HY at h ⊢;split at h
 ·rename_i k
  have hr:r.2.2=[k]:=by
   split at h
   ·split at h
    ·simp only [Option.some.injEq] at h;subst h;rfl
    ·cases h
   ·cases h
  rw [ha.1 k (by rw [hr];exact List.mem_singleton.2 rfl)];exact h
 ·cases h
theorem Ci {cl:Call}(h:BU P cl vals lv κ=some r) (ha:Agree lv lv' r.2.1 r.2.2):BU P cl vals lv' κ=some r:=by
 unfold BU at h ⊢;split at h
 ·exact wR h ha
 ·exact C2 h ha
 ·exact Ed h ha
 ·exact xU h ha
 ·cases h
theorem tG(h:gA P op vals lv κ=some r) (ha:Agree lv lv' r.2.1 r.2.2):gA P op vals lv' κ=some r:=by
 unfold gA at h ⊢;split at h
 ·exact DY h ha
 ·split at h
  ·rename_i hκ
   simp only [Option.some.injEq] at h;subst h;have:=ha.2 _ (List.mem_singleton.2 rfl);simp only at this;simp only [this,hκ]
  ·cases h
 ·exact rR h ha
 ·exact rR h ha
 ·exact Bm h ha
 ·exact h
 ·exact h
 ·split at h
  ·rename_i l hh hb
   exact zE h ha
  ·cases h
 ·exact h
 ·exact Ci h ha
 ·cases h
end
end Go.Am
namespace Go.Am
variable {β α:Type}{x:AV}{s:aB}{c:Ctx}{L:Nat→Bool}{m:Nat}{k kh:Key}{l:List (Nat × AV)}{g:Key→Key}{b:LB}{Q:Exit→Act→World→Prop}{f:FuncId}{p:Key→Bool}{lv:Key→LB}{nk:List Key}
def NY (ops:Array Oper)(o o':Oper)(e e':Fx):Prop:=
 o.apart ops o'=true∧∀ k∈e.us.map (·.1),k ∉ e'.us.map (·.1)
def lW (c:Ctx)(r:Option Nat)(ops:Array Oper)(o:Oper)(s0:aB)(e:Fx)(ok:(Key→LB)→Prop):Prop:=
 ∀ s:aB,(∀ t∈o.looksAt ops,s.fr t=s0.fr t)→ok s.lv →
  ∀ F β a w K Q,aC c F β s a w→(∀ F' β' a' w',aC c F' β' (e.app o.dst s) a' w'→K a' w') →
   if Region.wanted o (yielded ops a.tmps) then o.wpIn (od r) 0 c.P a w K Q else K (a.put o.dst undef) w
section
variable {c:Ctx}{r:Option Nat}{ops:Array Oper}{es:List Fx}{s0:aB}
theorem A4 (ok:Nat→(Key→LB)→Prop)(hlen:es.length=ops.size)
 (hE:∀ (i:Nat) o e,ops[i]?=some o→es[i]?=some e→lW c r ops o (bp ops es s0 (fun _=>true) i) e (ok i))
 (hback:∀ (i:Nat) o,ops[i]?=some o→∀ ed∈o.after,Region.binds .any ed=true→ed.on<i)
 (hind:∀ (i j:Nat) o o' e e',i<j→ops[i]?=some o→ops[j]?=some o'→es[i]?=some e→es[j]?=some e'→uc ops i j∨NY ops o o' e e')
 (hok:∀ (L:Nat→Bool) (i:Nat),i<ops.size→L i=false→(∀ j,uc ops j i→L j=true)→(∀ i j,uc ops i j→L j=true→L i=true)→ok i (bp ops es s0 L ops.size).lv)(hQ:∀ F' β' a' w',aC c F' β' (bp ops es s0 (fun _=>true) ops.size) a' w'→Q .normal a' w') :
 ∀ (fuel:Nat) (listed:Array Bool),listed.size=ops.size →
  (∀ (j:Nat) o,ops[j]?=some o→listed.getD j false=true→∀ ed∈o.after,Region.binds .any ed=true→listed.getD ed.on false=true) →
  ops.size≤fuel+cnt (fun j=>listed.getD j false) ops.size →
  ∀ F β a w,aC c F β (bp ops es s0 (fun j=>listed.getD j false) ops.size) a w→wpAnyIn (od r) 0 c.P .any ops Q fuel listed a w:=by
 intro fuel
 have hall:∀ (listed:Array Bool),(∀ i,i<ops.size→listed.getD i false=true)→∀ F β a w,aC c F β (bp ops es s0 (fun j=>listed.getD j false) ops.size) a w→Q .normal a w:=by
  intro listed hl F β a w h;rw [eR (L':=fun _=>true) hl] at h;exact hQ _ _ _ _ h
 induction fuel with
 | zero=>
  intro listed hsz hcl hcnt F β a w h;have hl:=Ar (p:=fun j=>listed.getD j false) (n:=ops.size) (by omega);refine⟨?_,hall listed hl F β a w h⟩;rw [List.eq_nil_iff_forall_not_mem];intro i hi;obtain⟨h1,h2,_⟩:=mem_ready.1 hi;have h3:listed.getD i false=true:=hl i h1;have h4:i<listed.size:=by omega
  simp [Array.getD,h4] at h2 h3;rw [h2] at h3;cases h3
 | succ fuel ih=>
  intro listed hsz hcl hcnt F β a w h
  have hanc:∀ i j,uc ops i j→listed.getD j false=true→listed.getD i false=true:=by
   intro i j ha
   induction ha with
   | one ho he hb hi=>intro hj;subst hi;exact hcl _ _ ho hj _ he hb
   | more ho he hb _ ih=>intro hj;exact ih (hcl _ _ ho hj _ he hb)
  refine⟨fun hnil=>?_,fun i hi=>?_⟩
  ·refine hall listed (fun i hi=>?_) F β a w h
   induction i using Nat.strongRecOn with
   | _ i ihi=>
    cases hL:listed.getD i false with
    | true=>rfl
    | false=>
     exfalso
     have:i∈Region.ready .any ops listed:=by
      refine mem_ready.2 ⟨hi,?_,ops[i],Array.getElem?_eq_getElem hi,fun ed hed hb=>?_⟩
      ·have h4:i<listed.size:=by omega
       simp [Array.getD,h4] at hL ⊢;exact hL
      ·have:=hback i _ (Array.getElem?_eq_getElem hi) ed hed hb;exact ihi _ this (by omega)
     rw [hnil] at this;cases this
  ·obtain⟨hi1,hi2,o,ho,hpre⟩:=mem_ready.1 hi;have h4:i<listed.size:=by omega
   have hLi:listed.getD i false=false:=by simp [Array.getD,h4] at hi2 ⊢;exact hi2
   obtain⟨e,he⟩:∃ e,es[i]?=some e:=⟨es[i]'(by omega),List.getElem?_eq_getElem (by omega)⟩
   have hes:∀ j o',ops[j]?=some o'→∃ e',es[j]?=some e':=fun j o' h'=>by
    have:j<ops.size:=(Array.getElem?_eq_some_iff.1 h').1;exact⟨es[j]'(by omega),List.getElem?_eq_getElem (by omega)⟩
   have hos:∀ (j:Nat) e',es[j]?=some e'→∃ o',ops[j]?=some o':=fun j e' h'=>by
    have:j<es.length:=(List.getElem?_eq_some_iff.1 h').1;exact⟨ops[j]'(by omega),Array.getElem?_eq_getElem (by omega)⟩
   have hancR:∀ j,uc ops j i→listed.getD j false=true:=by
    intro j ha
    cases ha with
    | one ho' he' hb hj=>
     rw [ho] at ho';simp only [Option.some.injEq] at ho';subst ho';subst hj;exact hpre _ he' hb
    | more ho' he' hb hj=>
     rw [ho] at ho';simp only [Option.some.injEq] at ho';subst ho';exact hanc _ _ hj (hpre _ he' hb)
   have key:=hE i o e ho he (bp ops es s0 (fun j=>listed.getD j false) ops.size) (fun t ht=>?_) ?_ F β a w
    (wpAnyIn (od r) 0 c.P .any ops Q fuel (listed.setIfInBounds i true)) Q h (fun F' β' a' w' h'=>?_)
   ·unfold wpOpIn;rw [ho];simp only;split at key
    ·rename_i hw;rw [if_pos hw];exact key
    ·rename_i hw;rw [if_neg hw];exact⟨fun _ _=>trivial,key⟩
   ·rw [AL (i:=i) (fun j o' ho' hd=>?_) ops.size,Nat.min_eq_right (by omega)];obtain⟨e',he'⟩:=hes j o' ho';constructor
    ·intro hji;rcases hind j i o' o e' e hji ho' ho he' he with ha|ha
     ·exact hancR j ha
     ·exact absurd ht ((Oper.apart_spec ha.1).1 t hd)
    ·intro hj;rcases Nat.lt_trichotomy j i with hlt|heq|hgt
     ·exact hlt
     ·subst heq;rw [hLi] at hj;cases hj
     ·rcases hind i j o o' e e' hgt ho ho' he he' with ha|ha
      ·have:=hanc _ _ ha hj;rw [hLi] at this;cases this
      ·exact absurd ht ((Oper.apart_spec ha.1).2.2 t hd)
   ·exact hok _ i hi1 hLi hancR hanc
   ·have hset:∀ j,(listed.setIfInBounds i true).getD j false=(listed.getD j false || j == i):=by
     intro j;simp only [Array.getD_eq_getD_getElem?,Array.getElem?_setIfInBounds]
     by_cases hj:i=j
     ·subst hj;simp [h4]
     ·have hne:(j == i)=false:=by simp;exact fun e=>hj e.symm
      simp [hj,hne]
    refine ih (listed.setIfInBounds i true) (by simp [hsz]) (fun j o' ho' hj ed hed hb=>?_) ?_ F' β' a' w' ?_
    ·rw [hset] at hj ⊢;simp only [Bool.or_eq_true,beq_iff_eq] at hj ⊢;rcases hj with hj|hj
     ·exact .inl (hcl j o' ho' hj ed hed hb)
     ·subst hj;rw [ho] at ho';simp only [Option.some.injEq] at ho';subst ho';exact .inl (hpre ed hed hb)
    ·rw [oE (q:=fun j=>listed.getD j false || j == i) (fun j _=>hset j),zU (p:=fun j=>listed.getD j false) hLi hi1];omega
    ·rw [eR (L':=fun j=>listed.getD j false || j == i) (fun j _=>hset j)]
     have hst:e.app o.dst (bp ops es s0 (fun j=>listed.getD j false) ops.size)=bp ops es s0 (fun j=>listed.getD j false || j == i) ops.size:=by
      have e1:(e.app o.dst (bp ops es s0 (fun j=>listed.getD j false) ops.size)).fr=(bp ops es s0 (fun j=>listed.getD j false || j == i) ops.size).fr:=by
       funext t;refine tF ho he hi1 hLi (fun j o' hij ho' hj hd=>?_);obtain⟨e',he'⟩:=hes j o' ho';rcases hind i j o o' e e' hij ho ho' he he' with ha|ha
       ·have:=hanc _ _ ha hj;rw [hLi] at this;cases this
       ·exact (Oper.apart_spec ha.1).2.1 t hd
      have e2:(e.app o.dst (bp ops es s0 (fun j=>listed.getD j false) ops.size)).lv=(bp ops es s0 (fun j=>listed.getD j false || j == i) ops.size).lv:=by
       funext k;refine tL ho he hi1 hLi (fun j e' hij he' hj hd=>?_);obtain⟨o',ho'⟩:=hos j e' he';rcases hind i j o o' e e' hij ho ho' he he' with ha|ha
       ·have:=hanc _ _ ha hj;rw [hLi] at this;cases this
       ·exact ha.2 k hd
      cases h1:e.app o.dst (bp ops es s0 (fun j=>listed.getD j false) ops.size)
      cases h2:bp ops es s0 (fun j=>listed.getD j false || j == i) ops.size
      rw [h1,h2] at e1 e2;simp only at e1 e2;rw [e1,e2]
     rw [← hst];exact h'
end
section
variable {ops:Array Oper}{es:List Fx}{s0:aB}
theorem Hh{o:Oper}{e:Fx}(ho:ops[m]?=some o) (he:es[m]?=some e) :
 bp ops es s0 L (m+1)=if L m then e.app o.dst (bp ops es s0 L m) else bp ops es s0 L m:=by
 simp only [bp,ho,he]
theorem mD(hlen:es.length=ops.size) (hm:m<ops.size) :
 ∃ e,es[m]?=some e∧(bp ops es s0 L (m+1)).lv k=if L m=true then bk (bp ops es s0 L m).lv e.us k else (bp ops es s0 L m).lv k:=by
 have ho:ops[m]?=some ops[m]:=Array.getElem?_eq_getElem hm;have he:es[m]?=some (es[m]'(by omega)):=List.getElem?_eq_getElem (by omega);refine⟨_,he,?_⟩;rw [Hh ho he]
 cases L m <;> simp [lT]
theorem A0 (hlen:es.length=ops.size){i:Nat}(hi:i<ops.size) (hLi:L i=false) (h1:∀ j,uc ops j i→L j=true) (h2:∀ i j,uc ops i j→L j=true→L i=true) :
 (bp ops es s0 L ops.size).lv k=(bp ops es s0 (fun _=>true) i).lv k ∨
 (∃ j e,i<j∧es[j]?=some e∧¬ uc ops i j∧k∈e.us.map (·.1)∧(bp ops es s0 L ops.size).lv k=bk (fun _=>.hole) e.us k) ∨
 (∃ j e,j<i∧es[j]?=some e∧¬ uc ops j i∧k∈e.us.map (·.1)∧(bp ops es s0 L ops.size).lv k=(bp ops es s0 (fun _=>true) j).lv k):=by
 have hA:∀ m,m≤i→((bp ops es s0 L m).lv k=(bp ops es s0 (fun _=>true) m).lv k ∨
  ∃ j e,j<i∧es[j]?=some e∧¬ uc ops j i∧k∈e.us.map (·.1)∧(bp ops es s0 L m).lv k=(bp ops es s0 (fun _=>true) j).lv k):=by
  intro m
  induction m with
  | zero=>intro _;exact .inl rfl
  | succ m ih=>
   intro hm;obtain⟨e,he,e1⟩:=mD (ops:=ops) (s0:=s0) (L:=L) (k:=k) hlen (by omega:m<ops.size);obtain⟨e',he',e2⟩:=mD (ops:=ops) (s0:=s0) (L:=fun _=>true) (k:=k) hlen (by omega:m<ops.size);rw [he] at he';simp only [Option.some.injEq] at he';subst he';simp only [if_true] at e2;rw [e1,e2]
   by_cases hk:k∈e.us.map (·.1)
   ·cases hL:L m with
    | true=>simp only [if_true];exact .inl (qV hk)
    | false=>
     simp only [Bool.false_eq_true,if_false];rcases ih (by omega) with h|⟨j,e',q1,q2,q3,q4,q5⟩
     ·refine .inr ⟨m,e,by omega,he,fun ha=>?_,hk,h⟩;have:=h1 m ha;rw [hL] at this;cases this
     ·exact .inr ⟨j,e',q1,q2,q3,q4,q5⟩
   ·rw [cB hk,cB hk]
    cases hL:L m with
    | true=>simp only [if_true];exact ih (by omega)
    | false=>simp only [Bool.false_eq_true,if_false];exact ih (by omega)
 have hB:∀ m,i≤m→m≤ops.size→((bp ops es s0 L m).lv k=(bp ops es s0 L i).lv k ∨
  ∃ j e,i<j∧es[j]?=some e∧¬ uc ops i j∧k∈e.us.map (·.1)∧(bp ops es s0 L m).lv k=bk (fun _=>.hole) e.us k):=by
  intro m
  induction m with
  | zero=>intro h _;have:i=0:=by omega
          subst this;exact .inl rfl
  | succ m ih=>
   intro hm hms
   by_cases hmi:i=m+1
   ·rw [hmi];exact .inl rfl
   obtain⟨e,he,e1⟩:=mD (ops:=ops) (s0:=s0) (L:=L) (k:=k) hlen (by omega:m<ops.size);rw [e1]
   cases hL:L m with
   | false=>simp only [Bool.false_eq_true,if_false];exact ih (by omega) (by omega)
   | true=>
    simp only [if_true]
    by_cases hk:k∈e.us.map (·.1)
    ·refine .inr ⟨m,e,?_,he,fun ha=>?_,hk,qV hk⟩
     ·rcases Nat.lt_or_ge i m with h|h
      ·exact h
      ·have:i=m:=by omega
       subst this;rw [hLi] at hL;cases hL
     ·have:=h2 i m ha hL;rw [hLi] at this;cases this
    ·rw [cB hk];exact ih (by omega) (by omega)
 rcases hB ops.size (by omega) (Nat.le_refl _) with h|⟨j,e,q1,q2,q3,q4,q5⟩
 ·rw [h];rcases hA i (Nat.le_refl _) with h'|⟨j,e,q1,q2,q3,q4,q5⟩
  ·exact .inl h'
  ·exact .inr (.inr ⟨j,e,q1,q2,q3,q4,q5⟩)
 ·exact .inr (.inl ⟨j,e,q1,q2,q3,q4,q5⟩)
end
structure Fw where
 e:Fx
 lv:Key→LB
 all:Bool
 soft:Key→LB→Bool
variable {fs:List Fw}
def Fw.ok (f:Fw)(lv:Key→LB):Prop:=
 (f.all=true∧lv=f.lv)∨(f.all=false∧(Agree f.lv lv f.e.us f.e.rds∨(f.e.us=[]∧∃ k,f.e.rds=[k]∧f.soft k (lv k)=true)))
def Fw.apart (f g:Fw):Prop:=
 (f.all=true→g.e.us=[])∧(g.all=true→f.e.us=[]) ∧
 (∀ k∈f.e.us.map (·.1),k ∉ g.e.us.map (·.1)) ∧
 (∀ k∈f.e.us.map (·.1),k ∉ g.e.rds∨(g.e.us=[]∧g.e.rds=[k]∧g.soft k (f.lv k)=true)) ∧
 (∀ k∈g.e.us.map (·.1),k ∉ f.e.rds∨(f.e.us=[]∧f.e.rds=[k]∧f.soft k (bk (fun _=>.hole) g.e.us k)=true))
theorem Qd {ops:Array Oper}{s0:aB}(hlen:fs.length=ops.size)
 (hlv:∀ (i:Nat) f,fs[i]?=some f→f.lv=(bp ops (fs.map (·.e)) s0 (fun _=>true) i).lv)
 (hind:∀ (i j:Nat) f g,i<j→fs[i]?=some f→fs[j]?=some g→uc ops i j∨f.apart g) :
 ∀ (L:Nat→Bool) (i:Nat) (f:Fw),fs[i]?=some f→L i=false→(∀ j,uc ops j i→L j=true)→(∀ i j,uc ops i j→L j=true→L i=true) →
  f.ok (bp ops (fs.map (·.e)) s0 L ops.size).lv:=by
 intro L i f hf hLi h1 h2;have hi:i<ops.size:=by have:=(List.getElem?_eq_some_iff.1 hf).1;omega
 have hlen':(fs.map (·.e)).length=ops.size:=by simpa using hlen
 have hver:=fun k=>A0 (s0:=s0) (k:=k) hlen' hi hLi h1 h2
 rw [← hlv i f hf] at hver
 have hget:∀ (j:Nat) (e:Fx),(fs.map (·.e))[j]?=some e→∃ g:Fw,fs[j]?=some g∧g.e=e:=by
  intro j e h;rw [List.getElem?_map,Option.map_eq_some_iff] at h;exact h
 cases hall:f.all with
 | true=>
  left;refine⟨hall,funext fun k=>?_⟩;rcases hver k with h|⟨j,e,q1,q2,q3,q4,q5⟩|⟨j,e,q1,q2,q3,q4,q5⟩
  ·exact h
  ·obtain⟨g,hg,rfl⟩:=hget j e q2;rcases hind i j f g q1 hf hg with ha|ha
   ·exact absurd ha q3
   ·rw [ha.1 hall] at q4;cases q4
  ·obtain⟨g,hg,rfl⟩:=hget j e q2;rcases hind j i g f q1 hg hf with ha|ha
   ·exact absurd ha q3
   ·rw [ha.2.1 hall] at q4;cases q4
 | false=>
 right;refine⟨hall,?_⟩
 by_cases hs:f.e.us=[]∧∃ k,f.e.rds=[k]
 ·obtain⟨hu,k,hk⟩:=hs;rcases hver k with h|⟨j,e,q1,q2,q3,q4,q5⟩|⟨j,e,q1,q2,q3,q4,q5⟩
  ·left;refine⟨fun k' hk'=>?_,fun p hp=>by rw [hu] at hp;cases hp⟩;rw [hk] at hk';rw [List.mem_singleton.1 hk'];exact h
  all_goals (right;refine⟨hu,k,hk,?_⟩)
  ·obtain⟨g,hg,rfl⟩:=hget j e q2;rw [q5];rcases hind i j f g q1 hf hg with ha|ha
   ·exact absurd ha q3
   ·rcases ha.2.2.2.2 k q4 with h|h
    ·exact absurd (by rw [hk];exact List.mem_singleton.2 rfl) h
    ·exact h.2.2
  ·obtain⟨g,hg,rfl⟩:=hget j e q2;rw [q5,← hlv j g hg];rcases hind j i g f q1 hg hf with ha|ha
   ·exact absurd ha q3
   ·rcases ha.2.2.2.1 k q4 with h|h
    ·exact absurd (by rw [hk];exact List.mem_singleton.2 rfl) h
    ·exact h.2.2
 ·left;have hno:∀ k,¬ (f.e.us=[]∧f.e.rds=[k]):=fun k h=>hs ⟨h.1,k,h.2⟩
  have key:∀ k,(k∈f.e.rds∨k∈f.e.us.map (·.1))→(bp ops (fs.map (·.e)) s0 L ops.size).lv k=f.lv k:=by
   intro k hk;rcases hver k with h|⟨j,e,q1,q2,q3,q4,q5⟩|⟨j,e,q1,q2,q3,q4,q5⟩
   ·exact h
   ·obtain⟨g,hg,rfl⟩:=hget j e q2;exfalso;rcases hind i j f g q1 hf hg with ha|ha
    ·exact q3 ha
    ·rcases hk with hk|hk
     ·rcases ha.2.2.2.2 k q4 with h|h
      ·exact h hk
      ·exact hno k ⟨h.1,h.2.1⟩
     ·exact ha.2.2.1 k hk q4
   ·obtain⟨g,hg,rfl⟩:=hget j e q2;exfalso;rcases hind j i g f q1 hg hf with ha|ha
    ·exact q3 ha
    ·rcases hk with hk|hk
     ·rcases ha.2.2.2.1 k q4 with h|h
      ·exact h hk
      ·exact hno k ⟨h.1,h.2.1⟩
     ·exact ha.2.2.1 k q4 hk
  exact⟨fun k hk=>key k (.inl hk),fun p hp=>key p.1 (.inr (List.mem_map_of_mem hp))⟩
def jq (c:Ctx)(r:Option Nat)(ops:Array Oper):List Oper→List Fw→aB→aB→Prop
 | [],[],s,s'=>s'=s
 | o::os,f::fs,s,s'=>lW c r ops o s f.e f.ok∧f.lv=s.lv∧jq c r ops os fs (f.e.app o.dst s) s'
 | _,_,_,_=>False
section
variable {c:Ctx}{r:Option Nat}{ops:Array Oper}
theorem jq.len:∀ {os:List Oper}{es:List Fw}{s s':aB},jq c r ops os es s s'→es.length=os.length
 | [],[],_,_,_=>rfl
 | _::_,_::_,_,_,h=>by simp [jq.len h.2.2]
 | [],_::_,_,_,h=>h.elim
 | _::_,[],_,_,h=>h.elim
theorem jq.at {fs:List Fw}{s0:aB}:∀ {os:List Oper}{rs:List Fw}{s':aB}(n:Nat),ops.toList.drop n=os→fs.drop n=rs→jq c r ops os rs (bp ops (fs.map (·.e)) s0 (fun _=>true) n) s' →
 s'=bp ops (fs.map (·.e)) s0 (fun _=>true) (n+os.length)∧∀ (i:Nat) o f,n≤i→ops[i]?=some o→fs[i]?=some f→lW c r ops o (bp ops (fs.map (·.e)) s0 (fun _=>true) i) f.e f.ok∧f.lv=(bp ops (fs.map (·.e)) s0 (fun _=>true) i).lv
 | [],[],s',n,h1,h2,h=>by
  refine⟨h,fun i o e hi ho he=>?_⟩;have h3:fs.length≤n:=List.drop_eq_nil_iff.1 h2;have:=(List.getElem?_eq_some_iff.1 he).1;omega
 | o::os,e::rs,s',n,h1,h2,h=>by
  have ho:ops[n]?=some o:=by
   have:(ops.toList.drop n)[0]?=some o:=by rw [h1];rfl
   rw [List.getElem?_drop] at this;simpa using this
  have he:fs[n]?=some e:=by
   have:(fs.drop n)[0]?=some e:=by rw [h2];rfl
   rw [List.getElem?_drop] at this;simpa using this
  have hst:bp ops (fs.map (·.e)) s0 (fun _=>true) (n+1)=e.e.app o.dst (bp ops (fs.map (·.e)) s0 (fun _=>true) n):=by
   simp only [bp,ho,List.getElem?_map,he,Option.map_some,if_true]
  obtain⟨h3,h4⟩:=jq.at (fs:=fs) (s0:=s0) (os:=os) (rs:=rs) (s':=s') (n+1) (by rw [← List.drop_drop,h1];rfl) (by rw [← List.drop_drop,h2];rfl) (by rw [hst];exact h.2.2);refine⟨by rw [h3];congr 1;simp;omega,fun i o' e' hi ho' he'=>?_⟩
  by_cases e1:i=n
  ·subst e1;rw [ho] at ho';rw [he] at he';simp only [Option.some.injEq] at ho' he';subst ho';subst he';exact⟨h.1,h.2.1⟩
  ·exact h4 i o' e' (by omega) ho' he'
 | [],_::_,_,_,_,_,h=>h.elim
 | _::_,[],_,_,_,_,h=>h.elim
theorem jq.draw{id:Nat}{s':aB}(hm:c.P.follows .mixedOrders=true) (h:jq c r ops ops.toList fs s s')
 (hback:∀ (i:Nat) o,ops[i]?=some o→∀ ed∈o.after,Region.binds .any ed=true→ed.on<i)
 (hind:∀ (i j:Nat) o o' f g,i<j→ops[i]?=some o→ops[j]?=some o'→fs[i]?=some f→fs[j]?=some g→uc ops i j∨(o.apart ops o'=true∧f.apart g))
 (hQ:∀ F' β' a' w',aC c F' β' s' a' w'→Q .normal a' w') {F:Nat→Prop}{β:Key→Nat}{a:Act}{w:World}(hs:aC c F β s a w):(Code.region id ops true).wpIn (od r) 0 c.P Q a w:=by
 have hlen:fs.length=ops.size:=by rw [h.len];simp
 obtain⟨h3,h4⟩:=jq.at (fs:=fs) (s0:=s) 0 rfl rfl h;refine wpIn_region_any hm ?_
 have hget:∀ (j:Nat) (e:Fx),(fs.map (·.e))[j]?=some e→∃ g:Fw,fs[j]?=some g∧g.e=e:=by
  intro j e h;rw [List.getElem?_map,Option.map_eq_some_iff] at h;exact h
 have hos:∀ (j:Nat) f,fs[j]?=some f→∃ o',ops[j]?=some o':=fun j e' h'=>by
  have:j<fs.length:=(List.getElem?_eq_some_iff.1 h').1;exact⟨ops[j]'(by omega),Array.getElem?_eq_getElem (by omega)⟩
 refine A4 (es:=fs.map (·.e)) (s0:=s) (fun i lv=>∀ f,fs[i]?=some f→f.ok lv) (by simpa using hlen) (fun i o e ho he=>?_) hback (fun i j o o' e e' hij ho ho' he he'=>?_) (fun L i hi hLi h1 h2 f hf=>?_)
  (fun F' β' a' w' h'=>hQ F' β' a' w' ?_) ops.size _ (by simp) (fun j o ho hj=>?_) (by omega) F β a _ ?_
 ·obtain⟨f,hf,rfl⟩:=hget i e he;intro s1 g1 g2;exact (h4 i o f (Nat.zero_le _) ho hf).1 s1 g1 (g2 f hf)
 ·obtain⟨f,hf,rfl⟩:=hget i e he;obtain⟨g,hg,rfl⟩:=hget j e' he';rcases hind i j o o' f g hij ho ho' hf hg with ha|⟨ha,hb⟩
  ·exact .inl ha
  ·exact .inr ⟨ha,hb.2.2.1⟩
 ·refine Qd hlen (fun i f hf=>?_) (fun i j f g hij hf hg=>?_) L i f hf hLi h1 h2
  ·obtain⟨o,ho⟩:=hos i f hf;exact (h4 i o f (Nat.zero_le _) ho hf).2
  ·obtain⟨o,ho⟩:=hos i f hf;obtain⟨o',ho'⟩:=hos j g hg;rcases hind i j o o' f g hij ho ho' hf hg with ha|ha
   ·exact .inl ha
   ·exact .inr ha.2
 ·rw [h3];simpa using h'
 ·have hf:(Array.replicate ops.size false).getD j false=false:=by
   simp only [Array.getD_eq_getD_getElem?,Array.getElem?_replicate];split <;> rfl
  rw [hf] at hj;cases hj
 ·have hf:∀ j,(Array.replicate ops.size false).getD j false=false:=fun j=>by
   simp only [Array.getD_eq_getD_getElem?,Array.getElem?_replicate];split <;> rfl
  have:bp ops (fs.map (·.e)) s (fun j=>(Array.replicate ops.size false).getD j false) ops.size=s:=by
   rw [eR (L':=fun _=>false) (fun j _=>hf j)]
   have:∀ m,bp ops (fs.map (·.e)) s (fun _=>false) m=s:=by
    intro m
    induction m with
    | zero=>rfl
    | succ m ih=>simp only [bp,ih,Bool.false_eq_true,if_false];split <;> rfl
   exact this _
  rw [this];exact hs.heap rfl
end
theorem AW.seq'{r:Option Nat}{κ:Nat}{Q:Ex→aB→Nat→Prop}{x y:Code}(h:AW c r x s κ (oV (fun s κ=>AW c r y s κ Q) Q)):AW c r (.seq x y) s κ Q:=
 AW.seq h fun _ _ h=>h
theorem Ref.nS:∀ (x:Ref),x.b6 (fun k=>k)=x
 | .d _=>rfl
 | .ptr ..=>rfl
 | .aV ..=>rfl
 | .agg cs=>by
  simp only [Ref.b6];congr 1;have:∀ x∈cs,iq.b6 (fun k=>k) x=x:=fun x _=>by cases x <;> rfl
  simpa using List.map_congr_left this
 | .ifc t x=>by simp only [Ref.b6,Ref.nS x]
theorem CV.nS (x:CV):x.b6 (fun k=>k)=x:=by
 cases x with
 | func fn f c=>
  simp only [CV.b6]
  have h:∀ l:List Ref,l.map (Ref.b6 fun k=>k)=l:=fun l=>by
   have:∀ x∈l,Ref.b6 (fun k=>k) x=x:=fun x _=>Ref.nS x
   simpa using List.map_congr_left this
  rw [h,h]
 | ifc t x=>simp only [CV.b6,Ref.nS]
 | _=>rfl
theorem wM (l:List CV):l.map (CV.b6 fun k=>k)=l:=by
 have:∀ x∈l,CV.b6 (fun k=>k) x=x:=fun x _=>CV.nS x
 simpa using List.map_congr_left this
theorem AV.uL(h:x.cq=true):x.k7 (fun k=>k)=x:=by
 cases x with
 | c x=>simp only [AV.k7,CV.nS]
 | agg cs=>simp only [AV.k7,wM]
 | tup l=>cases h
 | undef=>rfl
 | junk=>rfl
theorem AV.nS(h:x.bV=true):x.b6 (fun k=>k)=x:=by
 cases x with
 | c x=>exact AV.uL (x:=.c x) rfl
 | agg cs=>exact AV.uL (x:=.agg cs) rfl
 | tup l=>
  simp only [AV.bV,List.all_eq_true] at h;simp only [AV.b6];congr 1;have:∀ x∈l,AV.k7 (fun k=>k) x=x:=fun x hx=>AV.uL (by have:=h x hx;cases x <;> simp_all [AV.cq])
  simpa using List.map_congr_left this
 | undef=>rfl
 | junk=>rfl
theorem LB.QG {x:LB}(hm:∀ own es,x=.map own es→∀ p∈es,∀ l,p.2≠.tup l):x.as x (fun k=>k):=by
 cases x with
 | cells own fz T cs=>exact⟨own,cs,rfl,(wM cs).symm,fun h=>h⟩
 | map own es=>
  refine⟨own,es,rfl,?_,fun h=>h,fun p hp l=>hm own es rfl p hp l⟩
  have:∀ p∈es,(fun p:DV × AV=>(p.1,p.2.k7 fun k=>k)) p=p:=fun p hp=>by
   have:=AV.uL (x:=p.2) (by have:=hm own es rfl p hp;cases e:p.2 <;> simp_all [AV.cq]);simp only [this]
  simpa using (List.map_congr_left this).symm
 | hole=>rfl
 | dead=>intro h;cases h
 | nils=>rfl
def bh:List (Nat × AV)→Nat→AV
 | [],_=>.junk
 | p::l,t=>if t=p.1 then p.2 else bh l t
theorem jT{P:Nat→AV→Prop}(h:∀ p∈l,P p.1 p.2) (t:Nat):bh l t=.junk∨P t (bh l t):=by
 induction l with
 | nil=>exact .inl rfl
 | cons p l ih=>
  simp only [bh];split
  ·rename_i e;subst e;exact .inr (h p (by simp))
  ·exact ih fun q hq=>h q (by simp [hq])
theorem dh.slots(hl:∀ p∈l,p.2.bV=true∧s.fr p.1=p.2) (hm:∀ k own es,s.lv k=.map own es→∀ p∈es,∀ l,p.2≠.tup l) :
 dh c s ⟨bh l,s.lv⟩ (fun k=>k):=by
 refine⟨fun k=>LB.QG (hm k),fun k k' _ _ h=>h,fun t=>?_,fun k _=>.inr rfl⟩;rcases jT (P:=fun t x=>x.bV=true∧s.fr t=x) hl t with h|⟨h1,h2⟩
 ·exact .inl h
 ·exact .inr ⟨h1,by rw [AV.nS h1];exact h2⟩
def CV.pure:CV→Bool
 | .d _=>true
 | _=>false
def AV.kg:AV→Bool
 | .c x=>x.pure
 | .agg cs=>cs.all CV.pure
 | .undef=>true
 | .junk=>true
 | _=>false
def AV.pure:AV→Bool
 | .tup l=>l.all AV.kg
 | x=>x.kg
theorem CV.b8 {x:CV}(h:x.pure=true) (g:Key→Key):x.b6 g=x:=by cases x <;> simp_all [CV.pure,CV.b6]
theorem AV.r8(h:x.kg=true) (g:Key→Key):x.k7 g=x:=by
 cases x with
 | c x=>simp only [AV.k7,CV.b8 h]
 | agg cs=>
  simp only [AV.kg,List.all_eq_true] at h;simp only [AV.k7];congr 1;have:∀ x∈cs,CV.b6 g x=x:=fun x hx=>CV.b8 (h x hx) g
  simpa using List.map_congr_left this
 | tup l=>cases h
 | undef=>rfl
 | junk=>rfl
theorem AV.b8(h:x.pure=true) (g:Key→Key):x.b6 g=x:=by
 cases x with
 | c x=>exact AV.r8 (x:=.c x) h g
 | agg cs=>exact AV.r8 (x:=.agg cs) h g
 | tup l=>
  simp only [AV.pure,List.all_eq_true] at h;simp only [AV.b6];congr 1;have:∀ x∈l,AV.k7 g x=x:=fun x hx=>AV.r8 (h x hx) g
  simpa using List.map_congr_left this
 | undef=>rfl
 | junk=>rfl
theorem AV.iX(h:x.pure=true):x.bV=true:=by
 cases x with
 | tup l=>
  simp only [AV.pure,List.all_eq_true] at h;simp only [AV.bV,List.all_eq_true];intro x hx;have:=h x hx
  cases x <;> simp_all [AV.kg]
 | _=>rfl
theorem dh.blind(hl:∀ p∈l,p.2.pure=true∧s.fr p.1=p.2) (kh:Key) (hh:s.lv kh=.hole) (h0:∀ k,c.kB k=.hole) :
 dh c s ⟨bh l,fun _=>.hole⟩ (fun _=>kh):=by
 refine⟨fun k=>hh,fun k k' h=>(by cases h),fun t=>?_,fun k h=>absurd (h0 k) h⟩;rcases jT (P:=fun t x=>x.pure=true∧s.fr t=x) hl t with h|⟨h1,h2⟩
 ·exact .inl h
 ·exact .inr ⟨AV.iX h1,by rw [AV.b8 h1];exact h2⟩
theorem fV:bF [] []=fun _=>LB.hole:=funext fun k=>qW k
def aq (c:Ctx)(fn:Func)(x:AV):Ex→aB→Nat→Prop
 | .normal,s,_|.ret,s,_=>∃ l kh,(∀ p∈l,p.2.pure=true∧s.fr p.1=p.2)∧s.lv kh=.hole∧dF c.P ⟨bh l,fun _=>.hole⟩ fn.results.toList=some x
 | _,_,_=>False
theorem aa.lq {P:Program}{G:List (List DV)}{fn:Func}{code:Code}{args:List AV}(hf:P.funcs[f]?=some fn) (hb:fn.body=some code) (hl:args.length≤fn.ntmps)
 (h:∀ c:Ctx,c.P=P→c.G=G→c.n=fn.ntmps→AW c none code ⟨fun t=>args.getD t .undef,fun _=>.hole⟩ 0 (aq c fn x)):aa P G f args x:=by
 refine aL.lq hf hb hl fun c h1 h2 h3 h4=>?_;rw [fV] at h4 ⊢;refine (AW.mono (fun F β a w hs=>h c h1 h2 h3 F β a w hs) fun e s κ hq=>?_:AW c none code _ 1000 _)
 have fin:(∃ l kh,(∀ p∈l,p.2.pure=true∧s.fr p.1=p.2)∧s.lv kh=.hole∧dF c.P ⟨bh l,fun _=>.hole⟩ fn.results.toList=some x) →
  ∃ s2 g,dh c s s2 g∧s2.lv=bF [] []∧dF c.P s2 fn.results.toList=some x:=by
  rintro⟨l,kh,g1,g2,g3⟩;exact⟨⟨bh l,fun _=>.hole⟩,fun _=>kh,dh.blind g1 kh g2 (fun k=>by rw [h4]),by rw [fV],g3⟩
 cases e with
 | normal=>exact fin hq
 | ret=>exact fin hq
 | exit id=>exact hq.elim
 | goto l=>exact hq.elim
 | panic d=>exact hq.elim
inductive Tr (α:Type) where
 | nil
 | node (l:Tr α) (v:Option α) (r:Tr α)
def Tr.get:Tr α→Nat→Option α
 | .nil,_=>none
 | .node l v r,n=>match n with
  | 0=>v
  | n+1=>bif Nat.beq (n % 2) 0 then l.get (n / 2) else r.get (n / 2)
def Tr.set:Nat→Tr α→Nat→α→Option (Tr α)
 | 0,_,_,_=>none
 | d+1,t,n,x=>
  match t with
  | .nil=>match n with
   | 0=>some (.node .nil (some x) .nil)
   | n+1=>bif Nat.beq (n % 2) 0 then (match Tr.set d .nil (n / 2) x with|some l=>some (.node l none .nil)|none=>none)
    else (match Tr.set d .nil (n / 2) x with|some r=>some (.node .nil none r)|none=>none)
  | .node l v r=>match n with
   | 0=>some (.node l (some x) r)
   | n+1=>bif Nat.beq (n % 2) 0 then (match Tr.set d l (n / 2) x with|some l=>some (.node l v r)|none=>none)
    else (match Tr.set d r (n / 2) x with|some r=>some (.node l v r)|none=>none)
theorem Tr.get_nil(n:Nat):(Tr.nil:Tr α).get n=none:=by unfold Tr.get;rfl
theorem Tr.kI:∀ {d:Nat}{t t':Tr α}{n:Nat}{x:α},Tr.set d t n x=some t'→∀ m,t'.get m=if m=n then some x else t.get m
 | 0,_,_,_,_,h=>by cases h
 | d+1,t,t',n,x,h=>by
  intro m
  have half:∀ p q:Nat,(p % 2 == q % 2)=true→p≠q→p / 2≠q / 2:=by
   intro p q h1 h2 h3;simp at h1;omega
  cases t with
  | nil=>
   simp only [Tr.set] at h
   cases n with
   | zero=>
    simp only [Option.some.injEq] at h;subst h
    cases m with
    | zero=>simp [Tr.get]
    | succ m=>simp [Tr.get,Tr.get_nil]
   | succ n=>
    simp only at h
    cases hb:Nat.beq (n % 2) 0 with
    | true=>
     rw [hb] at h;simp only [cond_true] at h;split at h
     ·rename_i l hl
      simp only [Option.some.injEq] at h;subst h;have ih:=Tr.kI hl
      cases m with
      | zero=>simp [Tr.get]
      | succ m=>
       simp only [Tr.get,Tr.get_nil]
       cases hm:Nat.beq (m % 2) 0 with
       | true=>
        simp only [cond_true];rw [ih,Tr.get_nil];have e1:=Nat.eq_of_beq_eq_true hb;have e2:=Nat.eq_of_beq_eq_true hm
        by_cases e:m=n
        ·subst e;simp
        ·rw [if_neg (half m n (by simp;omega) e),if_neg (by omega)]
       | false=>
        simp only [cond_false];rw [if_neg];intro e;have:m=n:=by omega
        subst this;rw [hb] at hm;cases hm
     ·cases h
    | false=>
     rw [hb] at h;simp only [cond_false] at h;split at h
     ·rename_i l hl
      simp only [Option.some.injEq] at h;subst h;have ih:=Tr.kI hl;have e1:=Nat.ne_of_beq_eq_false hb
      cases m with
      | zero=>simp [Tr.get]
      | succ m=>
       simp only [Tr.get,Tr.get_nil]
       cases hm:Nat.beq (m % 2) 0 with
       | false=>
        simp only [cond_false];rw [ih,Tr.get_nil];have e2:=Nat.ne_of_beq_eq_false hm
        by_cases e:m=n
        ·subst e;simp
        ·rw [if_neg (half m n (by simp;omega) e),if_neg (by omega)]
       | true=>
        simp only [cond_true];rw [if_neg];intro e;have:m=n:=by omega
        subst this;rw [hb] at hm;cases hm
     ·cases h
  | node l0 v0 r0=>
   simp only [Tr.set] at h
   cases n with
   | zero=>
    simp only [Option.some.injEq] at h;subst h
    cases m with
    | zero=>simp [Tr.get]
    | succ m=>simp [Tr.get]
   | succ n=>
    simp only at h
    cases hb:Nat.beq (n % 2) 0 with
    | true=>
     rw [hb] at h;simp only [cond_true] at h;split at h
     ·rename_i l hl
      simp only [Option.some.injEq] at h;subst h;have ih:=Tr.kI hl
      cases m with
      | zero=>simp [Tr.get]
      | succ m=>
       simp only [Tr.get]
       cases hm:Nat.beq (m % 2) 0 with
       | true=>
        simp only [cond_true];rw [ih];have e1:=Nat.eq_of_beq_eq_true hb;have e2:=Nat.eq_of_beq_eq_true hm
        by_cases e:m=n
        ·subst e;simp
        ·rw [if_neg (half m n (by simp;omega) e),if_neg (by omega)]
       | false=>
        simp only [cond_false];rw [if_neg];intro e;have:m=n:=by omega
        subst this;rw [hb] at hm;cases hm
     ·cases h
    | false=>
     rw [hb] at h;simp only [cond_false] at h;split at h
     ·rename_i l hl
      simp only [Option.some.injEq] at h;subst h;have ih:=Tr.kI hl;have e1:=Nat.ne_of_beq_eq_false hb
      cases m with
      | zero=>simp [Tr.get]
      | succ m=>
       simp only [Tr.get]
       cases hm:Nat.beq (m % 2) 0 with
       | false=>
        simp only [cond_false];rw [ih];have e2:=Nat.ne_of_beq_eq_false hm
        by_cases e:m=n
        ·subst e;simp
        ·rw [if_neg (half m n (by simp;omega) e),if_neg (by omega)]
       | true=>
        simp only [cond_true];rw [if_neg];intro e;have:m=n:=by omega
        subst this;rw [hb] at hm;cases hm
     ·cases h
abbrev kM:=AV × List (Key × LB) × List Key × Bool
instance (op:BinOp) (y:Int):Decidable (eG op y):=by unfold eG;cases op <;> infer_instance
instance (op:BinOp) (x y:List UInt8):Decidable (pM op x y):=by unfold pM;cases op <;> infer_instance
def s7 (P:Program)(op:BinOp)(T:TypeId)(x y:AV):Option kM:=
 match x,y with
 | .c (.d (.int k m)),.c (.d (.int k' n))=>
  match op with
  | .shl|.shr=>match O9 op k m n with|some d=>some (.c (.d d),[],[],decide (0≤n))|none=>none
  | _=>if k=k' then (match kC op k m n with|some d=>some (.c (.d d),[],[],decide (eG op n))|none=>none) else none
 | .c (.d (.str m)),.c (.d (.str n))=>match KC op m n with|some d=>some (.c (.d d),[],[],decide (pM op m n))|none=>none
 | x,y=>
  match op with
  | .eql=>if P.eqGuardType P.depth T || !pe x then none else match I9 P 20 T x y with|some b=>some (.c (.d (.bool b)),[],[],true)|none=>none
  | .neq=>if P.eqGuardType P.depth T || !pe x then none else match I9 P 20 T x y with|some b=>some (.c (.d (.bool (!b))),[],[],true)|none=>none
  | _=>none
def pG (P:Program)(T:TypeId)(lv:Key→LB):AV→Option kM
 | .c (.d (.ptr cs))=>match eK P T (cs.map CV.d) with|some y=>some (y,[],[],true)|none=>none
 | .c (.ptr k off)=>match lv k with
  | .cells _ _ _ cs=>match eK P T (cs.drop off) with|some y=>some (y,[],[k],true)|none=>none
  | _=>none
 | _=>none
def m9 (P:Program)(T:TypeId)(lv:Key→LB)(x y:AV):Option kM:=
 match x with
 | .c (.ptr k off)=>match lv k with
  | .cells own false T' cs=>match y.cells with
   | some xs=>if (P.info? T).isSome && xs.length == gx P T then some (.undef,[(k,.cells own false T' (aj cs off xs))],[],decide (off+xs.length≤cs.length)) else none
   | none=>none
  | _=>none
 | _=>none
def sU (lv:Key→LB):AV→Option kM
 | .c (.d (.ptr cs))=>some (.c (.d (.ptr cs)),[],[],true)
 | .c (.ptr k n)=>match lv k with|.cells ..=>some (.c (.ptr k n),[],[k],true)|_=>none
 | .c (.d (.func (.func f) fs cs))=>some (.c (.d (.func (.func f) fs cs)),[],[],true)
 | .c (.func (.func f) fs cs)=>some (.c (.func (.func f) fs cs),[],[],true)
 | _=>none
def jj (P:Program)(T:TypeId)(f:Nat)(lv:Key→LB):AV→Option kM
 | .c (.d (.ptr cs))=>match cY P T f with|some (off,_)=>some (.c (.d (.ptr (cs.drop off))),[],[],decide (off≤cs.length))|none=>none
 | .c (.ptr k n)=>match lv k,cY P T f with|.cells ..,some (off,_)=>some (.c (.ptr k (n+off)),[],[k],true)|_,_=>none
 | _=>none
def jo (P:Program)(T:TypeId)(lv:Key→LB)(x i:AV):Option kM:=
 match i with
 | .c (.d (.int _ n))=>
  match x with
  | .c (.d (.sl es))=>match eI P T with
   | some (_,sz)=>some (.c (.d (.ptr (es.getD n.toNat []))),[],[],decide (0≤n∧n<es.length∧(es.getD n.toNat []).length=sz))
   | none=>none
  | .c (.aV k off len sz)=>match lv k,eI P T with
   | .cells ..,some (_,sz')=>if sz=sz' then some (.c (.ptr k (off+n.toNat*sz)),[],[k],decide (0≤n∧n<len)) else none
   | _,_=>none
  | .c (.d (.ptr cs))=>match rZ P T with
   | some (len,_,sz)=>some (.c (.d (.ptr (cs.drop (n.toNat*sz)))),[],[],decide (0≤n∧n<len∧n.toNat*sz≤cs.length))
   | none=>none
  | .c (.ptr k off)=>match lv k,rZ P T with
   | .cells ..,some (len,_,sz)=>some (.c (.ptr k (off+n.toNat*sz)),[],[k],decide (0≤n∧n<len))
   | _,_=>none
  | _=>none
 | _=>none
def nt (P:Program)(T:TypeId)(x i:AV):Option kM:=
 match i with
 | .c (.d (.int _ n))=>
  match x with
  | .c (.d (.str l))=>if cu P T then some (.c (.d (.int .u8 (l.getD n.toNat 0).toNat)),[],[],decide (0≤n∧n<l.length)) else none
  | .agg cs=>match rZ P T with
   | some (len,e,sz)=>match mL P e cs (n.toNat*sz) with|some y=>some (y,[],[],decide (0≤n∧n<len))|none=>none
   | none=>none
  | _=>none
 | _=>none
def nO (P:Program)(T:TypeId)(lv:Key→LB)(x:AV)(lo hi:Option AV):Option kM:=
 match x with
 | .c (.d (.str bs))=>if cu P T then (match cU lo 0,cU hi bs.length with
  | some l,some h=>some (.c (.d (.str ((bs.take h.toNat).drop l.toNat))),[],[],decide (0≤l∧l≤h∧h≤bs.length))
  | _,_=>none) else none
 | .c (.d (.sl es))=>match eI P T with
  | some (_,sz)=>match cU lo 0,cU hi es.length with
   | some l,some h=>some (.c (.d (.sl ((es.take h.toNat).drop l.toNat))),[],[],decide (0≤l∧l≤h∧h≤es.length∧∀ e∈es,e.length=sz))
   | _,_=>none
  | none=>none
 | .c (.d .nilsl)=>match eI P T with
  | some _=>match cU lo 0,cU hi 0 with
   | some l,some h=>some (.c (.d .nilsl),[],[],decide (l=0∧h=0))
   | _,_=>none
  | none=>none
 | .c (.aV k off len sz)=>match lv k,eI P T with
  | .cells ..,some (_,sz')=>if sz=sz' then (match cU lo 0,cU hi len with
   | some l,some h=>some (.c (.aV k (off+l.toNat*sz) (h.toNat - l.toNat) sz),[],[k],decide (0≤l∧l≤h∧h≤len∧(l<h∨l=0)))
   | _,_=>none) else none
  | _,_=>none
 | _=>none
def pn (P:Program)(T:TypeId)(lv:Key→LB)(κ:Key)(x y:AV):Option kM:=
 match x,y with
 | .c (.d (.int _ l)),.c (.d (.int _ m))=>match eI P T,lv κ with
  | some (e,sz),.hole=>match br P e,bB P e with
   | some zs,some b=>if zs.length=sz∧0<sz then some (.c (.aV κ 0 l.toNat sz),[(κ,.cells true false e (kA l.toNat zs))],[],decide (0≤l∧l≤m∧(b:Int)*m≤281474976710656∧m≤9223372036854775807)) else none
   | _,_=>none
  | _,_=>none
 | _,_=>none
def lQ (P:Program)(T:TypeId)(lv:Key→LB)(κ:Key)(y x:AV):Option kM:=
 match eI P T,lv κ with
 | some (e,sz),.hole=>match bB P e,gV lv sz x with
  | some b,some (m,xs)=>
   match y with
   | .c (.d .nilsl)=>some (.c (.aV κ 0 m sz),[(κ,if m=0 then .nils else .cells true false e xs)],keyOf x,decide (m≤9223372036854775807∧m*b≤140737488355328))
   | .c (.aV k off n sz')=>match lv k with
    | .nils=>if off=0∧n=0∧sz'=sz then some (.c (.aV κ 0 m sz),[(κ,if m=0 then .nils else .cells true false e xs)],k::keyOf x,decide (m≤9223372036854775807∧m*b≤140737488355328)) else none
    | .cells own false e' cs=>if off=0∧sz'=sz∧e'=e then
     some (.c (.aV κ 0 (n+m) sz),[(k,.dead),(κ,.cells own false e (cs++xs))],keyOf x,decide (cs.length=n*sz∧n+m≤9223372036854775807∧(n+m)*b≤140737488355328)) else none
    | _=>none
   | _=>none
  | _,_=>none
 | _,_=>none
def iY (P:Program)(T:TypeId)(n:Nat)(ixs:List Nat)(lv:Key→LB)(κ:Key)(vals:List AV):Option kM:=
 match eI P T,lv κ with
 | some (e,sz),.hole=>match br P e with
  | some zs=>if zs.length=sz∧0<sz∧n*sz≤16777216∧ixs.length=vals.length then (match js (fun i=>some (i*sz,sz)) (kA n zs) (ixs.zip vals) with
   | some cs=>some (.c (.aV κ 0 n sz),[(κ,.cells true false e cs)],[],true)
   | none=>none) else none
  | none=>none
 | _,_=>none
def pW (P:Program)(T:TypeId)(lv:Key→LB)(y x:AV):Option kM:=
 match y,eI P T with
 | .c (.aV k off n sz),some (_,sz')=>if sz=1∧sz'=1 then (match lv k,gV lv 1 x with
  | .cells own false T' cs,some (m,xs)=>some (.c (.d (.int .i64 ((min m n:Nat):Int))),[(k,.cells own false T' (aj cs off (xs.take (min m n))))],keyOf x,decide (0<m∧off+min m n≤cs.length∧n≤9223372036854775807))
  | _,_=>none) else none
 | _,_=>none
def EB (x:AV)(n:Int):Bool:=
 match x with
 | .c (.aV ..)=>decide (n≤9223372036854775807)
 | _=>true
theorem Dz{n:Int}(h:EB x n=true):mI x n:=by
 cases x with
 | c y=>cases y <;> first|exact trivial|simpa [EB,mI] using h
 | _=>exact trivial
def Bb (P:Program)(cl:Call)(vals:List AV)(lv:Key→LB)(κ:Key):Option kM:=
 match cl.callee with
 | .builtin .len=>match cl.args.toList,cl.argTypes.toList,vals with
  | [_],[T],[x]=>match kq P T lv x with
   | some n=>some (.c (.d (.int .i64 n)),[],keyOf x,EB x n)
   | none=>none
  | _,_,_=>none
 | .builtin .append=>match cl.args.toList,cl.argTypes.toList,vals with
  | [_,_],[T,T'],[y,x]=>if T=T' then lQ P T lv κ y x else none
  | _,_,_=>none
 | .builtin .copy=>match cl.args.toList,cl.argTypes.toList,vals with
  | [_,_],[T,_],[y,x]=>pW P T lv y x
  | _,_,_=>none
 | .builtin .max=>match di vals with
  | some (k,n::l)=>some (.c (.d (.int k (l.foldl (fun a b=>if b > a then b else a) n))),[],[],true)
  | _=>none
 | .builtin .min=>match di vals with
  | some (k,n::l)=>some (.c (.d (.int k (l.foldl (fun a b=>if b<a then b else a) n))),[],[],true)
  | _=>none
 | _=>none
def qK (P:Program)(op:Op)(vals:List AV)(lv:Key→LB)(κ:Key):Option kM:=
 match op,vals with
 | .move _,[x]|.assign _,[x]=>some (x,[],[],true)
 | .pick _ _ _,[t,x,y]=>match t with|.c (.d (.bool true))=>some (x,[],[],true)|.c (.d (.bool false))=>some (y,[],[],true)|_=>none
 | .alloc T,[]=>match br P T,lv κ with|some xs,.hole=>some (.c (.ptr κ 0),[(κ,.cells true false T xs)],[],true)|_,_=>none
 | .box T _,[x]=>match x.cells,lv κ with|some xs,.hole=>some (.c (.ptr κ 0),[(κ,.cells true false T xs)],[],true)|_,_=>none
 | .build T parts,vals=>match br P T,qA P T with
  | some zs,some place=>if parts.size=vals.length then (match js place zs ((parts.toList.map (·.1)).zip vals) with|some cs=>some (.agg cs,[],[],true)|none=>none) else none
  | _,_=>none
 | .buildSlice T n parts,vals=>iY P T n (parts.toList.map (·.1)) lv κ vals
 | .load T _,[x]=>pG P T lv x
 | .store T _ _,[x,y]=>m9 P T lv x y
 | .nilCheck _,[x]=>sU lv x
 | .binOp op T _ _ _,[x,y]=>s7 P op T x y
 | .unOp op _ _,[x]=>match x with|.c (.d d)=>(match Q0 op d with|some d'=>some (.c (.d d'),[],[],true)|none=>none)|_=>none
 | .convert S T _,[x]=>match x with
  | .c (.d (.int _ n))=>match oN P S,oN P T with|some _,some k'=>some (.c (.d (.int k' (k'.wrap n))),[],[],true)|_,_=>none
  | .c (.d (.str l))=>if cu P S && cu P T then some (.c (.d (.str l)),[],[],true) else none
  | _=>none
 | .makeInterface T _,[x]=>match mN x with|some d=>if P.concrete T then some (.c (.d (.iface T d)),[],[],true) else none|none=>none
 | .makeFunc fn first caps,vals=>if vals.length=first.size+caps.size then (match qH (vals.take first.size),qH (vals.drop first.size) with
  | some fr,some cr=>some (.c (xm fn fr cr),[],[],true)
  | _,_=>none) else none
 | .makeSlice T _ _,[x,y]=>pn P T lv κ x y
 | .slice T _ lo hi none,x::rest=>match uf lo hi rest with|some (l,h)=>nO P T lv x l h|none=>none
 | .fieldAddr T _ f,[x]=>jj P T f lv x
 | .field T _ f,[x]=>match x with|.agg cs=>(match cY P T f with|some (off,ft)=>(match mL P ft cs off with|some y=>some (y,[],[],true)|none=>none)|none=>none)|_=>none
 | .indexAddr T _ _,[x,i]=>jo P T lv x i
 | .index T _ _,[x,i]=>nt P T x i
 | .extract _ i,[x]=>match x with|.tup l=>(match l[i]? with|some (.tup _)=>none|some y=>some (y,[],[],true)|none=>none)|_=>none
 | .call cl,vals=>Bb P cl vals lv κ
 | _,_=>none
inductive Tb (α:Type) where
 | leaf
 | node (l:Tb α) (v:α) (r:Tb α)
inductive Pa where
 | e
 | l (p:Pa)
 | r (p:Pa)
noncomputable def Tb.get(d:α) (t:Tb α) (p:Pa):α:=
 Pa.rec (motive:=fun _=>Tb α→α) (fun t=>Tb.rec (motive:=fun _=>α) d (fun _ v _ _ _=>v) t)
  (fun _ ih t=>Tb.rec (motive:=fun _=>α) d (fun l _ _ _ _=>ih l) t)
  (fun _ ih t=>Tb.rec (motive:=fun _=>α) d (fun _ _ r _ _=>ih r) t) p t
noncomputable def Tb.set(d x:α) (p:Pa) (t:Tb α):Tb α:=
 Pa.rec (motive:=fun _=>Tb α→Tb α) (fun t=>Tb.rec (motive:=fun _=>Tb α) (.node .leaf x .leaf) (fun l _ r _ _=>.node l x r) t)
  (fun _ ih t=>Tb.rec (motive:=fun _=>Tb α) (.node (ih .leaf) d .leaf) (fun l v r _ _=>.node (ih l) v r) t)
  (fun _ ih t=>Tb.rec (motive:=fun _=>Tb α) (.node .leaf d (ih .leaf)) (fun l v r _ _=>.node l v (ih r)) t) p t
noncomputable def Tb.Be(d x:α) (p:Pa) (t:Tb α) (k:Tb α→β):β:=
 Pa.rec (motive:=fun _=>Tb α→(Tb α→β)→β) (fun t k=>Tb.rec (motive:=fun _=>β) (k (.node .leaf x .leaf)) (fun l _ r _ _=>k (.node l x r)) t)
  (fun _ ih t k=>Tb.rec (motive:=fun _=>β) (ih .leaf fun s=>k (.node s d .leaf)) (fun l v r _ _=>ih l fun s=>k (.node s v r)) t)
  (fun _ ih t k=>Tb.rec (motive:=fun _=>β) (ih .leaf fun s=>k (.node .leaf d s)) (fun l v r _ _=>ih r fun s=>k (.node l v s)) t) p t k
theorem Tb.kD(d x:α):∀ (p:Pa) (t:Tb α) (k:Tb α→β),Tb.Be d x p t k=k (Tb.set d x p t)
 | .e,.leaf,_=>rfl
 | .e,.node _ _ _,_=>rfl
 | .l p,.leaf,k=>Tb.kD d x p .leaf fun s=>k (.node s d .leaf)
 | .l p,.node l v r,k=>Tb.kD d x p l fun s=>k (.node s v r)
 | .r p,.leaf,k=>Tb.kD d x p .leaf fun s=>k (.node .leaf d s)
 | .r p,.node l v r,k=>Tb.kD d x p r fun s=>k (.node l v s)
theorem Tb.dS(d:α) (p:Pa):Tb.get d .leaf p=d:=by cases p <;> rfl
theorem Tb.kI(d x:α):∀ (p:Pa) (t:Tb α) (q:Pa) [Decidable (q=p)],Tb.get d (Tb.set d x p t) q=if q=p then x else Tb.get d t q:=by
 intro p
 induction p with
 | e=>
  intro t q _
  cases q with
  | e=>cases t <;> simp [Tb.get,Tb.set]
  | l q=>cases t with
   | leaf=>simp only [reduceCtorEq,if_false];rw [Tb.dS];exact Tb.dS d q
   | node l v r=>rw [if_neg (by simp)];rfl
  | r q=>cases t with
   | leaf=>simp only [reduceCtorEq,if_false];rw [Tb.dS];exact Tb.dS d q
   | node l v r=>rw [if_neg (by simp)];rfl
 | l p ih=>
  intro t q _
  cases q with
  | l q=>
   have:Decidable (q=p):=Classical.propDecidable _
   cases t with
   | leaf=>
    have h1:Tb.get d (Tb.set d x (.l p) .leaf) (.l q)=Tb.get d (Tb.set d x p .leaf) q:=rfl;rw [h1,ih .leaf q]
    by_cases h:q=p
    ·subst h;simp
    ·have:¬ (Pa.l q=Pa.l p):=fun e=>h (by injection e)
     rw [if_neg h,if_neg this,Tb.dS,Tb.dS]
   | node l v r=>
    have h1:Tb.get d (Tb.set d x (.l p) (.node l v r)) (.l q)=Tb.get d (Tb.set d x p l) q:=rfl;rw [h1,ih l q]
    by_cases h:q=p
    ·subst h;simp
    ·have:¬ (Pa.l q=Pa.l p):=fun e=>h (by injection e)
     rw [if_neg h,if_neg this];rfl
  | e=>cases t <;> simp [Tb.get,Tb.set]
  | r q=>cases t <;> simp [Tb.get,Tb.set];cases q <;> rfl
 | r p ih=>
  intro t q _
  cases q with
  | r q=>
   have:Decidable (q=p):=Classical.propDecidable _
   cases t with
   | leaf=>
    have h1:Tb.get d (Tb.set d x (.r p) .leaf) (.r q)=Tb.get d (Tb.set d x p .leaf) q:=rfl;rw [h1,ih .leaf q]
    by_cases h:q=p
    ·subst h;simp
    ·have:¬ (Pa.r q=Pa.r p):=fun e=>h (by injection e)
     rw [if_neg h,if_neg this,Tb.dS,Tb.dS]
   | node l v r=>
    have h1:Tb.get d (Tb.set d x (.r p) (.node l v r)) (.r q)=Tb.get d (Tb.set d x p r) q:=rfl;rw [h1,ih r q]
    by_cases h:q=p
    ·subst h;simp
    ·have:¬ (Pa.r q=Pa.r p):=fun e=>h (by injection e)
     rw [if_neg h,if_neg this];rfl
  | e=>cases t <;> simp [Tb.get,Tb.set]
  | l q=>cases t <;> simp [Tb.get,Tb.set];cases q <;> rfl
noncomputable def zj (f:Nat):Nat→Pa:=
 Nat.rec (motive:=fun _=>Nat→Pa) (fun _=>.e) (fun _ ih n=>Nat.rec (motive:=fun _=>Pa) .e
  (fun m _=>Bool.rec (motive:=fun _=>Pa) (.r (ih (Nat.div m 2))) (.l (ih (Nat.div m 2))) (Nat.beq (Nat.mod m 2) 0)) n) f
noncomputable def pathOf (n:Nat):Pa:=zj n n
def Pa.num:Pa→Nat
 | .e=>0
 | .l p=>2*p.num+1
 | .r p=>2*p.num+2
theorem sH:∀ (f n:Nat),n≤f→(zj f n).num=n
 | 0,n,h=>by have:n=0:=by omega
             subst this;rfl
 | f+1,0,_=>rfl
 | f+1,m+1,h=>by
  have ih:=sH f (m / 2) (by omega);show (Bool.rec (motive:=fun _=>Pa) (.r (zj f (Nat.div m 2))) (.l (zj f (Nat.div m 2))) (Nat.beq (Nat.mod m 2) 0)).num=m+1;have e:Nat.div m 2=m / 2:=rfl;have e2:Nat.mod m 2=m % 2:=rfl;rw [e,e2]
  cases hb:Nat.beq (m % 2) 0 with
  | true=>
   have:=Nat.eq_of_beq_eq_true hb;show 2*(zj f (m / 2)).num+1=m+1;rw [ih];omega
  | false=>
   have:=Nat.ne_of_beq_eq_false hb;show 2*(zj f (m / 2)).num+2=m+1;rw [ih];omega
theorem pK {n:Nat}(h:pathOf n=pathOf m):n=m:=by
 have h1:=sH n n (Nat.le_refl _);have h2:=sH m m (Nat.le_refl _);unfold pathOf at h;rw [← h1,← h2,h]
noncomputable def jy (t:Tb AV):Nat→AV:=fun i=>t.get .undef (pathOf i)
noncomputable def aY (t:Tb LB):Key→LB:=fun i=>t.get .hole (pathOf i)
theorem Bq (t:Tb AV)(k:Nat)(x:AV):jy (t.set .undef x (pathOf k))=aG (jy t) k x:=by
 funext i;have:Decidable (pathOf i=pathOf k):=Classical.propDecidable _;simp only [jy,aG,Tb.kI]
 by_cases e:i=k
 ·subst e;simp
 ·rw [if_neg e,if_neg (fun h=>e (pK h))]
theorem Cf (t:Tb LB)(k:Nat)(x:LB):aY (t.set .hole x (pathOf k))=aG (aY t) k x:=by
 funext i;have:Decidable (pathOf i=pathOf k):=Classical.propDecidable _;simp only [aY,aG,Tb.kI]
 by_cases e:i=k
 ·subst e;simp
 ·rw [if_neg e,if_neg (fun h=>e (pK h))]
noncomputable def de(n:Nat) (k:Nat→β):β:=Nat.rec (motive:=fun _=>β) (k 0) (fun m _=>k (Nat.succ m)) n
noncomputable def Cp(n:Int) (k:Int→β):β:=Int.rec (motive:=fun _=>β) (fun m=>de m fun m=>k (.ofNat m)) (fun m=>de m fun m=>k (.negSucc m)) n
theorem gS(n:Nat) (k:Nat→β):de n k=k n:=by cases n <;> rfl
theorem BQ(n:Int) (k:Int→β):Cp n k=k n:=by cases n with
 | ofNat m=>exact gS m fun m=>k (.ofNat m)
 | negSucc m=>exact gS m fun m=>k (.negSucc m)
noncomputable def yx(b:Bool) (k:Bool→β):β:=Bool.rec (motive:=fun _=>β) (k false) (k true) b
theorem AF(b:Bool) (k:Bool→β):yx b k=k b:=by cases b <;> rfl
noncomputable def p9(f:α→(α→β)→β) (l:List α) (k:List α→β):β:=
 List.rec (motive:=fun _=>(List α→β)→β) (fun k=>k []) (fun x _ ih k=>f x fun x=>ih fun l=>k (x::l)) l k
theorem jC {α β:Type}(f:α→(α→β)→β) (hf:∀ x k,f x k=k x):∀ (l:List α) (k:List α→β),p9 f l k=k l
 | [],_=>rfl
 | x::l,k=>by
  show f x (fun x=>p9 f l fun l=>k (x::l))=_;rw [hf,jC f hf l]
noncomputable def sB(b:UInt8) (k:UInt8→β):β:=de b.toNat fun n=>k (UInt8.ofNat n)
theorem AD(b:UInt8) (k:UInt8→β):sB b k=k b:=by unfold sB;rw [gS];simp
noncomputable def E9(d:DV) (k:DV→β):β:=
 DV.casesOn (motive_1:=fun _=>β) d (fun b=>yx b fun b=>k (.bool b)) (fun q n=>Cp n fun n=>k (.int q n)) (fun s=>p9 sB s fun s=>k (.str s)) (k .nilp) (fun cs=>k (.ptr cs)) (k .nilsl)
  (fun es=>k (.sl es)) (fun cs=>k (.agg cs)) (k .nilIface) (fun t v=>k (.iface t v)) (k .nilFunc) (fun f a b=>k (.func f a b)) (k .nilmap)
theorem Gw(d:DV) (k:DV→β):E9 d k=k d:=by
 cases d <;> simp only [E9] <;> first|exact AF _ _|exact BQ _ _|exact jC _ AD _ _|rfl
noncomputable def pH(x:CV) (k:CV→β):β:=
 CV.casesOn (motive:=fun _=>β) x (fun d=>E9 d fun d=>k (.d d)) (fun a b=>de a fun a=>de b fun b=>k (.ptr a b))
  (fun a b c d=>de a fun a=>de b fun b=>de c fun c=>de d fun d=>k (.aV a b c d)) (fun a=>de a fun a=>k (.mapr a)) (fun f a b=>k (.func f a b)) (fun t r=>k (.ifc t r)) (k .junk)
theorem lu(x:CV) (k:CV→β):pH x k=k x:=by
 cases x <;> simp only [pH,Gw,gS]
noncomputable def zu(x:AV) (k:AV→β):β:=
 AV.casesOn (motive_1:=fun _=>β) x (fun c=>pH c fun c=>k (.c c)) (fun l=>p9 pH l fun l=>k (.agg l)) (fun l=>k (.tup l)) (k .undef) (k .junk)
theorem Es(x:AV) (k:AV→β):zu x k=k x:=by
 cases x <;> simp only [zu,lu,jC _ lu]
noncomputable def dQ(x:AV) (k:AV→β):β:=
 AV.casesOn (motive_1:=fun _=>β) x (fun c=>pH c fun c=>k (.c c)) (fun l=>p9 pH l fun l=>k (.agg l)) (fun l=>p9 zu l fun l=>k (.tup l)) (k .undef) (k .junk)
theorem iW(x:AV) (k:AV→β):dQ x k=k x:=by
 cases x <;> simp only [dQ,lu,jC _ lu,jC _ Es]
noncomputable def sW(b:LB) (k:LB→β):β:=
 LB.casesOn (motive:=fun _=>β) b (k .hole) (k .dead) (k .nils) (fun _ fz T cs=>p9 pH cs fun cs=>k (.cells false fz T cs)) (fun _ es=>k (.map false es))
def LB.un:LB→LB
 | .cells _ fz T cs=>.cells false fz T cs
 | .map _ es=>.map false es
 | x=>x
def rW (us:List (Key × LB)):List (Key × LB):=us.map fun p=>(p.1,p.2.un)
theorem zf(b:LB) (k:LB→β):sW b k=k b.un:=by
 cases b <;> simp only [sW,LB.un,jC _ lu]
structure ES where
 fr:Tr AV
 lv:Tr LB
 nx:Nat
def Vj (t:Tr AV):Nat→AV:=fun i=>match t.get i with|some x=>x|none=>.undef
def Vi (t:Tr LB):Key→LB:=fun k=>match t.get k with|some b=>b|none=>.hole
def ES.st (s:ES):aB:=⟨Vj s.fr,Vi s.lv⟩
def ES.put (s:ES)(dst:Option Nat)(x:AV):Option ES:=
 match dst with
 | none=>some s
 | some d=>match s.fr.set 16 d x with|some fr=>some ⟨fr,s.lv,s.nx⟩|none=>none
def H7:Tr LB→List (Key × LB)→Option (Tr LB)
 | t,[]=>some t
 | t,p::r=>match t.set 30 p.1 p.2 with|some t=>H7 t r|none=>none
def ES.wr (s:ES)(us:List (Key × LB))(nx:Nat):Option ES:=
 match H7 s.lv us with|some lv=>some ⟨s.fr,lv,nx⟩|none=>none
def iq.qu (p:Key→Bool):iq→Bool
 | .d _=>true
 | .ptr k _=>p k
 | .aV k _ _ _=>p k
def Ref.qu (p:Key→Bool):Ref→Bool
 | .d _=>true
 | .ptr k _=>p k
 | .aV k _ _ _=>p k
 | .agg cs=>cs.all (iq.qu p)
 | .ifc _ x=>x.qu p
def CV.qu (p:Key→Bool):CV→Bool
 | .d _=>true
 | .ptr k _=>p k
 | .aV k _ _ _=>p k
 | .mapr k=>p k
 | .func _ f c=>f.all (Ref.qu p) && c.all (Ref.qu p)
 | .ifc _ x=>x.qu p
 | .junk=>true
def AV.IC (p:Key→Bool):AV→Bool
 | .c x=>x.qu p
 | .agg cs=>cs.all (CV.qu p)
 | _=>true
def AV.qu (p:Key→Bool):AV→Bool
 | .tup l=>l.all (AV.IC p)
 | x=>x.IC p
def LB.qu (p:Key→Bool):LB→Bool
 | .cells _ _ _ cs=>cs.all (CV.qu p)
 | .map _ es=>es.all fun q=>q.2.IC p && q.2.cq
 | _=>true
section
variable {p:Key→Bool}{i g:Key→Key}(hp:∀ k,p k=true→g (i k)=k)
include hp
theorem nj{f:(Key→Key)→α→α}{c:α→Bool}(hf:∀ x,c x=true→f g (f i x)=x) {l:List α}(h:l.all c=true):(l.map (f i)).map (f g)=l:=by
 rw [List.all_eq_true] at h;rw [List.map_map]
 conv=>rhs;rw [← List.map_id l]
 exact List.map_congr_left fun x hx=>hf x (h x hx)
theorem iq.um {x:iq}(h:x.qu p=true):(x.b6 i).b6 g=x:=by
 cases x with
 | d x=>rfl
 | ptr k o=>simp only [iq.b6,hp k h]
 | aV k o l z=>simp only [iq.b6,hp k h]
theorem Ref.um:∀ {x:Ref},x.qu p=true→(x.b6 i).b6 g=x
 | .d _,_=>rfl
 | .ptr k _,h=>by simp only [Ref.b6,hp k h]
 | .aV k _ _ _,h=>by simp only [Ref.b6,hp k h]
 | .agg cs,h=>by simp only [Ref.b6];rw [nj hp (fun x hx=>iq.um hp hx) h]
 | .ifc t x,h=>by simp only [Ref.b6,Ref.um (x:=x) h]
theorem CV.um {x:CV}(h:x.qu p=true):(x.b6 i).b6 g=x:=by
 cases x with
 | d x=>rfl
 | ptr k o=>simp only [CV.b6,hp k h]
 | aV k o l z=>simp only [CV.b6,hp k h]
 | mapr k=>simp only [CV.b6,hp k h]
 | func fn f c=>
  simp only [CV.qu,Bool.and_eq_true] at h;simp only [CV.b6];rw [nj hp (fun x hx=>Ref.um hp hx) h.1,nj hp (fun x hx=>Ref.um hp hx) h.2]
 | ifc t x=>simp only [CV.b6,Ref.um hp (x:=x) h]
 | junk=>rfl
theorem AV.Gs(h:x.IC p=true) (ht:x.cq=true):(x.k7 i).k7 g=x:=by
 cases x with
 | c x=>simp only [AV.k7,CV.um hp (x:=x) h]
 | agg cs=>simp only [AV.k7];rw [nj hp (fun x hx=>CV.um hp hx) h]
 | tup l=>cases ht
 | undef=>rfl
 | junk=>rfl
theorem AV.um(h:x.qu p=true) (hf:x.bV=true):(x.b6 i).b6 g=x:=by
 cases x with
 | c x=>exact AV.Gs hp (x:=.c x) h rfl
 | agg cs=>exact AV.Gs hp (x:=.agg cs) h rfl
 | tup l=>
  simp only [AV.bV,List.all_eq_true] at hf;simp only [AV.qu,List.all_eq_true] at h;simp only [AV.b6,List.map_map];congr 1
  conv=>rhs;rw [← List.map_id l]
  refine List.map_congr_left fun x hx=>AV.Gs hp (h x hx) ?_;have:=hf x hx
  cases x <;> first|rfl|cases this
 | undef=>rfl
 | junk=>rfl
end
def LB.mO:LB→LB
 | .cells _ fz T cs=>.cells false fz T cs
 | .map _ es=>.map false es
 | x=>x
theorem LB.Oi{i:Key→Key}(hp:∀ k,p k=true→g (i k)=k)(hc:b.qu p=true):b.as (b.b6 i) g:=by
 cases b with
 | hole=>rfl
 | dead=>intro h;cases h
 | nils=>rfl
 | cells own fz T cs=>exact⟨own,cs,rfl,(nj hp (fun x hx=>CV.um hp hx) hc).symm,fun h=>h⟩
 | map own es=>
  have h2:=hc;simp only [LB.qu,List.all_eq_true,Bool.and_eq_true] at h2;refine⟨own,es,rfl,?_,fun h=>h,fun q hq l=>?_⟩
  ·simp only [List.map_map]
   conv=>lhs;rw [← List.map_id es]
   refine (List.map_congr_left fun q hq=>?_);obtain⟨h3,h4⟩:=h2 q hq;simp only [Function.comp,id,AV.Gs hp h3 h4]
  ·simp only [List.mem_map] at hq;obtain⟨q0,hq0,rfl⟩:=hq;obtain⟨_,h4⟩:=h2 q0 hq0;intro e
   cases e2:q0.2 <;> rw [e2] at h4 e <;> first|(cases h4;done)|(simp only [AV.k7] at e;cases e;done)
theorem LB.IF {b':LB}(h:b.as b' g):b.as b'.mO g:=by
 cases b' with
 | cells own fz T cs=>obtain⟨o,c,h1,h2,h3⟩:=h;exact⟨o,c,h1,h2,fun e=>by cases e⟩
 | map own es=>obtain⟨o,c,h1,h2,h3,h4⟩:=h;exact⟨o,c,h1,h2,(fun e=>by cases e),h4⟩
 | hole=>exact h
 | dead=>exact h
 | nils=>exact h
def iq.ks:iq→List Key
 | .d _=>[]
 | .ptr k _=>[k]
 | .aV k _ _ _=>[k]
def Ref.ks:Ref→List Key
 | .d _=>[]
 | .ptr k _=>[k]
 | .aV k _ _ _=>[k]
 | .agg cs=>cs.flatMap iq.ks
 | .ifc _ x=>x.ks
def CV.ks:CV→List Key
 | .d _=>[]
 | .ptr k _=>[k]
 | .aV k _ _ _=>[k]
 | .mapr k=>[k]
 | .func _ f c=>f.flatMap Ref.ks++c.flatMap Ref.ks
 | .ifc _ x=>x.ks
 | .junk=>[]
def AV.TW:AV→List Key
 | .c x=>x.ks
 | .agg cs=>cs.flatMap CV.ks
 | _=>[]
def AV.ks:AV→List Key
 | .tup l=>l.flatMap AV.TW
 | x=>x.TW
def LB.ks:LB→List Key
 | .cells _ _ _ cs=>cs.flatMap CV.ks
 | .map _ es=>es.flatMap fun q=>q.2.TW
 | _=>[]
def reach (lv:Key→LB):Nat→List Key→Tr Nat→List Key→Nat→Option (Tr Nat × List Key)
 | 0,_,_,_,_=>none
 | _+1,[],t,l,_=>some (t,l.reverse)
 | f+1,k::r,t,l,n=>match t.get k with
  | some _=>reach lv f r t l n
  | none=>match t.set 30 k n with
   | some t'=>reach lv f ((lv k).ks++r) t' (k::l) (n+1)
   | none=>none
def pX (t:Tr Nat):Key→Key:=fun k=>match t.get k with|some j=>j|none=>0
def pT (t:Tr Nat)(g:Key→Key):Key→Bool:=fun k=>match t.get k with|some j=>Nat.beq (g j) k|none=>false
theorem Qy {t:Tr Nat}(h:pT t g k=true):g (pX t k)=k:=by
 unfold pT at h;unfold pX;split at h
 ·rename_i j hj;exact Nat.eq_of_beq_eq_true h
 ·cases h
def BC (k:Nat):List Nat→Bool
 | []=>false
 | a::r=>Nat.beq a k || BC k r
theorem mX {k:Nat}:∀ {l:List Nat},BC k l=true↔k∈l
 | []=>by simp [BC]
 | a::r=>by
  simp only [BC,Bool.or_eq_true,mX (l:=r),List.mem_cons];constructor
  ·rintro (h|h)
   ·exact .inl (Nat.eq_of_beq_eq_true h).symm
   ·exact .inr h
  ·rintro (h|h)
   ·exact .inl (by subst h;exact Nat.beq_refl k)
   ·exact .inr h
def nodupB:List Nat→Bool
 | []=>true
 | a::r=>!BC a r && nodupB r
theorem y9:∀ {l:List Nat},nodupB l=true→l.Nodup
 | [],_=>List.nodup_nil
 | a::r,h=>by
  simp only [nodupB,Bool.and_eq_true,Bool.not_eq_true'] at h;refine List.nodup_cons.2 ⟨fun hm=>?_,y9 h.2⟩;rw [mX.2 hm] at h;cases h.1
def LB.isHole:LB→Bool
 | .hole=>true
 | _=>false
theorem LB.mB:b.isHole=true↔b=.hole:=by cases b <;> simp [LB.isHole]
def iM:Nat→Nat→List Nat
 | _,0=>[]
 | a,n+1=>a::iM (a+1) n
theorem j7:∀ (n a:Nat),(iM a n).length=n
 | 0,_=>rfl
 | n+1,a=>by simp [iM,j7 n]
theorem qe:∀ (n a i:Nat) (h:i<(iM a n).length),(iM a n)[i]=a+i
 | 0,_,i,h=>absurd h (Nat.not_lt_zero i)
 | n+1,a,0,h=>rfl
 | n+1,a,i+1,h=>by
  simp only [iM,List.getElem_cons_succ];rw [qe n];omega
structure Pass where
 us:List AV
 σ:List LB
 sel:List Key
 t:Tr Nat
def Fa (lv:Key→LB)(as:List AV):Option Pass:=
 match reach lv 1000000 (as.flatMap AV.ks) .nil [] 0 with
 | some (t,sel)=>some ⟨as.map (AV.b6 (pX t)),sel.map fun k=>((lv k).b6 (pX t)).mO,sel,t⟩
 | none=>none
def wU (lv:Key→LB)(as:List AV)(q:Pass)(nk:List Key)(kh:Key):Bool:=
 let p:=pT q.t (aJ q.sel nk kh)
 as.all (fun a=>a.qu p && a.bV) && q.us.all AV.bV && q.sel.all (fun k=>(lv k).qu p && !(lv k).isHole) && q.σ.all LB.pass &&
  nodupB (q.sel++nk) && !BC kh (q.sel++nk) && nk.all (fun k=>(lv k).isHole) && (lv kh).isHole && Nat.ble q.σ.length 1000
def Ep (q:Pass)(nk:List Key)(σ' ν:List LB):Bool:=
 Nat.beq σ'.length q.σ.length && Nat.beq nk.length ν.length && (σ'++ν).all (fun b=>!b.isHole)
theorem A1 {lv:Key→LB}{p:Key→Bool}{R:List Key}(h1:∀ k,p k=true→k∈R) (h2:∀ k∈R,(lv k).qu p=true):∀ (n:Nat) (x:CV),x.qu p=true→∀ k∈ld lv n x,k∈R
 | n+1,.ptr k _,hx,j,hj=>by
  simp only [ld,List.mem_cons] at hj;rcases hj with rfl|hj
  ·exact h1 _ hx
  ·have h3:=h2 k (h1 _ hx)
   cases e:lv k with
   | cells own fz T cs=>
    rw [e] at hj h3;simp only [List.mem_flatMap] at hj;obtain⟨y,hy,hj⟩:=hj;simp only [LB.qu,List.all_eq_true] at h3;exact A1 h1 h2 n y (h3 y hy) j hj
   | _=>rw [e] at hj;cases hj
 | n+1,.aV k _ _ _,hx,j,hj=>by
  simp only [ld,List.mem_cons] at hj;rcases hj with rfl|hj
  ·exact h1 _ hx
  ·have h3:=h2 k (h1 _ hx)
   cases e:lv k with
   | cells own fz T cs=>
    rw [e] at hj h3;simp only [List.mem_flatMap] at hj;obtain⟨y,hy,hj⟩:=hj;simp only [LB.qu,List.all_eq_true] at h3;exact A1 h1 h2 n y (h3 y hy) j hj
   | _=>rw [e] at hj;cases hj
 | 0,.ptr ..,_,_,hj=>by cases hj
 | 0,.aV ..,_,_,hj=>by cases hj
 | n,.d _,_,_,hj=>by cases n <;> cases hj
 | n,.mapr _,_,_,hj=>by cases n <;> cases hj
 | n,.func ..,_,_,hj=>by cases n <;> cases hj
 | n,.ifc ..,_,_,hj=>by cases n <;> cases hj
 | n,.junk,_,_,hj=>by cases n <;> cases hj
theorem Ox{R:List Key}(h1:∀ k,p k=true→k∈R) (h2:∀ k∈R,(lv k).qu p=true)(hx:x.qu p=true):∀ k∈om lv x,k∈R:=by
 cases x with
 | c x=>exact A1 h1 h2 8 x hx
 | agg cs=>
  intro k hk;simp only [om,List.mem_flatMap] at hk;obtain⟨y,hy,hk⟩:=hk;simp only [AV.qu,AV.IC,List.all_eq_true] at hx;exact A1 h1 h2 8 y (hx y hy) k hk
 | _=>intro k hk;cases hk
theorem Em {sel:List Key}{j:Key}:aJ sel nk kh j∈sel∨aJ sel nk kh j∈nk∨aJ sel nk kh j=kh:=by
 unfold aJ;split
 ·rw [List.getD_eq_getElem?_getD]
  by_cases h:j<sel.length
  ·left;rw [List.getElem?_eq_getElem h];exact List.getElem_mem h
  ·right;right;rw [List.getElem?_eq_none (Nat.le_of_not_lt h)];rfl
 ·rw [List.getD_eq_getElem?_getD]
  by_cases h:j - 1000<nk.length
  ·right;left;rw [List.getElem?_eq_getElem h];exact List.getElem_mem h
  ·right;right;rw [List.getElem?_eq_none (Nat.le_of_not_lt h)];rfl
theorem bU.pass{as:List AV}{q:Pass}{σ' ν:List LB}(hq:Fa lv as=some q) (h1:wU lv as q nk kh=true) (h2:Ep q nk σ' ν=true)
 (hc:aL c.P c.G f q.us q.σ (.ret x σ' ν)):bU c f as lv (x.b6 (aJ q.sel nk kh)) (cH (aJ q.sel nk kh) false q.sel σ'++cH (aJ q.sel nk kh) false nk ν) (kh::q.sel++nk):=by
 unfold Fa at hq;split at hq
 ·rename_i t sel hr
  simp only [Option.some.injEq] at hq;subst hq;simp only [wU,Bool.and_eq_true,List.all_eq_true,Bool.not_eq_true'] at h1;obtain⟨⟨⟨⟨⟨⟨⟨⟨a1,a2⟩,a3⟩,a4⟩,a5⟩,a6⟩,a7⟩,a8⟩,a9⟩:=h1;simp only [Ep,Bool.and_eq_true,List.all_eq_true,Bool.not_eq_true'] at h2;obtain⟨⟨b1,b2⟩,b3⟩:=h2;have hp:∀ k,pT t (aJ sel nk kh) k=true→aJ sel nk kh (pX t k)=k:=fun k h=>Qy h
  have e1:=Nat.eq_of_beq_eq_true b1;have e2:=Nat.eq_of_beq_eq_true b2;have hnh:∀ b:LB,b.isHole=false→b≠.hole:=fun b h e=>by rw [e] at h;cases h
  refine bU.gen (as.map (AV.b6 (pX t))) [] sel nk kh (sel.map fun k=>((lv k).b6 (pX t)).mO) σ' ν x false (kh::sel++nk) (fun z hz=>by cases hz) (by simp) (y9 a5) (fun z hz=>by cases hz)
   (fun hm=>by rw [mX.2 hm] at a6;cases a6) (fun z hz=>by cases hz) (by simp) e1 e2 (Nat.le_of_ble_eq_true a9)
   (fun i p q=>?_) (fun k hk=>LB.mB.1 (a7 k hk)) (LB.mB.1 a8) a4 (fun b hb=>?_) (fun h=>by cases h) (by simp) (fun i p q=>?_) (fun a ha k hk=>.inl ?_) (by simp) hc
  ·have e:(sel.map fun k=>((lv k).b6 (pX t)).mO)[i]=((lv sel[i]).b6 (pX t)).mO:=List.getElem_map _;show LB.as _ ((sel.map fun k=>((lv k).b6 (pX t)).mO)[i]) _;rw [e];exact LB.IF (LB.Oi hp (a3 _ (List.getElem_mem p)).1)
  ·rw [List.append_assoc,List.mem_append] at hb;rcases hb with hb|hb
   ·obtain⟨k,hk,rfl⟩:=List.mem_map.1 hb;have h3:=hnh _ (a3 k hk).2;intro e
    cases e2:lv k <;> rw [e2] at e h3 <;> simp [LB.b6,LB.mO] at e h3
   ·exact hnh b (b3 b hb)
  ·left;have e:(as.map (AV.b6 (pX t)))[i]=(as[i]).b6 (pX t):=List.getElem_map _;show AV.bV ((as.map (AV.b6 (pX t)))[i])=true∧_=AV.b6 _ ((as.map (AV.b6 (pX t)))[i]);rw [e];have ha:=a1 _ (List.getElem_mem p);refine⟨a2 _ ?_,(AV.um hp ha.1 ha.2).symm⟩;simp only [List.mem_map];exact⟨_,List.getElem_mem p,rfl⟩
  ·have ha:=a1 a ha;refine Ox (p:=pT t (aJ sel nk kh)) (lv:=lv) (fun k h=>?_) (fun k hk'=>?_) ha.1 k (by simpa [eU,bk] using hk)
   ·have h4:=hp k h;rw [← h4];rcases Em (sel:=sel) (nk:=nk) (kh:=kh) (j:=pX t k) with h5|h5|h5
    ·simp [h5]
    ·simp [h5]
    ·rw [h5];simp
   ·simp only [List.cons_append,List.mem_cons,List.mem_append] at hk';rcases hk' with rfl|hk'|hk'
    ·rw [LB.mB.1 a8];rfl
    ·exact (a3 k hk').1
    ·rw [LB.mB.1 (a7 k hk')];rfl
 ·cases hq
end Go.Am
