/- Helpers: an abstract machine for Go functions, and walks of functions of the program. -/
import Derived.Test.YtanjfmmjpnjkbaaGreatDoorSn00
import Derived.OrdersIn
import Derived.LoopNIn
import Derived.RangeFuncCalls
import Derived.Lib.AppendStr
import Derived.Lib.UnsafeStr
import Derived.Lib.ConvBytes
import Derived.WideKeyRuns

set_option linter.all false
set_option maxHeartbeats 8000000
set_option maxRecDepth 100000
namespace Go.Am
variable {o:Oper}{f:FuncId}{x y:AV}{i id n κ m:Nat}{P:Program}{s s0 s':aB}{us:List (Key×LB)}{k kh:Key}{lv lv':Key->LB}{w:World}{Q:Exit->Act->World->Prop}{ops:Array Oper}{ν σ σ':List LB}{cl:Call}{fs cs args:List AV}{b own:Bool}{G:List (List DV)}{rds l sel nk ks:List Key}{a:Act}{F:Nat->Prop}{β:Key->Nat}{fn:Func}{fr:Nat->AV}{r:Option Nat}{L:Nat->Bool}{V:Vw}{v u:Value}{code:Code}{T:TypeId}{α:Type}{c:Ctx}{K:Act->World->Prop}
abbrev af8:=@List.foldl_append
abbrev aY:=@List.mem_cons
abbrev agt:=@List.idxOf?_eq_some_iff
abbrev aff:=@Nat.add_sub_cancel_left
abbrev agN:=@List.mem_append_left
abbrev ae7:=@List.mem_map
abbrev afR:=@List.flatMap_cons
abbrev afn:=@List.mem_flatMap
abbrev afo:=@List.mem_append
abbrev agu:=@List.mem_range
abbrev af9:=@Option.getD_some
abbrev agv:=@Array.getElem?_replicate
abbrev aef:=@List.length_cons
abbrev aga:=@List.getElem?_cons_zero
abbrev agw:=@List.range'_succ
abbrev afg:=@List.mem_of_getElem?
abbrev afx:=@List.all_cons
abbrev ag1:=@Array.getElem?_append_right
abbrev afC:=@Nat.mul_one
abbrev ad1:=@Nat.le_of_ble_eq_true
abbrev ae8:=@Nat.eq_of_beq_eq_true
theorem p9(lv:Key->LB)(p:Key×LB)(us:List (Key×LB)):bg lv (p::us)=bg (az lv p.1 p.2) us:=rfl
theorem EX(lv:Key->LB)(us vs:List (Key×LB)):bg lv (us++vs)=bg (bg lv us) vs:=by
 simp[bg,af8]
theorem de:∀{lv:Key->LB}{k:Key},k ∉ us.map (·.1)->bg lv us k=lv k:=by
 induction us with
 |nil=>intro lv k _;rfl
 |cons p us ih=>
  intro lv k h;simp only[adK,aY,not_or]at h;rw[p9,ih h.2,aE _ _ h.1]
theorem k9:∀{lv:Key->LB}{k:Key}{b:LB},(us.map (·.1)).Nodup->(k,b)∈us->bg lv us k=b:=by
 induction us with
 |nil=>simp
 |cons p us ih=>
  intro lv k b hn h;simp only[adK,List.nodup_cons]at hn;rw[p9];rcases List.mem_cons.1 h with rfl|h
  ·rw[de hn.1,aA]
  grind
section
variable {c:Ctx}{F:Nat->Prop}{β:Key->Nat}{s:aB}{a:Act}{w:World}
theorem aD.Kc:∀{Z:List (Key×TypeId×List CV)}{F:Nat->Prop}{lv:Key->LB},aD c F β ⟨fr,lv⟩ a w->(Z.map (·.1)).Nodup->(∀z∈Z,lv z.1=.cells true false z.2.1 z.2.2) ->
 ∃F',aD c F' β ⟨fr,bg lv (fM Z)⟩ a w/\∀b,F b->F' b
 |[],F,lv,h,_,_=>⟨F,h,λ_ hb=>hb⟩
 |z::Z,F,lv,h,hn,hz=>by
  simp only[adK,List.nodup_cons]at hn;have h1:=h.freeze (k:=z.1) (hz z (by simp))
  obtain⟨F',h2,h3⟩:=aD.Kc (Z:=Z) h1 hn.2 (λy hy=>by
   have hne:y.1≠z.1:=λe=>hn.1 (e▸List.mem_map_of_mem hy)
   rw[aE _ _ hne];grind)
  exact⟨F',h2,λb hb=>h3 b (.inl hb)⟩
theorem idxOf_getElem(hn:l.Nodup)(hi:i<l.length):l.idxOf? l[i]=some i:=by
 rw[agt];refine⟨hi,by simp,λj hj=>?_⟩
 have:l[j]'(by omega)≠l[i]:=λe=>by
  have:=List.pairwise_iff_getElem.1 hn j i (by omega) hi hj
  grind
 omega
theorem Ih(h:k ∉ l):l.idxOf? k=none:=by
 grind
theorem l8(h:k<1000):bL σ ν k=σ.getD k .hole:=by simp[bL,h]
theorem ua(h:¬k<1000):bL σ ν k=ν.getD (k-1000) .hole:=by simp[bL,h]
theorem dP{l:List α}{d:α}(h:i<l.length):l.getD i d=l[i]:=by
 grind
theorem gz{l:List α}{d:α}(h:¬i<l.length):l.getD i d=d:=by
 grind
theorem TZ(hn:(sel++nk).Nodup)
 (hl1:sel.length=σ.length) (hl2:σ'.length=σ.length) (hl3:nk.length=ν.length) (hb:σ.length<=1000)
 (hsel:∀i (h:i<sel.length) (h':i<σ.length),(lv sel[i]).as σ[i] (aQ sel nk kh)) (hnk:∀k∈nk,lv k=.hole) (hh:lv kh=.hole)
 (hpass:∀b∈σ,b.pass=true) (hnh:∀b,b∈σ++σ'++ν->b≠.hole) (hown:own=true->∀k∈sel,(lv k).LN=true) :
 wE ⟨fr,lv⟩ (aQ sel nk kh) (sW sel nk) (bL σ []) (bL σ' ν) own:=by
 have hns:sel.Nodup:=(List.nodup_append.1 hn).1;have hnn:nk.Nodup:=(List.nodup_append.1 hn).2.1;have hdis:∀x∈sel,∀y∈nk,x≠y:=(List.nodup_append.1 hn).2.2
 have hL:∀k:Nat,bL σ [] k≠.hole->k<1000/\k<σ.length:=by
  intro k hk
  by_cases h1:k<1000
  ·rw[l8 h1]at hk
   grind
  ·rw[ua h1]at hk;grind
 refine⟨?_,?_,?_,?_,?_,?_⟩
 ·intro k;change Nat at k
  by_cases hk:bL σ [] k=.hole
  ·rw[hk];rfl
  ·obtain⟨h1,h2⟩:=hL k hk;rw[l8 h1,dP h2]
   grind
 ·intro k;change Nat at k
  by_cases h1:k<1000
  ·by_cases h2:k<σ.length
   ·have h3:aQ sel nk kh k=sel[k]'(by omega):=by simp only[aQ,if_pos h1];exact dP (by omega)
    rw[l8 h1,dP h2]
    grind
   ·have h3:aQ sel nk kh k=kh:=by simp only[aQ,if_pos h1];exact gz (by omega)
    rw[l8 h1,gz h2];show lv (aQ sel nk kh k)=.hole
    grind
  ·rw[ua h1];show(lv (aQ sel nk kh k)).as (List.getD [] (k-1000) .hole) _;have h4:List.getD ([]:List LB) (k-1000) .hole=.hole:=by simp
   rw[h4];show lv (aQ sel nk kh k)=.hole
   by_cases h2:k-1000<nk.length
   ·have h3:aQ sel nk kh k=nk[k-1000]:=by simp only[aQ,if_neg h1];exact dP h2
    grind
   ·have h3:aQ sel nk kh k=kh:=by simp only[aQ,if_neg h1];exact gz h2
    grind
 ·intro k' k h;change Nat at k;unfold sW at h;split at h
  ·rename_i j hj
   simp only[ah]at h;subst h;rw[agt]at hj;obtain⟨hlt,he,_⟩:=hj;have h1:j<1000:=by omega
   refine⟨?_,?_⟩
   ·simp only[aQ,if_pos h1];grind
   ·rw[l8 h1,dP (by omega)]
    grind
  ·split at h
   ·rename_i j hj
    simp only[ah]at h;subst h;rw[agt]at hj;obtain⟨hlt,he,_⟩:=hj;have h1:¬1000+j<1000:=by omega
    refine⟨?_,?_⟩
    ·simp only[aQ,if_neg h1,aff];grind
    ·rw[ua h1,aff,dP (by omega)]
     grind
   grind
 ·intro k hk;change Nat at k
  by_cases h1:k<1000
  ·rw[l8 h1]at hk
   have h2:k<σ'.length:=by
    rcases Nat.lt_or_ge k σ'.length with h|h
    ·exact h
    ·rw[gz (by omega)]at hk;exact absurd rfl hk
   have h3:aQ sel nk kh k=sel[k]'(by omega):=by simp only[aQ,if_pos h1];exact dP (by omega)
   rw[h3];unfold sW;rw[idxOf_getElem hns (by omega)]
  ·obtain⟨m,rfl⟩:∃m:Nat,k=1000+m:=⟨k-1000,by omega⟩
   rw[ua h1,aff]at hk
   have h2:m<ν.length:=by
    rcases Nat.lt_or_ge m ν.length with h|h
    ·exact h
    ·rw[gz (by omega)]at hk;exact absurd rfl hk
   have h4:m<nk.length:=by omega
   have h3:aQ sel nk kh (1000+m)=nk[m]'h4:=by
    unfold aQ;rw[if_neg h1,aff];exact dP h4
   rw[h3];unfold sW;rw[Ih (λhm=>hdis _ hm _ (aT h4) rfl),idxOf_getElem hnn h4]
 ·intro k hk;change Nat at k;obtain⟨h1,h2⟩:=hL k hk;rw[l8 h1,dP (by omega)]
  grind
 ·intro ho k hk;change Nat at k;obtain⟨h1,h2⟩:=hL k (ji hk);have h3:aQ sel nk kh k=sel[k]'(by omega):=by simp only[aQ,if_pos h1];exact dP (by omega)
  grind
theorem lF(g:Key->Key)(own:Bool):∀(ks:List Key) (bs:List LB),ks.length=bs.length->(cF g own ks bs).map (·.1)=ks
 |[],[],_=>rfl
 |k::ks,b::bs,h=>by
  have:=lF g own ks bs (by grind);simp only[cF,List.zipWith_cons_cons,adK]at this ⊢;rw[this]
 |[],_::_,h=>by simp at h
 |_::_,[],h=>by simp at h
theorem AP(g:Key->Key)(own:Bool){bs:List LB}(h:i<ks.length)(h':i<bs.length):(ks[i],(bs[i].bY g).fix own)∈cF g own ks bs:=by
 unfold cF;rw[List.mem_iff_getElem]
 grind
theorem HB(hn:(sel++nk).Nodup)
 (hl2:sel.length=σ'.length) (hl3:nk.length=ν.length) (hb:σ'.length<=1000) :
 fQ ⟨fr,lv⟩ (aQ sel nk kh) (sW sel nk) (bL σ' ν) own=bg lv (cF (aQ sel nk kh) own sel σ'++cF (aQ sel nk kh) own nk ν):=by
 funext k'
 have hkeys:(cF (aQ sel nk kh) own sel σ'++cF (aQ sel nk kh) own nk ν).map (·.1)=sel++nk:=by
  rw[aeR,lF _ _ _ _ hl2,lF _ _ _ _ hl3]
 unfold fQ sW
 cases h1:sel.idxOf? k' with
 |some j=>
  rw[agt]at h1;obtain⟨hlt,he,_⟩:=h1;have he:sel[j]=k':=by simpa using he
  subst he;simp only;rw[k9 (by grind) (agN _ (AP _ own hlt (by omega)))];have hlt':j<σ'.length:=by omega
  have hlt2:(show Nat from j)<1000:=by show j<1000;omega
  rw[l8 hlt2,dP hlt']
 |none=>
  have h1':k' ∉ sel:=by rwa[List.idxOf?_eq_none_iff]at h1
  simp only
  cases h2:nk.idxOf? k' with
  |some j=>
   rw[agt]at h2;obtain⟨hlt,he,_⟩:=h2;have he:nk[j]=k':=by simpa using he
   subst he;simp only;rw[k9 (by grind) (List.mem_append_right _ (AP _ own hlt (by omega)))];have hlt':j<ν.length:=by omega
   have hlt2:¬(show Nat from 1000+j)<1000:=by show ¬1000+j<1000;omega
   rw[ua hlt2,aff,dP hlt']
  |none=>
   have h2':k' ∉ nk:=by rwa[List.idxOf?_eq_none_iff]at h2
   simp only;rw[de (by rw[hkeys];simp[h1',h2'])]
theorem m7(Z:List (Key×TypeId×List CV)):(fM Z).map (·.1)=Z.map (·.1):=by simp[fM]
theorem b7.UF(hd:∀d,o.dst=some d->d<c.n)(ho:o.op=.call cl)(ht:nR c.P (s.val c.G) cl.callee=some (f,fs,cs))(hf:aJ c.P f=true)(he:b7 c f (fs++cl.args.toList.map (s.val c.G)++cs) s.lv x us rds):
 bT c o s (aB.put ⟨s.fr,bg s.lv us⟩ o.dst x):=by
 cases he with
 |flat us' ks rds x ha hc hx hr=>exact b7.OW hd ho ht hf ha hc hx
 |gen us Z sel nk kh σ σ' ν x own rds hZ hZn hn hZs hkh hkZ hl1 hl2 hl3 hb hsel hnk hh hpass hnh hown hlen hargs hrd hrh hc=>
  intro F β a w K Q h hK;refine Jd h ho ht hf λvs hl hv=>?_;obtain⟨F1,h1,hF1⟩:=aD.Kc (Z:=Z) (lv:=s.lv) h hZn hZ
  have hsame:∀k,(∀z∈Z,z.1≠k)->bg s.lv (fM Z) k=s.lv k:=λk hk=>de (by
   rw[m7];intro hm;obtain⟨z,hz,e⟩:=List.mem_map.1 hm;exact hk z hz e)
  have hB:wE ⟨s.fr,bg s.lv (fM Z)⟩ (aQ sel nk kh) (sW sel nk) (bL σ []) (bL σ' ν) own:=by
   refine TZ hn hl1 hl2 hl3 hb (λi p q=>?_) (λk hk=>?_) ?_ hpass hnh (λho k hk=>?_)
   ·rw[hsame _ (λz hz e=>hZs z hz (by rw[e];simp[aT]))];exact hsel i p q
   ·rw[hsame _ (λz hz e=>hZs z hz (by rw[e];simp[hk]))];exact hnk k hk
   ·rw[hsame _ hkZ];exact hh
   ·rw[hsame _ (λz hz e=>hZs z hz (by rw[e];simp[hk]))];exact hown ho k hk
  have hR:=hB.bY (F:=F1) (β:=β) (w:=w)
  have hK1:∀v x,(Vw.mk F β s.lv w).av v x->(Vw.mk F1 β (bg s.lv (fM Z)) w).av v x:=by
   intro v x hv;refine(Vw.jl (V:=Vw.mk F β s.lv w) (V':=Vw.mk F1 β (bg s.lv (fM Z)) w) hF1 (λ_ _=>rfl) (λk=>?_) (λ_ _ _=>rfl) (λ_=>bh _)).av hv;show(s.lv k).sub (bg s.lv (fM Z) k)
   by_cases hk:k∈Z.map (·.1)
   ·obtain⟨z,hz,rfl⟩:=List.mem_map.1 hk;rw[hZ z hz,k9 (b:=.cells true true z.2.1 z.2.2) (by rw[m7];exact hZn) (by simp only[fM,ae7];exact⟨z,hz,rfl⟩)];simp[LB.sub]
   ·rw[de (by rw[m7];exact hk)];exact LB.bE _
  refine(hc F1 (λk=>β (aQ sel nk kh k)) w vs (h1.enter hB) (by omega) (λi p q=>?_)).mono λe w' he=>?_
  ·have DE:=hK1 _ _ (hv i (by omega) q);rcases hargs i (by omega) p with⟨g1,g2⟩|⟨ks,g1,g2⟩
   ·rw[g2]at DE;exact hR.av g1 DE
   ·exact h1.uD.eZ (λ_ hb=>hb) g1 (λk hk=>by
     obtain⟨own',T,cs',e⟩:=g2 k hk;have hb:=h1.bK k;unfold Vw.bK at hb;simp only[e]at hb;obtain⟨arr,p1,p2,p3,p4,p5⟩:=hb;exact p4) DE
  ·obtain⟨v,F',β',rfl,hS',hav⟩:=he;have hbk:=h1.back hB hS';have hup:=(hB.up (β:=β) F' β' w').av hav;rw[HB hn (by omega) hl3 (by omega)]at hbk hup;rw[<-EX,<-adX]at hbk hup;exact⟨v,rfl,hK _ _ _ _ (hbk.CS hd hup)⟩
end
theorem lW{f g:CV->Option (DV×List Key)}:∀{cs:List CV},(∀x∈cs,f x=g x)->iY f cs=iY g cs
 |[],_=>rfl
 |x::r,h=>by simp only[iY,h x (by simp),lW (cs:=r) (λy hy=>h y (by simp[hy]))]
theorem je{α β:Type}{f g:α->List β}:∀{l:List α},(∀x∈l,f x=g x)->l.flatMap f=l.flatMap g
 |[],_=>rfl
 |x::r,h=>by simp only[afR,h x (by simp),je (l:=r) (λy hy=>h y (by simp[hy]))]
theorem nH{lv lv':Key->LB}:∀(n:Nat) (x:CV),(∀k∈jb lv n x,lv' k=lv k)->gu lv' n x=gu lv n x/\jb lv' n x=jb lv n x
 |n+1,.ptr k off,h=>by
  have h1:lv' k=lv k:=h k (by simp[jb]);simp only[gu,jb,h1]
  cases e:lv k with
  |cells own fz T cs=>
   have ih:∀x∈cs,gu lv' n x=gu lv n x/\jb lv' n x=jb lv n x:=λx hx=>nH n x λk' hk'=>h k' (by
    simp only[jb,e,aY,afn];grind)
   simp only;refine⟨?_,?_⟩
   ·rw[lW (λx hx=>(ih x (afv hx)).1)]
   ·congr 1;exact je λx hx=>(ih x hx).2
  |_=>simp
 |n+1,.aH k off len sz,h=>by
  have h1:lv' k=lv k:=h k (by simp[jb]);simp only[gu,jb,h1]
  cases e:lv k with
  |cells own fz T cs=>
   have ih:∀x∈cs,gu lv' n x=gu lv n x/\jb lv' n x=jb lv n x:=λx hx=>nH n x λk' hk'=>h k' (by
    simp only[jb,e,aY,afn];grind)
   simp only;refine⟨?_,?_⟩
   ·rw[lW (λx hx=>(ih x (afv (afK hx))).1)]
   ·congr 1;exact je λx hx=>(ih x hx).2
  |_=>simp
 |n,.d x,_=>by cases n<;>exact⟨rfl,rfl⟩
 |0,.ptr ..,_=>⟨rfl,rfl⟩
 |0,.aH ..,_=>⟨rfl,rfl⟩
 |n,.mapr _,_=>by cases n<;>exact⟨rfl,rfl⟩
 |n,.lsf ..,_=>by cases n<;>exact⟨rfl,rfl⟩
 |n,.func ..,_=>by cases n<;>exact⟨rfl,rfl⟩
 |n,.ifc ..,_=>by cases n<;>exact⟨rfl,rfl⟩
 |n,.junk,_=>by cases n<;>exact⟨rfl,rfl⟩
theorem qq{f:CV->Option (DV×List Key)}{g:CV->List Key}:∀{cs:List CV}{l:List DV}{ks:List Key},(∀x∈cs,∀d ks,f x=some (d,ks)->∀k∈ks,k∈g x)->iY f cs=some (l,ks)->∀k∈ks,k∈cs.flatMap g
 |[],l,ks,_,h=>by simp only[iY,ah,M1]at h;grind
 |x::r,l,ks,hf,h=>by
  simp only[iY]at h;split at h
  ·rename_i d k l' ks' h1 h2
   simp only[ah,M1]at h;obtain⟨rfl,rfl⟩:=h;intro y hy;simp only[afR,afo];rcases List.mem_append.1 hy with h|h
   ·grind
   ·exact .inr (qq (λx hx=>hf x (by simp[hx])) h2 y h)
  grind
theorem tc{lv:Key->LB}:∀(n:Nat) (x:CV) (d:DV) (ks:List Key),gu lv n x=some (d,ks)->∀k∈ks,k∈jb lv n x
 |n,.d x,d,ks,h=>by simp only[gu,ah,M1]at h;grind
 |n+1,.ptr k off,d,ks,h=>by
  simp only[gu]at h;simp only[jb];split at h
  ·rename_i own fz T cs e
   split at h
   ·rw[aek]at h;obtain⟨⟨l,ks'⟩,ht,he⟩:=h;simp only[M1]at he;obtain⟨rfl,rfl⟩:=he;intro y hy;rcases List.mem_cons.1 hy with rfl|hy
    ·simp
    ·have:=qq (g:=jb lv n) (λx _ d ks hx=>tc n x d ks hx) ht y hy
     grind
   grind
  grind
 |n+1,.aH k off len sz,d,ks,h=>by
  simp only[gu]at h;simp only[jb];split at h
  ·rename_i own fz T cs e
   split at h
   ·rw[aek]at h;obtain⟨⟨l,ks'⟩,ht,he⟩:=h;simp only[M1]at he;obtain⟨rfl,rfl⟩:=he;intro y hy;rcases List.mem_cons.1 hy with rfl|hy
    ·simp
    ·have:=qq (g:=jb lv n) (λx _ d ks hx=>tc n x d ks hx) ht y hy
     grind
   grind
  ·grind
  grind
 |0,.ptr ..,_,_,h=>by cases h
 |0,.aH ..,_,_,h=>by cases h
 |n,.mapr _,_,_,h=>by cases n<;>cases h
 |n,.lsf ..,_,_,h=>by cases n<;>cases h
 |n,.func ..,_,_,h=>by cases n<;>cases h
 |n,.ifc ..,_,_,h=>by cases n<;>cases h
 |n,.junk,_,_,h=>by cases n<;>cases h
theorem nF(h:∀k∈wm lv x,lv' k=lv k):eZ lv' x=eZ lv x/\wm lv' x=wm lv x:=by
 cases x with
 |c x=>obtain⟨h1,h2⟩:=nH 8 x h;exact⟨by simp only[eZ,h1],h2⟩
 |agg cs=>
  have ih:∀x∈cs,gu lv' 8 x=gu lv 8 x/\jb lv' 8 x=jb lv 8 x:=λx hx=>nH 8 x λk hk=>h k (List.mem_flatMap.2 ⟨x,hx,hk⟩)
  exact⟨by simp only[eZ,lW (λx hx=>(ih x hx).1)],je λx hx=>(ih x hx).2⟩
 |tup l=>exact⟨rfl,rfl⟩
 |undef=>exact⟨rfl,rfl⟩
 |junk=>exact⟨rfl,rfl⟩
theorem NN(h:eZ lv x=some (y,ks)):∀k∈ks,k∈wm lv x:=by
 cases x with
 |c x=>
  simp only[eZ,aek]at h;obtain⟨⟨d,ks'⟩,ht,he⟩:=h;simp only[M1]at he;obtain⟨rfl,rfl⟩:=he;exact tc _ _ _ _ ht
 |agg cs=>
  simp only[eZ,aek]at h;obtain⟨⟨d,ks'⟩,ht,he⟩:=h;simp only[M1]at he;obtain⟨rfl,rfl⟩:=he;exact qq (λx _ d ks hx=>tc 8 x d ks hx) ht
 |tup l=>cases h
 |undef=>cases h
 |junk=>cases h
theorem vX{lv lv':Key->LB}:∀{xs:List AV},(∀a∈xs,∀k∈wm lv a,lv' k=lv k)->j9 lv' xs=j9 lv xs
 |[],_=>rfl
 |x::r,h=>by simp only[j9,(nF (h x (by simp))).1,vX (xs:=r) (λa ha=>h a (by simp[ha]))]
theorem b7.local{xs:List AV}(h:b7 c f xs lv x us rds)(ha:Agree lv lv' us rds):b7 c f xs lv' x us rds:=by
 obtain⟨ha1,ha2⟩:=ha
 cases h with
 |flat us' ks rds x hd hc hx hr=>
  have hl:∀a∈xs,∀k∈wm lv a,lv' k=lv k:=λa h k hk=>ha1 k (hr a h k hk)
  exact .flat us' ks rds x (by rw[vX hl];exact hd) hc hx (λa h k hk=>hr a h k (by rw[(nF (hl a h)).2]at hk;exact hk))
 |gen us Z sel nk kh σ σ' ν x own rds hZ hZn hn hZs hkh hkZ hl1 hl2 hl3 hb hsel hnk hh hpass hnh hown hlen hargs hrd hrh hc=>
  have hkeysZ:∀z∈Z,lv' z.1=lv z.1:=λz hz=>ha2 (z.1,.cells true true z.2.1 z.2.2) (by
   refine agN _ (agN _ ?_);simp only[fM,ae7];grind)
  have hks:∀i (h:i<sel.length),lv' sel[i]=lv sel[i]:=λi h=>by
   have hm:sel[i]∈(cF (aQ sel nk kh) own sel σ').map (·.1):=by rw[lF _ _ _ _ (by omega)];exact aT h
   obtain⟨p,hp,e⟩:=List.mem_map.1 hm
   grind
  have hkn:∀k∈nk,lv' k=lv k:=λk hk=>by
   have hm:k∈(cF (aQ sel nk kh) own nk ν).map (·.1):=by rw[lF _ _ _ _ (by omega)];exact hk
   obtain⟨p,hp,e⟩:=List.mem_map.1 hm
   grind
  have hfr:∀k,(k∈rds\/k∈Z.map (·.1))->bg lv' (fM Z) k=bg lv (fM Z) k:=by
   intro k hk
   by_cases hz:k∈(fM Z).map (·.1)
   ·obtain⟨p,hp,e⟩:=List.mem_map.1 hz;have hn':((fM Z).map (·.1)).Nodup:=by rw[m7];exact hZn
    obtain⟨k',b⟩:=p;simp only at e;subst e;rw[k9 hn' hp,k9 hn' hp]
   ·rw[de hz,de hz]
    grind
  have hla:∀a∈xs,∀k∈wm (bg lv (fM Z)) a,bg lv' (fM Z) k=bg lv (fM Z) k:=λa h k hk=>hfr k (hrd a h k hk)
  refine .gen us Z sel nk kh σ σ' ν x own rds (λz hz=>by grind) hZn hn hZs hkh hkZ hl1 hl2 hl3 hb (λi p q=>by grind)
   (λk hk=>by grind) (by grind) hpass hnh (λho k hk=>?_) hlen (λi p q=>?_) (λa h k hk=>?_) hrh hc
  ·obtain⟨i,hi,rfl⟩:=List.mem_iff_getElem.1 hk
   grind
  ·rcases hargs i p q with⟨g1,g2⟩|⟨ks,g1,g2⟩
   ·exact .inl ⟨g1,g2⟩
   ·refine .inr ⟨ks,by rw[(nF (hla _ (aT p))).1];exact g1,λk hk=>?_⟩;rw[hla _ (aT p) k (NN g1 k hk)]
    grind
  ·rw[(nF (hla a h)).2]at hk
   grind
def sX(r:Option Nat):Fence:={ Fence.wide with round:=r }
theorem ER{args:Array Value}{R:Ending->World->Prop}(h:Calls P f args w R):CallsIn (sX r) n P f args w R:=
 (callsIn_wide (n:=n)).2 h
theorem Ht{row:String}{args:Array Value}{R:Value->World->Prop}(h:Rows P row args w R):RowsIn (sX r) n P row args w R:=
 λc cs _=>let ⟨v,w',hr,hs⟩:=h c cs;⟨v,w',hr,stepsIn_wide.2 hs⟩
theorem oK(hd:∀c,o.op≠.defer c)(h:o.wp P a w K Q):
 o.wpIn (sX r) n P a w K Q:=by
 refine⟨λ_ _=>trivial,?_⟩;rw[Oper.semAt_eq _ _ _ hd];unfold Oper.wp at h;generalize (execOp a.eval o).run P w=res at *
 have hdep:∀m:Nat,(sX r).depth.isSome=true->1<=m:=λm h=>by simp[sX,Fence.wide]at h
 cases res with
 |ok x w'=>
  cases x<;>simp only[Oper.upon]at h<;>simp only[Oper.uponIn]<;>first|exact h|exact⟨hdep _,ER h⟩|exact⟨hdep _,Ht h⟩|exact h.elim
 |halt x w'=>cases x<;>simp only[Oper.upon]at h<;>simp only[Oper.uponIn]<;>first|exact h|exact h.elim
def dN(ops:Array Oper)(g:Option (Nat×Bool))(fr:Nat->AV):Option Bool:=
 match g with
 |none=>some true
 |some (j,want)=>match (ops[j]?).bind (·.dst)with
  |some d=>match fr d with
   |.c (.d (.bool b))=>some (b == want)
   |.undef=>some false
   |_=>none
  |none=>none
section
variable {c:Ctx}{F:Nat->Prop}{β:Key->Nat}{s:aB}{a:Act}{w:World}{ops:Array Oper}
theorem fI(h:aD c F β s a w)(hw:dN ops o.guard s.fr=some b):Region.wanted o (yielded ops a.tmps)=b:=by
 unfold dN at hw;unfold Region.wanted;split at hw
 ·grind
 ·rename_i j want hg
  rw[hg];simp only;split at hw
  ·rename_i d hd
   have hv:=h.fr d;unfold yielded;rw[hd];simp only[Option.bind_some];split at hw
   ·rename_i b' hb
    rw[hb]at hv;have hv':=Vw.sw hv;simp only[ah]at hw;subst hw
    have hq:a.tmps[d]?=some (.bool b'):=by
     cases e:a.tmps[d]? with
     |none=>rw[ae3,e]at hv';cases hv'
     |some v=>simp_all
    grind
   ·rename_i hb
    rw[hb]at hv;simp only[ah]at hw;subst hw;have hv':a.tmps.getD d undef=undef:=hv
    cases e:a.tmps[d]? with
    |none=>rfl
    |some v=>
     rw[ae3,e]at hv';simp at hv';subst hv';rfl
   grind
  grind
end
structure Fx where
 x:AV
 us:List (Key×LB)
 rds:List Key
variable {e e':Fx}{es:List Fx}
def Fx.app(e:Fx)(dst:Option Nat)(s:aB):aB:=aB.put ⟨s.fr,bg s.lv e.us⟩ dst e.x
def cY(c:Ctx)(r:Option Nat)(ops:Array Oper)(o:Oper)(s0:aB)(e:Fx):Prop:=
 ∀s:aB,(∀t∈o.looksAt ops,s.fr t=s0.fr t)->Agree s0.lv s.lv e.us e.rds ->
  ∀F β a w K Q,aD c F β s a w->(∀F' β' a' w',aD c F' β' (e.app o.dst s) a' w'->K a' w') ->
   if Region.wanted o (yielded ops a.tmps)then o.wpIn (sX r) 0 c.P a w K Q else K (a.put o.dst undef) w
theorem val_congr{x:Operand}(h:∀t,x=.tmp t->s.fr t=s0.fr t):s.val G x=s0.val G x:=by
 cases x with
 |tmp t=>exact h t rfl
 |_=>rfl
theorem yz(h:∀t∈o.looksAt ops,s.fr t=s0.fr t):∀x∈o.op.operands.toList,s.val G x=s0.val G x:=by
 intro x hx;refine val_congr λt ht=>h t ?_;subst ht;exact agN _ (List.mem_filterMap.2 ⟨.tmp t,hx,rfl⟩)
theorem oa(h:∀t∈o.looksAt ops,s.fr t=s0.fr t):dN ops o.guard s.fr=dN ops o.guard s0.fr:=by
 unfold dN
 cases hg:o.guard with
 |none=>rfl
 |some p=>
  obtain⟨j,want⟩:=p;simp only
  cases hd:(ops[j]?).bind (·.dst)with
  |none=>rfl
  |some d=>
   simp only;rw[h d (List.mem_append_right _ (by rw[hg];simp[hd]))]
section
variable {c:Ctx}{r:Option Nat}{ops:Array Oper}{o:Oper}{s0:aB}
theorem cY.skip(hd:∀d,o.dst=some d->d<c.n)(hw:dN ops o.guard s0.fr=some false):cY c r ops o s0 ⟨.undef,[],[]⟩:=by
 intro s h1 _ F β a w K Q h hK;rw[fI h ((oa h1).trans hw)];simp only[aeF,if_false];exact hK F β _ _ (h.CS hd (nX _))
theorem cY.mE(hw:dN ops o.guard s0.fr=some true)(hdf:∀cl,o.op≠.defer cl)
 (hs:∀s:aB,(∀x∈o.op.operands.toList,s.val c.G x=s0.val c.G x)->Agree s0.lv s.lv e.us e.rds->bT c o s (e.app o.dst s)):cY c r ops o s0 e:=by
 intro s h1 h2 F β a w K Q h hK;rw[fI h ((oa h1).trans hw)];simp only[if_true];exact oK hdf (hs s (yz h1) h2 F β a w K Q h hK)
theorem cY.plain{κ:Key}{vc:Prop}(hd:∀d,o.dst=some d->d<c.n)(hw:dN ops o.guard s0.fr=some true)
 (h:dA c.P o.op (o.op.operands.toList.map (s0.val c.G)) s0.lv κ=some (x,us,rds,vc)) (hvc:vc):cY c r ops o s0 ⟨x,us,rds⟩:=by
 refine cY.mE hw (λcl hcl=>?_) (λs h1 h2=>?_)
 ·rw[hcl]at h;simp[dA]at h
 ·have hl:=oZ h (show Agree s0.lv s.lv us rds from h2);exact Bv hd rfl (aes h1) hl hvc
end
theorem xV:∀{f g:Key->LB}{k:Key},k∈us.map (·.1)->bg f us k=bg g us k:=by
 induction us with
 |nil=>simp
 |cons p us ih=>
  intro f g k h;rw[p9,p9]
  by_cases hk:k∈us.map (·.1)
  ·exact ih hk
  ·rw[de hk,de hk];simp only[adK,aY]at h;rcases h with h|h
   ·rw[h,aA,aA]
   grind
theorem pN(e:Fx)(dst:Option Nat)(s:aB)(t:Nat):(e.app dst s).fr t=if dst=some t then e.x else s.fr t:=by
 cases dst with
 |none=>rfl
 |some d=>
  simp only[Fx.app,aB.put,ah]
  by_cases h:d=t
  ·subst h;rfl
  ·rw[aE _ _ (λe=>h e.symm)];simp[h]
theorem zm(e:Fx)(dst:Option Nat)(s:aB):(e.app dst s).lv=bg s.lv e.us:=by
 cases dst<;>rfl
def b8(ops:Array Oper)(es:List Fx)(s0:aB)(L:Nat->Bool):Nat->aB
 |0=>s0
 |m+1=>match ops[m]?,es[m]? with
  |some o,some e=>if L m then e.app o.dst (b8 ops es s0 L m)else b8 ops es s0 L m
  |_,_=>b8 ops es s0 L m
inductive Ae(ops:Array Oper):Nat->Nat->Prop where
 |one {i j:Nat}{o:Oper}{ed:Edge}(ho:ops[j]?=some o) (he:ed∈o.after) (hb:Region.binds .any ed=true) (hi:ed.on=i):Ae ops i j
 |more {i j:Nat}{o:Oper}{ed:Edge}(ho:ops[j]?=some o) (he:ed∈o.after) (hb:Region.binds .any ed=true) (hi:Ae ops i ed.on):Ae ops i j
section
variable {ops:Array Oper}{es:List Fx}{s0:aB}{L:Nat->Bool}
theorem jJ{L L':Nat->Bool}:∀{m:Nat},(∀j,j<m->L j=L' j)->b8 ops es s0 L m=b8 ops es s0 L' m
 |0,_=>rfl
 |m+1,h=>by
  have ih:=jJ (m:=m) (λj hj=>h j (by omega));simp only[b8,ih,h m (by omega)]
theorem Kj{i t:Nat}(h:∀j o,ops[j]?=some o->o.dst=some t->(j<i↔L j=true)):∀m,(b8 ops es s0 L m).fr t=(b8 ops es s0 (λ_=>true) (min m i)).fr t
 |0=>by simp[b8]
 |m+1=>by
  have ih:=Kj h m
  by_cases hm:m<i
  ·have e1:min (m+1) i=min m i+1:=by omega
   have e2:min m i=m:=by omega
   rw[e1,e2];rw[e2]at ih;simp only[b8]
   cases ho:ops[m]? with
   |none=>exact ih
   |some o=>
    cases he:es[m]? with
    |none=>exact ih
    |some e=>
     simp only[if_true]
     by_cases hd:o.dst=some t
     ·rw[(h m o ho hd).1 hm];simp only[if_true,pN,hd]
     ·by_cases hL:L m=true
      ·simp only[hL,if_true,pN,hd,if_false];exact ih
      ·simp only[hL,pN,hd,if_false];exact ih
  ·have e1:min (m+1) i=min m i:=by omega
   rw[e1,<-ih];simp only[b8]
   cases ho:ops[m]? with
   |none=>rfl
   |some o=>
    cases he:es[m]? with
    |none=>rfl
    |some e=>
     simp only
     by_cases hL:L m=true
     ·have hd:o.dst≠some t:=λhd=>hm ((h m o ho hd).2 hL)
      simp only[hL,if_true,pN,hd,if_false]
     grind
theorem DH{t:Nat}(ho:ops[i]?=some o)(he:es[i]?=some e)(hi:i<n)(hL:L i=false)
 (hlt:∀j o',i<j->ops[j]?=some o'->L j=true->o.dst=some t->o'.dst≠some t) :
 (e.app o.dst (b8 ops es s0 L n)).fr t=(b8 ops es s0 (λj=>L j ||j == i) n).fr t:=by
 have below:∀m,m<=i->b8 ops es s0 (λj=>L j ||j == i) m=b8 ops es s0 L m:=λm hm=>
  jJ fun j hj=>by have:(j == i)=false:=by simp;omega
                  grind
 have h1:∀m,i<m->(e.app o.dst (b8 ops es s0 L m)).fr t=(b8 ops es s0 (λj=>L j ||j == i) m).fr t:=by
  intro m
  induction m with
  |zero=>simp
  |succ m ih=>
   intro hm
   by_cases hmi:m=i
   ·subst hmi;simp only[b8,ho,he,hL,aeF,if_false,beq_self_eq_true,Bool.or_true,if_true]
    grind
   ·have ih:=ih (by omega);have hne:(m == i)=false:=by simpa using hmi
    simp only[b8]
    cases ho':ops[m]? with
    |none=>exact ih
    |some o'=>
     cases he':es[m]? with
     |none=>exact ih
     |some e'=>
      simp only[hne,Bool.or_false]
      by_cases hLm:L m=true
      ·simp only[hLm,if_true];rw[pN,pN,pN];rw[pN]at ih
       grind
      grind
 grind
theorem Gt(ho:ops[i]?=some o)(he:es[i]?=some e)(hi:i<n)(hL:L i=false)
 (hlt:∀(j:Nat) e',i<j->es[j]?=some e'->L j=true->k∈e.us.map (·.1)->k ∉ e'.us.map (·.1)) :
 (e.app o.dst (b8 ops es s0 L n)).lv k=(b8 ops es s0 (λj=>L j ||j == i) n).lv k:=by
 have below:∀m,m<=i->b8 ops es s0 (λj=>L j ||j == i) m=b8 ops es s0 L m:=λm hm=>
  jJ fun j hj=>by have:(j == i)=false:=by simp;omega
                  grind
 have h1:∀m,i<m->(e.app o.dst (b8 ops es s0 L m)).lv k=(b8 ops es s0 (λj=>L j ||j == i) m).lv k:=by
  intro m
  induction m with
  |zero=>simp
  |succ m ih=>
   intro hm
   by_cases hmi:m=i
   ·subst hmi;simp only[b8,ho,he,hL,aeF,if_false,beq_self_eq_true,Bool.or_true,if_true]
    grind
   ·have ih:=ih (by omega);have hne:(m == i)=false:=by simpa using hmi
    simp only[b8]
    cases ho':ops[m]? with
    |none=>exact ih
    |some o'=>
     cases he':es[m]? with
     |none=>exact ih
     |some e'=>
      simp only[hne,Bool.or_false]
      by_cases hLm:L m=true
      ·simp only[hLm,if_true];rw[zm,zm,zm];rw[zm]at ih
       by_cases hd:k∈e.us.map (·.1)
       ·have hd':=hlt m e' (by omega) he' hLm hd;rw[de hd',<-ih];exact xV hd
       ·rw[de hd];rw[de hd]at ih
        by_cases hd':k∈e'.us.map (·.1)
        ·exact xV hd'
        ·rw[de hd',de hd'];exact ih
      grind
 grind
end
def Zn(ops:Array Oper)(o o':Oper)(e e':Fx):Prop:=
 o.apart ops o'=true/\(∀k∈e.us.map (·.1),k ∉ e'.us.map (·.1)/\k ∉ e'.rds)/\∀k∈e'.us.map (·.1),k ∉ e.rds
def cnt(p:Nat->Bool):Nat->Nat
 |0=>0
 |n+1=>cnt p n+(if p n then 1 else 0)
theorem uX{p q:Nat->Bool}:∀{n:Nat},(∀i,i<n->p i=q i)->cnt p n=cnt q n
 |0,_=>rfl
 |n+1,h=>by simp only[cnt,uX (n:=n) (λi hi=>h i (by omega)),h n (by omega)]
theorem Jz{p:Nat->Bool}{i:Nat}(h:p i=false):∀{n:Nat},i<n->cnt (λj=>p j ||j == i) n=cnt p n+1
 |0,hi=>absurd hi (by omega)
 |n+1,hi=>by
  by_cases e:n=i
  ·subst e
   have h0:∀j,j<n->(p j ||j == n)=p j:=λj hj=>by
    have h1:(j == n)=false:=by simp;omega
    simp[h1]
   have:=uX h0;simp only[cnt,this,h];simp
  ·have hne:(n == i)=false:=by simpa using e
   simp only[cnt,Jz h (n:=n) (by omega),hne,Bool.or_false];omega
theorem QM(p:Nat->Bool):∀n,cnt p n<=n
 |0=>bh _
 |n+1=>by have:=QM p n;simp only[cnt];grind
theorem Kt{p:Nat->Bool}:∀{n:Nat},n<=cnt p n->∀i,i<n->p i=true
 |0,_,i,hi=>absurd hi (by omega)
 |n+1,h,i,hi=>by
  have h1:=QM p n;simp only[cnt]at h
  by_cases hp:p n=true
  ·rw[if_pos hp]at h
   by_cases e:i=n
   ·grind
   ·exact Kt (n:=n) (by omega) i (by omega)
  grind
theorem mem_ready{listed:Array Bool}:i∈Region.ready .any ops listed ↔
 i<ops.size/\listed.getD i true=false/\∃o,ops[i]?=some o/\∀ed∈o.after,Region.binds .any ed=true->listed.getD ed.on false=true:=by
 unfold Region.ready;simp only[List.mem_filter,agu,rP,aee];refine and_congr_right λhi=>and_congr_right λ_=>?_;have ho:ops[i]?=some ops[i]:=afd hi;rw[ho];simp only[aeJ,af9,Array.all_eq_true',aeV,aee,ah,exists_eq_left']
 grind
def VL(ops:Array Oper)(o o':Oper)(e e':Fx):Prop:=
 o.apart ops o'=true/\∀k∈e.us.map (·.1),k ∉ e'.us.map (·.1)
def nL(c:Ctx)(r:Option Nat)(ops:Array Oper)(o:Oper)(s0:aB)(e:Fx)(ok:(Key->LB)->Prop):Prop:=
 ∀s:aB,(∀t∈o.looksAt ops,s.fr t=s0.fr t)->ok s.lv ->
  ∀F β a w K Q,aD c F β s a w->(∀F' β' a' w',aD c F' β' (e.app o.dst s) a' w'->K a' w') ->
   if Region.wanted o (yielded ops a.tmps)then o.wpIn (sX r) 0 c.P a w K Q else K (a.put o.dst undef) w
section
variable {c:Ctx}{r:Option Nat}{ops:Array Oper}{es:List Fx}{s0:aB}
theorem BR(ok:Nat->(Key->LB)->Prop)(hlen:es.length=ops.size)
 (hE:∀(i:Nat) o e,ops[i]?=some o->es[i]?=some e->nL c r ops o (b8 ops es s0 (λ_=>true) i) e (ok i))
 (hback:∀(i:Nat) o,ops[i]?=some o->∀ed∈o.after,Region.binds .any ed=true->ed.on<i)
 (hind:∀(i j:Nat) o o' e e',i<j->ops[i]?=some o->ops[j]?=some o'->es[i]?=some e->es[j]?=some e'->Ae ops i j\/VL ops o o' e e')
 (hok:∀(L:Nat->Bool) (i:Nat),i<ops.size->L i=false->(∀j,Ae ops j i->L j=true)->(∀i j,Ae ops i j->L j=true->L i=true)->ok i (b8 ops es s0 L ops.size).lv)(hQ:∀F' β' a' w',aD c F' β' (b8 ops es s0 (λ_=>true) ops.size) a' w'->Q .normal a' w') :
 ∀(fuel:Nat) (listed:Array Bool),listed.size=ops.size ->
  (∀(j:Nat) o,ops[j]?=some o->listed.getD j false=true->∀ed∈o.after,Region.binds .any ed=true->listed.getD ed.on false=true) ->
  ops.size<=fuel+cnt (λj=>listed.getD j false) ops.size ->
  ∀F β a w,aD c F β (b8 ops es s0 (λj=>listed.getD j false) ops.size) a w->wpAnyIn (sX r) 0 c.P .any ops Q fuel listed a w:=by
 intro fuel
 have hall:∀(listed:Array Bool),(∀i,i<ops.size->listed.getD i false=true)->∀F β a w,aD c F β (b8 ops es s0 (λj=>listed.getD j false) ops.size) a w->Q .normal a w:=by
  intro listed hl F β a w h;rw[jJ (L':=λ_=>true) hl]at h;exact hQ _ _ _ _ h
 induction fuel with
 |zero=>
  intro listed hsz hcl hcnt F β a w h;have hl:=Kt (p:=λj=>listed.getD j false) (n:=ops.size) (by omega);refine⟨?_,hall listed hl F β a w h⟩;rw[List.eq_nil_iff_forall_not_mem];intro i hi;obtain⟨h1,h2,_⟩:=mem_ready.1 hi
  grind
 |succ fuel ih=>
  intro listed hsz hcl hcnt F β a w h
  have hanc:∀i j,Ae ops i j->listed.getD j false=true->listed.getD i false=true:=by
   intro i j ha
   induction ha with
   |one ho he hb hi=>grind
   |more ho he hb _ ih=>grind
  refine⟨λhnil=>?_,λi hi=>?_⟩
  ·refine hall listed (λi hi=>?_) F β a w h
   induction i using Nat.strongRecOn with
   |_ i ihi=>
    cases hL:listed.getD i false with
    |true=>rfl
    |false=>
     exfalso
     have:i∈Region.ready .any ops listed:=by
      refine mem_ready.2 ⟨hi,?_,ops[i],afd hi,λed hed hb=>?_⟩
      ·grind
      ·grind
     grind
  ·obtain⟨hi1,hi2,o,ho,hpre⟩:=mem_ready.1 hi;have h4:i<listed.size:=by omega
   have hLi:listed.getD i false=false:=by simp[Array.getD,h4]at hi2 ⊢;exact hi2
   obtain⟨e,he⟩:∃e,es[i]?=some e:=⟨es[i]'(by omega),fy (by omega)⟩
   have hes:∀j o',ops[j]?=some o'->∃e',es[j]?=some e':=λj o' h'=>by
    have:j<ops.size:=(Array.getElem?_eq_some_iff.1 h').1;exact⟨es[j]'(by omega),fy (by omega)⟩
   have hos:∀(j:Nat) e',es[j]?=some e'->∃o',ops[j]?=some o':=λj e' h'=>by
    grind
   have hancR:∀j,Ae ops j i->listed.getD j false=true:=by
    intro j ha
    cases ha with
    |one ho' he' hb hj=>
     grind
    |more ho' he' hb hj=>
     grind
   have key:=hE i o e ho he (b8 ops es s0 (λj=>listed.getD j false) ops.size) (λt ht=>?_) ?_ F β a w
    (wpAnyIn (sX r) 0 c.P .any ops Q fuel (listed.setIfInBounds i true)) Q h (λF' β' a' w' h'=>?_)
   ·unfold wpOpIn;rw[ho];simp only;split at key
    ·grind
    ·rename_i hw;rw[if_neg hw];exact⟨λ_ _=>trivial,key⟩
   ·rw[Kj (i:=i) (λj o' ho' hd=>?_) ops.size,Nat.min_eq_right (by omega)];obtain⟨e',he'⟩:=hes j o' ho';constructor
    ·intro hji;rcases hind j i o' o e' e hji ho' ho he' he with ha|ha
     ·grind
     ·exact absurd ht ((Oper.apart_spec ha.1).1 t hd)
    ·intro hj;rcases Nat.lt_trichotomy j i with hlt|heq|hgt
     ·exact hlt
     ·grind
     ·rcases hind i j o o' e e' hgt ho ho' he he' with ha|ha
      ·grind
      ·exact absurd ht ((Oper.apart_spec ha.1).2.2 t hd)
   ·grind
   ·have hset:∀j,(listed.setIfInBounds i true).getD j false=(listed.getD j false ||j == i):=by
     intro j;simp only[ae3,agZ]
     by_cases hj:i=j
     ·grind
     ·grind
    refine ih (listed.setIfInBounds i true) (by simp[hsz]) (λj o' ho' hj ed hed hb=>?_) ?_ F' β' a' w' ?_
    ·grind
    ·rw[uX (q:=λj=>listed.getD j false ||j == i) (λj _=>hset j),Jz (p:=λj=>listed.getD j false) hLi hi1];omega
    ·rw[jJ (L':=λj=>listed.getD j false ||j == i) (λj _=>hset j)]
     have hst:e.app o.dst (b8 ops es s0 (λj=>listed.getD j false) ops.size)=b8 ops es s0 (λj=>listed.getD j false ||j == i) ops.size:=by
      have e1:(e.app o.dst (b8 ops es s0 (λj=>listed.getD j false) ops.size)).fr=(b8 ops es s0 (λj=>listed.getD j false ||j == i) ops.size).fr:=by
       funext t;refine DH ho he hi1 hLi (λj o' hij ho' hj hd=>?_);obtain⟨e',he'⟩:=hes j o' ho';rcases hind i j o o' e e' hij ho ho' he he' with ha|ha
       ·grind
       ·exact(Oper.apart_spec ha.1).2.1 t hd
      have e2:(e.app o.dst (b8 ops es s0 (λj=>listed.getD j false) ops.size)).lv=(b8 ops es s0 (λj=>listed.getD j false ||j == i) ops.size).lv:=by
       funext k;refine Gt ho he hi1 hLi (λj e' hij he' hj hd=>?_);obtain⟨o',ho'⟩:=hos j e' he';rcases hind i j o o' e e' hij ho ho' he he' with ha|ha
       ·grind
       ·exact ha.2 k hd
      cases h1:e.app o.dst (b8 ops es s0 (λj=>listed.getD j false) ops.size)
      cases h2:b8 ops es s0 (λj=>listed.getD j false ||j == i) ops.size
      rw[h1,h2]at e1 e2;simp only at e1 e2;rw[e1,e2]
     grind
end
section
variable {ops:Array Oper}{es:List Fx}{s0:aB}
theorem Lz(ho:ops[m]?=some o)(he:es[m]?=some e):
 b8 ops es s0 L (m+1)=if L m then e.app o.dst (b8 ops es s0 L m)else b8 ops es s0 L m:=by
 simp only[b8,ho,he]
theorem nJ(hlen:es.length=ops.size)(hm:m<ops.size):
 ∃e,es[m]?=some e/\(b8 ops es s0 L (m+1)).lv k=if L m=true then bg (b8 ops es s0 L m).lv e.us k else(b8 ops es s0 L m).lv k:=by
 have ho:ops[m]?=some ops[m]:=afd hm;have he:es[m]?=some (es[m]'(by omega)):=fy (by omega);refine⟨_,he,?_⟩;rw[Lz ho he]
 cases L m<;>simp[zm]
theorem CH(hlen:es.length=ops.size)(hi:i<ops.size)(hLi:L i=false)(h1:∀j,Ae ops j i->L j=true)(h2:∀i j,Ae ops i j->L j=true->L i=true):
 (b8 ops es s0 L ops.size).lv k=(b8 ops es s0 (λ_=>true) i).lv k \/
 (∃j e,i<j/\es[j]?=some e/\¬Ae ops i j/\k∈e.us.map (·.1)/\(b8 ops es s0 L ops.size).lv k=bg (λ_=>.hole) e.us k) \/
 (∃j e,j<i/\es[j]?=some e/\¬Ae ops j i/\k∈e.us.map (·.1)/\(b8 ops es s0 L ops.size).lv k=(b8 ops es s0 (λ_=>true) j).lv k):=by
 have hA:∀m,m<=i->((b8 ops es s0 L m).lv k=(b8 ops es s0 (λ_=>true) m).lv k \/
  ∃j e,j<i/\es[j]?=some e/\¬Ae ops j i/\k∈e.us.map (·.1)/\(b8 ops es s0 L m).lv k=(b8 ops es s0 (λ_=>true) j).lv k):=by
  intro m
  induction m with
  |zero=>intro _;exact .inl rfl
  |succ m ih=>
   intro hm;obtain⟨e,he,e1⟩:=nJ (ops:=ops) (s0:=s0) (L:=L) (k:=k) hlen (by omega:m<ops.size);obtain⟨e',he',e2⟩:=nJ (ops:=ops) (s0:=s0) (L:=λ_=>true) (k:=k) hlen (by omega:m<ops.size);rw[he]at he';simp only[ah]at he';subst he';simp only[if_true]at e2;rw[e1,e2]
   by_cases hk:k∈e.us.map (·.1)
   ·cases hL:L m with
    |true=>simp only[if_true];exact .inl (xV hk)
    |false=>
     grind
   ·rw[de hk,de hk]
    grind
 have hB:∀m,i<=m->m<=ops.size->((b8 ops es s0 L m).lv k=(b8 ops es s0 L i).lv k \/
  ∃j e,i<j/\es[j]?=some e/\¬Ae ops i j/\k∈e.us.map (·.1)/\(b8 ops es s0 L m).lv k=bg (λ_=>.hole) e.us k):=by
  intro m
  induction m with
  |zero=>grind
  |succ m ih=>
   intro hm hms
   by_cases hmi:i=m+1
   ·grind
   obtain⟨e,he,e1⟩:=nJ (ops:=ops) (s0:=s0) (L:=L) (k:=k) hlen (by omega:m<ops.size);rw[e1]
   cases hL:L m with
   |false=>grind
   |true=>
    simp only[if_true]
    by_cases hk:k∈e.us.map (·.1)
    ·refine .inr ⟨m,e,?_,he,λha=>?_,hk,xV hk⟩
     ·grind
     grind
    ·rw[de hk];grind
 grind
end
structure Fw where
 e:Fx
 lv:Key->LB
 all:Bool
 soft:Key->LB->Bool
def Fw.ok(f:Fw)(lv:Key->LB):Prop:=
 (f.all=true/\lv=f.lv)\/(f.all=false/\(Agree f.lv lv f.e.us f.e.rds\/(f.e.us=[]/\∃k,f.e.rds=[k]/\f.soft k (lv k)=true)))
def Fw.apart(f g:Fw):Prop:=
 (f.all=true->g.e.us=[])/\(g.all=true->f.e.us=[]) /\
 (∀k∈f.e.us.map (·.1),k ∉ g.e.us.map (·.1)) /\
 (∀k∈f.e.us.map (·.1),k ∉ g.e.rds\/(g.e.us=[]/\g.e.rds=[k]/\g.soft k (f.lv k)=true)) /\
 (∀k∈g.e.us.map (·.1),k ∉ f.e.rds\/(f.e.us=[]/\f.e.rds=[k]/\f.soft k (bg (λ_=>.hole) g.e.us k)=true))
theorem YM{fs:List Fw}(hlen:fs.length=ops.size)
 (hlv:∀(i:Nat) f,fs[i]?=some f->f.lv=(b8 ops (fs.map (·.e)) s0 (λ_=>true) i).lv)
 (hind:∀(i j:Nat) f g,i<j->fs[i]?=some f->fs[j]?=some g->Ae ops i j\/f.apart g) :
 ∀(L:Nat->Bool) (i:Nat) (f:Fw),fs[i]?=some f->L i=false->(∀j,Ae ops j i->L j=true)->(∀i j,Ae ops i j->L j=true->L i=true) ->
  f.ok (b8 ops (fs.map (·.e)) s0 L ops.size).lv:=by
 intro L i f hf hLi h1 h2;have hi:i<ops.size:=by have:=(List.getElem?_eq_some_iff.1 hf).1;omega
 have hlen':(fs.map (·.e)).length=ops.size:=by simpa using hlen
 have hver:=λk=>CH (s0:=s0) (k:=k) hlen' hi hLi h1 h2
 rw[<-hlv i f hf]at hver
 have hget:∀(j:Nat) (e:Fx),(fs.map (·.e))[j]?=some e->∃g:Fw,fs[j]?=some g/\g.e=e:=by
  intro j e h;rw[aeP,aek]at h;exact h
 cases hall:f.all with
 |true=>
  left;refine⟨hall,funext λk=>?_⟩;rcases hver k with h|⟨j,e,q1,q2,q3,q4,q5⟩|⟨j,e,q1,q2,q3,q4,q5⟩
  ·exact h
  ·obtain⟨g,hg,rfl⟩:=hget j e q2;rcases hind i j f g q1 hf hg with ha|ha
   ·grind
   ·rw[ha.1 hall]at q4;cases q4
  ·obtain⟨g,hg,rfl⟩:=hget j e q2;rcases hind j i g f q1 hg hf with ha|ha
   ·grind
   ·rw[ha.2.1 hall]at q4;cases q4
 |false=>
 right;refine⟨hall,?_⟩
 by_cases hs:f.e.us=[]/\∃k,f.e.rds=[k]
 ·obtain⟨hu,k,hk⟩:=hs;rcases hver k with h|⟨j,e,q1,q2,q3,q4,q5⟩|⟨j,e,q1,q2,q3,q4,q5⟩
  ·left;refine⟨λk' hk'=>?_,λp hp=>by grind⟩
   grind
  all_goals (right;refine⟨hu,k,hk,?_⟩)
  ·obtain⟨g,hg,rfl⟩:=hget j e q2;rw[q5];rcases hind i j f g q1 hf hg with ha|ha
   ·grind
   ·rcases ha.2.2.2.2 k q4 with h|h
    ·grind
    grind
  ·obtain⟨g,hg,rfl⟩:=hget j e q2;rw[q5,<-hlv j g hg];rcases hind j i g f q1 hg hf with ha|ha
   ·grind
   ·rcases ha.2.2.2.1 k q4 with h|h
    ·grind
    grind
 ·left;have hno:∀k,¬(f.e.us=[]/\f.e.rds=[k]):=λk h=>hs ⟨h.1,k,h.2⟩
  have key:∀k,(k∈f.e.rds\/k∈f.e.us.map (·.1))->(b8 ops (fs.map (·.e)) s0 L ops.size).lv k=f.lv k:=by
   intro k hk;rcases hver k with h|⟨j,e,q1,q2,q3,q4,q5⟩|⟨j,e,q1,q2,q3,q4,q5⟩
   ·exact h
   ·obtain⟨g,hg,rfl⟩:=hget j e q2;exfalso;rcases hind i j f g q1 hf hg with ha|ha
    ·exact q3 ha
    ·rcases hk with hk|hk
     ·rcases ha.2.2.2.2 k q4 with h|h
      ·exact h hk
      grind
     ·exact ha.2.2.1 k hk q4
   ·obtain⟨g,hg,rfl⟩:=hget j e q2;exfalso;rcases hind j i g f q1 hg hf with ha|ha
    ·exact q3 ha
    ·rcases hk with hk|hk
     ·rcases ha.2.2.2.1 k q4 with h|h
      ·exact h hk
      grind
     ·exact ha.2.2.1 k q4 hk
  exact⟨λk hk=>key k (.inl hk),λp hp=>key p.1 (.inr (List.mem_map_of_mem hp))⟩
def jT(c:Ctx)(r:Option Nat)(ops:Array Oper):List Oper->List Fw->aB->aB->Prop
 |[],[],s,s'=>s'=s
 |o::os,f::fs,s,s'=>nL c r ops o s f.e f.ok/\f.lv=s.lv/\jT c r ops os fs (f.e.app o.dst s) s'
 |_,_,_,_=>False
section
variable {c:Ctx}{r:Option Nat}{ops:Array Oper}
theorem jT.len:∀{os:List Oper}{es:List Fw}{s s':aB},jT c r ops os es s s'->es.length=os.length
 |[],[],_,_,_=>rfl
 |_::_,_::_,_,_,h=>by simp[jT.len h.2.2]
 |[],_::_,_,_,h=>h.elim
 |_::_,[],_,_,h=>h.elim
theorem jT.at{fs:List Fw}{s0:aB}:∀{os:List Oper}{rs:List Fw}{s':aB}(n:Nat),ops.toList.drop n=os->fs.drop n=rs->jT c r ops os rs (b8 ops (fs.map (·.e)) s0 (λ_=>true) n) s' ->
 s'=b8 ops (fs.map (·.e)) s0 (λ_=>true) (n+os.length)/\∀(i:Nat) o f,n<=i->ops[i]?=some o->fs[i]?=some f->nL c r ops o (b8 ops (fs.map (·.e)) s0 (λ_=>true) i) f.e f.ok/\f.lv=(b8 ops (fs.map (·.e)) s0 (λ_=>true) i).lv
 |[],[],s',n,h1,h2,h=>by
  refine⟨h,λi o e hi ho he=>?_⟩;have h3:fs.length<=n:=List.drop_eq_nil_iff.1 h2
  grind
 |o::os,e::rs,s',n,h1,h2,h=>by
  have ho:ops[n]?=some o:=by
   have:(ops.toList.drop n)[0]?=some o:=by rw[h1];rfl
   rw[afL]at this;simpa using this
  have he:fs[n]?=some e:=by
   have:(fs.drop n)[0]?=some e:=by rw[h2];rfl
   rw[afL]at this;simpa using this
  have hst:b8 ops (fs.map (·.e)) s0 (λ_=>true) (n+1)=e.e.app o.dst (b8 ops (fs.map (·.e)) s0 (λ_=>true) n):=by
   simp only[b8,ho,aeP,he,aeJ,if_true]
  obtain⟨h3,h4⟩:=jT.at (fs:=fs) (s0:=s0) (os:=os) (rs:=rs) (s':=s') (n+1) (by rw[<-afB,h1];rfl) (by rw[<-afB,h2];rfl) (by rw[hst];exact h.2.2);refine⟨by grind,λi o' e' hi ho' he'=>?_⟩
  by_cases e1:i=n
  ·subst e1;rw[ho]at ho';rw[he]at he';simp only[ah]at ho' he';subst ho';subst he';exact⟨h.1,h.2.1⟩
  grind
 |[],_::_,_,_,_,_,h=>h.elim
 |_::_,[],_,_,_,_,h=>h.elim
theorem jT.draw{fs:List Fw}(hm:c.P.follows .mixedOrders=true)(h:jT c r ops ops.toList fs s s')
 (hback:∀(i:Nat) o,ops[i]?=some o->∀ed∈o.after,Region.binds .any ed=true->ed.on<i)
 (hind:∀(i j:Nat) o o' f g,i<j->ops[i]?=some o->ops[j]?=some o'->fs[i]?=some f->fs[j]?=some g->Ae ops i j\/(o.apart ops o'=true/\f.apart g))
 (hQ:∀F' β' a' w',aD c F' β' s' a' w'->Q .normal a' w')(hs:aD c F β s a w):(Code.region id ops true).wpIn (sX r) 0 c.P Q a w:=by
 have hlen:fs.length=ops.size:=by rw[h.len];simp
 obtain⟨h3,h4⟩:=jT.at (fs:=fs) (s0:=s) 0 rfl rfl h;refine wpIn_region_any hm ?_
 have hget:∀(j:Nat) (e:Fx),(fs.map (·.e))[j]?=some e->∃g:Fw,fs[j]?=some g/\g.e=e:=by
  intro j e h;rw[aeP,aek]at h;exact h
 have hos:∀(j:Nat) f,fs[j]?=some f->∃o',ops[j]?=some o':=λj e' h'=>by
  have:j<fs.length:=(List.getElem?_eq_some_iff.1 h').1
  simp_all
 refine BR (es:=fs.map (·.e)) (s0:=s) (λi lv=>∀f,fs[i]?=some f->f.ok lv) (by grind) (λi o e ho he=>?_) hback (λi j o o' e e' hij ho ho' he he'=>?_) (λL i hi hLi h1 h2 f hf=>?_)
  (λF' β' a' w' h'=>hQ F' β' a' w' ?_) ops.size _ (by simp) (λj o ho hj=>?_) (by omega) F β a _ ?_
 ·obtain⟨f,hf,rfl⟩:=hget i e he;intro s1 g1 g2;exact(h4 i o f (aa2 _) ho hf).1 s1 g1 (g2 f hf)
 ·obtain⟨f,hf,rfl⟩:=hget i e he;obtain⟨g,hg,rfl⟩:=hget j e' he';rcases hind i j o o' f g hij ho ho' hf hg with ha|⟨ha,hb⟩
  ·grind
  ·exact .inr ⟨ha,hb.2.2.1⟩
 ·refine YM hlen (λi f hf=>?_) (λi j f g hij hf hg=>?_) L i f hf hLi h1 h2
  ·grind
  ·obtain⟨o,ho⟩:=hos i f hf
   grind
 ·rw[h3];simpa using h'
 ·have hf:(Array.replicate ops.size false).getD j false=false:=by
   simp only[ae3,agv];split<;>rfl
  grind
 ·have hf:∀j,(Array.replicate ops.size false).getD j false=false:=λj=>by
   simp only[ae3,agv];grind
  have:b8 ops (fs.map (·.e)) s (λj=>(Array.replicate ops.size false).getD j false) ops.size=s:=by
   rw[jJ (L':=λ_=>false) (λj _=>hf j)]
   have:∀m,b8 ops (fs.map (·.e)) s (λ_=>false) m=s:=by
    intro m
    induction m with
    |zero=>rfl
    |succ m ih=>simp only[b8,ih,aeF,if_false];grind
   exact this _
  rw[this];exact hs.heap rfl
end
def JD(acc:List Nat)(o:Oper):Nat:=o.after.toList.foldl (λm e=>if Region.binds .any e then m |||(2^e.on |||acc.getD e.on 0)else m) 0
def iy:List Oper->List Nat->List Nat
 |[],acc=>acc
 |o::r,acc=>iy r (acc++[JD acc o])
theorem yR{acc:List Nat}{i:Nat}:∀(l:List Edge) (m:Nat),(l.foldl (λm e=>if Region.binds .any e then m |||(2^e.on |||acc.getD e.on 0)else m) m).testBit i=true ->
 m.testBit i=true\/∃e∈l,Region.binds .any e=true/\(e.on=i\/(acc.getD e.on 0).testBit i=true)
 |[],m,h=>.inl h
 |e::l,m,h=>by
  rcases yR l _ h with h1|⟨e',h1,h2⟩
  ·grind
  grind
theorem lu{ops:Array Oper}:∀(os:List Oper) (acc:List Nat),ops.toList=ops.toList.take acc.length++os ->
 (∀i j,(acc.getD j 0).testBit i=true->Ae ops i j)->∀i j,((iy os acc).getD j 0).testBit i=true->Ae ops i j
 |[],acc,_,h=>h
 |o::os,acc,hl,h=>by
  have hlen:acc.length<ops.toList.length:=by
   have h1:=congrArg List.length hl;simp only[ad6,aej,aef]at h1;omega
  have ho:ops[acc.length]?=some o:=by
   have h1:ops.toList[acc.length]?=(ops.toList.take acc.length++o::os)[acc.length]?:=by rw[<-hl]
   rw[List.getElem?_append_right (by simp;omega)]at h1;simp only[aej]at h1;rw[show acc.length-min acc.length ops.toList.length=0 by omega]at h1;simpa using h1
  refine lu os _ ?_ (λi j hb=>?_)
  ·grind
  ·by_cases hj:j<acc.length
   ·grind
   ·by_cases hj2:j=acc.length
    ·subst hj2;rw[adS,List.getElem?_append_right (bh _)]at hb;simp only[afk,aga,af9]at hb;unfold JD at hb;rcases yR _ _ hb with h1|⟨e,h1,h2,h3⟩
     ·simp at h1
     ·have he:e∈o.after:=by simpa using h1
      rcases h3 with h3|h3
      ·exact .one ho he h2 h3
      ·exact .more ho he h2 (h _ _ h3)
    grind
def Jj:Nat->List Oper->Bool
 |_,[]=>true
 |i,o::r=>o.after.toList.all (λe=>!Region.binds .any e ||decide (e.on<i))&&Jj (i+1) r
theorem pg{ops:Array Oper}:∀(os:List Oper) (n:Nat),ops.toList.drop n=os->Jj n os=true ->
 ∀(i:Nat) o,n<=i->ops[i]?=some o->∀ed∈o.after,Region.binds .any ed=true->ed.on<i
 |[],n,hl,_=>by
  intro i o hi ho;have h1:ops.toList.length<=n:=List.drop_eq_nil_iff.1 hl
  grind
 |o::os,n,hl,hb=>by
  simp only[Jj,rP]at hb;intro i o' hi ho ed hed hbd
  by_cases e:i=n
  ·subst e;have h1:(ops.toList.drop i)[0]?=some o:=by rw[hl];rfl
   grind
  ·refine pg os (n+1) ?_ hb.2 i o' (by omega) ho ed hed hbd;rw[<-afB,hl];rfl
def mU(ops:Array Oper):Bool:=
 let ms:=iy ops.toList []
 Jj 0 ops.toList&&(List.range ops.size).all λj=>(List.range j).all λi=>
  (ms.getD j 0).testBit i ||(match ops[i]?,ops[j]? with|some o,some o'=>o.apart ops o'|_,_=>true)
def vP(e e':Fx):Bool:=
 e.us.all (λp=>!(e'.us.any λq=>q.1 == p.1)&&!e'.rds.contains p.1)&&e'.us.all (λp=>!e.rds.contains p.1)
def idle(e:Fx):Bool:=e.us.isEmpty&&e.rds.isEmpty
def Ek(ops:Array Oper)(es:List Fx):Bool:=
 let ms:=iy ops.toList []
 (List.range es.length).all λj=>match es[j]? with
  |some e'=>idle e' ||(List.range j).all λi=>match es[i]? with
   |some e=>idle e ||(ms.getD j 0).testBit i ||vP e e'
   |none=>true
  |none=>true
theorem CF(h:vP e e'=true):(∀k∈e.us.map (·.1),k ∉ e'.us.map (·.1)/\k ∉ e'.rds)/\∀k∈e'.us.map (·.1),k ∉ e.rds:=by
 simp only[vP,rP,adV,aee,List.any_eq_false,beq_iff_eq,List.contains_eq_mem,decide_eq_false_iff_not]at h
 grind
theorem yu(h:idle e=true\/idle e'=true):(∀k∈e.us.map (·.1),k ∉ e'.us.map (·.1)/\k ∉ e'.rds)/\∀k∈e'.us.map (·.1),k ∉ e.rds:=by
 simp only[idle,rP,List.isEmpty_iff]at h
 grind
theorem Ah(hlen:es.length=ops.size)(hs:mU ops=true)(hd:Ek ops es=true):
 (∀(i:Nat) o,ops[i]?=some o->∀ed∈o.after,Region.binds .any ed=true->ed.on<i) /\
 (∀(i j:Nat) o o' e e',i<j->ops[i]?=some o->ops[j]?=some o'->es[i]?=some e->es[j]?=some e'->Ae ops i j\/Zn ops o o' e e'):=by
 simp only[mU,rP,adV,agu]at hs;refine⟨λi o=>pg ops.toList 0 rfl hs.1 i o (aa2 _),λi j o o' e e' hij ho ho' he he'=>?_⟩;have hj:j<ops.size:=(Array.getElem?_eq_some_iff.1 ho').1;have hm:=lu (ops:=ops) ops.toList [] (by simp) (λi j h=>by simp at h) i j;have h1:=hs.2 j hj i hij;rw[ho,ho']at h1;simp only[aeV]at h1;simp only[Ek,adV,agu]at hd;have h2:=hd j (by omega);rw[he']at h2;simp only[aeV,adV,agu]at h2;rcases h1 with h1|h1
 ·grind
 ·rcases h2 with h2|h2
  ·exact .inr ⟨h1,yu (.inr h2)⟩
  ·have h3:=h2 i hij;rw[he]at h3;simp only[aeV]at h3;rcases h3 with(h3|h3)|h3
   ·exact .inr ⟨h1,yu (.inl h3)⟩
   ·grind
   ·exact .inr ⟨h1,CF h3⟩
def gY(c:Ctx)(r:Option Nat)(ops:Array Oper):List Oper->List Fx->aB->aB->Prop
 |[],[],s,s'=>s'=s
 |o::os,e::es,s,s'=>cY c r ops o s e/\gY c r ops os es (e.app o.dst s) s'
 |_,_,_,_=>False
section
variable {c:Ctx}{r:Option Nat}{ops:Array Oper}
theorem gY.opers:∀{os:List Oper}{es:List Fx}{s s':aB}(n:Nat),ops.toList.drop n=os->gY c r ops os es s s' ->
 (∀F' β' a' w',aD c F' β' s' a' w'->Q .normal a' w')->∀F β a w,aD c F β s a w->wpOpsIn (sX r) 0 c.P ops Q (List.range' n os.length) a w
 |[],[],s,s',n,_,h,hQ=>λF β a w hs=>by
  have h:s'=s:=h;subst h;exact hQ F β a w hs
 |o::os,e::es,s,s',n,h1,h,hQ=>λF β a w hs=>by
  have ho:ops[n]?=some o:=by
   have:(ops.toList.drop n)[0]?=some o:=by rw[h1];rfl
   rw[afL]at this;simpa using this
  have ih:=gY.opers (os:=os) (es:=es) (n+1) (by rw[<-afB,h1];rfl) h.2 hQ;have key:=h.1 s (λ_ _=>rfl) ⟨λ_ _=>rfl,λ_ _=>rfl⟩ F β a w (wpOpsIn (sX r) 0 c.P ops Q (List.range' (n+1) os.length)) Q hs (λF' β' a' w' h'=>ih F' β' a' w' h');simp only[aef,agw];rw[wpOpsIn_cons];unfold wpOpIn;rw[ho];simp only;split at key
  ·grind
  ·rename_i hw;rw[if_neg hw];exact⟨λ_ _=>trivial,key⟩
 |[],_::_,_,_,_,_,h,_=>h.elim
 |_::_,[],_,_,_,_,h,_=>h.elim
theorem gY.region(h:gY c r ops ops.toList es s s')
 (hQ:∀F' β' a' w',aD c F' β' s' a' w'->Q .normal a' w')(hs:aD c F β s a w):(Code.region id ops false).wpIn (sX r) 0 c.P Q a w:=by
 refine wpIn_region ?_;have:=gY.opers 0 rfl h hQ F β a w hs;rw[List.range_eq_range']
 grind
theorem gY.toW:∀{os:List Oper}{es:List Fx}{s s':aB},gY c r ops os es s s'->∃fs:List Fw,fs.map (·.e)=es/\(∀f∈fs,f.all=false)/\jT c r ops os fs s s'
 |[],[],_,_,h=>⟨[],rfl,by simp,h⟩
 |_::_,e::_,s,_,h=>by
  obtain⟨fs,h1,h2,h3⟩:=gY.toW h.2;refine⟨⟨e,s.lv,false,λ_ _=>false⟩::fs,by simp[h1],by simpa using h2,λs1 g1 g2=>h.1 s1 g1 ?_,rfl,h3⟩;rcases g2 with⟨g,_⟩|⟨_,g|⟨_,_,_,g⟩⟩
  ·cases g
  ·exact g
  ·cases g
 |[],_::_,_,_,h=>h.elim
 |_::_,[],_,_,h=>h.elim
theorem gY.draw(hm:c.P.follows .mixedOrders=true)(h:gY c r ops ops.toList es s s')(h1:mU ops=true)(h2:Ek ops es=true)
 (hQ:∀F' β' a' w',aD c F' β' s' a' w'->Q .normal a' w')(hs:aD c F β s a w):(Code.region id ops true).wpIn (sX r) 0 c.P Q a w:=by
 obtain⟨fs,rfl,h3,h4⟩:=h.toW;obtain⟨h5,h6⟩:=Ah (by rw[ab0,h4.len];simp) h1 h2;refine h4.draw hm h5 (λi j o o' f g hij ho ho' hf hg=>?_) hQ hs;rcases h6 i j o o' f.e g.e hij ho ho' (by simp[hf]) (by simp[hg])with h|⟨a1,a2,a3⟩
 ·exact .inl h
 ·have e1:=h3 f (afg hf);have e2:=h3 g (afg hg);exact .inr ⟨a1,λe=>(by rw[e1]at e;cases e),λe=>(by rw[e2]at e;cases e),λk hk=>(a2 k hk).1,λk hk=>.inl (a2 k hk).2,λk hk=>.inl (a3 k hk)⟩
end
section
variable {c:Ctx}{r:Option Nat}{ops:Array Oper}{o:Oper}{s0:aB}
theorem cY.call(hd:∀d,o.dst=some d->d<c.n)(hw:dN ops o.guard s0.fr=some true)
 (ho:o.op=.call cl) (ht:nR c.P (s0.val c.G) cl.callee=some (f,fs,cs)) (hf:aJ c.P f=true)
 (he:b7 c f (fs++cl.args.toList.map (s0.val c.G)++cs) s0.lv x us rds):cY c r ops o s0 ⟨x,us,rds⟩:=by
 refine cY.mE hw (λcl' h=>by rw[ho]at h;cases h) (λs h1 h2=>?_);obtain⟨e1,e2⟩:=yC (P:=c.P) (cl:=cl) (val:=s.val c.G) (val':=s0.val c.G) (λy hy=>h1 y (by rw[ho];exact hy));refine b7.UF (rds:=rds) hd ho (by rw[e1];exact ht) hf ?_;rw[e2];exact he.local h2
end
def gD(c:Ctx)(o:Oper)(s:aB)(κ:Nat)(K:AV->List (Key×LB)->List Key->Nat->Prop):Prop:=
 match o.op with
 |.call cl=>match cl.callee with
  |.builtin _=>match dA c.P o.op (o.op.operands.toList.map (s.val c.G)) s.lv κ with
   |some (x,us,rds,vc)=>vc/\K x us rds (match us with|[]=>κ|_=>κ+1)
   |none=>False
  |_=>match nR c.P (s.val c.G) cl.callee with
   |some (f,fs,cs)=>aJ c.P f=true/\∃x us rds κ',b7 c f (fs++cl.args.toList.map (s.val c.G)++cs) s.lv x us rds/\K x us rds κ'
   |none=>False
 |op=>match dA c.P op (op.operands.toList.map (s.val c.G)) s.lv κ with
  |some (x,us,rds,vc)=>vc/\K x us rds (match us with|[]=>κ|_=>κ+1)
  |none=>False
theorem Gb{o':Oper}{K:AV->List (Key×LB)->List Key->Nat->Prop}(h:o.op=o'.op):gD c o s κ K=gD c o' s κ K:=by
 unfold gD;rw[h]
def gr(c:Ctx)(ops:Array Oper):List Oper->aB->Nat->List Fx->(aB->Nat->List Fx->Prop)->Prop
 |[],s,κ,acc,K=>K s κ acc
 |o::os,s,κ,acc,K=>match dN ops o.guard s.fr with
  |some true=>gD c o s κ λx us rds κ'=>gr c ops os (aB.put ⟨s.fr,bg s.lv us⟩ o.dst x) κ' (⟨x,us,rds⟩::acc) K
  |some false=>gr c ops os (s.put o.dst .undef) κ (⟨.undef,[],[]⟩::acc) K
  |none=>False
def dM(n:Nat)(os:List Oper):Bool:=os.all λo=>match o.dst with|some d=>decide (d<n)|none=>true
section
variable {c:Ctx}{r:Option Nat}{ops:Array Oper}
theorem gD.GC{K:AV->List (Key×LB)->List Key->Nat->Prop}(hd:∀d,o.dst=some d->d<c.n)(hw:dN ops o.guard s.fr=some true)(h:gD c o s κ K):
 ∃x us rds κ',cY c r ops o s ⟨x,us,rds⟩/\K x us rds κ':=by
 have plain:(match dA c.P o.op (o.op.operands.toList.map (s.val c.G)) s.lv κ with
  |some (x,us,rds,vc)=>vc/\K x us rds (match us with|[]=>κ|_=>κ+1)
  |none=>False)->∃x us rds κ',cY c r ops o s ⟨x,us,rds⟩/\K x us rds κ':=by
  intro h;split at h
  ·rename_i x us rds vc hs
   exact⟨x,us,rds,_,cY.plain hd hw hs h.1,h.2⟩
  ·exact h.elim
 unfold gD at h;split at h
 ·rename_i cl ho
  split at h
  ·rw[ho]at h plain;exact plain h
  ·split at h
   ·rename_i f fs cs ht
    obtain⟨hf,x,us,rds,κ',he,hK⟩:=h;exact⟨x,us,rds,κ',cY.call hd hw ho ht hf he,hK⟩
   ·exact h.elim
 ·exact plain h
theorem gr.chain{K:aB->Nat->List Fx->Prop}:∀{os:List Oper}{s:aB}{κ:Nat}{acc:List Fx},dM c.n os=true->gr c ops os s κ acc K ->
 ∃es s' κ',gY c r ops os es s s'/\K s' κ' (es.reverse++acc)
 |[],s,κ,_,_,h=>⟨[],s,κ,rfl,h⟩
 |o::os,s,κ,acc,hd,h=>by
  simp only[dM,afx,rP]at hd;have hdo:∀d,o.dst=some d->d<c.n:=λd e=>by grind
  simp only[gr]at h;split at h
  ·rename_i hw
   obtain⟨x,us,rds,κ',he,hK⟩:=gD.GC (r:=r) hdo hw h;obtain⟨es,s',κ'',h1,h2⟩:=gr.chain hd.2 hK;exact⟨⟨x,us,rds⟩::es,s',κ'',⟨he,h1⟩,by grind⟩
  ·rename_i hw
   obtain⟨es,s',κ'',h1,h2⟩:=gr.chain hd.2 h;exact⟨⟨.undef,[],[]⟩::es,s',κ'',⟨cY.skip hdo hw,h1⟩,by grind⟩
  grind
end
inductive Ex where
 |normal
 |exit (id:Nat)
 |goto (l:Nat)
 |ret
 |panic (d:DV)
def Eh(x:Ex)(e:Exit)(F:Nat->Prop)(w:World):Prop:=
 match x with
 |.normal=>e=.normal
 |.exit id=>e=.exit id
 |.goto l=>e=.goto l
 |.ret=>e=.ret
 |.panic d=>∃v,e=.panic [{ v:=v,recovered:=false }]/\Rd (m9 w F) v d
def Post(c:Ctx)(Q:Ex->aB->Nat->Prop):Exit->Act->World->Prop:=λe a w=>∃x s κ F β,Q x s κ/\aD c F β s a w/\Eh x e F w
def AW(c:Ctx)(r:Option Nat)(code:Code)(s:aB)(κ:Nat)(Q:Ex->aB->Nat->Prop):Prop:=
 ∀F β a w,aD c F β s a w->code.wpIn (sX r) 0 c.P (Post c Q) a w
def uF(K:aB->Nat->Prop)(Q:Ex->aB->Nat->Prop):Ex->aB->Nat->Prop
 |.normal,s,κ=>K s κ
 |e,s,κ=>Q e s κ
def vQ(id:Nat)(Q:Ex->aB->Nat->Prop):Ex->aB->Nat->Prop
 |.exit id',s,κ=>if id'=id then Q .normal s κ else Q (.exit id') s κ
 |e,s,κ=>Q e s κ
section
variable {c:Ctx}{r:Option Nat}{s:aB}{κ:Nat}{Q:Ex->aB->Nat->Prop}
theorem AW.region(hd:dM c.n ops.toList=true)(h:gr c ops ops.toList s κ [] λs' κ' _=>Q .normal s' κ'):AW c r (.region id ops false) s κ Q:=by
 intro F β a w hs;obtain⟨es,s',κ',h1,h2⟩:=gr.chain (r:=r) hd h;exact h1.region (λF' β' a' w' h'=>⟨.normal,s',κ',F',β',h2,h',rfl⟩) hs
theorem AW.draw(hm:c.P.follows .mixedOrders=true)(hst:mU ops=true)(hd:dM c.n ops.toList=true)
 (h:gr c ops ops.toList s κ [] λs' κ' acc=>Ek ops acc.reverse=true/\Q .normal s' κ'):AW c r (.region id ops true) s κ Q:=by
 intro F β a w hs;obtain⟨es,s',κ',h1,h2,h3⟩:=gr.chain (r:=r) hd h;exact h1.draw hm hst (by grind) (λF' β' a' w' h'=>⟨.normal,s',κ',F',β',h3,h',rfl⟩) hs
theorem aav(h:Q .normal s κ):AW c r .skip s κ Q:=λF β _ _ hs=>wpIn_skip ⟨.normal,s,κ,F,β,h,hs,rfl⟩
theorem AW.label{l:Nat}(h:Q .normal s κ):AW c r (.label l) s κ Q:=λF β _ _ hs=>wpIn_label ⟨.normal,s,κ,F,β,h,hs,rfl⟩
theorem abn(h:Q (.exit id) s κ):AW c r (.exit id) s κ Q:=λF β _ _ hs=>wpIn_exit ⟨.exit id,s,κ,F,β,h,hs,rfl⟩
theorem aaH(h:Q .ret s κ):AW c r .ret s κ Q:=λF β _ _ hs=>wpIn_ret ⟨.ret,s,κ,F,β,h,hs,rfl⟩
theorem AW.seq{x y:Code}{K:aB->Nat->Prop}(h:AW c r x s κ (uF K Q))(hK:∀s κ,K s κ->AW c r y s κ Q):AW c r (.seq x y) s κ Q:=by
 intro F β a w hs;refine wpIn_seq (wpIn_mono (h F β a w hs) λe a' w' hp=>?_);obtain⟨e',s',κ',F',β',hq,hs',he⟩:=hp
 cases e' with
 |normal=>cases he;exact hK s' κ' hq F' β' a' w' hs'
 |exit id=>cases he;exact⟨.exit id,s',κ',F',β',hq,hs',rfl⟩
 |goto l=>cases he;exact⟨.goto l,s',κ',F',β',hq,hs',rfl⟩
 |ret=>cases he;exact⟨.ret,s',κ',F',β',hq,hs',rfl⟩
 |panic d=>obtain⟨v,rfl,hv⟩:=he;exact⟨.panic d,s',κ',F',β',hq,hs',v,rfl,hv⟩
theorem AW.mono{x:Code}{Q':Ex->aB->Nat->Prop}(h:AW c r x s κ Q)(hq:∀e s κ,Q e s κ->Q' e s κ):AW c r x s κ Q':=λF β a w hs=>
 wpIn_mono (h F β a w hs) λ_ _ _ ⟨e',s',κ',F',β',h1,h2,h3⟩=>⟨e',s',κ',F',β',hq _ _ _ h1,h2,h3⟩
theorem adi{o:Operand}{x y:Code}(hb:s.val c.G o=.c (.d (.bool b)))(h:AW c r (if b then x else y) s κ Q):AW c r (.cond o x y) s κ Q:=by
 intro F β a w hs;have h1:=hs.val o;rw[hb]at h1;exact wpIn_cond (Vw.sw h1) (h F β a w hs)
theorem aaE{x:Code}(h:AW c r x s κ (vQ id Q)):AW c r (.block id x) s κ Q:=by
 intro F β a w hs;refine wpIn_block (wpIn_mono (h F β a w hs) λe a' w' hp=>?_);obtain⟨e',s',κ',F',β',hq,hs',he⟩:=hp
 cases e' with
 |normal=>cases he;exact⟨.normal,s',κ',F',β',hq,hs',rfl⟩
 |exit id'=>
  cases he
  simp only[vQ]at hq;simp only[Exit.inBlock];split
  ·rename_i hid;rw[if_pos hid]at hq;exact⟨.normal,s',κ',F',β',hq,hs',rfl⟩
  ·rename_i hid;rw[if_neg hid]at hq;exact⟨.exit id',s',κ',F',β',hq,hs',rfl⟩
 |goto l=>cases he;exact⟨.goto l,s',κ',F',β',hq,hs',rfl⟩
 |ret=>cases he;exact⟨.ret,s',κ',F',β',hq,hs',rfl⟩
 |panic d=>obtain⟨v,rfl,hv⟩:=he;exact⟨.panic d,s',κ',F',β',hq,hs',v,rfl,hv⟩
theorem AW.coarse{x:Code}{s2:aB}{κ2:Nat}{g:Key->Key}(hc:fD c s s2 g)(h:AW c r x s2 κ2 Q):AW c r x s κ Q:=
 λF β a w hs=>h F _ a w (hs.coarse hc)
end
def mN(P:Program)(s:aB):ResultVar->Option AV
 |.tmp t=>some (s.fr t)
 |.cell a T=>match s.fr a with
  |.c (.ptr k off)=>match s.lv k with|.cells _ _ _ cs=>gA P T (cs.drop off)|_=>none
  |_=>none
def kZ(P:Program)(s:aB):List ResultVar->Option (List AV)
 |[]=>some []
 |x::l=>match mN P s x,kZ P s l with|some y,some r=>some (y::r)|_,_=>none
def AV.bZ:AV->Bool
 |.tup _=>false
 |_=>true
def eE(P:Program)(s:aB)(l:List ResultVar):Option AV:=
 match kZ P s l with
 |some [x]=>some x
 |some r=>if r.all AV.bZ then some (.tup r)else none
 |none=>none
theorem Vw.VM(h:V.av v x)(hx:x.bZ=true):V.oq v x:=by
 cases x with
 |tup l=>cases hx
 |_=>exact h
def Iw(tmps:Array Value):ResultVar->Sem Value
 |.tmp t=>pure (tmps.getD t undef)
 |.cell a t=>do loadVar t (<-asAddr (tmps.getD a undef))
theorem It(fn:Func)(tmps:Array Value):results fn tmps=(do let vs <-fn.results.mapM (Iw tmps);pure (if h:vs.size=1 then vs[0]else .tuple vs)):=by
 rfl
section
variable {c:Ctx}{F:Nat->Prop}{β:Key->Nat}{s:aB}{a:Act}{w:World}
theorem Oi(h:aD c F β s a w){x:ResultVar}(hr:mN c.P s x=some y):
 ∃v,(Iw a.tmps x).run c.P w=.ok v w/\(Vw.mk F β s.lv w).av v y:=by
 cases x with
 |tmp t=>
  simp only[mN,ah]at hr;subst hr;exact⟨a.tmps.getD t undef,rfl,h.fr t⟩
 |cell b T=>
  simp only[mN]at hr;split at hr
  ·rename_i k off he
   split at hr
   ·rename_i own fz T' cs hk
    have h1:=h.fr b;rw[he]at h1;obtain⟨h1,_⟩:=h1;simp only[Vw.dn,hk]at h1;have hb:=h.bK k;unfold Vw.bK at hb;simp only[hk]at hb;obtain⟨arr,h2,h3,h4,_⟩:=hb
    obtain⟨v,h5,h6⟩:=rX (P:=c.P) (T:=T) (Vw.mk F β s.lv w) (b:=β k) (o:=off) hr (λi=>arr.getD (off+i) undef)
     (λi hi=>by
      have hi':off+i<arr.size:=by simp at hi;omega
      rw[eP h2 hi'];simp_all)
     (λi hi=>by
      have hi':off+i<arr.size:=by simp at hi;omega
      simp_all)
    refine⟨v,?_,h6⟩;simp only[Instr.loadAt,Instr.sureAddr,mT,aer,sr]at h5;show(do loadVar T (<-asAddr (a.tmps.getD b undef)):Sem Value).run c.P w=.ok v w;rw[h1];simp only[asAddr,mT,aer,sr];exact h5
   grind
  grind
theorem D0(h:aD c F β s a w):∀{l:List ResultVar}{ys:List AV},kZ c.P s l=some ys ->
 ∃vs:List Value,(l.mapM (Iw a.tmps)).run c.P w=.ok vs w/\vs.length=ys.length /\
  ∀i (h:i<ys.length) (h':i<vs.length),(Vw.mk F β s.lv w).av vs[i] ys[i]
 |[],ys,hr=>by simp only[kZ,ah]at hr;simp_all
 |x::l,ys,hr=>by
  simp only[kZ]at hr;split at hr
  ·rename_i y r' h1 h2
   simp only[ah]at hr;subst hr;obtain⟨v,h3,h4⟩:=Oi h h1;obtain⟨vs,h5,h6,h7⟩:=D0 h h2;refine⟨v::vs,?_,by simp[h6],λi p q=>?_⟩
   ·simp_all
   grind
  grind
theorem uh(h:aD c F β s a w)(hr:eE c.P s fn.results.toList=some y):∃v,(results fn a.tmps).run c.P w=.ok v w/\(Vw.mk F β s.lv w).av v y:=by
 unfold eE at hr
 have key:∀ys,kZ c.P s fn.results.toList=some ys->∃vs:Array Value,(results fn a.tmps).run c.P w=.ok (if h:vs.size=1 then vs[0]else .tuple vs) w/\vs.size=ys.length /\
  ∀i (h:i<ys.length) (h':i<vs.size),(Vw.mk F β s.lv w).av vs[i] ys[i]:=by
  intro ys hys;obtain⟨vs,h1,h2,h3⟩:=D0 h hys;refine⟨vs.toArray,?_,by omega,λi p q=>by grind⟩;rw[It,mT,Array.mapM_eq_mapM_toList,map_eq_pure_bind,mT,h1];rfl
 split at hr
 ·grind
 ·rename_i ys hne hys
  split at hr
  ·rename_i hall
   simp only[ah]at hr;subst hr;obtain⟨vs,h1,h2,h3⟩:=key _ hys
   have h2':vs.size≠1:=λe=>by
    rw[e]at h2
    match ys,h2,hne with
    |[x],_,hne=>exact hne x rfl
   rw[dif_neg h2']at h1;rw[adV]at hall;exact⟨_,h1,vs,rfl,h2,λi p q=>Vw.VM (h3 i p q) (hall _ (aT p))⟩
  grind
 grind
end
def Fin(c:Ctx)(fn:Func)(x:AV)(σ' ν:List LB):Ex->aB->Nat->Prop
 |.normal,s,_|.ret,s,_=>∃s2 g,fD c s s2 g/\s2.lv=bL σ' ν/\eE c.P s2 fn.results.toList=some x
 |_,_,_=>False
theorem yT{vs:Array Value}{Q:Ex->aB->Nat->Prop}{K:Ending->World->Prop}
 (hf:P.funcs[f]?=some fn) (hb:fn.body=some code) (hl:args.length<=fn.ntmps) (hS:di (dW P G w F β lv) F β lv w) (hvl:vs.size=args.length) (hv:∀i (h:i<args.length) (h':i<vs.size),(Vw.mk F β lv w).av vs[i] args[i])
 (h:AW { dW P G w F β lv with n:=fn.ntmps } none code ⟨λt=>args.getD t .undef,lv⟩ κ Q) (hQ:∀e s κ,Q e s κ->e=.normal\/e=.ret)
 (fin:∀e s κ F' β' a w',Q e s κ->aD { dW P G w F β lv with n:=fn.ntmps } F' β' s a w'->a.defers=[]/\∃v,(results fn a.tmps).run P w'=.ok v w'/\K (.returned v) w'):Calls P f vs w K:=by
 refine calls_of_wp hf hb ?_
 let c:Ctx:={ dW P G w F β lv with n:=fn.ntmps }
 have hS':di c F β lv w:=hS
 let a:Act:={ tmps:=vs++Array.replicate (fn.ntmps-vs.size) undef,defers:=[] }
 have hst:aD c F β ⟨λt=>args.getD t .undef,lv⟩ a w:=by
  refine hS'.with ?_ rfl (λt=>?_)
  ·grind
  ·show(Vw.mk F β lv w).av ((vs++Array.replicate (fn.ntmps-vs.size) undef).getD t undef) (args.getD t .undef)
   by_cases ht:t<args.length
   ·have h1:args.getD t .undef=args[t]:=dP ht
    have h2:(vs++Array.replicate (fn.ntmps-vs.size) undef).getD t undef=vs[t]'(by omega):=by
     rw[ae3,agM (by omega),afd (by omega)];rfl
    grind
   ·have h1:args.getD t .undef=.undef:=gz ht
    have h2:(vs++Array.replicate (fn.ntmps-vs.size) undef).getD t undef=undef:=by
     rw[ae3,ag1 (by omega),agv];split<;>rfl
    rw[h1,h2];rfl
 have hw:=(wpIn_wide (n:=0)).1 (h F β a w hst);refine wp_mono hw λe a' w' hp=>?_;obtain⟨e',s',κ',F',β',hq,hs',he⟩:=hp;rcases hQ e' s' κ' hq with rfl|rfl
 ·cases he;exact fin _ _ _ _ _ _ _ hq hs'
 ·cases he;exact fin _ _ _ _ _ _ _ hq hs'
theorem aI.mw(hf:P.funcs[f]?=some fn)(hb:fn.body=some code)(hl:args.length<=fn.ntmps)
 (h:∀c:Ctx,c.P=P->c.G=G->c.n=fn.ntmps->c.iN=bL σ []->AW c none code ⟨λt=>args.getD t .undef,bL σ []⟩ 1000 (Fin c fn x σ' ν)):aI P G f args σ (.ret x σ' ν):=by
 intro F β w vs hS hvl hv;refine yT hf hb hl hS hvl hv (h _ rfl rfl rfl rfl) (λe s κ hq=>by cases e<;>first|exact .inl rfl|exact .inr rfl|exact hq.elim) λe s' κ F' β' a' w' hq hs'=>?_;obtain⟨s2,g,h1,h2,h3⟩:∃s2 g,fD _ s' s2 g/\s2.lv=bL σ' ν/\eE P s2 fn.results.toList=some x:=by cases e<;>first|exact hq|exact hq.elim
 have hs2:=hs'.coarse h1;obtain⟨v,h4,h5⟩:=uh hs2 h3;refine⟨hs'.defers,v,h4,v,F',λk=>β' (g k),rfl,?_,?_⟩
 ·have:=hs2.uD;rw[h2]at this;exact this
 grind
def LB.okB:LB->Bool
 |.cells own fz _ _=>!own&&!fz
 |.map own _=>!own
 |_=>true
def cD(lv:Key->LB):Prop:=∀k,(lv k).okB=true
inductive TY where
 |ret (x:AV) (lv:Key->LB)
 |uR (d:DV) (lv:Key->LB)
def YS(P:Program)(G:List (List DV))(lv:Key->LB)(F:Nat->Prop)(β:Key->Nat)(w:World)(o:TY)(e:Ending)(w':World):Prop:=
 match o with
 |.ret x lv'=>∃v F' β',e=.returned v/\di (dW P G w F β lv) F' β' lv' w'/\(Vw.mk F' β' lv' w').av v x
 |.uR d lv'=>∃v F' β',e=.panicked [{ v:=v,recovered:=false }]/\di (dW P G w F β lv) F' β' lv' w'/\Rd (m9 w' F') v d
def aW(P:Program)(G:List (List DV))(f:FuncId)(args:List AV)(lv:Key->LB)(o:TY):Prop:=
 ∀(F:Nat->Prop) (β:Key->Nat) (w:World) (vs:Array Value),di (dW P G w F β lv) F β lv w->vs.size=args.length ->
  (∀i (h:i<args.length) (h':i<vs.size),(Vw.mk F β lv w).av vs[i] args[i])->Calls P f vs w (YS P G lv F β w o)
section
variable {c:Ctx}{F:Nat->Prop}{β:Key->Nat}{s:aB}{a:Act}{w:World}
theorem aD.yV(h:aD c F β s a w)(ho:cD s.lv):di (dW c.P c.G w F β s.lv) F β s.lv w:=by
 refine⟨?_,h.inj,λ_=>trivial,rfl,rfl,λb hb=>⟨(h.ox b hb).1,.inl hb⟩,λ_ hb=>hb,λ_ _ _=>rfl,bh _,h.qP,λk _=>.inr ⟨rfl,LB.bE _⟩,λ_=>bh _,⟨rfl,rfl⟩⟩;intro k;have hb:=h.bK k;have hp:=ho k;unfold Vw.bK at hb ⊢
 cases e:s.lv k with
 |cells own fz T cs=>
  rw[e]at hp;simp only[LB.okB,rP,aee]at hp;simp only[e]at hb ⊢;obtain⟨arr,b1,b2,b3,b4,b5⟩:=hb;refine⟨arr,b1,b2,b3,b4,?_⟩;rw[hp.1];simp only[eU,aeF,if_false];exact .inr ⟨k,by rw[e,hp.2];rfl,rfl⟩
 |map own es=>
  rw[e]at hp;simp only[LB.okB,aee]at hp;simp only[e]at hb ⊢;obtain⟨ents,clock,b1,b2,b3,b4,b5⟩:=hb;refine⟨ents,clock,b1,b2,b3,b4,?_⟩;rw[hp];simp only[eU,aeF,if_false];exact .inr ⟨k,by rw[e];rfl,rfl⟩
 |hole=>grind
 |dead=>grind
 |nils=>grind
theorem Vw.Jy{c c':Ctx}(h:∀o,eU c o (V.β k)->eU c' o (V.β k))(hb:V.bK c k):V.bK c' k:=by
 unfold Vw.bK at *
 grind
theorem aD.Fy(h:aD c F β s a w){F':Nat->Prop}{β':Key->Nat}{w':World}
 (hx:di (dW c.P c.G w F β s.lv) F' β' lv' w'):aD c F' β' ⟨s.fr,lv'⟩ a w':=by
 have hF:∀b,F b->F' b:=hx.F0;have hold:∀b,b<w.heap.size->¬(∃k,(s.lv k).live=true/\β k=b)->w'.heap[b]?=w.heap[b]?:=hx.old;have hkeep:∀k,s.lv k≠.hole->lv' k=.dead\/(β' k=β k/\(s.lv k).sub (lv' k)):=hx.keep;have hge:=h.ge;refine h.step (hoo:=hx.Ey) hF ?_ ?_ ?_ hx.IQ ?_ hx.inj ?_ hx.ge ?_
 ·intro b hb;refine hold b (h.ox b hb).1 ?_;rintro⟨k,hk,rfl⟩;exact h.ny hk hb
 ·intro k
  by_cases h0:s.lv k=.hole
  ·rw[h0];simp[LB.sub]
  ·rcases hkeep k h0 with hd|⟨_,hs⟩
   ·rw[hd];cases s.lv k<;>simp[LB.sub]
   omega
 ·grind
 ·intro k _;refine Vw.Jy ?_ (hx.bK k);intro o ho;unfold eU at ho ⊢;have ho':if o=true then w.heap.size<=β' k else w.heap.size<=β' k\/∃j,(s.lv j).live=true/\β j=β' k:=ho
  cases o with
  |true=>grind
  |false=>
   simp only[aeF,if_false]at ho' ⊢;rcases ho' with h1|⟨j,hj,hj2⟩
   ·omega
   ·have:=h.ga hj
    grind
 ·intro b hb;rcases(hx.ox b hb).2 with h1|h1
  ·exact .inl h1
  ·have h1':w.heap.size<=b:=h1;exact .inr ⟨(hx.ox b hb).1,Ju hge h1'⟩
 ·intro b hb hnW;refine hold b (aeB hb hge) ?_;rintro⟨k,hk,rfl⟩;rcases h.ga hk with h1|h1
  ·omega
  grind
def VO(c:Ctx)(o:Oper)(s:aB)(d:DV)(s':aB):Prop:=
 ∀(F:Nat->Prop) (β:Key->Nat) (a:Act) (w:World) (K:Act->World->Prop) (Q:Exit->Act->World->Prop),aD c F β s a w ->
  (∀F' β' v a' w',aD c F' β' s' a' w'->Rd (m9 w' F') v d->Q (.panic [{ v:=v,recovered:=false }]) a' w')->o.wp c.P a w K Q
theorem Eu(h:aD c F β s a w)(ho:o.op=.call cl)(ht:nR c.P (s.val c.G) cl.callee=some (f,fs,cs))(hf:aJ c.P f=true)
 (hK:∀vs:Array Value,vs.size=(fs++cl.args.toList.map (s.val c.G)++cs).length->(∀i (h:i<(fs++cl.args.toList.map (s.val c.G)++cs).length) (h':i<vs.size),(Vw.mk F β s.lv w).av vs[i] (fs++cl.args.toList.map (s.val c.G)++cs)[i]) ->
  Calls c.P f vs w λe w'=>(∃v,e=.returned v/\K (a.put o.dst v) w')\/∃ch,e=.panicked ch/\Q (.panic ch) a w'):o.wp c.P a w K Q:=by
 obtain⟨vs,hr,h1,h2⟩:=Es h ho ht hf;have hc:=hK _ h1 h2;unfold Oper.wp;rw[hr,Oper.upon_enter];refine hc.mono λe w' he=>?_;rcases he with⟨v,rfl,hk⟩|⟨ch,rfl,hk⟩<;>exact hk
theorem aW.UF(hd:∀d,o.dst=some d->d<c.n)(ho:o.op=.call cl)(ht:nR c.P (s.val c.G) cl.callee=some (f,fs,cs))(hf:aJ c.P f=true)(hok:cD s.lv)(hc:aW c.P c.G f (fs++cl.args.toList.map (s.val c.G)++cs) s.lv (.ret x lv')):
 bT c o s (aB.put ⟨s.fr,lv'⟩ o.dst x):=by
 intro F β a w K Q h hK;refine Eu h ho ht hf λvs hl hv=>?_;refine(hc F β w vs (h.yV hok) hl hv).mono λe w' he=>?_;obtain⟨v,F',β',rfl,hS,hav⟩:=he;exact .inl ⟨v,rfl,hK _ _ _ _ (aD.CS (h.Fy hS) hd hav)⟩
theorem aW.abN{d:DV}(ho:o.op=.call cl)(ht:nR c.P (s.val c.G) cl.callee=some (f,fs,cs))(hf:aJ c.P f=true)(hok:cD s.lv)(hc:aW c.P c.G f (fs++cl.args.toList.map (s.val c.G)++cs) s.lv (.uR d lv')):
 VO c o s d ⟨s.fr,lv'⟩:=by
 intro F β a w K Q h hK;refine Eu h ho ht hf λvs hl hv=>?_;refine(hc F β w vs (h.yV hok) hl hv).mono λe w' he=>?_;obtain⟨v,F',β',rfl,hS,hav⟩:=he;exact .inr ⟨_,rfl,hK _ _ v _ _ (h.Fy hS) hav⟩
end
def RO(c:Ctx)(fn:Func):TY->Ex->aB->Nat->Prop
 |.ret x lv',.normal,s,_|.ret x lv',.ret,s,_=>eE c.P s fn.results.toList=some x/\s.lv=lv'
 |.uR d lv',.panic d',s,_=>d'=d/\s.lv=lv'
 |_,_,_,_=>False
theorem aW.mw{o:TY}(hf:P.funcs[f]?=some fn)(hb:fn.body=some code)(hl:args.length<=fn.ntmps)
 (h:∀c:Ctx,c.P=P->c.G=G->c.n=fn.ntmps->c.iN=lv->AW c none code ⟨λt=>args.getD t .undef,lv⟩ κ (RO c fn o)):aW P G f args lv o:=by
 intro F β w vs hS hvl hv;refine calls_of_wp hf hb ?_
 let c:Ctx:={ dW P G w F β lv with n:=fn.ntmps }
 have hS':di c F β lv w:=hS
 let a:Act:={ tmps:=vs++Array.replicate (fn.ntmps-vs.size) undef,defers:=[] }
 have hst:aD c F β ⟨λt=>args.getD t .undef,lv⟩ a w:=by
  refine hS'.with ?_ rfl (λt=>?_)
  ·grind
  ·show(Vw.mk F β lv w).av ((vs++Array.replicate (fn.ntmps-vs.size) undef).getD t undef) (args.getD t .undef)
   by_cases ht:t<args.length
   ·have h1:args.getD t .undef=args[t]:=dP ht
    have h2:(vs++Array.replicate (fn.ntmps-vs.size) undef).getD t undef=vs[t]'(by omega):=by
     rw[ae3,agM (by omega),afd (by omega)];rfl
    grind
   ·have h1:args.getD t .undef=.undef:=gz ht
    have h2:(vs++Array.replicate (fn.ntmps-vs.size) undef).getD t undef=undef:=by
     rw[ae3,ag1 (by omega),agv];split<;>rfl
    rw[h1,h2];rfl
 have hw:=(wpIn_wide (n:=0)).1 (h c rfl rfl rfl rfl F β a w hst);refine wp_mono hw λe a' w' hp=>?_;obtain⟨e',s',κ',F',β',hq,hs',he⟩:=hp
 cases o with
 |ret x lv'=>
  have fin:eE c.P s' fn.results.toList=some x/\s'.lv=lv'->a'.defers=[]/\∃v,(results fn a'.tmps).run P w'=.ok v w'/\YS P G lv F β w (.ret x lv') (.returned v) w':=by
   rintro⟨h0,h1⟩;obtain⟨v,h4,h5⟩:=uh hs' h0;subst h1;exact⟨hs'.defers,v,h4,v,F',β',rfl,hs'.uD,h5⟩
  cases e' with
  |normal=>cases he;exact fin hq
  |ret=>cases he;exact fin hq
  |exit id=>exact hq.elim
  |goto l=>exact hq.elim
  |panic d=>exact hq.elim
 |uR d lv'=>
  cases e' with
  |normal=>exact hq.elim
  |ret=>exact hq.elim
  |exit id=>exact hq.elim
  |goto l=>exact hq.elim
  |panic d'=>
   obtain⟨rfl,h1⟩:=hq;subst h1;obtain⟨v,rfl,hr⟩:=he;exact⟨hs'.defers,v,F',β',rfl,hs'.uD,hr⟩
section
variable {c:Ctx}{F:Nat->Prop}{β:Key->Nat}{s:aB}{a:Act}{w:World}
def uB(lv:Key->LB):AV->Option Bool
 |.c (.ptr k _)=>match lv k with|.cells ..=>some false|_=>none
 |.c (.aH k _ _ _)=>match lv k with|.cells ..=>some false|.nils=>some true|_=>none
 |.c (.mapr k)=>match lv k with|.map ..=>some false|_=>none
 |.c (.d .nilmap)=>some true
 |.c (.func ..)=>some false
 |.c (.d (.func ..))=>some false
 |.c (.d .nilFunc)=>some true
 |.c (.ifc ..)=>some false
 |_=>none
def Ke:AV->AV->Bool
 |.c (.ptr ..),.c (.d .nilp)=>true
 |.c (.aH ..),.c (.d .nilsl)=>true
 |.c (.mapr _),.c (.d .nilmap)=>true
 |.c (.d .nilmap),.c (.d .nilmap)=>true
 |.c (.func ..),.c (.d .nilFunc)=>true
 |.c (.d (.func ..)),.c (.d .nilFunc)=>true
 |.c (.d .nilFunc),.c (.d .nilFunc)=>true
 |.c (.ifc ..),.c (.d .nilIface)=>true
 |_,_=>false
def yc(P:Program)(T:TypeId):AV->Bool
 |.c (.ptr ..)=>match P.underlying T with|some (.pointer _)=>true|_=>false
 |.c (.aH ..)=>match P.underlying T with|some (.slice _)=>true|_=>false
 |.c (.mapr _)|.c (.d .nilmap)=>match P.underlying T with|some (.map _ _)=>true|_=>false
 |.c (.func ..)|.c (.d (.func ..))|.c (.d .nilFunc)=>match P.underlying T with|some (.func _ _ _)=>true|_=>false
 |.c (.ifc ..)=>match P.underlying T with|some (.interface _)=>true|_=>false
 |_=>false
def WB:AV->List Key
 |.c (.ptr k _)=>[k]
 |.c (.aH k ..)=>[k]
 |.c (.mapr k)=>[k]
 |_=>[]
theorem od{w:World}{x y:Operand}(hE:∀m,(Op.equalIn (m+1) T u v).run P w=.ok b w)
 (h1:binOp .eql T u v=(do pure (.bool (<-Op.equal T u v)))) (h2:binOp .neq T u v=(do pure (.bool (!(<-Op.equal T u v))))) (h3:eqGuard .eql T x y u v=pure ()) (h4:eqGuard .neq T x y u v=pure ()) :
 (do eqGuard .eql T x y u v;binOp .eql T u v:Sem Value).run P w=.ok (.bool b) w/\(do eqGuard .neq T x y u v;binOp .neq T u v:Sem Value).run P w=.ok (.bool (!b)) w:=by
 have hq:(Op.equal T u v).run P w=.ok b w:=hE 9999
 simp_all
theorem LA{x y:Operand}{p q:AV}(hu:V.av u p)(hv:V.av v q)(hn:uB V.lv p=some b)(hq:Ke p q=true)(hT:yc P T p=true):
 (do eqGuard .eql T x y u v;binOp .eql T u v:Sem Value).run P V.w=.ok (.bool b) V.w/\(do eqGuard .neq T x y u v;binOp .neq T u v:Sem Value).run P V.w=.ok (.bool (!b)) V.w:=by
 unfold Ke at hq;split at hq
 case h_1 k o=>
  simp only[uB]at hn;split at hn
  ·rename_i e
   simp only[ah]at hn;subst hn;obtain⟨hu,_⟩:=hu;simp only[Vw.dn,e]at hu;obtain⟨hv,_⟩:=hv
   cases hv
   subst hu;simp only[yc]at hT;split at hT
   ·rename_i e hT'
    exact od (λm=>by simp[Op.equalIn,run_underlying hT']) rfl rfl rfl rfl
   grind
  grind
 case h_2 k o l z=>
  simp only[uB]at hn;obtain⟨hv,_⟩:=hv
  cases hv
  obtain⟨hu,_⟩:=hu;simp only[yc]at hT;split at hT
  ·rename_i e hT'
   split at hn
   ·rename_i e
    simp only[ah]at hn;subst hn;simp only[Vw.cx,e]at hu;obtain⟨cap,rfl,_⟩:=hu;exact od (λm=>by simp[Op.equalIn,run_underlying hT']) rfl rfl rfl rfl
   ·rename_i e
    simp only[ah]at hn;subst hn;simp only[Vw.cx,e]at hu;rw[hu.1];exact od (λm=>by simp[Op.equalIn,run_underlying hT']) rfl rfl rfl rfl
   grind
  grind
 case h_3 k=>
  simp only[uB]at hn;split at hn
  ·rename_i e
   simp only[ah]at hn;subst hn;obtain⟨hu,_⟩:=hu;simp only[Vw.lM,e]at hu;obtain⟨hv,_⟩:=hv
   cases hv
   subst hu;simp only[yc]at hT;split at hT
   ·rename_i e hT'
    exact od (λm=>by simp[Op.equalIn,run_underlying hT']) rfl rfl rfl rfl
   grind
  grind
 case h_4=>
  simp only[uB,ah]at hn;subst hn;obtain⟨hu,_⟩:=hu;cases hu;obtain⟨hv,_⟩:=hv;cases hv;simp only[yc]at hT;split at hT
  ·rename_i e hT'
   exact od (λm=>by simp[Op.equalIn,run_underlying hT']) rfl rfl rfl rfl
  grind
 case h_5 fn f cs=>
  simp only[uB,ah]at hn;subst hn;obtain⟨_,_,rfl,_⟩:=hu;obtain⟨hv,_⟩:=hv;cases hv;simp only[yc]at hT;split at hT
  ·rename_i e hT'
   exact od (λm=>by simp[Op.equalIn,run_underlying hT']) rfl rfl rfl rfl
  grind
 case h_6 fn f cs=>
  simp only[uB,ah]at hn;subst hn;obtain⟨hu,_⟩:=hu;cases hu;obtain⟨hv,_⟩:=hv;cases hv;simp only[yc]at hT;split at hT
  ·rename_i e hT'
   exact od (λm=>by simp[Op.equalIn,run_underlying hT']) rfl rfl rfl rfl
  grind
 case h_7=>
  simp only[uB,ah]at hn;subst hn;obtain⟨hu,_⟩:=hu;cases hu;obtain⟨hv,_⟩:=hv;cases hv;simp only[yc]at hT;split at hT
  ·rename_i e hT'
   exact od (λm=>by simp[Op.equalIn,run_underlying hT']) rfl rfl rfl rfl
  grind
 case h_8 t r=>
  simp only[uB,ah]at hn;subst hn;obtain⟨_,rfl,_⟩:=hu;obtain⟨hv,_⟩:=hv;cases hv;simp only[yc]at hT;split at hT
  ·rename_i e hT'
   exact od (λm=>by simp[Op.equalIn,run_underlying hT']) rfl rfl rfl rfl
  grind
 grind
theorem Bx{op:BinOp}{T':TypeId}{x y:Operand}(hd:∀d,o.dst=some d->d<c.n)(ho:o.op=.binOp op T x y T')(hop:op=.eql\/op=.neq)
 (hn:uB s.lv (s.val c.G x)=some b) (hq:Ke (s.val c.G x) (s.val c.G y)=true) (hT:yc c.P T (s.val c.G x)=true) :
 bT c o s (s.put o.dst (.c (.d (.bool (if op=.eql then b else !b))))):=
 bT.aX hd λF β a w hs=>by
  have h:=LA (V:=Vw.mk F β s.lv w) (P:=c.P) (T:=T) (x:=x) (y:=y) (hs.val x) (hs.val y) hn hq hT;rcases hop with rfl|rfl
  ·exact⟨.bool b,by simp only[execOp,ho];have:=h.1;simp only[mT]at this ⊢;simp_all,Vw.ob _ _⟩
  ·exact⟨.bool (!b),by simp only[execOp,ho];have:=h.2;simp only[mT]at this ⊢;simp_all,Vw.ob _ _⟩
end
end Go.Am
namespace Go.Am
open Go.Lib
variable {T e T' ty pt it kT eT t:TypeId}{d:DV}{o:Oper}{x y:AV}{k κ:Key}{own ok b fz:Bool}{l:List UInt8}{n sz off:Nat}{cs:List CV}{v z:Value}{es:List (DV×AV)}{i:TypeInfo}{V:Vw}{P:Program}{m kx:Operand}{vals:List AV}{ds:List DV}{lo hi:Option Operand}{h:Int}{op:Op}
def bl(l:List UInt8):List CV:=l.map λb=>.d (.int .u8 (b.toNat:Int))
theorem cQ(l:List UInt8):(bl l).length=l.length:=by simp[bl]
theorem NU(b:UInt8):IntKind.u8.wrap (b.toNat:Int)=(b.toNat:Int):=by
 refine cj ?_;have:=UInt8.toNat_lt b;simp only[wG,og];omega
section
variable {c:Ctx}{F:Nat->Prop}{β:Key->Nat}{s:aB}{a:Act}{w:World}
theorem S9(V:Vw)(b:UInt8):V.cv (.int .u8 (b.toNat:Int)) (.d (.int .u8 (b.toNat:Int))):=⟨.int _ _ (NU b),rfl⟩
theorem F6(l:List UInt8):strCells ⟨l.toArray⟩=l.map λb=>Value.int .u8 (b.toNat:Int):=by
 rfl
theorem yB(V:Vw)(l:List UInt8):∀i (h:i<(bl l).length) (h':i<(strCells ⟨l.toArray⟩).length),V.cv (strCells ⟨l.toArray⟩)[i] (bl l)[i]:=by
 intro i h h';simp only[F6,bl,ab5];exact S9 V _
theorem cZ(l:List UInt8):(ByteArray.mk l.toArray).size=l.length:=by rfl
theorem aD.rS(hs:aD c F β s a w)(hκ:s.lv κ=.hole)(hT:eW c.P T=some (e,1))(hT':cP c.P T'=true)
 (hi:c.P.info? e=some i) (hz:i.zero=some z) (hzs:z.cells.size=1) (h63:l.length<=9223372036854775807) (hb:l.length*i.bytes<=140737488355328) :
 ∃v F' β' w',(Builtin.append_ #[T,T'] ty #[.slice none 0 0,.string ⟨l.toArray⟩]).run c.P w=.ok v w' /\
  aD c F' β' ⟨s.fr,az s.lv κ (if l.length=0 then .nils else .cells true false e (bl l))⟩ a w' /\
  (Vw.mk F' β' (az s.lv κ (if l.length=0 then .nils else .cells true false e (bl l))) w').cv v (.aH κ 0 l.length 1):=by
 obtain⟨hu,hie,hsz⟩:=cN hT;have hsize:i.size=1:=by rw[<-hsz];simp[jf,hi]
 have hstr:=gb hT';have hf:=run_firstCells_string (P:=c.P) w 1 ⟨l.toArray⟩;rw[cZ]at hf
 by_cases hm:l.length=0
 ·have hl:l=[]:=afM hm;subst hl
  have hn:aD c F β ⟨s.fr,az s.lv κ .nils⟩ a w:=by
   refine hs.step (λ_ h=>h) (λ_ _=>rfl) ?_ (λ_ _ _=>rfl) (λ_=>bh _) ?_ ?_ (λb h=>.inl h) (bh _) (λ_ _ _=>rfl)
   ·intro k
    by_cases e:k=κ
    ·subst e;rw[hκ];simp[LB.sub]
    ·rw[aE _ _ e];exact LB.bE _
   ·intro k hK
    by_cases e:k=κ
    ·subst e;unfold Vw.bK;simp only[aA]
    ·exact Vw.bJ (hs.bK k) hK (aE _ _ e) rfl rfl (λ_ h=>h)
   ·intro k1 k2 g1 g2 he
    have g:∀k',(az s.lv κ .nils k').live=true->(s.lv k').live=true:=by
     intro k' hk'
     by_cases e:k'=κ
     ·subst e;rw[aA]at hk';simp[LB.live]at hk'
     ·rwa[aE _ _ e]at hk'
    exact hs.inj _ _ (g _ g1) (g _ g2) he
  refine⟨.slice none 0 0,F,β,w,?_,by simpa using hn,?_⟩
  ·simp at hf;simp[Builtin.append_,run_underlying hu,run_underlying hstr,sizeOf,typeInfo,hi,hsize,Builtin.lenOf,hf,cZ]
  ·simp[Vw.cv,Vw.cx,aA,Value.oneCell']
 ·have he:(Builtin.append_ #[T,T'] ty #[.slice none 0 0,.string ⟨l.toArray⟩]).run c.P w=(Builtin.append_ #[T,T'] ty #[.slice (some ⟨0,0,none⟩) 0 0,.string ⟨l.toArray⟩]).run c.P w:=by
   have h1:¬(9223372036854775807<(l.length:Int)):=by omega
   have h2:=growslice_fits (old:=0) (by omega:0<l.length) hb;simp[Builtin.append_,run_underlying hu,run_underlying hstr,sizeOf,typeInfo,hi,hsize,Builtin.lenOf,cZ,hm,Builtin.firstCells,loadCells,loadCellsFrom,Nat.not_lt.2 h2]
  have hr:=run_append_grow_string (P:=c.P) w T T' ty e i z hu hstr hi hz ⟨0,0,none⟩ 0 0 [] (by simp) (by simp) ⟨l.toArray⟩ (by rw[cZ];omega) (by rw[cZ];omega) (by
   rw[cZ];simpa using growslice_fits (old:=0) (by omega:0<l.length) hb)
  rw[<-he]at hr;simp only[cZ,aeC]at hr;have hd:aD c F β s a w.drew:=hs.heap rfl;have hge:=grownCap_ge w l.length 0 e
  have hal:=hd.alloc hκ (arr:=([]:List Value).toArray++(strCells ⟨l.toArray⟩).toArray++Builtin.zeroCells z.cells (grownCap w l.length 0 e-l.length)) e (cs:=bl l) (by simp[cQ,strCells_length,cZ]) (λj p q=>by
   have hj:j<(strCells ⟨l.toArray⟩).length:=by rw[strCells_length,cZ];rw[cQ]at p;exact p
   have:(([]:List Value).toArray++(strCells ⟨l.toArray⟩).toArray++Builtin.zeroCells z.cells (grownCap w l.length 0 e-l.length))[j]=(strCells ⟨l.toArray⟩)[j]:=by
    rw[afc (by simpa using hj)];simp
   rw[this];exact yB _ _ _ _ _)
  refine⟨_,F,az β κ w.heap.size,_,hr,by simpa[hm]using hal,?_⟩;simp only[hm,if_false,Vw.cv,Vw.cx,aA];refine⟨⟨_,rfl,hge,?_⟩,rfl⟩;simp only[cz,heap_alloc,agq,if_true,af6,afN,size_zeroCells,strCells_length,cZ,hzs,List.length_nil];omega
theorem aD.r7(hs:aD c F β s a w)(hκ:s.lv κ=.hole)(hT:eW c.P T=some (e,1))(hT':cP c.P T'=true)
 (hi:c.P.info? e=some i) (hz:i.zero=some z) {y:Operand}(hy:s.val c.G y=.c (.aH k 0 n 1)) (hk:s.lv k=.cells own false e cs) (hfull:cs.length=n)
 (hzs:z.cells.size=1) (h63:n+l.length<=9223372036854775807) (hb:(n+l.length)*i.bytes<=140737488355328) :
 ∃v F' β' w',(Builtin.append_ #[T,T'] ty #[a.eval y,.string ⟨l.toArray⟩]).run c.P w=.ok v w' /\
  aD c F' β' ⟨s.fr,az (az s.lv k .dead) κ (.cells own false e (cs++bl l))⟩ a w' /\
  (Vw.mk F' β' (az (az s.lv k .dead) κ (.cells own false e (cs++bl l))) w').cv v (.aH κ 0 (n+l.length) 1):=by
 obtain⟨hu,hie,hsz⟩:=cN hT;have hsize:i.size=1:=by rw[<-hsz];simp[jf,hi]
 have hstr:=gb hT';have hkκ:k≠κ:=λe=>by grind
 have hv:=hy▸hs.val y;obtain⟨hv,_⟩:=hv;simp only[Vw.cx,hk]at hv;obtain⟨cap,DE,UI,hv3⟩:=hv;have hbk:=hs.bK k;unfold Vw.bK at hbk;simp only[hk]at hbk;obtain⟨arr,g1,g2,g3,g4,g5⟩:=hbk;have has:cz w (β k)=arr.size:=by simp[cz,g1]
 rw[has]at hv3;simp only[aeC,afC]at hv3;rw[DE];have hvl:(strCells ⟨l.toArray⟩).length=l.length:=by rw[strCells_length,cZ]
 have hbl:=cQ l
 by_cases hroom:n+l.length<=cap
 ·have hr:=run_append_room_string (P:=c.P) w T T' ty e i hu hstr hi hsize (β k) n cap arr g1 ⟨l.toArray⟩ (by rw[cZ];omega) (by rw[cZ];omega);rw[cZ]at hr
  have hseg:arr.toList.take n++strCells ⟨l.toArray⟩++arr.toList.drop (n+l.length)=ai arr.toList n (strCells ⟨l.toArray⟩):=by
   unfold ai;rw[hvl]
  rw[hseg]at hr;have hle:n+(strCells ⟨l.toArray⟩).length<=arr.toList.length:=by rw[hvl];simp;omega
  have hset:=hs.setRow (arr:=(ai arr.toList n (strCells ⟨l.toArray⟩)).toArray) hk g1 (cs':=cs) (by grind) (by grind) (λj p q=>by
   grind)
  have hsame:az s.lv k (.cells own false e cs)=s.lv:=by
   funext t;unfold az;split
   ·grind
   ·rfl
  rw[hsame]at hset
  have hK:(Vw.mk F β s.lv w).iX (Vw.mk F β s.lv (w.setRow (β k) (ai arr.toList n (strCells ⟨l.toArray⟩)).toArray)):=
   Vw.jl (λ_ h=>h) (λb hb=>setRow_other _ _ _ _ (λe=>by
    grind)) (λ_=>LB.bE _) (λ_ _ _=>rfl) (λb=>by rw[jt w (β k) arr _ e (0,0) g1 (by grind) b];simp)
  have hmv:=hset.move (k:=k) (κ:=κ) hk hκ (cs':=cs++bl l) (arr:=(ai arr.toList n (strCells ⟨l.toArray⟩)).toArray) (setRow_heap w _ arr _ e (0,0) g1) (by grind) (λj p q=>by
   simp only[af4];rw[eO _ _ _ hle j (by omega)]
   by_cases hj:j<n
   ·rw[dif_neg (by omega),ae5 (by omega)];simp only[afA];exact hK.cv (g3 _ _ _)
   ·rw[dif_pos ⟨by omega,by grind⟩,afj (by omega)];simp only[hfull];exact yB _ _ _ _ _)
  refine⟨_,_,_,_,hr,hmv,⟨?_,rfl⟩⟩;simp only[Vw.cx,aA];refine⟨cap,rfl,hroom,?_⟩;rw[jt w (β k) arr _ e (0,0) g1 (by grind)];omega
 ·have holds:∀j u,(arr.toList.take n)[j]?=some u->w.cell? ((⟨β k,0,none⟩:Addr).add j)=some u:=by
   intro j u hu;rw[agp]at hu;split at hu
   ·rw[agK]at hu;rw[ae4,cell_of_row w _ _ _ _ _ g1,aeC];exact hu
   ·cases hu
  have hn:n<=arr.size:=by omega
  have hr:=run_append_grow_string (P:=c.P) w T T' ty e i z hu hstr hi hz ⟨β k,0,none⟩ n cap (arr.toList.take n) (by grind) holds ⟨l.toArray⟩ (by rw[cZ];omega) (by rw[cZ];omega) (by rw[cZ];exact growslice_fits (by omega) hb);rw[cZ]at hr;have hd:aD c F β s a w.drew:=hs.heap rfl
  have hal:=(hd.kill k).alloc (κ:=κ) (by show az s.lv k .dead κ=_;rw[aE _ _ (Ne.symm hkκ)];exact hκ) (arr:=((arr.toList.take n).toArray++(strCells ⟨l.toArray⟩).toArray++Builtin.zeroCells z.cells (grownCap w (n+l.length) cap e-(n+l.length)))) e (cs:=cs++bl l)
   (by simp;omega) (λj p q=>by
    have hK2:(Vw.mk F β s.lv w).iX (Vw.mk F β (az s.lv k .dead) w.drew):=Vw.jl (λ_ h=>h) (λ_ _=>rfl) (λt=>by
     by_cases e:t=k
     ·subst e;show LB.sub (s.lv t) (az s.lv t .dead t);rw[aA];cases s.lv t<;>simp[LB.sub]
     ·show LB.sub (s.lv t) (az s.lv k .dead t);rw[aE _ _ e];exact LB.bE _) (λ_ _ _=>rfl) (λ_=>bh _)
    simp only[ad6]at p;have hto:(arr.toList.take n).length=n:=by simp;omega
    by_cases hj:j<n
    ·have e1:((arr.toList.take n).toArray++(strCells ⟨l.toArray⟩).toArray++Builtin.zeroCells z.cells (grownCap w (n+l.length) cap e-(n+l.length)))[j]=arr[j]'(by omega):=by
      rw[afc (by simp;omega),afc (by simp;omega)];simp
     rw[e1,ae5 (by omega)];exact hK2.cv (g3 _ _ _)
    ·have e1:((arr.toList.take n).toArray++(strCells ⟨l.toArray⟩).toArray++Builtin.zeroCells z.cells (grownCap w (n+l.length) cap e-(n+l.length)))[j]=(strCells ⟨l.toArray⟩)[j-n]'(by omega):=by
      rw[afc (by simp;omega),ag0 (by simp;omega)];simp[hto]
     rw[e1,afj (by omega)];simp only[hfull];exact yB _ _ _ _ _)
  have hun:=hal.om (k:=κ) own AR;rw[B9]at hun;refine⟨_,_,_,_,hr,hun,⟨?_,rfl⟩⟩;simp only[Vw.cx,aA];refine⟨_,rfl,grownCap_ge w (n+l.length) cap e,?_⟩;have hge:=grownCap_ge w (n+l.length) cap e;simp only[cz,heap_alloc,agq,if_true,af6,afN,size_zeroCells,hvl,hzs,aej,afJ];omega
end
section
variable {c:Ctx}{F:Nat->Prop}{β:Key->Nat}{s:aB}{a:Act}{w:World}
theorem ld{x y:Operand}(hd:∀d,o.dst=some d->d<c.n)
 (ho:o.op=.call { callee:=.builtin .append,args:=#[y,x],argTypes:=#[T,T'] }) (hκ:s.lv κ=.hole) (hy:s.val c.G y=.c (.d .nilsl)\/∃k,s.val c.G y=.c (.aH k 0 0 1)/\s.lv k=.nils) (hT:eW c.P T=some (e,1)) (hT':cP c.P T'=true)
 (hi:c.P.info? e=some i) (hz:i.zero=some z) (hx:s.val c.G x=.c (.d (.str l))) (hzs:z.cells.size=1) (h63:l.length<=9223372036854775807) (hb:l.length*i.bytes<=140737488355328) :
 bT c o s (aB.put ⟨s.fr,az s.lv κ (if l.length=0 then .nils else .cells true false e (bl l))⟩ o.dst (.c (.aH κ 0 l.length 1))):=
 bT.ef hd λF β a w hs=>by
  obtain⟨v,F',β',w',h1,h2,h3⟩:=hs.rS (ty:=o.type) hκ hT hT' hi hz hzs h63 hb;refine⟨v,F',β',w',?_,h2,h3⟩;have hxv:=Vw.kB (hx▸hs.val x)
  have hu:a.eval y=.slice none 0 0:=by
   rcases hy with hy|⟨k,hy,hk⟩
   ·have hv:=hy▸hs.val y;obtain⟨hv,_⟩:=hv;obtain⟨u,hu⟩:∃u,a.eval y=u:=⟨_,rfl⟩
    rw[hu]at hv ⊢
    cases hv;rfl
   ·have hv:=hy▸hs.val y;obtain⟨hv,_⟩:=hv;simp only[Vw.cx,hk]at hv
    grind
  simp[execOp,ho,resolve,invoke,builtin,hu,hxv,h1]
theorem sD{x y:Operand}(hd:∀d,o.dst=some d->d<c.n)
 (ho:o.op=.call { callee:=.builtin .append,args:=#[y,x],argTypes:=#[T,T'] }) (hκ:s.lv κ=.hole) (hT:eW c.P T=some (e,1)) (hT':cP c.P T'=true)
 (hi:c.P.info? e=some i) (hz:i.zero=some z) (hy:s.val c.G y=.c (.aH k 0 n 1)) (hk:s.lv k=.cells own false e cs) (hfull:cs.length=n)
 (hx:s.val c.G x=.c (.d (.str l))) (hzs:z.cells.size=1) (h63:n+l.length<=9223372036854775807) (hb:(n+l.length)*i.bytes<=140737488355328) :
 bT c o s (aB.put ⟨s.fr,az (az s.lv k .dead) κ (.cells own false e (cs++bl l))⟩ o.dst (.c (.aH κ 0 (n+l.length) 1))):=
 bT.ef hd λF β a w hs=>by
  obtain⟨v,F',β',w',h1,h2,h3⟩:=hs.r7 (ty:=o.type) (l:=l) hκ hT hT' hi hz hy hk hfull hzs h63 hb;have hxv:=Vw.kB (hx▸hs.val x);exact⟨v,F',β',w',by simp[execOp,ho,resolve,invoke,builtin,hxv,h1],h2,h3⟩
theorem AE{x:Operand}{len:Nat}{T0:TypeId}(hd:∀d,o.dst=some d->d<c.n)
 (ho:o.op=.call { callee:=.builtin .unsafeSliceData,args:=#[x],argTypes:=#[T] }) (hx:s.val c.G x=.c (.aH k off len sz)) (hk:s.lv k=.cells own fz T0 cs) (hlen:0<len) :
 bT c o s (s.put o.dst (.c (.ptr k off))):=
 bT.aX hd λF β a w hs=>by
  have hv:=hx▸hs.val x;obtain⟨hv,_⟩:=hv;simp only[Vw.cx,hk]at hv;obtain⟨cap,DE,UI,hv3⟩:=hv;refine⟨.pointer (some ⟨β k,off,none⟩),?_,?_⟩
  ·have:=run_unsafeSliceData_row (P:=c.P) w #[T] o.type ⟨β k,off,none⟩ len cap (by omega);simp[execOp,ho,resolve,invoke,builtin,DE,this]
  ·exact⟨by simp only[Vw.dn,hk],rfl⟩
theorem l7{x:Operand}(hd:∀d,o.dst=some d->d<c.n)
 (ho:o.op=.call { callee:=.builtin .unsafeSliceData,args:=#[x],argTypes:=#[T] }) (hx:s.val c.G x=.c (.d .nilsl)\/∃k,s.val c.G x=.c (.aH k 0 0 1)/\s.lv k=.nils) :
 bT c o s (s.put o.dst (.c (.d .nilp))):=
 bT.aX hd λF β a w hs=>by
  have hu:a.eval x=.slice none 0 0:=by
   rcases hx with hy|⟨k,hy,hk⟩
   ·have hv:=hy▸hs.val x;obtain⟨hv,_⟩:=hv;obtain⟨u,hu⟩:∃u,a.eval x=u:=⟨_,rfl⟩
    rw[hu]at hv ⊢
    cases hv;rfl
   ·have hv:=hy▸hs.val x;obtain⟨hv,_⟩:=hv;simp only[Vw.cx,hk]at hv
    grind
  refine⟨.pointer none,?_,.nilp,rfl⟩;simp[execOp,ho,resolve,invoke,builtin,hu,run_unsafeSliceData_nil]
theorem oI{x y:Operand}(hd:∀d,o.dst=some d->d<c.n)
 (ho:o.op=.call { callee:=.builtin .unsafeString,args:=#[x,y],argTypes:=#[pt,it] }) (hx:s.val c.G x=.c (.d .nilp)) (hy:s.val c.G y=.c (.d (.int .i64 0))) :
 bT c o s (s.put o.dst (.c (.d (.str [])))):=
 bT.aX hd λF β a w hs=>by
  have hv:=hx▸hs.val x;obtain⟨hv,_⟩:=hv;obtain⟨u,hu⟩:∃u,a.eval x=u:=⟨_,rfl⟩
  rw[hu]at hv;have hyv:=Vw.eV (hy▸hs.val y)
  cases hv
  refine⟨.string .empty,?_,?_⟩
  ·have:=run_unsafeString_none (P:=c.P) w pt it o.type none;simp[execOp,ho,resolve,invoke,builtin,hu,hyv,this]
  ·have:ByteArray.empty=⟨([]:List UInt8).toArray⟩:=rfl;rw[this];exact Vw.oY _ _ (by simp)
def mz:List CV->Option (List UInt8)
 |[]=>some []
 |.d (.int .u8 n)::r=>match n with
  |.ofNat m=>if m<256 then(match mz r with|some l=>some (UInt8.ofNat m::l)|none=>none)else none
  |_=>none
 |_=>none
theorem y9:∀{cs:List CV}{l:List UInt8},mz cs=some l->cs=bl l
 |[],l,h=>by simp only[mz,ah]at h;subst h;rfl
 |x::r,l,h=>by
  unfold mz at h;split at h
  ·grind
  ·rename_i n r' h0
   simp only[ad8]at h0;obtain⟨rfl,rfl⟩:=h0;split at h
   ·rename_i m
    split at h
    ·rename_i hm
     split at h
     ·rename_i l' hl
      simp only[ah]at h;subst h;have:=y9 hl;simp only[bl,adK]at this ⊢;rw[this];congr 3;have:(UInt8.ofNat m).toNat=m:=by simp[UInt8.toNat_ofNat'];omega
      grind
     grind
    grind
   grind
  grind
theorem aD.FP(h:aD c F β s a w)(hk:s.lv k=.cells own false T cs)(n:Nat):
 aD c F β ⟨s.fr,az s.lv k .dead⟩ a (w.freeze ⟨β k,0,none⟩ n):=by
 have hlive:(s.lv k).live=true:=by rw[hk];rfl
 have hoth:∀b,b≠β k->(w.freeze ⟨β k,0,none⟩ n).heap[b]?=w.heap[b]?:=by
  intro b hb;unfold World.freeze;split
  ·rfl
  ·grind
 have hsz:(w.freeze ⟨β k,0,none⟩ n).heap.size=w.heap.size:=by
  unfold World.freeze;split<;>simp
 have has:∀b,cz w b=cz (w.freeze ⟨β k,0,none⟩ n) b:=by
  intro b
  by_cases e:b=β k
  ·subst e;unfold World.freeze;split
   ·rfl
   ·simp only[cz,Array.getElem?_modify,if_true]
    grind
  ·simp only[cz,hoth b e]
 refine h.step (hoo:=by unfold World.freeze;grind) (λ_ h=>h) (λb hb=>hoth b (λe=>h.ny hlive (e▸hb))) ?_ (λ_ _ _=>rfl) (λb=>Nat.le_of_eq (has b)) ?_ ?_ (λb h=>.inl h) (Nat.le_of_eq hsz.symm) ?_
 ·intro k'
  by_cases e:k'=k
  ·subst e;rw[aA];cases s.lv k'<;>simp[LB.sub]
  ·rw[aE _ _ e];exact LB.bE _
 ·intro k' hK
  by_cases e:k'=k
  ·subst e;unfold Vw.bK;simp only[aA]
  ·have hb:=h.bK k'
   by_cases hl:(s.lv k').live=true
   ·exact Vw.bJ hb hK (aE _ _ e) rfl (hoth _ (λe'=>e (h.inj _ _ hl hlive e'))) (λ_ h=>h)
   ·cases ek:s.lv k' with
    |cells o fz T' cs'=>
     cases fz with
     |false=>rw[ek]at hl;exact absurd rfl hl
     |true=>
      have hF:F (β k'):=by unfold Vw.bK at hb;simp only[ek]at hb;obtain⟨_,_,_,_,h4,_⟩:=hb;exact h4
      exact Vw.bJ hb hK (aE _ _ e) rfl (hoth _ (λe'=>h.ny hlive (e'▸hF))) (λ_ h=>h)
    |map o es=>rw[ek]at hl;exact absurd rfl hl
    |hole=>unfold Vw.bK;simp only[aE _ _ e,ek]
    |dead=>unfold Vw.bK;simp only[aE _ _ e,ek]
    |nils=>unfold Vw.bK;simp only[aE _ _ e,ek]
 ·intro k1 k2 a1 a2 he
  have g:∀k',(az s.lv k .dead k').live=true->(s.lv k').live=true:=by
   intro k' hk'
   by_cases e:k'=k
   ·grind
   ·rwa[aE _ _ e]at hk'
  exact h.inj _ _ (g _ a1) (g _ a2) he
 ·intro b hb hnW;refine hoth b (λe=>?_);rcases h.ga hlive with h1|h1
  ·omega
  grind
theorem vK{x y:Operand}(hd:∀d,o.dst=some d->d<c.n)
 (ho:o.op=.call { callee:=.builtin .unsafeString,args:=#[x,y],argTypes:=#[pt,it] }) (hx:s.val c.G x=.c (.ptr k 0)) (hk:s.lv k=.cells own false e cs) (hy:s.val c.G y=.c (.d (.int .i64 l.length)))
 (hp:c.P.underlying pt=some (.pointer e)) (hc:c.P.cellsOf e=1) (hl:cs.take l.length=bl l) (h0:l≠[]) (h63:l.length<=9223372036854775807) :
 bT c o s (aB.put ⟨s.fr,az s.lv k .dead⟩ o.dst (.c (.d (.str l)))):=
 bT.ef hd λF β a w hs=>by
  have hv:=hx▸hs.val x;obtain⟨hv,_⟩:=hv;simp only[Vw.dn,hk]at hv;have hyv:=Vw.eV (hy▸hs.val y);have hb:=hs.bK k;unfold Vw.bK at hb;simp only[hk]at hb;obtain⟨arr,b1,b2,b3,b4,b5⟩:=hb
  have hll:l.length<=cs.length:=by
   have:=congrArg List.length hl;rw[aej,cQ]at this;omega
  have hcell:∀j x,l[j]?=some x->w.cell? ((⟨β k,0,none⟩:Addr).add j)=some (.int .u8 x.toNat):=by
   intro j x hj;obtain⟨hj1,hj2⟩:=List.getElem?_eq_some_iff.1 hj
   have h1:cs[j]'(by omega)=.d (.int .u8 (x.toNat:Int)):=by
    have h2:(cs.take l.length)[j]?=some (cs[j]'(by omega)):=by
     rw[agp,if_pos hj1,fy (by omega)]
    rw[hl,bl,aeP,hj]at h2;simpa using h2.symm
   have h3:=b3 j (by omega) (by omega);rw[h1]at h3;have h4:=Vw.eV (V:=Vw.mk F β s.lv w) h3
   have h5:(⟨β k,0,none⟩:Addr).add j=⟨β k,j,none⟩:=by
    unfold Addr.add;by_cases e:j=0
    ·simp
    ·simp[e]
   rw[h5,eP b1 (by omega),h4]
  have hr:=run_unsafeString_row (P:=c.P) w pt it o.type e hp hc (β k) arr.size (by simp[World.shape?,b1]) l h0 (by omega) h63 hcell;refine⟨.string ⟨l.toArray⟩,F,β,w.freeze ⟨β k,0,none⟩ l.length,?_,hs.FP hk l.length,Vw.oY _ _ h63⟩;simp[execOp,ho,resolve,invoke,builtin,hv,hyv,hr]
theorem zQ{S:TypeId}{x:Operand}(hd:∀d,o.dst=some d->d<c.n)(ho:o.op=.convert S T x)
 (hx:s.val c.G x=.c (.d (.str l))) (hS:cP c.P S=true) (hT:eW c.P T=some (e,1)) (he:c.P.underlying e=some (.int .u8)) (h63:l.length<=9223372036854775807) :
 bT c o s (s.put o.dst (.c (.d (.sl (l.map λb=>[.int .u8 (b.toNat:Int)]))))):=by
 have hput:s.put o.dst (.c (.d (.sl (l.map λb=>[.int .u8 (b.toNat:Int)]))))=aB.put ⟨s.fr,s.lv⟩ o.dst (.c (.d (.sl (l.map λb=>[.int .u8 (b.toNat:Int)])))):=rfl;rw[hput];refine bT.ef hd λF β a w hs=>?_;have hxv:=Vw.kB (hx▸hs.val x);obtain⟨hu,_,_⟩:=cN hT;have hstr:=gb hS;have hr:=Go.Lib.run_convert_string_bytes (P:=c.P) w S T e ⟨l.toArray⟩ hstr hu he;rw[cZ]at hr;have hold:∀b,b<w.heap.size->(bytesWorld w e ⟨l.toArray⟩).heap[b]?=w.heap[b]?:=λb hb=>bytesWorld_at_old w e _ b hb
 have hsz:=bytesWorld_size w e ⟨l.toArray⟩;have hge:=hs.ge
 have hst:aD c (λb=>F b\/b=w.heap.size) β s a (bytesWorld w e ⟨l.toArray⟩):=by
  refine hs.step (λ_ h=>.inl h) (λb hb=>hold b (hs.ox b hb).1) (λk=>LB.bE _) (λ_ _ _=>rfl) (λb=>?_) ?_ hs.inj (λb hb=>?_) (by omega) (λb hb _=>hold b (by omega))
  ·by_cases hb:b<w.heap.size
   ·simp only[cz,hold b hb];simp
   ·have:w.heap[b]?=none:=Array.getElem?_eq_none (by omega);simp[cz,this]
  ·intro k hK;have hb:=hs.bK k
   have hlt:(∃own fz T cs,s.lv k=.cells own fz T cs)\/(∃own es,s.lv k=.map own es)->β k<w.heap.size:=by
    unfold Vw.bK at hb;rintro(⟨o,fz,T,cs,e⟩|⟨o,es,e⟩)
    ·grind
    ·grind
   cases ek:s.lv k with
   |cells own fz T cs=>
    have:=hlt (.inl ⟨_,_,_,_,ek⟩);exact Vw.bJ hb hK rfl rfl (hold _ this) (λ_ hf=>hf.resolve_right (by grind))
   |map own es=>
    have:=hlt (.inr ⟨_,_,ek⟩);exact Vw.bJ hb hK rfl rfl (hold _ this) (λ_ hf=>hf.resolve_right (by grind))
   |hole=>unfold Vw.bK;grind
   |dead=>unfold Vw.bK;grind
   |nils=>unfold Vw.bK;grind
  ·grind
 refine⟨.slice (some ⟨w.heap.size,0,none⟩) l.length (grownCap w l.length 0 e),_,β,_,by simp[execOp,ho,hxv,hr],hst,?_,rfl⟩;have hcap:=grownCap_ge w l.length 0 e
 have key:=Rd.sl (M:=m9 (bytesWorld w e ⟨l.toArray⟩) (λb=>F b\/b=w.heap.size)) w.heap.size 0 (grownCap w l.length 0 e) 1 (l.map λb=>[DV.int .u8 (b.toNat:Int)]) (λi _=>.int .u8 (l.getD i 0).toNat)
  (by simp) (by grind) (by grind) ?_ (by intros;rfl) ?_
 ·rw[ab0]at key;exact key
 ·intro i hi j hj;simp at hi;refine⟨.inr rfl,?_⟩;have:=bytesWorld_cell w e ⟨l.toArray⟩ i (by rw[cZ];exact hi)
  grind
 ·intro i hi j hj;simp at hi hj;have hj0:j=0:=by omega
  subst hj0;simp only[ab5,aeQ];have:l.getD i 0=l[i]:=by rw[adS,fy hi];rfl
  rw[this];exact .int _ _ (NU _)
end
def Ep:DV->AV
 |.agg l=>.agg (l.map .d)
 |x=>.c (.d x)
theorem Vw.Ep(h:Rd V.mem v d):V.av v (Am.Ep d):=by
 cases h with
 |agg arr cs hl ho hr=>
  refine⟨arr,rfl,by grind,λi p q=>?_⟩;simp only[ab5];exact⟨hr i (by omega),ho i q⟩
 |_=>first
  |exact⟨.bool _,rfl⟩
  |exact⟨.int _ _ (by assumption),rfl⟩
  |exact⟨.str _ (by assumption),rfl⟩
  |exact⟨.nilp,rfl⟩
  |exact⟨.nilsl,rfl⟩
  |exact⟨.nilIface,rfl⟩
  |exact⟨.nilFunc,rfl⟩
  |exact⟨.nilmap,rfl⟩
  |exact⟨.ptr _ _ _ _ (by assumption) (by assumption) (by assumption),rfl⟩
  |exact⟨.sl0 _,rfl⟩
  |exact⟨.sl _ _ _ _ _ _ (by assumption) (by assumption) (by assumption) (by assumption) (by assumption) (by assumption),rfl⟩
  |exact⟨.iface _ _ _ (by assumption),rfl⟩
  |exact⟨.func _ _ _ _ _ (by assumption) (by assumption) (by assumption) (by assumption),rfl⟩
theorem Ab(d:DV):∀l,Ep d≠.tup l:=by intro l;cases d<;>simp[Ep]
def eA(P:Program)(T:TypeId)(d:DV):Bool:=
 match P.underlying T,d with
 |some (.int k),.int k' _=>decide (k=k')
 |some .string,.str _=>true
 |some .bool,.bool _=>true
 |_,_=>false
def jY(P:Program):List Field->List DV->Bool
 |[],_=>true
 |f::r,ds=>f.name != "_" && (match eF P f.type with|some false=>true|_=>false)&&(match ds[f.offset]? with|some d=>eA P f.type d|none=>false)&&jY P r ds
def gm(P:Program)(T:TypeId)(d:DV):Bool:=
 match P.underlying T,d with
 |some (.struct fs),.agg ds=>!P.stoodInHeld T&&jY P fs.toList ds&&fs.toList.map (·.offset) == List.range ds.length
 |_,d=>eA P T d
def oz:DV->DV->Bool
 |.int k a,.int k' b=>decide (k=k')&&a == b
 |.str a,.str b=>a == b
 |.bool a,.bool b=>a == b
 |_,_=>false
theorem JS{e:DV}(h:oz d e=true):d=e:=by
 unfold oz at h
 grind
def LS:List DV->List DV->Bool
 |[],[]=>true
 |a::l,b::m=>oz a b&&LS l m
 |_,_=>false
theorem Js:∀{l m:List DV},LS l m=true->l=m
 |[],[],_=>rfl
 |a::l,b::m,h=>by simp only[LS,rP]at h;rw[JS h.1,Js h.2]
 |[],_::_,h=>by cases h
 |_::_,[],h=>by cases h
def yo:DV->DV->Bool
 |.agg a,.agg b=>LS a b
 |a,b=>oz a b
theorem Sb{e:DV}(h:yo d e=true):d=e:=by
 unfold yo at h;split at h
 ·rw[Js h]
 ·exact JS h
theorem zW(a b:List UInt8):(ByteArray.mk a.toArray == ByteArray.mk b.toArray)=(a == b):=by
 rw[Bool.eq_iff_iff,MapKept.bytes_beq,beq_iff_eq];simp
section
variable {P:Program}{w:World}{M:Mem}
theorem Fh(h:eA P T d=true)(hv:Rd M v d):v=d.fZ:=by
 unfold eA at h;split at h
 ·cases hv;rfl
 ·cases hv with|str s hl=>rfl
 ·cases hv;rfl
 grind
theorem Nn{t:TypeDesc}{e:DV}(hT:P.underlying T=some t)(h1:eA P T d=true)(h2:eA P T e=true):Instr.sameNow t d.fZ e.fZ=some (oz d e):=by
 unfold eA at h1 h2;rw[hT]at h1 h2
 cases t<;>cases d<;>simp at h1<;>cases e<;>simp at h2
 ·rfl
 ·subst h1;subst h2;simp[DV.fZ,Instr.sameNow,oz]
 ·rename_i a b
  simp only[DV.fZ,Instr.sameNow,oz,ah];exact zW a b
theorem IN{e:DV}(h1:eA P T d=true)(h2:eA P T e=true)(n:Nat):(Op.equalIn (n+1) T d.fZ e.fZ).run P w=.ok (oz d e) w:=by
 unfold eA at h1 h2
 cases hT:P.underlying T with
 |none=>grind
 |some t=>
  rw[hT]at h1 h2
  cases t<;>cases d<;>simp at h1<;>cases e<;>simp at h2
  ·rename_i a b;simp only[DV.fZ,oz];exact run_equalIn_bool' w n T a b hT
  ·subst h1;subst h2;simp only[DV.fZ,oz,decide_true,Bool.true_and];exact run_equalIn_int w n T _ _ _ _ hT
  ·simp only[DV.fZ,oz];rw[run_equalIn_string w n T _ _ hT,toList_mk,toList_mk]
theorem yH(h1:eA P T d=true)(em:Bool)(n:Nat):(Instr.checkKey em (n+1) T d.fZ).run P w=.ok () w:=by
 unfold eA at h1
 cases hT:P.underlying T with
 |none=>grind
 |some t=>
  rw[hT]at h1
  cases t<;>cases d<;>simp at h1<;>simp[Instr.checkKey,run_underlying hT,DV.fZ]
theorem A3(h1:eA P T d=true)(n:Nat):Instr.sameBits n d.fZ d.fZ=true:=by
 unfold eA at h1;split at h1
 ·cases n<;>simp[DV.fZ,Instr.sameBits]
 ·cases n<;>simp only[DV.fZ,Instr.sameBits]<;>rw[zW]<;>simp
 ·cases n<;>simp[DV.fZ,Instr.sameBits]
 grind
theorem mG{arr:Array Value}(ha:eF P T=some false)(h:arr[off]?=some d.fZ):(part T arr off).run P w=.ok d.fZ w:=by
 simp[part,m6 ha,h]
theorem jL:∀{fs:List Field}{ds:List DV},jY P fs ds=true->∀f∈fs,f.name ≠ "_" /\ eF P f.type=some false/\∃d,ds[f.offset]?=some d/\eA P f.type d=true
 |[],_,_,f,hf=>by cases hf
 |g::r,ds,h,f,hf=>by
  simp only[jY,rP,bne_iff_ne]at h;obtain⟨⟨⟨h1,h2⟩,h3⟩,h4⟩:=h;rcases List.mem_cons.1 hf with rfl|hf
  ·grind
  ·exact jL h4 f hf
theorem Lo{fs:Array Field}(hT:P.underlying T=some (.struct fs))(h:gm P T (.agg ds)=true)(hv:Rd M v (.agg ds)):
 v=.agg (ds.map DV.fZ).toArray:=by
 simp only[gm,hT,rP,beq_iff_eq]at h;obtain⟨⟨_,h2⟩,h3⟩:=h
 cases hv with
 |agg arr _ hl ho hr=>
  congr 1;apply Array.ext
  ·grind
  ·intro i p q;simp only[af4,ab5];have hi:i<ds.length:=by omega
   have hm:i∈fs.toList.map (·.offset):=by rw[h3];exact List.mem_range.2 hi
   obtain⟨f,hf,rfl⟩:=List.mem_map.1 hm;obtain⟨_,_,d,hd,hs⟩:=jL h2 f hf;have hd':ds[f.offset]=d:=by rw[fy hi]at hd;simpa using hd
   have:=hr f.offset hi;rw[hd']at this ⊢;exact Fh hs this
def DV.gR:DV->Value
 |.agg ds=>.agg (ds.map DV.fZ).toArray
 |d=>d.fZ
theorem pQ(h:eA P T d=true):d.gR=d.fZ:=by
 cases d with
 |agg ds=>unfold eA at h;grind
 |_=>rfl
theorem xR(h:gm P T d=true)(hv:Rd M v d):v=d.gR:=by
 unfold gm at h;split at h
 ·rename_i fs ds hT
  have h':gm P T (.agg ds)=true:=by simp only[gm,hT];exact h
  exact Lo hT h' hv
 ·have:=Fh h hv;rw[this];exact(pQ h).symm
theorem rH{ds es:List DV}:∀(fs:List Field),jY P fs ds=true->jY P fs es=true->∀n,
 (Op.eqFields (n+1) (ds.map DV.fZ).toArray (es.map DV.fZ).toArray fs).run P w=.ok (fs.all λf=>match ds[f.offset]?,es[f.offset]? with|some a,some b=>oz a b|_,_=>false) w
 |[],_,_,n=>by rfl
 |f::r,h1,h2,n=>by
  obtain⟨a1,a2,d,a3,a4⟩:=jL h1 f (aen ..);obtain⟨_,_,e,b3,b4⟩:=jL h2 f (aen ..);have r1:jY P r ds=true:=by simp only[jY,rP]at h1;exact h1.2
  have r2:jY P r es=true:=by simp only[jY,rP]at h2;exact h2.2
  have p1:=mG (P:=P) (w:=w) (d:=d) (off:=f.offset) (arr:=(ds.map DV.fZ).toArray) a2 (by simp[a3]);have p2:=mG (P:=P) (w:=w) (d:=e) (off:=f.offset) (arr:=(es.map DV.fZ).toArray) a2 (by simp[b3]);simp only[Op.eqFields,if_pos a1,mT,p1,p2,IN a4 b4,sr,afx,a3,b3]
  cases hb:oz d e with
  |false=>simp
  |true=>simp only[Bool.not_true,aeF,if_false,Bool.true_and];exact rH r r1 r2 n
theorem Gp{es:List DV}{fs:List Field}(h1:fs.map (·.offset)=List.range ds.length)(h2:fs.map (·.offset)=List.range es.length):
 (fs.all λf=>match ds[f.offset]?,es[f.offset]? with|some a,some b=>oz a b|_,_=>false)=LS ds es:=by
 have hl:ds.length=es.length:=by
  have:=congrArg List.length (h1.symm.trans h2);simpa using this
 have h3:(fs.all λf=>match ds[f.offset]?,es[f.offset]? with|some a,some b=>oz a b|_,_=>false) =
  ((fs.map (·.offset)).all λi=>match ds[i]?,es[i]? with|some a,some b=>oz a b|_,_=>false):=by rw[List.all_map];rfl
 rw[h3,h1];clear h1 h2 h3 fs
 induction ds generalizing es with
 |nil=>cases es with
  |nil=>rfl
  |cons b m=>simp at hl
 |cons a l ih=>
  cases es with
  |nil=>simp at hl
  |cons b m=>
   simp only[aef,List.range_succ_eq_map,afx,aga,LS,List.all_map]
   grind
theorem VD{e:DV}(h1:gm P T d=true)(h2:gm P T e=true)(n:Nat):(Op.equalIn (n+2) T d.gR e.gR).run P w=.ok (yo d e) w:=by
 cases hT:P.underlying T with
 |none=>unfold gm at h1;simp[hT,eA]at h1
 |some t=>
  by_cases hs:∃fs,t=.struct fs
  ·obtain⟨fs,rfl⟩:=hs;have hfo:P.fieldsOf T=fs:=by simp[Program.fieldsOf,hT]
   cases d with
   |agg ds=>
    cases e with
    |agg es=>
     simp only[gm,hT,rP,beq_iff_eq,aee]at h1 h2;obtain⟨⟨q1,q2⟩,q3⟩:=h1;obtain⟨⟨p1,p2⟩,p3⟩:=h2;simp only[DV.gR,yo];rw[run_equalIn_struct w (n+1) T _ _ (by rw[hfo];exact hT) q1,hfo,rH _ q2 p2,Gp q3 p3]
    |_=>unfold gm at h2;simp[hT,eA]at h2
   |_=>unfold gm at h1;simp[hT,eA]at h1
  ·have key:∀x,gm P T x=true->eA P T x=true:=by
    intro x hx;unfold gm at hx;split at hx
    ·grind
    ·exact hx
   have e1:=key _ h1;have e2:=key _ h2
   have k1:∀x,eA P T x=true->x.gR=x.fZ:=by
    intro x hx;cases x with
    |agg ds=>unfold eA at hx;grind
    |_=>rfl
   rw[k1 _ e1,k1 _ e2,IN e1 e2]
   have:yo d e=oz d e:=by
    cases d with
    |agg ds=>unfold eA at e1;grind
    |_=>rfl
   rw[this]
theorem uI{α:Type}{f:α->Sem (ForInStep PUnit)}:∀(l:List α),(∀x∈l,(f x).run P w=.ok (.yield ⟨⟩) w)->(forIn l PUnit.unit (λx _=>f x)).run P w=.ok ⟨⟩ w
 |[],_=>by simp
 |x::l,h=>by
  simp only[List.forIn_cons,mT,h x (aen ..),sr];exact uI l λy hy=>h y (aew _ hy)
theorem BH(h1:gm P T d=true)(em:Bool)(n:Nat):(Instr.checkKey em (n+2) T d.gR).run P w=.ok () w:=by
 cases hT:P.underlying T with
 |none=>unfold gm at h1;simp[hT,eA]at h1
 |some t=>
  by_cases hs:∃fs,t=.struct fs
  ·obtain⟨fs,rfl⟩:=hs
   cases d with
   |agg ds=>
    simp only[gm,hT,rP,beq_iff_eq,aee]at h1;obtain⟨⟨q1,q2⟩,q3⟩:=h1;simp only[DV.gR];rw[Instr.checkKey];simp only[mT,run_underlying hT,sr];rw[<-Array.forIn_toList]
    have:=uI (P:=P) (w:=w) (f:=λf:Field=>(if f.name ≠ "_" then(do Instr.checkKey em (n+1) f.type (<-part f.type (ds.map DV.fZ).toArray f.offset);pure (.yield ⟨⟩))else pure (.yield ⟨⟩):Sem (ForInStep PUnit))) fs.toList (λf hf=>by
     obtain⟨a1,a2,x,a3,a4⟩:=jL q2 f hf;have p1:=mG (P:=P) (w:=w) (d:=x) (off:=f.offset) (arr:=(ds.map DV.fZ).toArray) a2 (by simp[a3]);simp[a1,p1,yH a4])
    simp_all
   |_=>unfold gm at h1;simp[hT,eA]at h1
  ·have e1:eA P T d=true:=by
    unfold gm at h1;split at h1
    ·grind
    ·exact h1
   have k1:d.gR=d.fZ:=by
    cases d with
    |agg ds=>unfold eA at e1;grind
    |_=>rfl
   rw[k1];exact yH e1 em (n+1)
end
def nh(k:DV):List (DV×AV)->Option Nat
 |[]=>none
 |e::es=>if yo k e.1 then some 0 else(nh k es).map (·+1)
theorem ve{k:DV}:∀{es:List (DV×AV)}{i:Nat},nh k es=some i->∃e,es[i]?=some e/\e.1=k
 |[],_,h=>by cases h
 |e::es,i,h=>by
  simp only[nh]at h;split at h
  ·rename_i hb
   simp only[ah]at h;subst h;exact⟨e,rfl,(Sb hb).symm⟩
  ·rw[aek]at h;obtain⟨j,hj,rfl⟩:=h;obtain⟨e',h1,h2⟩:=ve hj
   grind
def Au(k:DV)(y:AV)(es:List (DV×AV)):List (DV×AV):=
 match nh k es with
 |some i=>es.set i (k,y)
 |none=>es++[(k,y)]
section
variable {P:Program}{w:World}{M:Mem}
theorem AQ{k:DV}(hk:gm P T k=true)(hes:∀e∈es,gm P T e.1=true){ents:List MapEntry}(hl:ents.length=es.length)
 (hr:∀i (h:i<es.length) (h':i<ents.length),Rd M ents[i].key es[i].1) :
 (Instr.findKey T k.gR ents).run P w=.ok ((nh k es).bind λi=>ents[i]?.map λe=>(i,e.val)) w:=by
 have hkeys:∀i (h:i<es.length) (h':i<ents.length),ents[i].key=es[i].1.gR:=λi h h'=>xR (hes _ (aT h)) (hr i h h')
 clear hr
 cases hT:P.underlying T with
 |none=>unfold gm at hk;simp[hT,eA]at hk
 |some t=>
  by_cases hs:∃fs,t=.struct fs
  ·obtain⟨fs,rfl⟩:=hs;rw[run_findKey_eq w (by simp[hT])]
   have key:∀(es:List (DV×AV)) (ents:List MapEntry) (n:Nat),(∀e∈es,gm P T e.1=true)->ents.length=es.length->(∀i (h:i<es.length) (h':i<ents.length),ents[i].key=es[i].1.gR) ->
    (Instr.findAsking T k.gR ents n).run P w=.ok ((nh k es).bind λi=>ents[i]?.map λe=>(n+i,e.val)) w:=by
    intro es
    induction es with
    | nil=>intro ents n _ hl _;have:ents=[]:=afM (by omega)
           subst this;rfl
    |cons e es ih=>
     intro ents n h1 hl h2
     cases ents with
     |nil=>simp at hl
     |cons m ents=>
      have hm:=h2 0 (by simp) (by simp);simp only[aeQ]at hm;have he:(Op.equal T k.gR m.key).run P w=.ok (yo k e.1) w:=by rw[hm];exact VD hk (h1 e (aen ..)) 9998
      simp only[Instr.findAsking,mT,he,sr,nh]
      cases hb:yo k e.1 with
      |true=>simp
      |false=>
       simp only[aeF,if_false];rw[ih ents (n+1) (λe he=>h1 e (aew _ he)) (by grind) (λi p q=>h2 (i+1) (by simp;omega) (by simp;omega))]
       cases nh k es with
       |none=>simp
       |some i=>grind
   grind
  ·have hsc:∀x,gm P T x=true->eA P T x=true:=by
    intro x hx;unfold gm at hx;split at hx
    ·grind
    ·exact hx
   have key:∀(es:List (DV×AV)) (ents:List MapEntry) (n:Nat),(∀e∈es,gm P T e.1=true)->ents.length=es.length->(∀i (h:i<es.length) (h':i<ents.length),ents[i].key=es[i].1.gR) ->
    Instr.findNow t k.gR ents n=some ((nh k es).bind λi=>ents[i]?.map λe=>(n+i,e.val)):=by
    intro es
    induction es with
    | nil=>intro ents n _ hl _;have:ents=[]:=afM (by omega)
           subst this;rfl
    |cons e es ih=>
     intro ents n h1 hl h2
     cases ents with
     |nil=>simp at hl
     |cons m ents=>
      have hm:=h2 0 (by simp) (by simp);simp only[aeQ]at hm;have e1:=hsc _ hk;have e2:=hsc _ (h1 e (aen ..))
      have hb2:yo k e.1=oz k e.1:=by
       cases k with
       |agg ds=>unfold eA at e1;grind
       |_=>rfl
      have he:Instr.sameNow t k.gR m.key=some (yo k e.1):=by rw[hm,pQ e1,pQ e2,Nn hT e1 e2,hb2]
      simp only[Instr.findNow,he,nh]
      cases hb:yo k e.1 with
      |true=>simp
      |false=>
       simp only[aeF,if_false];rw[ih ents (n+1) (λe he=>h1 e (aew _ he)) (by grind) (λi p q=>h2 (i+1) (by simp;omega) (by simp;omega))]
       cases nh k es with
       |none=>simp
       |some i=>grind
   have:=key es ents 0 hes hl hkeys;simp only[Instr.findKey,mT,run_underlying hT,sr,this];simp
theorem Mu(h1:gm P T d=true)(n:Nat):Instr.sameBits (n+1) d.gR d.gR=true:=by
 unfold gm at h1;split at h1
 ·rename_i fs ds hT
  simp only[rP,beq_iff_eq,aee]at h1;obtain⟨⟨q1,q2⟩,q3⟩:=h1;simp only[DV.gR,Instr.sameBits,beq_self_eq_true,Bool.true_and,adV];intro p hp
  have:p.1=p.2/\∃x∈ds,p.1=x.fZ:=by
   have hz:∀(l:List Value) (p:Value×Value),p∈l.zip l->p.1=p.2/\p.1∈l:=by
    intro l
    induction l with
    |nil=>intro p hp;simp at hp
    |cons a l ih=>
     intro p hp;simp only[List.zip_cons_cons,aY]at hp;rcases hp with rfl|hp
     ·exact⟨rfl,aen ..⟩
     ·exact⟨(ih p hp).1,aew _ (ih p hp).2⟩
   have:=hz _ p hp;refine⟨this.1,?_⟩;have h2:=this.2;simp only[ae7]at h2;obtain⟨x,hx,h3⟩:=h2;exact⟨x,hx,h3.symm⟩
  obtain⟨h2,x,hx,h3⟩:=this;obtain⟨i,hi,rfl⟩:=List.mem_iff_getElem.1 hx;have hm:i∈fs.toList.map (·.offset):=by rw[q3];exact List.mem_range.2 hi
  obtain⟨f,hf,rfl⟩:=List.mem_map.1 hm;obtain⟨_,_,d,hd,hs⟩:=jL q2 f hf;have hd':ds[f.offset]=d:=by rw[fy hi]at hd;simpa using hd
  rw[<-h2,h3,hd'];exact A3 hs n
 ·rw[pQ h1];exact A3 h1 (n+1)
theorem B3(h1:gm P T d=true):(Instr.keyThatStays d.gR d.gR).run P w=.ok d.gR w:=by
 simp[Instr.keyThatStays,Mu h1 9999]
end
section
variable {c:Ctx}{F:Nat->Prop}{β:Key->Nat}{s:aB}{a:Act}{w:World}
theorem aD.allocMap(h:aD c F β s a w)(hκ:s.lv κ=.hole):
 aD c F (az β κ w.heap.size) ⟨s.fr,az s.lv κ (.map true [])⟩ a (w.alloc (.map #[] 0)):=by
 have hnew:∀b,F b->b≠w.heap.size:=λb hb e=>by have:=(h.ox b hb).1;omega
 have hge:=h.ge
 have hlt:∀k,(∃own fz T cs,s.lv k=.cells own fz T cs)\/(∃own es,s.lv k=.map own es)->β k<w.heap.size:=by
  intro k hk;have hb:=h.bK k;unfold Vw.bK at hb;rcases hk with⟨o,fz,T,cs,e⟩|⟨o,es,e⟩
  ·grind
  ·grind
 refine h.step (λ_ h=>h) (λb hb=>by rw[heap_alloc,if_neg (hnew b hb)]) ?_ ?_ (kS w _) ?_ ?_ (λb h=>.inl h) (by simp) ?_
 ·intro k
  by_cases e:k=κ
  ·subst e;rw[hκ];simp[LB.sub]
  ·rw[aE _ _ e];exact LB.bE _
 ·intro k hk _;have e:k≠κ:=λe=>hk (e▸hκ)
  exact aE _ _ e
 ·intro k hK
  by_cases e:k=κ
  ·subst e;simp only[Vw.bK,aA];refine⟨#[],0,by rw[heap_alloc,if_pos rfl],rfl,λi x=>by simp at x,λhf=>hnew _ hf rfl,?_⟩;simp only[eU,if_true];exact hge
  ·have hb:=h.bK k
   cases ek:s.lv k with
   |cells own fz T cs=>
    have:=hlt k (.inl ⟨_,_,_,_,ek⟩);refine Vw.bJ hb hK (aE _ _ e) (aE _ _ e) ?_ (λ_ h=>h);show(w.alloc _).heap[β k]?=_;rw[heap_alloc,if_neg (by omega)]
   |map own es=>
    have:=hlt k (.inr ⟨_,_,ek⟩);refine Vw.bJ hb hK (aE _ _ e) (aE _ _ e) ?_ (λ_ h=>h);show(w.alloc _).heap[β k]?=_;rw[heap_alloc,if_neg (by omega)]
   |hole=>unfold Vw.bK;simp only[aE _ _ e,ek]
   |dead=>unfold Vw.bK;simp only[aE _ _ e,ek]
   |nils=>unfold Vw.bK;simp only[aE _ _ e,ek]
 ·intro k k' hk hk' he
  have side:∀j,j≠κ->(az s.lv κ (.map true []) j).live=true->β j<w.heap.size:=by
   intro j hj hl;rw[aE _ _ hj]at hl;exact h.iD hl
  by_cases e:k=κ<;>by_cases e':k'=κ
  ·rw[e,e']
  ·subst e;have:=side k' e' hk';rw[aA,aE _ _ e']at he;omega
  ·subst e';have:=side k e hk;rw[aA,aE _ _ e]at he;omega
  ·rw[aE _ _ e,aE _ _ e']at he;rw[aE _ _ e]at hk;rw[aE _ _ e']at hk';exact h.inj _ _ hk hk' he
 ·intro b hb _;rw[heap_alloc,if_neg (by omega)]
theorem DZ{r:Option Operand}(hd:∀d,o.dst=some d->d<c.n)(ho:o.op=.makeMap T r)(hr:r=none)(hκ:s.lv κ=.hole):
 bT c o s (aB.put ⟨s.fr,az s.lv κ (.map true [])⟩ o.dst (.c (.mapr κ))):=
 bT.ef hd λF β a w hs=>by
  subst hr;refine⟨.map (some w.heap.size),F,az β κ w.heap.size,_,by simp[execOp,ho,Instr.makeMap],hs.allocMap hκ,?_,rfl⟩;simp only[Vw.lM,aA]
theorem aD.U5(h:aD c F β s a w){es':List (DV×AV)}(hk:s.lv k=.map own es){ents ents':Array MapEntry}{cl cl':Nat}
 (hg:w.heap[β k]?=some (.map ents cl)) (hl:ents'.size=es'.length)
 (hc:∀i (h:i<es'.length) (h':i<ents'.size),Rd (m9 w F) ents'[i].key es'[i].1/\(Vw.mk F β s.lv w).oq ents'[i].val es'[i].2) :
 aD c F β ⟨s.fr,az s.lv k (.map own es')⟩ a { w with heap:=w.heap.setIfInBounds (β k) (.map ents' cl') }:=by
 have hlive:(s.lv k).live=true:=by rw[hk];rfl
 have hoth:∀b,b≠β k->(w.heap.setIfInBounds (β k) (.map ents' cl'))[b]?=w.heap[b]?:=by
  intro b hb;rw[agZ,if_neg (λe=>hb e.symm)]
 have hb0:=h.bK k;unfold Vw.bK at hb0;simp only[hk]at hb0;obtain⟨e0,c0,p1,p2,p3,p4,p5⟩:=hb0;refine h.step (λ_ h=>h) (λb hb=>hoth b (λe=>h.ny hlive (e▸hb))) ?_ (λ_ _ _=>rfl) (λb=>?_) ?_ ?_ (λb h=>.inl h) (by simp) ?_
 ·intro k'
  by_cases e:k'=k
  ·subst e;rw[aA,hk];simp[LB.sub]
  ·rw[aE _ _ e];exact LB.bE _
 ·by_cases e:b=β k
  ·subst e;simp[cz,hg]
  ·simp only[cz,hoth b e];simp
 ·intro k' hK
  by_cases e:k'=k
  ·subst e;unfold Vw.bK;simp only[aA];refine⟨ents',cl',?_,hl,λi x y=>?_,p4,p5⟩
   ·grind
   ·exact⟨Rd.mono (gT hK.F hK.mem) (hc i x y).1,hK.oq (hc i x y).2⟩
  ·have hb:=h.bK k'
   by_cases hl:(s.lv k').live=true
   ·exact Vw.bJ hb hK (aE _ _ e) rfl (hoth _ (λe'=>e (h.inj _ _ hl hlive e'))) (λ_ h=>h)
   ·cases ek:s.lv k' with
    |cells o fz T' cs'=>
     cases fz with
     |false=>rw[ek]at hl;exact absurd rfl hl
     |true=>
      have hF:F (β k'):=by unfold Vw.bK at hb;simp only[ek]at hb;obtain⟨_,_,_,_,h4,_⟩:=hb;exact h4
      exact Vw.bJ hb hK (aE _ _ e) rfl (hoth _ (λe'=>h.ny hlive (e'▸hF))) (λ_ h=>h)
    |map o es=>rw[ek]at hl;exact absurd rfl hl
    |hole=>unfold Vw.bK;simp only[aE _ _ e,ek]
    |dead=>unfold Vw.bK;simp only[aE _ _ e,ek]
    |nils=>unfold Vw.bK;simp only[aE _ _ e,ek]
 ·intro k1 k2 a1 a2 he
  have g:∀k',(az s.lv k (.map own es') k').live=true->(s.lv k').live=true:=by
   intro k' hk'
   by_cases e:k'=k
   ·grind
   ·rwa[aE _ _ e]at hk'
  exact h.inj _ _ (g _ a1) (g _ a2) he
 ·intro b hb hnW;refine hoth b (λe=>?_);rcases h.ga hlive with h1|h1
  ·omega
  grind
def F2(P:Program)(T:TypeId):Option (TypeId×TypeId):=
 match P.underlying T with
 |some (.map k e)=>some (k,e)
 |_=>none
theorem vk{k:TypeId}(h:F2 P T=some (k,e)):P.underlying T=some (.map k e):=by
 unfold F2 at h;grind
theorem At{y:Operand}{v:AV}(hd:∀d,o.dst=some d->d<c.n)(ho:o.op=.mapUpdate T m kx y\/o.op=.insert T m kx y)
 (hm:s.val c.G m=.c (.mapr k)) (hk:s.lv k=.map own es) (hT:F2 c.P T=some (kT,eT)) (hkx:oh (s.val c.G kx)=some d) (hkT:gm c.P kT d=true) (hes:∀e∈es,gm c.P kT e.1=true) (hy:s.val c.G y=v) (hv:∀l,v≠.tup l) :
 bT c o s (aB.put ⟨s.fr,az s.lv k (.map own (Au d v es))⟩ o.dst .undef):=
 bT.J6 hd λF β a w hs=>by
  have hmv:=hm▸hs.val m;obtain⟨hmv,_⟩:=hmv;simp only[Vw.lM,hk]at hmv;have hkv:=xR hkT (Vw.deep (hs.val kx) hkx)
  have hyv:(Vw.mk F β s.lv w).oq (a.eval y) v:=by
   have h1:=hy▸hs.val y
   cases v with
   |tup l=>grind
   |_=>exact h1
  have hb:=hs.bK k;unfold Vw.bK at hb;simp only[hk]at hb;obtain⟨ents,cl,b1,b2,b3,b4,b5⟩:=hb;have hu:=vk hT;have hf:=AQ (P:=c.P) (w:=w) (M:=m9 w F) hkT hes (ents:=ents.toList) (by omega) (λi p q=>by have:=(b3 i p (by omega)).1;simp only[afA];exact this);have hck:=BH (P:=c.P) (w:=w) hkT false 9998;have hob:(getObj (β k)).run c.P w=.ok (.map ents cl) w:=by simp[getObj,Sem.run,b1]
  have hset:∀e' c',(setObj (β k) (.map e' c')).run c.P w=.ok () { w with heap:=w.heap.setIfInBounds (β k) (.map e' c') }:=by intro e' c';simp[setObj,Sem.run,b1]
  have hrun:∃e' c',(Instr.mapUpdate T (.map (some (β k))) d.gR (a.eval y)).run c.P w=.ok () { w with heap:=w.heap.setIfInBounds (β k) (.map e' c') }/\e'.size=(Au d v es).length /\
   ∀i (h:i<(Au d v es).length) (h':i<e'.size),Rd (m9 w F) e'[i].key (Au d v es)[i].1/\(Vw.mk F β s.lv w).oq e'[i].val (Au d v es)[i].2:=by
   have hkr:Rd (m9 w F) d.gR d:=hkv▸Vw.deep (hs.val kx) hkx
   cases hfk:nh d es with
   |none=>
    rw[hfk]at hf;refine⟨ents.push { key:=d.gR,val:=a.eval y,born:=cl },cl+1,?_,?_,?_⟩
    ·simp only[Instr.mapUpdate,mT,run_underlying hu,sr,hob,hck,hf,Option.bind_none]
     grind
    ·simp[Au,hfk,b2]
    ·intro i p q;simp only[Au,hfk]at p ⊢
     by_cases hi:i<es.length
     ·rw[ae5 hi,Array.getElem_push_lt (by omega)];exact b3 i hi (by omega)
     grind
   |some i=>
    obtain⟨e,he1,he2⟩:=ve hfk;obtain⟨hi,hie⟩:=List.getElem?_eq_some_iff.1 he1;have hi':i<ents.size:=by omega
    have hkk:ents[i].key=d.gR:=by
     have:=xR (hes _ (aT hi)) (b3 i hi hi').1;rw[this,hie,he2]
    rw[hfk]at hf;refine⟨ents.modify i λe=>{ e with key:=d.gR,val:=a.eval y },cl,?_,?_,?_⟩
    ·have h1:ents.toList[i]?=some ents[i]:=by simp[hi']
     simp only[Instr.mapUpdate,mT,run_underlying hu,sr,hob,hck,hf,Option.bind_some,h1,aeJ];have h2:((ents[i]?.map (·.key)).getD d.gR)=d.gR:=by simp[hi',hkk]
     rw[h2,B3 hkT];simp[hset]
    ·simp[Au,hfk,b2]
    ·intro j p q;simp only[Au,hfk]at p ⊢;simp only[Array.getElem_modify,List.getElem_set]
     by_cases e:i=j
     ·grind
     ·simp only[if_neg e];exact b3 j (by grind) (by grind)
  obtain⟨e',c',r1,r2,r3⟩:=hrun;refine⟨F,β,_,?_,hs.U5 (cl':=c') hk b1 r2 r3⟩;rcases ho with ho|ho<;>simp[execOp,ho,hmv,hkv,r1]
def AK(P:Program)(T:TypeId):Option AV:=((P.info? T).bind (·.zero)).map uu
theorem DU(h:AK P T=some x)(V:Vw)(w:World):∃v,(zeroValue T).run P w=.ok v w/\V.av v x/\(∀l,x≠.tup l):=by
 unfold AK at h;rw[aek]at h;obtain⟨z,hz,rfl⟩:=h;obtain⟨i,hi,hz⟩:=Option.bind_eq_some_iff.1 hz;refine⟨z,by simp[zeroValue,typeInfo,hi,hz],vI V z,?_⟩;intro l;unfold uu
 grind
def No(P:Program)(eT:TypeId)(d:DV)(es:List (DV×AV)):Option (AV×Bool):=
 match nh d es with
 |some i=>(es[i]?).map λe=>(e.2,true)
 |none=>(AK P eT).map λz=>(z,false)
theorem HJ{v:AV}(hd:∀d,o.dst=some d->d<c.n)(ho:o.op=.lookup T m kx ok)
 (hm:(∃k own,s.val c.G m=.c (.mapr k)/\s.lv k=.map own es)\/(s.val c.G m=.c (.d .nilmap)/\es=[])) (hT:F2 c.P T=some (kT,eT)) (hkx:oh (s.val c.G kx)=some d) (hkT:gm c.P kT d=true) (hes:∀e∈es,gm c.P kT e.1=true)
 (hl:No c.P eT d es=some (v,b)) (hv:∀l,v≠.tup l) :
 bT c o s (s.put o.dst (if ok then .tup [v,.c (.d (.bool b))]else v)):=
 bT.aX hd λF β a w hs=>by
  have hkv:=xR hkT (Vw.deep (hs.val kx) hkx);have hu:=vk hT
  have hents:∃ents:List MapEntry,ents.length=es.length/\(∀i (h:i<es.length) (h':i<ents.length),Rd (m9 w F) ents[i].key es[i].1/\(Vw.mk F β s.lv w).oq ents[i].val es[i].2) /\
   (Instr.lookup T (a.eval m) d.gR ok).run c.P w=(do
    Instr.checkKey ents.toArray.isEmpty 10000 kT d.gR
    let (v,b) <-match <-Instr.findKey kT d.gR ents with
     |some (_,v)=>pure (v,true)
     |none=>pure (<-zeroValue eT,false)
    pure (if ok then .tuple #[v,.bool b]else v):Sem Value).run c.P w:=by
   rcases hm with⟨k,own,hm,hk⟩|⟨hm,rfl⟩
   ·have hmv:=hm▸hs.val m;obtain⟨hmv,_⟩:=hmv;simp only[Vw.lM,hk]at hmv;have hb:=hs.bK k;unfold Vw.bK at hb;simp only[hk]at hb;obtain⟨ents,cl,b1,b2,b3,b4,b5⟩:=hb;have hob:(getObj (β k)).run c.P w=.ok (.map ents cl) w:=by simp[getObj,Sem.run,b1]
    refine⟨ents.toList,by omega,λi p q=>by have:=b3 i p (by omega);simp only[afA];exact this,?_⟩;simp only[Instr.lookup,hmv,mT,run_underlying hu,sr,hob,aer,Array.toArray_toList];rfl
   ·have hmv:=hm▸hs.val m;obtain⟨hmv,_⟩:=hmv;obtain⟨u,hu'⟩:∃u,a.eval m=u:=⟨_,rfl⟩
    rw[hu']at hmv
    cases hmv
    refine⟨[],rfl,λi p=>by simp at p,?_⟩;rw[hu'];simp only[Instr.lookup,mT,run_underlying hu,sr,aer];rfl
  obtain⟨ents,e1,e2,e3⟩:=hents;have hf:=AQ (P:=c.P) (w:=w) (M:=m9 w F) hkT hes e1 (λi p q=>(e2 i p q).1);have hck:=λem=>BH (P:=c.P) (w:=w) hkT em 9998
  have hres:∃u,(Instr.lookup T (a.eval m) d.gR ok).run c.P w=.ok (if ok then .tuple #[u,.bool b]else u) w/\(Vw.mk F β s.lv w).oq u v:=by
   rw[e3];unfold No at hl;split at hl
   ·rename_i i hfk
    obtain⟨e,he1,he2⟩:=ve hfk;obtain⟨hi,hie⟩:=List.getElem?_eq_some_iff.1 he1;rw[he1]at hl;simp only[aeJ,ah,M1]at hl;obtain⟨rfl,rfl⟩:=hl;rw[hfk]at hf;have h1:ents[i]?=some (ents[i]'(by omega)):=fy (by omega);refine⟨(ents[i]'(by omega)).val,?_,?_⟩
    ·simp only[mT,hck,sr,hf,Option.bind_some,h1,aeJ,aer]
    grind
   ·rename_i hfk
    rw[aek]at hl;obtain⟨z,hz,hl⟩:=hl;simp only[M1]at hl;obtain⟨rfl,rfl⟩:=hl;obtain⟨u,hu1,Xw,_⟩:=DU hz (Vw.mk F β s.lv w) w;rw[hfk]at hf;refine⟨u,?_,?_⟩
    ·simp only[mT,hck,sr,hf,Option.bind_none,hu1,aer]
    ·cases z with
     |tup l=>grind
     |_=>exact Xw
  obtain⟨u,r1,r2⟩:=hres;refine⟨if ok then .tuple #[u,.bool b]else u,by simp[execOp,ho,hkv,r1],?_⟩
  cases ok with
  |false=>
   simp only[aeF,if_false]
   cases v with
   |tup l=>grind
   |_=>exact r2
  |true=>
   simp only[if_true];refine⟨#[u,.bool b],rfl,rfl,λi p q=>?_⟩;have:i=0\/i=1:=by simp at p;omega
   rcases this with rfl|rfl
   ·exact r2
   ·exact⟨.bool b,rfl⟩
end
section
variable {c:Ctx}{F:Nat->Prop}{β:Key->Nat}{s:aB}{a:Act}{w:World}
theorem mb(h:Ag P T=some (n,e,sz)){b o:Nat}{lo hi:Option Value}{l hh:Int}
 (hlo:lo=none/\l=0\/∃k,lo=some (.int k l)) (hhi:hi=none/\hh=n\/∃k,hi=some (.int k hh)) (h0:0<=l) (h1:l<=hh) (h2:hh<=n) (w:World) :
 (Instr.sliceAt T (.pointer (some ⟨b,o,none⟩)) lo hi none).run P w=.ok (.slice (some (if n=l.toNat then⟨b,o,none⟩ else⟨b,o+l.toNat*sz,none⟩)) (hh.toNat-l.toNat) (n-l.toNat)) w:=by
 obtain⟨hu,hie,hsz⟩:=yL h;have hr:=fW (P:=P) (isSlice:=false) (len:=n) (cap:=n) hlo hhi h0 h1 h2 w;simp only[Instr.sliceAt,mT,run_underlying hu,sr,Instr.sureAddr,aer,hr,run_sizeOf hie,hsz];congr 3;split
 ·rfl
 ·rw[ae4]
theorem Dl{x:Operand}{l:Int}(hd:∀d,o.dst=some d->d<c.n)(ho:o.op=.slice T x lo hi none)
 (hx:s.val c.G x=.c (.ptr κ off)) (hk:s.lv κ=.cells own fz T' cs) (hT:Ag c.P T=some (n,e,sz)) (hcs:off+n*sz<=cs.length) (hlo:ec (lo.map (s.val c.G)) 0=some l) (hhi:ec (hi.map (s.val c.G)) n=some h)
 (h0:0<=l) (h1:l<=h) (h2:h<=n) (h3:l<h\/l=0):bT c o s (s.put o.dst (.c (.aH κ (off+l.toNat*sz) (h.toNat-l.toNat) sz))):=
 bT.aX hd λF β a w hs=>by
  have hv:=hx▸hs.val x;obtain⟨hv,_⟩:=hv;simp only[Vw.dn,hk]at hv;have hr:=mb hT (b:=β κ) (o:=off) (ju (λx=>hs.val x) hlo) (ju (λx=>hs.val x) hhi) h0 h1 h2 w;refine⟨_,by simp only[execOp,ho,afu,hv];simp[hr];rfl,?_,rfl⟩;simp only[Vw.cx,hk];have hb:=hs.bK κ;unfold Vw.bK at hb;simp only[hk]at hb;obtain⟨arr,b1,b2,_⟩:=hb;have has:cz w (β κ)=arr.size:=by simp[cz,b1]
  have e1:(if n=l.toNat then(⟨β κ,off,none⟩:Addr)else⟨β κ,off+l.toNat*sz,none⟩)=⟨β κ,off+l.toNat*sz,none⟩:=by
   split
   ·have:l.toNat=0:=by omega
    rw[this];simp
   ·rfl
  refine⟨n-l.toNat,by rw[e1],by omega,?_⟩;show off+l.toNat*sz+(n-l.toNat)*sz<=cz w (β κ);rw[has];have:l.toNat*sz+(n-l.toNat)*sz=n*sz:=by rw[<-ad7];congr 1;omega
  omega
theorem Co{x:Operand}{cs:List DV}{l:Int}(hd:∀d,o.dst=some d->d<c.n)(ho:o.op=.slice T x lo hi none)
 (hx:s.val c.G x=.c (.d (.ptr cs))) (hT:Ag c.P T=some (n,e,sz)) (hcs:n*sz<=cs.length) (hlo:ec (lo.map (s.val c.G)) 0=some l) (hhi:ec (hi.map (s.val c.G)) n=some h)
 (h0:0<=l) (h1:l<=h) (h2:h<=n) (h63:n<=9223372036854775807):bT c o s (s.put o.dst (.c (.d (.sl (((chunk sz n cs).take h.toNat).drop l.toNat))))):=
 bT.aX hd λF β a w hs=>by
  have hv:=hx▸hs.val x;obtain⟨hv,_⟩:=hv;obtain⟨u,hu⟩:∃u,a.eval x=u:=⟨_,rfl⟩
  rw[hu]at hv
  cases hv with
  |ptr b off vs _ hm ho' hr'=>
   have hr:=mb hT (b:=b) (o:=off) (ju (λx=>hs.val x) hlo) (ju (λx=>hs.val x) hhi) h0 h1 h2 w;refine⟨_,by simp only[execOp,ho,afu,hu];simp[hr];rfl,?_,rfl⟩;have hcl:(chunk sz n cs).length=n:=by simp[chunk]
   have hsz:∀i,i<n->i*sz+sz<=n*sz:=by
    intro i hi;have:(i+1)*sz<=n*sz:=adJ _ hi
    rwa[ad7,aeS]at this
   have key:=Rd.sl (M:=m9 w F) b off n sz (chunk sz n cs) (λi j=>vs (i*sz+j)) (by
    intro e he;obtain⟨i,hi,rfl⟩:=List.mem_iff_getElem.1 he;rw[hcl]at hi;have:=hsz i hi;simp[chunk];omega) (by omega) (by omega)
    (by intro i hi j hj;rw[hcl]at hi;have:=hsz i hi;have:=hm (i*sz+j) (by omega);rw[<-afl]at this;exact this)
    (by grind)
    (by
     intro i hi j hj;rw[hcl]at hi;have h5:=hsz i hi;have hj':j<sz:=by simp[chunk]at hj;omega
     have h6:=hr' (i*sz+j) (by omega);simp only[chunk,ab5,List.getElem_range,agL,af3];exact h6)
   rw[hcl]at key
   have hall:∀e∈chunk sz n cs,e.length=sz:=by
    intro e he;obtain⟨i,hi,rfl⟩:=List.mem_iff_getElem.1 he;rw[hcl]at hi;have:=hsz i hi;simp[chunk];omega
   have e1:(if n=l.toNat then(⟨b,off,none⟩:Addr)else⟨b,off+l.toNat*sz,none⟩)=⟨b,if n=l.toNat then off else off+l.toNat*sz,none⟩:=by split<;>rfl
   rw[e1];refine Rd.CU (l:=l.toNat) (h':=h.toNat) key hall (by omega) (by omega) b _ ?_ (n-l.toNat) (by omega)
   grind
def Og(P:Program)(T:TypeId):Bool:=
 match P.underlying T with
 |some (.interface _)=>false
 |some _=>true
 |none=>false
def On:AV->Option (Option (TypeId×AV))
 |.c (.d (.iface t d))=>some (some (t,Ep d))
 |.c (.ifc t r)=>some (some (t,match r with
  |.d x=>Ep x
  |.ptr k o=>.c (.ptr k o)
  |.aH k o l z=>.c (.aH k o l z)
  |.agg cs=>.agg (cs.map λx=>match x with|.d x=>.d x|.ptr k o=>.ptr k o|.aH k o l z=>.aH k o l z)
  |.ifc t x=>.c (.ifc t x)))
 |.c (.d .nilIface)=>some none
 |_=>none
theorem Lf(h:V.av v x)(hi:On x=some (some (t,y))):∃u,v=.iface t u/\V.av u y/\∀l,y≠.tup l:=by
 unfold On at hi;split at hi
 ·rename_i t' d
  simp only[ah,M1]at hi;obtain⟨rfl,rfl⟩:=hi;obtain⟨h,_⟩:=h
  cases h with
  |iface _ u _ hu=>exact⟨u,rfl,Vw.Ep hu,Ab d⟩
 ·rename_i t' r
  simp only[ah,M1]at hi;obtain⟨rfl,rfl⟩:=hi;obtain⟨u,rfl,hu⟩:=h;refine⟨u,rfl,?_,?_⟩
  ·cases r with
   |d x=>exact Vw.Ep hu
   |ptr k o=>exact hu
   |aH k o l z=>exact hu
   |agg cs=>
    obtain⟨arr,rfl,h1,h2⟩:=hu;refine⟨arr,rfl,by grind,λi p q=>?_⟩;simp only[ab5];have:=h2 i (by omega) q;split<;>rename_i e<;>rw[e]at this<;>exact this
   |ifc t x=>exact hu
  ·intro l
   cases r with
   |d x=>exact Ab x l
   |_=>simp
 ·cases hi
 grind
theorem Lt(h:V.av v x)(hi:On x=some none):v=.nilIface:=by
 unfold On at hi;split at hi
 ·cases hi
 ·cases hi
 ·obtain⟨h,_⟩:=h;cases h;rfl
 grind
def CL(P:Program)(T:TypeId)(ok:Bool)(x:AV):Option AV:=
 match On x with
 |some (some (t,y))=>if t=T then some (if ok then .tup [y,.c (.d (.bool true))]else y)
  else(if ok then(AK P T).map λz=>.tup [z,.c (.d (.bool false))]else none)
 |some none=>if ok then(AK P T).map λz=>.tup [z,.c (.d (.bool false))]else none
 |none=>none
theorem JN{u:Value}(h:V.av u y)(hy:∀l,y≠.tup l):V.av (.tuple #[u,.bool b]) (.tup [y,.c (.d (.bool b))]):=by
 refine⟨#[u,.bool b],rfl,rfl,λi p q=>?_⟩;have:i=0\/i=1:=by simp at p;omega
 rcases this with rfl|rfl
 ·cases y with
  |tup l=>grind
  |_=>exact h
 ·exact⟨.bool b,rfl⟩
theorem HP{xT:TypeId}{x:Operand}{v:AV}(hd:∀d,o.dst=some d->d<c.n)(ho:o.op=.typeAssert x xT T ok)(hT:Og c.P T=true)
 (hv:CL c.P T ok (s.val c.G x)=some v):bT c o s (s.put o.dst v):=
 bT.aX hd λF β a w hs=>by
  have hx:=hs.val x
  obtain⟨ud,hu,hni⟩:∃u,c.P.underlying T=some u/\∀ms,u≠.interface ms:=by
   unfold Og at hT
   grind
  have hgen:∀(z:AV),AK c.P T=some z->ok=true->∀u,(∀t w',u=.iface t w'->t≠T)->(u=.nilIface\/∃t w',u=.iface t w')->∃q,(Instr.typeAssert u xT T ok).run c.P w=.ok q w/\(Vw.mk F β s.lv w).av q (.tup [z,.c (.d (.bool false))]):=by
   intro z hz hok u hne hu';obtain⟨q,q1,q2,q3⟩:=DU hz (Vw.mk F β s.lv w) w;refine⟨.tuple #[q,.bool false],?_,JN q2 q3⟩;subst hok;rcases hu' with rfl|⟨t,w',rfl⟩
   ·cases ud<;>first|exact absurd rfl (hni _)|simp[Instr.typeAssert,run_underlying hu,q1]
   ·have:=hne t w' rfl
    cases ud<;>first|exact absurd rfl (hni _)|simp[Instr.typeAssert,run_underlying hu,q1,this]
  unfold CL at hv;split at hv
  ·rename_i t y hi
   obtain⟨u,hu1,Xw,hu3⟩:=Lf hx hi;split at hv
   ·rename_i e
    subst e;simp only[ah]at hv;subst hv
    cases ok with
    |false=>
     refine⟨u,?_,Xw⟩;simp only[execOp,ho,hu1]
     cases ud<;>first|exact absurd rfl (hni _)|simp[Instr.typeAssert,run_underlying hu]
    |true=>
     refine⟨.tuple #[u,.bool true],?_,JN Xw hu3⟩;simp only[execOp,ho,hu1]
     cases ud<;>first|exact absurd rfl (hni _)|simp[Instr.typeAssert,run_underlying hu]
   ·rename_i hne
    cases ok with
    |false=>cases hv
    |true=>
     simp only[if_true,aek]at hv;obtain⟨z,hz,rfl⟩:=hv;obtain⟨q,q1,q2⟩:=hgen z hz rfl (.iface t u) (λt' w' e=>by grind) (.inr ⟨_,_,rfl⟩);exact⟨q,by simp[execOp,ho,hu1,q1],q2⟩
  ·rename_i hi
   have hn:=Lt hx hi
   cases ok with
   |false=>cases hv
   |true=>
    simp only[if_true,aek]at hv;obtain⟨z,hz,rfl⟩:=hv;obtain⟨q,q1,q2⟩:=hgen z hz rfl .nilIface (λt' w' e=>by cases e) (.inl rfl);exact⟨q,by simp[execOp,ho,hn,q1],q2⟩
  grind
theorem Fb{x:Operand}(hd:∀d,o.dst=some d->d<c.n)(ho:o.op=.call { callee:=.builtin .len,args:=#[x],argTypes:=#[T] })
 (hx:s.val c.G x=.c (.mapr k)) (hk:s.lv k=.map own es) (hT:(F2 c.P T).isSome=true) (h63:es.length<=9223372036854775807):bT c o s (s.put o.dst (.c (.d (.int .i64 es.length)))):=
 bT.aX hd λF β a w hs=>by
  have hmv:=hx▸hs.val x;obtain⟨hmv,_⟩:=hmv;simp only[Vw.lM,hk]at hmv;have hb:=hs.bK k;unfold Vw.bK at hb;simp only[hk]at hb;obtain⟨ents,cl,b1,b2,b3,b4,b5⟩:=hb;obtain⟨⟨kT,eT⟩,hT⟩:=Option.isSome_iff_exists.1 hT;have hu:=vk hT;have hob:(getObj (β k)).run c.P w=.ok (.map ents cl) w:=by simp[getObj,Sem.run,b1]
  refine⟨.int .i64 (es.length:Int),?_,Vw.mI _ _ _ (cj ⟨?_,?_⟩)⟩
  ·have hl:(Builtin.len_ #[T] o.type #[a.eval x]).run c.P w=.ok (.int .i64 (es.length:Int)) w:=by
    rw[hmv,<-b2];simp[Builtin.len_,run_underlying hu,hob,goInt]
   simp[execOp,ho,resolve,invoke,builtin,hl]
  ·simp only[wG];omega
  ·simp only[og];omega
theorem AB{x:Operand}{r:Ref}(hd:∀d,o.dst=some d->d<c.n)(ho:o.op=.makeInterface T x)
 (hx:yf (s.val c.G x)=some r) (hT:c.P.concrete T=true):bT c o s (s.put o.dst (.c (.ifc T r))):=
 bT.aX hd λF β a w hs=>by
  have hr:=Vw.yf (hs.val x) hx;refine⟨.iface T (a.eval x),?_,?_⟩
  ·simp only[execOp,ho,mT,run_makeInterface w T _ hT,sr];rfl
  ·exact⟨a.eval x,rfl,hr⟩
end
abbrev jm:=AV×List (Key×LB)×List Key
variable {r:jm}
def Qp(P:Program)(op:BinOp)(T:TypeId)(lv:Key->LB)(x y:AV):Option jm:=
 match uB lv x with
 |some b=>if Ke x y&&yc P T x then(match op with|.eql=>some (.c (.d (.bool b)),[],WB x)|.neq=>some (.c (.d (.bool !b)),[],WB x)|_=>none)else none
 |none=>none
def G8:AV->Bool
 |.tup _=>false
 |_=>true
def r8(P:Program)(T:TypeId)(lv:Key->LB)(m kx y:AV):Option jm:=
 match m with
 |.c (.mapr k)=>match lv k with
  |.map own es=>match F2 P T,oh kx with
   |some (kT,_),some d=>if gm P kT d&&es.all (λe=>gm P kT e.1)&&G8 y then some (.undef,[(k,.map own (Au d y es))],[])else none
   |_,_=>none
  |_=>none
 |_=>none
def Mo(lv:Key->LB):AV->Option (List (DV×AV)×List Key)
 |.c (.mapr k)=>match lv k with|.map _ es=>some (es,[k])|_=>none
 |.c (.d .nilmap)=>some ([],[])
 |_=>none
theorem KG(h:G8 x=true):∀l,x≠.tup l:=by intro l e;rw[e]at h;cases h
def Ec(P:Program)(T:TypeId)(ok:Bool)(lv:Key->LB)(m kx:AV):Option jm:=
 match Mo lv m with
 |some (es,ks)=>match F2 P T,oh kx with
  |some (kT,eT),some d=>if gm P kT d&&es.all (λe=>gm P kT e.1)then(match No P eT d es with
   |some (v,b)=>if G8 v then some (if ok then .tup [v,.c (.d (.bool b))]else v,[],ks)else none
   |none=>none)else none
  |_,_=>none
 |none=>none
def sJ(P:Program)(T:TypeId)(lv:Key->LB)(x:AV)(lo hi:Option AV):Option jm:=
 match x with
 |.c (.ptr k off)=>match lv k,Ag P T with
  |.cells _ _ _ cs,some (n,_,sz)=>match ec lo 0,ec hi n with
   |some l,some h=>if off+n*sz<=cs.length/\0<=l/\l<=h/\h<=n/\(l<h\/l=0)then some (.c (.aH k (off+l.toNat*sz) (h.toNat-l.toNat) sz),[],[k])else none
   |_,_=>none
  |_,_=>none
 |.c (.d (.ptr cs))=>match Ag P T with
  |some (n,_,sz)=>match ec lo 0,ec hi n with
   |some l,some h=>if n*sz<=cs.length/\0<=l/\l<=h/\h<=n/\n<=9223372036854775807 then some (.c (.d (.sl (((chunk sz n cs).take h.toNat).drop l.toNat))),[],[])else none
   |_,_=>none
  |none=>none
 |.c (.aH k _ len sz)=>match lv k,eW P T with
  |.cells ..,some (_,sz')=>if sz=sz' then(match ec lo 0,ec hi len with
   |some l,some h=>if 0<=l/\l=h/\h<=len then some (.c (.d (.sl [])),[],[k])else none
   |_,_=>none)else none
  |_,_=>none
 |_=>none
def UB(P:Program)(S T:TypeId)(x:AV):Option jm:=
 match x with
 |.c (.d (.str l))=>if cP P S then(match eW P T with
  |some (e,1)=>(match P.underlying e with
   |some (.int .u8)=>if l.length<=9223372036854775807 then some (.c (.d (.sl (l.map λb=>[.int .u8 (b.toNat:Int)]))),[],[])else none
   |_=>none)
  |_=>none)else none
 |_=>none
def ig(P:Program)(T T':TypeId)(lv:Key->LB)(κ:Key)(y x:AV):Option jm:=
 match x,lv κ with
 |.c (.d (.str l)),.hole=>if cP P T' then(match eW P T with
  |some (e,1)=>match P.info? e with
   |some i=>match i.zero with
    |some z=>if z.cells.size=1 then(match y with
     |.c (.d .nilsl)=>if l.length<=9223372036854775807/\l.length*i.bytes<=140737488355328 then some (.c (.aH κ 0 l.length 1),[(κ,if l.length=0 then .nils else .cells true false e (bl l))],[])else none
     |.c (.aH k off n sz)=>match lv k with
      |.nils=>if off=0/\n=0/\sz=1/\l.length<=9223372036854775807/\l.length*i.bytes<=140737488355328 then some (.c (.aH κ 0 l.length 1),[(κ,if l.length=0 then .nils else .cells true false e (bl l))],[k])else none
      |.cells own false e' cs=>if off=0/\sz=1/\e'=e/\cs.length=n/\n+l.length<=9223372036854775807/\(n+l.length)*i.bytes<=140737488355328 then some (.c (.aH κ 0 (n+l.length) 1),[(k,.dead),(κ,.cells own false e (cs++bl l))],[])else none
      |_=>none
     |_=>none)else none
    |none=>none
   |none=>none
  |_=>none)else none
 |_,_=>none
def Ef(P:Program)(T T':TypeId)(lv:Key->LB)(κ k:Key)(off n sz:Nat)(x:AV):Option jm:=
 match lv κ,eW P T with
 |.hole,some (e,sz')=>match P.info? e with
  |some i=>match i.zero with
   |some z=>match lv k,fc lv sz x with
    |.cells _ _ _ cs,some (m,xs)=>if T'=T/\sz'=sz/\z.cells.size=sz/\m≠0/\off+n*sz<=cs.length/\n+m<=9223372036854775807/\(n+m)*i.bytes<=140737488355328 then
     some (.c (.aH κ 0 (n+m) sz),[(κ,.cells true false e ((cs.drop off).take (n*sz)++xs))],k::keyOf x)else none
    |_,_=>none
   |none=>none
  |none=>none
 |_,_=>none
def L0(P:Program)(T T':TypeId)(lv:Key->LB)(κ:Key)(y x:AV):Option jm:=
 match y with
 |.c (.lsf k off n sz)=>Ef P T T' lv κ k off n sz x
 |y=>ig P T T' lv κ y x
def tM(P:Program)(T:TypeId)(lv:Key->LB)(x h m:AV):Option jm:=
 match x,h,m with
 |.c (.aH k off n sz),.c (.d (.int _ a)),.c (.d (.int _ b))=>match lv k,eW P T with
  |.cells ..,some (_,sz')=>if sz'=sz/\b=a/\0<=a/\a<=n then some (.c (.lsf k off a.toNat sz),[],[k])else none
  |_,_=>none
 |_,_,_=>none
def yx(lv:Key->LB)(x:AV):Option jm:=
 match x with
 |.c (.d .nilsl)=>some (.c (.d .nilp),[],[])
 |.c (.aH k off len sz)=>match lv k with
  |.cells ..=>if 0<len then some (.c (.ptr k off),[],[k])else none
  |.nils=>if off=0/\len=0/\sz=1 then some (.c (.d .nilp),[],[k])else none
  |_=>none
 |_=>none
def nT(P:Program)(pt:TypeId)(lv:Key->LB)(x y:AV):Option jm:=
 match y with
 |.c (.d (.int .i64 n))=>match x with
  |.c (.d .nilp)=>if n=0 then some (.c (.d (.str [])),[],[])else none
  |.c (.ptr k 0)=>match lv k,P.underlying pt with
   |.cells _ false e cs,some (.pointer e')=>if e'=e/\P.cellsOf e=1/\0<n/\n<=9223372036854775807 then(match mz (cs.take n.toNat)with
    |some l=>if l.length=n.toNat then some (.c (.d (.str l)),[(k,.dead)],[])else none
    |none=>none)else none
   |_,_=>none
  |_=>none
 |_=>none
def Pb(P:Program)(T:TypeId)(lv:Key->LB)(x:AV):Option jm:=
 match x with
 |.c (.mapr k)=>match lv k with
  |.map _ es=>if (F2 P T).isSome&&Nat.ble es.length 9223372036854775807 then some (.c (.d (.int .i64 es.length)),[],[k])else none
  |_=>none
 |_=>none
def FV(P:Program)(cl:Call)(vals:List AV)(lv:Key->LB)(κ:Key):Option jm:=
 match cl.callee,cl.args.toList,cl.argTypes.toList,vals with
 |.builtin .append,[_,_],[T,T'],[y,x]=>L0 P T T' lv κ y x
 |.builtin .unsafeSliceData,[_],[_],[x]=>yx lv x
 |.builtin .len,[_],[T],[x]=>Pb P T lv x
 |.builtin .unsafeString,[_,_],[pt,_],[x,y]=>nT P pt lv x y
 |_,_,_,_=>none
def NO(P:Program)(x:AV):Option jm:=
 match x with
 |.c (.d (.func (.method n) (.iface t v::fs) cs))=>if (y8 P t n).isSome then some (.c (.d (.func (.method n) (.iface t v::fs) cs)),[],[])else none
 |.c (.func (.method n) (.ifc t v::fs) cs)=>if (y8 P t n).isSome then some (.c (.func (.method n) (.ifc t v::fs) cs),[],[])else none
 |.c (.func (.method n) (.d (.iface t v)::fs) cs)=>if (y8 P t n).isSome then some (.c (.func (.method n) (.d (.iface t v)::fs) cs),[],[])else none
 |_=>none
theorem B6{name:String}(h:(y8 P t name).isSome=true)(n:Nat)(v:Value)(w:World):(nilAhead (n+1) t v name).run P w=.ok (some false) w:=by
 obtain⟨f,h⟩:=Option.isSome_iff_exists.1 h;unfold y8 at h;obtain⟨i,hi,h⟩:=Option.bind_eq_some_iff.1 h;obtain⟨d,hd,h⟩:=Option.bind_eq_some_iff.1 h;obtain⟨m,hm,h⟩:=Option.bind_eq_some_iff.1 h;obtain⟨⟨g,b⟩,hf,h⟩:=Option.bind_eq_some_iff.1 h;split at h
 ·cases h
 rename_i hc
 cases h
 simp only[aeV,aee,not_or,Bool.not_eq_true,Bool.not_eq_false]at hc;obtain⟨⟨h1,rfl⟩,h2⟩:=hc;have hp':m.path.toList=[]:=by simpa using h2
 unfold nilAhead;simp only[mT,typeInfo,run_program,sr,hi,aer,hm,hp',followBlind,hf,run_underlying hd]
 cases d<;>first|(cases h1;done)|simp
theorem Qw{c:Ctx}{s:aB}{x:Operand}(hd:∀d,o.dst=some d->d<c.n)(ho:o.op=.nilCheck x)(hx:s.val c.G x=y)(h:NO c.P y=some r):bT c o s (aB.put ⟨s.fr,bg s.lv r.2.1⟩ o.dst r.1):=by
 have key:(∀(V:Vw) (v:Value),V.av v y->∃n fs cs t u,v=.func (.method n) fs cs/\fs[0]?=some (.iface t u)/\(y8 c.P t n).isSome=true)->bT c o s (s.put o.dst y):=λhk=>
  bT.aX hd λF β a w hs=>by
   have h0:=hs.val x;rw[hx]at h0;obtain⟨n,fs,cs,t,u,he,h1,h2⟩:=hk _ _ h0;refine⟨_,?_,h0⟩;simp[execOp,ho,he,h1,B6 h2,Made.depth]
 unfold NO at h;split at h
 ·rename_i n t v fs cs
  split at h
  ·rename_i hm
   cases h
   refine key λV w hv=>?_;obtain⟨hv,_⟩:=hv
   cases hv with
   |func _ fs' cs' _ _ hf _ hr _=>
    have h0:=hr 0 (by simp);have hs:0<fs'.size:=by rw[hf];simp
    generalize hz:fs'[0]=z at h0
    cases h0 with
    |iface _ u _ _=>exact⟨n,fs',cs',t,u,rfl,by rw[afd hs,hz],hm⟩
  ·cases h
 ·rename_i n t v fs cs
  split at h
  ·rename_i hm
   cases h
   refine key λV w hv=>?_;obtain⟨fs',cs',rfl,hf,_,hr,_⟩:=hv;have hs:0<fs'.size:=by rw[hf];simp
   obtain⟨u,hu,_⟩:=hr 0 (by simp) hs;exact⟨n,fs',cs',t,u,rfl,by rw[afd hs,hu],hm⟩
  ·cases h
 ·rename_i n t v fs cs
  split at h
  ·rename_i hm
   cases h
   refine key λV w hv=>?_;obtain⟨fs',cs',rfl,hf,_,hr,_⟩:=hv;have hs:0<fs'.size:=by rw[hf];simp
   have h0:Rd V.mem fs'[0] (.iface t v):=hr 0 (by simp) hs;generalize hz:fs'[0]=z at h0
   cases h0 with
   |iface _ u _ _=>exact⟨n,fs',cs',t,u,rfl,by rw[afd hs,hz],hm⟩
  ·cases h
 ·cases h
def fj(P:Program)(op:Op)(vals:List AV)(lv:Key->LB)(κ:Key):Option jm:=
 match op,vals with
 |.binOp op T _ _ _,[x,y]=>Qp P op T lv x y
 |.makeMap _ none,[]=>match lv κ with|.hole=>some (.c (.mapr κ),[(κ,.map true [])],[])|_=>none
 |.mapUpdate T _ _ _,[m,k,y]=>r8 P T lv m k y
 |.insert T _ _ _,[m,k,y]=>r8 P T lv m k y
 |.lookup T _ _ ok,[m,k]=>Ec P T ok lv m k
 |.typeAssert _ _ T ok,[x]=>if Og P T then(match CL P T ok x with|some v=>some (v,[],[])|none=>none)else none
 |.makeInterface T _,[x]=>if P.concrete T then(match yf x with|some r=>some (.c (.ifc T r),[],[])|none=>none)else none
 |.slice T _ lo hi none,x::rest=>match GR lo hi rest with|some (l,h)=>sJ P T lv x l h|none=>none
 |.slice T _ none (some _) (some _),[x,h,m]=>tM P T lv x h m
 |.convert S T _,[x]=>UB P S T x
 |.call cl,vals=>FV P cl vals lv κ
 |.nilCheck _,[x]=>NO P x
 |_,_=>none
section
variable {c:Ctx}{s:aB}{o:Oper}
theorem zK{y:Operand}(hd:∀d,o.dst=some d->d<c.n)(ho:o.op=.mapUpdate T m kx y\/o.op=.insert T m kx y)(h:r8 c.P T s.lv (s.val c.G m) (s.val c.G kx) (s.val c.G y)=some r):
 bT c o s (aB.put ⟨s.fr,bg s.lv r.2.1⟩ o.dst r.1):=by
 unfold r8 at h;split at h
 ·rename_i k hm
  split at h
  ·rename_i own es hk
   split at h
   ·rename_i kT eT d hT hdp
    split at h
    ·rename_i hc
     simp only[rP,adV]at hc;simp only[ah]at h;subst h;refine At hd ho hm hk hT hdp hc.1.1 hc.1.2 rfl (λl e=>?_);have:=hc.2;rw[e]at this;cases this
    ·cases h
   ·cases h
  ·cases h
 ·cases h
theorem Ba(hd:∀d,o.dst=some d->d<c.n)(ho:o.op=op)(hv:op.operands.toList.map (s.val c.G)=vals)
 (h:fj c.P op vals s.lv κ=some r):bT c o s (aB.put ⟨s.fr,bg s.lv r.2.1⟩ o.dst r.1):=by
 unfold fj at h;split at h
 ·
  rename_i bop T x y T' a b
  simp only[Op.operands,adK,aeD,ad8,and_true]at hv;obtain⟨rfl,rfl⟩:=hv;unfold Qp at h;split at h
  ·rename_i bb hn
   split at h
   ·rename_i hc
    simp only[rP]at hc;split at h
    ·simp only[ah]at h;subst h;exact Bx hd ho (.inl rfl) hn hc.1 hc.2
    ·simp only[ah]at h;subst h;exact Bx hd ho (.inr rfl) hn hc.1 hc.2
    ·cases h
   ·cases h
  ·cases h
 ·rename_i T
  split at h
  ·rename_i hκ
   simp only[ah]at h;subst h;exact DZ hd ho rfl hκ
  ·cases h
 ·rename_i T m kx y a b cc
  simp only[Op.operands,adK,aeD,ad8,and_true]at hv;obtain⟨rfl,rfl,rfl⟩:=hv;exact zK hd (.inl ho) h
 ·rename_i T m kx y a b cc
  simp only[Op.operands,adK,aeD,ad8,and_true]at hv;obtain⟨rfl,rfl,rfl⟩:=hv;exact zK hd (.inr ho) h
 ·rename_i T m kx ok a b
  simp only[Op.operands,adK,aeD,ad8,and_true]at hv;obtain⟨rfl,rfl⟩:=hv;unfold Ec at h;split at h
  ·rename_i es ks hm
   split at h
   ·rename_i kT eT d hT hdp
    split at h
    ·rename_i hc
     simp only[rP,adV]at hc;split at h
     ·rename_i v bb hl
      split at h
      ·rename_i hv
       simp only[ah]at h;subst h;refine HJ hd ho ?_ hT hdp hc.1 hc.2 hl (KG hv);unfold Mo at hm
       grind
      ·cases h
     ·cases h
    ·cases h
   ·cases h
  ·cases h
 ·rename_i x xT T ok a
  simp only[Op.operands,adK,aeD,ad8,and_true]at hv;subst hv;split at h
  ·rename_i hT
   split at h
   ·rename_i v hvv
    simp only[ah]at h;subst h;exact HP hd ho hT hvv
   ·cases h
  ·cases h
 ·rename_i T x a
  simp only[Op.operands,adK,aeD,ad8,and_true]at hv;subst hv;split at h
  ·rename_i hT
   split at h
   ·rename_i v hvv
    simp only[ah]at h;subst h;exact AB hd ho hvv hT
   ·cases h
  ·cases h
 ·rename_i T x lo hi a rest
  have hop:(Op.slice T x lo hi none).operands.toList=x::(lo.toArray++hi.toArray).toList:=by
   simp[Op.operands]
  rw[hop]at hv;simp only[adK,ad8]at hv;obtain⟨rfl,rfl⟩:=hv;split at h
  ·rename_i l hh hb
   obtain⟨rfl,rfl⟩:=Jg hb;unfold sJ at h;split at h
   ·rename_i k off hx
    split at h
    ·rename_i own fz T0 cs n e sz hk hT
     split at h
     ·rename_i l h' hl hh
      split at h
      ·rename_i hc
       simp only[ah]at h;subst h;exact Dl hd ho hx hk hT hc.1 hl hh hc.2.1 hc.2.2.1 hc.2.2.2.1 hc.2.2.2.2
      grind
     grind
    grind
   ·rename_i cs hx
    split at h
    ·rename_i n e sz hT
     split at h
     ·rename_i l h' hl hh
      split at h
      ·rename_i hc
       simp only[ah]at h;subst h;exact Co hd ho hx hT hc.1 hl hh hc.2.1 hc.2.2.1 hc.2.2.2.1 hc.2.2.2.2
      grind
     grind
    grind
   ·rename_i k off len sz hx
    split at h
    ·rename_i own fz T0 cs e sz' hk hT
     split at h
     ·rename_i hsz
      subst hsz;split at h
      ·rename_i l h' hl hh
       split at h
       ·rename_i hc
        simp only[ah]at h;subst h;exact Cz hd ho hx hk hT hl hh hc.1 hc.2.1 hc.2.2
       grind
      grind
     grind
    grind
   grind
  grind
 ·rename_i T x hh mm a b cc
  have hop:(Op.slice T x none (some hh) (some mm)).operands.toList=[x,hh,mm]:=by
   simp[Op.operands]
  rw[hop]at hv;simp only[adK,aeD,ad8,and_true]at hv;obtain⟨rfl,rfl,rfl⟩:=hv;unfold tM at h;split at h
  ·rename_i k off n sz k1 a1 k2 b1 hx hy hz
   split at h
   ·rename_i e sz' hk hT
    split at h
    ·rename_i hc
     obtain⟨rfl,rfl,c3,c4⟩:=hc;simp only[ah]at h;subst h;exact Ga hd ho hx hk hT hy hz c3 c4
    ·cases h
   ·cases h
  ·cases h
 ·rename_i S T x a
  simp only[Op.operands,adK,aeD,ad8,and_true]at hv;subst hv;unfold UB at h;split at h
  ·rename_i l hx
   split at h
   ·rename_i hS
    split at h
    ·rename_i e hT
     split at h
     ·rename_i he
      split at h
      ·rename_i hl
       simp only[ah]at h;subst h;exact zQ hd ho hx hS hT he hl
      ·cases h
     ·cases h
    ·cases h
   ·cases h
  ·cases h
 ·rename_i cl vals
  unfold FV at h;split at h
  ·rename_i y0 x0 T T' y x h1 h2 h3
   have e:=nu h1 h2 h3;subst e;simp only[Op.operands,Call.operands]at hv;simp at hv;obtain⟨rfl,rfl⟩:=hv;unfold L0 at h;split at h
   ·rename_i k off n sz hy
    unfold Ef at h;split at h
    ·rename_i e sz' hκ hT
     split at h
     ·rename_i i hi
      split at h
      ·rename_i z hz
       split at h
       ·rename_i cs m xs hk hx
        split at h
        ·rename_i hc
         obtain⟨rfl,rfl,c3,c4,c5,c6,c7⟩:=hc;simp only[ah]at h;subst h;exact De hd ho hκ hT hi hz hy hk c5 hx c4 c3 c6 c7
        ·cases h
       ·cases h
      ·cases h
     ·cases h
    ·cases h
   unfold ig at h;split at h
   ·rename_i l hx hκ
    split at h
    ·rename_i hT'
     split at h
     ·rename_i e hT
      split at h
      ·rename_i i hi
       split at h
       ·rename_i z hz
        split at h
        ·rename_i hzs
         split at h
         ·rename_i hy
          split at h
          ·rename_i hc
           simp only[ah]at h;subst h;exact ld hd ho hκ (.inl hy) hT hT' hi hz hx hzs hc.1 hc.2
          grind
         ·rename_i k off n sz hy
          split at h
          ·rename_i hk
           split at h
           ·rename_i hc
            obtain⟨rfl,rfl,rfl,c1,c2⟩:=hc;simp only[ah]at h;subst h;exact ld hd ho hκ (.inr ⟨k,hy,hk⟩) hT hT' hi hz hx hzs c1 c2
           grind
          ·rename_i own e' cs hk
           split at h
           ·rename_i hc
            obtain⟨rfl,rfl,rfl,c1,c2,c3⟩:=hc;simp only[ah]at h;subst h;exact sD hd ho hκ hT hT' hi hz hy hk c1 hx hzs c2 c3
           grind
          grind
         grind
        grind
       grind
      grind
     grind
    grind
   grind
  ·rename_i x0 T x h1 h2 h3
   have e:=nu h1 h2 h3;subst e;simp only[Op.operands,Call.operands]at hv;simp at hv;subst hv;unfold yx at h;split at h
   ·rename_i hx
    simp only[ah]at h;subst h;exact l7 hd ho (.inl hx)
   ·rename_i k off len sz hx
    split at h
    ·rename_i hk
     split at h
     ·rename_i hl
      simp only[ah]at h;subst h;exact AE hd ho hx hk hl
     grind
    ·rename_i hk
     split at h
     ·rename_i hc
      obtain⟨rfl,rfl,rfl⟩:=hc;simp only[ah]at h;subst h;exact l7 hd ho (.inr ⟨k,hx,hk⟩)
     grind
    grind
   grind
  ·rename_i x0 T x h1 h2 h3
   have e:=nu h1 h2 h3;subst e;simp only[Op.operands,Call.operands]at hv;simp at hv;subst hv;unfold Pb at h;split at h
   ·rename_i k hx
    split at h
    ·rename_i own es hk
     split at h
     ·rename_i hc
      simp only[rP]at hc;simp only[ah]at h;subst h;exact Fb hd ho hx hk hc.1 (ad1 hc.2)
     grind
    grind
   grind
  ·rename_i x0 y0 pt it x y h1 h2 h3
   have e:=nu h1 h2 h3;subst e;simp only[Op.operands,Call.operands]at hv;simp at hv;obtain⟨rfl,rfl⟩:=hv;unfold nT at h;split at h
   ·rename_i n hy
    split at h
    ·rename_i hx
     split at h
     ·rename_i hn
      subst hn;simp only[ah]at h;subst h;exact oI hd ho hx hy
     grind
    ·rename_i k hx
     split at h
     ·rename_i own e cs e' hk hp
      split at h
      ·rename_i hc
       obtain⟨rfl,c1,c2,c3⟩:=hc;split at h
       ·rename_i l hl
        split at h
        ·rename_i hll
         simp only[ah]at h;subst h;have hn:n=(l.length:Int):=by omega
         refine vK hd ho hx hk (by rw[hy,hn]) hp c1 (by rw[hll];exact y9 hl) (λe=>?_) (by omega)
         grind
        grind
       grind
      grind
     grind
    grind
   grind
  ·cases h
 ·rename_i x a
  simp only[Op.operands,adK,aeD,ad8,and_true]at hv;exact Qw hd ho hv h
 ·cases h
end
section
variable {P:Program}{T T':TypeId}{lv lv':Key->LB}{κ:Key}{r:jm}
theorem zq(h:uB lv x=some b)(hk:∀k∈WB x,lv' k=lv k):uB lv' x=some b:=by
 unfold uB at h ⊢
 split at h<;>first
  |(rename_i k _;rw[hk k (List.mem_singleton.2 rfl)];exact h)
  |(rename_i k;rw[hk k (List.mem_singleton.2 rfl)];exact h)
  |(rename_i k _ _ _;rw[hk k (List.mem_singleton.2 rfl)];exact h)
  |exact h
  |cases h
theorem ID{op:BinOp}(h:Qp P op T lv x y=some r)(ha:Agree lv lv' r.2.1 r.2.2):Qp P op T lv' x y=some r:=by
 unfold Qp at h ⊢;split at h
 ·rename_i b hn
  split at h
  ·rename_i hc
   split at h
   ·simp only[ah]at h;subst h;rw[zq hn (λk hk=>ha.1 k hk)];grind
   ·simp only[ah]at h;subst h;rw[zq hn (λk hk=>ha.1 k hk)];grind
   grind
  grind
 grind
theorem uK{m kx:AV}(h:r8 P T lv m kx y=some r)(ha:Agree lv lv' r.2.1 r.2.2):r8 P T lv' m kx y=some r:=by
 unfold r8 at h ⊢;split at h
 ·rename_i k
  split at h
  ·rename_i own es hk
   split at h
   ·rename_i kT _ d hT hd
    split at h
    ·rename_i hc
     simp only[ah]at h;subst h;have h1:=ha.2 _ (List.mem_singleton.2 rfl)
     grind
    grind
   grind
  grind
 omega
theorem IF{ks:List Key}(h:Mo lv x=some (es,ks))(hk:∀k∈ks,lv' k=lv k):Mo lv' x=some (es,ks):=by
 unfold Mo at h ⊢
 grind
theorem Fu{m kx:AV}(h:Ec P T ok lv m kx=some r)(ha:Agree lv lv' r.2.1 r.2.2):Ec P T ok lv' m kx=some r:=by
 unfold Ec at h ⊢;split at h
 ·rename_i es ks hm
  have hr:r.2.2=ks:=by
   split at h
   ·split at h
    ·split at h
     ·split at h
      ·simp only[ah]at h;subst h;rfl
      ·cases h
     ·cases h
    ·cases h
   ·cases h
  rw[IF hm (λk hk=>ha.1 k (hr▸hk))];exact h
 grind
theorem Dn{lo hi:Option AV}(h:sJ P T lv x lo hi=some r)(ha:Agree lv lv' r.2.1 r.2.2):sJ P T lv' x lo hi=some r:=by
 unfold sJ at h ⊢;split at h
 ·rename_i k off
  have hr:r.2.2=[k]:=by
   split at h
   ·split at h
    ·split at h
     ·simp only[ah]at h;subst h;rfl
     ·cases h
    ·cases h
   ·cases h
  rw[ha.1 k (by grind)];exact h
 ·exact h
 ·rename_i k off len sz
  have hr:r.2.2=[k]:=by
   split at h
   ·split at h
    ·split at h
     ·split at h
      ·simp only[ah]at h;subst h;rfl
      ·cases h
     ·cases h
    ·cases h
   ·cases h
  rw[ha.1 k (by grind)];exact h
 omega
theorem pq(h:ig P T T' lv κ y x=some r)(ha:Agree lv lv' r.2.1 r.2.2):ig P T T' lv' κ y x=some r:=by
 unfold ig at h ⊢;split at h
 ·rename_i l hκ
  split at h
  ·rename_i hT'
   split at h
   ·rename_i e hT
    split at h
    ·rename_i i hi
     split at h
     ·rename_i z hz
      split at h
      ·rename_i hzs
       split at h
       ·split at h
        ·rename_i hc
         simp only[ah]at h;subst h;have h1:=ha.2 _ (List.mem_singleton.2 rfl)
         grind
        grind
       ·rename_i k off n sz
        split at h
        ·rename_i hk
         split at h
         ·rename_i hc
          simp only[ah]at h;subst h;have h1:=ha.2 _ (List.mem_singleton.2 rfl);have h2:=ha.1 k (List.mem_singleton.2 rfl)
          grind
         grind
        ·rename_i own e' cs hk
         split at h
         ·rename_i hc
          simp only[ah]at h;subst h;have h1:=ha.2 (κ,_) (aew _ (List.mem_singleton.2 rfl));have h2:=ha.2 (k,_) (aen ..)
          grind
         grind
        grind
       grind
      grind
     grind
    grind
   grind
  grind
 grind
theorem EB(h:Ef P T T' lv κ k off n sz x=some r)(ha:Agree lv lv' r.2.1 r.2.2):Ef P T T' lv' κ k off n sz x=some r:=by
 unfold Ef at h ⊢;split at h
 ·rename_i e sz' hκ hT
  split at h
  ·rename_i i hi
   split at h
   ·rename_i z hz
    split at h
    ·rename_i cs m xs hk hx
     split at h
     ·rename_i hc
      simp only[ah]at h;subst h;have h1:=ha.2 _ (List.mem_singleton.2 rfl);have h2:=ha.1 k (aen ..);have h3:=lI hx (λk hk=>ha.1 k (aew _ hk))
      grind
     grind
    grind
   grind
  grind
 grind
theorem HX(h:L0 P T T' lv κ y x=some r)(ha:Agree lv lv' r.2.1 r.2.2):L0 P T T' lv' κ y x=some r:=by
 cases y with
 |c y=>cases y<;>simp only[L0]at h ⊢<;>first|exact EB h ha|exact pq h ha
 |_=>simp only[L0]at h ⊢;exact pq h ha
theorem Aj{z:AV}(h:tM P T lv x y z=some r)(ha:Agree lv lv' r.2.1 r.2.2):tM P T lv' x y z=some r:=by
 unfold tM at h ⊢;split at h
 ·rename_i k off n sz k1 a k2 b
  have hr:r.2.2=[k]:=by
   split at h
   ·split at h
    ·simp only[ah]at h;subst h;rfl
    ·cases h
   ·cases h
  rw[ha.1 k (by grind)];exact h
 cases h
theorem Fo(h:yx lv x=some r)(ha:Agree lv lv' r.2.1 r.2.2):yx lv' x=some r:=by
 unfold yx at h ⊢;split at h
 ·exact h
 ·rename_i k off len sz
  have hr:r.2.2=[k]:=by
   split at h
   ·split at h
    ·simp only[ah]at h;subst h;rfl
    ·cases h
   ·split at h
    ·simp only[ah]at h;subst h;rfl
    ·cases h
   ·cases h
  rw[ha.1 k (by grind)];exact h
 omega
theorem Ai(h:nT P T lv x y=some r)(ha:Agree lv lv' r.2.1 r.2.2):nT P T lv' x y=some r:=by
 unfold nT at h ⊢;split at h
 ·rename_i n
  split at h
  ·exact h
  ·rename_i k
   have hr:r.2.1=[(k,.dead)]:=by
    split at h
    ·split at h
     ·split at h
      ·split at h
       ·simp only[ah]at h;subst h;rfl
       ·cases h
      ·cases h
     ·cases h
    ·cases h
   have:=ha.2 (k,.dead) (by grind)
   grind
  omega
 omega
theorem GI(h:Pb P T lv x=some r)(ha:Agree lv lv' r.2.1 r.2.2):Pb P T lv' x=some r:=by
 unfold Pb at h ⊢;split at h
 ·rename_i k
  have hr:r.2.2=[k]:=by
   split at h
   ·split at h
    ·simp only[ah]at h;subst h;rfl
    ·cases h
   ·cases h
  rw[ha.1 k (by grind)];exact h
 omega
theorem F8{cl:Call}(h:FV P cl vals lv κ=some r)(ha:Agree lv lv' r.2.1 r.2.2):FV P cl vals lv' κ=some r:=by
 unfold FV at h ⊢;split at h
 ·exact HX h ha
 ·exact Fo h ha
 ·exact GI h ha
 ·exact Ai h ha
 omega
theorem vZ(h:fj P op vals lv κ=some r)(ha:Agree lv lv' r.2.1 r.2.2):fj P op vals lv' κ=some r:=by
 unfold fj at h ⊢;split at h
 ·exact ID h ha
 ·split at h
  ·rename_i hκ
   simp only[ah]at h;subst h;have:=ha.2 _ (List.mem_singleton.2 rfl)
   grind
  grind
 ·exact uK h ha
 ·exact uK h ha
 ·exact Fu h ha
 ·exact h
 ·exact h
 ·split at h
  ·rename_i l hh hb
   exact Dn h ha
  omega
 ·exact Aj h ha
 ·exact h
 ·exact F8 h ha
 ·exact h
 omega
end
end Go.Am
namespace Go.Am
variable {β α:Type}{x:AV}{c:Ctx}{s:aB}{l:List (Nat×AV)}{f:FuncId}{g:Key->Key}{b:LB}{P:Program}{G:List (List DV)}{fn:Func}{code:Code}{args:List AV}{p:Key->Bool}{lv:Key->LB}{nk:List Key}{kh:Key}
theorem AW.seq'{r:Option Nat}{κ:Nat}{Q:Ex->aB->Nat->Prop}{x y:Code}(h:AW c r x s κ (uF (λs κ=>AW c r y s κ Q) Q)):AW c r (.seq x y) s κ Q:=
 AW.seq h λ_ _ h=>h
theorem Ref.oM:∀(x:Ref),x.bY (λk=>k)=x
 |.d _=>rfl
 |.ptr ..=>rfl
 |.aH ..=>rfl
 |.agg cs=>by
  simp only[Ref.bY];congr 1;have:∀x∈cs,jd.bY (λk=>k) x=x:=λx _=>by cases x<;>rfl
  simpa using aes this
 |.ifc t x=>by simp only[Ref.bY,Ref.oM x]
theorem CV.oM(x:CV):x.bY (λk=>k)=x:=by
 cases x with
 |func fn f c=>
  simp only[CV.bY]
  have h:∀l:List Ref,l.map (Ref.bY λk=>k)=l:=λl=>by
   have:∀x∈l,Ref.bY (λk=>k) x=x:=λx _=>Ref.oM x
   simpa using aes this
  rw[h,h]
 |ifc t x=>simp only[CV.bY,Ref.oM]
 |_=>rfl
theorem zL(l:List CV):l.map (CV.bY λk=>k)=l:=by
 have:∀x∈l,CV.bY (λk=>k) x=x:=λx _=>CV.oM x
 simpa using aes this
theorem AV.xw(h:x.bZ=true):x.mD (λk=>k)=x:=by
 cases x with
 |c x=>simp only[AV.mD,CV.oM]
 |agg cs=>simp only[AV.mD,zL]
 |tup l=>cases h
 |undef=>rfl
 |junk=>rfl
theorem AV.oM(h:x.bX=true):x.bY (λk=>k)=x:=by
 cases x with
 |c x=>exact AV.xw (x:=.c x) rfl
 |agg cs=>exact AV.xw (x:=.agg cs) rfl
 |tup l=>
  simp only[AV.bX,adV]at h;simp only[AV.bY];congr 1;have:∀x∈l,AV.mD (λk=>k) x=x:=λx hx=>AV.xw (by have:=h x hx;cases x<;>simp_all [AV.bZ])
  simpa using aes this
 |undef=>rfl
 |junk=>rfl
theorem LB.ZE{x:LB}(hm:∀own es,x=.map own es->∀p∈es,∀l,p.2≠.tup l):x.as x (λk=>k):=by
 cases x with
 |cells own fz T cs=>exact⟨own,cs,rfl,(zL cs).symm,λh=>h⟩
 |map own es=>
  refine⟨own,es,rfl,?_,λh=>h,λp hp l=>hm own es rfl p hp l⟩
  have:∀p∈es,(λp:DV×AV=>(p.1,p.2.mD λk=>k)) p=p:=λp hp=>by
   have:=AV.xw (x:=p.2) (by have:=hm own es rfl p hp;cases e:p.2<;>simp_all [AV.bZ])
   grind
  simpa using (aes this).symm
 |hole=>rfl
 |dead=>intro h;cases h
 |nils=>rfl
def aU:List (Nat×AV)->Nat->AV
 |[],_=>.junk
 |p::l,t=>if t=p.1 then p.2 else aU l t
theorem nY{P:Nat->AV->Prop}(h:∀p∈l,P p.1 p.2)(t:Nat):aU l t=.junk\/P t (aU l t):=by
 induction l with
 |nil=>exact .inl rfl
 |cons p l ih=>
  simp only[aU]
  grind
theorem fD.slots(hl:∀p∈l,p.2.bX=true/\s.fr p.1=p.2)(hm:∀k own es,s.lv k=.map own es->∀p∈es,∀l,p.2≠.tup l):
 fD c s ⟨aU l,s.lv⟩ (λk=>k):=by
 refine⟨λk=>LB.ZE (hm k),λk k' _ _ h=>h,λt=>?_,λk _=>.inr rfl⟩;rcases nY (P:=λt x=>x.bX=true/\s.fr t=x) hl t with h|⟨h1,h2⟩
 ·grind
 ·exact .inr ⟨h1,by rw[AV.oM h1];exact h2⟩
def CV.pure:CV->Bool
 |.d _=>true
 |_=>false
def AV.kX:AV->Bool
 |.c x=>x.pure
 |.agg cs=>cs.all CV.pure
 |.undef=>true
 |.junk=>true
 |_=>false
def AV.pure:AV->Bool
 |.tup l=>l.all AV.kX
 |x=>x.kX
theorem CV.cV{x:CV}(h:x.pure=true)(g:Key->Key):x.bY g=x:=by cases x<;>simp_all [CV.pure,CV.bY]
theorem AV.vM(h:x.kX=true)(g:Key->Key):x.mD g=x:=by
 cases x with
 |c x=>simp only[AV.mD,CV.cV h]
 |agg cs=>
  simp only[AV.kX,adV]at h;simp only[AV.mD];congr 1;have:∀x∈cs,CV.bY g x=x:=λx hx=>CV.cV (h x hx) g
  simpa using aes this
 |tup l=>cases h
 |undef=>rfl
 |junk=>rfl
theorem AV.cV(h:x.pure=true)(g:Key->Key):x.bY g=x:=by
 cases x with
 |c x=>exact AV.vM (x:=.c x) h g
 |agg cs=>exact AV.vM (x:=.agg cs) h g
 |tup l=>
  simp only[AV.pure,adV]at h;simp only[AV.bY];congr 1;have:∀x∈l,AV.mD g x=x:=λx hx=>AV.vM (h x hx) g
  simpa using aes this
 |undef=>rfl
 |junk=>rfl
theorem AV.iI(h:x.pure=true):x.bX=true:=by
 cases x with
 |tup l=>
  simp only[AV.pure,adV]at h;simp only[AV.bX,adV];intro x hx;have:=h x hx
  cases x<;>simp_all [AV.kX]
 |_=>rfl
theorem fD.blind(hl:∀p∈l,p.2.pure=true/\s.fr p.1=p.2)(kh:Key)(hh:s.lv kh=.hole)(h0:∀k,c.iN k=.hole):
 fD c s ⟨aU l,λ_=>.hole⟩ (λ_=>kh):=by
 refine⟨λk=>hh,λk k' h=>(by cases h),λt=>?_,λk h=>absurd (h0 k) h⟩;rcases nY (P:=λt x=>x.pure=true/\s.fr t=x) hl t with h|⟨h1,h2⟩
 ·grind
 ·exact .inr ⟨AV.iI h1,by rw[AV.cV h1];exact h2⟩
theorem gU:bL [] []=λ_=>LB.hole:=funext λk=>tT k
def aN(c:Ctx)(fn:Func)(x:AV):Ex->aB->Nat->Prop
 |.normal,s,_|.ret,s,_=>∃l kh,(∀p∈l,p.2.pure=true/\s.fr p.1=p.2)/\s.lv kh=.hole/\eE c.P ⟨aU l,λ_=>.hole⟩ fn.results.toList=some x
 |_,_,_=>False
theorem aa.Ny(hf:P.funcs[f]?=some fn)(hb:fn.body=some code)(hl:args.length<=fn.ntmps)
 (h:∀c:Ctx,c.P=P->c.G=G->c.n=fn.ntmps->c.iN=(λ_=>.hole)->AW c none code ⟨λt=>args.getD t .undef,λ_=>.hole⟩ 0 (aN c fn x)):aa P G f args x:=by
 refine aI.mw hf hb hl λc h1 h2 h3 h4=>?_;rw[gU]at h4 ⊢;refine(AW.mono (λF β a w hs=>h c h1 h2 h3 h4 F β a w hs) λe s κ hq=>?_:AW c none code _ 1000 _)
 have fin:(∃l kh,(∀p∈l,p.2.pure=true/\s.fr p.1=p.2)/\s.lv kh=.hole/\eE c.P ⟨aU l,λ_=>.hole⟩ fn.results.toList=some x) ->
  ∃s2 g,fD c s s2 g/\s2.lv=bL [] []/\eE c.P s2 fn.results.toList=some x:=by
  rintro⟨l,kh,g1,g2,g3⟩;exact⟨⟨aU l,λ_=>.hole⟩,λ_=>kh,fD.blind g1 kh g2 (λk=>by rw[h4]),by rw[gU],g3⟩
 cases e with
 |normal=>exact fin hq
 |ret=>exact fin hq
 |exit id=>exact hq.elim
 |goto l=>exact hq.elim
 |panic d=>exact hq.elim
theorem aa.mw(hf:P.funcs[f]?=some fn)(hb:fn.body=some code)(hl:args.length<=fn.ntmps)
 (h:∀c:Ctx,c.P=P->c.G=G->c.n=fn.ntmps->AW c none code ⟨λt=>args.getD t .undef,λ_=>.hole⟩ 0 (aN c fn x)):aa P G f args x:=
 aa.Ny hf hb hl λc h1 h2 h3 _=>h c h1 h2 h3
inductive Tr(α:Type) where
 |nil
 |node (l:Tr α) (v:Option α) (r:Tr α)
def Tr.get:Tr α->Nat->Option α
 |.nil,_=>none
 |.node l v r,n=>match n with
  |0=>v
  |n+1=>bif Nat.beq (n%2) 0 then l.get (n/2)else r.get (n/2)
def Tr.set:Nat->Tr α->Nat->α->Option (Tr α)
 |0,_,_,_=>none
 |d+1,t,n,x=>
  match t with
  |.nil=>match n with
   |0=>some (.node .nil (some x) .nil)
   |n+1=>bif Nat.beq (n%2) 0 then(match Tr.set d .nil (n/2) x with|some l=>some (.node l none .nil)|none=>none)
    else(match Tr.set d .nil (n/2) x with|some r=>some (.node .nil none r)|none=>none)
  |.node l v r=>match n with
   |0=>some (.node l (some x) r)
   |n+1=>bif Nat.beq (n%2) 0 then(match Tr.set d l (n/2) x with|some l=>some (.node l v r)|none=>none)
    else(match Tr.set d r (n/2) x with|some r=>some (.node l v r)|none=>none)
abbrev lY:=AV×List (Key×LB)×List Key×Bool
instance (op:BinOp)(y:Int):Decidable (fF op y):=by unfold fF;cases op<;>infer_instance
instance (op:BinOp)(x y:List UInt8):Decidable (oN op x y):=by unfold oN;cases op<;>infer_instance
def vf(P:Program)(op:BinOp)(T:TypeId)(x y:AV):Option lY:=
 match x,y with
 |.c (.d (.int k m)),.c (.d (.int k' n))=>
  match op with
  |.shl|.shr=>match shI op k m n with|some d=>some (.c (.d d),[],[],decide (0<=n))|none=>none
  |_=>if k=k' then(match lQ op k m n with|some d=>some (.c (.d d),[],[],decide (fF op n))|none=>none)else none
 |.c (.d (.str m)),.c (.d (.str n))=>match Ly op m n with|some d=>some (.c (.d d),[],[],decide (oN op m n))|none=>none
 |x,y=>
  match op with
  |.eql=>if P.eqGuardType P.depth T || !nw x then none else match KI P 20 T x y with|some b=>some (.c (.d (.bool b)),[],[],true)|none=>none
  |.neq=>if P.eqGuardType P.depth T || !nw x then none else match KI P 20 T x y with|some b=>some (.c (.d (.bool (!b))),[],[],true)|none=>none
  |_=>none
def sg(P:Program)(T:TypeId)(lv:Key->LB):AV->Option lY
 |.c (.d (.ptr cs))=>match gA P T (cs.map CV.d)with|some y=>some (y,[],[],true)|none=>none
 |.c (.ptr k off)=>match lv k with
  |.cells _ _ _ cs=>match gA P T (cs.drop off)with|some y=>some (y,[],[k],true)|none=>none
  |_=>none
 |_=>none
def oH(P:Program)(T:TypeId)(lv:Key->LB)(x y:AV):Option lY:=
 match x with
 |.c (.ptr k off)=>match lv k with
  |.cells own false T' cs=>match y.cells with
   |some xs=>if (P.info? T).isSome&&xs.length == jf P T then some (.undef,[(k,.cells own false T' (ai cs off xs))],[],decide (off+xs.length<=cs.length))else none
   |none=>none
  |_=>none
 |_=>none
def vn(lv:Key->LB):AV->Option lY
 |.c (.d (.ptr cs))=>some (.c (.d (.ptr cs)),[],[],true)
 |.c (.ptr k n)=>match lv k with|.cells ..=>some (.c (.ptr k n),[],[k],true)|_=>none
 |.c (.d (.func (.func f) fs cs))=>some (.c (.d (.func (.func f) fs cs)),[],[],true)
 |.c (.func (.func f) fs cs)=>some (.c (.func (.func f) fs cs),[],[],true)
 |_=>none
def ku(P:Program)(T:TypeId)(f:Nat)(lv:Key->LB):AV->Option lY
 |.c (.d (.ptr cs))=>match jn P T f with|some (off,_)=>some (.c (.d (.ptr (cs.drop off))),[],[],decide (off<=cs.length))|none=>none
 |.c (.ptr k n)=>match lv k,jn P T f with|.cells ..,some (off,_)=>some (.c (.ptr k (n+off)),[],[k],true)|_,_=>none
 |_=>none
def kz(P:Program)(T:TypeId)(lv:Key->LB)(x i:AV):Option lY:=
 match i with
 |.c (.d (.int _ n))=>
  match x with
  |.c (.d (.sl es))=>match eW P T with
   |some (_,sz)=>some (.c (.d (.ptr (es.getD n.toNat []))),[],[],decide (0<=n/\n<es.length/\(es.getD n.toNat []).length=sz))
   |none=>none
  |.c (.aH k off len sz)=>match lv k,eW P T with
   |.cells ..,some (_,sz')=>if sz=sz' then some (.c (.ptr k (off+n.toNat*sz)),[],[k],decide (0<=n/\n<len))else none
   |_,_=>none
  |.c (.d (.ptr cs))=>match Ag P T with
   |some (len,_,sz)=>some (.c (.d (.ptr (cs.drop (n.toNat*sz)))),[],[],decide (0<=n/\n<len/\n.toNat*sz<=cs.length))
   |none=>none
  |.c (.ptr k off)=>match lv k,Ag P T with
   |.cells ..,some (len,_,sz)=>some (.c (.ptr k (off+n.toNat*sz)),[],[k],decide (0<=n/\n<len))
   |_,_=>none
  |_=>none
 |_=>none
def pJ(P:Program)(T:TypeId)(x i:AV):Option lY:=
 match i with
 |.c (.d (.int _ n))=>
  match x with
  |.c (.d (.str l))=>if cP P T then some (.c (.d (.int .u8 (l.getD n.toNat 0).toNat)),[],[],decide (0<=n/\n<l.length))else none
  |.agg cs=>match Ag P T with
   |some (len,e,sz)=>match ou P e cs (n.toNat*sz)with|some y=>some (y,[],[],decide (0<=n/\n<len))|none=>none
   |none=>none
  |_=>none
 |_=>none
def oL(P:Program)(T:TypeId)(lv:Key->LB)(x:AV)(lo hi:Option AV):Option lY:=
 match x with
 |.c (.d (.str bs))=>if cP P T then(match ec lo 0,ec hi bs.length with
  |some l,some h=>some (.c (.d (.str ((bs.take h.toNat).drop l.toNat))),[],[],decide (0<=l/\l<=h/\h<=bs.length))
  |_,_=>none)else none
 |.c (.d (.sl es))=>match eW P T with
  |some (_,sz)=>match ec lo 0,ec hi es.length with
   |some l,some h=>some (.c (.d (.sl ((es.take h.toNat).drop l.toNat))),[],[],decide (0<=l/\l<=h/\h<=es.length/\∀e∈es,e.length=sz))
   |_,_=>none
  |none=>none
 |.c (.d .nilsl)=>match eW P T with
  |some _=>match ec lo 0,ec hi 0 with
   |some l,some h=>some (.c (.d .nilsl),[],[],decide (l=0/\h=0))
   |_,_=>none
  |none=>none
 |.c (.aH k off len sz)=>match lv k,eW P T with
  |.cells ..,some (_,sz')=>if sz=sz' then(match ec lo 0,ec hi len with
   |some l,some h=>some (.c (.aH k (off+l.toNat*sz) (h.toNat-l.toNat) sz),[],[k],decide (0<=l/\l<=h/\h<=len/\(l<h\/l=0)))
   |_,_=>none)else none
  |_,_=>none
 |_=>none
def rY(P:Program)(T:TypeId)(lv:Key->LB)(κ:Key)(x y:AV):Option lY:=
 match x,y with
 |.c (.d (.int _ l)),.c (.d (.int _ m))=>match eW P T,lv κ with
  |some (e,sz),.hole=>match bI P e,bU P e with
   |some zs,some b=>if zs.length=sz/\0<sz then some (.c (.aH κ 0 l.toNat sz),[(κ,.cells true false e (ja l.toNat zs))],[],decide (0<=l/\l<=m/\(b:Int)*m<=281474976710656/\m<=9223372036854775807))else none
   |_,_=>none
  |_,_=>none
 |_,_=>none
def nv(P:Program)(T:TypeId)(lv:Key->LB)(κ:Key)(y x:AV):Option lY:=
 match eW P T,lv κ with
 |some (e,sz),.hole=>match bU P e,fc lv sz x with
  |some b,some (m,xs)=>
   match y with
   |.c (.d .nilsl)=>some (.c (.aH κ 0 m sz),[(κ,if m=0 then .nils else .cells true false e xs)],keyOf x,decide (m<=9223372036854775807/\m*b<=140737488355328))
   |.c (.aH k off n sz')=>match lv k with
    |.nils=>if off=0/\n=0/\sz'=sz then some (.c (.aH κ 0 m sz),[(κ,if m=0 then .nils else .cells true false e xs)],k::keyOf x,decide (m<=9223372036854775807/\m*b<=140737488355328))else none
    |.cells own false e' cs=>if off=0/\sz'=sz/\e'=e then
     some (.c (.aH κ 0 (n+m) sz),[(k,.dead),(κ,.cells own false e (cs++xs))],keyOf x,decide (cs.length=n*sz/\n+m<=9223372036854775807/\(n+m)*b<=140737488355328))else none
    |_=>none
   |_=>none
  |_,_=>none
 |_,_=>none
def jH(P:Program)(T:TypeId)(n:Nat)(ixs:List Nat)(lv:Key->LB)(κ:Key)(vals:List AV):Option lY:=
 match eW P T,lv κ with
 |some (e,sz),.hole=>match bI P e with
  |some zs=>if zs.length=sz/\0<sz/\n*sz<=16777216/\ixs.length=vals.length then(match kE (λi=>some (i*sz,sz)) (ja n zs) (ixs.zip vals)with
   |some cs=>some (.c (.aH κ 0 n sz),[(κ,.cells true false e cs)],[],true)
   |none=>none)else none
  |none=>none
 |_,_=>none
def r5(P:Program)(T:TypeId)(lv:Key->LB)(y x:AV):Option lY:=
 match y,eW P T with
 |.c (.aH k off n sz),some (_,sz')=>if sz=1/\sz'=1 then(match lv k,fc lv 1 x with
  |.cells own false T' cs,some (m,xs)=>some (.c (.d (.int .i64 ((min m n:Nat):Int))),[(k,.cells own false T' (ai cs off (xs.take (min m n))))],keyOf x,decide (0<m/\off+min m n<=cs.length/\n<=9223372036854775807))
  |_,_=>none)else none
 |_,_=>none
def Hz(x:AV)(n:Int):Bool:=
 match x with
 |.c (.aH ..)=>decide (n<=9223372036854775807)
 |_=>true
theorem HF{n:Int}(h:Hz x n=true):oo x n:=by
 cases x with
 |c y=>cases y<;>first|exact trivial|simpa[Hz,oo]using h
 |_=>exact trivial
def CC(P:Program)(cl:Call)(vals:List AV)(lv:Key->LB)(κ:Key):Option lY:=
 match cl.callee with
 |.builtin .len=>match cl.args.toList,cl.argTypes.toList,vals with
  |[_],[T],[x]=>match jA P T lv x with
   |some n=>some (.c (.d (.int .i64 n)),[],keyOf x,Hz x n)
   |none=>none
  |_,_,_=>none
 |.builtin .append=>match cl.args.toList,cl.argTypes.toList,vals with
  |[_,_],[T,T'],[y,x]=>if T=T' then nv P T lv κ y x else none
  |_,_,_=>none
 |.builtin .copy=>match cl.args.toList,cl.argTypes.toList,vals with
  |[_,_],[T,_],[y,x]=>r5 P T lv y x
  |_,_,_=>none
 |.builtin .max=>match dF vals with
  |some (k,n::l)=>some (.c (.d (.int k (l.foldl (λa b=>if b > a then b else a) n))),[],[],true)
  |_=>none
 |.builtin .min=>match dF vals with
  |some (k,n::l)=>some (.c (.d (.int k (l.foldl (λa b=>if b<a then b else a) n))),[],[],true)
  |_=>none
 |_=>none
def uv(P:Program)(op:Op)(vals:List AV)(lv:Key->LB)(κ:Key):Option lY:=
 match op,vals with
 |.move _,[x]|.assign _,[x]=>some (x,[],[],true)
 |.pick _ _ _,[t,x,y]=>match t with|.c (.d (.bool true))=>some (x,[],[],true)|.c (.d (.bool false))=>some (y,[],[],true)|_=>none
 |.alloc T,[]=>match bI P T,lv κ with|some xs,.hole=>some (.c (.ptr κ 0),[(κ,.cells true false T xs)],[],true)|_,_=>none
 |.box T _,[x]=>match x.cells,lv κ with|some xs,.hole=>some (.c (.ptr κ 0),[(κ,.cells true false T xs)],[],true)|_,_=>none
 |.build T parts,vals=>match bI P T,tJ P T with
  |some zs,some place=>if parts.size=vals.length then(match kE place zs ((parts.toList.map (·.1)).zip vals)with|some cs=>some (.agg cs,[],[],true)|none=>none)else none
  |_,_=>none
 |.buildSlice T n parts,vals=>jH P T n (parts.toList.map (·.1)) lv κ vals
 |.load T _,[x]=>sg P T lv x
 |.store T _ _,[x,y]=>oH P T lv x y
 |.nilCheck _,[x]=>vn lv x
 |.binOp op T _ _ _,[x,y]=>vf P op T x y
 |.unOp op _ _,[x]=>match x with|.c (.d d)=>(match unA op d with|some d'=>some (.c (.d d'),[],[],true)|none=>none)|_=>none
 |.convert S T _,[x]=>match x with
  |.c (.d (.int _ n))=>match ru P S,ru P T with|some _,some k'=>some (.c (.d (.int k' (k'.wrap n))),[],[],true)|_,_=>none
  |.c (.d (.str l))=>if cP P S&&cP P T then some (.c (.d (.str l)),[],[],true)else none
  |_=>none
 |.makeInterface T _,[x]=>match oh x with|some d=>if P.concrete T then some (.c (.d (.iface T d)),[],[],true)else none|none=>none
 |.makeFunc fn first caps,vals=>if vals.length=first.size+caps.size then(match uL (vals.take first.size),uL (vals.drop first.size)with
  |some fr,some cr=>some (.c (AF fn fr cr),[],[],true)
  |_,_=>none)else none
 |.makeSlice T _ _,[x,y]=>rY P T lv κ x y
 |.slice T _ lo hi none,x::rest=>match GR lo hi rest with|some (l,h)=>oL P T lv x l h|none=>none
 |.fieldAddr T _ f,[x]=>ku P T f lv x
 |.field T _ f,[x]=>match x with|.agg cs=>(match jn P T f with|some (off,ft)=>(match ou P ft cs off with|some y=>some (y,[],[],true)|none=>none)|none=>none)|_=>none
 |.indexAddr T _ _,[x,i]=>kz P T lv x i
 |.index T _ _,[x,i]=>pJ P T x i
 |.extract _ i,[x]=>match x with|.tup l=>(match l[i]? with|some (.tup _)=>none|some y=>some (y,[],[],true)|none=>none)|_=>none
 |.call cl,vals=>CC P cl vals lv κ
 |_,_=>none
inductive Tb(α:Type) where
 |leaf
 |node (l:Tb α) (v:α) (r:Tb α)
inductive Pa where
 |e
 |l (p:Pa)
 |r (p:Pa)
noncomputable def Tb.get(d:α)(t:Tb α)(p:Pa):α:=
 Pa.rec (motive:=λ_=>Tb α->α) (λt=>Tb.rec (motive:=λ_=>α) d (λ_ v _ _ _=>v) t)
  (λ_ ih t=>Tb.rec (motive:=λ_=>α) d (λl _ _ _ _=>ih l) t)
  (λ_ ih t=>Tb.rec (motive:=λ_=>α) d (λ_ _ r _ _=>ih r) t) p t
noncomputable def Tb.set(d x:α)(p:Pa)(t:Tb α):Tb α:=
 Pa.rec (motive:=λ_=>Tb α->Tb α) (λt=>Tb.rec (motive:=λ_=>Tb α) (.node .leaf x .leaf) (λl _ r _ _=>.node l x r) t)
  (λ_ ih t=>Tb.rec (motive:=λ_=>Tb α) (.node (ih .leaf) d .leaf) (λl v r _ _=>.node (ih l) v r) t)
  (λ_ ih t=>Tb.rec (motive:=λ_=>Tb α) (.node .leaf d (ih .leaf)) (λl v r _ _=>.node l v (ih r)) t) p t
noncomputable def Tb.Ct(d x:α)(p:Pa)(t:Tb α)(k:Tb α->β):β:=
 Pa.rec (motive:=λ_=>Tb α->(Tb α->β)->β) (λt k=>Tb.rec (motive:=λ_=>β) (k (.node .leaf x .leaf)) (λl _ r _ _=>k (.node l x r)) t)
  (λ_ ih t k=>Tb.rec (motive:=λ_=>β) (ih .leaf λs=>k (.node s d .leaf)) (λl v r _ _=>ih l λs=>k (.node s v r)) t)
  (λ_ ih t k=>Tb.rec (motive:=λ_=>β) (ih .leaf λs=>k (.node .leaf d s)) (λl v r _ _=>ih r λs=>k (.node l v s)) t) p t k
theorem Tb.me(d x:α):∀(p:Pa) (t:Tb α) (k:Tb α->β),Tb.Ct d x p t k=k (Tb.set d x p t)
 |.e,.leaf,_=>rfl
 |.e,.node _ _ _,_=>rfl
 |.l p,.leaf,k=>Tb.me d x p .leaf λs=>k (.node s d .leaf)
 |.l p,.node l v r,k=>Tb.me d x p l λs=>k (.node s v r)
 |.r p,.leaf,k=>Tb.me d x p .leaf λs=>k (.node .leaf d s)
 |.r p,.node l v r,k=>Tb.me d x p r λs=>k (.node l v s)
theorem Tb.eI(d:α)(p:Pa):Tb.get d .leaf p=d:=by cases p<;>rfl
theorem Tb.CP(d x:α):∀(p:Pa) (t:Tb α) (q:Pa) [Decidable (q=p)],Tb.get d (Tb.set d x p t) q=if q=p then x else Tb.get d t q:=by
 intro p
 induction p with
 |e=>
  intro t q _
  cases q with
  |e=>cases t<;>simp[Tb.get,Tb.set]
  |l q=>cases t with
   |leaf=>simp only[reduceCtorEq,if_false];rw[Tb.eI];exact Tb.eI d q
   |node l v r=>rw[if_neg (by simp)];rfl
  |r q=>cases t with
   |leaf=>simp only[reduceCtorEq,if_false];rw[Tb.eI];exact Tb.eI d q
   |node l v r=>rw[if_neg (by simp)];rfl
 |l p ih=>
  intro t q _
  cases q with
  |l q=>
   have:Decidable (q=p):=Classical.propDecidable _
   cases t with
   |leaf=>
    have h1:Tb.get d (Tb.set d x (.l p) .leaf) (.l q)=Tb.get d (Tb.set d x p .leaf) q:=rfl;rw[h1,ih .leaf q]
    by_cases h:q=p
    ·grind
    ·have:¬(Pa.l q=Pa.l p):=λe=>h (by injection e)
     rw[if_neg h,if_neg this,Tb.eI,Tb.eI]
   |node l v r=>
    have h1:Tb.get d (Tb.set d x (.l p) (.node l v r)) (.l q)=Tb.get d (Tb.set d x p l) q:=rfl;rw[h1,ih l q]
    by_cases h:q=p
    ·grind
    ·have:¬(Pa.l q=Pa.l p):=λe=>h (by injection e)
     rw[if_neg h,if_neg this];rfl
  |e=>cases t<;>simp[Tb.get,Tb.set]
  |r q=>cases t<;>simp[Tb.get,Tb.set];cases q<;>rfl
 |r p ih=>
  intro t q _
  cases q with
  |r q=>
   have:Decidable (q=p):=Classical.propDecidable _
   cases t with
   |leaf=>
    have h1:Tb.get d (Tb.set d x (.r p) .leaf) (.r q)=Tb.get d (Tb.set d x p .leaf) q:=rfl;rw[h1,ih .leaf q]
    by_cases h:q=p
    ·grind
    ·have:¬(Pa.r q=Pa.r p):=λe=>h (by injection e)
     rw[if_neg h,if_neg this,Tb.eI,Tb.eI]
   |node l v r=>
    have h1:Tb.get d (Tb.set d x (.r p) (.node l v r)) (.r q)=Tb.get d (Tb.set d x p r) q:=rfl;rw[h1,ih r q]
    by_cases h:q=p
    ·grind
    ·have:¬(Pa.r q=Pa.r p):=λe=>h (by injection e)
     rw[if_neg h,if_neg this];rfl
  |e=>cases t<;>simp[Tb.get,Tb.set]
  |l q=>cases t<;>simp[Tb.get,Tb.set];cases q<;>rfl
noncomputable def Bi(f:Nat):Nat->Pa:=
 Nat.rec (motive:=λ_=>Nat->Pa) (λ_=>.e) (λ_ ih n=>Nat.rec (motive:=λ_=>Pa) .e
  (λm _=>Bool.rec (motive:=λ_=>Pa) (.r (ih (Nat.div m 2))) (.l (ih (Nat.div m 2))) (Nat.beq (Nat.mod m 2) 0)) n) f
noncomputable def pathOf(n:Nat):Pa:=Bi n n
def Pa.num:Pa->Nat
 |.e=>0
 |.l p=>2*p.num+1
 |.r p=>2*p.num+2
theorem vw:∀(f n:Nat),n<=f->(Bi f n).num=n
 | 0,n,h=>by have:n=0:=by omega
             subst this;rfl
 |f+1,0,_=>rfl
 |f+1,m+1,h=>by
  have ih:=vw f (m/2) (by omega);show(Bool.rec (motive:=λ_=>Pa) (.r (Bi f (Nat.div m 2))) (.l (Bi f (Nat.div m 2))) (Nat.beq (Nat.mod m 2) 0)).num=m+1;have e:Nat.div m 2=m/2:=rfl;have e2:Nat.mod m 2=m%2:=rfl;rw[e,e2]
  cases hb:Nat.beq (m%2) 0 with
  |true=>
   have:=ae8 hb;show 2*(Bi f (m/2)).num+1=m+1;omega
  |false=>
   have:=Nat.ne_of_beq_eq_false hb;show 2*(Bi f (m/2)).num+2=m+1;omega
theorem sR{n m:Nat}(h:pathOf n=pathOf m):n=m:=by
 have h1:=vw n n (bh _);have h2:=vw m m (bh _);unfold pathOf at h
 grind
noncomputable def kF(t:Tb AV):Nat->AV:=λi=>t.get .undef (pathOf i)
noncomputable def bf(t:Tb LB):Key->LB:=λi=>t.get .hole (pathOf i)
theorem DQ(t:Tb AV)(k:Nat)(x:AV):kF (t.set .undef x (pathOf k))=az (kF t) k x:=by
 funext i;have:Decidable (pathOf i=pathOf k):=Classical.propDecidable _;simp only[kF,az,Tb.CP]
 by_cases e:i=k
 ·grind
 ·rw[if_neg e,if_neg (λh=>e (sR h))]
theorem Et(t:Tb LB)(k:Nat)(x:LB):bf (t.set .hole x (pathOf k))=az (bf t) k x:=by
 funext i;have:Decidable (pathOf i=pathOf k):=Classical.propDecidable _;simp only[bf,az,Tb.CP]
 by_cases e:i=k
 ·grind
 ·rw[if_neg e,if_neg (λh=>e (sR h))]
noncomputable def cO(n:Nat)(k:Nat->β):β:=Nat.rec (motive:=λ_=>β) (k 0) (λm _=>k (Nat.succ m)) n
noncomputable def yt(n:Int)(k:Int->β):β:=Int.rec (motive:=λ_=>β) (λm=>cO m λm=>k (.ofNat m)) (λm=>cO m λm=>k (.negSucc m)) n
theorem iU(n:Nat)(k:Nat->β):cO n k=k n:=by cases n<;>rfl
theorem vR(n:Int)(k:Int->β):yt n k=k n:=by cases n with
 |ofNat m=>exact iU m λm=>k (.ofNat m)
 |negSucc m=>exact iU m λm=>k (.negSucc m)
noncomputable def vp(b:Bool)(k:Bool->β):β:=Bool.rec (motive:=λ_=>β) (k false) (k true) b
theorem tj(b:Bool)(k:Bool->β):vp b k=k b:=by cases b<;>rfl
noncomputable def jP(f:α->(α->β)->β)(l:List α)(k:List α->β):β:=
 List.rec (motive:=λ_=>(List α->β)->β) (λk=>k []) (λx _ ih k=>f x λx=>ih λl=>k (x::l)) l k
theorem eH{α β:Type}(f:α->(α->β)->β)(hf:∀x k,f x k=k x):∀(l:List α) (k:List α->β),jP f l k=k l
 |[],_=>rfl
 |x::l,k=>by
  show f x (λx=>jP f l λl=>k (x::l))=_;rw[hf,eH f hf l]
noncomputable def qx(b:UInt8)(k:UInt8->β):β:=cO b.toNat λn=>k (UInt8.ofNat n)
theorem uf(b:UInt8)(k:UInt8->β):qx b k=k b:=by unfold qx;rw[iU];simp
noncomputable def CM(d:DV)(k:DV->β):β:=
 DV.casesOn (motive_1:=λ_=>β) d (λb=>vp b λb=>k (.bool b)) (λq n=>yt n λn=>k (.int q n)) (λs=>jP qx s λs=>k (.str s)) (k .nilp) (λcs=>k (.ptr cs)) (k .nilsl)
  (λes=>k (.sl es)) (λcs=>k (.agg cs)) (k .nilIface) (λt v=>k (.iface t v)) (k .nilFunc) (λf a b=>k (.func f a b)) (k .nilmap)
theorem BD(d:DV)(k:DV->β):CM d k=k d:=by
 cases d<;>simp only[CM]<;>first|exact tj _ _|exact vR _ _|exact eH _ uf _ _|rfl
noncomputable def sG(x:CV)(k:CV->β):β:=
 CV.casesOn (motive:=λ_=>β) x (λd=>CM d λd=>k (.d d)) (λa b=>cO a λa=>cO b λb=>k (.ptr a b))
  (λa b c d=>cO a λa=>cO b λb=>cO c λc=>cO d λd=>k (.aH a b c d)) (λa=>cO a λa=>k (.mapr a)) (λf a b=>k (.func f a b)) (λt r=>k (.ifc t r)) (k .junk) (λa b c d=>cO a λa=>cO b λb=>cO c λc=>cO d λd=>k (.lsf a b c d))
theorem nj(x:CV)(k:CV->β):sG x k=k x:=by
 cases x<;>simp only[sG,BD,iU]
noncomputable def CB(x:AV)(k:AV->β):β:=
 AV.casesOn (motive_1:=λ_=>β) x (λc=>sG c λc=>k (.c c)) (λl=>jP sG l λl=>k (.agg l)) (λl=>k (.tup l)) (k .undef) (k .junk)
theorem Ii(x:AV)(k:AV->β):CB x k=k x:=by
 cases x<;>simp only[CB,nj,eH _ nj]
noncomputable def dS(x:AV)(k:AV->β):β:=
 AV.casesOn (motive_1:=λ_=>β) x (λc=>sG c λc=>k (.c c)) (λl=>jP sG l λl=>k (.agg l)) (λl=>jP CB l λl=>k (.tup l)) (k .undef) (k .junk)
theorem iR(x:AV)(k:AV->β):dS x k=k x:=by
 cases x<;>simp only[dS,nj,eH _ nj,eH _ Ii]
noncomputable def vO(b:LB)(k:LB->β):β:=
 LB.casesOn (motive:=λ_=>β) b (k .hole) (k .dead) (k .nils) (λ_ fz T cs=>jP sG cs λcs=>k (.cells false fz T cs)) (λ_ es=>k (.map false es))
def LB.un:LB->LB
 |.cells _ fz T cs=>.cells false fz T cs
 |.map _ es=>.map false es
 |x=>x
def uQ(us:List (Key×LB)):List (Key×LB):=us.map λp=>(p.1,p.2.un)
theorem A4(b:LB)(k:LB->β):vO b k=k b.un:=by
 cases b<;>simp only[vO,LB.un,eH _ nj]
structure ES where
 fr:Tr AV
 lv:Tr LB
 nx:Nat
def frT(t:Tr AV):Nat->AV:=λi=>match t.get i with|some x=>x|none=>.undef
def lvT(t:Tr LB):Key->LB:=λk=>match t.get k with|some b=>b|none=>.hole
def ES.st(s:ES):aB:=⟨frT s.fr,lvT s.lv⟩
def ES.put(s:ES)(dst:Option Nat)(x:AV):Option ES:=
 match dst with
 |none=>some s
 |some d=>match s.fr.set 16 d x with|some fr=>some ⟨fr,s.lv,s.nx⟩|none=>none
def jd.uq(p:Key->Bool):jd->Bool
 |.d _=>true
 |.ptr k _=>p k
 |.aH k _ _ _=>p k
def Ref.uq(p:Key->Bool):Ref->Bool
 |.d _=>true
 |.ptr k _=>p k
 |.aH k _ _ _=>p k
 |.agg cs=>cs.all (jd.uq p)
 |.ifc _ x=>x.uq p
def CV.uq(p:Key->Bool):CV->Bool
 |.d _=>true
 |.ptr k _=>p k
 |.aH k _ _ _=>p k
 |.mapr k=>p k
 |.lsf k _ _ _=>p k
 |.func _ f c=>f.all (Ref.uq p)&&c.all (Ref.uq p)
 |.ifc _ x=>x.uq p
 |.junk=>true
def AV.QC(p:Key->Bool):AV->Bool
 |.c x=>x.uq p
 |.agg cs=>cs.all (CV.uq p)
 |_=>true
def AV.uq(p:Key->Bool):AV->Bool
 |.tup l=>l.all (AV.QC p)
 |x=>x.QC p
def LB.uq(p:Key->Bool):LB->Bool
 |.cells _ _ _ cs=>cs.all (CV.uq p)
 |.map _ es=>es.all λq=>q.2.QC p&&q.2.bZ
 |_=>true
section
variable {p:Key->Bool}{i g:Key->Key}(hp:∀k,p k=true->g (i k)=k)
include hp
theorem o8{f:(Key->Key)->α->α}{c:α->Bool}(hf:∀x,c x=true->f g (f i x)=x){l:List α}(h:l.all c=true):(l.map (f i)).map (f g)=l:=by
 rw[adV]at h;rw[aed]
 conv=>rhs;rw[<-List.map_id l]
 exact aes λx hx=>hf x (h x hx)
theorem jd.wF{x:jd}(h:x.uq p=true):(x.bY i).bY g=x:=by
 cases x with
 |d x=>rfl
 |ptr k o=>simp only[jd.bY,hp k h]
 |aH k o l z=>simp only[jd.bY,hp k h]
theorem Ref.wF:∀{x:Ref},x.uq p=true->(x.bY i).bY g=x
 |.d _,_=>rfl
 |.ptr k _,h=>by simp only[Ref.bY,hp k h]
 |.aH k _ _ _,h=>by simp only[Ref.bY,hp k h]
 |.agg cs,h=>by simp only[Ref.bY];rw[o8 hp (λx hx=>jd.wF hp hx) h]
 |.ifc t x,h=>by simp only[Ref.bY,Ref.wF (x:=x) h]
theorem CV.wF{x:CV}(h:x.uq p=true):(x.bY i).bY g=x:=by
 cases x with
 |d x=>rfl
 |ptr k o=>simp only[CV.bY,hp k h]
 |aH k o l z=>simp only[CV.bY,hp k h]
 |mapr k=>simp only[CV.bY,hp k h]
 |lsf k o l z=>simp only[CV.bY,hp k h]
 |func fn f c=>
  simp only[CV.uq,rP]at h;simp only[CV.bY];rw[o8 hp (λx hx=>Ref.wF hp hx) h.1,o8 hp (λx hx=>Ref.wF hp hx) h.2]
 |ifc t x=>simp only[CV.bY,Ref.wF hp (x:=x) h]
 |junk=>rfl
theorem AV.Jf(h:x.QC p=true)(ht:x.bZ=true):(x.mD i).mD g=x:=by
 cases x with
 |c x=>simp only[AV.mD,CV.wF hp (x:=x) h]
 |agg cs=>simp only[AV.mD];rw[o8 hp (λx hx=>CV.wF hp hx) h]
 |tup l=>cases ht
 |undef=>rfl
 |junk=>rfl
theorem AV.wF(h:x.uq p=true)(hf:x.bX=true):(x.bY i).bY g=x:=by
 cases x with
 |c x=>exact AV.Jf hp (x:=.c x) h rfl
 |agg cs=>exact AV.Jf hp (x:=.agg cs) h rfl
 |tup l=>
  simp only[AV.bX,adV]at hf;simp only[AV.uq,adV]at h;simp only[AV.bY,aed];congr 1
  conv=>rhs;rw[<-List.map_id l]
  refine aes λx hx=>AV.Jf hp (h x hx) ?_;have:=hf x hx
  cases x<;>first|rfl|cases this
 |undef=>rfl
 |junk=>rfl
end
def LB.om:LB->LB
 |.cells _ fz T cs=>.cells false fz T cs
 |.map _ es=>.map false es
 |x=>x
theorem LB.WR{i:Key->Key}(hp:∀k,p k=true->g (i k)=k)(hc:b.uq p=true):b.as (b.bY i) g:=by
 cases b with
 |hole=>rfl
 |dead=>intro h;cases h
 |nils=>rfl
 |cells own fz T cs=>exact⟨own,cs,rfl,(o8 hp (λx hx=>CV.wF hp hx) hc).symm,λh=>h⟩
 |map own es=>
  have h2:=hc;simp only[LB.uq,adV,rP]at h2;refine⟨own,es,rfl,?_,λh=>h,λq hq l=>?_⟩
  ·simp only[aed]
   conv=>lhs;rw[<-List.map_id es]
   refine(aes λq hq=>?_);obtain⟨h3,h4⟩:=h2 q hq;simp only[Function.comp,id,AV.Jf hp h3 h4]
  ·simp only[ae7]at hq;obtain⟨q0,hq0,rfl⟩:=hq;obtain⟨_,h4⟩:=h2 q0 hq0;intro e
   cases e2:q0.2<;>rw[e2]at h4 e<;>first|(cases h4;done)|(simp only[AV.mD]at e;grind)
theorem LB.O2{b':LB}(h:b.as b' g):b.as b'.om g:=by
 cases b' with
 |cells own fz T cs=>obtain⟨o,c,h1,h2,h3⟩:=h;exact⟨o,c,h1,h2,λe=>by cases e⟩
 |map own es=>obtain⟨o,c,h1,h2,h3,h4⟩:=h;exact⟨o,c,h1,h2,(λe=>by cases e),h4⟩
 |hole=>exact h
 |dead=>exact h
 |nils=>exact h
def jd.ks:jd->List Key
 |.d _=>[]
 |.ptr k _=>[k]
 |.aH k _ _ _=>[k]
def Ref.ks:Ref->List Key
 |.d _=>[]
 |.ptr k _=>[k]
 |.aH k _ _ _=>[k]
 |.agg cs=>cs.flatMap jd.ks
 |.ifc _ x=>x.ks
def CV.ks:CV->List Key
 |.d _=>[]
 |.ptr k _=>[k]
 |.aH k _ _ _=>[k]
 |.mapr k=>[k]
 |.lsf k _ _ _=>[k]
 |.func _ f c=>f.flatMap Ref.ks++c.flatMap Ref.ks
 |.ifc _ x=>x.ks
 |.junk=>[]
def AV.ks0:AV->List Key
 |.c x=>x.ks
 |.agg cs=>cs.flatMap CV.ks
 |_=>[]
def AV.ks:AV->List Key
 |.tup l=>l.flatMap AV.ks0
 |x=>x.ks0
def LB.ks:LB->List Key
 |.cells _ _ _ cs=>cs.flatMap CV.ks
 |.map _ es=>es.flatMap λq=>q.2.ks0
 |_=>[]
def reach(lv:Key->LB):Nat->List Key->Tr Nat->List Key->Nat->Option (Tr Nat×List Key)
 |0,_,_,_,_=>none
 |_+1,[],t,l,_=>some (t,l.reverse)
 |f+1,k::r,t,l,n=>match t.get k with
  |some _=>reach lv f r t l n
  |none=>match t.set 30 k n with
   |some t'=>reach lv f ((lv k).ks++r) t' (k::l) (n+1)
   |none=>none
def si(t:Tr Nat):Key->Key:=λk=>match t.get k with|some j=>j|none=>0
def pT(t:Tr Nat)(g:Key->Key):Key->Bool:=λk=>match t.get k with|some j=>Nat.beq (g j) k|none=>false
theorem ZR{t:Tr Nat}{k:Key}(h:pT t g k=true):g (si t k)=k:=by
 unfold pT at h;unfold si;split at h
 ·simp_all
 grind
def Fi(k:Nat):List Nat->Bool
 |[]=>false
 |a::r=>Nat.beq a k ||Fi k r
theorem pz{k:Nat}:∀{l:List Nat},Fi k l=true↔k∈l
 |[]=>by simp[Fi]
 |a::r=>by
  simp only[Fi,aeV,pz (l:=r),aY];constructor
  ·rintro(h|h)
   ·simp_all
   grind
  ·rintro(h|h)
   ·simp_all
   grind
def nodupB:List Nat->Bool
 |[]=>true
 |a::r=>!Fi a r&&nodupB r
theorem A6:∀{l:List Nat},nodupB l=true->l.Nodup
 |[],_=>List.nodup_nil
 |a::r,h=>by
  simp only[nodupB,rP,aee]at h;refine List.nodup_cons.2 ⟨λhm=>?_,A6 h.2⟩;rw[pz.2 hm]at h;cases h.1
def LB.isHole:LB->Bool
 |.hole=>true
 |_=>false
theorem LB.nG:b.isHole=true↔b=.hole:=by cases b<;>simp[LB.isHole]
def jU:Nat->Nat->List Nat
 |_,0=>[]
 |a,n+1=>a::jU (a+1) n
theorem lK:∀(n a:Nat),(jU a n).length=n
 |0,_=>rfl
 |n+1,a=>by simp[jU,lK n]
theorem rT:∀(n a i:Nat) (h:i<(jU a n).length),(jU a n)[i]=a+i
 |0,_,i,h=>absurd h (aft i)
 |n+1,a,0,h=>rfl
 |n+1,a,i+1,h=>by
  simp only[jU,List.getElem_cons_succ];rw[rT n];omega
structure Pass where
 us:List AV
 σ:List LB
 sel:List Key
 t:Tr Nat
def GO(lv:Key->LB)(as:List AV):Option Pass:=
 match reach lv 1000000 (as.flatMap AV.ks) .nil [] 0 with
 |some (t,sel)=>some ⟨as.map (AV.bY (si t)),sel.map λk=>((lv k).bY (si t)).om,sel,t⟩
 |none=>none
def zB(lv:Key->LB)(as:List AV)(q:Pass)(nk:List Key)(kh:Key):Bool:=
 let p:=pT q.t (aQ q.sel nk kh)
 as.all (λa=>a.uq p&&a.bX)&&q.us.all AV.bX&&q.sel.all (λk=>(lv k).uq p&&!(lv k).isHole)&&q.σ.all LB.pass &&
  nodupB (q.sel++nk)&&!Fi kh (q.sel++nk)&&nk.all (λk=>(lv k).isHole)&&(lv kh).isHole&&Nat.ble q.σ.length 1000
def IC(q:Pass)(nk:List Key)(σ' ν:List LB):Bool:=
 Nat.beq σ'.length q.σ.length&&Nat.beq nk.length ν.length&&(σ'++ν).all (λb=>!b.isHole)
theorem Cl{lv:Key->LB}{p:Key->Bool}{R:List Key}(h1:∀k,p k=true->k∈R)(h2:∀k∈R,(lv k).uq p=true):∀(n:Nat) (x:CV),x.uq p=true->∀k∈jb lv n x,k∈R
 |n+1,.ptr k _,hx,j,hj=>by
  simp only[jb,aY]at hj;rcases hj with rfl|hj
  ·exact h1 _ hx
  ·have h3:=h2 k (h1 _ hx)
   cases e:lv k with
   |cells own fz T cs=>
    rw[e]at hj h3;simp only[afn]at hj;obtain⟨y,hy,hj⟩:=hj;simp only[LB.uq,adV]at h3;exact Cl h1 h2 n y (h3 y hy) j hj
   |_=>grind
 |n+1,.aH k _ _ _,hx,j,hj=>by
  simp only[jb,aY]at hj;rcases hj with rfl|hj
  ·exact h1 _ hx
  ·have h3:=h2 k (h1 _ hx)
   cases e:lv k with
   |cells own fz T cs=>
    rw[e]at hj h3;simp only[afn]at hj;obtain⟨y,hy,hj⟩:=hj;simp only[LB.uq,adV]at h3;exact Cl h1 h2 n y (h3 y hy) j hj
   |_=>grind
 |0,.ptr ..,_,_,hj=>by cases hj
 |0,.aH ..,_,_,hj=>by cases hj
 |n,.d _,_,_,hj=>by cases n<;>cases hj
 |n,.mapr _,_,_,hj=>by cases n<;>cases hj
 |n,.lsf ..,_,_,hj=>by cases n<;>cases hj
 |n,.func ..,_,_,hj=>by cases n<;>cases hj
 |n,.ifc ..,_,_,hj=>by cases n<;>cases hj
 |n,.junk,_,_,hj=>by cases n<;>cases hj
theorem W9{R:List Key}(h1:∀k,p k=true->k∈R)(h2:∀k∈R,(lv k).uq p=true)(hx:x.uq p=true):∀k∈wm lv x,k∈R:=by
 cases x with
 |c x=>exact Cl h1 h2 8 x hx
 |agg cs=>
  intro k hk;simp only[wm,afn]at hk;obtain⟨y,hy,hk⟩:=hk;simp only[AV.uq,AV.QC,adV]at hx;exact Cl h1 h2 8 y (hx y hy) k hk
 |_=>intro k hk;cases hk
theorem IG{sel:List Key}{j:Key}:aQ sel nk kh j∈sel\/aQ sel nk kh j∈nk\/aQ sel nk kh j=kh:=by
 unfold aQ
 grind
theorem b7.pass{as:List AV}{q:Pass}{σ' ν:List LB}(hq:GO lv as=some q)(h1:zB lv as q nk kh=true)(h2:IC q nk σ' ν=true)
 (hc:aI c.P c.G f q.us q.σ (.ret x σ' ν)):b7 c f as lv (x.bY (aQ q.sel nk kh)) (cF (aQ q.sel nk kh) false q.sel σ'++cF (aQ q.sel nk kh) false nk ν) (kh::q.sel++nk):=by
 unfold GO at hq;split at hq
 ·rename_i t sel hr
  simp only[ah]at hq;subst hq;simp only[zB,rP,adV,aee]at h1;obtain⟨⟨⟨⟨⟨⟨⟨⟨a1,a2⟩,a3⟩,a4⟩,a5⟩,a6⟩,a7⟩,a8⟩,a9⟩:=h1;simp only[IC,rP,adV,aee]at h2;obtain⟨⟨b1,b2⟩,b3⟩:=h2;have hp:∀k,pT t (aQ sel nk kh) k=true->aQ sel nk kh (si t k)=k:=λk h=>ZR h
  have e1:=ae8 b1;have e2:=ae8 b2;have hnh:∀b:LB,b.isHole=false->b≠.hole:=λb h e=>by rw[e]at h;cases h
  refine b7.gen (as.map (AV.bY (si t))) [] sel nk kh (sel.map λk=>((lv k).bY (si t)).om) σ' ν x false (kh::sel++nk) (λz hz=>by cases hz) (by simp) (A6 a5) (λz hz=>by cases hz)
   (λhm=>by rw[pz.2 hm]at a6;cases a6) (λz hz=>by cases hz) (by simp) e1 e2 (ad1 a9)
   (λi p q=>?_) (λk hk=>LB.nG.1 (a7 k hk)) (LB.nG.1 a8) a4 (λb hb=>?_) (λh=>by cases h) (by simp) (λi p q=>?_) (λa ha k hk=>.inl ?_) (by simp) hc
  ·have e:(sel.map λk=>((lv k).bY (si t)).om)[i]=((lv sel[i]).bY (si t)).om:=ab5 _;show LB.as _ ((sel.map λk=>((lv k).bY (si t)).om)[i]) _;rw[e];exact LB.O2 (LB.WR hp (a3 _ (aT p)).1)
  ·rw[adX,afo]at hb;rcases hb with hb|hb
   ·obtain⟨k,hk,rfl⟩:=List.mem_map.1 hb;have h3:=hnh _ (a3 k hk).2;intro e
    cases e2:lv k<;>rw[e2]at e h3<;>simp[LB.bY,LB.om]at e h3
   grind
  ·left;have e:(as.map (AV.bY (si t)))[i]=(as[i]).bY (si t):=ab5 _;show AV.bX ((as.map (AV.bY (si t)))[i])=true/\_=AV.bY _ ((as.map (AV.bY (si t)))[i]);rw[e];have ha:=a1 _ (aT p);refine⟨a2 _ ?_,(AV.wF hp ha.1 ha.2).symm⟩
   grind
  ·have ha:=a1 a ha;refine W9 (p:=pT t (aQ sel nk kh)) (lv:=lv) (λk h=>?_) (λk hk'=>?_) ha.1 k (by simpa[fM,bg]using hk)
   ·have h4:=hp k h;rw[<-h4];rcases IG (sel:=sel) (nk:=nk) (kh:=kh) (j:=si t k)with h5|h5|h5
    ·simp[h5]
    ·simp[h5]
    grind
   ·simp only[aeX,aY,afo]at hk';rcases hk' with rfl|hk'|hk'
    ·rw[LB.nG.1 a8];rfl
    ·grind
    ·rw[LB.nG.1 (a7 k hk')];rfl
 grind
end Go.Am
namespace Go.Am
inductive dm where
 |bad (n:Nat) (o:List Op)
 |done (x:AV) (lv:Tb LB) (nx:Nat) (lg:List Key)
 |uR (d:DV) (lv:Tb LB) (nx:Nat) (lg:List Key)
abbrev IB:=AV->Tb LB->Nat->List Key->dm
abbrev TA:=DV->Tb LB->Nat->List Key->dm
abbrev eJ:=FuncId->List AV->Tb LB->Nat->List Key->IB->TA->dm
abbrev Xx:=Ex->Tb AV->Tb LB->Nat->List Key->dm
noncomputable def lR{α:Type}(x:Option α)(b:dm)(k:α->dm):dm:=Option.rec (motive:=λ_=>dm) b (λa=>k a) x
noncomputable def fu(x:Bool)(f t:dm):dm:=Bool.rec (motive:=λ_=>dm) f t x
theorem dw{α:Type}{x:Option α}{b r:dm}{k:α->dm}(h:lR x b k=r)(hb:b≠r):∃a,x=some a/\k a=r:=by
 cases x with
 |none=>exact absurd h hb
 |some a=>exact⟨a,rfl,h⟩
theorem dH{x:Bool}{f t r:dm}(h:fu x f t=r)(hf:f≠r):x=true/\t=r:=by
 cases x with
 |false=>exact absurd h hf
 |true=>exact⟨rfl,h⟩
section
variable (P:Program) (G:List (List DV))
noncomputable def vm(fr:Tb AV)(x:Operand):AV:=
 Operand.rec (motive:=λ_=>AV) (λt=>fr.get .undef (pathOf t)) (λv=>uu v) (λg=>match G[g]? with|some cs=>.c (.d (.ptr cs))|none=>.junk) (λf=>.c (.d (.func (.func f) [] []))) x
noncomputable def gZ(fr:Tb AV)(l:List Operand):List AV:=
 List.rec (motive:=λ_=>List AV) [] (λx _ ih=>vm G fr x::ih) l
noncomputable def AY(us:List (Key×LB))(lv:Tb LB)(lg:List Key)(k:Tb LB->List Key->dm):dm:=
 List.rec (motive:=λ_=>Tb LB->List Key->(Tb LB->List Key->dm)->dm) (λlv lg k=>k lv lg)
  (λp _ ih lv lg k=>cO p.1 λq=>vO p.2 λb=>fu b.okB (.bad 3 []) (Tb.Ct .hole b (pathOf q) lv λlv=>ih lv (q::lg) k)) us lv lg k
noncomputable def eX(d:Option Nat)(x:AV)(fr:Tb AV)(k:Tb AV->dm):dm:=
 Option.rec (motive:=λ_=>dm) (k fr) (λd=>dS x λx=>Tb.Ct .undef x (pathOf d) fr k) d
noncomputable def UX(op:Op)(vals:List AV)(lv:Tb LB)(nx:Nat)(k:AV->List (Key×LB)->List Key->dm):dm:=
 Option.rec (motive:=λ_=>dm) (lR (fj P op vals (bf lv) nx) (.bad 2 [op]) λr=>k r.1 r.2.1 r.2.2)
  (λr=>fu r.2.2.2 (lR (fj P op vals (bf lv) nx) (.bad 1 [op]) λr=>k r.1 r.2.1 r.2.2) (k r.1 r.2.1 r.2.2.1)) (uv P op vals (bf lv) nx)
noncomputable def QY(nx:Nat)(us:List (Key×LB))(k:Nat->dm):dm:=
 List.rec (motive:=λ_=>dm) (k nx) (λp _ ih=>fu (Nat.beq p.1 nx) ih (cO nx λn=>k (Nat.succ n))) us
structure Rec where
 x:AV
 us:List (Key×LB)
 rds:List Key
 all:Bool
 lv:Tb LB
 op:Op
 vals:List AV
 nx:Nat
inductive Xu where
 |uR (x:Operand)
 |call (cl:Call) (fo:Operand)
 |plain
def vo(op:Op):Xu:=
 match op with
 |.panic x=>.uR x
 |.call cl=>match cl.callee with|.value fo=>.call cl fo|.invoke x _=>.call cl x|_=>.plain
 |_=>.plain
noncomputable def Qo(x:AV)(k:DV->dm)(b:dm):dm:=
 match x with
 |.c (.d (.iface t d))=>k (.iface t d)
 |_=>b
noncomputable def Nl(f:FuncId)(t:dm):dm:=fu (aJ P f) (.bad 4 []) t
noncomputable def wC(call:eJ)(op:Op)(cl:Call)(fo:Operand)(fr:Tb AV)(lv:Tb LB)(nx:Nat)(lg:List Key)(kr:IB)(kp:TA):dm:=
 lR (nR P (vm G fr) cl.callee) (.bad 5 [op]) λt=>Nl P t.1 (call t.1 (t.2.1++gZ G fr cl.args.toList++t.2.2) lv nx lg kr kp)
noncomputable def zf(call:eJ)(ops:Array Oper)(os:List Oper)(fr:Tb AV)(lv:Tb LB)(nx:Nat)(lg:List Key)(k:Xx):dm:=
 List.rec (motive:=λ_=>Tb AV->Tb LB->Nat->List Key->Xx->dm) (λfr lv nx lg k=>k .normal fr lv nx lg)
  (λo _ ih fr lv nx lg k=>lR (dN ops o.guard (kF fr)) (.bad 6 [o.op]) λb=>
   fu b (eX o.dst .undef fr λfr=>ih fr lv nx lg k)
    (Xu.rec (motive:=λ_=>dm)
     (λx=>Qo (vm G fr x) (λd=>k (.panic d) fr lv nx lg) (.bad 7 [o.op]))
     (λcl fo=>wC P G call o.op cl fo fr lv nx lg (λx lv nx lg=>eX o.dst x fr λfr=>ih fr lv nx lg k) (λd lv nx lg=>k (.panic d) fr lv nx lg))
     (UX P o.op (gZ G fr o.op.operands.toList) lv nx λx us _=>QY nx us λnx'=>eX o.dst x fr λfr=>AY us lv lg λlv lg=>ih fr lv nx' lg k)
     (vo o.op))) os fr lv nx lg k
noncomputable def Qd(σ:List LB)(i:Nat)(lv:Tb LB)(k:Tb LB->dm):dm:=
 List.rec (motive:=λ_=>Nat->Tb LB->(Tb LB->dm)->dm) (λ_ lv k=>k lv) (λx _ ih i lv k=>vO x λx=>Tb.Ct .hole x (pathOf i) lv λlv=>ih (Nat.succ i) lv k) σ i lv k
noncomputable def Mt(lv:Tb LB)(nx:Nat)(as:List AV)(q:Pass)(x:AV)(lv':Tb LB)(n':Nat)(lg:List Key)(k:AV->List (Key×LB)->List Key->Nat->dm):dm:=
 let σ':=(jU 0 q.σ.length).map (bf lv')
 let ν:=(jU 1000 (n' - 1000)).map (bf lv')
 let nk:=jU nx ν.length
 let kh:=nx+ν.length
 let g:=aQ q.sel nk kh
 fu (lg.all (λa=>Nat.blt a q.σ.length ||(Nat.ble 1000 a&&Nat.blt a n'))&&zB (bf lv) as q nk kh&&IC q nk σ' ν) (.bad 40 [])
  (k (x.bY g) (cF g false q.sel σ'++cF g false nk ν) (kh::q.sel++nk) (kh+1))
noncomputable def abW(r:dm)(k:AV->Tb LB->Nat->List Key->dm):dm:=
 dm.rec (motive:=λ_=>dm) (λn o=>.bad n o) (λx lv nx lg=>k x lv nx lg) (λ_ _ _ _=>.bad 41 []) r
noncomputable def vN(call:eJ)(op:Op)(cl:Call)(fo:Operand)(fr:Tb AV)(lv:Tb LB)(nx:Nat)(k:AV->List (Key×LB)->List Key->Nat->dm):dm:=
 lR (nR P (vm G fr) cl.callee) (.bad 42 [op]) λt=>Nl P t.1 (
  lR (GO (bf lv) (t.2.1++gZ G fr cl.args.toList++t.2.2)) (.bad 43 [op]) λq=>Qd q.σ 0 .leaf λl0=>
   abW (call t.1 q.us l0 1000 [] .done .uR) λx lv' n' lg=>Mt lv nx (t.2.1++gZ G fr cl.args.toList++t.2.2) q x lv' n' lg k)
def Yu(op:Op):Bool:=
 match op with
 |.alloc _|.box _ _|.buildSlice _ _ _|.insert _ _ _ _|.store _ _ _|.makeMap _ _|.makeSlice _ _ _|.mapUpdate _ _ _ _|.mapEntry _ _ _|.entryStore _ _ _ _=>true
 |.call cl=>match cl.callee with|.builtin .append|.builtin .copy|.builtin .unsafeString|.builtin .clear|.builtin .delete=>true|_=>false
 |_=>false
def B8:Xu->Bool
 |.call _ _=>true
 |_=>false
def TB(ops:Array Oper):Bool:=
 let ms:=iy ops.toList []
 (List.range ops.size).any λj=>(List.range j).any λi=>!(ms.getD j 0).testBit i&&(match ops[i]?,ops[j]? with
  |some o,some o'=>(B8 (vo o.op)&&(Yu o'.op ||B8 (vo o'.op))) ||(B8 (vo o'.op)&&Yu o.op)
  |_,_=>false)
noncomputable def jE(call:eJ)(ops:Array Oper)(os:List Oper)(fr:Tb AV)(lv:Tb LB)(nx:Nat)(lg:List Key)(acc:List Rec)(k:List Rec->Tb AV->Tb LB->Nat->List Key->dm):dm:=
 List.rec (motive:=λ_=>Tb AV->Tb LB->Nat->List Key->List Rec->(List Rec->Tb AV->Tb LB->Nat->List Key->dm)->dm) (λfr lv nx lg acc k=>k acc fr lv nx lg)
  (λo _ ih fr lv nx lg acc k=>lR (dN ops o.guard (kF fr)) (.bad 8 [o.op]) λb=>
   fu b (eX o.dst .undef fr λfr=>ih fr lv nx lg (⟨.undef,[],[],false,lv,o.op,[],nx⟩::acc) k)
    (Xu.rec (motive:=λ_=>dm)
     (λ_=>.bad 9 [o.op])
     (λcl fo=>fu (TB ops)
      (wC P G call o.op cl fo fr lv nx [] (λx lv' nx' lg'=>dS x λx=>eX o.dst x fr λfr=>ih fr lv' nx' (lg'++lg) (⟨x,lg'.map λq=>(q,bf lv' q),[],true,lv,o.op,[],nx⟩::acc) k) (λ_ _ _ _=>.bad 10 [o.op]))
      (vN P G call o.op cl fo fr lv nx λx us rds nx'=>dS x λx=>eX o.dst x fr λfr=>AY us lv lg λlv' lg=>ih fr lv' nx' lg (⟨x,us,rds,false,lv,o.op,[],nx⟩::acc) k))
     (UX P o.op (gZ G fr o.op.operands.toList) lv nx λx us rds=>QY nx us λnx'=>dS x λx=>eX o.dst x fr λfr'=>AY us lv lg λlv' lg=>ih fr' lv' nx' lg (⟨x,us,rds,false,lv,o.op,gZ G fr o.op.operands.toList,nx⟩::acc) k)
     (vo o.op))) os fr lv nx lg acc k
end
def PU(a b:DV):Bool:=
 match a,b with
  |.bool x,.bool y=>x == y
  |.int k x,.int k' y=>decide (k=k')&&x == y
  |.str x,.str y=>x == y
  |.nilp,.nilp=>true
  |.nilsl,.nilsl=>true
  |.nilIface,.nilIface=>true
  |.nilFunc,.nilFunc=>true
  |.nilmap,.nilmap=>true
  |_,_=>false
theorem Pg{a b:DV}(h:PU a b=true):a=b:=by
 unfold PU at h
 grind
def CV.beq:CV->CV->Bool
 |.d a,.d b=>PU a b
 |.ptr k o,.ptr k' o'=>Nat.beq k k' && Nat.beq o o'
 |.aH k o l z,.aH k' o' l' z'=>Nat.beq k k' && Nat.beq o o' && Nat.beq l l' && Nat.beq z z'
 |.mapr k,.mapr k'=>Nat.beq k k'
 |_,_=>false
theorem CV.beq_eq{x y:CV}(h:CV.beq x y=true):x=y:=by
 unfold CV.beq at h;split at h
 ·rw[Pg h]
 ·simp_all
 ·simp_all
 ·simp_all
 grind
def Kw:List CV->List CV->Bool
 |[],[]=>true
 |a::l,b::m=>CV.beq a b&&Kw l m
 |_,_=>false
theorem FQ:∀{l m:List CV},Kw l m=true->l=m
 |[],[],_=>rfl
 |a::l,b::m,h=>by simp only[Kw,rP]at h;rw[CV.beq_eq h.1,FQ h.2]
 |[],_::_,h=>by cases h
 |_::_,[],h=>by cases h
def AV.beq:AV->AV->Bool
 |.c a,.c b=>CV.beq a b
 |.agg a,.agg b=>Kw a b
 |_,_=>false
theorem AV.beq_eq{x y:AV}(h:AV.beq x y=true):x=y:=by
 unfold AV.beq at h;split at h
 ·rw[CV.beq_eq h]
 ·rw[FQ h]
 grind
section
variable (P:Program) (G:List (List DV))
noncomputable def FH(f:Rec)(k:Key)(b:LB):Bool:=
 match uv P f.op f.vals (az (bf f.lv) k b) f.nx with
 |some (x,[],[k'],true)=>AV.beq x f.x&&Nat.beq k' k
 |_=>false
def Dd{α:Type}:List α->Bool
 |[]=>true
 |_=>false
def SQ(k:Key):List Key->Bool
 |[a]=>Nat.beq a k
 |_=>false
noncomputable def G1(f g:Rec):Bool:=
 (!f.all ||Dd g.us)&&(!g.all ||Dd f.us)&&f.us.all (λp=>!(g.us.any λq=>Nat.beq q.1 p.1)) &&
 f.us.all (λp=>!Fi p.1 g.rds ||(Dd g.us&&SQ p.1 g.rds&&FH P g p.1 (bf f.lv p.1))) &&
 g.us.all (λp=>!Fi p.1 f.rds ||(Dd f.us&&SQ p.1 f.rds&&FH P f p.1 (bg (λ_=>.hole) (uQ g.us) p.1)))
noncomputable def Rec.quiet(f:Rec):Bool:=Dd f.us&&!f.all
noncomputable def Rec.idle(f:Rec):Bool:=Dd f.us&&Dd f.rds&&!f.all
noncomputable def Tp(ms:List Nat)(fs:List Rec):Bool:=
 pairs ms fs 0 []
where
 pairs (ms:List Nat):List Rec->Nat->List (Nat×Rec)->Bool
 |[],_,_=>true
 |g::r,j,before=>
  bif Rec.idle g then pairs ms r (j+1) before else
   before.all (λp=>(Rec.quiet g&&Rec.quiet p.2) ||(ms.getD j 0).testBit p.1 ||G1 P p.2 g)&&pairs ms r (j+1) ((j,g)::before)
abbrev RunT:=eJ->Nat->Tb AV->Tb LB->Nat->List Key->Xx->dm
noncomputable def BZ:RunT:=λ_ _ fr lv nx lg k=>k .normal fr lv nx lg
noncomputable def y6(_:Nat)(ops:Array Oper)(dr:Bool):RunT:=λcall N fr lv nx lg k=>
 fu (dM N ops.toList) (.bad 11 []) (Bool.rec (motive:=λ_=>dm) (zf P G call ops ops.toList fr lv nx lg k)
  (fu (mU ops) (.bad 12 []) (jE P G call ops ops.toList fr lv nx lg [] λacc fr lv nx lg=>fu (Tp P (iy ops.toList []) acc.reverse) (.bad 13 (ops.toList.map (·.op))) (k .normal fr lv nx lg))) dr)
noncomputable def Pc(_ _:Code)(a b:RunT):RunT:=λcall N fr lv nx lg k=>
 a call N fr lv nx lg λe fr lv nx lg=>Ex.rec (motive:=λ_=>dm) (b call N fr lv nx lg k) (λi=>k (.exit i) fr lv nx lg) (λi=>k (.goto i) fr lv nx lg) (k .ret fr lv nx lg) (λd=>k (.panic d) fr lv nx lg) e
noncomputable def M7(x:AV)(f t:dm):dm:=
 match x with
 |.c (.d (.bool b))=>fu b f t
 |_=>.bad 14 []
noncomputable def Hg(c:Operand)(_ _:Code)(a b:RunT):RunT:=λcall N fr lv nx lg k=>
 M7 (vm G fr c) (b call N fr lv nx lg k) (a call N fr lv nx lg k)
noncomputable def CR(id:Nat)(_:Code)(a:RunT):RunT:=λcall N fr lv nx lg k=>
 a call N fr lv nx lg λe fr lv nx lg=>Ex.rec (motive:=λ_=>dm) (k .normal fr lv nx lg) (λi=>Bool.rec (motive:=λ_=>dm) (k (.exit i) fr lv nx lg) (k .normal fr lv nx lg) (Nat.beq i id)) (λi=>k (.goto i) fr lv nx lg) (k .ret fr lv nx lg) (λd=>k (.panic d) fr lv nx lg) e
noncomputable def Mr(a:RunT)(call:eJ)(N:Nat)(n:Nat):Tb AV->Tb LB->Nat->List Key->Xx->dm:=
 Nat.rec (motive:=λ_=>Tb AV->Tb LB->Nat->List Key->Xx->dm) (λ_ _ _ _ _=>.bad 15 [])
  (λ_ ih fr lv nx lg k=>a call N fr lv nx lg λe fr lv nx lg=>Ex.rec (motive:=λ_=>dm) (ih fr lv nx lg k) (λi=>k (.exit i) fr lv nx lg) (λi=>k (.goto i) fr lv nx lg) (k .ret fr lv nx lg) (λd=>k (.panic d) fr lv nx lg) e) n
noncomputable def Ir(_:Code)(a:RunT):RunT:=λcall N=>Mr a call N 1000000
noncomputable def ME(id:Nat):RunT:=λ_ _ fr lv nx lg k=>k (.exit id) fr lv nx lg
noncomputable def QK(id:Nat):RunT:=λ_ _ fr lv nx lg k=>k (.goto id) fr lv nx lg
noncomputable def UW:RunT:=λ_ _ fr lv nx lg k=>k .ret fr lv nx lg
noncomputable def zv:RunT:=λ_ _ _ _ _ _ _=>.bad 16 []
noncomputable def runK(c:Code):RunT:=
 Code.rec (motive:=λ_=>RunT) BZ (y6 P G) Pc (Hg G) CR Ir (λ_ _ _ _ _ _=>zv) ME (λ_ _=>zv) (λ_=>BZ) QK UW (λ_=>zv) c
noncomputable def NR(us:List AV)(i:Nat)(fr:Tb AV)(k:Tb AV->dm):dm:=
 List.rec (motive:=λ_=>Nat->Tb AV->(Tb AV->dm)->dm) (λ_ fr k=>k fr) (λx _ ih i fr k=>Tb.Ct .undef x (pathOf i) fr λfr=>ih (Nat.succ i) fr k) us i fr k
inductive Spec where
 |body
 |pure (g:List AV->Option AV)
 |caught
 |self (g:Nat->Nat->Nat->Bool)
 |live (g:List AV->Tb LB->Option AV)
noncomputable def Tq(call:eJ)(f:FuncId)(us:List AV)(lv:Tb LB)(nx:Nat)(lg:List Key)(kr:IB)(kp:TA):dm:=
 lR P.funcs[f]? (.bad 17 []) λfn=>lR fn.body (.bad 18 []) λc=>fu (Nat.ble us.length fn.ntmps) (.bad 19 []) (
  NR us 0 .leaf λfr=>runK P G c call fn.ntmps fr lv nx lg λe fr lv nx lg=>
   Ex.rec (motive:=λ_=>dm) (lR (eE P ⟨kF fr,bf lv⟩ fn.results.toList) (.bad 20 []) λx=>dS x λx=>kr x lv nx lg) (λ_=>.bad 21 []) (λ_=>.bad 22 []) (lR (eE P ⟨kF fr,bf lv⟩ fn.results.toList) (.bad 23 []) λx=>dS x λx=>kr x lv nx lg)
    (λd=>kp d lv nx lg) e)
noncomputable def wY(ft:TypeId)(call:eJ)(us:List AV)(lv:Tb LB)(nx:Nat)(lg:List Key)(kr:IB):dm:=
 match us with
 |[x]=>lR (jW x) (.bad 24 []) λt=>Nl P t.1 (call t.1 (t.2.1++t.2.2) lv nx lg (λ_ lv nx lg=>kr (.c (.d (.int .i64 0))) lv nx lg)
  (λd lv nx lg=>match d with
   |.iface t (.agg [.int .i64 n])=>fu (Nat.beq t ft) (.bad 25 []) (kr (.c (.d (.int .i64 n))) lv nx lg)
   |_=>.bad 26 []))
 |_=>.bad 27 []
noncomputable def I3(g:Nat->Nat->Nat->Bool)(us:List AV)(lv:Tb LB)(nx:Nat)(lg:List Key)(kr:IB):dm:=
 match us with
 |[.c (.ptr k off)]=>(match bf lv k with
  |.cells own false T cs=>fu (g T off cs.length) (.bad 34 []) (match cs.drop off with
   |.d .nilp::_=>AY [(k,.cells own false T (ai cs off [.ptr k off]))] lv lg λlv lg=>kr (.tup []) lv nx lg
   |.ptr k' off'::_=>fu (Nat.beq k' k&&Nat.beq off' off) (.bad 30 []) (kr (.tup []) lv nx lg)
   |_=>.bad 31 [])
  |_=>.bad 32 [])
 |_=>.bad 33 []
noncomputable def RD(sp:Tb Spec)(ft:TypeId)(n:Nat):eJ:=
 Nat.rec (motive:=λ_=>eJ) (λ_ _ _ _ _ _ _=>.bad 28 [])
  (λ_ ih f us lv nx lg kr kp=>Spec.rec (motive:=λ_=>dm) (Tq P G ih f us lv nx lg kr kp) (λg=>lR (g us) (.bad 29 []) λx=>dS x λx=>kr x lv nx lg) (wY P ft ih us lv nx lg kr) (λg=>I3 g us lv nx lg kr) (λg=>lR (g us lv) (.bad 35 []) λx=>dS x λx=>kr x lv nx lg) (sp.get .body (pathOf f))) n
end
end Go.Am
