/- Helpers. -/
import Derived.Test.YtfkfimmphlpllaaGreatDoorGn00
import Derived.OrdersIn
import Derived.LoopNIn
import Derived.RangeFuncCalls
import Derived.Lib.AppendStr
import Derived.Lib.UnsafeStr
import Derived.Lib.ConvBytes
import Derived.WideKeyRuns

set_option linter.all false
set_option maxHeartbeats 8000000
set_option maxRecDepth 100000
noncomputable section
namespace Go.Am
variable {o:Oper}{f:FuncId}{x fv y:AV}{P:Program}{us:List (Key×LB)}{i id n κ:Nat}{lv lv':Key->LB}{w:World}{Q:Exit->Act->World->Prop}{s s0 s':aE}{ops:Array Oper}{k kh:Key}{ν σ σ':List LB}{cl:Call}{fo:Operand}{fs cs args:List AV}{b own:Bool}{G:List (List DV)}{rds l sel nk ks:List Key}{fn:Func}{fr:Nat->AV}{r:Option Nat}{a:Act}{F:Nat->Prop}{β:Key->Nat}{V:Vw}{v u:Value}{code:Code}{T:TypeId}{α:Type}{K:Act->World->Prop}
abbrev rP:=@List.mem_cons
abbrev ace:=@List.mem_map_of_mem
abbrev abV:=@List.idxOf?_eq_some_iff
abbrev acf:=@List.zipWith_cons_cons
abbrev ZX:=@List.mem_map
abbrev aaK:=@List.mem_flatMap
abbrev Z5:=@List.mem_append
abbrev ZP:=@List.map_congr_left
abbrev abW:=@List.mem_range
abbrev abq:=@Option.getD_some
abbrev ZK:=@Bool.or_eq_true
abbrev abG:=@Oper.apart_spec
abbrev abh:=@List.getElem?_append_right
abbrev abr:=@List.take_add_one
abbrev acg:=@List.getElem?_append_left
abbrev abH:=@List.getElem?_cons_zero
abbrev ach:=@List.any_eq_false
abbrev abX:=@List.range'_succ
abbrev abt:=@Array.getElem?_replicate
abbrev abi:=@List.all_cons
abbrev acy:=@Array.getElem?_append_left
abbrev acz:=@Array.getElem?_append_right
abbrev aaG:=@List.length_nil
abbrev Z0:=@Nat.mul_one
abbrev Zu:=@Nat.le_of_ble_eq_true
abbrev Zr:=@Nat.eq_of_beq_eq_true
abbrev abI:=@Nat.ne_of_beq_eq_false
def p9(lv:Key->LB)(p:Key×LB)(us:List (Key×LB)):aQ lv (p::us)=aQ (az lv p.1 p.2) us:=rfl
def EU(lv:Key->LB)(us vs:List (Key×LB)):aQ lv (us++vs)=aQ (aQ lv us) vs:=by
 simp[aQ,List.foldl_append]
def cu:∀{lv:Key->LB}{k:Key},k∉us.map (·.1)->aQ lv us k=lv k:=by
 induction us with
 |nil=>intro lv k _;rfl
 |cons p us ih=>
  intro lv k h;simp only[Zm,rP,not_or]at h;rw[p9,ih h.2,aH _ _ h.1]
def jT:∀{lv:Key->LB}{k:Key}{b:LB},(us.map (·.1)).Nodup->(k,b)∈us->aQ lv us k=b:=by
 induction us with
 |nil=>intro lv k b _ h;cases h
 |cons p us ih=>
  intro lv k b hn h;simp only[Zm,List.nodup_cons]at hn;rw[p9];rcases List.mem_cons.1 h with rfl|h
  ·rw[cu hn.1,aC]
  ·exact ih hn.2 h
section
variable {c:Ctx}{F:Nat->Prop}{β:Key->Nat}{s:aE}{a:Act}{w:World}
theorem aF.Iw:∀{Z:List (Key×TypeId×List CV)}{F:Nat->Prop}{lv:Key->LB},aF c F β ⟨fr,lv⟩ a w->(Z.map (·.1)).Nodup->(∀z∈Z,lv z.1=.cells true false z.2.1 z.2.2) ->
 ∃F',aF c F' β ⟨fr,aQ lv (dS Z)⟩ a w/\∀b,F b->F' b
 |[],F,lv,h,_,_=>⟨F,h,λ_ hb=>hb⟩
 |z::Z,F,lv,h,hn,hz=>by
  simp only[Zm,List.nodup_cons]at hn;have h1:=h.freeze (k:=z.1) (hz z (by simp))
  obtain⟨F',h2,h3⟩:=aF.Iw (Z:=Z) h1 hn.2 (λy hy=>by
   have hne:y.1≠z.1:=λe=>hn.1 (e▸ace hy)
   rw[aH _ _ hne];exact hz y (by simp[hy]))
  exact⟨F',h2,λb hb=>h3 b (.inl hb)⟩
def idxOf_getElem(hn:l.Nodup)(hi:i<l.length):l.idxOf? l[i]=some i:=by
 rw[abV];refine⟨hi,by simp,λj hj=>?_⟩
 have:l[j]'(by omega)≠l[i]:=λe=>by
  have:=List.pairwise_iff_getElem.1 hn j i (by omega) hi hj;exact this e
 simpa using this
def G7(h:k∉l):l.idxOf? k=none:=by
 rw[List.idxOf?_eq_none_iff];exact h
def lW(h:k<1000):bq σ ν k=σ.getD k .hole:=by simp[bq,h]
def tc(h:¬k<1000):bq σ ν k=ν.getD (k-1000) .hole:=by simp[bq,h]
def cY{l:List α}{d:α}(h:i<l.length):l.getD i d=l[i]:=by
 rw[Y8,cy h];rfl
def cS{l:List α}{d:α}(h:¬i<l.length):l.getD i d=d:=by
 rw[Y8,aa3 (by omega)];rfl
theorem Ow(hn:(sel++nk).Nodup)
 (hl1:sel.length=σ.length) (hl2:σ'.length=σ.length) (hl3:nk.length=ν.length) (hb:σ.length<=1000)
 (hsel:∀i (h:i<sel.length) (h':i<σ.length),(lv sel[i]).as σ[i] (aG sel nk kh)) (hnk:∀k∈nk,lv k=.hole) (hh:lv kh=.hole)
 (hpass:∀b∈σ,b.pass=true) (hnh:∀b,b∈σ++σ'++ν->b≠.hole) (hown:own=true->∀k∈sel,(lv k).qh=true) :
 wv ⟨fr,lv⟩ (aG sel nk kh) (rL sel nk) (bq σ []) (bq σ' ν) own:=by
 have hns:sel.Nodup:=(List.nodup_append.1 hn).1;have hnn:nk.Nodup:=(List.nodup_append.1 hn).2.1;have hdis:∀x∈sel,∀y∈nk,x≠y:=(List.nodup_append.1 hn).2.2
 have hL:∀k:Nat,bq σ [] k≠.hole->k<1000/\k<σ.length:=by
  intro k hk
  by_cases h1:k<1000
  ·rw[lW h1]at hk
   by_cases h2:k<σ.length
   ·exact⟨h1,h2⟩
   ·rw[cS h2]at hk;exact absurd rfl hk
  ·rw[tc h1]at hk;simp at hk
 refine⟨?_,?_,?_,?_,?_,?_⟩
 ·intro k;change Nat at k
  by_cases hk:bq σ [] k=.hole
  ·rw[hk];rfl
  ·obtain⟨h1,h2⟩:=hL k hk;rw[lW h1,cY h2];exact hpass _ (bh h2)
 ·intro k;change Nat at k
  by_cases h1:k<1000
  ·by_cases h2:k<σ.length
   ·have h3:aG sel nk kh k=sel[k]'(by omega):=by simp only[aG,if_pos h1];exact cY (by omega)
    rw[lW h1,cY h2];show(lv (aG sel nk kh k)).as _ _;rw[h3];exact hsel k (by omega) h2
   ·have h3:aG sel nk kh k=kh:=by simp only[aG,if_pos h1];exact cS (by omega)
    rw[lW h1,cS h2];show lv (aG sel nk kh k)=.hole;rw[h3];exact hh
  ·rw[tc h1];show(lv (aG sel nk kh k)).as (List.getD [] (k-1000) .hole) _;have h4:List.getD ([]:List LB) (k-1000) .hole=.hole:=by simp
   rw[h4];show lv (aG sel nk kh k)=.hole
   by_cases h2:k-1000<nk.length
   ·have h3:aG sel nk kh k=nk[k-1000]:=by simp only[aG,if_neg h1];exact cY h2
    rw[h3];exact hnk _ (bh h2)
   ·have h3:aG sel nk kh k=kh:=by simp only[aG,if_neg h1];exact cS h2
    rw[h3];exact hh
 ·intro k' k h;change Nat at k;unfold rL at h;split at h
  ·rename_i j hj
   simp only[ai]at h;subst h;rw[abV]at hj;obtain⟨hlt,he,_⟩:=hj;have h1:j<1000:=by omega
   refine⟨?_,?_⟩
   ·simp only[aG,if_pos h1];rw[cY hlt];simpa using he
   ·rw[lW h1,cY (by omega)];exact hnh _ (by simp[bh])
  ·split at h
   ·rename_i j hj
    simp only[ai]at h;subst h;rw[abV]at hj;obtain⟨hlt,he,_⟩:=hj;have h1:¬1000+j<1000:=by omega
    refine⟨?_,?_⟩
    ·simp only[aG,if_neg h1,aaP];rw[cY hlt];simpa using he
    ·rw[tc h1,aaP,cY (by omega)];exact hnh _ (by simp[bh])
   ·cases h
 ·intro k hk;change Nat at k
  by_cases h1:k<1000
  ·rw[lW h1]at hk
   have h2:k<σ'.length:=by
    rcases abe k σ'.length with h|h
    ·exact h
    ·rw[cS (by omega)]at hk;exact absurd rfl hk
   have h3:aG sel nk kh k=sel[k]'(by omega):=by simp only[aG,if_pos h1];exact cY (by omega)
   rw[h3];unfold rL;rw[idxOf_getElem hns (by omega)]
  ·obtain⟨m,rfl⟩:∃m:Nat,k=1000+m:=⟨k-1000,by omega⟩
   rw[tc h1,aaP]at hk
   have h2:m<ν.length:=by
    rcases abe m ν.length with h|h
    ·exact h
    ·rw[cS (by omega)]at hk;exact absurd rfl hk
   have h4:m<nk.length:=by omega
   have h3:aG sel nk kh (1000+m)=nk[m]'h4:=by
    unfold aG;rw[if_neg h1,aaP];exact cY h4
   rw[h3];unfold rL;rw[G7 (λhm=>hdis _ hm _ (bh h4) rfl),idxOf_getElem hnn h4]
 ·intro k hk;change Nat at k;obtain⟨h1,h2⟩:=hL k hk;rw[lW h1,cY (by omega)];exact hnh _ (by simp[bh])
 ·intro ho k hk;change Nat at k;obtain⟨h1,h2⟩:=hL k (jl hk);have h3:aG sel nk kh k=sel[k]'(by omega):=by simp only[aG,if_pos h1];exact cY (by omega)
  show(lv (aG sel nk kh k)).qh=true;rw[h3];exact hown ho _ (bh _)
theorem k9(g:Key->Key)(own:Bool):∀(ks:List Key) (bs:List LB),ks.length=bs.length->(bD g own ks bs).map (·.1)=ks
 |[],[],_=>rfl
 |k::ks,b::bs,h=>by
  have:=k9 g own ks bs (by simpa using h);simp only[bD,acf,Zm]at this⊢;rw[this]
 |[],_::_,h=>by simp at h
 |_::_,[],h=>by simp at h
def AK(g:Key->Key)(own:Bool){bs:List LB}(h:i<ks.length)(h':i<bs.length):(ks[i],(bs[i].bM g).fix own)∈bD g own ks bs:=by
 unfold bD;rw[List.mem_iff_getElem];exact⟨i,by simp;omega,by simp⟩
def G2(hn:(sel++nk).Nodup)
 (hl2:sel.length=σ'.length) (hl3:nk.length=ν.length) (hb:σ'.length<=1000) :
 fE ⟨fr,lv⟩ (aG sel nk kh) (rL sel nk) (bq σ' ν) own=aQ lv (bD (aG sel nk kh) own sel σ'++bD (aG sel nk kh) own nk ν):=by
 funext k'
 have hkeys:(bD (aG sel nk kh) own sel σ'++bD (aG sel nk kh) own nk ν).map (·.1)=sel++nk:=by
  rw[aaR,k9 _ _ _ _ hl2,k9 _ _ _ _ hl3]
 unfold fE rL
 cases h1:sel.idxOf? k' with
 |some j=>
  rw[abV]at h1;obtain⟨hlt,he,_⟩:=h1;have he:sel[j]=k':=by simpa using he
  subst he;simp only;rw[jT (by rw[hkeys];exact hn) (abg _ (AK _ own hlt (by omega)))];have hlt':j<σ'.length:=by omega
  have hlt2:(show Nat from j)<1000:=by show j<1000;omega
  rw[lW hlt2,cY hlt']
 |none=>
  have h1':k'∉sel:=by rwa[List.idxOf?_eq_none_iff]at h1
  simp only
  cases h2:nk.idxOf? k' with
  |some j=>
   rw[abV]at h2;obtain⟨hlt,he,_⟩:=h2;have he:nk[j]=k':=by simpa using he
   subst he;simp only;rw[jT (by rw[hkeys];exact hn) (abn _ (AK _ own hlt (by omega)))];have hlt':j<ν.length:=by omega
   have hlt2:¬(show Nat from 1000+j)<1000:=by show ¬1000+j<1000;omega
   rw[tc hlt2,aaP,cY hlt']
  |none=>
   have h2':k'∉nk:=by rwa[List.idxOf?_eq_none_iff]at h2
   simp only;rw[cu (by rw[hkeys];simp[h1',h2'])]
def gR(Z:List (Key×TypeId×List CV)):(dS Z).map (·.1)=Z.map (·.1):=by simp[dS]
theorem bV.R8(hd:∀d,o.dst=some d->d<c.n)(ho:o.op=.call cl)(hcal:cl.callee=.value fo)
 (hfo:s.val c.G fo=fv) (ht:cx fv=some (f,fs,cs)) (hf:aJ c.P f=true) (he:bV c f (fs++cl.args.toList.map (s.val c.G)++cs) s.lv x us rds) :
 cg c o s (aE.put ⟨s.fr,aQ s.lv us⟩ o.dst x):=by
 cases he with
 |flat us' ks rds x ha hc hx hr=>exact bV.Nb hd ho hcal hfo ht hf ha hc hx
 |gen us Z sel nk kh σ σ' ν x own rds hZ hZn hn hZs hkh hkZ hl1 hl2 hl3 hb hsel hnk hh hpass hnh hown hlen hargs hrd hrh hc=>
  intro F β a w K Q h hK;refine Ih h ho hcal hfo ht hf λvs hl hv=>?_;obtain⟨F1,h1,hF1⟩:=aF.Iw (Z:=Z) (lv:=s.lv) h hZn hZ
  have hsame:∀k,(∀z∈Z,z.1≠k)->aQ s.lv (dS Z) k=s.lv k:=λk hk=>cu (by
   rw[gR];intro hm;obtain⟨z,hz,e⟩:=List.mem_map.1 hm;exact hk z hz e)
  have hB:wv ⟨s.fr,aQ s.lv (dS Z)⟩ (aG sel nk kh) (rL sel nk) (bq σ []) (bq σ' ν) own:=by
   refine Ow hn hl1 hl2 hl3 hb (λi p q=>?_) (λk hk=>?_) ?_ hpass hnh (λho k hk=>?_)
   ·rw[hsame _ (λz hz e=>hZs z hz (by rw[e];simp[bh]))];exact hsel i p q
   ·rw[hsame _ (λz hz e=>hZs z hz (by rw[e];simp[hk]))];exact hnk k hk
   ·rw[hsame _ hkZ];exact hh
   ·rw[hsame _ (λz hz e=>hZs z hz (by rw[e];simp[hk]))];exact hown ho k hk
  have hR:=hB.bM (F:=F1) (β:=β) (w:=w)
  have hK1:∀v x,(Vw.mk F β s.lv w).av v x->(Vw.mk F1 β (aQ s.lv (dS Z)) w).av v x:=by
   intro v x hv;refine(Vw.jk (V:=Vw.mk F β s.lv w) (V':=Vw.mk F1 β (aQ s.lv (dS Z)) w) hF1 (λ_ _=>rfl) (λk=>?_) (λ_ _ _=>rfl) (λ_=>aY _)).av hv;show(s.lv k).sub (aQ s.lv (dS Z) k)
   by_cases hk:k∈Z.map (·.1)
   ·obtain⟨z,hz,rfl⟩:=List.mem_map.1 hk;rw[hZ z hz,jT (b:=.cells true true z.2.1 z.2.2) (by rw[gR];exact hZn) (by simp only[dS,ZX];exact⟨z,hz,rfl⟩)];simp[LB.sub]
   ·rw[cu (by rw[gR];exact hk)];exact LB.bE _
  refine(hc F1 (λk=>β (aG sel nk kh k)) w vs (h1.enter hB) (by omega) (λi p q=>?_)).mono λe w' he=>?_
  ·have E5:=hK1 _ _ (hv i (by omega) q);rcases hargs i (by omega) p with⟨g1,g2⟩|⟨ks,g1,g2⟩
   ·rw[g2]at E5;exact hR.av g1 E5
   ·exact h1.xe.eP (λ_ hb=>hb) g1 (λk hk=>by
     obtain⟨own',T,cs',e⟩:=g2 k hk;have hb:=h1.bQ k;unfold Vw.bQ at hb;simp only[e]at hb;obtain⟨arr,p1,p2,p3,p4,p5⟩:=hb;exact p4) E5
  ·obtain⟨v,F',β',rfl,hS',hav⟩:=he;have hbk:=h1.back hB hS';have hup:=(hB.up (β:=β) F' β' w').av hav;rw[G2 hn (by omega) hl3 (by omega)]at hbk hup;rw[<-EU,<-Zo]at hbk hup;exact⟨v,rfl,hK _ _ _ _ (hbk.BJ hd hup)⟩
end
def jX{f g:CV->Option (DV×List Key)}:∀{cs:List CV},(∀x∈cs,f x=g x)->fN f cs=fN g cs
 |[],_=>rfl
 |x::r,h=>by simp only[fN,h x (by simp),jX (cs:=r) (λy hy=>h y (by simp[hy]))]
def jd{α β:Type}{f g:α->List β}:∀{l:List α},(∀x∈l,f x=g x)->l.flatMap f=l.flatMap g
 |[],_=>rfl
 |x::r,h=>by simp only[List.flatMap_cons,h x (by simp),jd (l:=r) (λy hy=>h y (by simp[hy]))]
def nM{lv lv':Key->LB}:∀(n:Nat) (x:CV),(∀k∈fK lv n x,lv' k=lv k)->cR lv' n x=cR lv n x/\fK lv' n x=fK lv n x
 |n+1,.ptr k off,h=>by
  have h1:lv' k=lv k:=h k (by simp[fK]);simp only[cR,fK,h1]
  cases e:lv k with
  |cells own fz T cs=>
   have ih:∀x∈cs,cR lv' n x=cR lv n x/\fK lv' n x=fK lv n x:=λx hx=>nM n x λk' hk'=>h k' (by
    simp only[fK,e,rP,aaK];exact .inr ⟨x,hx,hk'⟩)
   simp only;refine⟨?_,?_⟩
   ·rw[jX (λx hx=>(ih x (aa1 hx)).1)]
   ·congr 1;exact jd λx hx=>(ih x hx).2
  |_=>exact⟨rfl,rfl⟩
 |n+1,.aD k off len sz,h=>by
  have h1:lv' k=lv k:=h k (by simp[fK]);simp only[cR,fK,h1]
  cases e:lv k with
  |cells own fz T cs=>
   have ih:∀x∈cs,cR lv' n x=cR lv n x/\fK lv' n x=fK lv n x:=λx hx=>nM n x λk' hk'=>h k' (by
    simp only[fK,e,rP,aaK];exact .inr ⟨x,hx,hk'⟩)
   simp only;refine⟨?_,?_⟩
   ·rw[jX (λx hx=>(ih x (aa1 (aa8 hx))).1)]
   ·congr 1;exact jd λx hx=>(ih x hx).2
  |_=>exact⟨rfl,rfl⟩
 |n,.d x,_=>by cases n<;>exact⟨rfl,rfl⟩
 |0,.ptr ..,_=>⟨rfl,rfl⟩
 |0,.aD ..,_=>⟨rfl,rfl⟩
 |n,.mapr _,_=>by cases n<;>exact⟨rfl,rfl⟩
 |n,.func ..,_=>by cases n<;>exact⟨rfl,rfl⟩
 |n,.ifc ..,_=>by cases n<;>exact⟨rfl,rfl⟩
 |n,.junk,_=>by cases n<;>exact⟨rfl,rfl⟩
def qa{f:CV->Option (DV×List Key)}{g:CV->List Key}:∀{cs:List CV}{l:List DV}{ks:List Key},(∀x∈cs,∀d ks,f x=some (d,ks)->∀k∈ks,k∈g x)->fN f cs=some (l,ks)->∀k∈ks,k∈cs.flatMap g
 |[],l,ks,_,h=>by simp only[fN,ai,fy]at h;obtain⟨rfl,rfl⟩:=h;simp
 |x::r,l,ks,hf,h=>by
  simp only[fN]at h;split at h
  ·rename_i d k l' ks' h1 h2
   simp only[ai,fy]at h;obtain⟨rfl,rfl⟩:=h;intro y hy;simp only[List.flatMap_cons,Z5];rcases List.mem_append.1 hy with h|h
   ·exact .inl (hf x (by simp) _ _ h1 y h)
   ·exact .inr (qa (λx hx=>hf x (by simp[hx])) h2 y h)
  ·cases h
def tG{lv:Key->LB}:∀(n:Nat) (x:CV) (d:DV) (ks:List Key),cR lv n x=some (d,ks)->∀k∈ks,k∈fK lv n x
 |n,.d x,d,ks,h=>by simp only[cR,ai,fy]at h;obtain⟨rfl,rfl⟩:=h;simp
 |n+1,.ptr k off,d,ks,h=>by
  simp only[cR]at h;simp only[fK];split at h
  ·rename_i own fz T cs e
   split at h
   ·rw[Zx]at h;obtain⟨⟨l,ks'⟩,ht,he⟩:=h;simp only[fy]at he;obtain⟨rfl,rfl⟩:=he;intro y hy;rcases List.mem_cons.1 hy with rfl|hy
    ·simp
    ·have:=qa (g:=fK lv n) (λx _ d ks hx=>tG n x d ks hx) ht y hy;obtain⟨x,hx,hk⟩:=List.mem_flatMap.1 this
     try rw[e]
     exact aaI _ (List.mem_flatMap.2 ⟨x,aa1 hx,hk⟩)
   ·cases h
  ·cases h
 |n+1,.aD k off len sz,d,ks,h=>by
  simp only[cR]at h;simp only[fK];split at h
  ·rename_i own fz T cs e
   split at h
   ·rw[Zx]at h;obtain⟨⟨l,ks'⟩,ht,he⟩:=h;simp only[fy]at he;obtain⟨rfl,rfl⟩:=he;intro y hy;rcases List.mem_cons.1 hy with rfl|hy
    ·simp
    ·have:=qa (g:=fK lv n) (λx _ d ks hx=>tG n x d ks hx) ht y hy;obtain⟨x,hx,hk⟩:=List.mem_flatMap.1 this
     try rw[e]
     exact aaI _ (List.mem_flatMap.2 ⟨x,aa1 (aa8 hx),hk⟩)
   ·cases h
  ·simp only[ai,fy]at h;obtain⟨rfl,rfl⟩:=h;simp
  ·cases h
 |0,.ptr ..,_,_,h=>by cases h
 |0,.aD ..,_,_,h=>by cases h
 |n,.mapr _,_,_,h=>by cases n<;>cases h
 |n,.func ..,_,_,h=>by cases n<;>cases h
 |n,.ifc ..,_,_,h=>by cases n<;>cases h
 |n,.junk,_,_,h=>by cases n<;>cases h
def nh(h:∀k∈hO lv x,lv' k=lv k):eP lv' x=eP lv x/\hO lv' x=hO lv x:=by
 cases x with
 |c x=>obtain⟨h1,h2⟩:=nM 8 x h;exact⟨by simp only[eP,h1],h2⟩
 |agg cs=>
  have ih:∀x∈cs,cR lv' 8 x=cR lv 8 x/\fK lv' 8 x=fK lv 8 x:=λx hx=>nM 8 x λk hk=>h k (List.mem_flatMap.2 ⟨x,hx,hk⟩)
  exact⟨by simp only[eP,jX (λx hx=>(ih x hx).1)],jd λx hx=>(ih x hx).2⟩
 |tup l=>exact⟨rfl,rfl⟩
 |undef=>exact⟨rfl,rfl⟩
 |junk=>exact⟨rfl,rfl⟩
def KA(h:eP lv x=some (y,ks)):∀k∈ks,k∈hO lv x:=by
 cases x with
 |c x=>
  simp only[eP,Zx]at h;obtain⟨⟨d,ks'⟩,ht,he⟩:=h;simp only[fy]at he;obtain⟨rfl,rfl⟩:=he;exact tG _ _ _ _ ht
 |agg cs=>
  simp only[eP,Zx]at h;obtain⟨⟨d,ks'⟩,ht,he⟩:=h;simp only[fy]at he;obtain⟨rfl,rfl⟩:=he;exact qa (λx _ d ks hx=>tG 8 x d ks hx) ht
 |tup l=>cases h
 |undef=>cases h
 |junk=>cases h
def wg{lv lv':Key->LB}:∀{xs:List AV},(∀a∈xs,∀k∈hO lv a,lv' k=lv k)->kA lv' xs=kA lv xs
 |[],_=>rfl
 |x::r,h=>by simp only[kA,(nh (h x (by simp))).1,wg (xs:=r) (λa ha=>h a (by simp[ha]))]
def bV.local{c:Ctx}{xs:List AV}(h:bV c f xs lv x us rds)(ha:Agree lv lv' us rds):bV c f xs lv' x us rds:=by
 obtain⟨ha1,ha2⟩:=ha
 cases h with
 |flat us' ks rds x hd hc hx hr=>
  have hl:∀a∈xs,∀k∈hO lv a,lv' k=lv k:=λa h k hk=>ha1 k (hr a h k hk)
  exact .flat us' ks rds x (by rw[wg hl];exact hd) hc hx (λa h k hk=>hr a h k (by rw[(nh (hl a h)).2]at hk;exact hk))
 |gen us Z sel nk kh σ σ' ν x own rds hZ hZn hn hZs hkh hkZ hl1 hl2 hl3 hb hsel hnk hh hpass hnh hown hlen hargs hrd hrh hc=>
  have hkeysZ:∀z∈Z,lv' z.1=lv z.1:=λz hz=>ha2 (z.1,.cells true true z.2.1 z.2.2) (by
   refine abg _ (abg _ ?_);simp only[dS,ZX];exact⟨z,hz,rfl⟩)
  have hks:∀i (h:i<sel.length),lv' sel[i]=lv sel[i]:=λi h=>by
   have hm:sel[i]∈(bD (aG sel nk kh) own sel σ').map (·.1):=by rw[k9 _ _ _ _ (by omega)];exact bh h
   obtain⟨p,hp,e⟩:=List.mem_map.1 hm;rw[<-e];exact ha2 p (abg _ (abn _ hp))
  have hkn:∀k∈nk,lv' k=lv k:=λk hk=>by
   have hm:k∈(bD (aG sel nk kh) own nk ν).map (·.1):=by rw[k9 _ _ _ _ (by omega)];exact hk
   obtain⟨p,hp,e⟩:=List.mem_map.1 hm;rw[<-e];exact ha2 p (abn _ hp)
  have hfr:∀k,(k∈rds\/k∈Z.map (·.1))->aQ lv' (dS Z) k=aQ lv (dS Z) k:=by
   intro k hk
   by_cases hz:k∈(dS Z).map (·.1)
   ·obtain⟨p,hp,e⟩:=List.mem_map.1 hz;have hn':((dS Z).map (·.1)).Nodup:=by rw[gR];exact hZn
    obtain⟨k',b⟩:=p;simp only at e;subst e;rw[jT hn' hp,jT hn' hp]
   ·rw[cu hz,cu hz];rcases hk with hk|hk
    ·exact ha1 k hk
    ·rw[gR]at hz;exact absurd hk hz
  have hla:∀a∈xs,∀k∈hO (aQ lv (dS Z)) a,aQ lv' (dS Z) k=aQ lv (dS Z) k:=λa h k hk=>hfr k (hrd a h k hk)
  refine .gen us Z sel nk kh σ σ' ν x own rds (λz hz=>by rw[hkeysZ z hz];exact hZ z hz) hZn hn hZs hkh hkZ hl1 hl2 hl3 hb (λi p q=>by rw[hks i p];exact hsel i p q)
   (λk hk=>by rw[hkn k hk];exact hnk k hk) (by rw[ha1 kh hrh];exact hh) hpass hnh (λho k hk=>?_) hlen (λi p q=>?_) (λa h k hk=>?_) hrh hc
  ·obtain⟨i,hi,rfl⟩:=List.mem_iff_getElem.1 hk;rw[hks i hi];exact hown ho _ (bh hi)
  ·rcases hargs i p q with⟨g1,g2⟩|⟨ks,g1,g2⟩
   ·exact .inl ⟨g1,g2⟩
   ·refine .inr ⟨ks,by rw[(nh (hla _ (bh p))).1];exact g1,λk hk=>?_⟩;rw[hla _ (bh p) k (KA g1 k hk)];exact g2 k hk
  ·rw[(nh (hla a h)).2]at hk;exact hrd a h k hk
def qb(r:Option Nat):Fence:={ Fence.wide with round:=r }
def EN{args:Array Value}{R:Ending->World->Prop}(h:Calls P f args w R):CallsIn (qb r) n P f args w R:=
 (callsIn_wide (n:=n)).2 h
def GF{row:String}{args:Array Value}{R:Value->World->Prop}(h:Rows P row args w R):RowsIn (qb r) n P row args w R:=
 λc cs _=>let ⟨v,w',hr,hs⟩:=h c cs;⟨v,w',hr,stepsIn_wide.2 hs⟩
def tU(hd:∀c,o.op≠.defer c)(h:o.wp P a w K Q):
 o.wpIn (qb r) n P a w K Q:=by
 refine⟨λ_ _=>trivial,?_⟩;rw[Oper.semAt_eq _ _ _ hd];unfold Oper.wp at h;generalize (execOp a.eval o).run P w=res at*
 have hdep:∀m:Nat,(qb r).depth.isSome=true->1<=m:=λm h=>by simp[qb,Fence.wide]at h
 cases res with
 |ok x w'=>
  cases x<;>simp only[Oper.upon]at h<;>simp only[Oper.uponIn]<;>first|exact h|exact⟨hdep _,EN h⟩|exact⟨hdep _,GF h⟩|exact h.elim
 |halt x w'=>cases x<;>simp only[Oper.upon]at h<;>simp only[Oper.uponIn]<;>first|exact h|exact h.elim
def eB(ops:Array Oper)(g:Option (Nat×Bool))(fr:Nat->AV):Option Bool:=
 match g with
 |none=>some true
 |some (j,want)=>match (ops[j]?).bind (·.dst)with
  |some d=>match fr d with
   |.c (.d (.bool b))=>some (b==want)
   |.undef=>some false
   |_=>none
  |none=>none
section
variable {c:Ctx}{F:Nat->Prop}{β:Key->Nat}{s:aE}{a:Act}{w:World}{ops:Array Oper}
def gy(h:aF c F β s a w)(hw:eB ops o.guard s.fr=some b):Region.wanted o (yielded ops a.tmps)=b:=by
 unfold eB at hw;unfold Region.wanted;split at hw
 ·rename_i hg;rw[hg];simpa using hw
 ·rename_i j want hg
  rw[hg];simp only;split at hw
  ·rename_i d hd
   have hv:=h.fr d;unfold yielded;rw[hd];simp only[Option.bind_some];split at hw
   ·rename_i b' hb
    rw[hb]at hv;have hv':=Vw.rm hv;simp only[ai]at hw;subst hw
    have hq:a.tmps[d]?=some (.bool b'):=by
     cases e:a.tmps[d]? with
     |none=>rw[ZZ,e]at hv';cases hv'
     |some v=>rw[ZZ,e]at hv';simp at hv';rw[hv']
    rw[hq];cases b'<;>cases want<;>rfl
   ·rename_i hb
    rw[hb]at hv;simp only[ai]at hw;subst hw;have hv':a.tmps.getD d undef=undef:=hv
    cases e:a.tmps[d]? with
    |none=>rfl
    |some v=>
     rw[ZZ,e]at hv';simp at hv';subst hv';rfl
   ·cases hw
  ·cases hw
end
structure Fx where
 x:AV
 us:List (Key×LB)
 rds:List Key
variable {e e':Fx}{es:List Fx}
def Fx.app(e:Fx)(dst:Option Nat)(s:aE):aE:=aE.put ⟨s.fr,aQ s.lv e.us⟩ dst e.x
def cX(c:Ctx)(r:Option Nat)(ops:Array Oper)(o:Oper)(s0:aE)(e:Fx):Prop:=
 ∀s:aE,(∀t∈o.looksAt ops,s.fr t=s0.fr t)->Agree s0.lv s.lv e.us e.rds ->
  ∀F β a w K Q,aF c F β s a w->(∀F' β' a' w',aF c F' β' (e.app o.dst s) a' w'->K a' w') ->
   if Region.wanted o (yielded ops a.tmps)then o.wpIn (qb r) 0 c.P a w K Q else K (a.put o.dst undef) w
def val_congr{x:Operand}(h:∀t,x=.tmp t->s.fr t=s0.fr t):s.val G x=s0.val G x:=by
 cases x with
 |tmp t=>exact h t rfl
 |_=>rfl
def yb(h:∀t∈o.looksAt ops,s.fr t=s0.fr t):∀x∈o.op.operands.toList,s.val G x=s0.val G x:=by
 intro x hx;refine val_congr λt ht=>h t ?_;subst ht;exact abg _ (List.mem_filterMap.2 ⟨.tmp t,hx,rfl⟩)
def mN(h:∀t∈o.looksAt ops,s.fr t=s0.fr t):eB ops o.guard s.fr=eB ops o.guard s0.fr:=by
 unfold eB
 cases hg:o.guard with
 |none=>rfl
 |some p=>
  obtain⟨j,want⟩:=p;simp only
  cases hd:(ops[j]?).bind (·.dst)with
  |none=>rfl
  |some d=>
   simp only;rw[h d (abn _ (by rw[hg];simp[hd]))]
section
variable {c:Ctx}{r:Option Nat}{ops:Array Oper}{o:Oper}{s0:aE}
def cX.skip(hd:∀d,o.dst=some d->d<c.n)(hw:eB ops o.guard s0.fr=some false):cX c r ops o s0 ⟨.undef,[],[]⟩:=by
 intro s h1 _ F β a w K Q h hK;rw[gy h ((mN h1).trans hw)];simp only[Zj,if_false];exact hK F β _ _ (h.BJ hd (nI _))
def cX.o4(hw:eB ops o.guard s0.fr=some true)(hdf:∀cl,o.op≠.defer cl)
 (hs:∀s:aE,(∀x∈o.op.operands.toList,s.val c.G x=s0.val c.G x)->Agree s0.lv s.lv e.us e.rds->cg c o s (e.app o.dst s)):cX c r ops o s0 e:=by
 intro s h1 h2 F β a w K Q h hK;rw[gy h ((mN h1).trans hw)];simp only[if_true];exact tU hdf (hs s (yb h1) h2 F β a w K Q h hK)
def cX.plain{κ:Key}{vc:Prop}(hd:∀d,o.dst=some d->d<c.n)(hw:eB ops o.guard s0.fr=some true)
 (h:bK c.P o.op (o.op.operands.toList.map (s0.val c.G)) s0.lv κ=some (x,us,rds,vc)) (hvc:vc):cX c r ops o s0 ⟨x,us,rds⟩:=by
 refine cX.o4 hw (λcl hcl=>?_) (λs h1 h2=>?_)
 ·rw[hcl]at h;simp[bK]at h
 ·have hl:=oz h (show Agree s0.lv s.lv us rds from h2);exact AI hd rfl (ZP h1) hl hvc
end
def s8:∀{f g:Key->LB}{k:Key},k∈us.map (·.1)->aQ f us k=aQ g us k:=by
 induction us with
 |nil=>intro f g k h;cases h
 |cons p us ih=>
  intro f g k h;rw[p9,p9]
  by_cases hk:k∈us.map (·.1)
  ·exact ih hk
  ·rw[cu hk,cu hk];simp only[Zm,rP]at h;rcases h with h|h
   ·rw[h,aC,aC]
   ·exact absurd h hk
def pz(e:Fx)(dst:Option Nat)(s:aE)(t:Nat):(e.app dst s).fr t=if dst=some t then e.x else s.fr t:=by
 cases dst with
 |none=>simp[Fx.app,aE.put]
 |some d=>
  simp only[Fx.app,aE.put,ai]
  by_cases h:d=t
  ·subst h;rw[aC];simp
  ·rw[aH _ _ (λe=>h e.symm)];simp[h]
def nE(e:Fx)(dst:Option Nat)(s:aE):(e.app dst s).lv=aQ s.lv e.us:=by
 cases dst<;>rfl
def bu(ops:Array Oper)(es:List Fx)(s0:aE)(L:Nat->Bool):Nat->aE
 |0=>s0
 |m+1=>match ops[m]?,es[m]? with
  |some o,some e=>if L m then e.app o.dst (bu ops es s0 L m)else bu ops es s0 L m
  |_,_=>bu ops es s0 L m
inductive wu(ops:Array Oper):Nat->Nat->Prop where
 |one {i j:Nat}{o:Oper}{ed:Edge}(ho:ops[j]?=some o) (he:ed∈o.after) (hb:Region.binds .any ed=true) (hi:ed.on=i):wu ops i j
 |more {i j:Nat}{o:Oper}{ed:Edge}(ho:ops[j]?=some o) (he:ed∈o.after) (hb:Region.binds .any ed=true) (hi:wu ops i ed.on):wu ops i j
section
variable {ops:Array Oper}{es:List Fx}{s0:aE}{L:Nat->Bool}
def fD{L L':Nat->Bool}:∀{m:Nat},(∀j,j<m->L j=L' j)->bu ops es s0 L m=bu ops es s0 L' m
 |0,_=>rfl
 |m+1,h=>by
  have ih:=fD (m:=m) (λj hj=>h j (by omega));simp only[bu,ih,h m (by omega)]
def Cy{i t:Nat}(h:∀j o,ops[j]?=some o->o.dst=some t->(j<i↔L j=true)):∀m,(bu ops es s0 L m).fr t=(bu ops es s0 (λ_=>true) (min m i)).fr t
 |0=>by simp[bu]
 |m+1=>by
  have ih:=Cy h m
  by_cases hm:m<i
  ·have e1:min (m+1) i=min m i+1:=by omega
   have e2:min m i=m:=by omega
   rw[e1,e2];rw[e2]at ih;simp only[bu]
   cases ho:ops[m]? with
   |none=>exact ih
   |some o=>
    cases he:es[m]? with
    |none=>exact ih
    |some e=>
     simp only[if_true]
     by_cases hd:o.dst=some t
     ·rw[(h m o ho hd).1 hm];simp only[if_true,pz,hd]
     ·by_cases hL:L m=true
      ·simp only[hL,if_true,pz,hd,if_false];exact ih
      ·simp only[hL,pz,hd,if_false];exact ih
  ·have e1:min (m+1) i=min m i:=by omega
   rw[e1,<-ih];simp only[bu]
   cases ho:ops[m]? with
   |none=>rfl
   |some o=>
    cases he:es[m]? with
    |none=>rfl
    |some e=>
     simp only
     by_cases hL:L m=true
     ·have hd:o.dst≠some t:=λhd=>hm ((h m o ho hd).2 hL)
      simp only[hL,if_true,pz,hd,if_false]
     ·simp only[hL,if_false,Zj]
def Iv{i:Nat}{k:Key}(h:∀(j:Nat) e,es[j]?=some e->k∈e.us.map (·.1)->(j<i↔L j=true)):∀m,(bu ops es s0 L m).lv k=(bu ops es s0 (λ_=>true) (min m i)).lv k
 |0=>by simp[bu]
 |m+1=>by
  have ih:=Iv h m
  by_cases hm:m<i
  ·have e1:min (m+1) i=min m i+1:=by omega
   have e2:min m i=m:=by omega
   rw[e1,e2];rw[e2]at ih;simp only[bu]
   cases ho:ops[m]? with
   |none=>exact ih
   |some o=>
    cases he:es[m]? with
    |none=>exact ih
    |some e=>
     simp only[if_true]
     by_cases hd:k∈e.us.map (·.1)
     ·rw[(h m e he hd).1 hm];simp only[if_true,nE];exact s8 hd
     ·by_cases hL:L m=true
      ·simp only[hL,if_true,nE,cu hd];exact ih
      ·simp only[hL,nE,cu hd];exact ih
  ·have e1:min (m+1) i=min m i:=by omega
   rw[e1,<-ih];simp only[bu]
   cases ho:ops[m]? with
   |none=>rfl
   |some o=>
    cases he:es[m]? with
    |none=>rfl
    |some e=>
     simp only
     by_cases hL:L m=true
     ·have hd:k∉e.us.map (·.1):=λhd=>hm ((h m e he hd).2 hL)
      simp only[hL,if_true,nE,cu hd]
     ·simp only[hL,if_false,Zj]
def vQ{t:Nat}(ho:ops[i]?=some o)(he:es[i]?=some e)(hi:i<n)(hL:L i=false)
 (hlt:∀j o',i<j->ops[j]?=some o'->L j=true->o.dst=some t->o'.dst≠some t) :
 (e.app o.dst (bu ops es s0 L n)).fr t=(bu ops es s0 (λj=>L j ||j==i) n).fr t:=by
 have below:∀m,m<=i->bu ops es s0 (λj=>L j ||j==i) m=bu ops es s0 L m:=λm hm=>
  fD fun j hj=>by have:(j == i)=false:=by simp;omega
                  simp[this]
 have h1:∀m,i<m->(e.app o.dst (bu ops es s0 L m)).fr t=(bu ops es s0 (λj=>L j ||j==i) m).fr t:=by
  intro m
  induction m with
  |zero=>intro h;omega
  |succ m ih=>
   intro hm
   by_cases hmi:m=i
   ·subst hmi;simp only[bu,ho,he,hL,Zj,if_false,beq_self_eq_true,Bool.or_true,if_true];rw[below m (by omega)]
   ·have ih:=ih (by omega);have hne:(m==i)=false:=by simpa using hmi
    simp only[bu]
    cases ho':ops[m]? with
    |none=>exact ih
    |some o'=>
     cases he':es[m]? with
     |none=>exact ih
     |some e'=>
      simp only[hne,Bool.or_false]
      by_cases hLm:L m=true
      ·simp only[hLm,if_true];rw[pz,pz,pz];rw[pz]at ih
       by_cases hd:o.dst=some t
       ·have:=hlt m o' (by omega) ho' hLm hd;simp only[hd,if_true,this,if_false]at ih⊢;exact ih
       ·simp only[hd,if_false]at ih⊢;rw[ih]
      ·simp only[hLm,Zj,if_false];exact ih
 exact h1 n hi
def we(ho:ops[i]?=some o)(he:es[i]?=some e)(hi:i<n)(hL:L i=false)
 (hlt:∀(j:Nat) e',i<j->es[j]?=some e'->L j=true->k∈e.us.map (·.1)->k∉e'.us.map (·.1)) :
 (e.app o.dst (bu ops es s0 L n)).lv k=(bu ops es s0 (λj=>L j ||j==i) n).lv k:=by
 have below:∀m,m<=i->bu ops es s0 (λj=>L j ||j==i) m=bu ops es s0 L m:=λm hm=>
  fD fun j hj=>by have:(j == i)=false:=by simp;omega
                  simp[this]
 have h1:∀m,i<m->(e.app o.dst (bu ops es s0 L m)).lv k=(bu ops es s0 (λj=>L j ||j==i) m).lv k:=by
  intro m
  induction m with
  |zero=>intro h;omega
  |succ m ih=>
   intro hm
   by_cases hmi:m=i
   ·subst hmi;simp only[bu,ho,he,hL,Zj,if_false,beq_self_eq_true,Bool.or_true,if_true];rw[below m (by omega)]
   ·have ih:=ih (by omega);have hne:(m==i)=false:=by simpa using hmi
    simp only[bu]
    cases ho':ops[m]? with
    |none=>exact ih
    |some o'=>
     cases he':es[m]? with
     |none=>exact ih
     |some e'=>
      simp only[hne,Bool.or_false]
      by_cases hLm:L m=true
      ·simp only[hLm,if_true];rw[nE,nE,nE];rw[nE]at ih
       by_cases hd:k∈e.us.map (·.1)
       ·have hd':=hlt m e' (by omega) he' hLm hd;rw[cu hd',<-ih];exact s8 hd
       ·rw[cu hd];rw[cu hd]at ih
        by_cases hd':k∈e'.us.map (·.1)
        ·exact s8 hd'
        ·rw[cu hd',cu hd'];exact ih
      ·simp only[hLm,Zj,if_false];exact ih
 exact h1 n hi
end
def QB(ops:Array Oper)(o o':Oper)(e e':Fx):Prop:=
 o.apart ops o'=true/\(∀k∈e.us.map (·.1),k∉e'.us.map (·.1)/\k∉e'.rds)/\∀k∈e'.us.map (·.1),k∉e.rds
def cnt(p:Nat->Bool):Nat->Nat
 |0=>0
 |n+1=>cnt p n+(if p n then 1 else 0)
def pO{p q:Nat->Bool}:∀{n:Nat},(∀i,i<n->p i=q i)->cnt p n=cnt q n
 |0,_=>rfl
 |n+1,h=>by simp only[cnt,pO (n:=n) (λi hi=>h i (by omega)),h n (by omega)]
def Cc{p:Nat->Bool}{i:Nat}(h:p i=false):∀{n:Nat},i<n->cnt (λj=>p j ||j==i) n=cnt p n+1
 |0,hi=>absurd hi (by omega)
 |n+1,hi=>by
  by_cases e:n=i
  ·subst e
   have h0:∀j,j<n->(p j ||j==n)=p j:=λj hj=>by
    have h1:(j==n)=false:=by simp;omega
    simp[h1]
   have:=pO h0;simp only[cnt,this,h];simp
  ·have hne:(n==i)=false:=by simpa using e
   simp only[cnt,Cc h (n:=n) (by omega),hne,Bool.or_false];omega
def Kl(p:Nat->Bool):∀n,cnt p n<=n
 |0=>aY _
 |n+1=>by have:=Kl p n;simp only[cnt];split<;>omega
def CM{p:Nat->Bool}:∀{n:Nat},n<=cnt p n->∀i,i<n->p i=true
 |0,_,i,hi=>absurd hi (by omega)
 |n+1,h,i,hi=>by
  have h1:=Kl p n;simp only[cnt]at h
  by_cases hp:p n=true
  ·rw[if_pos hp]at h
   by_cases e:i=n
   ·rw[e];exact hp
   ·exact CM (n:=n) (by omega) i (by omega)
  ·rw[if_neg hp]at h;omega
def mem_ready{listed:Array Bool}:i∈Region.ready .any ops listed ↔
 i<ops.size/\listed.getD i true=false/\∃o,ops[i]?=some o/\∀ed∈o.after,Region.binds .any ed=true->listed.getD ed.on false=true:=by
 unfold Region.ready;simp only[List.mem_filter,abW,cn,Zy];refine and_congr_right λhi=>and_congr_right λ_=>?_;have ho:ops[i]?=some ops[i]:=Z9 hi;rw[ho];simp only[Zs,abq,Array.all_eq_true',ZK,Zy,ai,exists_eq_left'];constructor
 ·intro h ed hed hb;rcases h ed hed with h|h
  ·rw[hb]at h;cases h
  ·exact h
 ·intro h ed hed
  cases hb:Region.binds .any ed with
  |false=>exact .inl rfl
  |true=>exact .inr (h ed hed hb)
section
variable {c:Ctx}{r:Option Nat}{ops:Array Oper}{es:List Fx}{s0:aE}
def vw(hlen:es.length=ops.size)
 (hE:∀(i:Nat) o e,ops[i]?=some o->es[i]?=some e->cX c r ops o (bu ops es s0 (λ_=>true) i) e)
 (hback:∀(i:Nat) o,ops[i]?=some o->∀ed∈o.after,Region.binds .any ed=true->ed.on<i)
 (hind:∀(i j:Nat) o o' e e',i<j->ops[i]?=some o->ops[j]?=some o'->es[i]?=some e->es[j]?=some e'->wu ops i j\/QB ops o o' e e')(hQ:∀F' β' a' w',aF c F' β' (bu ops es s0 (λ_=>true) ops.size) a' w'->Q .normal a' w') :
 ∀(fuel:Nat) (listed:Array Bool),listed.size=ops.size ->
  (∀(j:Nat) o,ops[j]?=some o->listed.getD j false=true->∀ed∈o.after,Region.binds .any ed=true->listed.getD ed.on false=true) ->
  ops.size<=fuel+cnt (λj=>listed.getD j false) ops.size ->
  ∀F β a w,aF c F β (bu ops es s0 (λj=>listed.getD j false) ops.size) a w->wpAnyIn (qb r) 0 c.P .any ops Q fuel listed a w:=by
 intro fuel
 have hall:∀(listed:Array Bool),(∀i,i<ops.size->listed.getD i false=true)->∀F β a w,aF c F β (bu ops es s0 (λj=>listed.getD j false) ops.size) a w->Q .normal a w:=by
  intro listed hl F β a w h;rw[fD (L':=λ_=>true) hl]at h;exact hQ _ _ _ _ h
 induction fuel with
 |zero=>
  intro listed hsz hcl hcnt F β a w h;have hl:=CM (p:=λj=>listed.getD j false) (n:=ops.size) (by omega);refine⟨?_,hall listed hl F β a w h⟩;rw[List.eq_nil_iff_forall_not_mem];intro i hi;obtain⟨h1,h2,_⟩:=mem_ready.1 hi;have h3:listed.getD i false=true:=hl i h1;have h4:i<listed.size:=by omega
  simp[Array.getD,h4]at h2 h3;rw[h2]at h3;cases h3
 |succ fuel ih=>
  intro listed hsz hcl hcnt F β a w h
  have hanc:∀i j,wu ops i j->listed.getD j false=true->listed.getD i false=true:=by
   intro i j ha
   induction ha with
   |one ho he hb hi=>intro hj;subst hi;exact hcl _ _ ho hj _ he hb
   |more ho he hb _ ih=>intro hj;exact ih (hcl _ _ ho hj _ he hb)
  refine⟨λhnil=>?_,λi hi=>?_⟩
  ·refine hall listed (λi hi=>?_) F β a w h
   induction i using Nat.strongRecOn with
   |_ i ihi=>
    cases hL:listed.getD i false with
    |true=>rfl
    |false=>
     exfalso
     have:i∈Region.ready .any ops listed:=by
      refine mem_ready.2 ⟨hi,?_,ops[i],Z9 hi,λed hed hb=>?_⟩
      ·have h4:i<listed.size:=by omega
       simp[Array.getD,h4]at hL⊢;exact hL
      ·have:=hback i _ (Z9 hi) ed hed hb;exact ihi _ this (by omega)
     rw[hnil]at this;cases this
  ·obtain⟨hi1,hi2,o,ho,hpre⟩:=mem_ready.1 hi;have h4:i<listed.size:=by omega
   have hLi:listed.getD i false=false:=by simp[Array.getD,h4]at hi2⊢;exact hi2
   obtain⟨e,he⟩:∃e,es[i]?=some e:=⟨es[i]'(by omega),cy (by omega)⟩
   have hes:∀j o',ops[j]?=some o'->∃e',es[j]?=some e':=λj o' h'=>by
    have:j<ops.size:=(Array.getElem?_eq_some_iff.1 h').1;exact⟨es[j]'(by omega),cy (by omega)⟩
   have hos:∀(j:Nat) e',es[j]?=some e'->∃o',ops[j]?=some o':=λj e' h'=>by
    have:j<es.length:=(List.getElem?_eq_some_iff.1 h').1;exact⟨ops[j]'(by omega),Z9 (by omega)⟩
   have hancR:∀j,wu ops j i->listed.getD j false=true:=by
    intro j ha
    cases ha with
    |one ho' he' hb hj=>
     rw[ho]at ho';simp only[ai]at ho';subst ho';subst hj;exact hpre _ he' hb
    |more ho' he' hb hj=>
     rw[ho]at ho';simp only[ai]at ho';subst ho';exact hanc _ _ hj (hpre _ he' hb)
   have key:=hE i o e ho he (bu ops es s0 (λj=>listed.getD j false) ops.size) (λt ht=>?_) ?_ F β a w
    (wpAnyIn (qb r) 0 c.P .any ops Q fuel (listed.setIfInBounds i true)) Q h (λF' β' a' w' h'=>?_)
   ·unfold wpOpIn;rw[ho];simp only;split at key
    ·rename_i hw;rw[if_pos hw];exact key
    ·rename_i hw;rw[if_neg hw];exact⟨λ_ _=>trivial,key⟩
   ·rw[Cy (i:=i) (λj o' ho' hd=>?_) ops.size,Nat.min_eq_right (by omega)];obtain⟨e',he'⟩:=hes j o' ho';constructor
    ·intro hji;rcases hind j i o' o e' e hji ho' ho he' he with ha|ha
     ·exact hancR j ha
     ·exact absurd ht ((abG ha.1).1 t hd)
    ·intro hj;rcases Nat.lt_trichotomy j i with hlt|heq|hgt
     ·exact hlt
     ·subst heq;rw[hLi]at hj;cases hj
     ·rcases hind i j o o' e e' hgt ho ho' he he' with ha|ha
      ·have:=hanc _ _ ha hj;rw[hLi]at this;cases this
      ·exact absurd ht ((abG ha.1).2.2 t hd)
   ·have hk:∀k,(k∈e.rds\/k∈e.us.map (·.1))->(bu ops es s0 (λj=>listed.getD j false) ops.size).lv k=(bu ops es s0 (λ_=>true) i).lv k:=by
     intro k hk;rw[Iv (i:=i) (λj e' he' hd=>?_) ops.size,Nat.min_eq_right (by omega)];obtain⟨o',ho'⟩:=hos j e' he';constructor
     ·intro hji;rcases hind j i o' o e' e hji ho' ho he' he with ha|ha
      ·exact hancR j ha
      ·rcases hk with hk|hk
       ·exact absurd hk (ha.2.1 k hd).2
       ·exact absurd hk (ha.2.1 k hd).1
     ·intro hj;rcases Nat.lt_trichotomy j i with hlt|heq|hgt
      ·exact hlt
      ·subst heq;rw[hLi]at hj;cases hj
      ·rcases hind i j o o' e e' hgt ho ho' he he' with ha|ha
       ·have:=hanc _ _ ha hj;rw[hLi]at this;cases this
       ·rcases hk with hk|hk
        ·exact absurd hk (ha.2.2 k hd)
        ·exact absurd hd (ha.2.1 k hk).1
    exact⟨λk h'=>hk k (.inl h'),λp h'=>hk p.1 (.inr (ace h'))⟩
   ·have hset:∀j,(listed.setIfInBounds i true).getD j false=(listed.getD j false ||j==i):=by
     intro j;simp only[ZZ,abA]
     by_cases hj:i=j
     ·subst hj;simp[h4]
     ·have hne:(j==i)=false:=by simp;exact λe=>hj e.symm
      simp[hj,hne]
    refine ih (listed.setIfInBounds i true) (by simp[hsz]) (λj o' ho' hj ed hed hb=>?_) ?_ F' β' a' w' ?_
    ·rw[hset]at hj⊢;simp only[ZK,beq_iff_eq]at hj⊢;rcases hj with hj|hj
     ·exact .inl (hcl j o' ho' hj ed hed hb)
     ·subst hj;rw[ho]at ho';simp only[ai]at ho';subst ho';exact .inl (hpre ed hed hb)
    ·rw[pO (q:=λj=>listed.getD j false ||j==i) (λj _=>hset j),Cc (p:=λj=>listed.getD j false) hLi hi1];omega
    ·rw[fD (L':=λj=>listed.getD j false ||j==i) (λj _=>hset j)]
     have hst:e.app o.dst (bu ops es s0 (λj=>listed.getD j false) ops.size)=bu ops es s0 (λj=>listed.getD j false ||j==i) ops.size:=by
      have e1:(e.app o.dst (bu ops es s0 (λj=>listed.getD j false) ops.size)).fr=(bu ops es s0 (λj=>listed.getD j false ||j==i) ops.size).fr:=by
       funext t;refine vQ ho he hi1 hLi (λj o' hij ho' hj hd=>?_);obtain⟨e',he'⟩:=hes j o' ho';rcases hind i j o o' e e' hij ho ho' he he' with ha|ha
       ·have:=hanc _ _ ha hj;rw[hLi]at this;cases this
       ·exact(abG ha.1).2.1 t hd
      have e2:(e.app o.dst (bu ops es s0 (λj=>listed.getD j false) ops.size)).lv=(bu ops es s0 (λj=>listed.getD j false ||j==i) ops.size).lv:=by
       funext k;refine we ho he hi1 hLi (λj e' hij he' hj hd=>?_);obtain⟨o',ho'⟩:=hos j e' he';rcases hind i j o o' e e' hij ho ho' he he' with ha|ha
       ·have:=hanc _ _ ha hj;rw[hLi]at this;cases this
       ·exact(ha.2.1 k hd).1
      cases h1:e.app o.dst (bu ops es s0 (λj=>listed.getD j false) ops.size)
      cases h2:bu ops es s0 (λj=>listed.getD j false ||j==i) ops.size
      rw[h1,h2]at e1 e2;simp only at e1 e2;rw[e1,e2]
     rw[<-hst];exact h'
end
def Cl(acc:List Nat)(o:Oper):Nat:=o.after.toList.foldl (λm e=>if Region.binds .any e then m |||(2^e.on |||acc.getD e.on 0)else m) 0
def iA:List Oper->List Nat->List Nat
 |[],acc=>acc
 |o::r,acc=>iA r (acc++[Cl acc o])
def yJ{acc:List Nat}{i:Nat}:∀(l:List Edge) (m:Nat),(l.foldl (λm e=>if Region.binds .any e then m |||(2^e.on |||acc.getD e.on 0)else m) m).testBit i=true ->
 m.testBit i=true\/∃e∈l,Region.binds .any e=true/\(e.on=i\/(acc.getD e.on 0).testBit i=true)
 |[],m,h=>.inl h
 |e::l,m,h=>by
  rcases yJ l _ h with h1|⟨e',h1,h2⟩
  ·dsimp only at h1
   split at h1
   ·rename_i hb
    simp only[Nat.testBit_or,ZK,Nat.testBit_two_pow,decide_eq_true_eq]at h1;rcases h1 with h1|h1|h1
    ·exact .inl h1
    ·exact .inr ⟨e,by simp,hb,.inl h1⟩
    ·exact .inr ⟨e,by simp,hb,.inr h1⟩
   ·exact .inl h1
  ·exact .inr ⟨e',by simp[h1],h2⟩
def k8{ops:Array Oper}:∀(os:List Oper) (acc:List Nat),ops.toList=ops.toList.take acc.length++os ->
 (∀i j,(acc.getD j 0).testBit i=true->wu ops i j)->∀i j,((iA os acc).getD j 0).testBit i=true->wu ops i j
 |[],acc,_,h=>h
 |o::os,acc,hl,h=>by
  have hlen:acc.length<ops.toList.length:=by
   have h1:=congrArg List.length hl;simp only[Zg,Ze,ZA]at h1;omega
  have ho:ops[acc.length]?=some o:=by
   have h1:ops.toList[acc.length]?=(ops.toList.take acc.length++o::os)[acc.length]?:=by rw[<-hl]
   rw[abh (by simp;omega)]at h1;simp only[Ze]at h1;rw[show acc.length-min acc.length ops.toList.length=0 by omega]at h1;simpa using h1
  refine k8 os _ ?_ (λi j hb=>?_)
  ·have h2:(acc++[Cl acc o]).length=acc.length+1:=by simp
   rw[h2,abr];have h3:ops.toList[acc.length]?=some o:=by simpa using ho
   rw[h3];simp only[Option.toList_some,Zo,List.singleton_append];exact hl
  ·by_cases hj:j<acc.length
   ·rw[Y8,acg hj]at hb;exact h i j (by rw[Y8];exact hb)
   ·by_cases hj2:j=acc.length
    ·subst hj2;rw[Y8,abh (aY _)]at hb;simp only[aa2,abH,abq]at hb;unfold Cl at hb;rcases yJ _ _ hb with h1|⟨e,h1,h2,h3⟩
     ·simp at h1
     ·have he:e∈o.after:=by simpa using h1
      rcases h3 with h3|h3
      ·exact .one ho he h2 h3
      ·exact .more ho he h2 (h _ _ h3)
    ·rw[Y8,aa3 (by simp;omega)]at hb;simp at hb
def HU:Nat->List Oper->Bool
 |_,[]=>true
 |i,o::r=>o.after.toList.all (λe=>!Region.binds .any e ||decide (e.on<i))&&HU (i+1) r
def oP{ops:Array Oper}:∀(os:List Oper) (n:Nat),ops.toList.drop n=os->HU n os=true ->
 ∀(i:Nat) o,n<=i->ops[i]?=some o->∀ed∈o.after,Region.binds .any ed=true->ed.on<i
 |[],n,hl,_=>by
  intro i o hi ho;have h1:ops.toList.length<=n:=List.drop_eq_nil_iff.1 hl;have h2:=(Array.getElem?_eq_some_iff.1 ho).1;simp at h1;omega
 |o::os,n,hl,hb=>by
  simp only[HU,cn]at hb;intro i o' hi ho ed hed hbd
  by_cases e:i=n
  ·subst e;have h1:(ops.toList.drop i)[0]?=some o:=by rw[hl];rfl
   rw[aaL]at h1;simp only[ZO,abR]at h1;rw[ho]at h1;simp only[ai]at h1;subst h1;have h2:=hb.1;rw[Zb]at h2;have h3:=h2 ed (by simpa using hed);rw[hbd]at h3;simpa using h3
  ·refine oP os (n+1) ?_ hb.2 i o' (by omega) ho ed hed hbd;rw[<-aa4,hl];rfl
def gz(ops:Array Oper):Bool:=
 let ms:=iA ops.toList []
 HU 0 ops.toList&&(List.range ops.size).all λj=>(List.range j).all λi=>
  (ms.getD j 0).testBit i ||(match ops[i]?,ops[j]? with|some o,some o'=>o.apart ops o'|_,_=>true)
def vp(e e':Fx):Bool:=
 e.us.all (λp=>!(e'.us.any λq=>q.1==p.1)&&!e'.rds.contains p.1)&&e'.us.all (λp=>!e.rds.contains p.1)
def idle(e:Fx):Bool:=e.us.isEmpty&&e.rds.isEmpty
def C8(ops:Array Oper)(es:List Fx):Bool:=
 let ms:=iA ops.toList []
 (List.range es.length).all λj=>match es[j]? with
  |some e'=>idle e' ||(List.range j).all λi=>match es[i]? with
   |some e=>idle e ||(ms.getD j 0).testBit i ||vp e e'
   |none=>true
  |none=>true
def Cs(h:vp e e'=true):(∀k∈e.us.map (·.1),k∉e'.us.map (·.1)/\k∉e'.rds)/\∀k∈e'.us.map (·.1),k∉e.rds:=by
 simp only[vp,cn,Zb,Zy,ach,beq_iff_eq,List.contains_eq_mem,decide_eq_false_iff_not]at h;refine⟨λk hk=>?_,λk hk=>?_⟩
 ·obtain⟨p,hp,rfl⟩:=List.mem_map.1 hk;obtain⟨h1,h2⟩:=h.1 p hp;refine⟨λhk'=>?_,h2⟩;obtain⟨q,hq,e⟩:=List.mem_map.1 hk';exact h1 q hq e
 ·obtain⟨p,hp,rfl⟩:=List.mem_map.1 hk;exact h.2 p hp
def yc(h:idle e=true\/idle e'=true):(∀k∈e.us.map (·.1),k∉e'.us.map (·.1)/\k∉e'.rds)/\∀k∈e'.us.map (·.1),k∉e.rds:=by
 simp only[idle,cn,List.isEmpty_iff]at h;rcases h with⟨h1,h2⟩|⟨h1,h2⟩<;>simp[h1,h2]
def Ap(hlen:es.length=ops.size)(hs:gz ops=true)(hd:C8 ops es=true):
 (∀(i:Nat) o,ops[i]?=some o->∀ed∈o.after,Region.binds .any ed=true->ed.on<i) /\
 (∀(i j:Nat) o o' e e',i<j->ops[i]?=some o->ops[j]?=some o'->es[i]?=some e->es[j]?=some e'->wu ops i j\/QB ops o o' e e'):=by
 simp only[gz,cn,Zb,abW]at hs;refine⟨λi o=>oP ops.toList 0 rfl hs.1 i o (Zi _),λi j o o' e e' hij ho ho' he he'=>?_⟩;have hj:j<ops.size:=(Array.getElem?_eq_some_iff.1 ho').1;have hm:=k8 (ops:=ops) ops.toList [] (by simp) (λi j h=>by simp at h) i j;have h1:=hs.2 j hj i hij;rw[ho,ho']at h1;simp only[ZK]at h1;simp only[C8,Zb,abW]at hd;have h2:=hd j (by omega);rw[he']at h2;simp only[ZK,Zb,abW]at h2;rcases h1 with h1|h1
 ·exact .inl (hm h1)
 ·rcases h2 with h2|h2
  ·exact .inr ⟨h1,yc (.inr h2)⟩
  ·have h3:=h2 i hij;rw[he]at h3;simp only[ZK]at h3;rcases h3 with(h3|h3)|h3
   ·exact .inr ⟨h1,yc (.inl h3)⟩
   ·exact .inl (hm h3)
   ·exact .inr ⟨h1,Cs h3⟩
def fY(c:Ctx)(r:Option Nat)(ops:Array Oper):List Oper->List Fx->aE->aE->Prop
 |[],[],s,s'=>s'=s
 |o::os,e::es,s,s'=>cX c r ops o s e/\fY c r ops os es (e.app o.dst s) s'
 |_,_,_,_=>False
section
variable {c:Ctx}{r:Option Nat}{ops:Array Oper}
def fY.len:∀{os:List Oper}{es:List Fx}{s s':aE},fY c r ops os es s s'->es.length=os.length
 |[],[],_,_,_=>rfl
 |_::_,_::_,_,_,h=>by simp[fY.len h.2]
 |[],_::_,_,_,h=>h.elim
 |_::_,[],_,_,h=>h.elim
def fY.at{es:List Fx}{s0:aE}:∀{os:List Oper}{rs:List Fx}{s':aE}(n:Nat),ops.toList.drop n=os->es.drop n=rs->fY c r ops os rs (bu ops es s0 (λ_=>true) n) s' ->
 s'=bu ops es s0 (λ_=>true) (n+os.length)/\∀(i:Nat) o e,n<=i->ops[i]?=some o->es[i]?=some e->cX c r ops o (bu ops es s0 (λ_=>true) i) e
 |[],[],s',n,h1,h2,h=>by
  refine⟨h,λi o e hi ho he=>?_⟩;have h3:es.length<=n:=List.drop_eq_nil_iff.1 h2;have:=(List.getElem?_eq_some_iff.1 he).1;omega
 |o::os,e::rs,s',n,h1,h2,h=>by
  have ho:ops[n]?=some o:=by
   have:(ops.toList.drop n)[0]?=some o:=by rw[h1];rfl
   rw[aaL]at this;simpa using this
  have he:es[n]?=some e:=by
   have:(es.drop n)[0]?=some e:=by rw[h2];rfl
   rw[aaL]at this;simpa using this
  have hst:bu ops es s0 (λ_=>true) (n+1)=e.app o.dst (bu ops es s0 (λ_=>true) n):=by
   simp only[bu,ho,he,if_true]
  obtain⟨h3,h4⟩:=fY.at (es:=es) (s0:=s0) (os:=os) (rs:=rs) (s':=s') (n+1) (by rw[<-aa4,h1];rfl) (by rw[<-aa4,h2];rfl) (by rw[hst];exact h.2);refine⟨by rw[h3];congr 1;simp;omega,λi o' e' hi ho' he'=>?_⟩
  by_cases e1:i=n
  ·subst e1;rw[ho]at ho';rw[he]at he';simp only[ai]at ho' he';subst ho';subst he';exact h.1
  ·exact h4 i o' e' (by omega) ho' he'
 |[],_::_,_,_,_,_,h=>h.elim
 |_::_,[],_,_,_,_,h=>h.elim
def fY.opers:∀{os:List Oper}{es:List Fx}{s s':aE}(n:Nat),ops.toList.drop n=os->fY c r ops os es s s' ->
 (∀F' β' a' w',aF c F' β' s' a' w'->Q .normal a' w')->∀F β a w,aF c F β s a w->wpOpsIn (qb r) 0 c.P ops Q (List.range' n os.length) a w
 |[],[],s,s',n,_,h,hQ=>λF β a w hs=>by
  have h:s'=s:=h;subst h;exact hQ F β a w hs
 |o::os,e::es,s,s',n,h1,h,hQ=>λF β a w hs=>by
  have ho:ops[n]?=some o:=by
   have:(ops.toList.drop n)[0]?=some o:=by rw[h1];rfl
   rw[aaL]at this;simpa using this
  have ih:=fY.opers (os:=os) (es:=es) (n+1) (by rw[<-aa4,h1];rfl) h.2 hQ;have key:=h.1 s (λ_ _=>rfl) ⟨λ_ _=>rfl,λ_ _=>rfl⟩ F β a w (wpOpsIn (qb r) 0 c.P ops Q (List.range' (n+1) os.length)) Q hs (λF' β' a' w' h'=>ih F' β' a' w' h');simp only[ZA,abX];rw[wpOpsIn_cons];unfold wpOpIn;rw[ho];simp only;split at key
  ·rename_i hw;rw[if_pos hw];exact key
  ·rename_i hw;rw[if_neg hw];exact⟨λ_ _=>trivial,key⟩
 |[],_::_,_,_,_,_,h,_=>h.elim
 |_::_,[],_,_,_,_,h,_=>h.elim
def fY.region(h:fY c r ops ops.toList es s s')
 (hQ:∀F' β' a' w',aF c F' β' s' a' w'->Q .normal a' w')(hs:aF c F β s a w):(Code.region id ops false).wpIn (qb r) 0 c.P Q a w:=by
 refine wpIn_region ?_;have:=fY.opers 0 rfl h hQ F β a w hs;rw[List.range_eq_range'];simpa using this
def fY.draw(hm:c.P.follows .mixedOrders=true)(h:fY c r ops ops.toList es s s')(h1:gz ops=true)(h2:C8 ops es=true)
 (hQ:∀F' β' a' w',aF c F' β' s' a' w'->Q .normal a' w')(hs:aF c F β s a w):(Code.region id ops true).wpIn (qb r) 0 c.P Q a w:=by
 have hlen:es.length=ops.size:=by rw[h.len];simp
 obtain⟨h3,h4⟩:=fY.at (es:=es) (s0:=s) 0 rfl rfl h;obtain⟨h5,h6⟩:=Ap hlen h1 h2;refine wpIn_region_any hm ?_;refine vw (s0:=s) hlen (λi o e ho he=>h4 i o e (Zi _) ho he) h5 h6 (λF' β' a' w' h'=>hQ F' β' a' w' ?_) ops.size _ (by simp) (λj o ho hj=>?_) (by omega) F β a _ ?_
 ·rw[h3];simpa using h'
 ·have hf:(Array.replicate ops.size false).getD j false=false:=by
   simp only[ZZ,abt];split<;>rfl
  rw[hf]at hj;cases hj
 ·have hf:∀j,(Array.replicate ops.size false).getD j false=false:=λj=>by
   simp only[ZZ,abt];split<;>rfl
  have:bu ops es s (λj=>(Array.replicate ops.size false).getD j false) ops.size=s:=by
   rw[fD (L':=λ_=>false) (λj _=>hf j)]
   have:∀m,bu ops es s (λ_=>false) m=s:=by
    intro m
    induction m with
    |zero=>rfl
    |succ m ih=>simp only[bu,ih,Zj,if_false];split<;>rfl
   exact this _
  rw[this];exact hs.heap rfl
end
section
variable {c:Ctx}{r:Option Nat}{ops:Array Oper}{o:Oper}{s0:aE}
def cX.call(hd:∀d,o.dst=some d->d<c.n)(hw:eB ops o.guard s0.fr=some true)
 (ho:o.op=.call cl) (hcal:cl.callee=.value fo) (ht:cx (s0.val c.G fo)=some (f,fs,cs)) (hf:aJ c.P f=true)
 (he:bV c f (fs++cl.args.toList.map (s0.val c.G)++cs) s0.lv x us rds):cX c r ops o s0 ⟨x,us,rds⟩:=by
 refine cX.o4 hw (λcl' h=>by rw[ho]at h;cases h) (λs h1 h2=>?_);have hfo:s.val c.G fo=s0.val c.G fo:=h1 fo (by rw[ho];simp[Op.operands,Call.operands,hcal])
 have hargs:cl.args.toList.map (s.val c.G)=cl.args.toList.map (s0.val c.G):=ZP λy hy=>h1 y (by
  rw[ho];simp only[Op.operands,Call.operands,hcal];simp at hy⊢;exact .inr hy)
 refine bV.R8 (rds:=rds) hd ho hcal rfl (by rw[hfo];exact ht) hf ?_;rw[hargs];exact he.local h2
end
def dR(c:Ctx)(o:Oper)(s:aE)(κ:Nat)(K:AV->List (Key×LB)->List Key->Nat->Prop):Prop:=
 match o.op with
 |.call cl=>match cl.callee with
  |.value fo=>match cx (s.val c.G fo)with
   |some (f,fs,cs)=>aJ c.P f=true/\∃x us rds κ',bV c f (fs++cl.args.toList.map (s.val c.G)++cs) s.lv x us rds/\K x us rds κ'
   |none=>False
  |_=>match bK c.P o.op (o.op.operands.toList.map (s.val c.G)) s.lv κ with
   |some (x,us,rds,vc)=>vc/\K x us rds (match us with|[]=>κ|_=>κ+1)
   |none=>False
 |op=>match bK c.P op (op.operands.toList.map (s.val c.G)) s.lv κ with
  |some (x,us,rds,vc)=>vc/\K x us rds (match us with|[]=>κ|_=>κ+1)
  |none=>False
def gh(c:Ctx)(ops:Array Oper):List Oper->aE->Nat->List Fx->(aE->Nat->List Fx->Prop)->Prop
 |[],s,κ,acc,K=>K s κ acc
 |o::os,s,κ,acc,K=>match eB ops o.guard s.fr with
  |some true=>dR c o s κ λx us rds κ'=>gh c ops os (aE.put ⟨s.fr,aQ s.lv us⟩ o.dst x) κ' (⟨x,us,rds⟩::acc) K
  |some false=>gh c ops os (s.put o.dst .undef) κ (⟨.undef,[],[]⟩::acc) K
  |none=>False
def cK(n:Nat)(os:List Oper):Bool:=os.all λo=>match o.dst with|some d=>decide (d<n)|none=>true
section
variable {c:Ctx}{r:Option Nat}{ops:Array Oper}
def dR.Fj{K:AV->List (Key×LB)->List Key->Nat->Prop}(hd:∀d,o.dst=some d->d<c.n)(hw:eB ops o.guard s.fr=some true)(h:dR c o s κ K):
 ∃x us rds κ',cX c r ops o s ⟨x,us,rds⟩/\K x us rds κ':=by
 have plain:(match bK c.P o.op (o.op.operands.toList.map (s.val c.G)) s.lv κ with
  |some (x,us,rds,vc)=>vc/\K x us rds (match us with|[]=>κ|_=>κ+1)
  |none=>False)->∃x us rds κ',cX c r ops o s ⟨x,us,rds⟩/\K x us rds κ':=by
  intro h;split at h
  ·rename_i x us rds vc hs
   exact⟨x,us,rds,_,cX.plain hd hw hs h.1,h.2⟩
  ·exact h.elim
 unfold dR at h;split at h
 ·rename_i cl ho
  split at h
  ·rename_i fo hcal
   split at h
   ·rename_i f fs cs ht
    obtain⟨hf,x,us,rds,κ',he,hK⟩:=h;exact⟨x,us,rds,κ',cX.call hd hw ho hcal ht hf he,hK⟩
   ·exact h.elim
  ·rw[ho]at h plain;exact plain h
 ·exact plain h
def gh.chain{K:aE->Nat->List Fx->Prop}:∀{os:List Oper}{s:aE}{κ:Nat}{acc:List Fx},cK c.n os=true->gh c ops os s κ acc K ->
 ∃es s' κ',fY c r ops os es s s'/\K s' κ' (es.reverse++acc)
 |[],s,κ,_,_,h=>⟨[],s,κ,rfl,h⟩
 |o::os,s,κ,acc,hd,h=>by
  simp only[cK,abi,cn]at hd;have hdo:∀d,o.dst=some d->d<c.n:=λd e=>by have:=hd.1;rw[e]at this;simpa using this
  simp only[gh]at h;split at h
  ·rename_i hw
   obtain⟨x,us,rds,κ',he,hK⟩:=dR.Fj (r:=r) hdo hw h;obtain⟨es,s',κ'',h1,h2⟩:=gh.chain hd.2 hK;exact⟨⟨x,us,rds⟩::es,s',κ'',⟨he,h1⟩,by simpa using h2⟩
  ·rename_i hw
   obtain⟨es,s',κ'',h1,h2⟩:=gh.chain hd.2 h;exact⟨⟨.undef,[],[]⟩::es,s',κ'',⟨cX.skip hdo hw,h1⟩,by simpa using h2⟩
  ·exact h.elim
end
inductive Ex where
 |normal
 |exit (id:Nat)
 |goto (l:Nat)
 |ret
 |panic (d:DV)
def Dr(x:Ex)(e:Exit)(F:Nat->Prop)(w:World):Prop:=
 match x with
 |.normal=>e=.normal
 |.exit id=>e=.exit id
 |.goto l=>e=.goto l
 |.ret=>e=.ret
 |.panic d=>∃v,e=.panic [{ v:=v,recovered:=false }]/\Rd (me w F) v d
def Post(c:Ctx)(Q:Ex->aE->Nat->Prop):Exit->Act->World->Prop:=λe a w=>∃x s κ F β,Q x s κ/\aF c F β s a w/\Dr x e F w
def AW(c:Ctx)(r:Option Nat)(code:Code)(s:aE)(κ:Nat)(Q:Ex->aE->Nat->Prop):Prop:=
 ∀F β a w,aF c F β s a w->code.wpIn (qb r) 0 c.P (Post c Q) a w
def qp(K:aE->Nat->Prop)(Q:Ex->aE->Nat->Prop):Ex->aE->Nat->Prop
 |.normal,s,κ=>K s κ
 |e,s,κ=>Q e s κ
def vh(id:Nat)(Q:Ex->aE->Nat->Prop):Ex->aE->Nat->Prop
 |.exit id',s,κ=>if id'=id then Q .normal s κ else Q (.exit id') s κ
 |e,s,κ=>Q e s κ
section
variable {c:Ctx}{r:Option Nat}{s:aE}{κ:Nat}{Q:Ex->aE->Nat->Prop}
def AW.region(hd:cK c.n ops.toList=true)(h:gh c ops ops.toList s κ [] λs' κ' _=>Q .normal s' κ'):AW c r (.region id ops false) s κ Q:=by
 intro F β a w hs;obtain⟨es,s',κ',h1,h2⟩:=gh.chain (r:=r) hd h;exact h1.region (λF' β' a' w' h'=>⟨.normal,s',κ',F',β',h2,h',rfl⟩) hs
def AW.draw(hm:c.P.follows .mixedOrders=true)(hst:gz ops=true)(hd:cK c.n ops.toList=true)
 (h:gh c ops ops.toList s κ [] λs' κ' acc=>C8 ops acc.reverse=true/\Q .normal s' κ'):AW c r (.region id ops true) s κ Q:=by
 intro F β a w hs;obtain⟨es,s',κ',h1,h2,h3⟩:=gh.chain (r:=r) hd h;exact h1.draw hm hst (by simpa using h2) (λF' β' a' w' h'=>⟨.normal,s',κ',F',β',h3,h',rfl⟩) hs
def aad(h:Q .normal s κ):AW c r .skip s κ Q:=λF β _ _ hs=>wpIn_skip ⟨.normal,s,κ,F,β,h,hs,rfl⟩
def AW.label{l:Nat}(h:Q .normal s κ):AW c r (.label l) s κ Q:=λF β _ _ hs=>wpIn_label ⟨.normal,s,κ,F,β,h,hs,rfl⟩
def aan(h:Q (.exit id) s κ):AW c r (.exit id) s κ Q:=λF β _ _ hs=>wpIn_exit ⟨.exit id,s,κ,F,β,h,hs,rfl⟩
def AW.goto{l:Nat}(h:Q (.goto l) s κ):AW c r (.goto l) s κ Q:=λF β _ _ hs=>wpIn_goto ⟨.goto l,s,κ,F,β,h,hs,rfl⟩
def aal(h:Q .ret s κ):AW c r .ret s κ Q:=λF β _ _ hs=>wpIn_ret ⟨.ret,s,κ,F,β,h,hs,rfl⟩
def AW.seq{x y:Code}{K:aE->Nat->Prop}(h:AW c r x s κ (qp K Q))(hK:∀s κ,K s κ->AW c r y s κ Q):AW c r (.seq x y) s κ Q:=by
 intro F β a w hs;refine wpIn_seq (wpIn_mono (h F β a w hs) λe a' w' hp=>?_);obtain⟨e',s',κ',F',β',hq,hs',he⟩:=hp
 cases e' with
 |normal=>cases he;exact hK s' κ' hq F' β' a' w' hs'
 |exit id=>cases he;exact⟨.exit id,s',κ',F',β',hq,hs',rfl⟩
 |goto l=>cases he;exact⟨.goto l,s',κ',F',β',hq,hs',rfl⟩
 |ret=>cases he;exact⟨.ret,s',κ',F',β',hq,hs',rfl⟩
 |panic d=>obtain⟨v,rfl,hv⟩:=he;exact⟨.panic d,s',κ',F',β',hq,hs',v,rfl,hv⟩
def AW.mono{x:Code}{Q':Ex->aE->Nat->Prop}(h:AW c r x s κ Q)(hq:∀e s κ,Q e s κ->Q' e s κ):AW c r x s κ Q':=λF β a w hs=>
 wpIn_mono (h F β a w hs) λ_ _ _ ⟨e',s',κ',F',β',h1,h2,h3⟩=>⟨e',s',κ',F',β',hq _ _ _ h1,h2,h3⟩
def aaB{o:Operand}{x y:Code}(hb:s.val c.G o=.c (.d (.bool b)))(h:AW c r (if b then x else y) s κ Q):AW c r (.cond o x y) s κ Q:=by
 intro F β a w hs;have h1:=hs.val o;rw[hb]at h1;exact wpIn_cond (Vw.rm h1) (h F β a w hs)
def aaf{x:Code}(h:AW c r x s κ (vh id Q)):AW c r (.block id x) s κ Q:=by
 intro F β a w hs;refine wpIn_block (wpIn_mono (h F β a w hs) λe a' w' hp=>?_);obtain⟨e',s',κ',F',β',hq,hs',he⟩:=hp
 cases e' with
 |normal=>cases he;exact⟨.normal,s',κ',F',β',hq,hs',rfl⟩
 |exit id'=>
  cases he
  simp only[vh]at hq;simp only[Exit.inBlock];split
  ·rename_i hid;rw[if_pos hid]at hq;exact⟨.normal,s',κ',F',β',hq,hs',rfl⟩
  ·rename_i hid;rw[if_neg hid]at hq;exact⟨.exit id',s',κ',F',β',hq,hs',rfl⟩
 |goto l=>cases he;exact⟨.goto l,s',κ',F',β',hq,hs',rfl⟩
 |ret=>cases he;exact⟨.ret,s',κ',F',β',hq,hs',rfl⟩
 |panic d=>obtain⟨v,rfl,hv⟩:=he;exact⟨.panic d,s',κ',F',β',hq,hs',v,rfl,hv⟩
def AW.coarse{x:Code}{s2:aE}{κ2:Nat}{g:Key->Key}(hc:ei c s s2 g)(h:AW c r x s2 κ2 Q):AW c r x s κ Q:=
 λF β a w hs=>h F _ a w (hs.coarse hc)
def AW.loop{x:Code}(I:aE->Nat->Prop)(μ:aE->Nat->Nat)(h0:I s κ)
 (hr:∀s κ,I s κ->AW c r x s κ (qp (λs' κ'=>∃s2 κ2 g,ei c s' s2 g/\I s2 κ2/\μ s2 κ2<μ s κ) Q)):AW c r (.loop x) s κ Q:=by
 have key:∀n s κ,I s κ->μ s κ<=n->∀F β a w,aF c F β s a w->Code.roundsIn (qb r) 0 c.P x (Post c Q) (n+1) a w:=by
  intro n
  induction n with
  |zero=>
   intro s κ hI hn F β a w hs;rw[roundsIn_succ];refine wpIn_mono (hr s κ hI F β a w hs) λe a' w' hp=>?_;obtain⟨e',s',κ',F',β',hq,hs',he⟩:=hp
   cases e' with
   |normal=>obtain⟨s2,κ2,g,h1,h2,h3⟩:=hq;omega
   |exit id=>cases he;exact⟨.exit id,s',κ',F',β',hq,hs',rfl⟩
   |goto l=>cases he;exact⟨.goto l,s',κ',F',β',hq,hs',rfl⟩
   |ret=>cases he;exact⟨.ret,s',κ',F',β',hq,hs',rfl⟩
   |panic d=>obtain⟨v,rfl,hv⟩:=he;exact⟨.panic d,s',κ',F',β',hq,hs',v,rfl,hv⟩
  |succ n ih=>
   intro s κ hI hn F β a w hs;rw[roundsIn_succ];refine wpIn_mono (hr s κ hI F β a w hs) λe a' w' hp=>?_;obtain⟨e',s',κ',F',β',hq,hs',he⟩:=hp
   cases e' with
   |normal=>
    cases he
    obtain⟨s2,κ2,g,h1,h2,h3⟩:=hq;exact ih s2 κ2 h2 (by omega) F' _ a' w' (hs'.coarse h1)
   |exit id=>cases he;exact⟨.exit id,s',κ',F',β',hq,hs',rfl⟩
   |goto l=>cases he;exact⟨.goto l,s',κ',F',β',hq,hs',rfl⟩
   |ret=>cases he;exact⟨.ret,s',κ',F',β',hq,hs',rfl⟩
   |panic d=>obtain⟨v,rfl,hv⟩:=he;exact⟨.panic d,s',κ',F',β',hq,hs',v,rfl,hv⟩
 intro F β a w hs;exact wpIn_loop_rounds _ (key (μ s κ) s κ h0 (aY _) F β a w hs)
end
def j8(P:Program)(s:aE):ResultVar->Option AV
 |.tmp t=>some (s.fr t)
 |.cell a T=>match s.fr a with
  |.c (.ptr k off)=>match s.lv k with|.cells _ _ _ cs=>eW P T (cs.drop off)|_=>none
  |_=>none
def iT(P:Program)(s:aE):List ResultVar->Option (List AV)
 |[]=>some []
 |x::l=>match j8 P s x,iT P s l with|some y,some r=>some (y::r)|_,_=>none
def AV.cH:AV->Bool
 |.tup _=>false
 |_=>true
def cO(P:Program)(s:aE)(l:List ResultVar):Option AV:=
 match iT P s l with
 |some [x]=>some x
 |some r=>if r.all AV.cH then some (.tup r)else none
 |none=>none
def Vw.RE(h:V.av v x)(hx:x.cH=true):V.n8 v x:=by
 cases x with
 |tup l=>cases hx
 |_=>exact h
def CG(tmps:Array Value):ResultVar->Sem Value
 |.tmp t=>pure (tmps.getD t undef)
 |.cell a t=>do loadVar t (<-asAddr (tmps.getD a undef))
def FY(fn:Func)(tmps:Array Value):results fn tmps=(do let vs <-fn.results.mapM (CG tmps);pure (if h:vs.size=1 then vs[0]else .tuple vs)):=by
 unfold results;refine congrArg (λg:ResultVar->Sem Value=>(do let vs <-fn.results.mapM g;pure (if h:vs.size=1 then vs[0]else .tuple vs):Sem Value)) (a₂:=CG tmps) ?_;funext x
 cases x<;>rfl
section
variable {c:Ctx}{F:Nat->Prop}{β:Key->Nat}{s:aE}{a:Act}{w:World}
def Nz(h:aF c F β s a w){x:ResultVar}(hr:j8 c.P s x=some y):
 ∃v,(CG a.tmps x).run c.P w=.ok v w/\(Vw.mk F β s.lv w).av v y:=by
 cases x with
 |tmp t=>
  simp only[j8,ai]at hr;subst hr;exact⟨a.tmps.getD t undef,rfl,h.fr t⟩
 |cell b T=>
  simp only[j8]at hr;split at hr
  ·rename_i k off he
   split at hr
   ·rename_i own fz T' cs hk
    have h1:=h.fr b;rw[he]at h1;obtain⟨h1,_⟩:=h1;simp only[Vw.dh,hk]at h1;have hb:=h.bQ k;unfold Vw.bQ at hb;simp only[hk]at hb;obtain⟨arr,h2,h3,h4,_⟩:=hb
    obtain⟨v,h5,h6⟩:=qW (P:=c.P) (T:=T) (Vw.mk F β s.lv w) (b:=β k) (o:=off) hr (λi=>arr.getD (off+i) undef)
     (λi hi=>by
      have hi':off+i<arr.size:=by simp at hi;omega
      rw[fP h2 hi'];simp[Array.getD,hi'])
     (λi hi=>by
      have hi':off+i<arr.size:=by simp at hi;omega
      simp only[Array.getD,hi',dite_true,aaO];exact h4 (off+i) (by simp at hi;omega) hi')
    refine⟨v,?_,h6⟩;simp only[Instr.loadAt,Instr.sureAddr,bG,ZF,gE]at h5;show(do loadVar T (<-asAddr (a.tmps.getD b undef)):Sem Value).run c.P w=.ok v w;rw[h1];simp only[asAddr,bG,ZF,gE];exact h5
   ·cases hr
  ·cases hr
def Ek(h:aF c F β s a w):∀{l:List ResultVar}{ys:List AV},iT c.P s l=some ys ->
 ∃vs:List Value,(l.mapM (CG a.tmps)).run c.P w=.ok vs w/\vs.length=ys.length /\
  ∀i (h:i<ys.length) (h':i<vs.length),(Vw.mk F β s.lv w).av vs[i] ys[i]
 |[],ys,hr=>by simp only[iT,ai]at hr;subst hr;exact⟨[],rfl,rfl,λi h=>absurd h (ZH i)⟩
 |x::l,ys,hr=>by
  simp only[iT]at hr;split at hr
  ·rename_i y r' h1 h2
   simp only[ai]at hr;subst hr;obtain⟨v,h3,h4⟩:=Nz h h1;obtain⟨vs,h5,h6,h7⟩:=Ek h h2;refine⟨v::vs,?_,by simp[h6],λi p q=>?_⟩
   ·rw[List.mapM_cons,bG,h3,gE,bG,h5];rfl
   ·cases i with
    |zero=>exact h4
    |succ i=>exact h7 i (by simpa using p) (by simpa using q)
  ·cases hr
def r9(h:aF c F β s a w)(hr:cO c.P s fn.results.toList=some y):∃v,(results fn a.tmps).run c.P w=.ok v w/\(Vw.mk F β s.lv w).av v y:=by
 unfold cO at hr
 have key:∀ys,iT c.P s fn.results.toList=some ys->∃vs:Array Value,(results fn a.tmps).run c.P w=.ok (if h:vs.size=1 then vs[0]else .tuple vs) w/\vs.size=ys.length /\
  ∀i (h:i<ys.length) (h':i<vs.size),(Vw.mk F β s.lv w).av vs[i] ys[i]:=by
  intro ys hys;obtain⟨vs,h1,h2,h3⟩:=Ek h hys;refine⟨vs.toArray,?_,by simpa using h2,λi p q=>by simpa using h3 i p (by simpa using q)⟩;rw[FY,bG,Array.mapM_eq_mapM_toList,map_eq_pure_bind,bG,h1];rfl
 split at hr
 ·rename_i x hx
  simp only[ai]at hr;subst hr;obtain⟨vs,h1,h2,h3⟩:=key _ hx;have h2':vs.size=1:=h2;rw[dif_pos h2']at h1;exact⟨_,h1,h3 0 (by simp) (by omega)⟩
 ·rename_i ys hne hys
  split at hr
  ·rename_i hall
   simp only[ai]at hr;subst hr;obtain⟨vs,h1,h2,h3⟩:=key _ hys
   have h2':vs.size≠1:=λe=>by
    rw[e]at h2
    match ys,h2,hne with
    |[x],_,hne=>exact hne x rfl
   rw[dif_neg h2']at h1;rw[Zb]at hall;exact⟨_,h1,vs,rfl,h2,λi p q=>Vw.RE (h3 i p q) (hall _ (bh p))⟩
  ·cases hr
 ·cases hr
end
def Fin(c:Ctx)(fn:Func)(x:AV)(σ' ν:List LB):Ex->aE->Nat->Prop
 |.normal,s,_|.ret,s,_=>∃s2 g,ei c s s2 g/\s2.lv=bq σ' ν/\cO c.P s2 fn.results.toList=some x
 |_,_,_=>False
def yu{vs:Array Value}{Q:Ex->aE->Nat->Prop}{K:Ending->World->Prop}
 (hf:P.funcs[f]?=some fn) (hb:fn.body=some code) (hl:args.length<=fn.ntmps) (hS:cJ (cQ P G w F β lv) F β lv w) (hvl:vs.size=args.length) (hv:∀i (h:i<args.length) (h':i<vs.size),(Vw.mk F β lv w).av vs[i] args[i])
 (h:AW { cQ P G w F β lv with n:=fn.ntmps } none code ⟨λt=>args.getD t .undef,lv⟩ κ Q) (hQ:∀e s κ,Q e s κ->e=.normal\/e=.ret)
 (fin:∀e s κ F' β' a w',Q e s κ->aF { cQ P G w F β lv with n:=fn.ntmps } F' β' s a w'->a.defers=[]/\∃v,(results fn a.tmps).run P w'=.ok v w'/\K (.returned v) w'):Calls P f vs w K:=by
 refine calls_of_wp hf hb ?_
 let c:Ctx:={ cQ P G w F β lv with n:=fn.ntmps }
 have hS':cJ c F β lv w:=hS
 let a:Act:={ tmps:=vs++Array.replicate (fn.ntmps-vs.size) undef,defers:=[] }
 have hst:aF c F β ⟨λt=>args.getD t .undef,lv⟩ a w:=by
  refine hS'.with ?_ rfl (λt=>?_)
  ·show(vs++Array.replicate (fn.ntmps-vs.size) undef).size=fn.ntmps;simp;omega
  ·show(Vw.mk F β lv w).av ((vs++Array.replicate (fn.ntmps-vs.size) undef).getD t undef) (args.getD t .undef)
   by_cases ht:t<args.length
   ·have h1:args.getD t .undef=args[t]:=cY ht
    have h2:(vs++Array.replicate (fn.ntmps-vs.size) undef).getD t undef=vs[t]'(by omega):=by
     rw[ZZ,acy (by omega),Z9 (by omega)];rfl
    rw[h1,h2];exact hv t ht (by omega)
   ·have h1:args.getD t .undef=.undef:=cS ht
    have h2:(vs++Array.replicate (fn.ntmps-vs.size) undef).getD t undef=undef:=by
     rw[ZZ,acz (by omega),abt];split<;>rfl
    rw[h1,h2];rfl
 have hw:=(wpIn_wide (n:=0)).1 (h F β a w hst);refine wp_mono hw λe a' w' hp=>?_;obtain⟨e',s',κ',F',β',hq,hs',he⟩:=hp;rcases hQ e' s' κ' hq with rfl|rfl
 ·cases he;exact fin _ _ _ _ _ _ _ hq hs'
 ·cases he;exact fin _ _ _ _ _ _ _ hq hs'
def aA.nZ(hf:P.funcs[f]?=some fn)(hb:fn.body=some code)(hl:args.length<=fn.ntmps)
 (h:∀c:Ctx,c.P=P->c.G=G->c.n=fn.ntmps->c.iV=bq σ []->AW c none code ⟨λt=>args.getD t .undef,bq σ []⟩ 1000 (Fin c fn x σ' ν)):aA P G f args σ (.ret x σ' ν):=by
 intro F β w vs hS hvl hv;refine yu hf hb hl hS hvl hv (h _ rfl rfl rfl rfl) (λe s κ hq=>by cases e<;>first|exact .inl rfl|exact .inr rfl|exact hq.elim) λe s' κ F' β' a' w' hq hs'=>?_;obtain⟨s2,g,h1,h2,h3⟩:∃s2 g,ei _ s' s2 g/\s2.lv=bq σ' ν/\cO P s2 fn.results.toList=some x:=by cases e<;>first|exact hq|exact hq.elim
 have hs2:=hs'.coarse h1;obtain⟨v,h4,h5⟩:=r9 hs2 h3;refine⟨hs'.defers,v,h4,v,F',λk=>β' (g k),rfl,?_,?_⟩
 ·have:=hs2.xe;rwa[h2]at this
 ·rwa[h2]at h5
def LB.okB:LB->Bool
 |.cells own fz _ _=>!own&&!fz
 |.map own _=>!own
 |_=>true
def cP(lv:Key->LB):Prop:=∀k,(lv k).okB=true
inductive Ny where
 |ret (x:AV) (lv:Key->LB)
 |tr (d:DV) (lv:Key->LB)
def TU(P:Program)(G:List (List DV))(lv:Key->LB)(F:Nat->Prop)(β:Key->Nat)(w:World)(o:Ny)(e:Ending)(w':World):Prop:=
 match o with
 |.ret x lv'=>∃v F' β',e=.returned v/\cJ (cQ P G w F β lv) F' β' lv' w'/\(Vw.mk F' β' lv' w').av v x
 |.tr d lv'=>∃v F' β',e=.panicked [{ v:=v,recovered:=false }]/\cJ (cQ P G w F β lv) F' β' lv' w'/\Rd (me w' F') v d
def b9(P:Program)(G:List (List DV))(f:FuncId)(args:List AV)(lv:Key->LB)(o:Ny):Prop:=
 ∀(F:Nat->Prop) (β:Key->Nat) (w:World) (vs:Array Value),cJ (cQ P G w F β lv) F β lv w->vs.size=args.length ->
  (∀i (h:i<args.length) (h':i<vs.size),(Vw.mk F β lv w).av vs[i] args[i])->Calls P f vs w (TU P G lv F β w o)
section
variable {c:Ctx}{F:Nat->Prop}{β:Key->Nat}{s:aE}{a:Act}{w:World}
def aF.vj(h:aF c F β s a w)(ho:cP s.lv):cJ (cQ c.P c.G w F β s.lv) F β s.lv w:=by
 refine⟨?_,h.inj,λ_=>trivial,rfl,rfl,λb hb=>⟨(h.mo b hb).1,.inl hb⟩,λ_ hb=>hb,λ_ _ _=>rfl,aY _,h.o9,λk _=>.inr ⟨rfl,LB.bE _⟩,λ_=>aY _,⟨rfl,rfl⟩⟩;intro k;have hb:=h.bQ k;have hp:=ho k;unfold Vw.bQ at hb ⊢
 cases e:s.lv k with
 |cells own fz T cs=>
  rw[e]at hp;simp only[LB.okB,cn,Zy]at hp;simp only[e]at hb⊢;obtain⟨arr,b1,b2,b3,b4,b5⟩:=hb;refine⟨arr,b1,b2,b3,b4,?_⟩;rw[hp.1];simp only[eN,Zj,if_false];exact .inr ⟨k,by rw[e,hp.2];rfl,rfl⟩
 |map own es=>
  rw[e]at hp;simp only[LB.okB,Zy]at hp;simp only[e]at hb⊢;obtain⟨ents,clock,b1,b2,b3,b4,b5⟩:=hb;refine⟨ents,clock,b1,b2,b3,b4,?_⟩;rw[hp];simp only[eN,Zj,if_false];exact .inr ⟨k,by rw[e];rfl,rfl⟩
 |hole=>simp only[e]
 |dead=>simp only[e]
 |nils=>simp only[e]
def Vw.Hu{c c':Ctx}(h:∀o,eN c o (V.β k)->eN c' o (V.β k))(hb:V.bQ c k):V.bQ c' k:=by
 unfold Vw.bQ at*
 cases e:V.lv k with
 |cells own fz T cs=>rw[e]at hb;obtain⟨arr,b1,b2,b3,b4,b5⟩:=hb;exact⟨arr,b1,b2,b3,b4,h _ b5⟩
 |map own es=>rw[e]at hb;obtain⟨x,y,b1,b2,b3,b4,b5⟩:=hb;exact⟨x,y,b1,b2,b3,b4,h _ b5⟩
 |hole=>trivial
 |dead=>trivial
 |nils=>trivial
def aF.AG(h:aF c F β s a w){F':Nat->Prop}{β':Key->Nat}{w':World}
 (hx:cJ (cQ c.P c.G w F β s.lv) F' β' lv' w'):aF c F' β' ⟨s.fr,lv'⟩ a w':=by
 have hF:∀b,F b->F' b:=hx.F0;have hold:∀b,b<w.heap.size->¬(∃k,(s.lv k).live=true/\β k=b)->w'.heap[b]?=w.heap[b]?:=hx.old;have hkeep:∀k,s.lv k≠.hole->lv' k=.dead\/(β' k=β k/\(s.lv k).sub (lv' k)):=hx.keep;have hge:=h.ge;refine h.step (hoo:=hx.CX) hF ?_ ?_ ?_ hx.GX ?_ hx.inj ?_ hx.ge ?_
 ·intro b hb;refine hold b (h.mo b hb).1 ?_;rintro⟨k,hk,rfl⟩;exact h.mU hk hb
 ·intro k
  by_cases h0:s.lv k=.hole
  ·rw[h0];simp[LB.sub]
  ·rcases hkeep k h0 with hd|⟨_,hs⟩
   ·rw[hd];cases s.lv k<;>simp[LB.sub]
   ·exact hs
 ·intro k h0 hd;rcases hkeep k h0 with hd'|⟨h1,_⟩
  ·exact absurd hd' hd
  ·exact h1
 ·intro k _;refine Vw.Hu ?_ (hx.bQ k);intro o ho;unfold eN at ho⊢;have ho':if o=true then w.heap.size<=β' k else w.heap.size<=β' k\/∃j,(s.lv j).live=true/\β j=β' k:=ho
  cases o with
  |true=>simp only[if_true]at ho'⊢;exact Zf hge ho'
  |false=>
   simp only[Zj,if_false]at ho'⊢;rcases ho' with h1|⟨j,hj,hj2⟩
   ·exact .inl (Zf hge h1)
   ·have:=h.eX hj;rwa[hj2]at this
 ·intro b hb;rcases(hx.mo b hb).2 with h1|h1
  ·exact .inl h1
  ·have h1':w.heap.size<=b:=h1;exact .inr ⟨(hx.mo b hb).1,Zf hge h1'⟩
 ·intro b hb hnW;refine hold b (ZE hb hge) ?_;rintro⟨k,hk,rfl⟩;rcases h.eX hk with h1|h1
  ·omega
  ·exact hnW h1
def Sa(c:Ctx)(o:Oper)(s:aE)(d:DV)(s':aE):Prop:=
 ∀(F:Nat->Prop) (β:Key->Nat) (a:Act) (w:World) (K:Act->World->Prop) (Q:Exit->Act->World->Prop),aF c F β s a w ->
  (∀F' β' v a' w',aF c F' β' s' a' w'->Rd (me w' F') v d->Q (.panic [{ v:=v,recovered:=false }]) a' w')->o.wp c.P a w K Q
def CZ(h:aF c F β s a w)(ho:o.op=.call cl)(hcal:cl.callee=.value fo)(hfo:s.val c.G fo=fv)
 (ht:cx fv=some (f,fs,cs)) (hf:aJ c.P f=true)
 (hK:∀vs:Array Value,vs.size=(fs++cl.args.toList.map (s.val c.G)++cs).length->(∀i (h:i<(fs++cl.args.toList.map (s.val c.G)++cs).length) (h':i<vs.size),(Vw.mk F β s.lv w).av vs[i] (fs++cl.args.toList.map (s.val c.G)++cs)[i]) ->
  Calls c.P f vs w λe w'=>(∃v,e=.returned v/\K (a.put o.dst v) w')\/∃ch,e=.panicked ch/\Q (.panic ch) a w'):o.wp c.P a w K Q:=by
 obtain⟨fs',cs',h1,h2,h3,h4,h5⟩:=lI (hfo▸h.val fo) ht;have hv:=pR (V:=Vw.mk F β s.lv w) (args':=cl.args.map a.eval) (as:=cl.args.toList.map (s.val c.G)) h2 (by simp) h3 h4 (λi p q=>by simp only[abQ,Za,ZR];exact h.val _) h5;have hc:=hK _ hv.1 hv.2
 have hr:(execOp a.eval o).run c.P w=.ok (.enter f (fs'++cl.args.map a.eval++cs')) w:=by
  simp only[execOp,ho,resolve,hcal,h1,Deferred.ofValue,bG,ZF,gE,invoke];rw[ji hf]
 unfold Oper.wp;rw[hr,Oper.upon_enter];refine hc.mono λe w' he=>?_;rcases he with⟨v,rfl,hk⟩|⟨ch,rfl,hk⟩<;>exact hk
theorem b9.R8(hd:∀d,o.dst=some d->d<c.n)(ho:o.op=.call cl)(hcal:cl.callee=.value fo)
 (hfo:s.val c.G fo=fv) (ht:cx fv=some (f,fs,cs)) (hf:aJ c.P f=true) (hok:cP s.lv) (hc:b9 c.P c.G f (fs++cl.args.toList.map (s.val c.G)++cs) s.lv (.ret x lv')) :
 cg c o s (aE.put ⟨s.fr,lv'⟩ o.dst x):=by
 intro F β a w K Q h hK;refine CZ h ho hcal hfo ht hf λvs hl hv=>?_;refine(hc F β w vs (h.vj hok) hl hv).mono λe w' he=>?_;obtain⟨v,F',β',rfl,hS,hav⟩:=he;exact .inl ⟨v,rfl,hK _ _ _ _ (aF.BJ (h.AG hS) hd hav)⟩
theorem b9.XT{d:DV}(ho:o.op=.call cl)(hcal:cl.callee=.value fo)
 (hfo:s.val c.G fo=fv) (ht:cx fv=some (f,fs,cs)) (hf:aJ c.P f=true) (hok:cP s.lv) (hc:b9 c.P c.G f (fs++cl.args.toList.map (s.val c.G)++cs) s.lv (.tr d lv')) :
 Sa c o s d ⟨s.fr,lv'⟩:=by
 intro F β a w K Q h hK;refine CZ h ho hcal hfo ht hf λvs hl hv=>?_;refine(hc F β w vs (h.vj hok) hl hv).mono λe w' he=>?_;obtain⟨v,F',β',rfl,hS,hav⟩:=he;exact .inr ⟨_,rfl,hK _ _ v _ _ (h.AG hS) hav⟩
end
def Xl(c:Ctx)(fn:Func):Ny->Ex->aE->Nat->Prop
 |.ret x lv',.normal,s,_|.ret x lv',.ret,s,_=>cO c.P s fn.results.toList=some x/\s.lv=lv'
 |.tr d lv',.panic d',s,_=>d'=d/\s.lv=lv'
 |_,_,_,_=>False
def b9.nZ{o:Ny}(hf:P.funcs[f]?=some fn)(hb:fn.body=some code)(hl:args.length<=fn.ntmps)
 (h:∀c:Ctx,c.P=P->c.G=G->c.n=fn.ntmps->c.iV=lv->AW c none code ⟨λt=>args.getD t .undef,lv⟩ κ (Xl c fn o)):b9 P G f args lv o:=by
 intro F β w vs hS hvl hv;refine calls_of_wp hf hb ?_
 let c:Ctx:={ cQ P G w F β lv with n:=fn.ntmps }
 have hS':cJ c F β lv w:=hS
 let a:Act:={ tmps:=vs++Array.replicate (fn.ntmps-vs.size) undef,defers:=[] }
 have hst:aF c F β ⟨λt=>args.getD t .undef,lv⟩ a w:=by
  refine hS'.with ?_ rfl (λt=>?_)
  ·show(vs++Array.replicate (fn.ntmps-vs.size) undef).size=fn.ntmps;simp;omega
  ·show(Vw.mk F β lv w).av ((vs++Array.replicate (fn.ntmps-vs.size) undef).getD t undef) (args.getD t .undef)
   by_cases ht:t<args.length
   ·have h1:args.getD t .undef=args[t]:=cY ht
    have h2:(vs++Array.replicate (fn.ntmps-vs.size) undef).getD t undef=vs[t]'(by omega):=by
     rw[ZZ,acy (by omega),Z9 (by omega)];rfl
    rw[h1,h2];exact hv t ht (by omega)
   ·have h1:args.getD t .undef=.undef:=cS ht
    have h2:(vs++Array.replicate (fn.ntmps-vs.size) undef).getD t undef=undef:=by
     rw[ZZ,acz (by omega),abt];split<;>rfl
    rw[h1,h2];rfl
 have hw:=(wpIn_wide (n:=0)).1 (h c rfl rfl rfl rfl F β a w hst);refine wp_mono hw λe a' w' hp=>?_;obtain⟨e',s',κ',F',β',hq,hs',he⟩:=hp
 cases o with
 |ret x lv'=>
  have fin:cO c.P s' fn.results.toList=some x/\s'.lv=lv'->a'.defers=[]/\∃v,(results fn a'.tmps).run P w'=.ok v w'/\TU P G lv F β w (.ret x lv') (.returned v) w':=by
   rintro⟨h0,h1⟩;obtain⟨v,h4,h5⟩:=r9 hs' h0;subst h1;exact⟨hs'.defers,v,h4,v,F',β',rfl,hs'.xe,h5⟩
  cases e' with
  |normal=>cases he;exact fin hq
  |ret=>cases he;exact fin hq
  |exit id=>exact hq.elim
  |goto l=>exact hq.elim
  |panic d=>exact hq.elim
 |tr d lv'=>
  cases e' with
  |normal=>exact hq.elim
  |ret=>exact hq.elim
  |exit id=>exact hq.elim
  |goto l=>exact hq.elim
  |panic d'=>
   obtain⟨rfl,h1⟩:=hq;subst h1;obtain⟨v,rfl,hr⟩:=he;exact⟨hs'.defers,v,F',β',rfl,hs'.xe,hr⟩
section
variable {c:Ctx}{F:Nat->Prop}{β:Key->Nat}{s:aE}{a:Act}{w:World}
def su(lv:Key->LB):AV->Option Bool
 |.c (.ptr k _)=>match lv k with|.cells ..=>some false|_=>none
 |.c (.aD k _ _ _)=>match lv k with|.cells ..=>some false|.nils=>some true|_=>none
 |.c (.mapr k)=>match lv k with|.map ..=>some false|_=>none
 |.c (.d .nilmap)=>some true
 |.c (.func ..)=>some false
 |.c (.d (.func ..))=>some false
 |.c (.d .nilFunc)=>some true
 |.c (.ifc ..)=>some false
 |_=>none
def Hs:AV->AV->Bool
 |.c (.ptr ..),.c (.d .nilp)=>true
 |.c (.aD ..),.c (.d .nilsl)=>true
 |.c (.mapr _),.c (.d .nilmap)=>true
 |.c (.d .nilmap),.c (.d .nilmap)=>true
 |.c (.func ..),.c (.d .nilFunc)=>true
 |.c (.d (.func ..)),.c (.d .nilFunc)=>true
 |.c (.d .nilFunc),.c (.d .nilFunc)=>true
 |.c (.ifc ..),.c (.d .nilIface)=>true
 |_,_=>false
def yL(P:Program)(T:TypeId):AV->Bool
 |.c (.ptr ..)=>match P.underlying T with|some (.pointer _)=>true|_=>false
 |.c (.aD ..)=>match P.underlying T with|some (.slice _)=>true|_=>false
 |.c (.mapr _)|.c (.d .nilmap)=>match P.underlying T with|some (.map _ _)=>true|_=>false
 |.c (.func ..)|.c (.d (.func ..))|.c (.d .nilFunc)=>match P.underlying T with|some (.func _ _ _)=>true|_=>false
 |.c (.ifc ..)=>match P.underlying T with|some (.interface _)=>true|_=>false
 |_=>false
def RH:AV->List Key
 |.c (.ptr k _)=>[k]
 |.c (.aD k ..)=>[k]
 |.c (.mapr k)=>[k]
 |_=>[]
def mR{w:World}{x y:Operand}(hE:∀m,(Op.equalIn (m+1) T u v).run P w=.ok b w)
 (h1:binOp .eql T u v=(do pure (.bool (<-Op.equal T u v)))) (h2:binOp .neq T u v=(do pure (.bool (!(<-Op.equal T u v))))) (h3:eqGuard .eql T x y u v=pure ()) (h4:eqGuard .neq T x y u v=pure ()) :
 (do eqGuard .eql T x y u v;binOp .eql T u v:Sem Value).run P w=.ok (.bool b) w/\(do eqGuard .neq T x y u v;binOp .neq T u v:Sem Value).run P w=.ok (.bool (!b)) w:=by
 have hq:(Op.equal T u v).run P w=.ok b w:=hE 9999;rw[h1,h2,h3,h4];constructor<;>(rw[bG,ZF,gE,bG,hq];rfl)
def IN{x y:Operand}{p q:AV}(hu:V.av u p)(hv:V.av v q)(hn:su V.lv p=some b)(hq:Hs p q=true)(hT:yL P T p=true):
 (do eqGuard .eql T x y u v;binOp .eql T u v:Sem Value).run P V.w=.ok (.bool b) V.w/\(do eqGuard .neq T x y u v;binOp .neq T u v:Sem Value).run P V.w=.ok (.bool (!b)) V.w:=by
 unfold Hs at hq;split at hq
 case h_1 k o=>
  simp only[su]at hn;split at hn
  ·rename_i e
   simp only[ai]at hn;subst hn;obtain⟨hu,_⟩:=hu;simp only[Vw.dh,e]at hu;obtain⟨hv,_⟩:=hv
   cases hv
   subst hu;simp only[yL]at hT;split at hT
   ·rename_i e hT'
    exact mR (λm=>by simp[Op.equalIn,run_underlying hT']) rfl rfl rfl rfl
   ·cases hT
  ·cases hn
 case h_2 k o l z=>
  simp only[su]at hn;obtain⟨hv,_⟩:=hv
  cases hv
  obtain⟨hu,_⟩:=hu;simp only[yL]at hT;split at hT
  ·rename_i e hT'
   split at hn
   ·rename_i e
    simp only[ai]at hn;subst hn;simp only[Vw.cG,e]at hu;obtain⟨cap,rfl,_⟩:=hu;exact mR (λm=>by simp[Op.equalIn,run_underlying hT']) rfl rfl rfl rfl
   ·rename_i e
    simp only[ai]at hn;subst hn;simp only[Vw.cG,e]at hu;rw[hu.1];exact mR (λm=>by simp[Op.equalIn,run_underlying hT']) rfl rfl rfl rfl
   ·cases hn
  ·cases hT
 case h_3 k=>
  simp only[su]at hn;split at hn
  ·rename_i e
   simp only[ai]at hn;subst hn;obtain⟨hu,_⟩:=hu;simp only[Vw.lC,e]at hu;obtain⟨hv,_⟩:=hv
   cases hv
   subst hu;simp only[yL]at hT;split at hT
   ·rename_i e hT'
    exact mR (λm=>by simp[Op.equalIn,run_underlying hT']) rfl rfl rfl rfl
   ·cases hT
  ·cases hn
 case h_4=>
  simp only[su,ai]at hn;subst hn;obtain⟨hu,_⟩:=hu;cases hu;obtain⟨hv,_⟩:=hv;cases hv;simp only[yL]at hT;split at hT
  ·rename_i e hT'
   exact mR (λm=>by simp[Op.equalIn,run_underlying hT']) rfl rfl rfl rfl
  ·cases hT
 case h_5 fn f cs=>
  simp only[su,ai]at hn;subst hn;obtain⟨_,_,rfl,_⟩:=hu;obtain⟨hv,_⟩:=hv;cases hv;simp only[yL]at hT;split at hT
  ·rename_i e hT'
   exact mR (λm=>by simp[Op.equalIn,run_underlying hT']) rfl rfl rfl rfl
  ·cases hT
 case h_6 fn f cs=>
  simp only[su,ai]at hn;subst hn;obtain⟨hu,_⟩:=hu;cases hu;obtain⟨hv,_⟩:=hv;cases hv;simp only[yL]at hT;split at hT
  ·rename_i e hT'
   exact mR (λm=>by simp[Op.equalIn,run_underlying hT']) rfl rfl rfl rfl
  ·cases hT
 case h_7=>
  simp only[su,ai]at hn;subst hn;obtain⟨hu,_⟩:=hu;cases hu;obtain⟨hv,_⟩:=hv;cases hv;simp only[yL]at hT;split at hT
  ·rename_i e hT'
   exact mR (λm=>by simp[Op.equalIn,run_underlying hT']) rfl rfl rfl rfl
  ·cases hT
 case h_8 t r=>
  simp only[su,ai]at hn;subst hn;obtain⟨_,rfl,_⟩:=hu;obtain⟨hv,_⟩:=hv;cases hv;simp only[yL]at hT;split at hT
  ·rename_i e hT'
   exact mR (λm=>by simp[Op.equalIn,run_underlying hT']) rfl rfl rfl rfl
  ·cases hT
 case h_9=>cases hq
theorem AO{op:BinOp}{T':TypeId}{x y:Operand}(hd:∀d,o.dst=some d->d<c.n)(ho:o.op=.binOp op T x y T')(hop:op=.eql\/op=.neq)
 (hn:su s.lv (s.val c.G x)=some b) (hq:Hs (s.val c.G x) (s.val c.G y)=true) (hT:yL c.P T (s.val c.G x)=true) :
 cg c o s (s.put o.dst (.c (.d (.bool (if op=.eql then b else !b))))):=
 cg.aW hd λF β a w hs=>by
  have h:=IN (V:=Vw.mk F β s.lv w) (P:=c.P) (T:=T) (x:=x) (y:=y) (hs.val x) (hs.val y) hn hq hT;rcases hop with rfl|rfl
  ·exact⟨.bool b,by simp only[execOp,ho];have:=h.1;simp only[bG]at this⊢;rw[this];rfl,Vw.nG _ _⟩
  ·exact⟨.bool (!b),by simp only[execOp,ho];have:=h.2;simp only[bG]at this⊢;rw[this];rfl,Vw.nG _ _⟩
end
end Go.Am
namespace Go.Am
open Go.Lib
variable {T e T' ty pt it kT eT:TypeId}{d:DV}{o:Oper}{x y m kx:Operand}{own ok b fz:Bool}{κ k:Key}{l:List UInt8}{cs:List CV}{v z:Value}{es:List (DV×AV)}{n sz off:Nat}{i:TypeInfo}{V:Vw}{P:Program}{vals:List AV}{ds:List DV}{lo hi:Option Operand}{h:Int}{op:Op}
def eK(l:List UInt8):List CV:=l.map λb=>.d (.int .u8 (b.toNat:Int))
def jJ(l:List UInt8):(eK l).length=l.length:=by simp[eK]
def Np(b:UInt8):IntKind.u8.wrap (b.toNat:Int)=(b.toNat:Int):=by
 refine cM ?_;have:=UInt8.toNat_lt b;simp only[Bl,qj];omega
section
variable {c:Ctx}{F:Nat->Prop}{β:Key->Nat}{s:aE}{a:Act}{w:World}
def PK(V:Vw)(b:UInt8):V.cv (.int .u8 (b.toNat:Int)) (.d (.int .u8 (b.toNat:Int))):=⟨.int _ _ (Np b),rfl⟩
def E1(l:List UInt8):strCells ⟨l.toArray⟩=l.map λb=>Value.int .u8 (b.toNat:Int):=by
 simp[strCells]
def za(V:Vw)(l:List UInt8):∀i (h:i<(eK l).length) (h':i<(strCells ⟨l.toArray⟩).length),V.cv (strCells ⟨l.toArray⟩)[i] (eK l)[i]:=by
 intro i h h';simp only[E1,eK,Za];exact PK V _
def c8(l:List UInt8):(ByteArray.mk l.toArray).size=l.length:=by simp[ByteArray.size]
theorem aF.rD(hs:aF c F β s a w)(hκ:s.lv κ=.hole)(hT:fh c.P T=some (e,1))(hT':cF c.P T'=true)
 (hi:c.P.info? e=some i) (hz:i.zero=some z) (hzs:z.cells.size=1) (h63:l.length<=9223372036854775807) (hb:l.length*i.bytes<=140737488355328) :
 ∃v F' β' w',(Builtin.append_ #[T,T'] ty #[.slice none 0 0,.string ⟨l.toArray⟩]).run c.P w=.ok v w' /\
  aF c F' β' ⟨s.fr,az s.lv κ (if l.length=0 then .nils else .cells true false e (eK l))⟩ a w' /\
  (Vw.mk F' β' (az s.lv κ (if l.length=0 then .nils else .cells true false e (eK l))) w').cv v (.aD κ 0 l.length 1):=by
 obtain⟨hu,hie,hsz⟩:=dG hT;have hsize:i.size=1:=by rw[<-hsz];simp[ij,hi]
 have hstr:=gX hT';have hf:=run_firstCells_string (P:=c.P) w 1 ⟨l.toArray⟩;rw[c8]at hf
 by_cases hm:l.length=0
 ·have hl:l=[]:=Z4 hm;subst hl
  have hn:aF c F β ⟨s.fr,az s.lv κ .nils⟩ a w:=by
   refine hs.step (λ_ h=>h) (λ_ _=>rfl) ?_ (λ_ _ _=>rfl) (λ_=>aY _) ?_ ?_ (λb h=>.inl h) (aY _) (λ_ _ _=>rfl)
   ·intro k
    by_cases e:k=κ
    ·subst e;rw[hκ];simp[LB.sub]
    ·rw[aH _ _ e];exact LB.bE _
   ·intro k hK
    by_cases e:k=κ
    ·subst e;unfold Vw.bQ;simp only[aC]
    ·exact Vw.bL (hs.bQ k) hK (aH _ _ e) rfl rfl (λ_ h=>h)
   ·intro k1 k2 g1 g2 he
    have g:∀k',(az s.lv κ .nils k').live=true->(s.lv k').live=true:=by
     intro k' hk'
     by_cases e:k'=κ
     ·subst e;rw[aC]at hk';simp[LB.live]at hk'
     ·rwa[aH _ _ e]at hk'
    exact hs.inj _ _ (g _ g1) (g _ g2) he
  refine⟨.slice none 0 0,F,β,w,?_,by simpa using hn,?_⟩
  ·simp at hf;simp[Builtin.append_,run_underlying hu,run_underlying hstr,sizeOf,typeInfo,hi,hsize,Builtin.lenOf,hf,c8]
  ·simp[Vw.cv,Vw.cG,aC,Value.oneCell']
 ·have he:(Builtin.append_ #[T,T'] ty #[.slice none 0 0,.string ⟨l.toArray⟩]).run c.P w=(Builtin.append_ #[T,T'] ty #[.slice (some ⟨0,0,none⟩) 0 0,.string ⟨l.toArray⟩]).run c.P w:=by
   have h1:¬(9223372036854775807<(l.length:Int)):=by omega
   have h2:=growslice_fits (old:=0) (by omega:0<l.length) hb;simp[Builtin.append_,run_underlying hu,run_underlying hstr,sizeOf,typeInfo,hi,hsize,Builtin.lenOf,c8,hm,Builtin.firstCells,loadCells,loadCellsFrom,Nat.not_lt.2 h2]
  have hr:=run_append_grow_string (P:=c.P) w T T' ty e i z hu hstr hi hz ⟨0,0,none⟩ 0 0 [] (by simp) (by simp) ⟨l.toArray⟩ (by rw[c8];omega) (by rw[c8];omega) (by
   rw[c8];simpa using growslice_fits (old:=0) (by omega:0<l.length) hb)
  rw[<-he]at hr;simp only[c8,Zw]at hr;have hd:aF c F β s a w.drew:=hs.heap rfl;have hge:=grownCap_ge w l.length 0 e
  have hal:=hd.alloc hκ (arr:=([]:List Value).toArray++(strCells ⟨l.toArray⟩).toArray++Builtin.zeroCells z.cells (grownCap w l.length 0 e-l.length)) e (cs:=eK l) (by simp[jJ,strCells_length,c8]) (λj p q=>by
   have hj:j<(strCells ⟨l.toArray⟩).length:=by rw[strCells_length,c8];rwa[jJ]at p
   have:(([]:List Value).toArray++(strCells ⟨l.toArray⟩).toArray++Builtin.zeroCells z.cells (grownCap w l.length 0 e-l.length))[j]=(strCells ⟨l.toArray⟩)[j]:=by
    rw[aaQ (by simpa using hj)];simp
   rw[this];exact za _ _ _ _ _)
  refine⟨_,F,az β κ w.heap.size,_,hr,by simpa[hm]using hal,?_⟩;simp only[hm,if_false,Vw.cv,Vw.cG,aC];refine⟨⟨_,rfl,hge,?_⟩,rfl⟩;simp only[cD,heap_alloc,World.size_drew,if_true,abB,abS,size_zeroCells,strCells_length,c8,hzs,aaG];omega
theorem aF.rE(hs:aF c F β s a w)(hκ:s.lv κ=.hole)(hT:fh c.P T=some (e,1))(hT':cF c.P T'=true)
 (hi:c.P.info? e=some i) (hz:i.zero=some z)(hy:s.val c.G y=.c (.aD k 0 n 1)) (hk:s.lv k=.cells own false e cs) (hfull:cs.length=n)
 (hzs:z.cells.size=1) (h63:n+l.length<=9223372036854775807) (hb:(n+l.length)*i.bytes<=140737488355328) :
 ∃v F' β' w',(Builtin.append_ #[T,T'] ty #[a.eval y,.string ⟨l.toArray⟩]).run c.P w=.ok v w' /\
  aF c F' β' ⟨s.fr,az (az s.lv k .dead) κ (.cells own false e (cs++eK l))⟩ a w' /\
  (Vw.mk F' β' (az (az s.lv k .dead) κ (.cells own false e (cs++eK l))) w').cv v (.aD κ 0 (n+l.length) 1):=by
 obtain⟨hu,hie,hsz⟩:=dG hT;have hsize:i.size=1:=by rw[<-hsz];simp[ij,hi]
 have hstr:=gX hT';have hkκ:k≠κ:=λe=>by rw[e,hκ]at hk;cases hk
 have hv:=hy▸hs.val y;obtain⟨hv,_⟩:=hv;simp only[Vw.cG,hk]at hv;obtain⟨cap,E5,Sb,hv3⟩:=hv;have hbk:=hs.bQ k;unfold Vw.bQ at hbk;simp only[hk]at hbk;obtain⟨arr,g1,g2,g3,g4,g5⟩:=hbk;have has:cD w (β k)=arr.size:=by simp[cD,g1]
 rw[has]at hv3;simp only[Zw,Z0]at hv3;rw[E5];have hvl:(strCells ⟨l.toArray⟩).length=l.length:=by rw[strCells_length,c8]
 have hbl:=jJ l
 by_cases hroom:n+l.length<=cap
 ·have hr:=run_append_room_string (P:=c.P) w T T' ty e i hu hstr hi hsize (β k) n cap arr g1 ⟨l.toArray⟩ (by rw[c8];exact hroom) (by rw[c8];omega);rw[c8]at hr
  have hseg:arr.toList.take n++strCells ⟨l.toArray⟩++arr.toList.drop (n+l.length)=aj arr.toList n (strCells ⟨l.toArray⟩):=by
   unfold aj;rw[hvl]
  rw[hseg]at hr;have hle:n+(strCells ⟨l.toArray⟩).length<=arr.toList.length:=by rw[hvl];simp;omega
  have hset:=hs.setRow (arr:=(aj arr.toList n (strCells ⟨l.toArray⟩)).toArray) hk g1 (cs':=cs) (by simp[aS _ _ _ hle]) (by simp[aS _ _ _ hle];omega) (λj p q=>by
   simp only[aa7];rw[dw _ _ _ hle j (by simpa using q),dif_neg (by omega)];simp only[ZR];exact g3 _ _ _)
  have hsame:az s.lv k (.cells own false e cs)=s.lv:=by
   funext t;unfold az;split
   ·rename_i h;rw[h,hk]
   ·rfl
  rw[hsame]at hset
  have hK:(Vw.mk F β s.lv w).iX (Vw.mk F β s.lv (w.setRow (β k) (aj arr.toList n (strCells ⟨l.toArray⟩)).toArray)):=
   Vw.jk (λ_ h=>h) (λb hb=>setRow_other _ _ _ _ (λe=>by
    have:F (β k):=e▸hb;simp at g4;exact g4 this)) (λ_=>LB.bE _) (λ_ _ _=>rfl) (λb=>by rw[gQ w (β k) arr _ e (0,0) g1 (by simp[aS _ _ _ hle]) b];exact aY _)
  have hmv:=hset.move (k:=k) (κ:=κ) hk hκ (cs':=cs++eK l) (arr:=(aj arr.toList n (strCells ⟨l.toArray⟩)).toArray) (setRow_heap w _ arr _ e (0,0) g1) (by simp[aS _ _ _ hle];omega) (λj p q=>by
   simp only[aa7];rw[dw _ _ _ hle j (by simpa using q)]
   by_cases hj:j<n
   ·rw[dif_neg (by omega),ZN (by omega)];simp only[ZR];exact hK.cv (g3 _ _ _)
   ·rw[dif_pos ⟨by omega,by simp at p;omega⟩,Z3 (by omega)];simp only[hfull];exact za _ _ _ _ _)
  refine⟨_,_,_,_,hr,hmv,⟨?_,rfl⟩⟩;simp only[Vw.cG,aC];refine⟨cap,rfl,hroom,?_⟩;rw[gQ w (β k) arr _ e (0,0) g1 (by simp[aS _ _ _ hle])];rw[has];omega
 ·have holds:∀j u,(arr.toList.take n)[j]?=some u->w.cell? ((⟨β k,0,none⟩:Addr).add j)=some u:=by
   intro j u hu;rw[abf]at hu;split at hu
   ·rw[abR]at hu;rw[aa0,cell_of_row w _ _ _ _ _ g1,Zw];exact hu
   ·cases hu
  have hn:n<=arr.size:=by omega
  have hr:=run_append_grow_string (P:=c.P) w T T' ty e i z hu hstr hi hz ⟨β k,0,none⟩ n cap (arr.toList.take n) (by simp[hsize];omega) holds ⟨l.toArray⟩ (by rw[c8];omega) (by rw[c8];omega) (by rw[c8];exact growslice_fits (by omega) hb);rw[c8]at hr;have hd:aF c F β s a w.drew:=hs.heap rfl
  have hal:=(hd.kill k).alloc (κ:=κ) (by show az s.lv k .dead κ=_;rw[aH _ _ (Ne.symm hkκ)];exact hκ) (arr:=((arr.toList.take n).toArray++(strCells ⟨l.toArray⟩).toArray++Builtin.zeroCells z.cells (grownCap w (n+l.length) cap e-(n+l.length)))) e (cs:=cs++eK l)
   (by simp;omega) (λj p q=>by
    have hK2:(Vw.mk F β s.lv w).iX (Vw.mk F β (az s.lv k .dead) w.drew):=Vw.jk (λ_ h=>h) (λ_ _=>rfl) (λt=>by
     by_cases e:t=k
     ·subst e;show LB.sub (s.lv t) (az s.lv t .dead t);rw[aC];cases s.lv t<;>simp[LB.sub]
     ·show LB.sub (s.lv t) (az s.lv k .dead t);rw[aH _ _ e];exact LB.bE _) (λ_ _ _=>rfl) (λ_=>aY _)
    simp only[Zg]at p;have hto:(arr.toList.take n).length=n:=by simp;omega
    by_cases hj:j<n
    ·have e1:((arr.toList.take n).toArray++(strCells ⟨l.toArray⟩).toArray++Builtin.zeroCells z.cells (grownCap w (n+l.length) cap e-(n+l.length)))[j]=arr[j]'(by omega):=by
      rw[aaQ (by simp;omega),aaQ (by simp;omega)];simp
     rw[e1,ZN (by omega)];exact hK2.cv (g3 _ _ _)
    ·have e1:((arr.toList.take n).toArray++(strCells ⟨l.toArray⟩).toArray++Builtin.zeroCells z.cells (grownCap w (n+l.length) cap e-(n+l.length)))[j]=(strCells ⟨l.toArray⟩)[j-n]'(by omega):=by
      rw[aaQ (by simp;omega),acd (by simp;omega)];simp[hto]
     rw[e1,Z3 (by omega)];simp only[hfull];exact za _ _ _ _ _)
  have hun:=hal.nX (k:=κ) own Bm;rw[BC]at hun;refine⟨_,_,_,_,hr,hun,⟨?_,rfl⟩⟩;simp only[Vw.cG,aC];refine⟨_,rfl,grownCap_ge w (n+l.length) cap e,?_⟩;have hge:=grownCap_ge w (n+l.length) cap e;simp only[cD,heap_alloc,World.size_drew,if_true,abB,abS,size_zeroCells,hvl,hzs,Ze,abc];omega
end
section
variable {c:Ctx}{F:Nat->Prop}{β:Key->Nat}{s:aE}{a:Act}{w:World}
theorem kY(hd:∀d,o.dst=some d->d<c.n)
 (ho:o.op=.call { callee:=.builtin .append,args:=#[y,x],argTypes:=#[T,T'] }) (hκ:s.lv κ=.hole) (hy:s.val c.G y=.c (.d .nilsl)\/∃k,s.val c.G y=.c (.aD k 0 0 1)/\s.lv k=.nils) (hT:fh c.P T=some (e,1)) (hT':cF c.P T'=true)
 (hi:c.P.info? e=some i) (hz:i.zero=some z) (hx:s.val c.G x=.c (.d (.str l))) (hzs:z.cells.size=1) (h63:l.length<=9223372036854775807) (hb:l.length*i.bytes<=140737488355328) :
 cg c o s (aE.put ⟨s.fr,az s.lv κ (if l.length=0 then .nils else .cells true false e (eK l))⟩ o.dst (.c (.aD κ 0 l.length 1))):=
 cg.eI hd λF β a w hs=>by
  obtain⟨v,F',β',w',h1,h2,h3⟩:=hs.rD (ty:=o.type) hκ hT hT' hi hz hzs h63 hb;refine⟨v,F',β',w',?_,h2,h3⟩;have hxv:=Vw.jq (hx▸hs.val x)
  have hu:a.eval y=.slice none 0 0:=by
   rcases hy with hy|⟨k,hy,hk⟩
   ·have hv:=hy▸hs.val y;obtain⟨hv,_⟩:=hv;obtain⟨u,hu⟩:∃u,a.eval y=u:=⟨_,rfl⟩
    rw[hu]at hv ⊢
    cases hv;rfl
   ·have hv:=hy▸hs.val y;obtain⟨hv,_⟩:=hv;simp only[Vw.cG,hk]at hv;exact hv.1
  simp[execOp,ho,resolve,invoke,builtin,hu,hxv,h1]
theorem rR(hd:∀d,o.dst=some d->d<c.n)
 (ho:o.op=.call { callee:=.builtin .append,args:=#[y,x],argTypes:=#[T,T'] }) (hκ:s.lv κ=.hole) (hT:fh c.P T=some (e,1)) (hT':cF c.P T'=true)
 (hi:c.P.info? e=some i) (hz:i.zero=some z) (hy:s.val c.G y=.c (.aD k 0 n 1)) (hk:s.lv k=.cells own false e cs) (hfull:cs.length=n)
 (hx:s.val c.G x=.c (.d (.str l))) (hzs:z.cells.size=1) (h63:n+l.length<=9223372036854775807) (hb:(n+l.length)*i.bytes<=140737488355328) :
 cg c o s (aE.put ⟨s.fr,az (az s.lv k .dead) κ (.cells own false e (cs++eK l))⟩ o.dst (.c (.aD κ 0 (n+l.length) 1))):=
 cg.eI hd λF β a w hs=>by
  obtain⟨v,F',β',w',h1,h2,h3⟩:=hs.rE (ty:=o.type) (l:=l) hκ hT hT' hi hz hy hk hfull hzs h63 hb;have hxv:=Vw.jq (hx▸hs.val x);exact⟨v,F',β',w',by simp[execOp,ho,resolve,invoke,builtin,hxv,h1],h2,h3⟩
theorem Aq{len:Nat}{T0:TypeId}(hd:∀d,o.dst=some d->d<c.n)
 (ho:o.op=.call { callee:=.builtin .unsafeSliceData,args:=#[x],argTypes:=#[T] }) (hx:s.val c.G x=.c (.aD k off len sz)) (hk:s.lv k=.cells own fz T0 cs) (hlen:0<len) :
 cg c o s (s.put o.dst (.c (.ptr k off))):=
 cg.aW hd λF β a w hs=>by
  have hv:=hx▸hs.val x;obtain⟨hv,_⟩:=hv;simp only[Vw.cG,hk]at hv;obtain⟨cap,E5,Sb,hv3⟩:=hv;refine⟨.pointer (some ⟨β k,off,none⟩),?_,?_⟩
  ·have:=run_unsafeSliceData_row (P:=c.P) w #[T] o.type ⟨β k,off,none⟩ len cap (by omega);simp[execOp,ho,resolve,invoke,builtin,E5,this]
  ·exact⟨by simp only[Vw.dh,hk],rfl⟩
theorem lK(hd:∀d,o.dst=some d->d<c.n)
 (ho:o.op=.call { callee:=.builtin .unsafeSliceData,args:=#[x],argTypes:=#[T] }) (hx:s.val c.G x=.c (.d .nilsl)\/∃k,s.val c.G x=.c (.aD k 0 0 1)/\s.lv k=.nils) :
 cg c o s (s.put o.dst (.c (.d .nilp))):=
 cg.aW hd λF β a w hs=>by
  have hu:a.eval x=.slice none 0 0:=by
   rcases hx with hy|⟨k,hy,hk⟩
   ·have hv:=hy▸hs.val x;obtain⟨hv,_⟩:=hv;obtain⟨u,hu⟩:∃u,a.eval x=u:=⟨_,rfl⟩
    rw[hu]at hv ⊢
    cases hv;rfl
   ·have hv:=hy▸hs.val x;obtain⟨hv,_⟩:=hv;simp only[Vw.cG,hk]at hv;exact hv.1
  refine⟨.pointer none,?_,.nilp,rfl⟩;simp[execOp,ho,resolve,invoke,builtin,hu,run_unsafeSliceData_nil]
theorem oJ(hd:∀d,o.dst=some d->d<c.n)
 (ho:o.op=.call { callee:=.builtin .unsafeString,args:=#[x,y],argTypes:=#[pt,it] }) (hx:s.val c.G x=.c (.d .nilp)) (hy:s.val c.G y=.c (.d (.int .i64 0))) :
 cg c o s (s.put o.dst (.c (.d (.str [])))):=
 cg.aW hd λF β a w hs=>by
  have hv:=hx▸hs.val x;obtain⟨hv,_⟩:=hv;obtain⟨u,hu⟩:∃u,a.eval x=u:=⟨_,rfl⟩
  rw[hu]at hv;have hyv:=Vw.fJ (hy▸hs.val y)
  cases hv
  refine⟨.string .empty,?_,?_⟩
  ·have:=run_unsafeString_none (P:=c.P) w pt it o.type none;simp[execOp,ho,resolve,invoke,builtin,hu,hyv,this]
  ·have:ByteArray.empty=⟨([]:List UInt8).toArray⟩:=rfl;rw[this];exact Vw.rU _ _ (by simp)
def s9:List CV->Option (List UInt8)
 |[]=>some []
 |.d (.int .u8 n)::r=>match n with
  |.ofNat m=>if m<256 then(match s9 r with|some l=>some (UInt8.ofNat m::l)|none=>none)else none
  |_=>none
 |_=>none
def yZ:∀{cs:List CV}{l:List UInt8},s9 cs=some l->cs=eK l
 |[],l,h=>by simp only[s9,ai]at h;subst h;rfl
 |x::r,l,h=>by
  unfold s9 at h;split at h
  ·rename_i h0;cases h0
  ·rename_i n r' h0
   simp only[ZB]at h0;obtain⟨rfl,rfl⟩:=h0;split at h
   ·rename_i m
    split at h
    ·rename_i hm
     split at h
     ·rename_i l' hl
      simp only[ai]at h;subst h;have:=yZ hl;simp only[eK,Zm]at this⊢;rw[this];congr 3;have:(UInt8.ofNat m).toNat=m:=by simp[UInt8.toNat_ofNat'];omega
      rw[this];rfl
     ·cases h
    ·cases h
   ·cases h
  ·cases h
def aF.Dg(h:aF c F β s a w)(hk:s.lv k=.cells own false T cs)(n:Nat):
 aF c F β ⟨s.fr,az s.lv k .dead⟩ a (w.freeze ⟨β k,0,none⟩ n):=by
 have hlive:(s.lv k).live=true:=by rw[hk];rfl
 have hoth:∀b,b≠β k->(w.freeze ⟨β k,0,none⟩ n).heap[b]?=w.heap[b]?:=by
  intro b hb;unfold World.freeze;split
  ·rfl
  ·simp only[Array.getElem?_modify];rw[if_neg (λe=>hb e.symm)]
 have hsz:(w.freeze ⟨β k,0,none⟩ n).heap.size=w.heap.size:=by
  unfold World.freeze;split<;>simp
 have has:∀b,cD w b=cD (w.freeze ⟨β k,0,none⟩ n) b:=by
  intro b
  by_cases e:b=β k
  ·subst e;unfold World.freeze;split
   ·rfl
   ·simp only[cD,Array.getElem?_modify,if_true]
    cases h1:w.heap[β k]? with
    |none=>rfl
    |some o=>cases o<;>rfl
  ·simp only[cD,hoth b e]
 refine h.step (hoo:=by unfold World.freeze;split<;>exact⟨rfl,rfl⟩) (λ_ h=>h) (λb hb=>hoth b (λe=>h.mU hlive (e▸hb))) ?_ (λ_ _ _=>rfl) (λb=>Nat.le_of_eq (has b)) ?_ ?_ (λb h=>.inl h) (Nat.le_of_eq hsz.symm) ?_
 ·intro k'
  by_cases e:k'=k
  ·subst e;rw[aC];cases s.lv k'<;>simp[LB.sub]
  ·rw[aH _ _ e];exact LB.bE _
 ·intro k' hK
  by_cases e:k'=k
  ·subst e;unfold Vw.bQ;simp only[aC]
  ·have hb:=h.bQ k'
   by_cases hl:(s.lv k').live=true
   ·exact Vw.bL hb hK (aH _ _ e) rfl (hoth _ (λe'=>e (h.inj _ _ hl hlive e'))) (λ_ h=>h)
   ·cases ek:s.lv k' with
    |cells o fz T' cs'=>
     cases fz with
     |false=>rw[ek]at hl;exact absurd rfl hl
     |true=>
      have hF:F (β k'):=by unfold Vw.bQ at hb;simp only[ek]at hb;obtain⟨_,_,_,_,h4,_⟩:=hb;exact h4
      exact Vw.bL hb hK (aH _ _ e) rfl (hoth _ (λe'=>h.mU hlive (e'▸hF))) (λ_ h=>h)
    |map o es=>rw[ek]at hl;exact absurd rfl hl
    |hole=>unfold Vw.bQ;simp only[aH _ _ e,ek]
    |dead=>unfold Vw.bQ;simp only[aH _ _ e,ek]
    |nils=>unfold Vw.bQ;simp only[aH _ _ e,ek]
 ·intro k1 k2 a1 a2 he
  have g:∀k',(az s.lv k .dead k').live=true->(s.lv k').live=true:=by
   intro k' hk'
   by_cases e:k'=k
   ·subst e;rw[aC]at hk';cases hk'
   ·rwa[aH _ _ e]at hk'
  exact h.inj _ _ (g _ a1) (g _ a2) he
 ·intro b hb hnW;refine hoth b (λe=>?_);rcases h.eX hlive with h1|h1
  ·omega
  ·exact hnW (e▸h1)
theorem vA(hd:∀d,o.dst=some d->d<c.n)
 (ho:o.op=.call { callee:=.builtin .unsafeString,args:=#[x,y],argTypes:=#[pt,it] }) (hx:s.val c.G x=.c (.ptr k 0)) (hk:s.lv k=.cells own false e cs) (hy:s.val c.G y=.c (.d (.int .i64 l.length)))
 (hp:c.P.underlying pt=some (.pointer e)) (hc:c.P.cellsOf e=1) (hl:cs.take l.length=eK l) (h0:l≠[]) (h63:l.length<=9223372036854775807) :
 cg c o s (aE.put ⟨s.fr,az s.lv k .dead⟩ o.dst (.c (.d (.str l)))):=
 cg.eI hd λF β a w hs=>by
  have hv:=hx▸hs.val x;obtain⟨hv,_⟩:=hv;simp only[Vw.dh,hk]at hv;have hyv:=Vw.fJ (hy▸hs.val y);have hb:=hs.bQ k;unfold Vw.bQ at hb;simp only[hk]at hb;obtain⟨arr,b1,b2,b3,b4,b5⟩:=hb
  have hll:l.length<=cs.length:=by
   have:=congrArg List.length hl;rw[Ze,jJ]at this;omega
  have hcell:∀j x,l[j]?=some x->w.cell? ((⟨β k,0,none⟩:Addr).add j)=some (.int .u8 x.toNat):=by
   intro j x hj;obtain⟨hj1,hj2⟩:=List.getElem?_eq_some_iff.1 hj
   have h1:cs[j]'(by omega)=.d (.int .u8 (x.toNat:Int)):=by
    have h2:(cs.take l.length)[j]?=some (cs[j]'(by omega)):=by
     rw[abf,if_pos hj1,cy (by omega)]
    rw[hl,eK,aba,hj]at h2;simpa using h2.symm
   have h3:=b3 j (by omega) (by omega);rw[h1]at h3;have h4:=Vw.fJ (V:=Vw.mk F β s.lv w) h3
   have h5:(⟨β k,0,none⟩:Addr).add j=⟨β k,j,none⟩:=by
    unfold Addr.add;by_cases e:j=0
    ·subst e;simp
    ·simp[e]
   rw[h5,fP b1 (by omega),h4]
  have hr:=run_unsafeString_row (P:=c.P) w pt it o.type e hp hc (β k) arr.size (by simp[World.shape?,b1]) l h0 (by omega) h63 hcell;refine⟨.string ⟨l.toArray⟩,F,β,w.freeze ⟨β k,0,none⟩ l.length,?_,hs.Dg hk l.length,Vw.rU _ _ h63⟩;simp[execOp,ho,resolve,invoke,builtin,hv,hyv,hr]
theorem zv{S:TypeId}(hd:∀d,o.dst=some d->d<c.n)(ho:o.op=.convert S T x)
 (hx:s.val c.G x=.c (.d (.str l))) (hS:cF c.P S=true) (hT:fh c.P T=some (e,1)) (he:c.P.underlying e=some (.int .u8)) (h63:l.length<=9223372036854775807) :
 cg c o s (s.put o.dst (.c (.d (.sl (l.map λb=>[.int .u8 (b.toNat:Int)]))))):=by
 have hput:s.put o.dst (.c (.d (.sl (l.map λb=>[.int .u8 (b.toNat:Int)]))))=aE.put ⟨s.fr,s.lv⟩ o.dst (.c (.d (.sl (l.map λb=>[.int .u8 (b.toNat:Int)])))):=rfl;rw[hput];refine cg.eI hd λF β a w hs=>?_;have hxv:=Vw.jq (hx▸hs.val x);obtain⟨hu,_,_⟩:=dG hT;have hstr:=gX hS;have hr:=Go.Lib.run_convert_string_bytes (P:=c.P) w S T e ⟨l.toArray⟩ hstr hu he;rw[c8]at hr;have hold:∀b,b<w.heap.size->(bytesWorld w e ⟨l.toArray⟩).heap[b]?=w.heap[b]?:=λb hb=>bytesWorld_at_old w e _ b hb
 have hsz:=bytesWorld_size w e ⟨l.toArray⟩;have hge:=hs.ge
 have hst:aF c (λb=>F b\/b=w.heap.size) β s a (bytesWorld w e ⟨l.toArray⟩):=by
  refine hs.step (λ_ h=>.inl h) (λb hb=>hold b (hs.mo b hb).1) (λk=>LB.bE _) (λ_ _ _=>rfl) (λb=>?_) ?_ hs.inj (λb hb=>?_) (by omega) (λb hb _=>hold b (by omega))
  ·by_cases hb:b<w.heap.size
   ·simp only[cD,hold b hb];exact aY _
   ·have:w.heap[b]?=none:=abT (by omega);simp[cD,this]
  ·intro k hK;have hb:=hs.bQ k
   have hlt:(∃own fz T cs,s.lv k=.cells own fz T cs)\/(∃own es,s.lv k=.map own es)->β k<w.heap.size:=by
    unfold Vw.bQ at hb;rintro(⟨o,fz,T,cs,e⟩|⟨o,es,e⟩)
    ·simp only[e]at hb;obtain⟨_,h1,_⟩:=hb;exact eL h1
    ·simp only[e]at hb;obtain⟨_,_,h1,_⟩:=hb;exact eL h1
   cases ek:s.lv k with
   |cells own fz T cs=>
    have:=hlt (.inl ⟨_,_,_,_,ek⟩);exact Vw.bL hb hK rfl rfl (hold _ this) (λ_ hf=>hf.resolve_right (by show β k≠w.heap.size;omega))
   |map own es=>
    have:=hlt (.inr ⟨_,_,ek⟩);exact Vw.bL hb hK rfl rfl (hold _ this) (λ_ hf=>hf.resolve_right (by show β k≠w.heap.size;omega))
   |hole=>unfold Vw.bQ;simp only[ek]
   |dead=>unfold Vw.bQ;simp only[ek]
   |nils=>unfold Vw.bQ;simp only[ek]
  ·rcases hb with hb|hb
   ·exact .inl hb
   ·subst hb;exact .inr ⟨by omega,hge⟩
 refine⟨.slice (some ⟨w.heap.size,0,none⟩) l.length (grownCap w l.length 0 e),_,β,_,by simp[execOp,ho,hxv,hr],hst,?_,rfl⟩;have hcap:=grownCap_ge w l.length 0 e
 have key:=Rd.sl (M:=me (bytesWorld w e ⟨l.toArray⟩) (λb=>F b\/b=w.heap.size)) w.heap.size 0 (grownCap w l.length 0 e) 1 (l.map λb=>[DV.int .u8 (b.toNat:Int)]) (λi _=>.int .u8 (l.getD i 0).toNat)
  (by simp) (by simpa using hcap) (by simpa using h63) ?_ (by intros;rfl) ?_
 ·rwa[Zt]at key
 ·intro i hi j hj;simp at hi;refine⟨.inr rfl,?_⟩;have:=bytesWorld_cell w e ⟨l.toArray⟩ i (by rw[c8];exact hi);have hj0:j=0:=by omega
  subst hj0;simpa using this
 ·intro i hi j hj;simp at hi hj;have hj0:j=0:=by omega
  subst hj0;simp only[Za,ZJ];have:l.getD i 0=l[i]:=by rw[Y8,cy hi];rfl
  rw[this];exact .int _ _ (Np _)
end
def Ef:DV->AV
 |.agg l=>.agg (l.map .d)
 |x=>.c (.d x)
def Vw.Ef(h:Rd V.mem v d):V.av v (Am.Ef d):=by
 cases h with
 |agg arr cs hl ho hr=>
  refine⟨arr,rfl,by simpa using hl,λi p q=>?_⟩;simp only[Za];exact⟨hr i (by simpa using p),ho i q⟩
 |_=>first
  |exact⟨.bool _,rfl⟩
  |exact⟨.int _ _ (by assumption),rfl⟩
  |exact⟨.str _ (by assumption),rfl⟩
  |exact⟨.nilp,rfl⟩
  |exact⟨.nilsl,rfl⟩
  |exact⟨.nilIface,rfl⟩
  |exact⟨.nilFunc,rfl⟩
  |exact⟨.nilmap,rfl⟩
  |exact⟨.ptr _ _ _ _ (by assumption) (by assumption) (by assumption),rfl⟩
  |exact⟨.sl _ _ _ _ _ _ (by assumption) (by assumption) (by assumption) (by assumption) (by assumption) (by assumption),rfl⟩
  |exact⟨.iface _ _ _ (by assumption),rfl⟩
  |exact⟨.func _ _ _ _ _ (by assumption) (by assumption) (by assumption) (by assumption),rfl⟩
def yx(d:DV):∀l,Ef d≠.tup l:=by intro l;cases d<;>simp[Ef]
def ef(P:Program)(T:TypeId)(d:DV):Bool:=
 match P.underlying T,d with
 |some (.int k),.int k' _=>decide (k=k')
 |some .string,.str _=>true
 |some .bool,.bool _=>true
 |_,_=>false
def jL(P:Program):List Field->List DV->Bool
 |[],_=>true
 |f::r,ds=>f.name != "_" && (match dj P f.type with|some false=>true|_=>false)&&(match ds[f.offset]? with|some d=>ef P f.type d|none=>false)&&jL P r ds
def fV(P:Program)(T:TypeId)(d:DV):Bool:=
 match P.underlying T,d with
 |some (.struct fs),.agg ds=>!P.stoodInHeld T&&jL P fs.toList ds&&fs.toList.map (·.offset)==List.range ds.length
 |_,d=>ef P T d
def nc:DV->DV->Bool
 |.int k a,.int k' b=>decide (k=k')&&a==b
 |.str a,.str b=>a==b
 |.bool a,.bool b=>a==b
 |_,_=>false
def Hr{e:DV}(h:nc d e=true):d=e:=by
 unfold nc at h;split at h
 ·simp only[cn,decide_eq_true_eq,beq_iff_eq]at h;rw[h.1,h.2]
 ·simp only[beq_iff_eq]at h;rw[h]
 ·simp only[beq_iff_eq]at h;rw[h]
 ·cases h
def J5:List DV->List DV->Bool
 |[],[]=>true
 |a::l,b::m=>nc a b&&J5 l m
 |_,_=>false
def HX:∀{l m:List DV},J5 l m=true->l=m
 |[],[],_=>rfl
 |a::l,b::m,h=>by simp only[J5,cn]at h;rw[Hr h.1,HX h.2]
 |[],_::_,h=>by cases h
 |_::_,[],h=>by cases h
def y7:DV->DV->Bool
 |.agg a,.agg b=>J5 a b
 |a,b=>nc a b
def O4{e:DV}(h:y7 d e=true):d=e:=by
 unfold y7 at h;split at h
 ·rw[HX h]
 ·exact Hr h
def yo(a b:List UInt8):(ByteArray.mk a.toArray==ByteArray.mk b.toArray)=(a==b):=by
 rw[Bool.eq_iff_iff,MapKept.bytes_beq,beq_iff_eq];constructor
 ·intro h;simpa using h
 ·rintro rfl;rfl
section
variable {P:Program}{w:World}{M:Mem}
def DM(h:ef P T d=true)(hv:Rd M v d):v=d.fj:=by
 unfold ef at h;split at h
 ·cases hv;rfl
 ·cases hv with|str s hl=>simp[DV.fj]
 ·cases hv;rfl
 ·cases h
def Mh{t:TypeDesc}{e:DV}(hT:P.underlying T=some t)(h1:ef P T d=true)(h2:ef P T e=true):Instr.sameNow t d.fj e.fj=some (nc d e):=by
 unfold ef at h1 h2;rw[hT]at h1 h2
 cases t<;>cases d<;>simp at h1<;>cases e<;>simp at h2
 ·simp[DV.fj,Instr.sameNow,nc]
 ·subst h1;subst h2;simp[DV.fj,Instr.sameNow,nc]
 ·rename_i a b
  simp only[DV.fj,Instr.sameNow,nc,ai];exact yo a b
def Hl{e:DV}(h1:ef P T d=true)(h2:ef P T e=true)(n:Nat):(Op.equalIn (n+1) T d.fj e.fj).run P w=.ok (nc d e) w:=by
 unfold ef at h1 h2
 cases hT:P.underlying T with
 |none=>rw[hT]at h1;simp at h1
 |some t=>
  rw[hT]at h1 h2
  cases t<;>cases d<;>simp at h1<;>cases e<;>simp at h2
  ·rename_i a b;simp only[DV.fj,nc];exact run_equalIn_bool' w n T a b hT
  ·subst h1;subst h2;simp only[DV.fj,nc,decide_true,Bool.true_and];exact run_equalIn_int w n T _ _ _ _ hT
  ·simp only[DV.fj,nc];rw[run_equalIn_string w n T _ _ hT,toList_mk,toList_mk]
def zE(h1:ef P T d=true)(em:Bool)(n:Nat):(Instr.checkKey em (n+1) T d.fj).run P w=.ok () w:=by
 unfold ef at h1
 cases hT:P.underlying T with
 |none=>rw[hT]at h1;simp at h1
 |some t=>
  rw[hT]at h1
  cases t<;>cases d<;>simp at h1<;>simp[Instr.checkKey,run_underlying hT,DV.fj]
def AB(h1:ef P T d=true)(n:Nat):Instr.sameBits n d.fj d.fj=true:=by
 unfold ef at h1;split at h1
 ·cases n<;>simp[DV.fj,Instr.sameBits]
 ·cases n<;>simp only[DV.fj,Instr.sameBits]<;>rw[yo]<;>simp
 ·cases n<;>simp[DV.fj,Instr.sameBits]
 ·cases h1
def mh{arr:Array Value}(ha:dj P T=some false)(h:arr[off]?=some d.fj):(part T arr off).run P w=.ok d.fj w:=by
 simp[part,mC ha,h]
def jC:∀{fs:List Field}{ds:List DV},jL P fs ds=true->∀f∈fs,f.name ≠ "_" /\ dj P f.type=some false/\∃d,ds[f.offset]?=some d/\ef P f.type d=true
 |[],_,_,f,hf=>by cases hf
 |g::r,ds,h,f,hf=>by
  simp only[jL,cn,bne_iff_ne]at h;obtain⟨⟨⟨h1,h2⟩,h3⟩,h4⟩:=h;rcases List.mem_cons.1 hf with rfl|hf
  ·refine⟨h1,?_,?_⟩
   ·split at h2
    ·assumption
    ·cases h2
   ·split at h3
    ·rename_i d hd;exact⟨d,hd,h3⟩
    ·cases h3
  ·exact jC h4 f hf
def JE{fs:Array Field}(hT:P.underlying T=some (.struct fs))(h:fV P T (.agg ds)=true)(hv:Rd M v (.agg ds)):
 v=.agg (ds.map DV.fj).toArray:=by
 simp only[fV,hT,cn,beq_iff_eq]at h;obtain⟨⟨_,h2⟩,h3⟩:=h
 cases hv with
 |agg arr _ hl ho hr=>
  congr 1;apply Array.ext
  ·simpa using hl
  ·intro i p q;simp only[aa7,Za];have hi:i<ds.length:=by omega
   have hm:i∈fs.toList.map (·.offset):=by rw[h3];exact List.mem_range.2 hi
   obtain⟨f,hf,rfl⟩:=List.mem_map.1 hm;obtain⟨_,_,d,hd,hs⟩:=jC h2 f hf;have hd':ds[f.offset]=d:=by rw[cy hi]at hd;simpa using hd
   have:=hr f.offset hi;rw[hd']at this⊢;exact DM hs this
def DV.fU:DV->Value
 |.agg ds=>.agg (ds.map DV.fj).toArray
 |d=>d.fj
def qf(h:ef P T d=true):d.fU=d.fj:=by
 cases d with
 |agg ds=>unfold ef at h;split at h<;>simp_all
 |_=>rfl
def xK(h:fV P T d=true)(hv:Rd M v d):v=d.fU:=by
 unfold fV at h;split at h
 ·rename_i fs ds hT
  have h':fV P T (.agg ds)=true:=by simp only[fV,hT];exact h
  exact JE hT h' hv
 ·have:=DM h hv;rw[this];exact(qf h).symm
def qo{ds es:List DV}:∀(fs:List Field),jL P fs ds=true->jL P fs es=true->∀n,
 (Op.eqFields (n+1) (ds.map DV.fj).toArray (es.map DV.fj).toArray fs).run P w=.ok (fs.all λf=>match ds[f.offset]?,es[f.offset]? with|some a,some b=>nc a b|_,_=>false) w
 |[],_,_,n=>by simp[Op.eqFields]
 |f::r,h1,h2,n=>by
  obtain⟨a1,a2,d,a3,a4⟩:=jC h1 f (aaJ ..);obtain⟨_,_,e,b3,b4⟩:=jC h2 f (aaJ ..);have r1:jL P r ds=true:=by simp only[jL,cn]at h1;exact h1.2
  have r2:jL P r es=true:=by simp only[jL,cn]at h2;exact h2.2
  have p1:=mh (P:=P) (w:=w) (d:=d) (off:=f.offset) (arr:=(ds.map DV.fj).toArray) a2 (by simp[a3]);have p2:=mh (P:=P) (w:=w) (d:=e) (off:=f.offset) (arr:=(es.map DV.fj).toArray) a2 (by simp[b3]);simp only[Op.eqFields,if_pos a1,bG,p1,p2,Hl a4 b4,gE,abi,a3,b3]
  cases hb:nc d e with
  |false=>simp
  |true=>simp only[Bool.not_true,Zj,if_false,Bool.true_and];exact qo r r1 r2 n
def EE{es:List DV}{fs:List Field}(h1:fs.map (·.offset)=List.range ds.length)(h2:fs.map (·.offset)=List.range es.length):
 (fs.all λf=>match ds[f.offset]?,es[f.offset]? with|some a,some b=>nc a b|_,_=>false)=J5 ds es:=by
 have hl:ds.length=es.length:=by
  have:=congrArg List.length (h1.symm.trans h2);simpa using this
 have h3:(fs.all λf=>match ds[f.offset]?,es[f.offset]? with|some a,some b=>nc a b|_,_=>false) =
  ((fs.map (·.offset)).all λi=>match ds[i]?,es[i]? with|some a,some b=>nc a b|_,_=>false):=by rw[List.all_map];rfl
 rw[h3,h1];clear h1 h2 h3 fs
 induction ds generalizing es with
 |nil=>cases es with
  |nil=>rfl
  |cons b m=>simp at hl
 |cons a l ih=>
  cases es with
  |nil=>simp at hl
  |cons b m=>
   simp only[ZA,List.range_succ_eq_map,abi,abH,J5,List.all_map];congr 1;have:=ih (es:=m) (by simpa using hl);rw[<-this];congr 1
def QH{e:DV}(h1:fV P T d=true)(h2:fV P T e=true)(n:Nat):(Op.equalIn (n+2) T d.fU e.fU).run P w=.ok (y7 d e) w:=by
 cases hT:P.underlying T with
 |none=>unfold fV at h1;simp[hT,ef]at h1
 |some t=>
  by_cases hs:∃fs,t=.struct fs
  ·obtain⟨fs,rfl⟩:=hs;have hfo:P.fieldsOf T=fs:=by simp[Program.fieldsOf,hT]
   cases d with
   |agg ds=>
    cases e with
    |agg es=>
     simp only[fV,hT,cn,beq_iff_eq,Zy]at h1 h2;obtain⟨⟨q1,q2⟩,q3⟩:=h1;obtain⟨⟨p1,p2⟩,p3⟩:=h2;simp only[DV.fU,y7];rw[run_equalIn_struct w (n+1) T _ _ (by rw[hfo];exact hT) q1,hfo,qo _ q2 p2,EE q3 p3]
    |_=>unfold fV at h2;simp[hT,ef]at h2
   |_=>unfold fV at h1;simp[hT,ef]at h1
  ·have key:∀x,fV P T x=true->ef P T x=true:=by
    intro x hx;unfold fV at hx;split at hx
    ·rename_i fs ds h;rw[hT]at h;simp only[ai]at h;exact absurd ⟨fs,h⟩ hs
    ·exact hx
   have e1:=key _ h1;have e2:=key _ h2
   have k1:∀x,ef P T x=true->x.fU=x.fj:=by
    intro x hx;cases x with
    |agg ds=>unfold ef at hx;split at hx<;>simp_all
    |_=>rfl
   rw[k1 _ e1,k1 _ e2,Hl e1 e2]
   have:y7 d e=nc d e:=by
    cases d with
    |agg ds=>unfold ef at e1;split at e1<;>simp_all
    |_=>rfl
   rw[this]
def sU{α:Type}{f:α->Sem (ForInStep PUnit)}:∀(l:List α),(∀x∈l,(f x).run P w=.ok (.yield ⟨⟩) w)->(forIn l PUnit.unit (λx _=>f x)).run P w=.ok ⟨⟩ w
 |[],_=>by simp
 |x::l,h=>by
  simp only[List.forIn_cons,bG,h x (aaJ ..),gE];exact sU l λy hy=>h y (aaI _ hy)
def AZ(h1:fV P T d=true)(em:Bool)(n:Nat):(Instr.checkKey em (n+2) T d.fU).run P w=.ok () w:=by
 cases hT:P.underlying T with
 |none=>unfold fV at h1;simp[hT,ef]at h1
 |some t=>
  by_cases hs:∃fs,t=.struct fs
  ·obtain⟨fs,rfl⟩:=hs
   cases d with
   |agg ds=>
    simp only[fV,hT,cn,beq_iff_eq,Zy]at h1;obtain⟨⟨q1,q2⟩,q3⟩:=h1;simp only[DV.fU];rw[Instr.checkKey];simp only[bG,run_underlying hT,gE];rw[<-Array.forIn_toList]
    have:=sU (P:=P) (w:=w) (f:=λf:Field=>(if f.name ≠ "_" then(do Instr.checkKey em (n+1) f.type (<-part f.type (ds.map DV.fj).toArray f.offset);pure (.yield ⟨⟩))else pure (.yield ⟨⟩):Sem (ForInStep PUnit))) fs.toList (λf hf=>by
     obtain⟨a1,a2,x,a3,a4⟩:=jC q2 f hf;have p1:=mh (P:=P) (w:=w) (d:=x) (off:=f.offset) (arr:=(ds.map DV.fj).toArray) a2 (by simp[a3]);simp[a1,p1,zE a4])
    simp at this⊢;rw[this];rfl
   |_=>unfold fV at h1;simp[hT,ef]at h1
  ·have e1:ef P T d=true:=by
    unfold fV at h1;split at h1
    ·rename_i fs ds h;rw[hT]at h;simp only[ai]at h;exact absurd ⟨fs,h⟩ hs
    ·exact h1
   have k1:d.fU=d.fj:=by
    cases d with
    |agg ds=>unfold ef at e1;split at e1<;>simp_all
    |_=>rfl
   rw[k1];exact zE e1 em (n+1)
end
def lB(k:DV):List (DV×AV)->Option Nat
 |[]=>none
 |e::es=>if y7 k e.1 then some 0 else(lB k es).map (·+1)
def vo{k:DV}:∀{es:List (DV×AV)}{i:Nat},lB k es=some i->∃e,es[i]?=some e/\e.1=k
 |[],_,h=>by cases h
 |e::es,i,h=>by
  simp only[lB]at h;split at h
  ·rename_i hb
   simp only[ai]at h;subst h;exact⟨e,rfl,(O4 hb).symm⟩
  ·rw[Zx]at h;obtain⟨j,hj,rfl⟩:=h;obtain⟨e',h1,h2⟩:=vo hj;exact⟨e',by simpa using h1,h2⟩
def zY(k:DV)(y:AV)(es:List (DV×AV)):List (DV×AV):=
 match lB k es with
 |some i=>es.set i (k,y)
 |none=>es++[(k,y)]
section
variable {P:Program}{w:World}{M:Mem}
def Bo{k:DV}(hk:fV P T k=true)(hes:∀e∈es,fV P T e.1=true){ents:List MapEntry}(hl:ents.length=es.length)
 (hr:∀i (h:i<es.length) (h':i<ents.length),Rd M ents[i].key es[i].1) :
 (Instr.findKey T k.fU ents).run P w=.ok ((lB k es).bind λi=>ents[i]?.map λe=>(i,e.val)) w:=by
 have hkeys:∀i (h:i<es.length) (h':i<ents.length),ents[i].key=es[i].1.fU:=λi h h'=>xK (hes _ (bh h)) (hr i h h')
 clear hr
 cases hT:P.underlying T with
 |none=>unfold fV at hk;simp[hT,ef]at hk
 |some t=>
  by_cases hs:∃fs,t=.struct fs
  ·obtain⟨fs,rfl⟩:=hs;rw[run_findKey_eq w (by simp[hT])]
   have key:∀(es:List (DV×AV)) (ents:List MapEntry) (n:Nat),(∀e∈es,fV P T e.1=true)->ents.length=es.length->(∀i (h:i<es.length) (h':i<ents.length),ents[i].key=es[i].1.fU) ->
    (Instr.findAsking T k.fU ents n).run P w=.ok ((lB k es).bind λi=>ents[i]?.map λe=>(n+i,e.val)) w:=by
    intro es
    induction es with
    | nil=>intro ents n _ hl _;have:ents=[]:=Z4 (by simpa using hl)
           subst this;simp[Instr.findAsking,lB]
    |cons e es ih=>
     intro ents n h1 hl h2
     cases ents with
     |nil=>simp at hl
     |cons m ents=>
      have hm:=h2 0 (by simp) (by simp);simp only[ZJ]at hm;have he:(Op.equal T k.fU m.key).run P w=.ok (y7 k e.1) w:=by rw[hm];exact QH hk (h1 e (aaJ ..)) 9998
      simp only[Instr.findAsking,bG,he,gE,lB]
      cases hb:y7 k e.1 with
      |true=>simp
      |false=>
       simp only[Zj,if_false];rw[ih ents (n+1) (λe he=>h1 e (aaI _ he)) (by simpa using hl) (λi p q=>h2 (i+1) (by simp;omega) (by simp;omega))]
       cases lB k es with
       |none=>simp
       |some i=>simp;congr 1;funext x;rw[aaH,Z8 1]
   have:=key es ents 0 hes hl hkeys;simpa using this
  ·have hsc:∀x,fV P T x=true->ef P T x=true:=by
    intro x hx;unfold fV at hx;split at hx
    ·rename_i fs ds h;rw[hT]at h;simp only[ai]at h;exact absurd ⟨fs,h⟩ hs
    ·exact hx
   have key:∀(es:List (DV×AV)) (ents:List MapEntry) (n:Nat),(∀e∈es,fV P T e.1=true)->ents.length=es.length->(∀i (h:i<es.length) (h':i<ents.length),ents[i].key=es[i].1.fU) ->
    Instr.findNow t k.fU ents n=some ((lB k es).bind λi=>ents[i]?.map λe=>(n+i,e.val)):=by
    intro es
    induction es with
    | nil=>intro ents n _ hl _;have:ents=[]:=Z4 (by simpa using hl)
           subst this;simp[Instr.findNow,lB]
    |cons e es ih=>
     intro ents n h1 hl h2
     cases ents with
     |nil=>simp at hl
     |cons m ents=>
      have hm:=h2 0 (by simp) (by simp);simp only[ZJ]at hm;have e1:=hsc _ hk;have e2:=hsc _ (h1 e (aaJ ..))
      have hb2:y7 k e.1=nc k e.1:=by
       cases k with
       |agg ds=>unfold ef at e1;split at e1<;>simp_all
       |_=>rfl
      have he:Instr.sameNow t k.fU m.key=some (y7 k e.1):=by rw[hm,qf e1,qf e2,Mh hT e1 e2,hb2]
      simp only[Instr.findNow,he,lB]
      cases hb:y7 k e.1 with
      |true=>simp
      |false=>
       simp only[Zj,if_false];rw[ih ents (n+1) (λe he=>h1 e (aaI _ he)) (by simpa using hl) (λi p q=>h2 (i+1) (by simp;omega) (by simp;omega))]
       cases lB k es with
       |none=>simp
       |some i=>simp;congr 1;funext x;rw[aaH,Z8 1]
   have:=key es ents 0 hes hl hkeys;simp only[Instr.findKey,bG,run_underlying hT,gE,this];simp
def Lw(h1:fV P T d=true)(n:Nat):Instr.sameBits (n+1) d.fU d.fU=true:=by
 unfold fV at h1;split at h1
 ·rename_i fs ds hT
  simp only[cn,beq_iff_eq,Zy]at h1;obtain⟨⟨q1,q2⟩,q3⟩:=h1;simp only[DV.fU,Instr.sameBits,beq_self_eq_true,Bool.true_and,Zb];intro p hp
  have:p.1=p.2/\∃x∈ds,p.1=x.fj:=by
   have hz:∀(l:List Value) (p:Value×Value),p∈l.zip l->p.1=p.2/\p.1∈l:=by
    intro l
    induction l with
    |nil=>intro p hp;simp at hp
    |cons a l ih=>
     intro p hp;simp only[List.zip_cons_cons,rP]at hp;rcases hp with rfl|hp
     ·exact⟨rfl,aaJ ..⟩
     ·exact⟨(ih p hp).1,aaI _ (ih p hp).2⟩
   have:=hz _ p hp;refine⟨this.1,?_⟩;have h2:=this.2;simp only[ZX]at h2;obtain⟨x,hx,h3⟩:=h2;exact⟨x,hx,h3.symm⟩
  obtain⟨h2,x,hx,h3⟩:=this;obtain⟨i,hi,rfl⟩:=List.mem_iff_getElem.1 hx;have hm:i∈fs.toList.map (·.offset):=by rw[q3];exact List.mem_range.2 hi
  obtain⟨f,hf,rfl⟩:=List.mem_map.1 hm;obtain⟨_,_,d,hd,hs⟩:=jC q2 f hf;have hd':ds[f.offset]=d:=by rw[cy hi]at hd;simpa using hd
  rw[<-h2,h3,hd'];exact AB hs n
 ·rw[qf h1];exact AB h1 (n+1)
def BA(h1:fV P T d=true):(Instr.keyThatStays d.fU d.fU).run P w=.ok d.fU w:=by
 simp[Instr.keyThatStays,Lw h1 9999]
end
section
variable {c:Ctx}{F:Nat->Prop}{β:Key->Nat}{s:aE}{a:Act}{w:World}
def aF.allocMap(h:aF c F β s a w)(hκ:s.lv κ=.hole):
 aF c F (az β κ w.heap.size) ⟨s.fr,az s.lv κ (.map true [])⟩ a (w.alloc (.map #[] 0)):=by
 have hnew:∀b,F b->b≠w.heap.size:=λb hb e=>by have:=(h.mo b hb).1;omega
 have hge:=h.ge
 have hlt:∀k,(∃own fz T cs,s.lv k=.cells own fz T cs)\/(∃own es,s.lv k=.map own es)->β k<w.heap.size:=by
  intro k hk;have hb:=h.bQ k;unfold Vw.bQ at hb;rcases hk with⟨o,fz,T,cs,e⟩|⟨o,es,e⟩
  ·simp only[e]at hb;obtain⟨_,h1,_⟩:=hb;exact eL h1
  ·simp only[e]at hb;obtain⟨_,_,h1,_⟩:=hb;exact eL h1
 refine h.step (λ_ h=>h) (λb hb=>by rw[heap_alloc,if_neg (hnew b hb)]) ?_ ?_ (jj w _) ?_ ?_ (λb h=>.inl h) (by simp) ?_
 ·intro k
  by_cases e:k=κ
  ·subst e;rw[hκ];simp[LB.sub]
  ·rw[aH _ _ e];exact LB.bE _
 ·intro k hk _;have e:k≠κ:=λe=>hk (e▸hκ)
  exact aH _ _ e
 ·intro k hK
  by_cases e:k=κ
  ·subst e;simp only[Vw.bQ,aC];refine⟨#[],0,by rw[heap_alloc,if_pos rfl],rfl,λi x=>by simp at x,λhf=>hnew _ hf rfl,?_⟩;simp only[eN,if_true];exact hge
  ·have hb:=h.bQ k
   cases ek:s.lv k with
   |cells own fz T cs=>
    have:=hlt k (.inl ⟨_,_,_,_,ek⟩);refine Vw.bL hb hK (aH _ _ e) (aH _ _ e) ?_ (λ_ h=>h);show(w.alloc _).heap[β k]?=_;rw[heap_alloc,if_neg (by omega)]
   |map own es=>
    have:=hlt k (.inr ⟨_,_,ek⟩);refine Vw.bL hb hK (aH _ _ e) (aH _ _ e) ?_ (λ_ h=>h);show(w.alloc _).heap[β k]?=_;rw[heap_alloc,if_neg (by omega)]
   |hole=>unfold Vw.bQ;simp only[aH _ _ e,ek]
   |dead=>unfold Vw.bQ;simp only[aH _ _ e,ek]
   |nils=>unfold Vw.bQ;simp only[aH _ _ e,ek]
 ·intro k k' hk hk' he
  have side:∀j,j≠κ->(az s.lv κ (.map true []) j).live=true->β j<w.heap.size:=by
   intro j hj hl;rw[aH _ _ hj]at hl;exact h.fZ hl
  by_cases e:k=κ<;>by_cases e':k'=κ
  ·rw[e,e']
  ·subst e;have:=side k' e' hk';rw[aC,aH _ _ e']at he;omega
  ·subst e';have:=side k e hk;rw[aC,aH _ _ e]at he;omega
  ·rw[aH _ _ e,aH _ _ e']at he;rw[aH _ _ e]at hk;rw[aH _ _ e']at hk';exact h.inj _ _ hk hk' he
 ·intro b hb _;rw[heap_alloc,if_neg (by omega)]
theorem Dp{r:Option Operand}(hd:∀d,o.dst=some d->d<c.n)(ho:o.op=.makeMap T r)(hr:r=none)(hκ:s.lv κ=.hole):
 cg c o s (aE.put ⟨s.fr,az s.lv κ (.map true [])⟩ o.dst (.c (.mapr κ))):=
 cg.eI hd λF β a w hs=>by
  subst hr;refine⟨.map (some w.heap.size),F,az β κ w.heap.size,_,by simp[execOp,ho,Instr.makeMap],hs.allocMap hκ,?_,rfl⟩;simp only[Vw.lC,aC]
def aF.Rk(h:aF c F β s a w){es':List (DV×AV)}(hk:s.lv k=.map own es){ents ents':Array MapEntry}{cl cl':Nat}
 (hg:w.heap[β k]?=some (.map ents cl)) (hl:ents'.size=es'.length)
 (hc:∀i (h:i<es'.length) (h':i<ents'.size),Rd (me w F) ents'[i].key es'[i].1/\(Vw.mk F β s.lv w).n8 ents'[i].val es'[i].2) :
 aF c F β ⟨s.fr,az s.lv k (.map own es')⟩ a { w with heap:=w.heap.setIfInBounds (β k) (.map ents' cl') }:=by
 have hlive:(s.lv k).live=true:=by rw[hk];rfl
 have hoth:∀b,b≠β k->(w.heap.setIfInBounds (β k) (.map ents' cl'))[b]?=w.heap[b]?:=by
  intro b hb;rw[abA,if_neg (λe=>hb e.symm)]
 have hb0:=h.bQ k;unfold Vw.bQ at hb0;simp only[hk]at hb0;obtain⟨e0,c0,p1,p2,p3,p4,p5⟩:=hb0;refine h.step (λ_ h=>h) (λb hb=>hoth b (λe=>h.mU hlive (e▸hb))) ?_ (λ_ _ _=>rfl) (λb=>?_) ?_ ?_ (λb h=>.inl h) (by simp) ?_
 ·intro k'
  by_cases e:k'=k
  ·subst e;rw[aC,hk];simp[LB.sub]
  ·rw[aH _ _ e];exact LB.bE _
 ·by_cases e:b=β k
  ·subst e;simp[cD,hg]
  ·simp only[cD,hoth b e];exact aY _
 ·intro k' hK
  by_cases e:k'=k
  ·subst e;unfold Vw.bQ;simp only[aC];refine⟨ents',cl',?_,hl,λi x y=>?_,p4,p5⟩
   ·rw[abA,if_pos rfl,if_pos (eL hg)]
   ·exact⟨Rd.mono (gG hK.F hK.mem) (hc i x y).1,hK.n8 (hc i x y).2⟩
  ·have hb:=h.bQ k'
   by_cases hl:(s.lv k').live=true
   ·exact Vw.bL hb hK (aH _ _ e) rfl (hoth _ (λe'=>e (h.inj _ _ hl hlive e'))) (λ_ h=>h)
   ·cases ek:s.lv k' with
    |cells o fz T' cs'=>
     cases fz with
     |false=>rw[ek]at hl;exact absurd rfl hl
     |true=>
      have hF:F (β k'):=by unfold Vw.bQ at hb;simp only[ek]at hb;obtain⟨_,_,_,_,h4,_⟩:=hb;exact h4
      exact Vw.bL hb hK (aH _ _ e) rfl (hoth _ (λe'=>h.mU hlive (e'▸hF))) (λ_ h=>h)
    |map o es=>rw[ek]at hl;exact absurd rfl hl
    |hole=>unfold Vw.bQ;simp only[aH _ _ e,ek]
    |dead=>unfold Vw.bQ;simp only[aH _ _ e,ek]
    |nils=>unfold Vw.bQ;simp only[aH _ _ e,ek]
 ·intro k1 k2 a1 a2 he
  have g:∀k',(az s.lv k (.map own es') k').live=true->(s.lv k').live=true:=by
   intro k' hk'
   by_cases e:k'=k
   ·subst e;exact hlive
   ·rwa[aH _ _ e]at hk'
  exact h.inj _ _ (g _ a1) (g _ a2) he
 ·intro b hb hnW;refine hoth b (λe=>?_);rcases h.eX hlive with h1|h1
  ·omega
  ·exact hnW (e▸h1)
def Dq(P:Program)(T:TypeId):Option (TypeId×TypeId):=
 match P.underlying T with
 |some (.map k e)=>some (k,e)
 |_=>none
def vB{k:TypeId}(h:Dq P T=some (k,e)):P.underlying T=some (.map k e):=by
 unfold Dq at h;split at h
 ·rename_i h';simp only[ai,fy]at h;obtain⟨rfl,rfl⟩:=h;exact h'
 ·cases h
theorem Ak{v:AV}(hd:∀d,o.dst=some d->d<c.n)(ho:o.op=.mapUpdate T m kx y\/o.op=.insert T m kx y)
 (hm:s.val c.G m=.c (.mapr k)) (hk:s.lv k=.map own es) (hT:Dq c.P T=some (kT,eT)) (hkx:n7 (s.val c.G kx)=some d) (hkT:fV c.P kT d=true) (hes:∀e∈es,fV c.P kT e.1=true) (hy:s.val c.G y=v) (hv:∀l,v≠.tup l) :
 cg c o s (aE.put ⟨s.fr,az s.lv k (.map own (zY d v es))⟩ o.dst .undef):=
 cg.HT hd λF β a w hs=>by
  have hmv:=hm▸hs.val m;obtain⟨hmv,_⟩:=hmv;simp only[Vw.lC,hk]at hmv;have hkv:=xK hkT (Vw.deep (hs.val kx) hkx)
  have hyv:(Vw.mk F β s.lv w).n8 (a.eval y) v:=by
   have h1:=hy▸hs.val y
   cases v with
   |tup l=>exact absurd rfl (hv l)
   |_=>exact h1
  have hb:=hs.bQ k;unfold Vw.bQ at hb;simp only[hk]at hb;obtain⟨ents,cl,b1,b2,b3,b4,b5⟩:=hb;have hu:=vB hT;have hf:=Bo (P:=c.P) (w:=w) (M:=me w F) hkT hes (ents:=ents.toList) (by simpa using b2) (λi p q=>by have:=(b3 i p (by simpa using q)).1;simp only[ZR];exact this);have hck:=AZ (P:=c.P) (w:=w) hkT false 9998;have hob:(getObj (β k)).run c.P w=.ok (.map ents cl) w:=by simp[getObj,Sem.run,b1]
  have hset:∀e' c',(setObj (β k) (.map e' c')).run c.P w=.ok () { w with heap:=w.heap.setIfInBounds (β k) (.map e' c') }:=by intro e' c';simp[setObj,Sem.run,b1]
  have hrun:∃e' c',(Instr.mapUpdate T (.map (some (β k))) d.fU (a.eval y)).run c.P w=.ok () { w with heap:=w.heap.setIfInBounds (β k) (.map e' c') }/\e'.size=(zY d v es).length /\
   ∀i (h:i<(zY d v es).length) (h':i<e'.size),Rd (me w F) e'[i].key (zY d v es)[i].1/\(Vw.mk F β s.lv w).n8 e'[i].val (zY d v es)[i].2:=by
   have hkr:Rd (me w F) d.fU d:=hkv▸Vw.deep (hs.val kx) hkx
   cases hfk:lB d es with
   |none=>
    rw[hfk]at hf;refine⟨ents.push { key:=d.fU,val:=a.eval y,born:=cl },cl+1,?_,?_,?_⟩
    ·simp only[Instr.mapUpdate,bG,run_underlying hu,gE,hob,hck,hf,Option.bind_none];simp[hset]
    ·simp[zY,hfk,b2]
    ·intro i p q;simp only[zY,hfk]at p ⊢
     by_cases hi:i<es.length
     ·rw[ZN hi,Array.getElem_push_lt (by omega)];exact b3 i hi (by omega)
     ·have hi2:i=es.length:=by simp at p;omega
      subst hi2;rw[Z3 (by omega)];simp only[aa2,ZJ]
      have:(ents.push { key:=d.fU,val:=a.eval y,born:=cl })[es.length]={ key:=d.fU,val:=a.eval y,born:=cl }:=by
       have:=Array.getElem_push_eq (xs:=ents) (x:={ key:=d.fU,val:=a.eval y,born:=cl });simp only[b2]at this;exact this
      rw[this];exact⟨hkr,hyv⟩
   |some i=>
    obtain⟨e,he1,he2⟩:=vo hfk;obtain⟨hi,hie⟩:=List.getElem?_eq_some_iff.1 he1;have hi':i<ents.size:=by omega
    have hkk:ents[i].key=d.fU:=by
     have:=xK (hes _ (bh hi)) (b3 i hi hi').1;rw[this,hie,he2]
    rw[hfk]at hf;refine⟨ents.modify i λe=>{ e with key:=d.fU,val:=a.eval y },cl,?_,?_,?_⟩
    ·have h1:ents.toList[i]?=some ents[i]:=by simp[hi']
     simp only[Instr.mapUpdate,bG,run_underlying hu,gE,hob,hck,hf,Option.bind_some,h1,Zs];have h2:((ents[i]?.map (·.key)).getD d.fU)=d.fU:=by simp[hi',hkk]
     rw[h2,BA hkT];simp[hset]
    ·simp[zY,hfk,b2]
    ·intro j p q;simp only[zY,hfk]at p⊢;simp only[Array.getElem_modify,List.getElem_set]
     by_cases e:i=j
     ·subst e;simp only[if_true];exact⟨hkr,hyv⟩
     ·simp only[if_neg e];exact b3 j (by simpa using p) (by simpa using q)
  obtain⟨e',c',r1,r2,r3⟩:=hrun;refine⟨F,β,_,?_,hs.Rk (cl':=c') hk b1 r2 r3⟩;rcases ho with ho|ho<;>simp[execOp,ho,hmv,hkv,r1]
def A9(P:Program)(T:TypeId):Option AV:=((P.info? T).bind (·.zero)).map qA
def Et{x:AV}(h:A9 P T=some x)(V:Vw)(w:World):∃v,(zeroValue T).run P w=.ok v w/\V.av v x/\(∀l,x≠.tup l):=by
 unfold A9 at h;rw[Zx]at h;obtain⟨z,hz,rfl⟩:=h;obtain⟨i,hi,hz⟩:=Option.bind_eq_some_iff.1 hz;refine⟨z,by simp[zeroValue,typeInfo,hi,hz],vt V z,?_⟩;intro l;unfold qA;split
 ·split<;>simp
 ·simp
 ·simp
def M8(P:Program)(eT:TypeId)(d:DV)(es:List (DV×AV)):Option (AV×Bool):=
 match lB d es with
 |some i=>(es[i]?).map λe=>(e.2,true)
 |none=>(A9 P eT).map λz=>(z,false)
theorem FI{v:AV}(hd:∀d,o.dst=some d->d<c.n)(ho:o.op=.lookup T m kx ok)
 (hm:(∃k own,s.val c.G m=.c (.mapr k)/\s.lv k=.map own es)\/(s.val c.G m=.c (.d .nilmap)/\es=[])) (hT:Dq c.P T=some (kT,eT)) (hkx:n7 (s.val c.G kx)=some d) (hkT:fV c.P kT d=true) (hes:∀e∈es,fV c.P kT e.1=true)
 (hl:M8 c.P eT d es=some (v,b)) (hv:∀l,v≠.tup l) :
 cg c o s (s.put o.dst (if ok then .tup [v,.c (.d (.bool b))]else v)):=
 cg.aW hd λF β a w hs=>by
  have hkv:=xK hkT (Vw.deep (hs.val kx) hkx);have hu:=vB hT
  have hents:∃ents:List MapEntry,ents.length=es.length/\(∀i (h:i<es.length) (h':i<ents.length),Rd (me w F) ents[i].key es[i].1/\(Vw.mk F β s.lv w).n8 ents[i].val es[i].2) /\
   (Instr.lookup T (a.eval m) d.fU ok).run c.P w=(do
    Instr.checkKey ents.toArray.isEmpty 10000 kT d.fU
    let (v,b) <-match <-Instr.findKey kT d.fU ents with
     |some (_,v)=>pure (v,true)
     |none=>pure (<-zeroValue eT,false)
    pure (if ok then .tuple #[v,.bool b]else v):Sem Value).run c.P w:=by
   rcases hm with⟨k,own,hm,hk⟩|⟨hm,rfl⟩
   ·have hmv:=hm▸hs.val m;obtain⟨hmv,_⟩:=hmv;simp only[Vw.lC,hk]at hmv;have hb:=hs.bQ k;unfold Vw.bQ at hb;simp only[hk]at hb;obtain⟨ents,cl,b1,b2,b3,b4,b5⟩:=hb;have hob:(getObj (β k)).run c.P w=.ok (.map ents cl) w:=by simp[getObj,Sem.run,b1]
    refine⟨ents.toList,by simpa using b2,λi p q=>by have:=b3 i p (by simpa using q);simp only[ZR];exact this,?_⟩;simp only[Instr.lookup,hmv,bG,run_underlying hu,gE,hob,ZF,Array.toArray_toList];rfl
   ·have hmv:=hm▸hs.val m;obtain⟨hmv,_⟩:=hmv;obtain⟨u,hu'⟩:∃u,a.eval m=u:=⟨_,rfl⟩
    rw[hu']at hmv
    cases hmv
    refine⟨[],rfl,λi p=>by simp at p,?_⟩;rw[hu'];simp only[Instr.lookup,bG,run_underlying hu,gE,ZF];rfl
  obtain⟨ents,e1,e2,e3⟩:=hents;have hf:=Bo (P:=c.P) (w:=w) (M:=me w F) hkT hes e1 (λi p q=>(e2 i p q).1);have hck:=λem=>AZ (P:=c.P) (w:=w) hkT em 9998
  have hres:∃u,(Instr.lookup T (a.eval m) d.fU ok).run c.P w=.ok (if ok then .tuple #[u,.bool b]else u) w/\(Vw.mk F β s.lv w).n8 u v:=by
   rw[e3];unfold M8 at hl;split at hl
   ·rename_i i hfk
    obtain⟨e,he1,he2⟩:=vo hfk;obtain⟨hi,hie⟩:=List.getElem?_eq_some_iff.1 he1;rw[he1]at hl;simp only[Zs,ai,fy]at hl;obtain⟨rfl,rfl⟩:=hl;rw[hfk]at hf;have h1:ents[i]?=some (ents[i]'(by omega)):=cy (by omega);refine⟨(ents[i]'(by omega)).val,?_,?_⟩
    ·simp only[bG,hck,gE,hf,Option.bind_some,h1,Zs,ZF]
    ·have:=(e2 i hi (by omega)).2;rwa[hie]at this
   ·rename_i hfk
    rw[Zx]at hl;obtain⟨z,hz,hl⟩:=hl;simp only[fy]at hl;obtain⟨rfl,rfl⟩:=hl;obtain⟨u,hu1,SD,_⟩:=Et hz (Vw.mk F β s.lv w) w;rw[hfk]at hf;refine⟨u,?_,?_⟩
    ·simp only[bG,hck,gE,hf,Option.bind_none,hu1,ZF]
    ·cases z with
     |tup l=>exact absurd rfl (hv l)
     |_=>exact SD
  obtain⟨u,r1,r2⟩:=hres;refine⟨if ok then .tuple #[u,.bool b]else u,by simp[execOp,ho,hkv,r1],?_⟩
  cases ok with
  |false=>
   simp only[Zj,if_false]
   cases v with
   |tup l=>exact absurd rfl (hv l)
   |_=>exact r2
  |true=>
   simp only[if_true];refine⟨#[u,.bool b],rfl,rfl,λi p q=>?_⟩;have:i=0\/i=1:=by simp at p;omega
   rcases this with rfl|rfl
   ·exact r2
   ·exact⟨.bool b,rfl⟩
end
section
variable {c:Ctx}{F:Nat->Prop}{β:Key->Nat}{s:aE}{a:Act}{w:World}
def ja(h:ug P T=some (n,e,sz)){b o:Nat}{lo hi:Option Value}{l hh:Int}
 (hlo:lo=none/\l=0\/∃k,lo=some (.int k l)) (hhi:hi=none/\hh=n\/∃k,hi=some (.int k hh)) (h0:0<=l) (h1:l<=hh) (h2:hh<=n) (w:World) :
 (Instr.sliceAt T (.pointer (some ⟨b,o,none⟩)) lo hi none).run P w=.ok (.slice (some (if n=l.toNat then⟨b,o,none⟩ else⟨b,o+l.toNat*sz,none⟩)) (hh.toNat-l.toNat) (n-l.toNat)) w:=by
 obtain⟨hu,hie,hsz⟩:=xV h;have hr:=iG (P:=P) (isSlice:=false) (len:=n) (cap:=n) hlo hhi h0 h1 h2 w;simp only[Instr.sliceAt,bG,run_underlying hu,gE,Instr.sureAddr,ZF,hr,run_sizeOf hie,hsz];congr 3;split
 ·rfl
 ·rw[aa0]
theorem Bz{l:Int}(hd:∀d,o.dst=some d->d<c.n)(ho:o.op=.slice T x lo hi none)
 (hx:s.val c.G x=.c (.ptr κ off)) (hk:s.lv κ=.cells own fz T' cs) (hT:ug c.P T=some (n,e,sz)) (hcs:off+n*sz<=cs.length) (hlo:cU (lo.map (s.val c.G)) 0=some l) (hhi:cU (hi.map (s.val c.G)) n=some h)
 (h0:0<=l) (h1:l<=h) (h2:h<=n) (h3:l<h\/l=0):cg c o s (s.put o.dst (.c (.aD κ (off+l.toNat*sz) (h.toNat-l.toNat) sz))):=
 cg.aW hd λF β a w hs=>by
  have hv:=hx▸hs.val x;obtain⟨hv,_⟩:=hv;simp only[Vw.dh,hk]at hv;have hr:=ja hT (b:=β κ) (o:=off) (ic (λx=>hs.val x) hlo) (ic (λx=>hs.val x) hhi) h0 h1 h2 w;refine⟨_,by simp only[execOp,ho,abd,hv];simp[hr];rfl,?_,rfl⟩;simp only[Vw.cG,hk];have hb:=hs.bQ κ;unfold Vw.bQ at hb;simp only[hk]at hb;obtain⟨arr,b1,b2,_⟩:=hb;have has:cD w (β κ)=arr.size:=by simp[cD,b1]
  have e1:(if n=l.toNat then(⟨β κ,off,none⟩:Addr)else⟨β κ,off+l.toNat*sz,none⟩)=⟨β κ,off+l.toNat*sz,none⟩:=by
   split
   ·have:l.toNat=0:=by omega
    rw[this];simp
   ·rfl
  refine⟨n-l.toNat,by rw[e1],by omega,?_⟩;show off+l.toNat*sz+(n-l.toNat)*sz<=cD w (β κ);rw[has];have:l.toNat*sz+(n-l.toNat)*sz=n*sz:=by rw[<-Zh];congr 1;omega
  omega
theorem CO{cs:List DV}{l:Int}(hd:∀d,o.dst=some d->d<c.n)(ho:o.op=.slice T x lo hi none)
 (hx:s.val c.G x=.c (.d (.ptr cs))) (hT:ug c.P T=some (n,e,sz)) (hcs:n*sz<=cs.length) (hlo:cU (lo.map (s.val c.G)) 0=some l) (hhi:cU (hi.map (s.val c.G)) n=some h)
 (h0:0<=l) (h1:l<=h) (h2:h<=n) (h63:n<=9223372036854775807):cg c o s (s.put o.dst (.c (.d (.sl (((chunk sz n cs).take h.toNat).drop l.toNat))))):=
 cg.aW hd λF β a w hs=>by
  have hv:=hx▸hs.val x;obtain⟨hv,_⟩:=hv;obtain⟨u,hu⟩:∃u,a.eval x=u:=⟨_,rfl⟩
  rw[hu]at hv
  cases hv with
  |ptr b off vs _ hm ho' hr'=>
   have hr:=ja hT (b:=b) (o:=off) (ic (λx=>hs.val x) hlo) (ic (λx=>hs.val x) hhi) h0 h1 h2 w;refine⟨_,by simp only[execOp,ho,abd,hu];simp[hr];rfl,?_,rfl⟩;have hcl:(chunk sz n cs).length=n:=by simp[chunk]
   have hsz:∀i,i<n->i*sz+sz<=n*sz:=by
    intro i hi;have:(i+1)*sz<=n*sz:=Zq _ hi
    rwa[Zh,ZT]at this
   have key:=Rd.sl (M:=me w F) b off n sz (chunk sz n cs) (λi j=>vs (i*sz+j)) (by
    intro e he;obtain⟨i,hi,rfl⟩:=List.mem_iff_getElem.1 he;rw[hcl]at hi;have:=hsz i hi;simp[chunk];omega) (by rw[hcl];exact aY _) (by rw[hcl];exact h63)
    (by intro i hi j hj;rw[hcl]at hi;have:=hsz i hi;have:=hm (i*sz+j) (by omega);rw[<-aaH]at this;exact this)
    (by intro i hi j hj;rw[hcl]at hi;have:=hsz i hi;exact ho' _ (by omega))
    (by
     intro i hi j hj;rw[hcl]at hi;have h5:=hsz i hi;have hj':j<sz:=by simp[chunk]at hj;omega
     have h6:=hr' (i*sz+j) (by omega);simp only[chunk,Za,ab9,aaN,aaO];exact h6)
   rw[hcl]at key
   have hall:∀e∈chunk sz n cs,e.length=sz:=by
    intro e he;obtain⟨i,hi,rfl⟩:=List.mem_iff_getElem.1 he;rw[hcl]at hi;have:=hsz i hi;simp[chunk];omega
   have e1:(if n=l.toNat then(⟨b,off,none⟩:Addr)else⟨b,off+l.toNat*sz,none⟩)=⟨b,if n=l.toNat then off else off+l.toNat*sz,none⟩:=by split<;>rfl
   rw[e1];refine Rd.BE (l:=l.toNat) (h':=h.toNat) key hall (by omega) (by rw[hcl];omega) b _ ?_ (n-l.toNat) (by omega);intro hlt;rw[if_neg (by omega)];exact⟨rfl,rfl⟩
def MK(P:Program)(T:TypeId):Bool:=
 match P.underlying T with
 |some (.interface _)=>false
 |some _=>true
 |none=>false
def Lx:AV->Option (Option (TypeId×AV))
 |.c (.d (.iface t d))=>some (some (t,Ef d))
 |.c (.ifc t r)=>some (some (t,match r with
  |.d x=>Ef x
  |.ptr k o=>.c (.ptr k o)
  |.aD k o l z=>.c (.aD k o l z)
  |.agg cs=>.agg (cs.map λx=>match x with|.d x=>.d x|.ptr k o=>.ptr k o|.aD k o l z=>.aD k o l z)
  |.ifc t x=>.c (.ifc t x)))
 |.c (.d .nilIface)=>some none
 |_=>none
def Js{x:AV}{t:TypeId}{y:AV}(h:V.av v x)(hi:Lx x=some (some (t,y))):∃u,v=.iface t u/\V.av u y/\∀l,y≠.tup l:=by
 unfold Lx at hi;split at hi
 ·rename_i t' d
  simp only[ai,fy]at hi;obtain⟨rfl,rfl⟩:=hi;obtain⟨h,_⟩:=h
  cases h with
  |iface _ u _ hu=>exact⟨u,rfl,Vw.Ef hu,yx d⟩
 ·rename_i t' r
  simp only[ai,fy]at hi;obtain⟨rfl,rfl⟩:=hi;obtain⟨u,rfl,hu⟩:=h;refine⟨u,rfl,?_,?_⟩
  ·cases r with
   |d x=>exact Vw.Ef hu
   |ptr k o=>exact hu
   |aD k o l z=>exact hu
   |agg cs=>
    obtain⟨arr,rfl,h1,h2⟩:=hu;refine⟨arr,rfl,by simpa using h1,λi p q=>?_⟩;simp only[Za];have:=h2 i (by simpa using p) q;split<;>rename_i e<;>rw[e]at this<;>exact this
   |ifc t x=>exact hu
  ·intro l
   cases r with
   |d x=>exact yx x l
   |_=>simp
 ·cases hi
 ·cases hi
def Jj{x:AV}(h:V.av v x)(hi:Lx x=some none):v=.nilIface:=by
 unfold Lx at hi;split at hi
 ·cases hi
 ·cases hi
 ·obtain⟨h,_⟩:=h;cases h;rfl
 ·cases hi
def B3(P:Program)(T:TypeId)(ok:Bool)(x:AV):Option AV:=
 match Lx x with
 |some (some (t,y))=>if t=T then some (if ok then .tup [y,.c (.d (.bool true))]else y)
  else(if ok then(A9 P T).map λz=>.tup [z,.c (.d (.bool false))]else none)
 |some none=>if ok then(A9 P T).map λz=>.tup [z,.c (.d (.bool false))]else none
 |none=>none
def Hi{u:Value}{y:AV}(h:V.av u y)(hy:∀l,y≠.tup l):V.av (.tuple #[u,.bool b]) (.tup [y,.c (.d (.bool b))]):=by
 refine⟨#[u,.bool b],rfl,rfl,λi p q=>?_⟩;have:i=0\/i=1:=by simp at p;omega
 rcases this with rfl|rfl
 ·cases y with
  |tup l=>exact absurd rfl (hy l)
  |_=>exact h
 ·exact⟨.bool b,rfl⟩
theorem Fq{xT:TypeId}{v:AV}(hd:∀d,o.dst=some d->d<c.n)(ho:o.op=.typeAssert x xT T ok)(hT:MK c.P T=true)
 (hv:B3 c.P T ok (s.val c.G x)=some v):cg c o s (s.put o.dst v):=
 cg.aW hd λF β a w hs=>by
  have hx:=hs.val x
  obtain⟨ud,hu,hni⟩:∃u,c.P.underlying T=some u/\∀ms,u≠.interface ms:=by
   unfold MK at hT;split at hT
   ·cases hT
   ·rename_i u h1 h2;exact⟨u,h2,λms e=>h1 ms e⟩
   ·cases hT
  have hgen:∀(z:AV),A9 c.P T=some z->ok=true->∀u,(∀t w',u=.iface t w'->t≠T)->(u=.nilIface\/∃t w',u=.iface t w')->∃q,(Instr.typeAssert u xT T ok).run c.P w=.ok q w/\(Vw.mk F β s.lv w).av q (.tup [z,.c (.d (.bool false))]):=by
   intro z hz hok u hne hu';obtain⟨q,q1,q2,q3⟩:=Et hz (Vw.mk F β s.lv w) w;refine⟨.tuple #[q,.bool false],?_,Hi q2 q3⟩;subst hok;rcases hu' with rfl|⟨t,w',rfl⟩
   ·cases ud<;>first|exact absurd rfl (hni _)|simp[Instr.typeAssert,run_underlying hu,q1]
   ·have:=hne t w' rfl
    cases ud<;>first|exact absurd rfl (hni _)|simp[Instr.typeAssert,run_underlying hu,q1,this]
  unfold B3 at hv;split at hv
  ·rename_i t y hi
   obtain⟨u,hu1,SD,hu3⟩:=Js hx hi;split at hv
   ·rename_i e
    subst e;simp only[ai]at hv;subst hv
    cases ok with
    |false=>
     refine⟨u,?_,SD⟩;simp only[execOp,ho,hu1]
     cases ud<;>first|exact absurd rfl (hni _)|simp[Instr.typeAssert,run_underlying hu]
    |true=>
     refine⟨.tuple #[u,.bool true],?_,Hi SD hu3⟩;simp only[execOp,ho,hu1]
     cases ud<;>first|exact absurd rfl (hni _)|simp[Instr.typeAssert,run_underlying hu]
   ·rename_i hne
    cases ok with
    |false=>cases hv
    |true=>
     simp only[if_true,Zx]at hv;obtain⟨z,hz,rfl⟩:=hv;obtain⟨q,q1,q2⟩:=hgen z hz rfl (.iface t u) (λt' w' e=>by cases e;exact hne) (.inr ⟨_,_,rfl⟩);exact⟨q,by simp[execOp,ho,hu1,q1],q2⟩
  ·rename_i hi
   have hn:=Jj hx hi
   cases ok with
   |false=>cases hv
   |true=>
    simp only[if_true,Zx]at hv;obtain⟨z,hz,rfl⟩:=hv;obtain⟨q,q1,q2⟩:=hgen z hz rfl .nilIface (λt' w' e=>by cases e) (.inl rfl);exact⟨q,by simp[execOp,ho,hn,q1],q2⟩
  ·cases hv
theorem ED(hd:∀d,o.dst=some d->d<c.n)(ho:o.op=.call { callee:=.builtin .len,args:=#[x],argTypes:=#[T] })
 (hx:s.val c.G x=.c (.mapr k)) (hk:s.lv k=.map own es) (hT:(Dq c.P T).isSome=true) (h63:es.length<=9223372036854775807):cg c o s (s.put o.dst (.c (.d (.int .i64 es.length)))):=
 cg.aW hd λF β a w hs=>by
  have hmv:=hx▸hs.val x;obtain⟨hmv,_⟩:=hmv;simp only[Vw.lC,hk]at hmv;have hb:=hs.bQ k;unfold Vw.bQ at hb;simp only[hk]at hb;obtain⟨ents,cl,b1,b2,b3,b4,b5⟩:=hb;obtain⟨⟨kT,eT⟩,hT⟩:=Option.isSome_iff_exists.1 hT;have hu:=vB hT;have hob:(getObj (β k)).run c.P w=.ok (.map ents cl) w:=by simp[getObj,Sem.run,b1]
  refine⟨.int .i64 (es.length:Int),?_,Vw.kg _ _ _ (cM ⟨?_,?_⟩)⟩
  ·have hl:(Builtin.len_ #[T] o.type #[a.eval x]).run c.P w=.ok (.int .i64 (es.length:Int)) w:=by
    rw[hmv,<-b2];simp[Builtin.len_,run_underlying hu,hob,goInt]
   simp[execOp,ho,resolve,invoke,builtin,hl]
  ·simp only[Bl];omega
  ·simp only[qj];omega
theorem Aa{r:Ref}(hd:∀d,o.dst=some d->d<c.n)(ho:o.op=.makeInterface T x)
 (hx:xd (s.val c.G x)=some r) (hT:c.P.concrete T=true):cg c o s (s.put o.dst (.c (.ifc T r))):=
 cg.aW hd λF β a w hs=>by
  have hr:=Vw.xd (hs.val x) hx;refine⟨.iface T (a.eval x),?_,?_⟩
  ·simp only[execOp,ho,bG,run_makeInterface w T _ hT,gE];rfl
  ·exact⟨a.eval x,rfl,hr⟩
end
abbrev lQ:=AV×List (Key×LB)×List Key
variable {r:lQ}
def KB(P:Program)(op:BinOp)(T:TypeId)(lv:Key->LB)(x y:AV):Option lQ:=
 match su lv x with
 |some b=>if Hs x y&&yL P T x then(match op with|.eql=>some (.c (.d (.bool b)),[],RH x)|.neq=>some (.c (.d (.bool !b)),[],RH x)|_=>none)else none
 |none=>none
def FB:AV->Bool
 |.tup _=>false
 |_=>true
def rI(P:Program)(T:TypeId)(lv:Key->LB)(m kx y:AV):Option lQ:=
 match m with
 |.c (.mapr k)=>match lv k with
  |.map own es=>match Dq P T,n7 kx with
   |some (kT,_),some d=>if fV P kT d&&es.all (λe=>fV P kT e.1)&&FB y then some (.undef,[(k,.map own (zY d y es))],[])else none
   |_,_=>none
  |_=>none
 |_=>none
def L8(lv:Key->LB):AV->Option (List (DV×AV)×List Key)
 |.c (.mapr k)=>match lv k with|.map _ es=>some (es,[k])|_=>none
 |.c (.d .nilmap)=>some ([],[])
 |_=>none
def Jm{x:AV}(h:FB x=true):∀l,x≠.tup l:=by intro l e;rw[e]at h;cases h
def Er(P:Program)(T:TypeId)(ok:Bool)(lv:Key->LB)(m kx:AV):Option lQ:=
 match L8 lv m with
 |some (es,ks)=>match Dq P T,n7 kx with
  |some (kT,eT),some d=>if fV P kT d&&es.all (λe=>fV P kT e.1)then(match M8 P eT d es with
   |some (v,b)=>if FB v then some (if ok then .tup [v,.c (.d (.bool b))]else v,[],ks)else none
   |none=>none)else none
  |_,_=>none
 |none=>none
def rK(P:Program)(T:TypeId)(lv:Key->LB)(x:AV)(lo hi:Option AV):Option lQ:=
 match x with
 |.c (.ptr k off)=>match lv k,ug P T with
  |.cells _ _ _ cs,some (n,_,sz)=>match cU lo 0,cU hi n with
   |some l,some h=>if off+n*sz<=cs.length/\0<=l/\l<=h/\h<=n/\(l<h\/l=0)then some (.c (.aD k (off+l.toNat*sz) (h.toNat-l.toNat) sz),[],[k])else none
   |_,_=>none
  |_,_=>none
 |.c (.d (.ptr cs))=>match ug P T with
  |some (n,_,sz)=>match cU lo 0,cU hi n with
   |some l,some h=>if n*sz<=cs.length/\0<=l/\l<=h/\h<=n/\n<=9223372036854775807 then some (.c (.d (.sl (((chunk sz n cs).take h.toNat).drop l.toNat))),[],[])else none
   |_,_=>none
  |none=>none
 |.c (.aD k _ len sz)=>match lv k,fh P T with
  |.cells ..,some (_,sz')=>if sz=sz' then(match cU lo 0,cU hi len with
   |some l,some h=>if 0<=l/\l=h/\h<=len then some (.c (.d (.sl [])),[],[k])else none
   |_,_=>none)else none
  |_,_=>none
 |_=>none
def Qo(P:Program)(S T:TypeId)(x:AV):Option lQ:=
 match x with
 |.c (.d (.str l))=>if cF P S then(match fh P T with
  |some (e,1)=>(match P.underlying e with
   |some (.int .u8)=>if l.length<=9223372036854775807 then some (.c (.d (.sl (l.map λb=>[.int .u8 (b.toNat:Int)]))),[],[])else none
   |_=>none)
  |_=>none)else none
 |_=>none
def ox(P:Program)(T T':TypeId)(lv:Key->LB)(κ:Key)(y x:AV):Option lQ:=
 match x,lv κ with
 |.c (.d (.str l)),.hole=>if cF P T' then(match fh P T with
  |some (e,1)=>match P.info? e with
   |some i=>match i.zero with
    |some z=>if z.cells.size=1 then(match y with
     |.c (.d .nilsl)=>if l.length<=9223372036854775807/\l.length*i.bytes<=140737488355328 then some (.c (.aD κ 0 l.length 1),[(κ,if l.length=0 then .nils else .cells true false e (eK l))],[])else none
     |.c (.aD k off n sz)=>match lv k with
      |.nils=>if off=0/\n=0/\sz=1/\l.length<=9223372036854775807/\l.length*i.bytes<=140737488355328 then some (.c (.aD κ 0 l.length 1),[(κ,if l.length=0 then .nils else .cells true false e (eK l))],[k])else none
      |.cells own false e' cs=>if off=0/\sz=1/\e'=e/\cs.length=n/\n+l.length<=9223372036854775807/\(n+l.length)*i.bytes<=140737488355328 then some (.c (.aD κ 0 (n+l.length) 1),[(k,.dead),(κ,.cells own false e (cs++eK l))],[])else none
      |_=>none
     |_=>none)else none
    |none=>none
   |none=>none
  |_=>none)else none
 |_,_=>none
def Ds(lv:Key->LB)(x:AV):Option lQ:=
 match x with
 |.c (.d .nilsl)=>some (.c (.d .nilp),[],[])
 |.c (.aD k off len sz)=>match lv k with
  |.cells ..=>if 0<len then some (.c (.ptr k off),[],[k])else none
  |.nils=>if off=0/\len=0/\sz=1 then some (.c (.d .nilp),[],[k])else none
  |_=>none
 |_=>none
def sw(P:Program)(pt:TypeId)(lv:Key->LB)(x y:AV):Option lQ:=
 match y with
 |.c (.d (.int .i64 n))=>match x with
  |.c (.d .nilp)=>if n=0 then some (.c (.d (.str [])),[],[])else none
  |.c (.ptr k 0)=>match lv k,P.underlying pt with
   |.cells _ false e cs,some (.pointer e')=>if e'=e/\P.cellsOf e=1/\0<n/\n<=9223372036854775807 then(match s9 (cs.take n.toNat)with
    |some l=>if l.length=n.toNat then some (.c (.d (.str l)),[(k,.dead)],[])else none
    |none=>none)else none
   |_,_=>none
  |_=>none
 |_=>none
def KR(P:Program)(T:TypeId)(lv:Key->LB)(x:AV):Option lQ:=
 match x with
 |.c (.mapr k)=>match lv k with
  |.map _ es=>if (Dq P T).isSome&&Nat.ble es.length 9223372036854775807 then some (.c (.d (.int .i64 es.length)),[],[k])else none
  |_=>none
 |_=>none
def Dc(P:Program)(cl:Call)(vals:List AV)(lv:Key->LB)(κ:Key):Option lQ:=
 match cl.callee,cl.args.toList,cl.argTypes.toList,vals with
 |.builtin .append,[_,_],[T,T'],[y,x]=>ox P T T' lv κ y x
 |.builtin .unsafeSliceData,[_],[_],[x]=>Ds lv x
 |.builtin .len,[_],[T],[x]=>KR P T lv x
 |.builtin .unsafeString,[_,_],[pt,_],[x,y]=>sw P pt lv x y
 |_,_,_,_=>none
def iu(P:Program)(op:Op)(vals:List AV)(lv:Key->LB)(κ:Key):Option lQ:=
 match op,vals with
 |.binOp op T _ _ _,[x,y]=>KB P op T lv x y
 |.makeMap _ none,[]=>match lv κ with|.hole=>some (.c (.mapr κ),[(κ,.map true [])],[])|_=>none
 |.mapUpdate T _ _ _,[m,k,y]=>rI P T lv m k y
 |.insert T _ _ _,[m,k,y]=>rI P T lv m k y
 |.lookup T _ _ ok,[m,k]=>Er P T ok lv m k
 |.typeAssert _ _ T ok,[x]=>if MK P T then(match B3 P T ok x with|some v=>some (v,[],[])|none=>none)else none
 |.makeInterface T _,[x]=>if P.concrete T then(match xd x with|some r=>some (.c (.ifc T r),[],[])|none=>none)else none
 |.slice T _ lo hi none,x::rest=>match wL lo hi rest with|some (l,h)=>rK P T lv x l h|none=>none
 |.convert S T _,[x]=>Qo P S T x
 |.call cl,vals=>Dc P cl vals lv κ
 |_,_=>none
section
variable {c:Ctx}{s:aE}{o:Oper}
def yU(hd:∀d,o.dst=some d->d<c.n)(ho:o.op=.mapUpdate T m kx y\/o.op=.insert T m kx y)(h:rI c.P T s.lv (s.val c.G m) (s.val c.G kx) (s.val c.G y)=some r):
 cg c o s (aE.put ⟨s.fr,aQ s.lv r.2.1⟩ o.dst r.1):=by
 unfold rI at h;split at h
 ·rename_i k hm
  split at h
  ·rename_i own es hk
   split at h
   ·rename_i kT eT d hT hdp
    split at h
    ·rename_i hc
     simp only[cn,Zb]at hc;simp only[ai]at h;subst h;refine Ak hd ho hm hk hT hdp hc.1.1 hc.1.2 rfl (λl e=>?_);have:=hc.2;rw[e]at this;cases this
    ·cases h
   ·cases h
  ·cases h
 ·cases h
def A6(hd:∀d,o.dst=some d->d<c.n)(ho:o.op=op)(hv:op.operands.toList.map (s.val c.G)=vals)
 (h:iu c.P op vals s.lv κ=some r):cg c o s (aE.put ⟨s.fr,aQ s.lv r.2.1⟩ o.dst r.1):=by
 unfold iu at h;split at h
 ·
  rename_i bop T x y T' a b
  simp only[Op.operands,Zm,ZW,ZB,and_true]at hv;obtain⟨rfl,rfl⟩:=hv;unfold KB at h;split at h
  ·rename_i bb hn
   split at h
   ·rename_i hc
    simp only[cn]at hc;split at h
    ·simp only[ai]at h;subst h;exact AO hd ho (.inl rfl) hn hc.1 hc.2
    ·simp only[ai]at h;subst h;exact AO hd ho (.inr rfl) hn hc.1 hc.2
    ·cases h
   ·cases h
  ·cases h
 ·rename_i T
  split at h
  ·rename_i hκ
   simp only[ai]at h;subst h;exact Dp hd ho rfl hκ
  ·cases h
 ·rename_i T m kx y a b cc
  simp only[Op.operands,Zm,ZW,ZB,and_true]at hv;obtain⟨rfl,rfl,rfl⟩:=hv;exact yU hd (.inl ho) h
 ·rename_i T m kx y a b cc
  simp only[Op.operands,Zm,ZW,ZB,and_true]at hv;obtain⟨rfl,rfl,rfl⟩:=hv;exact yU hd (.inr ho) h
 ·rename_i T m kx ok a b
  simp only[Op.operands,Zm,ZW,ZB,and_true]at hv;obtain⟨rfl,rfl⟩:=hv;unfold Er at h;split at h
  ·rename_i es ks hm
   split at h
   ·rename_i kT eT d hT hdp
    split at h
    ·rename_i hc
     simp only[cn,Zb]at hc;split at h
     ·rename_i v bb hl
      split at h
      ·rename_i hv
       simp only[ai]at h;subst h;refine FI hd ho ?_ hT hdp hc.1 hc.2 hl (Jm hv);unfold L8 at hm;split at hm
       ·rename_i k hmk
        split at hm
        ·rename_i own es' hk
         simp only[ai,fy]at hm;obtain⟨rfl,rfl⟩:=hm;exact .inl ⟨k,own,hmk,hk⟩
        ·cases hm
       ·rename_i hmk
        simp only[ai,fy]at hm;obtain⟨rfl,rfl⟩:=hm;exact .inr ⟨hmk,rfl⟩
       ·cases hm
      ·cases h
     ·cases h
    ·cases h
   ·cases h
  ·cases h
 ·rename_i x xT T ok a
  simp only[Op.operands,Zm,ZW,ZB,and_true]at hv;subst hv;split at h
  ·rename_i hT
   split at h
   ·rename_i v hvv
    simp only[ai]at h;subst h;exact Fq hd ho hT hvv
   ·cases h
  ·cases h
 ·rename_i T x a
  simp only[Op.operands,Zm,ZW,ZB,and_true]at hv;subst hv;split at h
  ·rename_i hT
   split at h
   ·rename_i v hvv
    simp only[ai]at h;subst h;exact Aa hd ho hvv hT
   ·cases h
  ·cases h
 ·rename_i T x lo hi a rest
  have hop:(Op.slice T x lo hi none).operands.toList=x::(lo.toArray++hi.toArray).toList:=by
   simp[Op.operands]
  rw[hop]at hv;simp only[Zm,ZB]at hv;obtain⟨rfl,rfl⟩:=hv;split at h
  ·rename_i l hh hb
   obtain⟨rfl,rfl⟩:=IC hb;unfold rK at h;split at h
   ·rename_i k off hx
    split at h
    ·rename_i own fz T0 cs n e sz hk hT
     split at h
     ·rename_i l h' hl hh
      split at h
      ·rename_i hc
       simp only[ai]at h;subst h;exact Bz hd ho hx hk hT hc.1 hl hh hc.2.1 hc.2.2.1 hc.2.2.2.1 hc.2.2.2.2
      ·cases h
     ·cases h
    ·cases h
   ·rename_i cs hx
    split at h
    ·rename_i n e sz hT
     split at h
     ·rename_i l h' hl hh
      split at h
      ·rename_i hc
       simp only[ai]at h;subst h;exact CO hd ho hx hT hc.1 hl hh hc.2.1 hc.2.2.1 hc.2.2.2.1 hc.2.2.2.2
      ·cases h
     ·cases h
    ·cases h
   ·rename_i k off len sz hx
    split at h
    ·rename_i own fz T0 cs e sz' hk hT
     split at h
     ·rename_i hsz
      subst hsz;split at h
      ·rename_i l h' hl hh
       split at h
       ·rename_i hc
        simp only[ai]at h;subst h;exact CJ hd ho hx hk hT hl hh hc.1 hc.2.1 hc.2.2
       ·cases h
      ·cases h
     ·cases h
    ·cases h
   ·cases h
  ·cases h
 ·rename_i S T x a
  simp only[Op.operands,Zm,ZW,ZB,and_true]at hv;subst hv;unfold Qo at h;split at h
  ·rename_i l hx
   split at h
   ·rename_i hS
    split at h
    ·rename_i e hT
     split at h
     ·rename_i he
      split at h
      ·rename_i hl
       simp only[ai]at h;subst h;exact zv hd ho hx hS hT he hl
      ·cases h
     ·cases h
    ·cases h
   ·cases h
  ·cases h
 ·rename_i cl vals
  unfold Dc at h;split at h
  ·rename_i y0 x0 T T' y x h1 h2 h3
   have e:=nr h1 h2 h3;subst e;simp only[Op.operands,Call.operands]at hv;simp at hv;obtain⟨rfl,rfl⟩:=hv;unfold ox at h;split at h
   ·rename_i l hx hκ
    split at h
    ·rename_i hT'
     split at h
     ·rename_i e hT
      split at h
      ·rename_i i hi
       split at h
       ·rename_i z hz
        split at h
        ·rename_i hzs
         split at h
         ·rename_i hy
          split at h
          ·rename_i hc
           simp only[ai]at h;subst h;exact kY hd ho hκ (.inl hy) hT hT' hi hz hx hzs hc.1 hc.2
          ·cases h
         ·rename_i k off n sz hy
          split at h
          ·rename_i hk
           split at h
           ·rename_i hc
            obtain⟨rfl,rfl,rfl,c1,c2⟩:=hc;simp only[ai]at h;subst h;exact kY hd ho hκ (.inr ⟨k,hy,hk⟩) hT hT' hi hz hx hzs c1 c2
           ·cases h
          ·rename_i own e' cs hk
           split at h
           ·rename_i hc
            obtain⟨rfl,rfl,rfl,c1,c2,c3⟩:=hc;simp only[ai]at h;subst h;exact rR hd ho hκ hT hT' hi hz hy hk c1 hx hzs c2 c3
           ·cases h
          ·cases h
         ·cases h
        ·cases h
       ·cases h
      ·cases h
     ·cases h
    ·cases h
   ·cases h
  ·rename_i x0 T x h1 h2 h3
   have e:=nr h1 h2 h3;subst e;simp only[Op.operands,Call.operands]at hv;simp at hv;subst hv;unfold Ds at h;split at h
   ·rename_i hx
    simp only[ai]at h;subst h;exact lK hd ho (.inl hx)
   ·rename_i k off len sz hx
    split at h
    ·rename_i hk
     split at h
     ·rename_i hl
      simp only[ai]at h;subst h;exact Aq hd ho hx hk hl
     ·cases h
    ·rename_i hk
     split at h
     ·rename_i hc
      obtain⟨rfl,rfl,rfl⟩:=hc;simp only[ai]at h;subst h;exact lK hd ho (.inr ⟨k,hx,hk⟩)
     ·cases h
    ·cases h
   ·cases h
  ·rename_i x0 T x h1 h2 h3
   have e:=nr h1 h2 h3;subst e;simp only[Op.operands,Call.operands]at hv;simp at hv;subst hv;unfold KR at h;split at h
   ·rename_i k hx
    split at h
    ·rename_i own es hk
     split at h
     ·rename_i hc
      simp only[cn]at hc;simp only[ai]at h;subst h;exact ED hd ho hx hk hc.1 (Zu hc.2)
     ·cases h
    ·cases h
   ·cases h
  ·rename_i x0 y0 pt it x y h1 h2 h3
   have e:=nr h1 h2 h3;subst e;simp only[Op.operands,Call.operands]at hv;simp at hv;obtain⟨rfl,rfl⟩:=hv;unfold sw at h;split at h
   ·rename_i n hy
    split at h
    ·rename_i hx
     split at h
     ·rename_i hn
      subst hn;simp only[ai]at h;subst h;exact oJ hd ho hx hy
     ·cases h
    ·rename_i k hx
     split at h
     ·rename_i own e cs e' hk hp
      split at h
      ·rename_i hc
       obtain⟨rfl,c1,c2,c3⟩:=hc;split at h
       ·rename_i l hl
        split at h
        ·rename_i hll
         simp only[ai]at h;subst h;have hn:n=(l.length:Int):=by omega
         refine vA hd ho hx hk (by rw[hy,hn]) hp c1 (by rw[hll];exact yZ hl) (λe=>?_) (by omega);subst e;simp at hll;omega
        ·cases h
       ·cases h
      ·cases h
     ·cases h
    ·cases h
   ·cases h
  ·cases h
 ·cases h
end
section
variable {P:Program}{T T':TypeId}{lv lv':Key->LB}{κ:Key}{r:lQ}
def yB{x:AV}(h:su lv x=some b)(hk:∀k∈RH x,lv' k=lv k):su lv' x=some b:=by
 unfold su at h ⊢
 split at h<;>first
  |(rename_i k _;rw[hk k (List.mem_singleton.2 rfl)];exact h)
  |(rename_i k;rw[hk k (List.mem_singleton.2 rfl)];exact h)
  |(rename_i k _ _ _;rw[hk k (List.mem_singleton.2 rfl)];exact h)
  |exact h
  |cases h
def F6{op:BinOp}{x y:AV}(h:KB P op T lv x y=some r)(ha:Agree lv lv' r.2.1 r.2.2):KB P op T lv' x y=some r:=by
 unfold KB at h⊢;split at h
 ·rename_i b hn
  split at h
  ·rename_i hc
   split at h
   ·simp only[ai]at h;subst h;rw[yB hn (λk hk=>ha.1 k hk)];simp only[hc,if_true]
   ·simp only[ai]at h;subst h;rw[yB hn (λk hk=>ha.1 k hk)];simp only[hc,if_true]
   ·cases h
  ·cases h
 ·cases h
def sB{m kx y:AV}(h:rI P T lv m kx y=some r)(ha:Agree lv lv' r.2.1 r.2.2):rI P T lv' m kx y=some r:=by
 unfold rI at h⊢;split at h
 ·rename_i k
  split at h
  ·rename_i own es hk
   split at h
   ·rename_i kT _ d hT hd
    split at h
    ·rename_i hc
     simp only[ai]at h;subst h;have h1:=ha.2 _ (List.mem_singleton.2 rfl);simp only at h1;rw[h1,hk];simp only[hT,hd,hc,if_true]
    ·cases h
   ·cases h
  ·cases h
 ·cases h
def FM{x:AV}{ks:List Key}(h:L8 lv x=some (es,ks))(hk:∀k∈ks,lv' k=lv k):L8 lv' x=some (es,ks):=by
 unfold L8 at h⊢;split at h
 ·rename_i k
  split at h
  ·rename_i own es' hl
   simp only[ai,fy]at h;obtain⟨rfl,rfl⟩:=h;rw[hk k (List.mem_singleton.2 rfl),hl]
  ·cases h
 ·exact h
 ·cases h
def EH{m kx:AV}(h:Er P T ok lv m kx=some r)(ha:Agree lv lv' r.2.1 r.2.2):Er P T ok lv' m kx=some r:=by
 unfold Er at h⊢;split at h
 ·rename_i es ks hm
  have hr:r.2.2=ks:=by
   split at h
   ·split at h
    ·split at h
     ·split at h
      ·simp only[ai]at h;subst h;rfl
      ·cases h
     ·cases h
    ·cases h
   ·cases h
  rw[FM hm (λk hk=>ha.1 k (hr▸hk))];exact h
 ·cases h
def BV{x:AV}{lo hi:Option AV}(h:rK P T lv x lo hi=some r)(ha:Agree lv lv' r.2.1 r.2.2):rK P T lv' x lo hi=some r:=by
 unfold rK at h⊢;split at h
 ·rename_i k off
  have hr:r.2.2=[k]:=by
   split at h
   ·split at h
    ·split at h
     ·simp only[ai]at h;subst h;rfl
     ·cases h
    ·cases h
   ·cases h
  rw[ha.1 k (by rw[hr];exact List.mem_singleton.2 rfl)];exact h
 ·exact h
 ·rename_i k off len sz
  have hr:r.2.2=[k]:=by
   split at h
   ·split at h
    ·split at h
     ·split at h
      ·simp only[ai]at h;subst h;rfl
      ·cases h
     ·cases h
    ·cases h
   ·cases h
  rw[ha.1 k (by rw[hr];exact List.mem_singleton.2 rfl)];exact h
 ·cases h
def zn{x y:AV}(h:ox P T T' lv κ y x=some r)(ha:Agree lv lv' r.2.1 r.2.2):ox P T T' lv' κ y x=some r:=by
 unfold ox at h⊢;split at h
 ·rename_i l hκ
  split at h
  ·rename_i hT'
   split at h
   ·rename_i e hT
    split at h
    ·rename_i i hi
     split at h
     ·rename_i z hz
      split at h
      ·rename_i hzs
       split at h
       ·split at h
        ·rename_i hc
         simp only[ai]at h;subst h;have h1:=ha.2 _ (List.mem_singleton.2 rfl);simp only at h1;rw[h1,hκ];simp only[hT',hT,hi,hz,hzs,hc,if_true,and_self]
        ·cases h
       ·rename_i k off n sz
        split at h
        ·rename_i hk
         split at h
         ·rename_i hc
          simp only[ai]at h;subst h;have h1:=ha.2 _ (List.mem_singleton.2 rfl);have h2:=ha.1 k (List.mem_singleton.2 rfl);simp only at h1;rw[h1,hκ];simp only[hT',hT,hi,hz,hzs,hc,h2,hk,if_true,and_self]
         ·cases h
        ·rename_i own e' cs hk
         split at h
         ·rename_i hc
          simp only[ai]at h;subst h;have h1:=ha.2 (κ,_) (aaI _ (List.mem_singleton.2 rfl));have h2:=ha.2 (k,_) (aaJ ..);simp only at h1 h2;rw[h1,hκ];simp only[hT',hT,hi,hz,hzs,h2,hk,if_true];rw[if_pos hc]
         ·cases h
        ·cases h
       ·cases h
      ·cases h
     ·cases h
    ·cases h
   ·cases h
  ·cases h
 ·cases h
def DC{x:AV}(h:Ds lv x=some r)(ha:Agree lv lv' r.2.1 r.2.2):Ds lv' x=some r:=by
 unfold Ds at h⊢;split at h
 ·exact h
 ·rename_i k off len sz
  have hr:r.2.2=[k]:=by
   split at h
   ·split at h
    ·simp only[ai]at h;subst h;rfl
    ·cases h
   ·split at h
    ·simp only[ai]at h;subst h;rfl
    ·cases h
   ·cases h
  rw[ha.1 k (by rw[hr];exact List.mem_singleton.2 rfl)];exact h
 ·cases h
def An{x y:AV}(h:sw P T lv x y=some r)(ha:Agree lv lv' r.2.1 r.2.2):sw P T lv' x y=some r:=by
 unfold sw at h⊢;split at h
 ·rename_i n
  split at h
  ·exact h
  ·rename_i k
   have hr:r.2.1=[(k,.dead)]:=by
    split at h
    ·split at h
     ·split at h
      ·split at h
       ·simp only[ai]at h;subst h;rfl
       ·cases h
      ·cases h
     ·cases h
    ·cases h
   have:=ha.2 (k,.dead) (by rw[hr];exact List.mem_singleton.2 rfl);simp only at this;rw[this];exact h
  ·cases h
 ·cases h
def G1{x:AV}(h:KR P T lv x=some r)(ha:Agree lv lv' r.2.1 r.2.2):KR P T lv' x=some r:=by
 unfold KR at h⊢;split at h
 ·rename_i k
  have hr:r.2.2=[k]:=by
   split at h
   ·split at h
    ·simp only[ai]at h;subst h;rfl
    ·cases h
   ·cases h
  rw[ha.1 k (by rw[hr];exact List.mem_singleton.2 rfl)];exact h
 ·cases h
def Eb{cl:Call}(h:Dc P cl vals lv κ=some r)(ha:Agree lv lv' r.2.1 r.2.2):Dc P cl vals lv' κ=some r:=by
 unfold Dc at h⊢;split at h
 ·exact zn h ha
 ·exact DC h ha
 ·exact G1 h ha
 ·exact An h ha
 ·cases h
def vL(h:iu P op vals lv κ=some r)(ha:Agree lv lv' r.2.1 r.2.2):iu P op vals lv' κ=some r:=by
 unfold iu at h⊢;split at h
 ·exact F6 h ha
 ·split at h
  ·rename_i hκ
   simp only[ai]at h;subst h;have:=ha.2 _ (List.mem_singleton.2 rfl);simp only at this;simp only[this,hκ]
  ·cases h
 ·exact sB h ha
 ·exact sB h ha
 ·exact EH h ha
 ·exact h
 ·exact h
 ·split at h
  ·rename_i l hh hb
   exact BV h ha
  ·cases h
 ·exact h
 ·exact Eb h ha
 ·cases h
end
end Go.Am
namespace Go.Am
variable {β α:Type}{x:AV}{s:aE}{L:Nat->Bool}{m:Nat}{c:Ctx}{l:List (Nat×AV)}{Q:Exit->Act->World->Prop}{k:Key}{P:Program}{G:List (List DV)}{f:FuncId}{fn:Func}{code:Code}{args:List AV}
def Rv(ops:Array Oper)(o o':Oper)(e e':Fx):Prop:=
 o.apart ops o'=true/\∀k∈e.us.map (·.1),k∉e'.us.map (·.1)
def mY(c:Ctx)(r:Option Nat)(ops:Array Oper)(o:Oper)(s0:aE)(e:Fx)(ok:(Key->LB)->Prop):Prop:=
 ∀s:aE,(∀t∈o.looksAt ops,s.fr t=s0.fr t)->ok s.lv ->
  ∀F β a w K Q,aF c F β s a w->(∀F' β' a' w',aF c F' β' (e.app o.dst s) a' w'->K a' w') ->
   if Region.wanted o (yielded ops a.tmps)then o.wpIn (qb r) 0 c.P a w K Q else K (a.put o.dst undef) w
section
variable {c:Ctx}{r:Option Nat}{ops:Array Oper}{es:List Fx}{s0:aE}
theorem CA(ok:Nat->(Key->LB)->Prop)(hlen:es.length=ops.size)
 (hE:∀(i:Nat) o e,ops[i]?=some o->es[i]?=some e->mY c r ops o (bu ops es s0 (λ_=>true) i) e (ok i))
 (hback:∀(i:Nat) o,ops[i]?=some o->∀ed∈o.after,Region.binds .any ed=true->ed.on<i)
 (hind:∀(i j:Nat) o o' e e',i<j->ops[i]?=some o->ops[j]?=some o'->es[i]?=some e->es[j]?=some e'->wu ops i j\/Rv ops o o' e e')
 (hok:∀(L:Nat->Bool) (i:Nat),i<ops.size->L i=false->(∀j,wu ops j i->L j=true)->(∀i j,wu ops i j->L j=true->L i=true)->ok i (bu ops es s0 L ops.size).lv)(hQ:∀F' β' a' w',aF c F' β' (bu ops es s0 (λ_=>true) ops.size) a' w'->Q .normal a' w') :
 ∀(fuel:Nat) (listed:Array Bool),listed.size=ops.size ->
  (∀(j:Nat) o,ops[j]?=some o->listed.getD j false=true->∀ed∈o.after,Region.binds .any ed=true->listed.getD ed.on false=true) ->
  ops.size<=fuel+cnt (λj=>listed.getD j false) ops.size ->
  ∀F β a w,aF c F β (bu ops es s0 (λj=>listed.getD j false) ops.size) a w->wpAnyIn (qb r) 0 c.P .any ops Q fuel listed a w:=by
 intro fuel
 have hall:∀(listed:Array Bool),(∀i,i<ops.size->listed.getD i false=true)->∀F β a w,aF c F β (bu ops es s0 (λj=>listed.getD j false) ops.size) a w->Q .normal a w:=by
  intro listed hl F β a w h;rw[fD (L':=λ_=>true) hl]at h;exact hQ _ _ _ _ h
 induction fuel with
 |zero=>
  intro listed hsz hcl hcnt F β a w h;have hl:=CM (p:=λj=>listed.getD j false) (n:=ops.size) (by omega);refine⟨?_,hall listed hl F β a w h⟩;rw[List.eq_nil_iff_forall_not_mem];intro i hi;obtain⟨h1,h2,_⟩:=mem_ready.1 hi;have h3:listed.getD i false=true:=hl i h1;have h4:i<listed.size:=by omega
  simp[Array.getD,h4]at h2 h3;rw[h2]at h3;cases h3
 |succ fuel ih=>
  intro listed hsz hcl hcnt F β a w h
  have hanc:∀i j,wu ops i j->listed.getD j false=true->listed.getD i false=true:=by
   intro i j ha
   induction ha with
   |one ho he hb hi=>intro hj;subst hi;exact hcl _ _ ho hj _ he hb
   |more ho he hb _ ih=>intro hj;exact ih (hcl _ _ ho hj _ he hb)
  refine⟨λhnil=>?_,λi hi=>?_⟩
  ·refine hall listed (λi hi=>?_) F β a w h
   induction i using Nat.strongRecOn with
   |_ i ihi=>
    cases hL:listed.getD i false with
    |true=>rfl
    |false=>
     exfalso
     have:i∈Region.ready .any ops listed:=by
      refine mem_ready.2 ⟨hi,?_,ops[i],Z9 hi,λed hed hb=>?_⟩
      ·have h4:i<listed.size:=by omega
       simp[Array.getD,h4]at hL⊢;exact hL
      ·have:=hback i _ (Z9 hi) ed hed hb;exact ihi _ this (by omega)
     rw[hnil]at this;cases this
  ·obtain⟨hi1,hi2,o,ho,hpre⟩:=mem_ready.1 hi;have h4:i<listed.size:=by omega
   have hLi:listed.getD i false=false:=by simp[Array.getD,h4]at hi2⊢;exact hi2
   obtain⟨e,he⟩:∃e,es[i]?=some e:=⟨es[i]'(by omega),cy (by omega)⟩
   have hes:∀j o',ops[j]?=some o'->∃e',es[j]?=some e':=λj o' h'=>by
    have:j<ops.size:=(Array.getElem?_eq_some_iff.1 h').1;exact⟨es[j]'(by omega),cy (by omega)⟩
   have hos:∀(j:Nat) e',es[j]?=some e'->∃o',ops[j]?=some o':=λj e' h'=>by
    have:j<es.length:=(List.getElem?_eq_some_iff.1 h').1;exact⟨ops[j]'(by omega),Z9 (by omega)⟩
   have hancR:∀j,wu ops j i->listed.getD j false=true:=by
    intro j ha
    cases ha with
    |one ho' he' hb hj=>
     rw[ho]at ho';simp only[ai]at ho';subst ho';subst hj;exact hpre _ he' hb
    |more ho' he' hb hj=>
     rw[ho]at ho';simp only[ai]at ho';subst ho';exact hanc _ _ hj (hpre _ he' hb)
   have key:=hE i o e ho he (bu ops es s0 (λj=>listed.getD j false) ops.size) (λt ht=>?_) ?_ F β a w
    (wpAnyIn (qb r) 0 c.P .any ops Q fuel (listed.setIfInBounds i true)) Q h (λF' β' a' w' h'=>?_)
   ·unfold wpOpIn;rw[ho];simp only;split at key
    ·rename_i hw;rw[if_pos hw];exact key
    ·rename_i hw;rw[if_neg hw];exact⟨λ_ _=>trivial,key⟩
   ·rw[Cy (i:=i) (λj o' ho' hd=>?_) ops.size,Nat.min_eq_right (by omega)];obtain⟨e',he'⟩:=hes j o' ho';constructor
    ·intro hji;rcases hind j i o' o e' e hji ho' ho he' he with ha|ha
     ·exact hancR j ha
     ·exact absurd ht ((abG ha.1).1 t hd)
    ·intro hj;rcases Nat.lt_trichotomy j i with hlt|heq|hgt
     ·exact hlt
     ·subst heq;rw[hLi]at hj;cases hj
     ·rcases hind i j o o' e e' hgt ho ho' he he' with ha|ha
      ·have:=hanc _ _ ha hj;rw[hLi]at this;cases this
      ·exact absurd ht ((abG ha.1).2.2 t hd)
   ·exact hok _ i hi1 hLi hancR hanc
   ·have hset:∀j,(listed.setIfInBounds i true).getD j false=(listed.getD j false ||j==i):=by
     intro j;simp only[ZZ,abA]
     by_cases hj:i=j
     ·subst hj;simp[h4]
     ·have hne:(j==i)=false:=by simp;exact λe=>hj e.symm
      simp[hj,hne]
    refine ih (listed.setIfInBounds i true) (by simp[hsz]) (λj o' ho' hj ed hed hb=>?_) ?_ F' β' a' w' ?_
    ·rw[hset]at hj⊢;simp only[ZK,beq_iff_eq]at hj⊢;rcases hj with hj|hj
     ·exact .inl (hcl j o' ho' hj ed hed hb)
     ·subst hj;rw[ho]at ho';simp only[ai]at ho';subst ho';exact .inl (hpre ed hed hb)
    ·rw[pO (q:=λj=>listed.getD j false ||j==i) (λj _=>hset j),Cc (p:=λj=>listed.getD j false) hLi hi1];omega
    ·rw[fD (L':=λj=>listed.getD j false ||j==i) (λj _=>hset j)]
     have hst:e.app o.dst (bu ops es s0 (λj=>listed.getD j false) ops.size)=bu ops es s0 (λj=>listed.getD j false ||j==i) ops.size:=by
      have e1:(e.app o.dst (bu ops es s0 (λj=>listed.getD j false) ops.size)).fr=(bu ops es s0 (λj=>listed.getD j false ||j==i) ops.size).fr:=by
       funext t;refine vQ ho he hi1 hLi (λj o' hij ho' hj hd=>?_);obtain⟨e',he'⟩:=hes j o' ho';rcases hind i j o o' e e' hij ho ho' he he' with ha|ha
       ·have:=hanc _ _ ha hj;rw[hLi]at this;cases this
       ·exact(abG ha.1).2.1 t hd
      have e2:(e.app o.dst (bu ops es s0 (λj=>listed.getD j false) ops.size)).lv=(bu ops es s0 (λj=>listed.getD j false ||j==i) ops.size).lv:=by
       funext k;refine we ho he hi1 hLi (λj e' hij he' hj hd=>?_);obtain⟨o',ho'⟩:=hos j e' he';rcases hind i j o o' e e' hij ho ho' he he' with ha|ha
       ·have:=hanc _ _ ha hj;rw[hLi]at this;cases this
       ·exact ha.2 k hd
      cases h1:e.app o.dst (bu ops es s0 (λj=>listed.getD j false) ops.size)
      cases h2:bu ops es s0 (λj=>listed.getD j false ||j==i) ops.size
      rw[h1,h2]at e1 e2;simp only at e1 e2;rw[e1,e2]
     rw[<-hst];exact h'
end
section
variable {ops:Array Oper}{es:List Fx}{s0:aE}
def I2{o:Oper}{e:Fx}(ho:ops[m]?=some o)(he:es[m]?=some e):
 bu ops es s0 L (m+1)=if L m then e.app o.dst (bu ops es s0 L m)else bu ops es s0 L m:=by
 simp only[bu,ho,he]
def mZ(hlen:es.length=ops.size)(hm:m<ops.size):
 ∃e,es[m]?=some e/\(bu ops es s0 L (m+1)).lv k=if L m=true then aQ (bu ops es s0 L m).lv e.us k else(bu ops es s0 L m).lv k:=by
 have ho:ops[m]?=some ops[m]:=Z9 hm;have he:es[m]?=some (es[m]'(by omega)):=cy (by omega);refine⟨_,he,?_⟩;rw[I2 ho he]
 cases L m<;>simp[nE]
def CP(hlen:es.length=ops.size){i:Nat}(hi:i<ops.size)(hLi:L i=false)(h1:∀j,wu ops j i->L j=true)(h2:∀i j,wu ops i j->L j=true->L i=true):
 (bu ops es s0 L ops.size).lv k=(bu ops es s0 (λ_=>true) i).lv k \/
 (∃j e,i<j/\es[j]?=some e/\¬wu ops i j/\k∈e.us.map (·.1)/\(bu ops es s0 L ops.size).lv k=aQ (λ_=>.hole) e.us k) \/
 (∃j e,j<i/\es[j]?=some e/\¬wu ops j i/\k∈e.us.map (·.1)/\(bu ops es s0 L ops.size).lv k=(bu ops es s0 (λ_=>true) j).lv k):=by
 have hA:∀m,m<=i->((bu ops es s0 L m).lv k=(bu ops es s0 (λ_=>true) m).lv k \/
  ∃j e,j<i/\es[j]?=some e/\¬wu ops j i/\k∈e.us.map (·.1)/\(bu ops es s0 L m).lv k=(bu ops es s0 (λ_=>true) j).lv k):=by
  intro m
  induction m with
  |zero=>intro _;exact .inl rfl
  |succ m ih=>
   intro hm;obtain⟨e,he,e1⟩:=mZ (ops:=ops) (s0:=s0) (L:=L) (k:=k) hlen (by omega:m<ops.size);obtain⟨e',he',e2⟩:=mZ (ops:=ops) (s0:=s0) (L:=λ_=>true) (k:=k) hlen (by omega:m<ops.size);rw[he]at he';simp only[ai]at he';subst he';simp only[if_true]at e2;rw[e1,e2]
   by_cases hk:k∈e.us.map (·.1)
   ·cases hL:L m with
    |true=>simp only[if_true];exact .inl (s8 hk)
    |false=>
     simp only[Zj,if_false];rcases ih (by omega)with h|⟨j,e',q1,q2,q3,q4,q5⟩
     ·refine .inr ⟨m,e,by omega,he,λha=>?_,hk,h⟩;have:=h1 m ha;rw[hL]at this;cases this
     ·exact .inr ⟨j,e',q1,q2,q3,q4,q5⟩
   ·rw[cu hk,cu hk]
    cases hL:L m with
    |true=>simp only[if_true];exact ih (by omega)
    |false=>simp only[Zj,if_false];exact ih (by omega)
 have hB:∀m,i<=m->m<=ops.size->((bu ops es s0 L m).lv k=(bu ops es s0 L i).lv k \/
  ∃j e,i<j/\es[j]?=some e/\¬wu ops i j/\k∈e.us.map (·.1)/\(bu ops es s0 L m).lv k=aQ (λ_=>.hole) e.us k):=by
  intro m
  induction m with
  | zero=>intro h _;have:i=0:=by omega
          subst this;exact .inl rfl
  |succ m ih=>
   intro hm hms
   by_cases hmi:i=m+1
   ·rw[hmi];exact .inl rfl
   obtain⟨e,he,e1⟩:=mZ (ops:=ops) (s0:=s0) (L:=L) (k:=k) hlen (by omega:m<ops.size);rw[e1]
   cases hL:L m with
   |false=>simp only[Zj,if_false];exact ih (by omega) (by omega)
   |true=>
    simp only[if_true]
    by_cases hk:k∈e.us.map (·.1)
    ·refine .inr ⟨m,e,?_,he,λha=>?_,hk,s8 hk⟩
     ·rcases abe i m with h|h
      ·exact h
      ·have:i=m:=by omega
       subst this;rw[hLi]at hL;cases hL
     ·have:=h2 i m ha hL;rw[hLi]at this;cases this
    ·rw[cu hk];exact ih (by omega) (by omega)
 rcases hB ops.size (by omega) (aY _)with h|⟨j,e,q1,q2,q3,q4,q5⟩
 ·rw[h];rcases hA i (aY _)with h'|⟨j,e,q1,q2,q3,q4,q5⟩
  ·exact .inl h'
  ·exact .inr (.inr ⟨j,e,q1,q2,q3,q4,q5⟩)
 ·exact .inr (.inl ⟨j,e,q1,q2,q3,q4,q5⟩)
end
structure Fw where
 e:Fx
 lv:Key->LB
 all:Bool
 soft:Key->LB->Bool
variable {fs:List Fw}
def Fw.ok(f:Fw)(lv:Key->LB):Prop:=
 (f.all=true/\lv=f.lv)\/(f.all=false/\(Agree f.lv lv f.e.us f.e.rds\/(f.e.us=[]/\∃k,f.e.rds=[k]/\f.soft k (lv k)=true)))
def Fw.apart(f g:Fw):Prop:=
 (f.all=true->g.e.us=[])/\(g.all=true->f.e.us=[]) /\
 (∀k∈f.e.us.map (·.1),k∉g.e.us.map (·.1)) /\
 (∀k∈f.e.us.map (·.1),k∉g.e.rds\/(g.e.us=[]/\g.e.rds=[k]/\g.soft k (f.lv k)=true)) /\
 (∀k∈g.e.us.map (·.1),k∉f.e.rds\/(f.e.us=[]/\f.e.rds=[k]/\f.soft k (aQ (λ_=>.hole) g.e.us k)=true))
def SY{ops:Array Oper}{s0:aE}(hlen:fs.length=ops.size)
 (hlv:∀(i:Nat) f,fs[i]?=some f->f.lv=(bu ops (fs.map (·.e)) s0 (λ_=>true) i).lv)
 (hind:∀(i j:Nat) f g,i<j->fs[i]?=some f->fs[j]?=some g->wu ops i j\/f.apart g) :
 ∀(L:Nat->Bool) (i:Nat) (f:Fw),fs[i]?=some f->L i=false->(∀j,wu ops j i->L j=true)->(∀i j,wu ops i j->L j=true->L i=true) ->
  f.ok (bu ops (fs.map (·.e)) s0 L ops.size).lv:=by
 intro L i f hf hLi h1 h2;have hi:i<ops.size:=by have:=(List.getElem?_eq_some_iff.1 hf).1;omega
 have hlen':(fs.map (·.e)).length=ops.size:=by simpa using hlen
 have hver:=λk=>CP (s0:=s0) (k:=k) hlen' hi hLi h1 h2
 rw[<-hlv i f hf]at hver
 have hget:∀(j:Nat) (e:Fx),(fs.map (·.e))[j]?=some e->∃g:Fw,fs[j]?=some g/\g.e=e:=by
  intro j e h;rwa[aba,Zx]at h
 cases hall:f.all with
 |true=>
  left;refine⟨hall,funext λk=>?_⟩;rcases hver k with h|⟨j,e,q1,q2,q3,q4,q5⟩|⟨j,e,q1,q2,q3,q4,q5⟩
  ·exact h
  ·obtain⟨g,hg,rfl⟩:=hget j e q2;rcases hind i j f g q1 hf hg with ha|ha
   ·exact absurd ha q3
   ·rw[ha.1 hall]at q4;cases q4
  ·obtain⟨g,hg,rfl⟩:=hget j e q2;rcases hind j i g f q1 hg hf with ha|ha
   ·exact absurd ha q3
   ·rw[ha.2.1 hall]at q4;cases q4
 |false=>
 right;refine⟨hall,?_⟩
 by_cases hs:f.e.us=[]/\∃k,f.e.rds=[k]
 ·obtain⟨hu,k,hk⟩:=hs;rcases hver k with h|⟨j,e,q1,q2,q3,q4,q5⟩|⟨j,e,q1,q2,q3,q4,q5⟩
  ·left;refine⟨λk' hk'=>?_,λp hp=>by rw[hu]at hp;cases hp⟩;rw[hk]at hk';rw[List.mem_singleton.1 hk'];exact h
  all_goals (right;refine⟨hu,k,hk,?_⟩)
  ·obtain⟨g,hg,rfl⟩:=hget j e q2;rw[q5];rcases hind i j f g q1 hf hg with ha|ha
   ·exact absurd ha q3
   ·rcases ha.2.2.2.2 k q4 with h|h
    ·exact absurd (by rw[hk];exact List.mem_singleton.2 rfl) h
    ·exact h.2.2
  ·obtain⟨g,hg,rfl⟩:=hget j e q2;rw[q5,<-hlv j g hg];rcases hind j i g f q1 hg hf with ha|ha
   ·exact absurd ha q3
   ·rcases ha.2.2.2.1 k q4 with h|h
    ·exact absurd (by rw[hk];exact List.mem_singleton.2 rfl) h
    ·exact h.2.2
 ·left;have hno:∀k,¬(f.e.us=[]/\f.e.rds=[k]):=λk h=>hs ⟨h.1,k,h.2⟩
  have key:∀k,(k∈f.e.rds\/k∈f.e.us.map (·.1))->(bu ops (fs.map (·.e)) s0 L ops.size).lv k=f.lv k:=by
   intro k hk;rcases hver k with h|⟨j,e,q1,q2,q3,q4,q5⟩|⟨j,e,q1,q2,q3,q4,q5⟩
   ·exact h
   ·obtain⟨g,hg,rfl⟩:=hget j e q2;exfalso;rcases hind i j f g q1 hf hg with ha|ha
    ·exact q3 ha
    ·rcases hk with hk|hk
     ·rcases ha.2.2.2.2 k q4 with h|h
      ·exact h hk
      ·exact hno k ⟨h.1,h.2.1⟩
     ·exact ha.2.2.1 k hk q4
   ·obtain⟨g,hg,rfl⟩:=hget j e q2;exfalso;rcases hind j i g f q1 hg hf with ha|ha
    ·exact q3 ha
    ·rcases hk with hk|hk
     ·rcases ha.2.2.2.1 k q4 with h|h
      ·exact h hk
      ·exact hno k ⟨h.1,h.2.1⟩
     ·exact ha.2.2.1 k q4 hk
  exact⟨λk hk=>key k (.inl hk),λp hp=>key p.1 (.inr (ace hp))⟩
def ki(c:Ctx)(r:Option Nat)(ops:Array Oper):List Oper->List Fw->aE->aE->Prop
 |[],[],s,s'=>s'=s
 |o::os,f::fs,s,s'=>mY c r ops o s f.e f.ok/\f.lv=s.lv/\ki c r ops os fs (f.e.app o.dst s) s'
 |_,_,_,_=>False
section
variable {c:Ctx}{r:Option Nat}{ops:Array Oper}
def ki.len:∀{os:List Oper}{es:List Fw}{s s':aE},ki c r ops os es s s'->es.length=os.length
 |[],[],_,_,_=>rfl
 |_::_,_::_,_,_,h=>by simp[ki.len h.2.2]
 |[],_::_,_,_,h=>h.elim
 |_::_,[],_,_,h=>h.elim
def ki.at{fs:List Fw}{s0:aE}:∀{os:List Oper}{rs:List Fw}{s':aE}(n:Nat),ops.toList.drop n=os->fs.drop n=rs->ki c r ops os rs (bu ops (fs.map (·.e)) s0 (λ_=>true) n) s' ->
 s'=bu ops (fs.map (·.e)) s0 (λ_=>true) (n+os.length)/\∀(i:Nat) o f,n<=i->ops[i]?=some o->fs[i]?=some f->mY c r ops o (bu ops (fs.map (·.e)) s0 (λ_=>true) i) f.e f.ok/\f.lv=(bu ops (fs.map (·.e)) s0 (λ_=>true) i).lv
 |[],[],s',n,h1,h2,h=>by
  refine⟨h,λi o e hi ho he=>?_⟩;have h3:fs.length<=n:=List.drop_eq_nil_iff.1 h2;have:=(List.getElem?_eq_some_iff.1 he).1;omega
 |o::os,e::rs,s',n,h1,h2,h=>by
  have ho:ops[n]?=some o:=by
   have:(ops.toList.drop n)[0]?=some o:=by rw[h1];rfl
   rw[aaL]at this;simpa using this
  have he:fs[n]?=some e:=by
   have:(fs.drop n)[0]?=some e:=by rw[h2];rfl
   rw[aaL]at this;simpa using this
  have hst:bu ops (fs.map (·.e)) s0 (λ_=>true) (n+1)=e.e.app o.dst (bu ops (fs.map (·.e)) s0 (λ_=>true) n):=by
   simp only[bu,ho,aba,he,Zs,if_true]
  obtain⟨h3,h4⟩:=ki.at (fs:=fs) (s0:=s0) (os:=os) (rs:=rs) (s':=s') (n+1) (by rw[<-aa4,h1];rfl) (by rw[<-aa4,h2];rfl) (by rw[hst];exact h.2.2);refine⟨by rw[h3];congr 1;simp;omega,λi o' e' hi ho' he'=>?_⟩
  by_cases e1:i=n
  ·subst e1;rw[ho]at ho';rw[he]at he';simp only[ai]at ho' he';subst ho';subst he';exact⟨h.1,h.2.1⟩
  ·exact h4 i o' e' (by omega) ho' he'
 |[],_::_,_,_,_,_,h=>h.elim
 |_::_,[],_,_,_,_,h=>h.elim
def ki.draw{id:Nat}{s':aE}(hm:c.P.follows .mixedOrders=true)(h:ki c r ops ops.toList fs s s')
 (hback:∀(i:Nat) o,ops[i]?=some o->∀ed∈o.after,Region.binds .any ed=true->ed.on<i)
 (hind:∀(i j:Nat) o o' f g,i<j->ops[i]?=some o->ops[j]?=some o'->fs[i]?=some f->fs[j]?=some g->wu ops i j\/(o.apart ops o'=true/\f.apart g))
 (hQ:∀F' β' a' w',aF c F' β' s' a' w'->Q .normal a' w') {F:Nat->Prop}{β:Key->Nat}{a:Act}{w:World}(hs:aF c F β s a w):(Code.region id ops true).wpIn (qb r) 0 c.P Q a w:=by
 have hlen:fs.length=ops.size:=by rw[h.len];simp
 obtain⟨h3,h4⟩:=ki.at (fs:=fs) (s0:=s) 0 rfl rfl h;refine wpIn_region_any hm ?_
 have hget:∀(j:Nat) (e:Fx),(fs.map (·.e))[j]?=some e->∃g:Fw,fs[j]?=some g/\g.e=e:=by
  intro j e h;rwa[aba,Zx]at h
 have hos:∀(j:Nat) f,fs[j]?=some f->∃o',ops[j]?=some o':=λj e' h'=>by
  have:j<fs.length:=(List.getElem?_eq_some_iff.1 h').1;exact⟨ops[j]'(by omega),Z9 (by omega)⟩
 refine CA (es:=fs.map (·.e)) (s0:=s) (λi lv=>∀f,fs[i]?=some f->f.ok lv) (by simpa using hlen) (λi o e ho he=>?_) hback (λi j o o' e e' hij ho ho' he he'=>?_) (λL i hi hLi h1 h2 f hf=>?_)
  (λF' β' a' w' h'=>hQ F' β' a' w' ?_) ops.size _ (by simp) (λj o ho hj=>?_) (by omega) F β a _ ?_
 ·obtain⟨f,hf,rfl⟩:=hget i e he;intro s1 g1 g2;exact(h4 i o f (Zi _) ho hf).1 s1 g1 (g2 f hf)
 ·obtain⟨f,hf,rfl⟩:=hget i e he;obtain⟨g,hg,rfl⟩:=hget j e' he';rcases hind i j o o' f g hij ho ho' hf hg with ha|⟨ha,hb⟩
  ·exact .inl ha
  ·exact .inr ⟨ha,hb.2.2.1⟩
 ·refine SY hlen (λi f hf=>?_) (λi j f g hij hf hg=>?_) L i f hf hLi h1 h2
  ·obtain⟨o,ho⟩:=hos i f hf;exact(h4 i o f (Zi _) ho hf).2
  ·obtain⟨o,ho⟩:=hos i f hf;obtain⟨o',ho'⟩:=hos j g hg;rcases hind i j o o' f g hij ho ho' hf hg with ha|ha
   ·exact .inl ha
   ·exact .inr ha.2
 ·rw[h3];simpa using h'
 ·have hf:(Array.replicate ops.size false).getD j false=false:=by
   simp only[ZZ,abt];split<;>rfl
  rw[hf]at hj;cases hj
 ·have hf:∀j,(Array.replicate ops.size false).getD j false=false:=λj=>by
   simp only[ZZ,abt];split<;>rfl
  have:bu ops (fs.map (·.e)) s (λj=>(Array.replicate ops.size false).getD j false) ops.size=s:=by
   rw[fD (L':=λ_=>false) (λj _=>hf j)]
   have:∀m,bu ops (fs.map (·.e)) s (λ_=>false) m=s:=by
    intro m
    induction m with
    |zero=>rfl
    |succ m ih=>simp only[bu,ih,Zj,if_false];split<;>rfl
   exact this _
  rw[this];exact hs.heap rfl
end
def AW.seq'{r:Option Nat}{κ:Nat}{Q:Ex->aE->Nat->Prop}{x y:Code}(h:AW c r x s κ (qp (λs κ=>AW c r y s κ Q) Q)):AW c r (.seq x y) s κ Q:=
 AW.seq h λ_ _ h=>h
def Ref.oW:∀(x:Ref),x.bM (λk=>k)=x
 |.d _=>rfl
 |.ptr ..=>rfl
 |.aD ..=>rfl
 |.agg cs=>by
  simp only[Ref.bM];congr 1;have:∀x∈cs,jf.bM (λk=>k) x=x:=λx _=>by cases x<;>rfl
  simpa using ZP this
 |.ifc t x=>by simp only[Ref.bM,Ref.oW x]
def CV.oW(x:CV):x.bM (λk=>k)=x:=by
 cases x with
 |func fn f c=>
  simp only[CV.bM]
  have h:∀l:List Ref,l.map (Ref.bM λk=>k)=l:=λl=>by
   have:∀x∈l,Ref.bM (λk=>k) x=x:=λx _=>Ref.oW x
   simpa using ZP this
  rw[h,h]
 |ifc t x=>simp only[CV.bM,Ref.oW]
 |_=>rfl
def yz(l:List CV):l.map (CV.bM λk=>k)=l:=by
 have:∀x∈l,CV.bM (λk=>k) x=x:=λx _=>CV.oW x
 simpa using ZP this
def AV.xH(h:x.cH=true):x.mj (λk=>k)=x:=by
 cases x with
 |c x=>simp only[AV.mj,CV.oW]
 |agg cs=>simp only[AV.mj,yz]
 |tup l=>cases h
 |undef=>rfl
 |junk=>rfl
def AV.oW(h:x.bC=true):x.bM (λk=>k)=x:=by
 cases x with
 |c x=>exact AV.xH (x:=.c x) rfl
 |agg cs=>exact AV.xH (x:=.agg cs) rfl
 |tup l=>
  simp only[AV.bC,Zb]at h;simp only[AV.bM];congr 1;have:∀x∈l,AV.mj (λk=>k) x=x:=λx hx=>AV.xH (by have:=h x hx;cases x<;>simp_all [AV.cH])
  simpa using ZP this
 |undef=>rfl
 |junk=>rfl
def LB.UH{x:LB}(hm:∀own es,x=.map own es->∀p∈es,∀l,p.2≠.tup l):x.as x (λk=>k):=by
 cases x with
 |cells own fz T cs=>exact⟨own,cs,rfl,(yz cs).symm,λh=>h⟩
 |map own es=>
  refine⟨own,es,rfl,?_,λh=>h,λp hp l=>hm own es rfl p hp l⟩
  have:∀p∈es,(λp:DV×AV=>(p.1,p.2.mj λk=>k)) p=p:=λp hp=>by
   have:=AV.xH (x:=p.2) (by have:=hm own es rfl p hp;cases e:p.2<;>simp_all [AV.cH]);simp only[this]
  simpa using (ZP this).symm
 |hole=>rfl
 |dead=>intro h;cases h
 |nils=>rfl
def aU:List (Nat×AV)->Nat->AV
 |[],_=>.junk
 |p::l,t=>if t=p.1 then p.2 else aU l t
def kV{P:Nat->AV->Prop}(h:∀p∈l,P p.1 p.2)(t:Nat):aU l t=.junk\/P t (aU l t):=by
 induction l with
 |nil=>exact .inl rfl
 |cons p l ih=>
  simp only[aU];split
  ·rename_i e;subst e;exact .inr (h p (by simp))
  ·exact ih λq hq=>h q (by simp[hq])
def ei.slots(hl:∀p∈l,p.2.bC=true/\s.fr p.1=p.2)(hm:∀k own es,s.lv k=.map own es->∀p∈es,∀l,p.2≠.tup l):
 ei c s ⟨aU l,s.lv⟩ (λk=>k):=by
 refine⟨λk=>LB.UH (hm k),λk k' _ _ h=>h,λt=>?_,λk _=>.inr rfl⟩;rcases kV (P:=λt x=>x.bC=true/\s.fr t=x) hl t with h|⟨h1,h2⟩
 ·exact .inl h
 ·exact .inr ⟨h1,by rw[AV.oW h1];exact h2⟩
def CV.pure:CV->Bool
 |.d _=>true
 |_=>false
def AV.kR:AV->Bool
 |.c x=>x.pure
 |.agg cs=>cs.all CV.pure
 |.undef=>true
 |.junk=>true
 |_=>false
def AV.pure:AV->Bool
 |.tup l=>l.all AV.kR
 |x=>x.kR
def CV.aT{x:CV}(h:x.pure=true)(g:Key->Key):x.bM g=x:=by cases x<;>simp_all [CV.pure,CV.bM]
def AV.uL(h:x.kR=true)(g:Key->Key):x.mj g=x:=by
 cases x with
 |c x=>simp only[AV.mj,CV.aT h]
 |agg cs=>
  simp only[AV.kR,Zb]at h;simp only[AV.mj];congr 1;have:∀x∈cs,CV.bM g x=x:=λx hx=>CV.aT (h x hx) g
  simpa using ZP this
 |tup l=>cases h
 |undef=>rfl
 |junk=>rfl
def AV.aT(h:x.pure=true)(g:Key->Key):x.bM g=x:=by
 cases x with
 |c x=>exact AV.uL (x:=.c x) h g
 |agg cs=>exact AV.uL (x:=.agg cs) h g
 |tup l=>
  simp only[AV.pure,Zb]at h;simp only[AV.bM];congr 1;have:∀x∈l,AV.mj g x=x:=λx hx=>AV.uL (h x hx) g
  simpa using ZP this
 |undef=>rfl
 |junk=>rfl
def AV.bx(h:x.pure=true):x.bC=true:=by
 cases x with
 |tup l=>
  simp only[AV.pure,Zb]at h;simp only[AV.bC,Zb];intro x hx;have:=h x hx
  cases x<;>simp_all [AV.kR]
 |_=>rfl
def ei.blind(hl:∀p∈l,p.2.pure=true/\s.fr p.1=p.2)(kh:Key)(hh:s.lv kh=.hole)(h0:∀k,c.iV k=.hole):
 ei c s ⟨aU l,λ_=>.hole⟩ (λ_=>kh):=by
 refine⟨λk=>hh,λk k' h=>(by cases h),λt=>?_,λk h=>absurd (h0 k) h⟩;rcases kV (P:=λt x=>x.pure=true/\s.fr t=x) hl t with h|⟨h1,h2⟩
 ·exact .inl h
 ·exact .inr ⟨AV.bx h1,by rw[AV.aT h1];exact h2⟩
def gW:bq [] []=λ_=>LB.hole:=funext λk=>tj k
def au(c:Ctx)(fn:Func)(x:AV):Ex->aE->Nat->Prop
 |.normal,s,_|.ret,s,_=>∃l kh,(∀p∈l,p.2.pure=true/\s.fr p.1=p.2)/\s.lv kh=.hole/\cO c.P ⟨aU l,λ_=>.hole⟩ fn.results.toList=some x
 |_,_,_=>False
def aa.LC(hf:P.funcs[f]?=some fn)(hb:fn.body=some code)(hl:args.length<=fn.ntmps)
 (h:∀c:Ctx,c.P=P->c.G=G->c.n=fn.ntmps->c.iV=(λ_=>.hole)->AW c none code ⟨λt=>args.getD t .undef,λ_=>.hole⟩ 0 (au c fn x)):aa P G f args x:=by
 refine aA.nZ hf hb hl λc h1 h2 h3 h4=>?_;rw[gW]at h4⊢;refine(AW.mono (λF β a w hs=>h c h1 h2 h3 h4 F β a w hs) λe s κ hq=>?_:AW c none code _ 1000 _)
 have fin:(∃l kh,(∀p∈l,p.2.pure=true/\s.fr p.1=p.2)/\s.lv kh=.hole/\cO c.P ⟨aU l,λ_=>.hole⟩ fn.results.toList=some x) ->
  ∃s2 g,ei c s s2 g/\s2.lv=bq [] []/\cO c.P s2 fn.results.toList=some x:=by
  rintro⟨l,kh,g1,g2,g3⟩;exact⟨⟨aU l,λ_=>.hole⟩,λ_=>kh,ei.blind g1 kh g2 (λk=>by rw[h4]),by rw[gW],g3⟩
 cases e with
 |normal=>exact fin hq
 |ret=>exact fin hq
 |exit id=>exact hq.elim
 |goto l=>exact hq.elim
 |panic d=>exact hq.elim
def aa.nZ(hf:P.funcs[f]?=some fn)(hb:fn.body=some code)(hl:args.length<=fn.ntmps)
 (h:∀c:Ctx,c.P=P->c.G=G->c.n=fn.ntmps->AW c none code ⟨λt=>args.getD t .undef,λ_=>.hole⟩ 0 (au c fn x)):aa P G f args x:=
 aa.LC hf hb hl λc h1 h2 h3 _=>h c h1 h2 h3
inductive Tr(α:Type) where
 |nil
 |node (l:Tr α) (v:Option α) (r:Tr α)
def Tr.get:Tr α->Nat->Option α
 |.nil,_=>none
 |.node l v r,n=>match n with
  |0=>v
  |n+1=>bif Nat.beq (n%2) 0 then l.get (n/2)else r.get (n/2)
def Tr.set:Nat->Tr α->Nat->α->Option (Tr α)
 |0,_,_,_=>none
 |d+1,t,n,x=>
  match t with
  |.nil=>match n with
   |0=>some (.node .nil (some x) .nil)
   |n+1=>bif Nat.beq (n%2) 0 then(match Tr.set d .nil (n/2) x with|some l=>some (.node l none .nil)|none=>none)
    else(match Tr.set d .nil (n/2) x with|some r=>some (.node .nil none r)|none=>none)
  |.node l v r=>match n with
   |0=>some (.node l (some x) r)
   |n+1=>bif Nat.beq (n%2) 0 then(match Tr.set d l (n/2) x with|some l=>some (.node l v r)|none=>none)
    else(match Tr.set d r (n/2) x with|some r=>some (.node l v r)|none=>none)
def Tr.get_nil(n:Nat):(Tr.nil:Tr α).get n=none:=by unfold Tr.get;rfl
def Tr.lU:∀{d:Nat}{t t':Tr α}{n:Nat}{x:α},Tr.set d t n x=some t'->∀m,t'.get m=if m=n then some x else t.get m
 |0,_,_,_,_,h=>by cases h
 |d+1,t,t',n,x,h=>by
  intro m
  have half:∀p q:Nat,(p%2==q%2)=true->p≠q->p/2≠q/2:=by
   intro p q h1 h2 h3;simp at h1;omega
  cases t with
  |nil=>
   simp only[Tr.set]at h
   cases n with
   |zero=>
    simp only[ai]at h;subst h
    cases m with
    |zero=>simp[Tr.get]
    |succ m=>simp[Tr.get,Tr.get_nil]
   |succ n=>
    simp only at h
    cases hb:Nat.beq (n%2) 0 with
    |true=>
     rw[hb]at h;simp only[cond_true]at h;split at h
     ·rename_i l hl
      simp only[ai]at h;subst h;have ih:=Tr.lU hl
      cases m with
      |zero=>simp[Tr.get]
      |succ m=>
       simp only[Tr.get,Tr.get_nil]
       cases hm:Nat.beq (m%2) 0 with
       |true=>
        simp only[cond_true];rw[ih,Tr.get_nil];have e1:=Zr hb;have e2:=Zr hm
        by_cases e:m=n
        ·subst e;simp
        ·rw[if_neg (half m n (by simp;omega) e),if_neg (by omega)]
       |false=>
        simp only[cond_false];rw[if_neg];intro e;have:m=n:=by omega
        subst this;rw[hb]at hm;cases hm
     ·cases h
    |false=>
     rw[hb]at h;simp only[cond_false]at h;split at h
     ·rename_i l hl
      simp only[ai]at h;subst h;have ih:=Tr.lU hl;have e1:=abI hb
      cases m with
      |zero=>simp[Tr.get]
      |succ m=>
       simp only[Tr.get,Tr.get_nil]
       cases hm:Nat.beq (m%2) 0 with
       |false=>
        simp only[cond_false];rw[ih,Tr.get_nil];have e2:=abI hm
        by_cases e:m=n
        ·subst e;simp
        ·rw[if_neg (half m n (by simp;omega) e),if_neg (by omega)]
       |true=>
        simp only[cond_true];rw[if_neg];intro e;have:m=n:=by omega
        subst this;rw[hb]at hm;cases hm
     ·cases h
  |node l0 v0 r0=>
   simp only[Tr.set]at h
   cases n with
   |zero=>
    simp only[ai]at h;subst h
    cases m with
    |zero=>simp[Tr.get]
    |succ m=>simp[Tr.get]
   |succ n=>
    simp only at h
    cases hb:Nat.beq (n%2) 0 with
    |true=>
     rw[hb]at h;simp only[cond_true]at h;split at h
     ·rename_i l hl
      simp only[ai]at h;subst h;have ih:=Tr.lU hl
      cases m with
      |zero=>simp[Tr.get]
      |succ m=>
       simp only[Tr.get]
       cases hm:Nat.beq (m%2) 0 with
       |true=>
        simp only[cond_true];rw[ih];have e1:=Zr hb;have e2:=Zr hm
        by_cases e:m=n
        ·subst e;simp
        ·rw[if_neg (half m n (by simp;omega) e),if_neg (by omega)]
       |false=>
        simp only[cond_false];rw[if_neg];intro e;have:m=n:=by omega
        subst this;rw[hb]at hm;cases hm
     ·cases h
    |false=>
     rw[hb]at h;simp only[cond_false]at h;split at h
     ·rename_i l hl
      simp only[ai]at h;subst h;have ih:=Tr.lU hl;have e1:=abI hb
      cases m with
      |zero=>simp[Tr.get]
      |succ m=>
       simp only[Tr.get]
       cases hm:Nat.beq (m%2) 0 with
       |false=>
        simp only[cond_false];rw[ih];have e2:=abI hm
        by_cases e:m=n
        ·subst e;simp
        ·rw[if_neg (half m n (by simp;omega) e),if_neg (by omega)]
       |true=>
        simp only[cond_true];rw[if_neg];intro e;have:m=n:=by omega
        subst this;rw[hb]at hm;cases hm
     ·cases h
abbrev lN:=AV×List (Key×LB)×List Key×Bool
instance (op:BinOp)(y:Int):Decidable (ff op y):=by unfold ff;cases op<;>infer_instance
instance (op:BinOp)(x y:List UInt8):Decidable (qO op x y):=by unfold qO;cases op<;>infer_instance
def uY(P:Program)(op:BinOp)(T:TypeId)(x y:AV):Option lN:=
 match x,y with
 |.c (.d (.int k m)),.c (.d (.int k' n))=>
  match op with
  |.shl|.shr=>match SA op k m n with|some d=>some (.c (.d d),[],[],decide (0<=n))|none=>none
  |_=>if k=k' then(match lD op k m n with|some d=>some (.c (.d d),[],[],decide (ff op n))|none=>none)else none
 |.c (.d (.str m)),.c (.d (.str n))=>match Ld op m n with|some d=>some (.c (.d d),[],[],decide (qO op m n))|none=>none
 |x,y=>
  match op with
  |.eql=>if P.eqGuardType P.depth T || !pg x then none else match Bh P 20 T x y with|some b=>some (.c (.d (.bool b)),[],[],true)|none=>none
  |.neq=>if P.eqGuardType P.depth T || !pg x then none else match Bh P 20 T x y with|some b=>some (.c (.d (.bool (!b))),[],[],true)|none=>none
  |_=>none
def qX(P:Program)(T:TypeId)(lv:Key->LB):AV->Option lN
 |.c (.d (.ptr cs))=>match eW P T (cs.map CV.d)with|some y=>some (y,[],[],true)|none=>none
 |.c (.ptr k off)=>match lv k with
  |.cells _ _ _ cs=>match eW P T (cs.drop off)with|some y=>some (y,[],[k],true)|none=>none
  |_=>none
 |_=>none
def pF(P:Program)(T:TypeId)(lv:Key->LB)(x y:AV):Option lN:=
 match x with
 |.c (.ptr k off)=>match lv k with
  |.cells own false T' cs=>match y.cells with
   |some xs=>if (P.info? T).isSome&&xs.length==ij P T then some (.undef,[(k,.cells own false T' (aj cs off xs))],[],decide (off+xs.length<=cs.length))else none
   |none=>none
  |_=>none
 |_=>none
def uW(lv:Key->LB):AV->Option lN
 |.c (.d (.ptr cs))=>some (.c (.d (.ptr cs)),[],[],true)
 |.c (.ptr k n)=>match lv k with|.cells ..=>some (.c (.ptr k n),[],[k],true)|_=>none
 |.c (.d (.func (.func f) fs cs))=>some (.c (.d (.func (.func f) fs cs)),[],[],true)
 |.c (.func (.func f) fs cs)=>some (.c (.func (.func f) fs cs),[],[],true)
 |_=>none
def kn(P:Program)(T:TypeId)(f:Nat)(lv:Key->LB):AV->Option lN
 |.c (.d (.ptr cs))=>match dI P T f with|some (off,_)=>some (.c (.d (.ptr (cs.drop off))),[],[],decide (off<=cs.length))|none=>none
 |.c (.ptr k n)=>match lv k,dI P T f with|.cells ..,some (off,_)=>some (.c (.ptr k (n+off)),[],[k],true)|_,_=>none
 |_=>none
def ke(P:Program)(T:TypeId)(lv:Key->LB)(x i:AV):Option lN:=
 match i with
 |.c (.d (.int _ n))=>
  match x with
  |.c (.d (.sl es))=>match fh P T with
   |some (_,sz)=>some (.c (.d (.ptr (es.getD n.toNat []))),[],[],decide (0<=n/\n<es.length/\(es.getD n.toNat []).length=sz))
   |none=>none
  |.c (.aD k off len sz)=>match lv k,fh P T with
   |.cells ..,some (_,sz')=>if sz=sz' then some (.c (.ptr k (off+n.toNat*sz)),[],[k],decide (0<=n/\n<len))else none
   |_,_=>none
  |.c (.d (.ptr cs))=>match ug P T with
   |some (len,_,sz)=>some (.c (.d (.ptr (cs.drop (n.toNat*sz)))),[],[],decide (0<=n/\n<len/\n.toNat*sz<=cs.length))
   |none=>none
  |.c (.ptr k off)=>match lv k,ug P T with
   |.cells ..,some (len,_,sz)=>some (.c (.ptr k (off+n.toNat*sz)),[],[k],decide (0<=n/\n<len))
   |_,_=>none
  |_=>none
 |_=>none
def oe(P:Program)(T:TypeId)(x i:AV):Option lN:=
 match i with
 |.c (.d (.int _ n))=>
  match x with
  |.c (.d (.str l))=>if cF P T then some (.c (.d (.int .u8 (l.getD n.toNat 0).toNat)),[],[],decide (0<=n/\n<l.length))else none
  |.agg cs=>match ug P T with
   |some (len,e,sz)=>match oa P e cs (n.toNat*sz)with|some y=>some (y,[],[],decide (0<=n/\n<len))|none=>none
   |none=>none
  |_=>none
 |_=>none
def oL(P:Program)(T:TypeId)(lv:Key->LB)(x:AV)(lo hi:Option AV):Option lN:=
 match x with
 |.c (.d (.str bs))=>if cF P T then(match cU lo 0,cU hi bs.length with
  |some l,some h=>some (.c (.d (.str ((bs.take h.toNat).drop l.toNat))),[],[],decide (0<=l/\l<=h/\h<=bs.length))
  |_,_=>none)else none
 |.c (.d (.sl es))=>match fh P T with
  |some (_,sz)=>match cU lo 0,cU hi es.length with
   |some l,some h=>some (.c (.d (.sl ((es.take h.toNat).drop l.toNat))),[],[],decide (0<=l/\l<=h/\h<=es.length/\∀e∈es,e.length=sz))
   |_,_=>none
  |none=>none
 |.c (.d .nilsl)=>match fh P T with
  |some _=>match cU lo 0,cU hi 0 with
   |some l,some h=>some (.c (.d .nilsl),[],[],decide (l=0/\h=0))
   |_,_=>none
  |none=>none
 |.c (.aD k off len sz)=>match lv k,fh P T with
  |.cells ..,some (_,sz')=>if sz=sz' then(match cU lo 0,cU hi len with
   |some l,some h=>some (.c (.aD k (off+l.toNat*sz) (h.toNat-l.toNat) sz),[],[k],decide (0<=l/\l<=h/\h<=len/\(l<h\/l=0)))
   |_,_=>none)else none
  |_,_=>none
 |_=>none
def qU(P:Program)(T:TypeId)(lv:Key->LB)(κ:Key)(x y:AV):Option lN:=
 match x,y with
 |.c (.d (.int _ l)),.c (.d (.int _ m))=>match fh P T,lv κ with
  |some (e,sz),.hole=>match bz P e,bH P e with
   |some zs,some b=>if zs.length=sz/\0<sz then some (.c (.aD κ 0 l.toNat sz),[(κ,.cells true false e (jz l.toNat zs))],[],decide (0<=l/\l<=m/\(b:Int)*m<=281474976710656/\m<=9223372036854775807))else none
   |_,_=>none
  |_,_=>none
 |_,_=>none
def ny(P:Program)(T:TypeId)(lv:Key->LB)(κ:Key)(y x:AV):Option lN:=
 match fh P T,lv κ with
 |some (e,sz),.hole=>match bH P e,dY lv sz x with
  |some b,some (m,xs)=>
   match y with
   |.c (.d .nilsl)=>some (.c (.aD κ 0 m sz),[(κ,if m=0 then .nils else .cells true false e xs)],keyOf x,decide (m<=9223372036854775807/\m*b<=140737488355328))
   |.c (.aD k off n sz')=>match lv k with
    |.nils=>if off=0/\n=0/\sz'=sz then some (.c (.aD κ 0 m sz),[(κ,if m=0 then .nils else .cells true false e xs)],k::keyOf x,decide (m<=9223372036854775807/\m*b<=140737488355328))else none
    |.cells own false e' cs=>if off=0/\sz'=sz/\e'=e then
     some (.c (.aD κ 0 (n+m) sz),[(k,.dead),(κ,.cells own false e (cs++xs))],keyOf x,decide (cs.length=n*sz/\n+m<=9223372036854775807/\(n+m)*b<=140737488355328))else none
    |_=>none
   |_=>none
  |_,_=>none
 |_,_=>none
def jA(P:Program)(T:TypeId)(n:Nat)(ixs:List Nat)(lv:Key->LB)(κ:Key)(vals:List AV):Option lN:=
 match fh P T,lv κ with
 |some (e,sz),.hole=>match bz P e with
  |some zs=>if zs.length=sz/\0<sz/\n*sz<=16777216/\ixs.length=vals.length then(match fM (λi=>some (i*sz,sz)) (jz n zs) (ixs.zip vals)with
   |some cs=>some (.c (.aD κ 0 n sz),[(κ,.cells true false e cs)],[],true)
   |none=>none)else none
  |none=>none
 |_,_=>none
def qL(P:Program)(T:TypeId)(lv:Key->LB)(y x:AV):Option lN:=
 match y,fh P T with
 |.c (.aD k off n sz),some (_,sz')=>if sz=1/\sz'=1 then(match lv k,dY lv 1 x with
  |.cells own false T' cs,some (m,xs)=>some (.c (.d (.int .i64 ((min m n:Nat):Int))),[(k,.cells own false T' (aj cs off (xs.take (min m n))))],keyOf x,decide (0<m/\off+min m n<=cs.length/\n<=9223372036854775807))
  |_,_=>none)else none
 |_,_=>none
def Gf(x:AV)(n:Int):Bool:=
 match x with
 |.c (.aD ..)=>decide (n<=9223372036854775807)
 |_=>true
def FG{n:Int}(h:Gf x n=true):nV x n:=by
 cases x with
 |c y=>cases y<;>first|exact trivial|simpa[Gf,nV]using h
 |_=>exact trivial
def Ch(P:Program)(cl:Call)(vals:List AV)(lv:Key->LB)(κ:Key):Option lN:=
 match cl.callee with
 |.builtin .len=>match cl.args.toList,cl.argTypes.toList,vals with
  |[_],[T],[x]=>match lE P T lv x with
   |some n=>some (.c (.d (.int .i64 n)),[],keyOf x,Gf x n)
   |none=>none
  |_,_,_=>none
 |.builtin .append=>match cl.args.toList,cl.argTypes.toList,vals with
  |[_,_],[T,T'],[y,x]=>if T=T' then ny P T lv κ y x else none
  |_,_,_=>none
 |.builtin .copy=>match cl.args.toList,cl.argTypes.toList,vals with
  |[_,_],[T,_],[y,x]=>qL P T lv y x
  |_,_,_=>none
 |.builtin .max=>match dL vals with
  |some (k,n::l)=>some (.c (.d (.int k (l.foldl (λa b=>if b > a then b else a) n))),[],[],true)
  |_=>none
 |.builtin .min=>match dL vals with
  |some (k,n::l)=>some (.c (.d (.int k (l.foldl (λa b=>if b<a then b else a) n))),[],[],true)
  |_=>none
 |_=>none
def tq(P:Program)(op:Op)(vals:List AV)(lv:Key->LB)(κ:Key):Option lN:=
 match op,vals with
 |.move _,[x]|.assign _,[x]=>some (x,[],[],true)
 |.pick _ _ _,[t,x,y]=>match t with|.c (.d (.bool true))=>some (x,[],[],true)|.c (.d (.bool false))=>some (y,[],[],true)|_=>none
 |.alloc T,[]=>match bz P T,lv κ with|some xs,.hole=>some (.c (.ptr κ 0),[(κ,.cells true false T xs)],[],true)|_,_=>none
 |.box T _,[x]=>match x.cells,lv κ with|some xs,.hole=>some (.c (.ptr κ 0),[(κ,.cells true false T xs)],[],true)|_,_=>none
 |.build T parts,vals=>match bz P T,uc P T with
  |some zs,some place=>if parts.size=vals.length then(match fM place zs ((parts.toList.map (·.1)).zip vals)with|some cs=>some (.agg cs,[],[],true)|none=>none)else none
  |_,_=>none
 |.buildSlice T n parts,vals=>jA P T n (parts.toList.map (·.1)) lv κ vals
 |.load T _,[x]=>qX P T lv x
 |.store T _ _,[x,y]=>pF P T lv x y
 |.nilCheck _,[x]=>uW lv x
 |.binOp op T _ _ _,[x,y]=>uY P op T x y
 |.unOp op _ _,[x]=>match x with|.c (.d d)=>(match Te op d with|some d'=>some (.c (.d d'),[],[],true)|none=>none)|_=>none
 |.convert S T _,[x]=>match x with
  |.c (.d (.int _ n))=>match qi P S,qi P T with|some _,some k'=>some (.c (.d (.int k' (k'.wrap n))),[],[],true)|_,_=>none
  |.c (.d (.str l))=>if cF P S&&cF P T then some (.c (.d (.str l)),[],[],true)else none
  |_=>none
 |.makeInterface T _,[x]=>match n7 x with|some d=>if P.concrete T then some (.c (.d (.iface T d)),[],[],true)else none|none=>none
 |.makeFunc fn first caps,vals=>if vals.length=first.size+caps.size then(match rz (vals.take first.size),rz (vals.drop first.size)with
  |some fr,some cr=>some (.c (zH fn fr cr),[],[],true)
  |_,_=>none)else none
 |.makeSlice T _ _,[x,y]=>qU P T lv κ x y
 |.slice T _ lo hi none,x::rest=>match wL lo hi rest with|some (l,h)=>oL P T lv x l h|none=>none
 |.fieldAddr T _ f,[x]=>kn P T f lv x
 |.field T _ f,[x]=>match x with|.agg cs=>(match dI P T f with|some (off,ft)=>(match oa P ft cs off with|some y=>some (y,[],[],true)|none=>none)|none=>none)|_=>none
 |.indexAddr T _ _,[x,i]=>ke P T lv x i
 |.index T _ _,[x,i]=>oe P T x i
 |.extract _ i,[x]=>match x with|.tup l=>(match l[i]? with|some (.tup _)=>none|some y=>some (y,[],[],true)|none=>none)|_=>none
 |.call cl,vals=>Ch P cl vals lv κ
 |_,_=>none
inductive Tb(α:Type) where
 |leaf
 |node (l:Tb α) (v:α) (r:Tb α)
inductive Pa where
 |e
 |l (p:Pa)
 |r (p:Pa)
def Tb.get(d:α)(t:Tb α)(p:Pa):α:=
 Pa.rec (motive:=λ_=>Tb α->α) (λt=>Tb.rec (motive:=λ_=>α) d (λ_ v _ _ _=>v) t)
  (λ_ ih t=>Tb.rec (motive:=λ_=>α) d (λl _ _ _ _=>ih l) t)
  (λ_ ih t=>Tb.rec (motive:=λ_=>α) d (λ_ _ r _ _=>ih r) t) p t
def Tb.set(d x:α)(p:Pa)(t:Tb α):Tb α:=
 Pa.rec (motive:=λ_=>Tb α->Tb α) (λt=>Tb.rec (motive:=λ_=>Tb α) (.node .leaf x .leaf) (λl _ r _ _=>.node l x r) t)
  (λ_ ih t=>Tb.rec (motive:=λ_=>Tb α) (.node (ih .leaf) d .leaf) (λl v r _ _=>.node (ih l) v r) t)
  (λ_ ih t=>Tb.rec (motive:=λ_=>Tb α) (.node .leaf d (ih .leaf)) (λl v r _ _=>.node l v (ih r)) t) p t
def Tb.Cw(d x:α)(p:Pa)(t:Tb α)(k:Tb α->β):β:=
 Pa.rec (motive:=λ_=>Tb α->(Tb α->β)->β) (λt k=>Tb.rec (motive:=λ_=>β) (k (.node .leaf x .leaf)) (λl _ r _ _=>k (.node l x r)) t)
  (λ_ ih t k=>Tb.rec (motive:=λ_=>β) (ih .leaf λs=>k (.node s d .leaf)) (λl v r _ _=>ih l λs=>k (.node s v r)) t)
  (λ_ ih t k=>Tb.rec (motive:=λ_=>β) (ih .leaf λs=>k (.node .leaf d s)) (λl v r _ _=>ih r λs=>k (.node l v s)) t) p t k
def Tb.lT(d x:α):∀(p:Pa) (t:Tb α) (k:Tb α->β),Tb.Cw d x p t k=k (Tb.set d x p t)
 |.e,.leaf,_=>rfl
 |.e,.node _ _ _,_=>rfl
 |.l p,.leaf,k=>Tb.lT d x p .leaf λs=>k (.node s d .leaf)
 |.l p,.node l v r,k=>Tb.lT d x p l λs=>k (.node s v r)
 |.r p,.leaf,k=>Tb.lT d x p .leaf λs=>k (.node .leaf d s)
 |.r p,.node l v r,k=>Tb.lT d x p r λs=>k (.node l v s)
def Tb.eH(d:α)(p:Pa):Tb.get d .leaf p=d:=by cases p<;>rfl
def Tb.lU(d x:α):∀(p:Pa) (t:Tb α) (q:Pa) [Decidable (q=p)],Tb.get d (Tb.set d x p t) q=if q=p then x else Tb.get d t q:=by
 intro p
 induction p with
 |e=>
  intro t q _
  cases q with
  |e=>cases t<;>simp[Tb.get,Tb.set]
  |l q=>cases t with
   |leaf=>simp only[reduceCtorEq,if_false];rw[Tb.eH];exact Tb.eH d q
   |node l v r=>rw[if_neg (by simp)];rfl
  |r q=>cases t with
   |leaf=>simp only[reduceCtorEq,if_false];rw[Tb.eH];exact Tb.eH d q
   |node l v r=>rw[if_neg (by simp)];rfl
 |l p ih=>
  intro t q _
  cases q with
  |l q=>
   have:Decidable (q=p):=Classical.propDecidable _
   cases t with
   |leaf=>
    have h1:Tb.get d (Tb.set d x (.l p) .leaf) (.l q)=Tb.get d (Tb.set d x p .leaf) q:=rfl;rw[h1,ih .leaf q]
    by_cases h:q=p
    ·subst h;simp
    ·have:¬(Pa.l q=Pa.l p):=λe=>h (by injection e)
     rw[if_neg h,if_neg this,Tb.eH,Tb.eH]
   |node l v r=>
    have h1:Tb.get d (Tb.set d x (.l p) (.node l v r)) (.l q)=Tb.get d (Tb.set d x p l) q:=rfl;rw[h1,ih l q]
    by_cases h:q=p
    ·subst h;simp
    ·have:¬(Pa.l q=Pa.l p):=λe=>h (by injection e)
     rw[if_neg h,if_neg this];rfl
  |e=>cases t<;>simp[Tb.get,Tb.set]
  |r q=>cases t<;>simp[Tb.get,Tb.set];cases q<;>rfl
 |r p ih=>
  intro t q _
  cases q with
  |r q=>
   have:Decidable (q=p):=Classical.propDecidable _
   cases t with
   |leaf=>
    have h1:Tb.get d (Tb.set d x (.r p) .leaf) (.r q)=Tb.get d (Tb.set d x p .leaf) q:=rfl;rw[h1,ih .leaf q]
    by_cases h:q=p
    ·subst h;simp
    ·have:¬(Pa.r q=Pa.r p):=λe=>h (by injection e)
     rw[if_neg h,if_neg this,Tb.eH,Tb.eH]
   |node l v r=>
    have h1:Tb.get d (Tb.set d x (.r p) (.node l v r)) (.r q)=Tb.get d (Tb.set d x p r) q:=rfl;rw[h1,ih r q]
    by_cases h:q=p
    ·subst h;simp
    ·have:¬(Pa.r q=Pa.r p):=λe=>h (by injection e)
     rw[if_neg h,if_neg this];rfl
  |e=>cases t<;>simp[Tb.get,Tb.set]
  |l q=>cases t<;>simp[Tb.get,Tb.set];cases q<;>rfl
def Bg(f:Nat):Nat->Pa:=
 Nat.rec (motive:=λ_=>Nat->Pa) (λ_=>.e) (λ_ ih n=>Nat.rec (motive:=λ_=>Pa) .e
  (λm _=>Bool.rec (motive:=λ_=>Pa) (.r (ih (Nat.div m 2))) (.l (ih (Nat.div m 2))) (Nat.beq (Nat.mod m 2) 0)) n) f
def pathOf(n:Nat):Pa:=Bg n n
def Pa.num:Pa->Nat
 |.e=>0
 |.l p=>2*p.num+1
 |.r p=>2*p.num+2
def uT:∀(f n:Nat),n<=f->(Bg f n).num=n
 | 0,n,h=>by have:n=0:=by omega
             subst this;rfl
 |f+1,0,_=>rfl
 |f+1,m+1,h=>by
  have ih:=uT f (m/2) (by omega);show(Bool.rec (motive:=λ_=>Pa) (.r (Bg f (Nat.div m 2))) (.l (Bg f (Nat.div m 2))) (Nat.beq (Nat.mod m 2) 0)).num=m+1;have e:Nat.div m 2=m/2:=rfl;have e2:Nat.mod m 2=m%2:=rfl;rw[e,e2]
  cases hb:Nat.beq (m%2) 0 with
  |true=>
   have:=Zr hb;show 2*(Bg f (m/2)).num+1=m+1;rw[ih];omega
  |false=>
   have:=abI hb;show 2*(Bg f (m/2)).num+2=m+1;rw[ih];omega
def ry{n:Nat}(h:pathOf n=pathOf m):n=m:=by
 have h1:=uT n n (aY _);have h2:=uT m m (aY _);unfold pathOf at h;rw[<-h1,<-h2,h]
def kH(t:Tb AV):Nat->AV:=λi=>t.get .undef (pathOf i)
def aZ(t:Tb LB):Key->LB:=λi=>t.get .hole (pathOf i)
def Fe(t:Tb AV)(k:Nat)(x:AV):kH (t.set .undef x (pathOf k))=az (kH t) k x:=by
 funext i;have:Decidable (pathOf i=pathOf k):=Classical.propDecidable _;simp only[kH,az,Tb.lU]
 by_cases e:i=k
 ·subst e;simp
 ·rw[if_neg e,if_neg (λh=>e (ry h))]
def E7(t:Tb LB)(k:Nat)(x:LB):aZ (t.set .hole x (pathOf k))=az (aZ t) k x:=by
 funext i;have:Decidable (pathOf i=pathOf k):=Classical.propDecidable _;simp only[aZ,az,Tb.lU]
 by_cases e:i=k
 ·subst e;simp
 ·rw[if_neg e,if_neg (λh=>e (ry h))]
def dF(n:Nat)(k:Nat->β):β:=Nat.rec (motive:=λ_=>β) (k 0) (λm _=>k (Nat.succ m)) n
def C5(n:Int)(k:Int->β):β:=Int.rec (motive:=λ_=>β) (λm=>dF m λm=>k (.ofNat m)) (λm=>dF m λm=>k (.negSucc m)) n
def iR(n:Nat)(k:Nat->β):dF n k=k n:=by cases n<;>rfl
def EL(n:Int)(k:Int->β):C5 n k=k n:=by cases n with
 |ofNat m=>exact iR m λm=>k (.ofNat m)
 |negSucc m=>exact iR m λm=>k (.negSucc m)
def AS(b:Bool)(k:Bool->β):β:=Bool.rec (motive:=λ_=>β) (k false) (k true) b
def B4(b:Bool)(k:Bool->β):AS b k=k b:=by cases b<;>rfl
def rj(f:α->(α->β)->β)(l:List α)(k:List α->β):β:=
 List.rec (motive:=λ_=>(List α->β)->β) (λk=>k []) (λx _ ih k=>f x λx=>ih λl=>k (x::l)) l k
def kO{α β:Type}(f:α->(α->β)->β)(hf:∀x k,f x k=k x):∀(l:List α) (k:List α->β),rj f l k=k l
 |[],_=>rfl
 |x::l,k=>by
  show f x (λx=>rj f l λl=>k (x::l))=_;rw[hf,kO f hf l]
def uJ(b:UInt8)(k:UInt8->β):β:=dF b.toNat λn=>k (UInt8.ofNat n)
def CB(b:UInt8)(k:UInt8->β):uJ b k=k b:=by unfold uJ;rw[iR];simp
def Gb(d:DV)(k:DV->β):β:=
 DV.casesOn (motive_1:=λ_=>β) d (λb=>AS b λb=>k (.bool b)) (λq n=>C5 n λn=>k (.int q n)) (λs=>rj uJ s λs=>k (.str s)) (k .nilp) (λcs=>k (.ptr cs)) (k .nilsl)
  (λes=>k (.sl es)) (λcs=>k (.agg cs)) (k .nilIface) (λt v=>k (.iface t v)) (k .nilFunc) (λf a b=>k (.func f a b)) (k .nilmap)
def Jb(d:DV)(k:DV->β):Gb d k=k d:=by
 cases d<;>simp only[Gb]<;>first|exact B4 _ _|exact EL _ _|exact kO _ CB _ _|rfl
def rB(x:CV)(k:CV->β):β:=
 CV.casesOn (motive:=λ_=>β) x (λd=>Gb d λd=>k (.d d)) (λa b=>dF a λa=>dF b λb=>k (.ptr a b))
  (λa b c d=>dF a λa=>dF b λb=>dF c λc=>dF d λd=>k (.aD a b c d)) (λa=>dF a λa=>k (.mapr a)) (λf a b=>k (.func f a b)) (λt r=>k (.ifc t r)) (k .junk)
def mu(x:CV)(k:CV->β):rB x k=k x:=by
 cases x<;>simp only[rB,Jb,iR]
def BF(x:AV)(k:AV->β):β:=
 AV.casesOn (motive_1:=λ_=>β) x (λc=>rB c λc=>k (.c c)) (λl=>rj rB l λl=>k (.agg l)) (λl=>k (.tup l)) (k .undef) (k .junk)
def GZ(x:AV)(k:AV->β):BF x k=k x:=by
 cases x<;>simp only[BF,mu,kO _ mu]
def eC(x:AV)(k:AV->β):β:=
 AV.casesOn (motive_1:=λ_=>β) x (λc=>rB c λc=>k (.c c)) (λl=>rj rB l λl=>k (.agg l)) (λl=>rj BF l λl=>k (.tup l)) (k .undef) (k .junk)
def jv(x:AV)(k:AV->β):eC x k=k x:=by
 cases x<;>simp only[eC,mu,kO _ mu,kO _ GZ]
def uM(b:LB)(k:LB->β):β:=
 LB.casesOn (motive:=λ_=>β) b (k .hole) (k .dead) (k .nils) (λ_ fz T cs=>rj rB cs λcs=>k (.cells false fz T cs)) (λ_ es=>k (.map false es))
def LB.un:LB->LB
 |.cells _ fz T cs=>.cells false fz T cs
 |.map _ es=>.map false es
 |x=>x
def uj(us:List (Key×LB)):List (Key×LB):=us.map λp=>(p.1,p.2.un)
def Bq(b:LB)(k:LB->β):uM b k=k b.un:=by
 cases b<;>simp only[uM,LB.un,kO _ mu]
end Go.Am
