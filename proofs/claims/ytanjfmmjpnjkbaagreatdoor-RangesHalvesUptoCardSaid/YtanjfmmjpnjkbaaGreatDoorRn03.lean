/- Helpers: an abstract machine for Go functions, and walks of functions of the program. -/
import Derived.Test.YtanjfmmjpnjkbaaGreatDoorRn02
import Derived.Laws.IdiomStrings

set_option linter.all false
set_option maxHeartbeats 8000000
set_option maxRecDepth 100000
namespace Go.Am
abbrev Sq:=Nat→Rat
def polP:Nat→Rat→Sq→Rat
 | 0,_,a=>a 0
 | n+1,x,a=>a 0+x*polP n x (fun k=>a (k+1))
def polD:Nat→Rat→Sq→Rat
 | 0,_,b=>b 0
 | n+1,t,b=>polD n t (fun k=>(1 - t)*b k+t*b (k+1))
def polS:Nat→Rat→Sq→Rat
 | 0,_,d=>d 0
 | n+1,t,d=>polS n t (fun k=>d k+t*d (k+1))
def pas:Nat→Sq→Rat
 | 0,d=>d 0
 | m+1,d=>pas m d+pas m (fun k=>d (k+1))
theorem pas_lin (m:Nat)(x:Rat)(f g:Sq):pas m (fun k=>x*f k+g k)=x*pas m f+pas m g:=by
 induction m generalizing f g with
 | zero=>rfl
 | succ m ih=>simp only [pas];rw [ih,ih];grind
theorem polD_pas (n:Nat)(t:Rat)(d:Sq):polD n t (fun m=>pas m d)=polS n t d:=by
 induction n generalizing d with
 | zero=>rfl
 | succ n ih=>
  simp only [polD,polS]
  rw [← ih]
  congr 1
  funext k
  have h:=pas_lin k t (fun k=>d (k+1)) d
  have e:(fun k=>d k+t*d (k+1))=fun k=>t*d (k+1)+d k:=by funext k;exact Rat.add_comm _ _
  rw [e,h]
  simp only [pas]
  grind
def hor (x:Rat):Nat→Sq→Sq
 | 0,a,k=>a k
 | n+1,a,0=>a 0+x*hor x n (fun k=>a (k+1)) 0
 | n+1,a,k+1=>hor x n (fun k=>a (k+1)) k
theorem hor_pol (x y:Rat)(n:Nat)(a:Sq):polP (n+1) y a=hor x (n+1) a 0+(y - x)*polP n y (fun k=>hor x (n+1) a (k+1)):=by
 induction n generalizing a with
 | zero=>simp only [polP,hor];grind
 | succ n ih=>
  have h:=ih (fun k=>a (k+1))
  have e:polP (n+2) y a=a 0+y*polP (n+1) y (fun k=>a (k+1)):=rfl
  have e2:polP (n+1) y (fun k=>hor x (n+2) a (k+1))=hor x (n+1) (fun k=>a (k+1)) 0+y*polP n y (fun k=>hor x (n+1) (fun k=>a (k+1)) (k+1)):=rfl
  have e3:hor x (n+2) a 0=a 0+x*hor x (n+1) (fun k=>a (k+1)) 0:=rfl
  rw [e,e2,e3,h]
  grind
def shf (x:Rat):Nat→Sq→Sq
 | 0,a=>a
 | n+1,a=>fun k=>match k with
  | 0=>hor x (n+1) a 0
  | k+1=>shf x n (fun k=>hor x (n+1) a (k+1)) k
theorem shf_pol (x y:Rat)(n:Nat)(a:Sq):polP n (y - x) (shf x n a)=polP n y a:=by
 induction n generalizing a with
 | zero=>rfl
 | succ n ih=>
  rw [hor_pol x y n a]
  have e:polP (n+1) (y - x) (shf x (n+1) a)=hor x (n+1) a 0+(y - x)*polP n (y - x) (shf x n (fun k=>hor x (n+1) a (k+1))):=rfl
  rw [e,ih]
def ch:Nat→Nat→Nat
 | _,0=>1
 | 0,_+1=>0
 | n+1,k+1=>ch n k+ch n (k+1)
theorem ch_big {n k:Nat}(h:n<k):ch n k=0:=by
 induction n generalizing k with
 | zero=>cases k with|zero=>omega|succ k=>rfl
 | succ n ih=>
  cases k with
  | zero=>omega
  | succ k=>simp only [ch];rw [ih (by omega),ih (by omega)]
theorem ch_step (n k:Nat)(h:k≤n):(k+1)*ch n (k+1)=(n - k)*ch n k:=by
 induction n generalizing k with
 | zero=>have:k=0:=by omega
         subst this;rfl
 | succ n ih=>
  cases k with
  | zero=>
   have h1:=ih 0 (by omega)
   have e0:ch n 0=1:=by cases n <;> rfl
   have e1:ch (n+1) 0=1:=rfl
   have e2:ch (n+1) 1=ch n 0+ch n 1:=rfl
   rw [e1,e2]
   rw [e0] at h1 ⊢
   simp only [Nat.zero_add,Nat.one_mul,Nat.sub_zero,Nat.mul_one] at h1 ⊢
   omega
  | succ k=>
   have e1:ch (n+1) (k+2)=ch n (k+1)+ch n (k+2):=rfl
   have e2:ch (n+1) (k+1)=ch n k+ch n (k+1):=rfl
   rw [e1,e2]
   by_cases hk:k+1≤n
   ·have h1:=ih k (by omega)
    have h2:=ih (k+1) hk
    obtain⟨j,rfl⟩:∃ j,n=k+1+j:=⟨n - (k+1),by omega⟩
    have s1:k+1+j - k=j+1:=by omega
    have s2:k+1+j - (k+1)=j:=by omega
    have s3:k+1+j+1 - (k+1)=j+1:=by omega
    rw [s1] at h1
    rw [s2] at h2
    rw [s3]
    grind
   ·have hkn:k=n:=by omega
    subst hkn
    rw [ch_big (show k<k+1 by omega),ch_big (show k<k+2 by omega)]
    simp
theorem polP_ext {n:Nat}{x:Rat}{a b:Sq}(h:∀ k,k≤n→a k=b k):polP n x a=polP n x b:=by
 induction n generalizing a b with
 | zero=>exact h 0 (by omega)
 | succ n ih=>simp only [polP];rw [h 0 (by omega),ih (fun k hk=>h (k+1) (by omega))]
theorem polP_lin (n:Nat)(x y:Rat)(f g:Sq):polP n x (fun k=>y*f k+g k)=y*polP n x f+polP n x g:=by
 induction n generalizing f g with
 | zero=>rfl
 | succ n ih=>simp only [polP];rw [ih];grind
theorem polS_eq (n:Nat)(t:Rat)(d:Sq):polS n t d=polP n t (fun k=>(ch n k:Rat)*d k):=by
 induction n generalizing d with
 | zero=>simp [polS,polP,ch]
 | succ n ih=>
  simp only [polS]
  rw [ih]
  have e0:∀ n,ch n 0=1:=fun n=>by cases n <;> rfl
  have key:∀ (m:Nat) (f g:Sq),polP m t f+t*polP m t g=f 0+t*polP m t (fun k=>g k+(if k+1≤m then f (k+1) else 0)):=by
   intro m
   induction m with
   | zero=>intro f g;simp [polP,Rat.add_zero]
   | succ m ihm=>
    intro f g
    have h1:=ihm (fun k=>f (k+1)) (fun k=>g (k+1))
    simp only [polP]
    simp only [show (0+1≤m+1)=True by simp,if_true]
    have e:polP m t (fun k=>g (k+1)+(if k+1+1≤m+1 then f (k+1+1) else 0))=polP m t (fun k=>g (k+1)+(if k+1≤m then f (k+1+1) else 0)):=by
     congr 1;funext k;simp only [Nat.add_le_add_iff_right]
    rw [e]
    grind
  have e1:(fun k=>(ch n k:Rat)*(d k+t*d (k+1)))=fun k=>t*((ch n k:Rat)*d (k+1))+(ch n k:Rat)*d k:=by funext k;grind
  rw [e1,polP_lin]
  have h:=key n (fun k=>(ch n k:Rat)*d k) (fun k=>(ch n k:Rat)*d (k+1))
  have e2:polP (n+1) t (fun k=>(ch (n+1) k:Rat)*d k)=(ch (n+1) 0:Rat)*d 0+t*polP n t (fun k=>(ch (n+1) (k+1):Rat)*d (k+1)):=rfl
  rw [e2,e0]
  rw [Rat.add_comm,h,e0]
  congr 1
  congr 1
  refine polP_ext fun k hk=>?_
  simp only [ch]
  split
  ·rw [Rat.natCast_add];grind
  ·have:n<k+1:=by omega
   rw [ch_big this];simp [Rat.add_zero]
def scl (n:Nat)(w:Rat):Nat→Rat
 | 0=>1
 | k+1=>scl n w k*w*((k+1:Nat):Rat) / ((n - k:Nat):Rat)
theorem scl_ch (n:Nat)(w:Rat)(k:Nat)(h:k≤n):(ch n k:Rat)*scl n w k=w ^ k:=by
 induction k with
 | zero=>cases n <;> simp [ch,scl]
 | succ k ih=>
  have h1:=ih (by omega)
  have h2:=ch_step n k (by omega)
  have h3:((k+1:Nat):Rat)*(ch n (k+1):Rat)=((n - k:Nat):Rat)*(ch n k:Rat):=by rw [← Rat.natCast_mul,← Rat.natCast_mul,h2]
  have h4:((n - k:Nat):Rat)≠0:=by
   intro e
   have:n - k=0:=by exact_mod_cast e
   omega
  simp only [scl]
  rw [Rat.pow_succ,← h1]
  grind
theorem polP_scale (n:Nat)(x w:Rat)(a:Sq):polP n (x*w) a=polP n x (fun k=>w ^ k*a k):=by
 have key:∀ (n:Nat) (v:Rat) (a:Sq),v*polP n (x*w) a=polP n x (fun k=>v*w ^ k*a k):=by
  intro n
  induction n with
  | zero=>intro v a;simp [polP]
  | succ n ih=>
   intro v a
   have h:=ih (v*w) (fun k=>a (k+1))
   simp only [polP]
   have e:(fun k=>v*w ^ (k+1)*a (k+1))=fun k=>v*w*w ^ k*a (k+1):=by funext k;rw [Rat.pow_succ];grind
   rw [e,← h]
   simp
   grind
 have h:=key n 1 a
 simp at h
 exact h
def cnv (n:Nat)(lo w:Rat)(a:Sq):Sq:=fun m=>pas m (fun k=>shf lo n a k*scl n w k)
theorem cnv_pol (n:Nat)(lo w t:Rat)(a:Sq):polD n t (cnv n lo w a)=polP n (lo+t*w) a:=by
 unfold cnv
 rw [polD_pas,polS_eq]
 have h:=shf_pol lo (lo+t*w) n a
 have e:lo+t*w - lo=t*w:=by grind
 rw [← h,e,polP_scale]
 refine polP_ext fun k hk=>?_
 have:=scl_ch n w k hk
 grind
def Lin (L:Sq→Rat):Prop:=∀ (x:Rat) (f g:Sq),L (fun k=>x*f k+g k)=x*L f+L g
def Loc (n:Nat)(L:Sq→Rat):Prop:=∀ (f g:Sq),(∀ k,k≤n→f k=g k)→L f=L g
theorem Lin.zero {L:Sq→Rat}(h:Lin L):L (fun _=>0)=0:=by
 have:=h 1 (fun _=>0) (fun _=>0)
 simp [Rat.add_zero] at this
 grind
theorem Lin.add {L:Sq→Rat}(h:Lin L) (f g:Sq):L (fun k=>f k+g k)=L f+L g:=by
 have:=h 1 f g
 simpa using this
theorem Lin.mul {L:Sq→Rat}(h:Lin L) (x:Rat) (f:Sq):L (fun k=>x*f k)=x*L f:=by
 have:=h x f (fun _=>0)
 rw [h.zero] at this
 simpa [Rat.add_zero] using this
theorem polD_Lin (n:Nat)(t:Rat):Lin (polD n t):=by
 induction n with
 | zero=>intro y f g;rfl
 | succ n ih=>
  intro y f g
  simp only [polD]
  rw [← ih]
  congr 1;funext k;grind
theorem polD_Loc (n:Nat)(t:Rat):Loc n (polD n t):=by
 induction n with
 | zero=>intro f g h;exact h 0 (by omega)
 | succ n ih=>intro f g h;exact ih _ _ fun k hk=>by rw [h k (by omega),h (k+1) (by omega)]
def Com (M:Sq→Sq):Prop:=∀ (L:Sq→Rat),Lin L→∀ (c:Nat→Sq) (k:Nat),L (fun i=>M (fun l=>c l i) k)=M (fun l=>L (fun i=>c l i)) k
theorem pas_com (L:Sq→Rat)(h:Lin L)(c:Nat→Sq)(m:Nat):L (fun i=>pas m (fun l=>c l i))=pas m (fun l=>L (fun i=>c l i)):=by
 induction m generalizing c with
 | zero=>rfl
 | succ m ih=>simp only [pas];rw [h.add,ih,ih (fun l=>c (l+1))]
theorem hor_com (x:Rat)(n:Nat):Com (hor x n):=by
 intro L h
 induction n with
 | zero=>intro c k;rfl
 | succ n ih=>
  intro c k
  cases k with
  | zero=>
   simp only [hor]
   have:=ih (fun l=>c (l+1)) 0
   rw [h.add,h.mul,this]
  | succ k=>exact ih (fun l=>c (l+1)) k
theorem shf_com (x:Rat)(n:Nat):Com (shf x n):=by
 intro L h
 induction n with
 | zero=>intro c k;rfl
 | succ n ih=>
  intro c k
  cases k with
  | zero=>exact hor_com x (n+1) L h c 0
  | succ k=>
   have h1:=ih (fun l i=>hor x (n+1) (fun l=>c l i) (l+1)) k
   have e:(fun l=>L (fun i=>hor x (n+1) (fun l=>c l i) (l+1)))=fun l=>hor x (n+1) (fun l=>L (fun i=>c l i)) (l+1):=by
    funext l;exact hor_com x (n+1) L h c (l+1)
   rw [e] at h1
   exact h1
theorem cnv_com (n:Nat)(lo w:Rat):Com (cnv n lo w):=by
 intro L h c m
 unfold cnv
 rw [pas_com L h (fun k i=>shf lo n (fun l=>c l i) k*scl n w k)]
 congr 1
 funext k
 have e:(fun i=>shf lo n (fun l=>c l i) k*scl n w k)=fun i=>scl n w k*shf lo n (fun l=>c l i) k:=by funext i;exact Rat.mul_comm _ _
 rw [e,h.mul,shf_com lo n L h c k,Rat.mul_comm]
abbrev Dim:=Nat × (Sq→Rat)
def siz:List Dim→Nat
 | []=>1
 | d::ds=>(d.1+1)*siz ds
theorem siz_pos:∀ ds:List Dim,0<siz ds
 | []=>by decide
 | d::ds=>Nat.mul_pos (Nat.succ_pos _) (siz_pos ds)
def evl:List Dim→Sq→Rat
 | [],c=>c 0
 | d::ds,c=>d.2 (fun k=>evl ds (fun i=>c (k*siz ds+i)))
theorem evl_Lin:∀ {ds:List Dim},(∀ d∈ds,Lin d.2)→Lin (evl ds)
 | [],_=>fun _ _ _=>rfl
 | d::ds,h=>fun x f g=>by
  have ih:=evl_Lin (ds:=ds) fun e he=>h e (List.mem_cons_of_mem _ he)
  simp only [evl]
  rw [← h d (List.mem_cons_self ..)]
  refine congrArg d.2 (funext fun k=>?_)
  exact ih x (fun i=>f (k*siz ds+i)) (fun i=>g (k*siz ds+i))
theorem evl_Loc:∀ {ds:List Dim},(∀ d∈ds,Loc d.1 d.2)→∀ {f g:Sq},(∀ i,i<siz ds→f i=g i)→evl ds f=evl ds g
 | [],_,f,g,he=>he 0 (by decide)
 | d::ds,h,f,g,he=>by
  simp only [evl]
  refine h d (List.mem_cons_self ..) _ _ fun k hk=>evl_Loc (fun e he=>h e (List.mem_cons_of_mem _ he)) fun i hi=>he _ ?_
  have:k*siz ds+siz ds≤(d.1+1)*siz ds:=by rw [← Nat.succ_mul];exact Nat.mul_le_mul_right _ (by omega)
  show k*siz ds+i<(d.1+1)*siz ds
  omega
def tr (n s:Nat)(M:Sq→Sq)(c:Sq):Sq:=fun i=>M (fun k=>c (i - i / s % (n+1)*s+k*s)) (i / s % (n+1))
theorem siz_dvd:∀ (ds1:List Dim) (d:Dim) (ds2:List Dim),∃ q,siz (ds1++d::ds2)=q*((d.1+1)*siz ds2)
 | [],d,ds2=>⟨1,by simp [siz]⟩
 | e::ds1,d,ds2=>by
  obtain⟨q,h⟩:=siz_dvd ds1 d ds2
  exact⟨(e.1+1)*q,by simp only [List.cons_append,siz];rw [h,Nat.mul_assoc]⟩
theorem siz_swap {n:Nat}{F F':Sq→Rat}:∀ (ds1 ds2:List Dim),siz (ds1++(n,F)::ds2)=siz (ds1++(n,F')::ds2)
 | [],ds2=>rfl
 | e::ds1,ds2=>by simp only [List.cons_append,siz];rw [siz_swap ds1 ds2]
theorem evl_tr {n:Nat}{F F':Sq→Rat}{M:Sq→Sq}(hM:Com M) (hF:∀ a,F' (M a)=F a) (hl':Loc n F') {ds2:List Dim}(h1:∀ d∈ds2,Lin d.2) (h2:∀ d∈ds2,Loc d.1 d.2) :
 ∀ (ds1:List Dim) (c:Sq),evl (ds1++(n,F')::ds2) (tr n (siz ds2) M c)=evl (ds1++(n,F)::ds2) c
 | [],c=>by
  have hs:=siz_pos ds2
  simp only [List.nil_append,evl]
  rw [← hF]
  refine hl' _ _ fun k hk=>?_
  have h3:=hM (evl ds2) (evl_Lin h1) (fun l i=>c (l*siz ds2+i)) k
  rw [← h3]
  refine evl_Loc h2 fun i hi=>?_
  unfold tr
  have e1:(k*siz ds2+i) / siz ds2=k:=by rw [Nat.mul_comm,Nat.mul_add_div hs,Nat.div_eq_of_lt hi,Nat.add_zero]
  rw [e1,Nat.mod_eq_of_lt (by omega:k<n+1)]
  congr 1
  funext l
  congr 1
  omega
 | e::ds1,c=>by
  have hs:=siz_pos ds2
  simp only [List.cons_append,evl]
  rw [siz_swap (F:=F') (F':=F) ds1 ds2]
  refine congrArg e.2 (funext fun k=>?_)
  rw [← evl_tr hM hF hl' h1 h2 ds1]
  congr 1
  funext i
  unfold tr
  obtain⟨q,hq⟩:=siz_dvd ds1 (n,F) ds2
  simp only at hq
  rw [hq]
  have e1:k*(q*((n+1)*siz ds2))+i=siz ds2*(k*q*(n+1))+i:=by grind
  have e2:(k*(q*((n+1)*siz ds2))+i) / siz ds2 % (n+1)=i / siz ds2 % (n+1):=by
   rw [e1,Nat.mul_add_div hs,Nat.mul_comm (k*q),Nat.mul_add_mod]
  rw [e2]
  congr 1
  funext l
  congr 1
  have h4:i / siz ds2 % (n+1)*siz ds2≤i:=Nat.le_trans (Nat.mul_le_mul_right _ (Nat.mod_le _ _)) (Nat.div_mul_le_self _ _)
  omega
theorem polD_in {n:Nat}{t lo hi:Rat}(h0:0≤t) (h1:t≤1) {b:Sq}(hb:∀ k,k≤n→lo≤b k∧b k≤hi):lo≤polD n t b∧polD n t b≤hi:=by
 induction n generalizing b with
 | zero=>exact hb 0 (by omega)
 | succ n ih=>
  refine ih fun k hk=>?_
  have a1:=hb k (by omega)
  have a2:=hb (k+1) (by omega)
  have b1:(1 - t)*lo≤(1 - t)*b k:=Rat.mul_le_mul_of_nonneg_left a1.1 (by grind)
  have b2:t*lo≤t*b (k+1):=Rat.mul_le_mul_of_nonneg_left a2.1 h0
  have b3:(1 - t)*b k≤(1 - t)*hi:=Rat.mul_le_mul_of_nonneg_left a1.2 (by grind)
  have b4:t*b (k+1)≤t*hi:=Rat.mul_le_mul_of_nonneg_left a2.2 h0
  constructor <;> grind
structure Ax where
 n:Nat
 lo:Rat
 w:Rat
def sizA:List Ax→Nat
 | []=>1
 | a::l=>(a.n+1)*sizA l
def brn:List Ax→Sq→Sq
 | [],c=>c
 | a::l,c=>brn l (tr a.n (sizA l) (cnv a.n a.lo a.w) c)
def trm (c0:Sq)(ts:List (Rat × List Nat))(pl:List Nat→Nat):Sq:=ts.foldl (fun c t i=>if i=pl t.2 then c i+t.1 else c i) c0
theorem hor_at (x:Rat):∀ (n:Nat) (a:Sq) (k:Nat),k<n→hor x n a k=a k+x*hor x n a (k+1)
 | n+1,a,0,_=>by
  show a 0+x*_=a 0+x*_
  cases n <;> rfl
 | n+1,a,k+1,h=>hor_at x n (fun k=>a (k+1)) k (by omega)
theorem hor_end (x:Rat):∀ (n:Nat) (a:Sq),hor x n a n=a n
 | 0,_=>rfl
 | n+1,a=>hor_end x n fun k=>a (k+1)
theorem polP_zero {n:Nat}{a:Sq}{x0:Rat}(h:∀ y,x0<y→polP n y a=0):∀ k,k≤n→a k=0:=by
 induction n generalizing a x0 with
 | zero=>
  intro k hk
  have:k=0:=by omega
  subst this
  exact h (x0+1) (by grind)
 | succ n ih=>
  obtain⟨x,hx⟩:∃ x,x0+1=x:=⟨_,rfl⟩
  have h0:hor x (n+1) a 0=0:=by
   have e:=hor_pol x x n a
   rw [h x (by grind)] at e
   grind
  have h1:=ih (a:=fun k=>hor x (n+1) a (k+1)) (x0:=x) fun y hy=>by
   have e:=hor_pol x y n a
   rw [h y (by grind),h0] at e
   have e:(y - x)*polP n y (fun k=>hor x (n+1) a (k+1))=0:=by grind
   rcases Rat.mul_eq_zero.1 e with e|e
   ·grind
   ·exact e
  have h2:∀ k,k≤n+1→hor x (n+1) a k=0:=fun k hk=>by
   cases k with
   | zero=>exact h0
   | succ k=>exact h1 k (by omega)
  intro k hk
  by_cases e:k=n+1
  ·subst e;rw [← hor_end x (n+1) a];exact h2 _ (by omega)
  ·have:=hor_at x (n+1) a k (by omega)
   rw [h2 k hk,h2 (k+1) (by omega)] at this
   grind
def dif:Nat→Sq→Rat
 | 0,b=>b 0
 | k+1,b=>dif k (fun j=>b (j+1) - b j)
theorem pas_dif (m:Nat)(b:Sq):pas m (fun k=>dif k b)=b m:=by
 induction m generalizing b with
 | zero=>rfl
 | succ m ih=>
  simp only [pas]
  rw [ih b]
  have h:(fun k=>dif (k+1) b)=fun k=>dif k (fun j=>b (j+1) - b j):=rfl
  rw [h,ih]
  grind
theorem pas_ext {m:Nat}{d e:Sq}(h:∀ k,k≤m→d k=e k):pas m d=pas m e:=by
 induction m generalizing d e with
 | zero=>exact h 0 (by omega)
 | succ m ih=>simp only [pas];rw [ih fun k hk=>h k (by omega),ih fun k hk=>h (k+1) (by omega)]
theorem ch_pos {n k:Nat}(h:k≤n):0<ch n k:=by
 induction n generalizing k with
 | zero=>have:k=0:=by omega
         subst this;decide
 | succ n ih=>
  cases k with
  | zero=>exact Nat.one_pos
  | succ k=>have:=ih (k:=k) (by omega);simp only [ch];omega
theorem polD_zero' {n:Nat}{b:Sq}(h:∀ t,0<t→polD n t b=0):∀ k,k≤n→b k=0:=by
 have hb:b=fun m=>pas m (fun k=>dif k b):=by funext m;rw [pas_dif]
 have h1:∀ k,k≤n→(ch n k:Rat)*dif k b=0:=polP_zero (x0:=0) fun t ht=>by
  rw [← polS_eq,← polD_pas,← hb];exact h t ht
 have h2:∀ k,k≤n→dif k b=0:=fun k hk=>by
  rcases Rat.mul_eq_zero.1 (h1 k hk) with e|e
  ·have:=ch_pos hk
   have e:ch n k=0:=by exact_mod_cast e
   omega
  ·exact e
 have hz:∀ m,pas m (fun _=>0)=0:=fun m=>by
  induction m with
  | zero=>rfl
  | succ m ih=>simp only [pas];rw [ih,Rat.add_zero]
 intro k hk
 rw [hb]
 show pas k _=0
 rw [pas_ext (e:=fun _=>0) fun j hj=>h2 j (by omega),hz]
theorem polD_same {n:Nat}{b c:Sq}(h:∀ t,0<t→polD n t b=polD n t c):∀ k,k≤n→b k=c k:=by
 intro k hk
 have:=polD_zero' (n:=n) (b:=fun k=>-1*b k+c k) (fun t ht=>by
  rw [polD_Lin n t (-1) b c,h t ht];grind) k hk
 grind
theorem cut_low (n:Nat)(t:Rat)(b:Sq):polD n (t / 2) b=polD n t (fun m=>polD m (1 / 2) b):=by
 induction n generalizing b with
 | zero=>rfl
 | succ n ih=>
  simp only [polD]
  rw [ih]
  congr 1;funext m
  have h:=polD_Lin m (1 / 2) (1 - t) b (fun k=>t*((1 - 1 / 2)*b k+1 / 2*b (k+1)))
  have h2:=(polD_Lin m (1 / 2)).mul t (fun k=>(1 - 1 / 2)*b k+1 / 2*b (k+1))
  have e:polD (m+1) (1 / 2) b=polD m (1 / 2) (fun k=>(1 - 1 / 2)*b k+1 / 2*b (k+1)):=rfl
  rw [h2] at h
  rw [← h]
  congr 1;funext k;grind
theorem cut_high (n:Nat)(t:Rat)(b:Sq):polD n ((1+t) / 2) b=polD n t (fun m=>polD (n - m) (1 / 2) (fun k=>b (m+k))):=by
 induction n generalizing b with
 | zero=>rfl
 | succ n ih=>
  simp only [polD]
  rw [ih]
  refine polD_Loc n t _ _ fun m hm=>?_
  have s1:n+1 - m=(n - m)+1:=by omega
  have s2:n+1 - (m+1)=n - m:=by omega
  rw [s1,s2]
  simp only [polD]
  have h:=polD_Lin (n - m) (1 / 2) (1 - t) (fun k=>(1 - 1 / 2)*b (m+k)+1 / 2*b (m+(k+1))) (fun k=>t*b (m+1+k))
  have h2:=(polD_Lin (n - m) (1 / 2)).mul t (fun k=>b (m+1+k))
  rw [h2] at h
  rw [← h]
  congr 1;funext k
  have e:m+(k+1)=m+1+k:=by omega
  rw [e,show m+k+1=m+1+k by omega]
  grind
theorem half_low (n:Nat)(lo w:Rat)(a:Sq)(m:Nat)(h:m≤n):cnv n lo (w / 2) a m=polD m (1 / 2) (cnv n lo w a):=by
 refine polD_same (n:=n) (b:=cnv n lo (w / 2) a) (c:=fun m=>polD m (1 / 2) (cnv n lo w a)) (fun t _=>?_) m h
 rw [← cut_low,cnv_pol,cnv_pol]
 congr 1
 grind
theorem half_high (n:Nat)(lo w:Rat)(a:Sq)(m:Nat)(h:m≤n):cnv n (lo+w / 2) (w / 2) a m=polD (n - m) (1 / 2) (fun k=>cnv n lo w a (m+k)):=by
 refine polD_same (n:=n) (b:=cnv n (lo+w / 2) (w / 2) a) (c:=fun m=>polD (n - m) (1 / 2) (fun k=>cnv n lo w a (m+k))) (fun t _=>?_) m h
 rw [← cut_high,cnv_pol,cnv_pol]
 congr 1
 grind
theorem hor_Lin (x:Rat):∀ (n k:Nat),Lin (fun a=>hor x n a k)
 | 0,k=>fun _ _ _=>rfl
 | n+1,0=>fun y f g=>by
  have:=hor_Lin x n 0 y (fun k=>f (k+1)) (fun k=>g (k+1))
  simp only [hor]
  simp only at this
  rw [this];grind
 | n+1,k+1=>fun y f g=>hor_Lin x n k y (fun k=>f (k+1)) (fun k=>g (k+1))
theorem shf_Lin (x:Rat):∀ (n k:Nat),Lin (fun a=>shf x n a k)
 | 0,k=>fun _ _ _=>rfl
 | n+1,0=>hor_Lin x (n+1) 0
 | n+1,k+1=>fun y f g=>by
  have:=shf_Lin x n k y (fun k=>hor x (n+1) f (k+1)) (fun k=>hor x (n+1) g (k+1))
  simp only [shf]
  simp only at this
  rw [← this]
  congr 1;funext j
  exact hor_Lin x (n+1) (j+1) y f g
theorem cnv_Lin (n:Nat)(lo w:Rat)(m:Nat):Lin (fun a=>cnv n lo w a m):=fun y f g=>by
 show pas m _=y*pas m _+pas m _
 rw [← pas_lin]
 congr 1;funext k
 have:=shf_Lin lo n k y f g
 simp only at this
 rw [this];grind
theorem hor_Loc (x:Rat):∀ (n k:Nat),k≤n→Loc n (fun a=>hor x n a k)
 | 0,k,h=>fun f g e=>e k h
 | n+1,0,_=>fun f g e=>by
  have:=hor_Loc x n 0 (by omega) (fun k=>f (k+1)) (fun k=>g (k+1)) fun k hk=>e (k+1) (by omega)
  simp only [hor]
  simp only at this
  rw [this,e 0 (by omega)]
 | n+1,k+1,h=>fun f g e=>hor_Loc x n k (by omega) (fun k=>f (k+1)) (fun k=>g (k+1)) fun k hk=>e (k+1) (by omega)
theorem shf_Loc (x:Rat):∀ (n k:Nat),k≤n→Loc n (fun a=>shf x n a k)
 | 0,k,h=>fun f g e=>e k h
 | n+1,0,_=>hor_Loc x (n+1) 0 (by omega)
 | n+1,k+1,h=>fun f g e=>shf_Loc x n k (by omega) (fun k=>hor x (n+1) f (k+1)) (fun k=>hor x (n+1) g (k+1)) fun j hj=>hor_Loc x (n+1) (j+1) (by omega) f g e
theorem cnv_Loc (n:Nat)(lo w:Rat)(m:Nat)(h:m≤n):Loc n (fun a=>cnv n lo w a m):=fun f g e=>pas_ext fun k hk=>by
 have:=shf_Loc lo n k (by omega) f g e
 simp only at this ⊢
 rw [this]
def cvx (n:Nat)(G:Sq→Rat):Prop:=∀ (lo hi:Rat) (b:Sq),(∀ k,k≤n→lo≤b k∧b k≤hi)→lo≤G b∧G b≤hi
structure Fun (n:Nat) (G:Sq→Rat):Prop where
 lin:Lin G
 loc:Loc n G
theorem Fun.cnv {n:Nat}{G:Sq→Rat}(h:Fun n G) (lo w:Rat):Fun n (fun a=>G (Am.cnv n lo w a)) where
 lin:=fun y f g=>by
  show G _=y*G _+G _
  rw [← h.lin]
  congr 1;funext m
  exact cnv_Lin n lo w m y f g
 loc:=fun f g e=>h.loc _ _ fun k hk=>cnv_Loc n lo w k hk f g e
def fxD (p:Ax × (Sq→Rat)):Dim:=(p.1.n,p.2)
def fxP (p:Ax × (Sq→Rat)):Dim:=(p.1.n,fun a=>p.2 (cnv p.1.n p.1.lo p.1.w a))
theorem sizA_F:∀ (l:List (Ax × (Sq→Rat))),siz (l.map fxP)=sizA (l.map (·.1))
 | []=>rfl
 | p::l=>by show (p.1.n+1)*_=(p.1.n+1)*_;rw [sizA_F l]
theorem sizA_FD:∀ (l:List (Ax × (Sq→Rat))),siz (l.map fxD)=sizA (l.map (·.1))
 | []=>rfl
 | p::l=>by show (p.1.n+1)*_=(p.1.n+1)*_;rw [sizA_FD l]
theorem evl_fun:∀ (l:List (Ax × (Sq→Rat))),(∀ p∈l,Fun p.1.n p.2)→∀ (ds:List Dim) (c:Sq),evl (ds++l.map fxD) (brn (l.map (·.1)) c)=evl (ds++l.map fxP) c
 | [],_,_,_=>rfl
 | p::l,hl,ds,c=>by
  have hp:=hl p (List.mem_cons_self ..)
  have hl':∀ q∈l,Fun q.1.n q.2:=fun q hq=>hl q (List.mem_cons_of_mem _ hq)
  have h:=evl_fun l hl' (ds++[fxD p]) (tr p.1.n (sizA (l.map (·.1))) (cnv p.1.n p.1.lo p.1.w) c)
  rw [List.append_assoc,List.append_assoc] at h
  refine h.trans ?_
  have h2:=evl_tr (n:=p.1.n) (F:=fun a=>p.2 (cnv p.1.n p.1.lo p.1.w a)) (F':=p.2) (cnv_com p.1.n p.1.lo p.1.w) (fun a=>rfl) hp.loc (ds2:=l.map fxP)
   (fun d hd=>by obtain⟨q,hq,rfl⟩:=List.mem_map.1 hd;exact ((hl' q hq).cnv _ _).lin) (fun d hd=>by obtain⟨q,hq,rfl⟩:=List.mem_map.1 hd;exact ((hl' q hq).cnv _ _).loc) ds c
  rw [sizA_F] at h2
  exact h2
theorem evl_cvx {lo hi:Rat}:∀ {l:List Dim},(∀ d∈l,cvx d.1 d.2)→∀ {c:Sq},(∀ i,i<siz l→lo≤c i∧c i≤hi)→lo≤evl l c∧evl l c≤hi
 | [],_,c,hc=>hc 0 (by decide)
 | d::l,hd,c,hc=>by
  refine hd d (List.mem_cons_self ..) _ _ _ fun k hk=>evl_cvx (fun e he=>hd e (List.mem_cons_of_mem _ he)) fun i hi=>hc _ ?_
  have:k*siz l+siz l≤(d.1+1)*siz l:=by rw [← Nat.succ_mul];exact Nat.mul_le_mul_right _ (by omega)
  show k*siz l+i<(d.1+1)*siz l
  omega
def dlt:List Ax→Nat→List (Ax × (Sq→Rat))
 | [],_=>[]
 | a::l,i=>(a,fun b=>b (i / sizA l))::dlt l (i % sizA l)
theorem dlt_fst:∀ (l:List Ax) (i:Nat),(dlt l i).map (·.1)=l
 | [],_=>rfl
 | a::l,i=>by simp only [dlt,List.map_cons,dlt_fst l]
theorem sizA_pos:∀ l:List Ax,0<sizA l
 | []=>by decide
 | _::l=>Nat.mul_pos (Nat.succ_pos _) (sizA_pos l)
theorem evl_dlt:∀ (l:List Ax) (i:Nat) (c:Sq),i<sizA l→evl ((dlt l i).map fxD) c=c i
 | [],i,c,h=>by have:i=0:=by simpa [sizA] using h
                subst this;rfl
 | a::l,i,c,h=>by
  show evl ((dlt l (i % sizA l)).map fxD) (fun j=>c (i / sizA l*siz ((dlt l (i % sizA l)).map fxD)+j))=c i
  rw [sizA_FD,dlt_fst,evl_dlt l _ _ (Nat.mod_lt _ (sizA_pos l)),Nat.mul_comm,Nat.div_add_mod]
inductive Sub1:List Ax→List Ax→Prop where
 | nil:Sub1 [] []
 | same (a:Ax) {l l':List Ax}(h:Sub1 l l'):Sub1 (a::l) (a::l')
 | low (a:Ax) {l l':List Ax}(h:Sub1 l l'):Sub1 (a::l) (⟨a.n,a.lo,a.w / 2⟩::l')
 | high (a:Ax) {l l':List Ax}(h:Sub1 l l'):Sub1 (a::l) (⟨a.n,a.lo+a.w / 2,a.w / 2⟩::l')
theorem Sub1.fun {l l':List Ax}(h:Sub1 l l'):∀ i,i<sizA l'→∃ L:List (Ax × (Sq→Rat)),L.map (·.1)=l∧(∀ p∈L,Fun p.1.n p.2∧cvx p.1.n p.2)∧(∀ p∈dlt l' i,Fun p.1.n p.2)∧∀ (ds:List Dim) (c:Sq),evl (ds++(dlt l' i).map fxP) c=evl (ds++L.map fxP) c:=by
 have key:∀ (a a':Ax) (l l':List Ax) (G:Nat→Sq→Rat),a'.n=a.n→(∀ m,m≤a.n→Fun a.n (G m)∧cvx a.n (G m)∧∀ b,cnv a'.n a'.lo a'.w b m=G m (cnv a.n a.lo a.w b))→Sub1 l l' →
  (∀ i,i<sizA l'→∃ L:List (Ax × (Sq→Rat)),L.map (·.1)=l∧(∀ p∈L,Fun p.1.n p.2∧cvx p.1.n p.2)∧(∀ p∈dlt l' i,Fun p.1.n p.2)∧∀ (ds:List Dim) (c:Sq),evl (ds++(dlt l' i).map fxP) c=evl (ds++L.map fxP) c) →
  ∀ i,i<sizA (a'::l')→∃ L:List (Ax × (Sq→Rat)),L.map (·.1)=a::l∧(∀ p∈L,Fun p.1.n p.2∧cvx p.1.n p.2)∧(∀ p∈dlt (a'::l') i,Fun p.1.n p.2)∧∀ (ds:List Dim) (c:Sq),evl (ds++(dlt (a'::l') i).map fxP) c=evl (ds++L.map fxP) c:=by
  intro a a' l l' G hn hG _ ih i hi
  have hpos:=sizA_pos l'
  obtain⟨L,h1,h2,h3,h4⟩:=ih (i % sizA l') (Nat.mod_lt _ hpos)
  have hm:i / sizA l'≤a.n:=by
   have hi:i<(a'.n+1)*sizA l':=hi
   have:=(Nat.div_lt_iff_lt_mul hpos).2 hi
   omega
  obtain⟨g1,g2,g3⟩:=hG _ hm
  refine⟨(a,G (i / sizA l'))::L,by simp [h1],fun p hp=>?_,fun p hp=>?_,fun ds c=>?_⟩
  ·rcases List.mem_cons.1 hp with rfl|hp
   ·exact⟨g1,g2⟩
   ·exact h2 p hp
  ·rcases List.mem_cons.1 hp with rfl|hp
   ·exact⟨fun _ _ _=>rfl,fun f g e=>e _ (by show _≤a'.n;omega)⟩
   ·exact h3 p hp
  ·have e:fxP (a',fun b=>b (i / sizA l'))=fxP (a,G (i / sizA l')):=by
    unfold fxP
    simp only
    rw [hn]
    congr 1
    funext b
    rw [← g3,hn]
   show evl (ds++fxP (a',fun b=>b (i / sizA l'))::(dlt l' (i % sizA l')).map fxP) c=evl (ds++fxP (a,G (i / sizA l'))::L.map fxP) c
   rw [e]
   have:=h4 (ds++[fxP (a,G (i / sizA l'))]) c
   rw [List.append_assoc,List.append_assoc] at this
   exact this
 induction h with
 | nil=>intro i _;exact⟨[],rfl,by simp,by simp [dlt],fun _ _=>rfl⟩
 | same a h ih=>
  exact key a a _ _ (fun m b=>b m) rfl (fun m hm=>⟨⟨fun _ _ _=>rfl,fun f g e=>e _ hm⟩,fun lo hi b hb=>hb m hm,fun _=>rfl⟩) h ih
 | low a h ih=>
  exact key a ⟨a.n,a.lo,a.w / 2⟩ _ _ (fun m=>polD m (1 / 2)) rfl (fun m hm=>⟨⟨polD_Lin _ _,fun f g e=>polD_Loc m _ _ _ fun k hk=>e k (by omega)⟩,fun lo hi b hb=>polD_in (by grind) (by grind) fun k hk=>hb k (by omega),fun b=>half_low a.n a.lo a.w b m hm⟩) h ih
 | high a h ih=>
  refine key a ⟨a.n,a.lo+a.w / 2,a.w / 2⟩ _ _ (fun m b=>polD (a.n - m) (1 / 2) (fun k=>b (m+k))) rfl (fun m hm=>⟨⟨fun y f g=>polD_Lin _ _ y (fun k=>f (m+k)) (fun k=>g (m+k)),fun f g e=>polD_Loc _ _ _ _ fun k hk=>e (m+k) (by omega)⟩,fun lo hi b hb=>polD_in (by grind) (by grind) fun k hk=>hb (m+k) (by omega),fun b=>half_high a.n a.lo a.w b m hm⟩) h ih
theorem half_in {l l':List Ax}(h:Sub1 l l') {c:Sq}{lo hi:Rat}(hc:∀ i,i<sizA l→lo≤brn l c i∧brn l c i≤hi) (i:Nat) (hi':i<sizA l'):lo≤brn l' c i∧brn l' c i≤hi:=by
 obtain⟨L,h1,h2,h3,h4⟩:=h.fun i hi'
 have e1:=evl_fun (dlt l' i) h3 [] c
 have e2:=evl_fun L (fun p hp=>(h2 p hp).1) [] c
 have e3:=h4 [] c
 simp only [List.nil_append] at e1 e2 e3
 rw [dlt_fst,evl_dlt l' i _ hi'] at e1
 rw [h1] at e2
 rw [e1,e3,← e2]
 refine evl_cvx (fun d hd=>?_) fun i hi=>hc i ?_
 ·obtain⟨p,hp,rfl⟩:=List.mem_map.1 hd
  exact (h2 p hp).2
 ·rw [sizA_FD,h1] at hi;exact hi
def tlq (x:Rat)(n:Nat)(a:Sq):Nat→Sq
 | 0=>a
 | i+1=>fun k=>hor x (n - i) (tlq x n a i) (k+1)
theorem tlq_succ (x:Rat)(n:Nat)(a:Sq)(i:Nat):tlq x (n+1) a (i+1)=tlq x n (fun k=>hor x (n+1) a (k+1)) i:=by
 induction i with
 | zero=>rfl
 | succ i ih=>
  have e:tlq x (n+1) a (i+2)=fun k=>hor x (n+1 - (i+1)) (tlq x (n+1) a (i+1)) (k+1):=rfl
  rw [e,ih,show n+1 - (i+1)=n - i by omega]
  rfl
theorem shf_tlq (x:Rat)(n:Nat)(a:Sq)(i:Nat)(h:i≤n):shf x n a i=hor x (n - i) (tlq x n a i) 0:=by
 induction n generalizing a i with
 | zero=>have:i=0:=by omega
         subst this;rfl
 | succ n ih=>
  cases i with
  | zero=>rfl
  | succ i=>
   have h1:=ih (fun k=>hor x (n+1) a (k+1)) i (by omega)
   rw [tlq_succ,show n+1 - (i+1)=n - i by omega,← h1]
   rfl
def hzS (x:Rat)(n:Nat)(a:Sq)(i k:Nat):Sq:=fun j=>if j<i then shf x n a j else if j<k then tlq x n a i (j - i) else hor x (n - i) (tlq x n a i) (j - i)
theorem hzS_zero (x:Rat)(n:Nat)(a:Sq){j:Nat}(h:j≤n):hzS x n a 0 n j=a j:=by
 unfold hzS
 rw [if_neg (by omega)]
 by_cases e:j=n
 ·subst e;rw [if_neg (by omega)];exact hor_end x j a
 ·rw [if_pos (by omega)];rfl
theorem hzS_step (x:Rat)(n:Nat)(a:Sq){i k:Nat}(hi:i≤k) (hk:k<n):(fun j=>if j=k then hzS x n a i (k+1) k+hzS x n a i (k+1) (k+1)*x else hzS x n a i (k+1) j)=hzS x n a i k:=by
 funext j
 unfold hzS
 by_cases e:j=k
 ·subst e
  rw [if_pos rfl,if_neg (by omega),if_pos (by omega),if_neg (by omega),if_neg (by omega),if_neg (by omega),if_neg (by omega),hor_at x (n - i) _ (j - i) (by omega),show j+1 - i=j - i+1 by omega]
  grind
 ·rw [if_neg e]
  by_cases h1:j<i
  ·rw [if_pos h1,if_pos h1]
  ·rw [if_neg h1,if_neg h1]
   by_cases h2:j<k
   ·rw [if_pos (by omega),if_pos h2]
   ·rw [if_neg (by omega),if_neg h2]
theorem hzS_next (x:Rat)(n:Nat)(a:Sq){i j:Nat}(hi:i<n) (hj:j≤n):hzS x n a i i j=hzS x n a (i+1) n j:=by
 unfold hzS
 by_cases h1:j<i
 ·rw [if_pos h1,if_pos (by omega)]
 ·rw [if_neg h1]
  by_cases h2:j=i
  ·subst h2
   rw [if_neg (by omega),if_pos (by omega),shf_tlq x n a j (by omega),Nat.sub_self]
  ·rw [if_neg (by omega),if_neg (by omega)]
   have e:tlq x n a (i+1) (j - (i+1))=hor x (n - i) (tlq x n a i) (j - i):=by
    show hor x (n - i) (tlq x n a i) (j - (i+1)+1)=_
    rw [show j - (i+1)+1=j - i by omega]
   by_cases h3:j<n
   ·rw [if_pos h3,e]
   ·have:j=n:=by omega
    subst this
    rw [if_neg (by omega),hor_end x (j - (i+1)) (tlq x j a (i+1)),e]
theorem hzS_end (x:Rat)(n:Nat)(a:Sq){j:Nat}(hj:j≤n):hzS x n a n n j=shf x n a j:=by
 unfold hzS
 by_cases h1:j<n
 ·rw [if_pos h1]
 ·have:j=n:=by omega
  subst this
  rw [if_neg (by omega),if_neg (by omega),shf_tlq x j a j (by omega),Nat.sub_self]
def hzM (n:Nat)(x w:Rat)(a:Sq)(k:Nat):Sq:=fun j=>if j<k then shf x n a j*scl n w j else shf x n a j
theorem hzM_one (n:Nat)(x w:Rat)(a:Sq):hzM n x w a 1=shf x n a:=by
 funext j
 unfold hzM
 split
 ·have:j=0:=by omega
  subst this;exact Rat.mul_one _
 ·rfl
theorem hzM_step (n:Nat)(x w:Rat)(a:Sq)(k:Nat):(fun j=>if j=k then hzM n x w a k k*scl n w k else hzM n x w a k j)=hzM n x w a (k+1):=by
 funext j
 unfold hzM
 by_cases e:j=k
 ·subst e;rw [if_pos rfl,if_neg (by omega),if_pos (by omega)]
 ·rw [if_neg e]
  by_cases h:j<k
  ·rw [if_pos h,if_pos (by omega)]
  ·rw [if_neg h,if_neg (by omega)]
def hzP (d:Sq)(i k:Nat):Sq:=fun j=>if j<i then d j else if j<k then pas (j - i+1) (fun l=>d (i - 1+l)) else pas (j - i) (fun l=>d (i+l))
theorem hzP_start (d:Sq)(n j:Nat)(h:j≤n):hzP d n n j=d j:=by
 unfold hzP
 by_cases e:j<n
 ·rw [if_pos e]
 ·have:j=n:=by omega
  subst this
  rw [if_neg (by omega),if_neg (by omega),Nat.sub_self];rfl
theorem hzP_step (d:Sq){i k:Nat}(h0:0<i) (hk:i≤k):(fun j=>if j=k then hzP d i k k+hzP d i k (k - 1) else hzP d i k j)=hzP d i (k+1):=by
 funext j
 unfold hzP
 by_cases e:j=k
 ·subst e
  rw [if_pos rfl]
  have hp:pas (j - i+1) (fun l=>d (i - 1+l))=pas (j - i) (fun l=>d (i - 1+l))+pas (j - i) (fun l=>d (i+l)):=by
   show pas (j - i) (fun l=>d (i - 1+l))+pas (j - i) (fun l=>d (i - 1+(l+1)))=_
   rw [show (fun l=>d (i - 1+(l+1)))=fun l=>d (i+l) from funext fun l=>congrArg d (by omega)]
  have a1:(if j<i then d j else if j<j then pas (j - i+1) (fun l=>d (i - 1+l)) else pas (j - i) (fun l=>d (i+l)))=pas (j - i) (fun l=>d (i+l)):=by
   rw [if_neg (by omega),if_neg (by omega)]
  have a2:(if j - 1<i then d (j - 1) else if j - 1<j then pas (j - 1 - i+1) (fun l=>d (i - 1+l)) else pas (j - 1 - i) (fun l=>d (i+l)))=pas (j - i) (fun l=>d (i - 1+l)):=by
   by_cases e2:j=i
   ·subst e2
    rw [if_pos (by omega),Nat.sub_self];rfl
   ·rw [if_neg (by omega),if_pos (by omega),show j - 1 - i+1=j - i by omega]
  have a3:(if j<i then d j else if j<j+1 then pas (j - i+1) (fun l=>d (i - 1+l)) else pas (j - i) (fun l=>d (i+l)))=pas (j - i+1) (fun l=>d (i - 1+l)):=by
   rw [if_neg (by omega),if_pos (by omega)]
  rw [a1,a2,a3,hp]
  exact Rat.add_comm _ _
 ·rw [if_neg e]
  by_cases h1:j<i
  ·rw [if_pos h1,if_pos h1]
  ·rw [if_neg h1,if_neg h1]
   by_cases h2:j<k
   ·rw [if_pos h2,if_pos (by omega)]
   ·rw [if_neg h2,if_neg (by omega)]
theorem hzP_next (d:Sq){i n j:Nat}(h0:0<i) (hj:j≤n):hzP d i (n+1) j=hzP d (i - 1) (i - 1) j:=by
 unfold hzP
 by_cases h1:j<i
 ·rw [if_pos h1]
  by_cases h2:j<i - 1
  ·rw [if_pos h2]
  ·have:j=i - 1:=by omega
   subst this
   rw [if_neg (by omega),if_neg (by omega),Nat.sub_self];rfl
 ·rw [if_neg h1,if_pos (by omega),if_neg (by omega),if_neg (by omega),show j - (i - 1)=j - i+1 by omega]
theorem hzP_end (d:Sq)(j:Nat):hzP d 0 0 j=pas j d:=by
 unfold hzP
 rw [if_neg (by omega),if_neg (by omega),Nat.sub_zero]
 congr 1;funext l;rw [Nat.zero_add]
theorem cnv_hzP (n:Nat)(lo w:Rat)(a:Sq)(j:Nat):cnv n lo w a j=hzP (fun k=>shf lo n a k*scl n w k) 0 0 j:=by
 rw [hzP_end];rfl
def bq (D B:Nat)(x:Rat):Prop:=x.den ∣ D∧x.num.natAbs≤B*x.den
theorem bq_iff {D B:Nat}(hD:D≠0) {x:Rat}:bq D B x↔∃ z:Int,x=(z:Rat) / (D:Rat)∧z.natAbs≤B*D:=by
 have hDq:(D:Rat)≠0:=fun e=>hD (by exact_mod_cast e)
 constructor
 ·rintro⟨⟨q,hq⟩,h⟩
  refine⟨x.num*q,?_,?_⟩
  ·have hx:(x.num:Rat)=x*(x.den:Rat):=by
    have h0:=Rat.mkRat_self x
    rw [Rat.mkRat_eq_div] at h0
    have hd:(x.den:Rat)≠0:=fun e=>x.den_nz (by exact_mod_cast e)
    have h1:(x.num:Rat) / (x.den:Rat)=x:=h0
    grind
   have e1:(D:Rat)=(x.den:Rat)*(q:Rat):=by rw [hq,Rat.natCast_mul]
   rw [Rat.intCast_mul,Rat.intCast_natCast,hx]
   grind
  ·rw [Int.natAbs_mul,Int.natAbs_natCast]
   have hq':B*D=B*x.den*q:=by rw [Nat.mul_assoc,← hq]
   rw [hq']
   exact Nat.mul_le_mul_right _ h
 ·rintro⟨z,rfl,h⟩
  have e:(z:Rat) / (D:Rat)=mkRat z D:=by rw [Rat.mkRat_eq_div]
  rw [e]
  have h1:(mkRat z D).num*D=z*(mkRat z D).den:=by
   have h2:mkRat (mkRat z D).num (mkRat z D).den=mkRat z D:=Rat.mkRat_self _
   exact (Rat.mkRat_eq_iff (mkRat z D).den_nz hD).1 h2
  have hc:(mkRat z D).num.natAbs.Coprime (mkRat z D).den:=(mkRat z D).reduced
  have h3:(mkRat z D).num.natAbs*D=z.natAbs*(mkRat z D).den:=by
   have:=congrArg Int.natAbs h1
   rwa [Int.natAbs_mul,Int.natAbs_mul,Int.natAbs_natCast,Int.natAbs_natCast] at this
  refine⟨hc.symm.dvd_of_dvd_mul_left (h3 ▸ Nat.dvd_mul_left _ _),?_⟩
  have hpos:0<D:=Nat.pos_of_ne_zero hD
  refine Nat.le_of_mul_le_mul_right ?_ hpos
  rw [h3]
  have:z.natAbs*(mkRat z D).den≤B*D*(mkRat z D).den:=Nat.mul_le_mul_right _ h
  refine Nat.le_trans this ?_
  rw [Nat.mul_assoc,Nat.mul_assoc,Nat.mul_comm D]
  exact Nat.le_refl _
theorem bq_add {D B C:Nat}(hD:D≠0) {x y:Rat}(hx:bq D B x) (hy:bq D C y):bq D (B+C) (x+y):=by
 obtain⟨z,rfl,hz⟩:=(bq_iff hD).1 hx
 obtain⟨u,rfl,hu⟩:=(bq_iff hD).1 hy
 refine (bq_iff hD).2 ⟨z+u,?_,?_⟩
 ·rw [Rat.intCast_add];grind
 ·have:=Int.natAbs_add_le z u
  rw [Nat.add_mul];omega
theorem bq_mul {D E B C:Nat}(hD:D≠0) (hE:E≠0) {x y:Rat}(hx:bq D B x) (hy:bq E C y):bq (D*E) (B*C) (x*y):=by
 obtain⟨z,rfl,hz⟩:=(bq_iff hD).1 hx
 obtain⟨u,rfl,hu⟩:=(bq_iff hE).1 hy
 refine (bq_iff (Nat.mul_ne_zero hD hE)).2 ⟨z*u,?_,?_⟩
 ·rw [Rat.intCast_mul,Rat.natCast_mul]
  have hDq:(D:Rat)≠0:=fun e=>hD (by exact_mod_cast e)
  have hEq:(E:Rat)≠0:=fun e=>hE (by exact_mod_cast e)
  grind
 ·rw [Int.natAbs_mul]
  refine Nat.le_trans (Nat.mul_le_mul hz hu) ?_
  have:B*D*(C*E)=B*C*(D*E):=by grind
  omega
theorem bq_mono {D E B C:Nat}{x:Rat}(h:bq D B x) (h1:D ∣ E) (h2:B≤C):bq E C x:=⟨Nat.dvd_trans h.1 h1,Nat.le_trans h.2 (Nat.mul_le_mul_right _ h2)⟩
theorem bq_zero (D B:Nat):bq D B 0:=⟨⟨D,by simp⟩,by simp⟩
theorem bq_self (x:Rat):bq x.den x.num.natAbs x:=⟨Nat.dvd_refl _,Nat.le_mul_of_pos_right _ x.den_pos⟩
theorem pow_ne {q:Nat}(h:q≠0) {k:Nat}:q ^ k≠0:=Nat.ne_of_gt (Nat.pow_pos (Nat.pos_of_ne_zero h))
section
variable {D q B A:Nat}{x:Rat}
theorem hor_bq (hD:D≠0)(hq:q≠0)(hx:bq q A x):∀ {m:Nat}{T:Sq},(∀ j,j≤m→bq (D*q ^ (m - j)) B (T j))→∀ k,k≤m→bq (D*q ^ (m - k)) (B*(1+A) ^ (m - k)) (hor x m T k):=by
 intro m T hT k hk
 obtain⟨e,he⟩:∃ e,m - k=e:=⟨_,rfl⟩
 induction e generalizing k with
 | zero=>
  have:k=m:=by omega
  subst this
  rw [hor_end]
  refine bq_mono (hT k hk) (by rw [he];exact Nat.dvd_refl _) (by rw [he];simp)
 | succ e ih=>
  have h1:=ih (k+1) (by omega) (by omega)
  rw [hor_at x m T k (by omega)]
  have hm:m - (k+1)=e:=by omega
  rw [hm] at h1
  have h2:=bq_mul hq (Nat.mul_ne_zero hD (pow_ne hq)) hx h1
  rw [he]
  have h3:=hT k hk
  rw [he] at h3
  have e1:q*(D*q ^ e)=D*q ^ (e+1):=by rw [Nat.pow_succ];grind
  rw [e1] at h2
  refine bq_mono (bq_add (Nat.mul_ne_zero hD (pow_ne hq)) h3 h2) (Nat.dvd_refl _) ?_
  have e2:B*(1+A) ^ (e+1)=B*(1+A) ^ e+A*(B*(1+A) ^ e):=by rw [Nat.pow_succ];grind
  rw [e2]
  have:B≤B*(1+A) ^ e:=Nat.le_mul_of_pos_right _ (Nat.pow_pos (by omega))
  omega
theorem tlq_bq (hD:D≠0)(hq:q≠0)(hx:bq q A x){n:Nat}{a:Sq}(ha:∀ j,j≤n→bq D B (a j)):∀ i,i≤n→∀ k,k≤n - i→bq (D*q ^ (n - i - k)) (B*(1+A) ^ (n*i)) (tlq x n a i k):=by
 intro i
 induction i with
 | zero=>intro _ k hk;exact bq_mono (ha k (by omega)) (Nat.dvd_mul_right _ _) (by simp)
 | succ i ih=>
  intro hi k hk
  have h:=hor_bq hD hq hx (m:=n - i) (T:=tlq x n a i) (B:=B*(1+A) ^ (n*i)) (fun j hj=>ih (by omega) j hj) (k+1) (by omega)
  refine bq_mono h ?_ ?_
  ·rw [show n - (i+1) - k=n - i - (k+1) by omega];exact Nat.dvd_refl _
  ·rw [Nat.mul_assoc,← Nat.pow_add]
   refine Nat.mul_le_mul_left _ (Nat.pow_le_pow_right (by omega) ?_)
   rw [Nat.mul_succ];omega
theorem hzS_bq (hD:D≠0)(hq:q≠0)(hx:bq q A x){n:Nat}{a:Sq}(ha:∀ j,j≤n→bq D B (a j)) {i k j:Nat}(hi:i≤n) (hj:j≤n):bq (D*q ^ n) (B*(1+A) ^ (n*n+n)) (hzS x n a i k j):=by
 have key:∀ i,i≤n→∀ k,k≤n - i→bq (D*q ^ n) (B*(1+A) ^ (n*n+n)) (tlq x n a i k):=fun i hi k hk=>by
  refine bq_mono (tlq_bq hD hq hx ha i hi k hk) (Nat.mul_dvd_mul (Nat.dvd_refl _) (Nat.pow_dvd_pow _ (by omega))) (Nat.mul_le_mul_left _ (Nat.pow_le_pow_right (by omega) ?_))
  have:n*i≤n*n:=Nat.mul_le_mul_left _ hi
  omega
 have key2:∀ i,i≤n→∀ k,k≤n - i→bq (D*q ^ n) (B*(1+A) ^ (n*n+n)) (hor x (n - i) (tlq x n a i) k):=fun i hi k hk=>by
  refine bq_mono (hor_bq hD hq hx (m:=n - i) (T:=tlq x n a i) (B:=B*(1+A) ^ (n*i)) (fun j hj=>tlq_bq hD hq hx ha i hi j hj) k hk) (Nat.mul_dvd_mul (Nat.dvd_refl _) (Nat.pow_dvd_pow _ (by omega))) ?_
  rw [Nat.mul_assoc,← Nat.pow_add]
  refine Nat.mul_le_mul_left _ (Nat.pow_le_pow_right (by omega) ?_)
  have:n*i≤n*n:=Nat.mul_le_mul_left _ hi
  omega
 unfold hzS
 split
 ·rw [shf_tlq x n a j hj];exact key2 j hj 0 (by omega)
 split
 ·exact key i hi _ (by omega)
 ·exact key2 i hi _ (by omega)
theorem shf_bq (hD:D≠0)(hq:q≠0)(hx:bq q A x){n:Nat}{a:Sq}(ha:∀ j,j≤n→bq D B (a j)) {j:Nat}(hj:j≤n):bq (D*q ^ n) (B*(1+A) ^ (n*n+n)) (shf x n a j):=by
 rw [← hzS_end x n a hj];exact hzS_bq hD hq hx ha (Nat.le_refl _) hj
end
theorem bq_pow {D B:Nat}(hD:D≠0) {x:Rat}(h:bq D B x) (k:Nat):bq (D ^ k) (B ^ k) (x ^ k):=by
 induction k with
 | zero=>exact⟨by simp,by simp⟩
 | succ k ih=>rw [Nat.pow_succ,Nat.pow_succ,Rat.pow_succ];exact bq_mul (pow_ne hD) hD ih h
theorem bq_div {D B c:Nat}(hD:D≠0) (hc:c≠0) {x y:Rat}(h:bq D B x) (hy:(c:Rat)*y=x):bq (D*c) B y:=by
 obtain⟨z,rfl,hz⟩:=(bq_iff hD).1 h
 refine (bq_iff (Nat.mul_ne_zero hD hc)).2 ⟨z,?_,?_⟩
 ·have hcq:(c:Rat)≠0:=fun e=>hc (by exact_mod_cast e)
  have hDq:(D:Rat)≠0:=fun e=>hD (by exact_mod_cast e)
  rw [Rat.natCast_mul]
  grind
 ·refine Nat.le_trans hz ?_
  rw [← Nat.mul_assoc]
  exact Nat.le_mul_of_pos_right _ (Nat.pos_of_ne_zero hc)
def chp (n:Nat):Nat→Nat
 | 0=>1
 | k+1=>chp n k*ch n k
theorem chp_dvd (n:Nat):∀ {m k:Nat},k<m→ch n k ∣ chp n m
 | m+1,k,h=>by
  by_cases e:k=m
  ·subst e;exact Nat.dvd_mul_left _ _
  ·exact Nat.dvd_trans (chp_dvd n (m:=m) (by omega)) (Nat.dvd_mul_right _ _)
theorem chp_ne (n:Nat):∀ m,m≤n+1→chp n m≠0
 | 0,_=>Nat.one_ne_zero
 | m+1,h=>Nat.mul_ne_zero (chp_ne n m (by omega)) (by have:=ch_pos (n:=n) (k:=m) (by omega);omega)
theorem scl_bq {E W n:Nat}{w:Rat}(hE:E≠0) (hw:bq E W w) (hW:1≤W) {k:Nat}(hk:k≤n):bq (E ^ n*chp n (n+1)) (W ^ n) (scl n w k):=by
 have h1:=bq_div (pow_ne hE) (by have:=ch_pos hk;omega) (bq_pow hE hw k) (scl_ch n w k hk)
 exact bq_mono h1 (Nat.mul_dvd_mul (Nat.pow_dvd_pow _ hk) (chp_dvd n (by omega))) (Nat.pow_le_pow_right hW hk)
theorem pas_bq {D B:Nat}(hD:D≠0):∀ {m:Nat}{d:Sq},(∀ k,k≤m→bq D B (d k))→bq D (B*2 ^ m) (pas m d)
 | 0,d,h=>bq_mono (h 0 (by omega)) (Nat.dvd_refl _) (by simp)
 | m+1,d,h=>by
  have h1:=pas_bq hD (m:=m) (d:=d) fun k hk=>h k (by omega)
  have h2:=pas_bq hD (m:=m) (d:=fun k=>d (k+1)) fun k hk=>h (k+1) (by omega)
  refine bq_mono (bq_add hD h1 h2) (Nat.dvd_refl _) ?_
  rw [Nat.pow_succ,← Nat.mul_assoc];omega
theorem hzP_bq {D B n:Nat}(hD:D≠0) {d:Sq}(h:∀ k,k≤n→bq D B (d k)) {i k j:Nat}(hj:j≤n) (h0:0<i∨k=0):bq D (B*2 ^ n) (hzP d i k j):=by
 have hB:B≤B*2 ^ n:=Nat.le_mul_of_pos_right _ (Nat.pow_pos (by omega))
 unfold hzP
 split
 ·exact bq_mono (h j hj) (Nat.dvd_refl _) hB
 split
 ·refine bq_mono (pas_bq hD (m:=j - i+1) fun l hl=>h _ (by omega)) (Nat.dvd_refl _) (Nat.mul_le_mul_left _ (Nat.pow_le_pow_right (by omega) (by omega)))
 ·refine bq_mono (pas_bq hD (m:=j - i) fun l hl=>h _ (by omega)) (Nat.dvd_refl _) (Nat.mul_le_mul_left _ (Nat.pow_le_pow_right (by omega) (by omega)))
theorem cnv_bq {D q B A E W n:Nat}{lo w:Rat}{a:Sq}(hD:D≠0) (hq:q≠0) (hE:E≠0) (hx:bq q A lo) (hw:bq E W w) (hW:1≤W) (ha:∀ j,j≤n→bq D B (a j)) {j:Nat}(hj:j≤n) :
 bq (D*q ^ n*(E ^ n*chp n (n+1))) (B*(1+A) ^ (n*n+n)*W ^ n*2 ^ n) (cnv n lo w a j):=by
 have hc:=chp_ne n (n+1) (Nat.le_refl _)
 have hd:∀ k,k≤n→bq (D*q ^ n*(E ^ n*chp n (n+1))) (B*(1+A) ^ (n*n+n)*W ^ n) (shf lo n a k*scl n w k):=fun k hk=>
  bq_mul (Nat.mul_ne_zero hD (pow_ne hq)) (Nat.mul_ne_zero (pow_ne hE) hc) (shf_bq hD hq hx ha hk) (scl_bq hE hw hW hk)
 rw [cnv_hzP]
 exact hzP_bq (Nat.mul_ne_zero (Nat.mul_ne_zero hD (pow_ne hq)) (Nat.mul_ne_zero (pow_ne hE) hc)) hd hj (.inr rfl)
theorem CallDo.passM {c:Ctx}{f:FuncId}{xs us:List AV}{lv:Key→LB}{K:AV→List (Key × LB)→List Key→Nat→Prop}(κ' kh:Key) (own:Bool) (sel nk:List Key) (σ σ' ν:List LB) {x:AV}(rds:List Key)
 (hc:CallsS c.P c.G f us σ (.ret x σ' ν)) (hn:(sel++nk).Nodup) (hkh:kh ∉ sel++nk) (hl1:sel.length=σ.length) (hl2:σ'.length=σ.length) (hl3:nk.length=ν.length) (hb:σ.length≤1000)
 (hsel:∀ i (h:i<sel.length) (h':i<σ.length),(lv sel[i]).as σ[i] (keyMap sel nk kh)) (hnk:∀ k∈nk,lv k=.hole) (hh:lv kh=.hole) (hpass:∀ b∈σ,b.pass=true) (hnh:∀ b,b∈σ++σ'++ν→b≠.hole)
 (hown:own=true→∀ k∈sel,(lv k).ownB=true) (hlen:us.length=xs.length)
 (hargs:∀ i (h:i<xs.length) (h':i<us.length),us[i].flat1=true∧xs[i]=us[i].ren (keyMap sel nk kh))
 (hrd:∀ a∈xs,∀ k∈rdA lv a,k∈rds) (hrh:kh∈rds)
 (hK:K (x.ren (keyMap sel nk kh)) (backW (keyMap sel nk kh) own sel σ'++backW (keyMap sel nk kh) own nk ν) rds κ'):CallDo c f xs lv K:=by
 have key:=CallEff.gen (c:=c) (f:=f) (as:=xs) (lv:=lv) us [] sel nk kh σ σ' ν x own rds (fun z hz=>by cases hz) (by simp) (by omega) (fun z hz=>by cases hz) (by omega) (fun z hz=>by cases hz) hl1 hl2 hl3 hb hsel hnk hh hpass (by omega) hown hlen (fun i p q=>.inl (hargs i p q)) (fun a ha k hk=>.inl (hrd a ha k hk)) hrh hc
 have e:frzW []++backW (keyMap sel nk kh) own sel σ'++backW (keyMap sel nk kh) own nk ν=backW (keyMap sel nk kh) own sel σ'++backW (keyMap sel nk kh) own nk ν:=by simp [frzW]
 rw [e] at key
 exact⟨_,_,rds,κ',key,hK⟩
theorem CallsS.enm {P:Program}{G:List (List DV)}{f:FuncId}{fn:Func}{code:Code}{args:List AV}{σ σ' ν:List LB}{x:AV}{lv0:Key→LB}(hf:P.funcs[f]?=some fn) (hb:fn.body=some code) (hσ:lvOf σ []=lv0)
 (h:∀ z:Ev,AW ⟨P,G,z.w,z.F,z.W,fn.ntmps,lv0,z.b,z.d⟩ none code ⟨fun t=>args.getD t .undef,lv0⟩ 1000 (FinM ⟨P,G,z.w,z.F,z.W,fn.ntmps,lv0,z.b,z.d⟩ fn x σ' ν)) (hl:Nat.ble args.length fn.ntmps=true:=by kernel_rfl):CallsS P G f args σ (.ret x σ' ν):=
 CallsS.of_AWm hf hb (Nat.le_of_ble_eq_true hl) fun⟨_,_,w,F,W,_,q,b,d⟩ h1 h2 h3 h4=>by subst hσ;cases h1;cases h2;cases h3;cases h4;exact h ⟨w,F,W,fun _=>.hole,b,d⟩
def sizN:List Nat→Nat
 | []=>1
 | n::l=>(n+1)*sizN l
theorem sizN_pos:∀ l:List Nat,0<sizN l
 | []=>by decide
 | _::l=>Nat.mul_pos (Nat.succ_pos _) (sizN_pos l)
theorem sizN_snoc (l:List Nat)(n:Nat):sizN (l++[n])=sizN l*(n+1):=by
 induction l with
 | nil=>simp [sizN]
 | cons a l ih=>simp only [List.cons_append,sizN,ih,Nat.mul_assoc]
theorem sizN_app (l l':List Nat):sizN (l++l')=sizN l*sizN l':=by
 induction l with
 | nil=>simp [sizN]
 | cons a l ih=>simp only [List.cons_append,sizN,ih,Nat.mul_assoc]
theorem sizN_take_le (l:List Nat)(i:Nat):sizN (l.take i)≤sizN l:=by
 have h:=sizN_app (l.take i) (l.drop i)
 rw [List.take_append_drop] at h
 rw [h]
 exact Nat.le_mul_of_pos_right _ (sizN_pos _)
theorem sizN_take {l:List Nat}{i:Nat}(h:i<l.length):sizN (l.take (i+1))=sizN (l.take i)*(l[i]+1):=by
 rw [List.take_add_one,List.getElem?_eq_getElem h]
 exact sizN_snoc _ _
def plN:List Nat→List Nat→Nat
 | n::l,k::ks=>k*sizN l+plN l ks
 | _,_=>0
def hpl:Nat→List Nat→List Nat→Nat
 | a,n::l,k::ks=>hpl (a*(n+1)+k) l ks
 | a,_,_=>a
theorem hpl_eq:∀ (a:Nat) (l ks:List Nat),l.length=ks.length→hpl a l ks=a*sizN l+plN l ks
 | a,[],[],_=>by simp [hpl,sizN,plN]
 | a,n::l,k::ks,h=>by
  have ih:=hpl_eq (a*(n+1)+k) l ks (by simpa using h)
  simp only [hpl,sizN,plN,ih]
  rw [Nat.add_mul,Nat.mul_assoc];omega
 | a,[],_::_,h=>by simp at h
 | a,_::_,[],h=>by simp at h
theorem hpl_ge (a:Nat)(l ks:List Nat)(h:l.length=ks.length):a≤hpl a l ks:=by
 rw [hpl_eq a l ks h]
 have:a≤a*sizN l:=Nat.le_mul_of_pos_right _ (sizN_pos l)
 omega
def fitN:List Nat→List Nat→Prop
 | n::l,k::ks=>k≤n∧fitN l ks
 | [],[]=>True
 | _,_=>False
theorem plN_lt:∀ {l ks:List Nat},fitN l ks→plN l ks<sizN l
 | [],[],_=>by decide
 | n::l,k::ks,h=>by
  have h1:=plN_lt h.2
  have:k*sizN l+sizN l≤(n+1)*sizN l:=by rw [← Nat.succ_mul];exact Nat.mul_le_mul_right _ (by have:=h.1;omega)
  show k*sizN l+plN l ks<(n+1)*sizN l
  omega
 | [],_::_,h=>h.elim
 | _::_,[],h=>h.elim
theorem fitN_len:∀ {l ks:List Nat},fitN l ks→l.length=ks.length
 | [],[],_=>rfl
 | n::l,k::ks,h=>by simp [fitN_len h.2]
 | [],_::_,h=>h.elim
 | _::_,[],h=>h.elim
theorem fitN_of:∀ {l ks:List Nat},l.length=ks.length→(∀ j,j<l.length→ks.getD j 0≤l.getD j 0)→fitN l ks
 | [],[],_,_=>trivial
 | n::l,k::ks,h,h2=>⟨h2 0 (by simp),fitN_of (by simpa using h) fun j hj=>by have:=h2 (j+1) (by simpa using hj);simpa using this⟩
 | [],_::_,h,_=>by simp at h
 | _::_,[],h,_=>by simp at h
theorem sizA_N:∀ l:List Ax,sizA l=sizN (l.map (·.n))
 | []=>rfl
 | a::l=>by show (a.n+1)*_=(a.n+1)*_;rw [sizA_N l]
abbrev Trm:=Rat × List Nat
def dgX (ts:List Trm)(j:Nat):Nat:=ts.foldl (fun m t=>max m (t.2.getD j 0)) 0
theorem dgX_snoc (ts:List Trm)(t:Trm)(j:Nat):dgX (ts++[t]) j=max (dgX ts j) (t.2.getD j 0):=by
 unfold dgX;rw [List.foldl_append];rfl
theorem fold_max (f:Trm→Nat):∀ (ts:List Trm) (a:Nat),a≤ts.foldl (fun m t=>max m (f t)) a∧∀ t∈ts,f t≤ts.foldl (fun m t=>max m (f t)) a
 | [],a=>⟨Nat.le_refl _,fun t h=>by cases h⟩
 | t::ts,a=>by
  obtain⟨h1,h2⟩:=fold_max f ts (max a (f t))
  simp only [List.foldl_cons]
  refine⟨by omega,fun u hu=>?_⟩
  rcases List.mem_cons.1 hu with rfl|hu
  ·omega
  ·exact h2 u hu
theorem dgX_ge {ts:List Trm}{t:Trm}(h:t∈ts) (j:Nat):t.2.getD j 0≤dgX ts j:=(fold_max (fun t=>t.2.getD j 0) ts 0).2 t h
theorem dgX_le {ts:List Trm}{B:Nat}(h:∀ t∈ts,∀ j,t.2.getD j 0≤B) (j:Nat):dgX ts j≤B:=by
 unfold dgX
 have:∀ (ts:List Trm) (a:Nat),a≤B→(∀ t∈ts,∀ j,t.2.getD j 0≤B)→ts.foldl (fun m t=>max m (t.2.getD j 0)) a≤B:=by
  intro ts
  induction ts with
  | nil=>intro a ha _;exact ha
  | cons t ts ih=>
   intro a ha hh
   simp only [List.foldl_cons]
   exact ih _ (by have:=hh t (List.mem_cons_self ..) j;omega) fun u hu=>hh u (List.mem_cons_of_mem _ hu)
 exact this ts 0 (Nat.zero_le _) h
def dgL (ts:List Trm)(N:Nat):List Nat:=(List.range N).map (dgX ts)
theorem dgL_len (ts:List Trm)(N:Nat):(dgL ts N).length=N:=by simp [dgL]
theorem dgL_get (ts:List Trm)(N:Nat){j:Nat}(h:j<(dgL ts N).length):(dgL ts N)[j]=dgX ts j:=by simp [dgL]
theorem dgL_fit {ts:List Trm}{N:Nat}{t:Trm}(h:t∈ts) (hl:t.2.length=N):fitN (dgL ts N) t.2:=by
 refine fitN_of (by rw [dgL_len,hl]) fun j hj=>?_
 rw [dgL_len] at hj
 have:(dgL ts N).getD j 0=dgX ts j:=by simp [dgL,hj]
 rw [this];exact dgX_ge h j
theorem trm_snoc (c0:Sq)(ts:List Trm)(t:Trm)(pl:List Nat→Nat):trm c0 (ts++[t]) pl=fun i=>if i=pl t.2 then trm c0 ts pl i+t.1 else trm c0 ts pl i:=by
 unfold trm;rw [List.foldl_append];rfl
def dpr (ts:List Trm):Nat:=ts.foldl (fun d t=>d*t.1.den) 1
def nsm (ts:List Trm):Nat:=ts.foldl (fun d t=>d+t.1.num.natAbs) 0
theorem dpr_snoc (ts:List Trm)(t:Trm):dpr (ts++[t])=dpr ts*t.1.den:=by unfold dpr;rw [List.foldl_append];rfl
theorem nsm_snoc (ts:List Trm)(t:Trm):nsm (ts++[t])=nsm ts+t.1.num.natAbs:=by unfold nsm;rw [List.foldl_append];rfl
theorem bq_le {D B:Nat}{x:Rat}(h:bq D B x) {n:Nat}(hn:n≠0):bq (D*n) B x:=⟨Nat.dvd_trans h.1 (Nat.dvd_mul_right _ _),h.2⟩
theorem trm_bq (pl:List Nat→Nat)(ts:List Trm):dpr ts≠0∧∀ i,bq (dpr ts) (nsm ts) (trm (fun _=>0) ts pl i):=by
 have key:∀ (r:List Trm),dpr r.reverse≠0∧∀ i,bq (dpr r.reverse) (nsm r.reverse) (trm (fun _=>0) r.reverse pl i):=by
  intro r
  induction r with
  | nil=>exact⟨Nat.one_ne_zero,fun i=>bq_zero _ _⟩
  | cons t r ih=>
   rw [List.reverse_cons,dpr_snoc,nsm_snoc,trm_snoc]
   obtain⟨h1,h2⟩:=ih
   refine⟨Nat.mul_ne_zero h1 t.1.den_nz,fun i=>?_⟩
   have h3:=bq_le (h2 i) t.1.den_nz
   have h4:bq (dpr r.reverse*t.1.den) t.1.num.natAbs t.1:=by rw [Nat.mul_comm];exact bq_le (bq_self t.1) h1
   simp only
   split
   ·exact bq_add (Nat.mul_ne_zero h1 t.1.den_nz) h3 h4
   ·exact bq_mono h3 (Nat.dvd_refl _) (by omega)
 have:=key ts.reverse
 rw [List.reverse_reverse] at this
 exact this
structure LnOK (p:Rat→Prop) (n:Nat) (lo w:Rat) (A:Sq):Prop where
 h1:∀ i k j,i≤n→j≤n→p (hzS lo n A i k j)
 h2:∀ k,k≤n→p (scl n w k)
 h3:∀ k j,j≤n→p (hzM n lo w A k j)
 h4:∀ i k j,j≤n→0<i∨k=0→p (hzP (fun k=>shf lo n A k*scl n w k) i k j)
def nxD (D n:Nat)(lo w:Rat):Nat:=D*lo.den ^ n*(w.den ^ n*chp n (n+1))
def nxB (B n:Nat)(lo w:Rat):Nat:=B*(1+lo.num.natAbs) ^ (n*n+n)*(w.num.natAbs+1) ^ n*2 ^ n
theorem nxD_zero (D:Nat)(lo w:Rat):nxD D 0 lo w=D:=by simp [nxD,chp,ch]
theorem nxB_zero (B:Nat)(lo w:Rat):nxB B 0 lo w=B:=by simp [nxB]
theorem nxD_ne {D:Nat}(hD:D≠0) (n:Nat) (lo w:Rat):nxD D n lo w≠0:=
 Nat.mul_ne_zero (Nat.mul_ne_zero hD (pow_ne lo.den_nz)) (Nat.mul_ne_zero (pow_ne w.den_nz) (chp_ne n (n+1) (Nat.le_refl _)))
theorem wbq (w:Rat):bq w.den (w.num.natAbs+1) w:=bq_mono (bq_self w) (Nat.dvd_refl _) (by omega)
theorem line_ok {D B n:Nat}{lo w:Rat}{A:Sq}(hD:D≠0) (hA:∀ j,j≤n→bq D B (A j)) (p:Rat→Prop) (hp:∀ x,bq (nxD D n lo w) (nxB B n lo w) x→p x)
 (hp2:∀ x,bq (w.den ^ n*chp n (n+1)) ((w.num.natAbs+1) ^ n) x→p x):LnOK p n lo w A:=by
 have hq:=lo.den_nz
 have hE:=w.den_nz
 have hc:=chp_ne n (n+1) (Nat.le_refl _)
 have hW1:1≤(w.num.natAbs+1) ^ n:=Nat.pow_pos (by omega)
 have h21:1≤2 ^ n:=Nat.pow_pos (by omega)
 have hP1:1≤(w.num.natAbs+1) ^ n*2 ^ n:=Nat.mul_pos hW1 h21
 have up1:∀ {x},bq (D*lo.den ^ n) (B*(1+lo.num.natAbs) ^ (n*n+n)) x→p x:=fun {x} h=>hp x (bq_mono h (Nat.dvd_mul_right _ _) (by
  unfold nxB
  rw [Nat.mul_assoc _ ((w.num.natAbs+1) ^ n)]
  exact Nat.le_mul_of_pos_right _ hP1))
 have up2:∀ {x},bq (nxD D n lo w) (B*(1+lo.num.natAbs) ^ (n*n+n)*(w.num.natAbs+1) ^ n) x→p x:=fun {x} h=>hp x (bq_mono h (Nat.dvd_refl _) (Nat.le_mul_of_pos_right _ h21))
 have hs:∀ k,k≤n→bq (D*lo.den ^ n) (B*(1+lo.num.natAbs) ^ (n*n+n)) (shf lo n A k):=fun k hk=>shf_bq hD hq (bq_self lo) hA hk
 have hcl:∀ k,k≤n→bq (w.den ^ n*chp n (n+1)) ((w.num.natAbs+1) ^ n) (scl n w k):=fun k hk=>scl_bq hE (wbq w) (by omega) hk
 have hd:∀ k,k≤n→bq (nxD D n lo w) (B*(1+lo.num.natAbs) ^ (n*n+n)*(w.num.natAbs+1) ^ n) (shf lo n A k*scl n w k):=fun k hk=>
  bq_mul (Nat.mul_ne_zero hD (pow_ne hq)) (Nat.mul_ne_zero (pow_ne hE) hc) (hs k hk) (hcl k hk)
 refine⟨fun i k j hi hj=>up1 (hzS_bq hD hq (bq_self lo) hA hi hj),fun k hk=>hp2 _ (hcl k hk),fun k j hj=>?_,fun i k j hj h0=>?_⟩
 ·unfold hzM
  split
  ·exact up2 (hd j hj)
  ·exact up1 (hs j hj)
 ·exact hp _ (hzP_bq (nxD_ne hD n lo w) hd hj h0)
theorem tr_bq {D B n s:Nat}{lo w:Rat}{c:Sq}(hD:D≠0) (h:∀ i,bq D B (c i)) (i:Nat):bq (nxD D n lo w) (nxB B n lo w) (tr n s (cnv n lo w) c i):=by
 unfold tr
 exact cnv_bq hD lo.den_nz w.den_nz (bq_self lo) (wbq w) (by omega) (fun j _=>h _) (by have:=Nat.mod_lt (i / s) (show 0<n+1 by omega);omega)
section
variable {c:Ctx}{r:Option Nat}{ops:Array Oper}{o:Oper}{s0:LSt}
end
section
variable {c:Ctx}{r:Option Nat}{ops:Array Oper}{o:Oper}{s0:LSt}
theorem sim_conv_bs {S T e:TypeId}{x:Operand}{κ:Key}{off:Nat}{own fz:Bool}{T':TypeId}{cs:List CV}{l:List UInt8}{s:LSt}(hd:∀ d,o.dst=some d→d<c.n) (ho:o.op=.convert S T x)
 (hx:s.val c.G x=.c (.lsl κ off l.length 1)) (hk:s.lv κ=.cells own fz T' cs) (hc:(cs.drop off).take l.length=bytesA l) (hl:l.length≤9223372036854775807) (hS:slT c.P S=some (e,1)) (he:c.P.underlying e=some (.int .u8)) (hT:strT c.P T=true) :
 Sim c o s (s.put o.dst (.c (.d (.str l)))):=
 Sim.of_pure hd fun F β a w hs=>by
  have hv:=hx ▸ hs.val x
  obtain⟨hv,_⟩:=hv
  simp only [Vw.atLsl,hk] at hv
  obtain⟨cap,hv,hcap,hsz⟩:=hv
  have hb:=hs.blk κ
  unfold Vw.blk at hb;simp only [hk] at hb
  obtain⟨arr,b1,b2,b3,b4,b5⟩:=hb
  have hcell:∀ j (hj:j<l.length),w.cell? ((⟨β κ,off,none⟩:Addr).add j)=some (.int .u8 (l[j].toNat:Int)):=by
   intro j hj
   have h0:(bytesA l)[j]?=some (CV.d (.int .u8 (l[j].toNat:Int))):=by simp [bytesA,hj]
   rw [← hc,List.getElem?_take_of_lt hj,List.getElem?_drop] at h0
   obtain⟨hoff,hce⟩:=List.getElem?_eq_some_iff.1 h0
   have h3:=b3 (off+j) hoff (by omega)
   rw [hce] at h3
   have h4:=Vw.c_int (V:=Vw.mk F β s.lv w) h3
   have:(⟨β κ,off,none⟩:Addr).add j=⟨β κ,off+j,none⟩:=by simp [Addr.add]
   rw [this,cell_of_block b1 (by omega),h4]
  refine⟨.string ⟨l.toArray⟩,?_,Vw.mk_str _ l hl⟩
  have hu:=(slT_info hS).1
  have:=run_convert_bytes_back (P:=c.P) w S T e ⟨β κ,off,none⟩ cap l hu he (strT_info hT) hcell
  simp only [execOp,ho,hv,Sem.run_bind,this,Result.andThen_ok]
  rfl
theorem EffOK.convBs {S T e:TypeId}{x:Operand}{κ:Key}{off:Nat}{own fz:Bool}{T':TypeId}{cs:List CV}{l:List UInt8}(hd:∀ d,o.dst=some d→d<c.n) (hw:wantA ops o.guard s0.fr=some true) (ho:o.op=.convert S T x)
 (hx:s0.val c.G x=.c (.lsl κ off l.length 1)) (hk:s0.lv κ=.cells own fz T' cs) (hc:(cs.drop off).take l.length=bytesA l) (hl:l.length≤9223372036854775807) (hS:slT c.P S=some (e,1)) (he:c.P.underlying e=some (.int .u8)) (hT:strT c.P T=true) :
 EffOK c r ops o s0 ⟨.c (.d (.str l)),[],[κ]⟩:=by
 refine EffOK.of_sim hw (fun cl hcl=>by grind) (fun s h1 h3=>?_)
 have e1:s.val c.G x=s0.val c.G x:=h1 x (by rw [ho];simp [Op.operands])
 have e4:s.lv κ=s0.lv κ:=h3.1 κ (by simp)
 exact sim_conv_bs hd ho (e1.trans hx) (e4.trans hk) hc hl hS he hT
end
theorem ChX.convBs {c:Ctx}{r:Option Nat}{ops:Array Oper}{o:Oper}{os:List Oper}{s:LSt}{κ0:Nat}{K:LSt→Nat→Prop}(κ':Nat) {S T e:TypeId}{x:Operand}{κ:Key}{off:Nat}{own fz:Bool}{T':TypeId}{cs:List CV}{l:List UInt8}
 (hd:dstB c.n [o]=true) (hg:o.guard=none) (ho:o.op=.convert S T x)
 (hx:s.val c.G x=.c (.lsl κ off l.length 1)) (hk:s.lv κ=.cells own fz T' cs) (hc:(cs.drop off).take l.length=bytesA l) (hl:l.length≤9223372036854775807) (hS:slT c.P S=some (e,1)) (he:c.P.underlying e=some (.int .u8)) (hT:strT c.P T=true)
 (hK:ChX c r ops os (LSt.put ⟨s.fr,updL s.lv []⟩ o.dst (.c (.d (.str l)))) κ' K):ChX c r ops (o::os) s κ0 K:=by
 refine ChX.eff κ' (EffOK.convBs (fun d hd'=>?_) (by rw [hg];rfl) ho hx hk hc hl hS he hT) hK
 simp only [dstB,List.all_cons,List.all_nil,Bool.and_true,hd'] at hd
 grind
def ChD (c:Ctx)(r:Option Nat)(ops:Array Oper)(os:List Oper)(s:LSt)(κ:Nat)(acc:List Tch)(K:LSt→Nat→List Tch→Prop):Prop:=
 ∃ es s' κ',Chain c r ops os es s s'∧K s' κ' ((es.map tchE).reverse++acc)
section
variable {c:Ctx}{r:Option Nat}{ops:Array Oper}
theorem ChD.done {s:LSt}{κ:Nat}{acc:List Tch}{K:LSt→Nat→List Tch→Prop}(h:K s κ acc):ChD c r ops [] s κ acc K:=⟨[],s,κ,rfl,h⟩
theorem ChD.run {os:List Oper}{s:LSt}{κ:Nat}{acc:List Tch}{K:LSt→Nat→List Tch→Prop}(n:Nat) (hd:dstB c.n (os.take n)=true)
 (h:ARunPD c (prepL (ops.toList.map (·.dst)) (os.take n)) s κ acc fun s' κ' acc'=>ChD c r ops (os.drop n) s' κ' acc' K):ChD c r ops os s κ acc K:=by
 have e:∀ l:List Tch,(l.map fun t=>(⟨.undef,t.1.map fun k=>(k,LB.hole),t.2⟩:Fx)).map tchE=l:=fun l=>by
  rw [List.map_map]
  refine (List.map_congr_left fun t _=>?_).trans (List.map_id l)
  simp only [Function.comp,tchE,List.map_map]
  show ((t.1.map fun k=>k),t.2)=t
  simp
 rw [← e acc] at h
 obtain⟨es,s',κ',h1,es2,s2,κ2,h2,h3⟩:=ARun.chain (r:=r) hd (ARunPD_run h)
 refine⟨es++es2,s2,κ2,?_,?_⟩
 ·have:=Chain.append h1 h2
  simp_all
 simp_all
theorem ChD.stepN {o:Oper}{os:List Oper}{s:LSt}{κ:Nat}{acc:List Tch}{K:LSt→Nat→List Tch→Prop}{x:AV}{us:List (Key × LB)}{rds:List Key}(κ':Nat) (hd:dstB c.n [o]=true) (hg:o.guard=none)
 (h:Am.stepN c.P o.op (o.op.operands.toList.map (s.val c.G)) s.lv κ=some (x,us,rds)) (hK:ChD c r ops os (LSt.put ⟨s.fr,updL s.lv us⟩ o.dst x) κ' ((us.map (·.1),rds)::acc) K):ChD c r ops (o::os) s κ acc K:=by
 obtain⟨es,s',κ2,h1,h2⟩:=hK
 refine⟨⟨x,us,rds⟩::es,s',κ2,⟨EffOK.plainN (fun d hd'=>?_) (by rw [hg];rfl) h,h1⟩,?_⟩
 ·simp only [dstB,List.all_cons,List.all_nil,Bool.and_true,hd'] at hd
  grind
 ·rw [List.map_cons,List.reverse_cons,List.append_assoc];exact h2
theorem AW.drawX {s:LSt}{κ:Nat}{Q:Ex→LSt→Nat→Prop}{id:Nat}(hm:c.P.follows .mixedOrders=true) (hst:statB ops=true) (h:ChD c r ops ops.toList s κ [] fun s' κ' acc=>dynK ops acc.reverse=true∧Q .normal s' κ'):AW c r (.region id ops true) s κ Q:=by
 intro F β a w hs
 obtain⟨es,s',κ',h1,h2,h3⟩:=h
 rw [List.append_nil,List.reverse_reverse,← dynB_eq] at h2
 exact h1.draw hm hst h2 (fun F' β' a' w' h'=>⟨.normal,s',κ',F',β',h3,h',rfl⟩) hs
end
structure Tw where
 e:Fx
 lv:Key→LB
 sf:Option (Key × LB)
open Classical in
noncomputable def Tw.fw (t:Tw):Fw:=⟨t.e,t.lv,false,fun k b=>match t.sf with|some (W,B)=>decide (k=W∧(b=t.lv W∨b=B))|none=>false⟩
section
variable {c:Ctx}{r:Option Nat}{ops:Array Oper}
end
end Go.Am
