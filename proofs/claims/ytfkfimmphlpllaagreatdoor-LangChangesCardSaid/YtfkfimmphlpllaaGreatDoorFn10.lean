/- Helpers: an abstract machine for Go functions, and walks of functions of the program. -/
import Derived.Test.YtfkfimmphlpllaaGreatDoorFn09

set_option linter.all false
set_option maxHeartbeats 8000000
set_option maxRecDepth 100000
namespace Go.Am
open Go.Am.Ty Go.Proofs N
variable {A B n:Nat}
theorem B8(ha:A % 2=0) (hb:B % 2=1):Nat.gcd (A / 2) B=Nat.gcd A B:=by
 have h:Nat.Coprime 2 B:=by
  have:Nat.gcd 2 B=Nat.gcd (B % 2) 2:=Nat.gcd_rec 2 B;unfold Nat.Coprime;rw [this,hb];rfl
 have e:A=2*(A / 2):=by omega
 conv=>rhs;rw [e]
 exact (Nat.Coprime.gcd_mul_left_cancel _ h).symm
theorem Fk(ha:A % 2=0) (hb:B % 2=0):2*Nat.gcd (A / 2) (B / 2)=Nat.gcd A B:=by
 rw [← Nat.gcd_mul_left];congr 1 <;> omega
theorem JY(h:B≤A):Nat.gcd (A - B) B=Nat.gcd A B:=by
 conv=>rhs;rw [show A=(A - B)+B by omega]
 rw [Nat.gcd_add_self_left]
theorem LF {tw vb:Nat}(h:2 ^ tw≤vb) (hl:(aI 1000000000 vb).length≤n):tw<30*n:=by
 have h1:=qn (B:=1000000000) (by decide) (n:=vb);have h2:1000000000 ^ (aI 1000000000 vb).length≤1000000000 ^ n:=Xr (by decide) hl;have h3:1000000000 ^ n≤(2 ^ 30) ^ n:=YC (by decide) n;rw [← XX] at h3;exact (Zg (by decide:1<2)).1 (XV h (Xe h1 (WN h2 h3)))
theorem Og:(aI 1000000000 n).length=0↔n=0:=by
 rw [List.length_eq_zero_iff];exact dI (by decide)
theorem HD (G:List (List DV))(A:Nat):aa Tryz.prog G 321 [(nK .i64 (some (aI 1000000000 (A))))] (.c (.d (.bool (decide (A % 2=1))))):=by
 have h:=LI G (some (aI 1000000000 A))
 rwa [aV,bk (by decide)] at h
theorem EM (G:List (List DV))(A:Nat)(h:(aI 1000000000 A).length≤100000):aa Tryz.prog G 322 [(nK .i64 (some (aI 1000000000 (A))))] (nK .i64 (some (aI 1000000000 (A / 2)))):=by
 have h:=Ht G (some (aI 1000000000 A)) (bp (by decide) A).1 (by rw [aV];omega)
 rwa [aV,bk (by decide)] at h
theorem zh (G:List (List DV))(A B:Nat)(h:(aI 1000000000 A).length≤1000000)(h':(aI 1000000000 B).length≤1000000):aa Tryz.prog G 324 [(nK .i64 (some (aI 1000000000 (A)))),(nK .i64 (some (aI 1000000000 (B))))] (nK .i64 (some (aI 1000000000 (A+B)))):=by
 have h:=I8 G (some (aI 1000000000 A)) (some (aI 1000000000 B)) (bp (by decide) A) (bp (by decide) B) h h'
 rwa [aV,aV,bk (by decide),bk (by decide)] at h
theorem xZ (G:List (List DV))(A B:Nat)(h:(aI 1000000000 A).length≤1000000)(hle:B≤A):aa Tryz.prog G 323 [(nK .i64 (some (aI 1000000000 (A)))),(nK .i64 (some (aI 1000000000 (B))))] (nK .i64 (some (aI 1000000000 (A - B)))):=by
 have hl:=cR (B:=1000000000) (by decide) hle;have h:=m7 G (some (aI 1000000000 A)) (some (aI 1000000000 B)) (bp (by decide) A).1 (bp (by decide) B).1 h (by rw [aV];omega) (by rw [aV,aV,bk (by decide),bk (by decide)];exact hle)
 rwa [aV,aV,bk (by decide),bk (by decide)] at h
theorem pn (G:List (List DV))(A B:Nat):aa Tryz.prog G 247 [(nK .i64 (some (aI 1000000000 (A)))),(nK .i64 (some (aI 1000000000 (B))))] (.c (.d (.int .i64 (dG A B)))):=by
 have h:=m4 G (a:=some (aI 1000000000 A)) (b:=some (aI 1000000000 B)) (bp (by decide) A) (bp (by decide) B)
 rwa [aV,aV,bk (by decide),bk (by decide)] at h
theorem Bi (G:List (List DV))(va vb:Nat)(ha0:0<va)(hb0:0<vb)(hal:(aI 1000000000 va).length≤100000)(hbl:(aI 1000000000 vb).length≤100000) :
 aa Tryz.prog G 274 [(nK .i64 (some (aI 1000000000 (va)))),(nK .i64 (some (aI 1000000000 (vb))))] (nK .i64 (some (aI 1000000000 (Nat.gcd va vb)))):=by
 have hdv:=r7 G (some (aI 1000000000 va)) (some (aI 1000000000 vb)) (bp (by decide) va).1 (bp (by decide) vb) (by rw [aV];intro h;have:=(dI (by decide)).1 h;omega) hal hbl
 have hrm:I9 (some (aI 1000000000 va)) (some (aI 1000000000 vb))=some (aI 1000000000 (va % vb)):=by
  unfold I9;rw [aV,aV,if_neg (by intro h;have:=(dI (by decide)).1 h;omega),bk (by decide),bk (by decide)]
 rw [hrm] at hdv;have dle:∀ n,n≤vb→(aI 1000000000 n).length≤100000:=fun n h=>WN (cR (by decide) h) hbl
 have tw_le:∀ tw,2 ^ tw≤vb→tw<3000000:=fun tw h=>Xe (LF h hbl) (by decide)
 have hg0:Nat.gcd va vb=Nat.gcd (va % vb) vb:=by rw [YB,Nat.gcd_rec]
 have oddG:∀ A,aa Tryz.prog G 321 [(nK .i64 (some (aI 1000000000 (A))))] (.c (.d (.bool (decide (A % 2=1))))):=fun A=>HD G A
 have halfG:∀ A,A≤vb→aa Tryz.prog G 322 [(nK .i64 (some (aI 1000000000 (A))))] (nK .i64 (some (aI 1000000000 (A / 2)))):=fun A h=>EM G A (dle A h)
 have sumG:∀ A,A≤vb→aa Tryz.prog G 324 [(nK .i64 (some (aI 1000000000 (A)))),(nK .i64 (some (aI 1000000000 (A))))] (nK .i64 (some (aI 1000000000 (A+A)))):=fun A h=>zh G A A (by have:=dle A h;omega) (by have:=dle A h;omega)
 have diffG:∀ A B,A≤vb→B≤A→aa Tryz.prog G 323 [(nK .i64 (some (aI 1000000000 (A)))),(nK .i64 (some (aI 1000000000 (B))))] (nK .i64 (some (aI 1000000000 (A - B)))):=fun A B h h'=>xZ G A B (by have:=dle A h;omega) h'
 have cmpG:∀ A B,aa Tryz.prog G 247 [(nK .i64 (some (aI 1000000000 (A)))),(nK .i64 (some (aI 1000000000 (B))))] (.c (.d (.int .i64 (dG A B)))):=fun A B=>pn G A B
 refine aa.en Tryz.func274 rfl fun _=>aab ?_;refine aak fun K hK=>?_;simp;refine ag.pure 0 9 hdv (qI _ _) (by simp) rfl ?_;simp;apply hK;refine aaa fun K hK=>aab ?_
 by_cases hm:va % vb=0
 ·have h1:aI 1000000000 (va % vb)=[]:=(dI (by decide)).2 hm;have hgv:Nat.gcd va vb=vb:=by rw [hg0,hm,Zq]
  rw [hgv];refine aai (by simp [h1] <;> omega) (aab ?_);exact aad (aq.rt (t:=4) rfl 9 (by simp))
 have h1:¬ aI 1000000000 (va % vb)=[]:=fun h=>hm ((dI (by decide)).1 h)
 have hmlt:va % vb<vb:=Xa _ hb0;refine aaj (by simp [h1] <;> omega) (aac (hK _ _ (aab ?_)));refine aaa fun K hK=>aaf ?_
 refine aao (fun (p:Nat × Nat × Nat)=>⟨bf [(0,(nK .i64 (some (aI 1000000000 (p.1))))),(1,(nK .i64 (some (aI 1000000000 (p.2.1))))),(5,.c (.d (.int .i64 (p.2.2:Int))))],fun _=>.hole⟩) 0
  (fun p=>0<p.1∧0<p.2.1∧p.1≤vb∧p.2.1≤vb∧2 ^ p.2.2*Nat.gcd p.1 p.2.1=Nat.gcd va vb∧2 ^ p.2.2*p.2.1≤vb) (fun p=>p.1) (va % vb,vb,0) (Le.mk' _ rfl aX (by simp)) ⟨by omega,hb0,by omega,bg _,by simp [hg0],by simp⟩ ?_
 rintro⟨A,B,tw⟩ ⟨hA,hB,hA2,hB2,hg,ht⟩;simp only at hA hB hA2 hB2 hg ht;have htw:tw<3000000:=tw_le tw (WN (Zn _ hB) ht);have wt:=bG (n:=(tw:Int)+1) (by omega) (by omega);have oA:=oddG A;have oB:=oddG B;have hAl:=dle (A) (by omega);have hBl:=dle (B) (by omega)
 have st2:(A % 2=1∨B % 2=1)→∀ (fr:Nat→AV) (κ:Nat),fr 0=(nK .i64 (some (aI 1000000000 (A))))→fr 1=(nK .i64 (some (aI 1000000000 (B))))→fr 5=.c (.d (.int .i64 (tw:Int)))→K ⟨fr,fun _=>.hole⟩ κ:=by
  intro hodd fr κ z0 z1 z5;apply hK;refine aaa fun K hK=>aaf ?_
  refine aao (fun (p:Nat × Nat)=>⟨bf [(0,(nK .i64 (some (aI 1000000000 (p.1))))),(1,(nK .i64 (some (aI 1000000000 (p.2))))),(5,.c (.d (.int .i64 (tw:Int))))],fun _=>.hole⟩) 0
   (fun p=>0<p.2∧p.1≤vb∧p.2≤vb∧(p.1 % 2=1∨p.2 % 2=1)∧2 ^ tw*Nat.gcd p.1 p.2=Nat.gcd va vb) (fun p=>p.1+p.2) (A,B) (Le.mk' _ rfl aX (by simp [z0,z1,z5])) ⟨hB,hA2,hB2,hodd,hg⟩ ?_
  rintro⟨C,D⟩ ⟨i1,i2,i3,i4,i5⟩;simp only at i1 i2 i3 i4 i5
  have fin:∀ (Z:Nat) (fr:Nat→AV) (κ:Nat),Z≤vb→2 ^ tw*Z=Nat.gcd va vb→fr 1=(nK .i64 (some (aI 1000000000 (Z))))→fr 5=.c (.d (.int .i64 (tw:Int)))→K ⟨fr,fun _=>.hole⟩ κ:=by
   intro Z fr κ hZ0 hZ z1 z5;apply hK;refine aaa fun K hK=>aab ?_;refine aaf ?_;refine aao (fun (i:Nat)=>⟨bf [(1,(nK .i64 (some (aI 1000000000 (Z*2 ^ i))))),(5,.c (.d (.int .i64 (tw:Int)))),(6,.c (.d (.int .i64 (i:Int))))],fun _=>.hole⟩) 0 (fun i=>i≤tw) (fun i=>tw - i) 0 (Le.mk' _ rfl aX (by simp [z1,z5])) (W2 _) ?_;intro i hi
   try simp only at hi
   refine aaa fun K2 hK2=>aab ?_
   by_cases hlt:i<tw
   ·have wi:=bG (n:=(i:Int)+1) (by omega) (by omega);have hgv:Nat.gcd va vb≤vb:=Nat.gcd_le_right _ hb0
    have hle:Z*2 ^ i≤vb:=by
     rw [WT];exact WN (WZ Z (Xr (by decide) (XZ hlt))) (by rw [hZ];exact hgv)
    have hll:=dle (Z*2 ^ i) (by omega);have hs:=sumG (Z*2 ^ i) hle;have he:Z*2 ^ i+Z*2 ^ i=Z*2 ^ (i+1):=by rw [WU,← WV];omega
    rw [he] at hs;refine aai (by simp [hlt] <;> omega) (aac (hK2 _ _ (aaa fun K5 hK5=>aaf (AW.m0 0 hs (hK5 _ _ ?_)))));refine aae ?_;simp [wi];exact⟨i+1,Le.mk' _ rfl aX (by simp),by omega,by omega⟩
   ·obtain rfl:i=tw:=by omega
    refine aaj (by simp [hlt] <;> omega) (aan (hK _ _ (aab ?_)));rw [← hZ,WT];exact aad (aq.rt (t:=4) rfl 9 (by simp))
  have hCl:=dle (C) (by omega);refine aaa fun K2 hK2=>aab ?_
  by_cases hC0:C=0
  ·have h2:¬ 0<(aI 1000000000 C).length:=by rw [Nat.pos_iff_ne_zero];exact fun h=>h (Og.2 hC0)
   subst hC0;rw [Zq] at i5;refine aaj (by simp [h2] <;> omega) (aan ?_);simp;exact fin D _ _ i3 i5 (by simp) (by simp)
  have h2:0<(aI 1000000000 C).length:=YA fun h=>hC0 (Og.1 h)
  refine aai (by simp [h2] <;> omega) (aac (hK2 _ _ (aaf (aaa fun K5 hK5=>aaf ?_))))
  refine aao (fun (C':Nat)=>⟨bf [(0,(nK .i64 (some (aI 1000000000 (C'))))),(1,(nK .i64 (some (aI 1000000000 (D))))),(5,.c (.d (.int .i64 (tw:Int))))],fun _=>.hole⟩) 0
   (fun C'=>0<C'∧C'≤C∧(C' % 2=1∨D % 2=1)∧Nat.gcd C' D=Nat.gcd C D) (fun C'=>C') C (Le.mk' _ rfl aX (by simp)) ⟨by omega,bg _,i4,rfl⟩ ?_
  rintro C' ⟨j1,j2,j3,j4⟩;have oC:=oddG C';have hhC:=halfG C' (by omega);refine aaa fun K6 hK6=>aak fun K7 hK7=>?_;simp
  by_cases c1:C' % 2=1
  rotate_left
  ·have hd1:D % 2=1:=by omega
   refine ag.p 0 9 oC ?_;simp [c1];apply hK7;refine aah (aac (hK6 _ _ (aaf (aae ?_))));simp;refine ag.p 0 9 hhC ?_;simp;exact⟨C' / 2,Le.mk' _ rfl aX (by simp),⟨by omega,by omega,.inr hd1,by rw [B8 (by omega) hd1,j4]⟩,by omega⟩
  refine ag.p 0 9 oC ?_;simp [c1];apply hK7;refine aag (aan (hK5 _ _ (aaa fun K8 hK8=>aaf ?_)))
  refine aao (fun (D':Nat)=>⟨bf [(0,(nK .i64 (some (aI 1000000000 (C'))))),(1,(nK .i64 (some (aI 1000000000 (D'))))),(5,.c (.d (.int .i64 (tw:Int))))],fun _=>.hole⟩) 0
   (fun D'=>0<D'∧D'≤D∧Nat.gcd C' D'=Nat.gcd C D) (fun D'=>D') D (Le.mk' _ rfl aX (by simp)) ⟨i1,bg _,j4⟩ ?_
  rintro D' ⟨l1,l2,l3⟩;have oD:=oddG D';have hhD:=halfG D' (by omega);refine aaa fun K9 hK9=>aak fun K10 hK10=>?_;simp
  by_cases d1:D' % 2=1
  rotate_left
  ·refine ag.p 0 9 oD ?_;simp [d1];apply hK10;refine aah (aac (hK9 _ _ (aaf (aae ?_))));simp;refine ag.p 0 9 hhD ?_;simp;exact⟨D' / 2,Le.mk' _ rfl aX (by simp),⟨by omega,by omega,by rw [YB,B8 (by omega) c1,YB,l3]⟩,by omega⟩
  have hDl:=dle (D') (by omega);refine ag.p 0 9 oD ?_;simp [d1];apply hK10;refine aag (aan (hK8 _ _ ?_));rw [← l3] at i5;refine aaa fun K11 hK11=>aaa fun K12 hK12=>?_
  by_cases hD1:D'=1
  ·subst hD1;have e1:aI 1000000000 1=[1]:=(gB (by decide:2≤1000000000) (l:=[1]) ⟨by intro d hd;simp at hd;omega,by simp⟩ (by simp)).symm;have e2:=fV (P:=Tryz.prog) (T:=213) (lv:=fun _=>.hole) (k:=.i64) (k':=.i64) (o:=some [1]) (i:=0) (by simp) (by simp);simp only [Y7,aV,Xo] at e2;rw [e1];rw [YR,XB] at i5;refine aae ?_;simp [e2,-fV];apply hK12;refine aah (aan ?_);simp;exact fin 1 _ _ (by omega) (by rw [XB];exact i5) (by simp [e1]) (by simp)
  have one:∀ lv:Key→LB,(aI 1000000000 D').length=1→ak Tryz.prog 213 lv (nK .i64 (some (aI 1000000000 D'))) (.c (.d (.int .i64 0)))=some (.c (.d (.ptr [DV.int .i64 (D':Int)])),[],[],True):=fun lv h=>by
   have h0:0<(dO (some (aI 1000000000 D'))).length:=by rw [aV];omega
   have h2:=fV (P:=Tryz.prog) (T:=213) (lv:=lv) (k:=.i64) (k':=.i64) (o:=some (aI 1000000000 D')) (i:=0) (by simp) h0
   have hx:(aI 1000000000 D')[0]'(by rw [h];decide)=D':=by
    obtain⟨x,hx⟩:∃ x,aI 1000000000 D'=[x]:=by match hd:aI 1000000000 D',h with|[x],_=>exact⟨x,rfl⟩
    have hv:=bk (B:=1000000000) (by decide) D';rw [hx] at hv;simp at hv;simp [hx,hv]
   simp only [Y7,aV,hx] at h2;exact h2
  have hD1':¬ (D':Int)=1:=by omega
  have rest:∀ (fr:Nat→AV) (κ:Nat),fr 0=(nK .i64 (some (aI 1000000000 (C'))))→fr 1=(nK .i64 (some (aI 1000000000 (D'))))→fr 5=.c (.d (.int .i64 (tw:Int)))→K11 ⟨fr,fun _=>.hole⟩ κ:=by
   intro fr κ z0 z1 z5;apply hK11;refine aaa fun K13 hK13=>?_
   have fin2:∀ (X Y:Nat) (fr:Nat→AV) (κ:Nat),Y≤X→X≤vb→0<Y→Y % 2=1→X % 2=1→X+Y=C'+D'→Nat.gcd X Y=Nat.gcd C' D'→fr 0=(nK .i64 (some (aI 1000000000 (X))))→fr 1=(nK .i64 (some (aI 1000000000 (Y))))→fr 5=.c (.d (.int .i64 (tw:Int)))→K13 ⟨fr,fun _=>.hole⟩ κ:=by
    intro X Y fr κ hXY hXv hY hY1 hX1 hs hgg z0 z1 z5;have hdf:=diffG X Y hXv hXY;apply hK13;refine aae ?_;simp [z0,z1];refine ag.p 0 9 hdf ?_;simp;refine⟨X - Y,Y,Le.mk' _ rfl aX (by simp [z1,z5]),⟨hY,by omega,by omega,.inr hY1,by rw [JY hXY,hgg];exact i5⟩,by omega⟩
   have hcm:=cmpG C' D';refine aaa fun K14 hK14=>?_
   by_cases hlt:C'<D'
   ·have hc:dG C' D'<0:=by rw [jh hlt];omega
    refine aae ?_;simp [z0,z1];refine ag.p 0 9 hcm ?_;simp [hc];apply hK14;refine aah (aae ?_);simp [z0,z1];exact fin2 D' C' _ _ (by omega) (by omega) j1 c1 d1 (by omega) (YB _ _) (by simp) (by simp) (by simp [z5])
   ·have hc:¬ dG C' D'<0:=by
     by_cases e:C'=D'
     ·rw [mo e];omega
     ·rw [jI (by omega)];omega
    refine aae ?_;simp [z0,z1];refine ag.p 0 9 hcm ?_;simp [hc];apply hK14;refine aag (aac ?_);simp;exact fin2 C' D' _ _ (by omega) (by omega) l1 d1 c1 rfl rfl (by simp [z0]) (by simp [z1]) (by simp [z5])
  by_cases hl1:(aI 1000000000 D').length=1
  ·have o1:=fun lv=>one lv hl1
   refine aae ?_;simp [hl1,o1,hD1',hD1,-fV];apply hK12;refine aag (aac ?_);simp;exact rest _ _ (by simp) (by simp) (by simp)
  ·have hl1':¬ ((aI 1000000000 D').length:Int)=1:=by omega
   refine aau hl1 hl1' (hK12 _ _ ?_);refine aag (aac ?_);simp;exact rest _ _ (by simp) (by simp) (by simp)
 refine aaa fun K2 hK2=>aak fun K3 hK3=>?_;simp
 by_cases a1:A % 2=1
 ·refine ag.p 0 9 oA ?_;simp [a1];apply hK3;refine aag (aan ?_);simp;exact st2 (.inl a1) _ _ (by simp) (by simp) (by simp)
 by_cases b1:B % 2=1
 ·refine ag.p 0 9 oA ?_;simp [a1];refine ag.p 0 9 oB ?_;simp [b1];apply hK3;refine aag (aan ?_);simp;exact st2 (.inr b1) _ _ (by simp) (by simp) (by simp)
 have hhA:=halfG A (by omega);have hhB:=halfG B (by omega);refine ag.p 0 9 oA ?_;simp [a1];refine ag.p 0 9 oB ?_;simp [b1];apply hK3;refine aah (aac (hK2 _ _ (aaf (aak fun K5 hK5=>?_))));simp;refine ag.p 0 9 hhA ?_;simp;refine ag.p 0 9 hhB ?_;simp;apply hK5;refine aae ?_;simp [wt];refine⟨A / 2,B / 2,tw+1,Le.mk' _ rfl aX (by simp),⟨by omega,by omega,by omega,by omega,?_,?_⟩,by omega⟩
 ·rw [WU,WV,Fk (by omega) (by omega)];exact hg
 ·have e:2 ^ (tw+1)*(B / 2)=2 ^ tw*(2*(B / 2)):=by rw [WU,WV]
  rw [e,show 2*(B / 2)=B by omega];exact ht
def eG (x:Rat):Int:=if x.num=0 then 0 else if x.num<0 then -1 else 1
def ju (x:Rat):Option (List Nat):=if x.num=0 then none else some (aI 1000000000 x.num.natAbs)
def lF (x:Rat):Option (List Nat):=if x.num=0 then none else some (aI 1000000000 x.den)
abbrev c8 (x:Rat):AV:=rA (eG x) (ju x) (lF x)
theorem mS (x:Rat):dO (ju x)=aI 1000000000 x.num.natAbs:=by
 unfold ju;split
 ·rename_i h;rw [h];exact OQ.symm
 ·rfl
theorem B4 {x:Rat}(h:x.num=0):x.den=1:=by
 have:=Rat.num_eq_zero.1 h;subst this;rfl
theorem Px:aI 1000000000 1=[1]:=(gB (by decide:2≤1000000000) (l:=[1]) ⟨by intro d hd;simp at hd;omega,by simp⟩ (by simp)).symm
theorem PN (x:Rat):KY (eG x) (lF x)=some (aI 1000000000 x.den):=by
 unfold KY eG lF
 by_cases h:x.num=0
 ·rw [if_pos h,if_pos rfl,B4 h,Px]
 ·rw [if_neg h,if_neg h,if_neg (by split <;> omega)]
theorem OH (n:Nat):(aI 1000000000 n).length≤2*nl n:=by
 refine cD (by decide) ?_;rw [XX];exact Xe (wP n) (YC (by decide) _)
theorem tq (G:List (List DV)):aa Tryz.prog G 221 [] (nK .i64 (some (aI 1000000000 (1)))):=by rw [Px];exact Ds G
theorem Ab (G:List (List DV))(A B:Nat)(hB:0<B)(h:(aI 1000000000 A).length≤100000)(h':(aI 1000000000 B).length≤100000):∃ o,aa Tryz.prog G 275 [(nK .i64 (some (aI 1000000000 (A)))),(nK .i64 (some (aI 1000000000 (B))))] (.tup [(nK .i64 (some (aI 1000000000 (A / B)))),nK .i64 o]):=by
 have h:=r7 G (some (aI 1000000000 A)) (some (aI 1000000000 B)) (bp (by decide) A).1 (bp (by decide) B) (by rw [aV];intro e;have:=(dI (by decide)).1 e;omega) h h';rw [aV,aV,bk (by decide),bk (by decide)] at h;exact⟨_,h⟩
theorem L9 (neg:Bool){P Q:Nat}(hP:P≠0) (hQ:Q≠0):c8 (mkRat (dy neg P) Q)=rA (if neg then -1 else 1) (some (aI 1000000000 (P / Nat.gcd P Q))) (some (aI 1000000000 (Q / Nat.gcd P Q))):=by
 obtain⟨n1,n2⟩:=iw neg (a:=P) hQ;have hg:P / Nat.gcd P Q≠0:=XY (Nat.div_pos (Nat.le_of_dvd (by omega) (Y9 _ _)) (YQ _ (by omega)))
 have h0:(mkRat (dy neg P) Q).num≠0:=by
  rw [n1];unfold dy;split <;> omega
 unfold c8 eG ju lF;rw [if_neg h0,if_neg h0,if_neg h0,n1,n2,sE]
 cases neg with
 | true=>
  rw [if_pos (show dy true (P / Nat.gcd P Q)<0 from Int.neg_neg_of_pos (Int.ofNat_lt.2 (YA hg)))];rfl
 | false=>
  rw [if_neg (show ¬ dy false (P / Nat.gcd P Q)<0 from Int.not_lt.2 (XW _))];rfl
theorem HP:c8 0=rA 0 none none:=rfl
attribute [local irreducible] bD
theorem Iy (G:List (List DV))(s:Int)(neg:Bool)(P Q:Nat)(p:Option (List Nat))(hp:dO p=aI 1000000000 P)(hs:P≠0→s=if neg then -1 else 1)(hQ:0<Q)(hPl:(aI 1000000000 P).length≤100000)(hQl:(aI 1000000000 Q).length≤100000) :
 aa Tryz.prog G 219 [.c (.d (.int .i64 s)),nK .i64 p,(nK .i64 (some (aI 1000000000 (Q))))] (c8 (mkRat (dy neg P) Q)):=by
 have oneG:=tq G;have cmG:=fun A B=>pn G A B
 by_cases hP0:P=0
 ·subst hP0;have e0:dO p=[]:=by rw [hp];exact OQ
  have e2:dy neg 0=0:=by cases neg <;> rfl
  have e1:mkRat (dy neg 0) Q=0:=by rw [e2];exact Za Q
  rw [e1,HP];refine aa.enc Tryz.func219 rfl (fun lv=>eW lv _ _ _) fun _=>aab ?_;refine aaa fun K hK=>aal e0 ?_;refine aah (aal @Sk ?_);refine aam ?_;refine bD.cell (T:=215) (t:=6) (k:=0) (off:=0) (own:=true) (fz:=false) (U:=215) (cs:=[.d (.int .i64 0),.d .nilsl,.d .nilsl]) rfl ?_ ?_ ?_
  ·simp
  ·simp [aj]
  ·rw [fQ,iN];rfl
 have hp1:p=some (aI 1000000000 P):=by
  cases p with
  | none=>exact absurd ((dI (by decide)).1 hp.symm) hP0
  | some l=>exact congrArg some hp
 subst hp1;have hs1:=hs hP0;have hs0:¬ s=0:=by rw [hs1];split <;> omega
 rw [L9 neg hP0 (by omega),← hs1];have hdv:=Bi G P Q (by omega) hQ hPl hQl;obtain⟨g,hg⟩:∃ g,Nat.gcd P Q=g:=⟨_,rfl⟩
 have hg0:0<g:=by rw [← hg];exact YQ _ (by omega)
 have hgl:(aI 1000000000 g).length≤100000:=WN (cR (by decide) (by rw [← hg];exact Nat.gcd_le_right _ hQ)) hQl;obtain⟨o1,hd1⟩:=Ab G P g hg0 hPl hgl;obtain⟨o2,hd2⟩:=Ab G Q g hg0 hQl hgl;rw [hg] at hdv ⊢;have hne:¬ aI 1000000000 P=[]:=fun e=>hP0 ((dI (by decide)).1 e)
 have c0:∀ A B,(dG A B=0)↔A=B:=fun A B=>by unfold dG;(repeat' split) <;> omega
 refine aa.enc Tryz.func219 rfl (fun lv=>eW lv _ _ _) fun _=>aab ?_;refine aaa fun K hK=>aas hne hs0 ?_;refine aag (aac (hK _ _ (aaa fun K hK=>?_)))
 by_cases h1:P=1
 ·have hc:=(c0 P 1).2 h1;have hg1:g=1:=by rw [← hg,h1,Nat.gcd_one_left]
  refine aak fun K1 hK1=>?_;simp;refine ag.p 1 9 oneG ?_;simp;refine ag.p 1 9 (cmG P 1) ?_;simp [hc];apply hK1;refine aah (aas @bR @fG ?_);refine aam ?_;refine bD.cell (T:=215) (t:=6) (k:=0) (off:=0) (own:=true) (fz:=false) (U:=215) (cs:=[.d (.int .i64 s),rC (some (aI 1000000000 P)),rC (some (aI 1000000000 Q))]) rfl ?_ ?_ ?_
  ·simp
  ·simp [aj]
  ·rw [fQ,iN];simp [hg1]
 have hc1:¬ dG P 1=0:=fun e=>h1 ((c0 P 1).1 e)
 by_cases h2:Q=1
 ·have hc:=(c0 Q 1).2 h2;have hg1:g=1:=by rw [← hg,h2,YR]
  refine aak fun K1 hK1=>?_;simp;refine ag.p 1 9 oneG ?_;simp;refine ag.p 1 9 (cmG P 1) ?_;simp [hc1];refine ag.p 1 9 oneG ?_;simp;refine ag.p 1 9 (cmG Q 1) ?_;simp [hc];apply hK1;refine aah (aas @bR @fG ?_);refine aam ?_;refine bD.cell (T:=215) (t:=6) (k:=0) (off:=0) (own:=true) (fz:=false) (U:=215) (cs:=[.d (.int .i64 s),rC (some (aI 1000000000 P)),rC (some (aI 1000000000 Q))]) rfl ?_ ?_ ?_
  ·simp
  ·simp [aj]
  ·rw [fQ,iN];simp [hg1]
 have hc2:¬ dG Q 1=0:=fun e=>h2 ((c0 Q 1).1 e)
 refine aak fun K1 hK1=>?_;simp;refine ag.p 1 9 oneG ?_;simp;refine ag.p 1 9 (cmG P 1) ?_;simp [hc1];refine ag.p 1 9 oneG ?_;simp;refine ag.p 1 9 (cmG Q 1) ?_;simp [hc2];apply hK1;refine aag (aac (hK _ _ (aaq 1 hdv ?_)));refine aaa fun K hK=>?_
 have fin:∀ (fr:Nat→AV) (κ:Nat),fr 0=.c (.d (.int .i64 s))→fr 1=(nK .i64 (some (aI 1000000000 (P / g))))→fr 2=(nK .i64 (some (aI 1000000000 (Q / g))))→fr 6=.c (.ptr 0 0) →
  K ⟨fr,aC (fun _=>.hole) 0 (.cells true false 215 [.d (.int .i64 0),.d .nilsl,.d .nilsl])⟩ κ:=by
  intro fr κ z0 z1 z2 z6;apply hK;refine AW.f6 z0 z1 z2 z6 @fG @bR ?_;refine aam ?_;refine bD.cell (T:=215) (t:=6) (k:=0) (off:=0) (own:=true) (fz:=false) (U:=215) (cs:=[.d (.int .i64 s),rC (some (aI 1000000000 (P / g))),rC (some (aI 1000000000 (Q / g)))]) rfl ?_ ?_ ?_
  ·simp [z6]
  ·simp [aj]
  ·rw [fQ,iN]
 by_cases hg1:g=1
 ·have hc:=(c0 g 1).2 hg1;refine aak fun K1 hK1=>?_;simp;refine ag.p 1 9 oneG ?_;simp;refine ag.p 1 9 (cmG g 1) ?_;simp [hc];apply hK1;refine aag (aac ?_);simp;exact fin _ _ (by simp) (by simp [hg1]) (by simp [hg1]) (by simp)
 ·have hc:¬ dG g 1=0:=fun e=>hg1 ((c0 g 1).1 e)
  refine aak fun K1 hK1=>?_;simp;refine ag.p 1 9 oneG ?_;simp;refine ag.p 1 9 (cmG g 1) ?_;simp [hc];apply hK1;refine aah (aak fun K1 hK1=>?_);simp;refine ag.pure 1 9 hd1 (qI _ _) (by simp) (by simp) ?_;simp;apply hK1;refine aae ?_;simp;refine ag.pure 1 9 hd2 (qI _ _) (by simp) (by simp) ?_;simp;exact fin _ _ (by simp) (by simp) (by simp) (by simp)
end Go.Am
namespace Go.Am
open Go.Am.Ty Go.Proofs N
attribute [local irreducible] bD
theorem vP (x:Rat):eG x=0∨eG x=1∨eG x = -1:=by unfold eG;split <;> (try split) <;> simp
theorem kC {x:Rat}:eG x=0↔x.num=0:=by unfold eG;split <;> (try split) <;> simp_all
theorem ot {x:Rat}(h:x.num≠0):eG x=if decide (x.num<0) then -1 else 1:=by
 unfold eG;rw [if_neg h];simp
theorem GH (x:Rat):(gJ x).num=(x.num.natAbs:Int)∧(gJ x).den=x.den:=by
 unfold gJ;split
 ·rename_i h
  have:x.num<0:=by
   have:=(Rat.lt_iff x 0).1 h;simpa using this
  rw [Rat.neg_num,Rat.neg_den];exact⟨by omega,rfl⟩
 ·rename_i h
  have:¬ x.num<0:=fun hn=>h ((Rat.lt_iff x 0).2 (by simpa using hn))
  exact⟨by omega,rfl⟩
theorem Lz (x:Rat):c8 (-x)=rA (-eG x) (ju x) (lF x):=by
 unfold c8 eG ju lF;rw [Rat.neg_num,Rat.neg_den,Int.natAbs_neg]
 by_cases h:x.num=0
 ·simp [h]
 ·by_cases h2:x.num<0
  ·have h3:¬ 0<x.num:=by omega
   simp [h,h2,h3]
  ·have h3:0<x.num:=by omega
   simp [h,h2,h3]
theorem KW (x:Rat):c8 (gJ x)=rA (eG x*eG x) (ju x) (lF x):=by
 obtain⟨e1,e2⟩:=GH x;unfold c8 eG ju lF;rw [e1,e2]
 by_cases h:x.num=0
 ·rw [if_pos h,if_pos h,if_pos h,if_pos (by omega),if_pos (by omega),if_pos (by omega)];rfl
 ·rw [if_neg h,if_neg h,if_neg h,if_neg (by omega),if_neg (by omega),if_neg (by omega),if_neg (by omega)];have e3:((x.num.natAbs:Int)).natAbs=x.num.natAbs:=by omega
  rw [e3]
  by_cases h2:x.num<0
  ·rw [if_pos h2];rfl
  ·rw [if_neg h2];rfl
theorem Jr {n L:Nat}(h:nl n≤L):(aI 1000000000 n).length≤2*L:=WN (OH n) (by omega)
theorem kB (G:List (List DV))(x:Rat):aa Tryz.prog G 249 [c8 x] (.c (rC (some (aI 1000000000 x.den)))):=by
 have:=B6 G (eG x) (ju x) (lF x)
 rwa [PN] at this
theorem gG (G:List (List DV))(p q:Option (List Nat))(A B L:Nat)(hp:dO p=aI 1000000000 A)(hq:dO q=aI 1000000000 B)(hA:nl A≤L)(hB:nl B≤L)(hL:L≤400000):aa Tryz.prog G 248 [.c (rC p),.c (rC q)] (.c (rC (some (aI 1000000000 (A*B))))):=by
 have h1:=Jr hA;have h2:=Jr hB;have h:=qW G p q (by rw [hp];exact (bp (by decide) _).1) (by rw [hq];exact (bp (by decide) _).1) (by rw [hp];omega) (by rw [hq];omega);rw [hp,hq,bk (by decide),bk (by decide)] at h;rw [← fG,← fG,← fG];exact h
theorem D5 (G:List (List DV))(A B L:Nat)(hA:nl A≤L)(hB:nl B≤L)(hL:L≤400000):aa Tryz.prog G 324 [.c (rC (some (aI 1000000000 A))),.c (rC (some (aI 1000000000 B)))] (.c (rC (some (aI 1000000000 (A+B))))):=by
 have h1:=Jr hA;have h2:=Jr hB;have:=zh G A B (by omega) (by omega);rw [fG,fG,fG] at this;exact this
theorem DM (G:List (List DV))(A B L:Nat)(hA:nl A≤L)(hL:L≤400000)(h:B≤A):aa Tryz.prog G 323 [.c (rC (some (aI 1000000000 A))),.c (rC (some (aI 1000000000 B)))] (.c (rC (some (aI 1000000000 (A - B))))):=by
 have h1:=Jr hA;have:=xZ G A B (by omega) h;rw [fG,fG,fG] at this;exact this
theorem wQ (G:List (List DV))(A B:Nat):aa Tryz.prog G 247 [.c (rC (some (aI 1000000000 A))),.c (rC (some (aI 1000000000 B)))] (.c (.d (.int .i64 (dG A B)))):=by
 have:=pn G A B;rw [fG,fG] at this;exact this
theorem sM (G:List (List DV))(s:Int)(neg:Bool)(P Q L:Nat)(p:Option (List Nat))(hp:dO p=aI 1000000000 P)(hs:P≠0→s=if neg then -1 else 1)(hQ:0<Q)(hP:nl P≤L)(hQl:nl Q≤L)(hL:L≤50000) :
 aa Tryz.prog G 219 [.c (.d (.int .i64 s)),.c (rC p),.c (rC (some (aI 1000000000 Q)))] (c8 (mkRat (dy neg P) Q)):=by
 have h1:=Jr hP;have h2:=Jr hQl;have:=Iy G s neg P Q p hp hs hQ (by omega) (by omega);rw [fG,fG] at this;exact this
theorem KB (G:List (List DV))(x:Rat):aa Tryz.prog G 270 [c8 x] (c8 (-x)):=by
 have hr:=vP x;have hw:=bG (n:=-eG x) (by omega) (by omega);rw [Lz];refine aa.enc Tryz.func270 rfl (fun lv=>eW lv _ _ _) fun _=>aab ?_;refine aas hw @bR ?_;refine aam ?_;refine bD.cell (T:=215) (t:=2) (k:=1) (off:=0) (own:=true) (fz:=false) (U:=215) (cs:=[.d (.int .i64 (-eG x)),rC (ju x),rC (lF x)]) rfl ?_ ?_ ?_
 ·simp
 ·simp [aj]
 ·rw [fQ,iN]
theorem xS (G:List (List DV))(x:Rat):aa Tryz.prog G 290 [c8 x] (c8 (gJ x)):=by
 have hr:=vP x;have hw:IntKind.i64.wrap (eG x*eG x)=eG x*eG x:=by rcases hr with h|h|h <;> rw [h] <;> rfl
 rw [KW];refine aa.enc Tryz.func290 rfl (fun lv=>eW lv _ _ _) fun _=>aab ?_;refine aas hw @bR ?_;refine aam ?_;refine bD.cell (T:=215) (t:=2) (k:=1) (off:=0) (own:=true) (fz:=false) (U:=215) (cs:=[.d (.int .i64 (eG x*eG x)),rC (ju x),rC (lF x)]) rfl ?_ ?_ ?_
 ·simp
 ·simp [aj]
 ·rw [fQ,iN]
theorem xo (G:List (List DV))(x:Rat):aa Tryz.prog G 218 [c8 x] (.c (.d (.bool (decide (x.den=1))))):=by
 have hb:=kB G x;have ho:=tq G;rw [fG] at ho;have hc:=wQ G x.den 1;have e:(dG x.den 1=0)↔x.den=1:=by unfold dG;(repeat' split) <;> omega
 refine aa.en Tryz.func218 rfl fun _=>aab ?_;refine aak fun K hK=>?_;simp;refine ag.p 1 9 hb ?_;simp;refine ag.p 1 9 ho ?_;simp;refine ag.p 1 9 hc ?_;simp;apply hK;exact aad (aq.rt (t:=2) rfl 9 (by simp [e]))
theorem G8 (x:Rat):sY (decide (x.num<0)) (cL x.num.natAbs)=eG x:=by
 unfold sY eG;rw [lA];simp only [dI (by decide:2≤4294967296),decide_eq_true_eq]
 by_cases h:x.num=0
 ·rw [if_pos (by omega),if_pos h]
 ·rw [if_neg (by omega),if_neg h]
theorem OX (x y:Rat):ia x y=if eG x<eG y then -1 else if eG y<eG x then 1 else eG x*dG (x.num.natAbs*y.den) (y.num.natAbs*x.den):=by
 rw [← GO];unfold PC;rw [G8,G8,nH,nH,s9,s9]
 by_cases h:eG x=eG y
 ·rw [if_pos h,if_neg (by omega),if_neg (by omega)]
 ·rw [if_neg h]
  by_cases h2:eG x<eG y
  ·rw [if_pos h2,if_pos h2]
  ·rw [if_neg h2,if_neg h2,if_pos (by omega)]
theorem sR (G:List (List DV))(x y:Rat)(hx:jv x 20000)(hy:jv y 20000):aa Tryz.prog G 169 [c8 x,c8 y] (.c (.d (.int .i64 (ia x y)))):=by
 have b1:=kB G x;have b2:=kB G y;have m1:=gG G (ju x) (some (aI 1000000000 y.den)) x.num.natAbs y.den 20000 (mS x) rfl hx.1 hy.2 (by decide);have m2:=gG G (ju y) (some (aI 1000000000 x.den)) y.num.natAbs x.den 20000 (mS y) rfl hy.1 hx.2 (by decide);have cc:=wQ G (x.num.natAbs*y.den) (y.num.natAbs*x.den);have hr:=OX x y
 have hw:IntKind.i64.wrap (eG x*dG (x.num.natAbs*y.den) (y.num.natAbs*x.den))=eG x*dG (x.num.natAbs*y.den) (y.num.natAbs*x.den):=by
  have h1:=Cq (x.num.natAbs*y.den) (y.num.natAbs*x.den);rcases vP x with h|h|h <;> rw [h] <;> exact bG (by omega) (by omega)
 rw [hr];refine aa.en Tryz.func169 rfl fun _=>aab ?_;refine aaa fun K hK=>aaf (aab ?_)
 by_cases h1:eG x<eG y
 ·refine aai (by simp [h1] <;> omega) (aab ?_);exact aad (aq.rt (t:=4) rfl 9 (by simp [h1]))
 ·refine aaj (by simp [h1] <;> omega) (aab ?_)
  by_cases h2:eG y<eG x
  ·refine aai (by simp [h2] <;> omega) (aab ?_);exact aad (aq.rt (t:=4) rfl 9 (by simp [h1,h2]))
  ·refine aaj (by simp [h2] <;> omega) (aac (hK _ _ (aaa fun K hK=>?_)));refine aap mixed (by kernel_rfl) rfl ?_;simp;refine ag.p 2 9 b2 ?_;simp;refine ag.p 2 9 m1 ?_;simp;refine ag.p 2 9 b1 ?_;simp;refine ag.p 2 9 m2 ?_;simp;refine ag.p 2 9 cc ?_;simp;simp [hw];refine⟨by kernel_rfl,?_⟩;apply hK;exact aad (aq.rt (t:=4) rfl 9 (by simp [h1,h2]))
end Go.Am
namespace Go.Am
open Go.Am.Ty Go.Proofs N
attribute [local irreducible] bD
theorem jP (lv:Key→LB)(s:Int)(p q:Option (List Nat))(n:Int):fR lv (.tup [rA s p q,.c (.d (.int .i64 n))])=some (.tup [rA s p q,.c (.d (.int .i64 n))],[]):=by
 cases p <;> cases q <;> rfl
theorem bD.ref {c:Ctx}{fn:Func}{z:Rat}{t k:Nat}{s:aB}{κ:Nat}(hr:fn.results=#[.cell t 215]) (ht:s.fr t=.c (.ptr k 0)) (hk:s.lv k=.cells true false 215 [.d (.int .i64 (eG z)),rC (ju z),rC (lF z)]) (hP:c.P=Tryz.prog):bD c fn (c8 z) .ret s κ:=
 bD.cell hr ht hk (by rw [fQ,hP,iN])
theorem Lv (G:List (List DV))(x y:Rat)(hx:jv x 10000)(hy:jv y 10000):aa Tryz.prog G 360 [c8 x,c8 y] (c8 (x+y)):=by
 have b1:=kB G x;have b2:=kB G y;have m1:=gG G (ju x) (some (aI 1000000000 y.den)) x.num.natAbs y.den 10000 (mS x) rfl hx.1 hy.2 (by decide);have m2:=gG G (ju y) (some (aI 1000000000 x.den)) y.num.natAbs x.den 10000 (mS y) rfl hy.1 hx.2 (by decide);have m3:=gG G (some (aI 1000000000 x.den)) (some (aI 1000000000 y.den)) x.den y.den 10000 rfl rfl hx.2 hy.2 (by decide);have l1:=fZ x.num.natAbs y.den;have l2:=fZ y.num.natAbs x.den;have l3:=fZ x.den y.den;have hq0:0<x.den*y.den:=XC x.den_pos y.den_pos;have hx1:=hx.1;have hx2:=hx.2;have hy1:=hy.1;have hy2:=hy.2;have zx:x.num.natAbs*y.den=0↔x.num=0:=by rw [Nat.mul_eq_zero];have:=y.den_nz;omega
 have zy:y.num.natAbs*x.den=0↔y.num=0:=by rw [Nat.mul_eq_zero];have:=x.den_nz;omega
 rw [Fh];generalize x.num.natAbs*y.den=A at *
 generalize y.num.natAbs*x.den=B at *
 generalize x.den*y.den=Q at *
 have ad:=D5 G A B 20000 (by omega) (by omega) (by decide);have l4:=FQ A B;have cm:=wQ G A B;have mk:=fun (s:Int) (neg:Bool) (P:Nat) (hs:P≠0→s=if neg then -1 else 1) (hP:nl P≤20001)=>sM G s neg P Q 20001 (some (aI 1000000000 P)) rfl hs hq0 hP (by omega) (by decide)
 have df1:A<B→_:=fun h=>DM G B A 20000 (by omega) (by decide) (XZ h)
 have df2:¬ A<B→_:=fun h=>DM G A B 20000 (by omega) (by decide) (Nat.not_lt.1 h)
 have nA:∀ n,n≤A→nl n≤20001:=fun n h=>by have:=kX h;omega
 have nB:∀ n,n≤B→nl n≤20001:=fun n h=>by have:=kX h;omega
 refine aa.enc Tryz.func360 rfl (fun lv=>eW lv _ _ _) fun _=>aab ?_;refine aaa fun K hK=>?_;refine aap mixed (by kernel_rfl) rfl ?_;simp;refine ag.p 3 9 b2 ?_;simp;refine ag.p 3 9 m1 ?_;simp;refine ag.p 3 9 b1 ?_;simp;refine ag.p 3 9 m2 ?_;simp;refine⟨by kernel_rfl,?_⟩;apply hK;refine aaa fun K hK=>?_;refine aap mixed (by kernel_rfl) rfl ?_;simp;refine ag.p 3 9 b1 ?_;simp;refine ag.p 3 9 b2 ?_;simp;refine ag.p 3 9 m3 ?_;simp;refine⟨by kernel_rfl,?_⟩;apply hK;refine aaa fun K hK=>aaa fun K1 hK1=>?_
 by_cases hs:eG x=0∨eG y=0∨eG x=eG y
 ·obtain⟨s,hse⟩:∃ s,(if eG x=0 then eG y else eG x)=s:=⟨_,rfl⟩
  obtain⟨neg,hn1,hn2⟩:∃ neg:Bool,(A+B≠0→s=if neg then -1 else 1)∧dy (decide (x.num<0)) A+dy (decide (y.num<0)) B=dy neg (A+B):=by
   by_cases hx0:x.num=0
   ·have hA:A=0:=zx.2 hx0;have hs1:s=eG y:=by rw [← hse,if_pos (kC.2 hx0)]
    refine⟨decide (y.num<0),fun h=>?_,?_⟩
    ·rw [hs1];exact ot (fun e=>h (by rw [hA,zy.2 e]))
    ·rw [hA,W5];have:dy (decide (x.num<0)) 0=0:=by unfold dy;split <;> rfl
     rw [this,Int.zero_add]
   ·have hs1:s=eG x:=by rw [← hse,if_neg (fun e=>hx0 (kC.1 e))]
    refine⟨decide (x.num<0),fun _=>?_,?_⟩
    ·rw [hs1];exact ot hx0
    ·by_cases hy0:y.num=0
     ·have hB:B=0:=zy.2 hy0;rw [hB,Xn];have:dy (decide (y.num<0)) 0=0:=by unfold dy;split <;> rfl
      rw [this,Int.add_zero]
     ·have he:eG x=eG y:=by
       rcases hs with h|h|h
       ·exact absurd (kC.1 h) hx0
       ·exact absurd (kC.1 h) hy0
       ·exact h
      rw [ot hx0,ot hy0] at he
      have hd:decide (x.num<0)=decide (y.num<0):=by
       cases h1:decide (x.num<0) <;> cases h2:decide (y.num<0) <;> simp [h1,h2] at he ⊢
      rw [hd,BB]
  have mk1:=mk s neg (A+B) hn1 (by omega);rw [← hn2] at mk1
  by_cases c1:eG x=0
  ·refine aat c1 (hK1 _ _ ?_);refine aah (aal c1 ?_);refine aaa fun K1 hK1=>aab ?_;refine aah ?_;rw [if_pos c1] at hse;refine aat hse (hK1 _ _ ?_);refine aak fun K1 hK1=>?_;simp;refine ag.p 3 9 ad ?_;simp;refine ag.p 3 9 mk1 ?_;simp;simp [aj];apply hK1;exact aam (bD.ref (k:=2) rfl (by simp) (by simp [aj]) rfl)
  ·rw [if_neg c1] at hse
   by_cases c2:eG y=0
   ·refine aau c1 c2 (hK1 _ _ ?_);refine aah (aal hse ?_);refine aaa fun K1 hK1=>aab ?_;have c3:¬ s=0:=by rw [← hse];exact c1
    refine aaj (by simp [c3] <;> omega) (aac (hK1 _ _ (aak fun K1 hK1=>?_)));simp;refine ag.p 3 9 ad ?_;simp;refine ag.p 3 9 mk1 ?_;simp;simp [aj];apply hK1;exact aam (bD.ref (k:=2) rfl (by simp) (by simp [aj]) rfl)
   ·have c4:eG x=eG y:=hs.elim (fun h=>absurd h c1) fun h=>h.elim (fun h=>absurd h c2) id
    have c5:eG y=s:=by rw [← c4];exact hse
    have c3:¬ s=0:=by rw [← hse];exact c1
    refine aae ?_;simp [c1,c2,hse,c5,c3];apply hK1;refine aah (aal hse ?_);refine aaa fun K1 hK1=>aab ?_;refine aaj (by simp [c3] <;> omega) (aac (hK1 _ _ (aak fun K1 hK1=>?_)));simp;refine ag.p 3 9 ad ?_;simp;refine ag.p 3 9 mk1 ?_;simp;simp [aj];apply hK1;exact aam (bD.ref (k:=2) rfl (by simp) (by simp [aj]) rfl)
 ·have c1:¬ eG x=0:=fun h=>hs (.inl h)
  have c2:¬ eG y=0:=fun h=>hs (.inr (.inl h))
  have c3:¬ eG x=eG y:=fun h=>hs (.inr (.inr h))
  have hx0:x.num≠0:=fun h=>c1 (kC.2 h)
  have hy0:y.num≠0:=fun h=>c2 (kC.2 h)
  have hne:decide (x.num<0)≠decide (y.num<0):=fun h=>c3 (by rw [ot hx0,ot hy0,h])
  refine aaB c1 c2 c3 (hK1 _ _ ?_);refine aag (aac (hK _ _ (aaa fun K hK=>aaa fun K1 hK1=>?_)))
  by_cases hlt:A<B
  ·have hc:dG A B<0:=by rw [jh hlt];omega
   have d1:=df1 hlt;have mk1:=mk (eG y) (decide (y.num<0)) (B - A) (fun _=>ot hy0) (nB _ (Nat.sub_le _ _));rw [← E1 hne hlt] at mk1;refine aax 3 cm hc (hK1 _ _ ?_);refine aah (aaa fun K1 hK1=>?_);refine aap mixed (by kernel_rfl) rfl ?_;simp;refine ag.p 3 9 d1 ?_;simp;refine ag.p 3 9 mk1 ?_;simp;simp [aj];refine⟨by kernel_rfl,?_⟩;apply hK1;exact aam (bD.ref (k:=2) rfl (by simp) (by simp [aj]) rfl)
  ·have hc:¬ dG A B<0:=by
    by_cases e:A=B
    ·rw [mo e];omega
    ·rw [jI (by omega)];omega
   have d1:=df2 hlt;have mk1:=mk (eG x) (decide (x.num<0)) (A - B) (fun _=>ot hx0) (nA _ (Nat.sub_le _ _));rw [← E8 hne hlt] at mk1;refine aax 3 cm hc (hK1 _ _ ?_);refine aag (aac (hK _ _ (aaa fun K hK=>?_)));refine aap mixed (by kernel_rfl) rfl ?_;simp;refine ag.p 3 9 d1 ?_;simp;refine ag.p 3 9 mk1 ?_;simp;simp [aj];refine⟨by kernel_rfl,?_⟩;apply hK;exact aam (bD.ref (k:=2) rfl (by simp) (by simp [aj]) rfl)
theorem Kz (G:List (List DV))(x y:Rat)(hx:jv x 10000)(hy:jv y 10000):aa Tryz.prog G 336 [c8 x,c8 y] (c8 (x - y)):=by
 have h1:=KB G y;have h2:=Lv G x (-y) hx (wq hy);rw [← Zp] at h2;refine aa.enc Tryz.func336 rfl (fun lv=>eW lv _ _ _) fun _=>aab ?_;refine aaa fun K hK=>?_;refine aap mixed (by kernel_rfl) rfl ?_;simp;refine ag.p 3 9 h1 ?_;simp;refine ag.p 3 9 h2 ?_;simp;simp [aj];refine⟨by kernel_rfl,?_⟩;apply hK;exact aam (bD.ref (k:=2) rfl (by simp) (by simp [aj]) rfl)
end Go.Am
namespace Go.Am
open Go.Am.Ty Go.Proofs N
attribute [local irreducible] bD
theorem NS {x:Rat}(h:x.num≠0):ju x=some (aI 1000000000 x.num.natAbs):=if_neg h
theorem AS {x:Rat}(h:x.num≠0):lF x=some (aI 1000000000 x.den):=if_neg h
theorem LK (G:List (List DV))(x y:Rat)(hx:jv x 10000)(hy:jv y 10000)(hy0:0<y.num) :
 aa Tryz.prog G 292 [c8 x,c8 y] (.tup [c8 (mkRat (dy (decide (x.num<0)) (x.num.natAbs*y.den)) (x.den*y.num.natAbs)),.c (.d (.int .i64 0))]):=by
 have hyn:y.num≠0:=by omega
 have b1:=kB G x;have m1:=gG G (ju x) (lF y) x.num.natAbs y.den 10000 (mS x) (by rw [AS hyn];rfl) hx.1 hy.2 (by decide);have m2:=gG G (some (aI 1000000000 x.den)) (ju y) x.den y.num.natAbs 10000 rfl (mS y) hx.2 hy.1 (by decide);have l1:=fZ x.num.natAbs y.den;have l2:=fZ x.den y.num.natAbs;have hx1:=hx.1;have hx2:=hx.2;have hy1:=hy.1;have hy2:=hy.2;have sy:eG y=1:=by unfold eG;rw [if_neg hyn,if_neg (by omega)]
 have sy0:¬ eG y=0:=by rw [sy];decide
 have hw:IntKind.i64.wrap (eG x*eG y)=eG x:=by
  rw [sy,Int.mul_one];rcases vP x with h|h|h <;> rw [h] <;> rfl
 have mk:=sM G (eG x) (decide (x.num<0)) (x.num.natAbs*y.den) (x.den*y.num.natAbs) 20000 (some (aI 1000000000 (x.num.natAbs*y.den))) rfl (fun h=>ot (fun e=>h (by rw [e];simp))) (XC x.den_pos (by omega)) (by omega) (by omega) (by decide);generalize mkRat (dy (decide (x.num<0)) (x.num.natAbs*y.den)) (x.den*y.num.natAbs)=z at *
 generalize x.num.natAbs*y.den=A at *
 generalize x.den*y.num.natAbs=B at *
 refine aa.enc Tryz.func292 rfl (fun lv=>jP lv _ _ _ _) fun _=>aab ?_;refine aaa fun K hK=>aab ?_;refine aaj (by simp [sy0] <;> omega) (aac (hK _ _ (aaa fun K hK=>?_)));refine aap mixed (by kernel_rfl) rfl ?_;simp [hw];refine ag.p 3 9 m1 ?_;simp;refine ag.p 3 9 b1 ?_;simp;refine ag.p 3 9 m2 ?_;simp;refine ag.p 3 9 mk ?_;simp [aj];refine⟨by kernel_rfl,?_⟩;apply hK;refine aam ?_;refine bD.hO (x:=c8 z) (y:=.c (.d (.int .i64 0))) (T:=215) (t:=4) (u:=5) (k:=2) (off:=0) (own:=true) (fz:=false) (U:=215) (cs:=[.d (.int .i64 (eG z)),rC (ju z),rC (lF z)]) rfl ?_ ?_ ?_ ?_ rfl rfl
 ·simp
 ·simp [aj]
 ·rw [fQ,iN]
 ·simp
theorem zW (m:Int):aa Tryz.prog (GG m) 154 [.c (.d (.int .i64 1))] (c8 1):=by
 have h:aa Tryz.prog (GG m) 154 [.c (.d (.int .i64 1))] (.agg [.d (.int .i64 1),.d (.sl [[.int .i64 1]]),.d (.sl [[.int .i64 1]])]):=aa.CH (AF m 60) (by kernel_rfl)
 have e:c8 1=.agg [.d (.int .i64 1),.d (.sl [[.int .i64 1]]),.d (.sl [[.int .i64 1]])]:=by
  show rA 1 (some (aI 1000000000 1)) (some (aI 1000000000 1))=_;rw [Px];rfl
 rw [e];exact h
theorem wz (G:List (List DV)):∀ (k:Nat),k≤100000→aa Tryz.prog G 361 [.c (.d (.int .i64 (k:Int)))] (.c (rC (some (aI 1000000000 (2 ^ k))))):=by
 intro k
 induction k using Nat.strongRecOn with
 | ind k ih=>
 intro hk;have ho:=tq G;rw [fG] at ho
 by_cases h0:k=0
 ·subst h0;have h0':((0:Nat):Int)=0:=rfl;refine aa.en Tryz.func361 rfl fun _=>aab ?_;refine aaa fun K hK=>aab ?_;refine aah (aaq 1 ho ?_);exact aad (aq.rt (t:=2) rfl 9 (by simp))
 have hk0:¬ (k:Int)=0:=by omega
 have ih2:=ih (k / 2) (by omega) (by omega);have e1:(k:Int).tdiv 2=((k / 2:Nat):Int):=mM k 2;have w1:=bG (n:=((k / 2:Nat):Int)) (by omega) (by omega);have e2:(k:Int).tmod 2=((k % 2:Nat):Int):=tN k 2;have n2:=nF (k / 2);have m1:=gG G (some (aI 1000000000 (2 ^ (k / 2)))) (some (aI 1000000000 (2 ^ (k / 2)))) (2 ^ (k / 2)) (2 ^ (k / 2)) 10000 rfl rfl (by omega) (by omega) (by decide);rw [← XE] at m1;have n3:=nF (k / 2+k / 2);have ad:=D5 G (2 ^ (k / 2+k / 2)) (2 ^ (k / 2+k / 2)) 10000 (by omega) (by omega) (by decide);have e3:2 ^ (k / 2+k / 2)+2 ^ (k / 2+k / 2)=2 ^ (k / 2+k / 2+1):=by rw [WU];omega
 rw [e3] at ad;refine aa.en Tryz.func361 rfl fun _=>aab ?_;refine aaa fun K hK=>aab ?_;refine aaj (by simp [h0,hk0] <;> omega) (aac (hK _ _ (aak fun K hK=>?_)));simp [e1,w1,-Int.natCast_ediv];refine ag.p 1 9 ih2 ?_;simp;apply hK;refine aaq 1 m1 ?_;refine aaa fun K hK=>aaa fun K1 hK1=>?_
 by_cases ho:k % 2=1
 ·have e4:k=k / 2+k / 2+1:=by omega
  have ho':(k:Int) % 2=1:=by omega
  refine aae ?_;simp [e2,ho,ho',-Int.natCast_emod];apply hK1;refine aai (by simp [ho,ho'] <;> omega) (AW.m0 1 ad (hK _ _ ?_));refine aab ?_;rw [← e4];exact aad (aq.rt (t:=2) rfl 9 (by simp))
 ·have e4:k=k / 2+k / 2:=by omega
  have ho':¬ (k:Int) % 2=1:=by omega
  refine aae ?_;simp [e2,ho,ho',-Int.natCast_emod];apply hK1;refine aaj (by simp [ho,ho'] <;> omega) (aac (hK _ _ (aab ?_)));rw [← e4];exact aad (aq.rt (t:=2) rfl 9 (by simp))
end Go.Am
namespace Go.Am
open Go.Am.Ty Go.Proofs N
attribute [local irreducible] bD
theorem wT (G:List (List DV))(x:Rat)(k:Int)(hx:jv x 10000)(h1:-20000≤k)(h2:k≤20000):aa Tryz.prog G 337 [c8 x,.c (.d (.int .i64 k))] (c8 (aM x k)):=by
 have b1:=kB G x;have hx1:=hx.1;have hx2:=hx.2
 by_cases hk:k<0
 ·have hsh:=gZ (x:=x) hk;obtain⟨j,hj⟩:∃ j:Nat,(-k).toNat=j:=⟨_,rfl⟩
  rw [hj] at hsh;have w1:IntKind.i64.wrap (-k)=(j:Int):=by rw [bG (by omega) (by omega)];omega
  have n1:=nF j;have pw:=wz G j (by omega);have m1:=gG G (some (aI 1000000000 x.den)) (some (aI 1000000000 (2 ^ j))) x.den (2 ^ j) 10000 rfl rfl hx2 (by omega) (by decide);have l1:=fZ x.den (2 ^ j);have mk:=sM G (eG x) (decide (x.num<0)) x.num.natAbs (x.den*2 ^ j) 20000 (ju x) (mS x) (fun h=>ot (by omega)) (XC x.den_pos (W3 (by decide))) (by omega) (by omega) (by decide);rw [← hsh] at mk;generalize 2 ^ j=T at *
  refine aa.enc Tryz.func337 rfl (fun lv=>eW lv _ _ _) fun _=>aab ?_;refine aaa fun K hK=>aab ?_;refine aai (by simp [hk] <;> omega) (aaa fun K1 hK1=>?_);refine aap mixed (by kernel_rfl) rfl ?_;simp;refine ag.p 2 9 b1 ?_;simp;simp [w1];refine ag.p 2 9 pw ?_;simp;refine ag.p 2 9 m1 ?_;simp;refine ag.p 2 9 mk ?_;simp [aj];refine⟨by kernel_rfl,?_⟩;apply hK1;exact aam (bD.ref (k:=1) rfl (by simp) (by simp [aj]) rfl)
 ·have hkn:k=((k.toNat:Nat):Int):=by omega
  have n1:=nF k.toNat;have pw:=wz G k.toNat (by omega);rw [← hkn] at pw;have m1:=gG G (ju x) (some (aI 1000000000 (2 ^ k.toNat))) x.num.natAbs (2 ^ k.toNat) 10000 (mS x) rfl hx1 (by omega) (by decide);have l1:=fZ x.num.natAbs (2 ^ k.toNat);have mk:=sM G (eG x) (decide (x.num<0)) (x.num.natAbs*2 ^ k.toNat) x.den 20000 (some (aI 1000000000 (x.num.natAbs*2 ^ k.toNat))) rfl (fun h=>ot (fun e=>h (by rw [e];simp))) x.den_pos (by omega) (by omega) (by decide);rw [← gW hk] at mk;generalize 2 ^ k.toNat=T at *
  refine aa.enc Tryz.func337 rfl (fun lv=>eW lv _ _ _) fun _=>aab ?_;refine aaa fun K hK=>aab ?_;refine aaj (by simp [hk] <;> omega) (aac (hK _ _ (aaa fun K hK=>?_)));refine aap mixed (by kernel_rfl) rfl ?_;simp;refine ag.p 2 9 pw ?_;simp;refine ag.p 2 9 m1 ?_;simp;refine ag.p 2 9 b1 ?_;simp;refine ag.p 2 9 mk ?_;simp [aj];refine⟨by kernel_rfl,?_⟩;apply hK;exact aam (bD.ref (k:=1) rfl (by simp) (by simp [aj]) rfl)
theorem nN (m:Int)(k:Int)(h1:-20000≤k)(h2:k≤20000):aa Tryz.prog (GG m) 295 [.c (.d (.int .i64 k))] (c8 (aM 1 k)):=by
 have i1:=zW m;have sh:=wT (GG m) 1 k (jl 10000 (by decide)) h1 h2;refine aa.enc Tryz.func295 rfl (fun lv=>eW lv _ _ _) fun _=>aab ?_;refine aak fun K hK=>?_;simp;refine ag.p 1 9 i1 ?_;simp;refine ag.p 1 9 sh ?_;simp [aj];apply hK;exact aam (bD.ref (k:=0) rfl (by simp) (by simp [aj]) rfl)
theorem FN {A k:Nat}:A<2 ^ k↔bh A≤k:=by
 constructor
 ·intro h
  by_cases h0:A=0
  ·subst h0;exact W2 _
  ·have h1:=jG h0;have:bh A - 1<k:=(Zg (by decide:1<2)).1 (XV h1 h);omega
 ·intro h;exact Xe (rR A) (Xr (by decide) h)
theorem AA {A n:Nat}(h:(aI 1000000000 A).length≤n):bh A≤30*n:=by
 rw [← FN,XX];exact Xe (qn (by decide)) (WN (Xr (by decide) h) (YC (by decide) _))
theorem M6 {A:Nat}:29*((aI 1000000000 A).length - 1)≤bh A:=by
 by_cases h0:aI 1000000000 A=[]
 ·rw [h0];exact W2 _
 ·have h1:=FJ (bp (B:=1000000000) (by decide) A) h0;rw [bk (by decide)] at h1
  have h2:2 ^ (29*((aI 1000000000 A).length - 1))≤A:=by
   rw [XX];exact WN (YC (by decide) _) h1
  by_cases h3:bh A≤29*((aI 1000000000 A).length - 1)
  ·have:=FN.2 h3;omega
  ·omega
theorem ux (G:List (List DV))(A:Nat)(hl:(aI 1000000000 A).length≤3000):aa Tryz.prog G 340 [(nK .i64 (some (aI 1000000000 (A))))] (.c (.d (.int .i64 (bh A)))):=by
 have hlo:=M6 (A:=A);have hhi:=AA (A:=A) (bg _);obtain⟨n,hn⟩:∃ n,(aI 1000000000 A).length=n:=⟨_,rfl⟩
 have pwG:=fun k (h:k≤100000)=>wz G k h
 have cmG:∀ k:Nat,aa Tryz.prog G 247 [(nK .i64 (some (aI 1000000000 (A)))),.c (rC (some (aI 1000000000 (2 ^ k))))] (.c (.d (.int .i64 (dG A (2 ^ k))))):=fun k=>by
  have:=pn G A (2 ^ k);rw [← fG];exact this
 have hln:∀ lv,eA Tryz.prog 213 lv (nK .i64 (some (aI 1000000000 (A))))=some (.c (.d (.int .i64 n)),[],[],True):=fun lv=>by
  have:=Cv (P:=Tryz.prog) (T:=213) (lv:=lv) (k:=.i64) (o:=some (aI 1000000000 A)) (by simp);rw [aV,hn] at this;exact this
 rw [hn] at hlo hhi hl;have e1:=bG (n:=(n:Int) - 1) (by omega) (by omega);have e2:=bG (n:=29*((n:Int) - 1)) (by omega) (by omega);have e3:IntKind.i64.wrap (30*(n:Int))=((30*n:Nat):Int):=by rw [bG (by omega) (by omega)];omega
 obtain⟨z,hz⟩:∃ z:Int,29*((n:Int) - 1)=z:=⟨_,rfl⟩
 rw [hz] at e2;have hmx:(if 0<z then z else 0)=((29*(n - 1):Nat):Int):=by split <;> omega
 have blI:=fun k=>FN (A:=A) (k:=k)
 generalize bh A=L at *
 refine aa.en Tryz.func340 rfl fun _=>aab ?_;refine aak fun K hK=>?_;simp [dh,hln,e1,hz,e2,e3,hmx,-Int.natCast_mul,-Cv];apply hK;refine aaa fun K hK=>aaf ?_
 refine aao (fun (p:Nat × Nat)=>⟨bf [(0,(nK .i64 (some (aI 1000000000 (A))))),(3,.c (.d (.int .i64 (p.1:Int)))),(4,.c (.d (.int .i64 (p.2:Int))))],fun _=>.hole⟩) 0
  (fun p=>p.1≤L∧L≤p.2∧p.2≤90000) (fun p=>p.2 - p.1) (29*(n - 1),30*n) (Le.mk' _ rfl aX (by simp)) ⟨hlo,hhi,by omega⟩ ?_
 rintro⟨lo,hi⟩ ⟨q1,q2,q3⟩;simp only at q1 q2 q3;refine aaa fun K2 hK2=>aab ?_
 by_cases hlh:lo<hi
 ·have u1:IntKind.i64.wrap ((lo:Int)+hi)=((lo+hi:Nat):Int):=by rw [bG (by omega) (by omega)];omega
  have u3:(((lo+hi:Nat):Int)).tdiv 2=(((lo+hi) / 2:Nat):Int):=mM _ 2;obtain⟨mi,hmi⟩:∃ mi,(lo+hi) / 2=mi:=⟨_,rfl⟩
  rw [hmi] at u3;have u4:=bG (n:=(mi:Int)) (by omega) (by omega);have u5:=bG (n:=(mi:Int)+1) (by omega) (by omega);have pw:=pwG mi (by omega);have cm:=cmG mi;have bi:=blI mi;refine aai (by simp [hlh] <;> omega) (aac (hK2 _ _ (aaf (aak fun K4 hK4=>?_))));simp [u1,u3,u4,-Int.natCast_add];apply hK4;refine aaa fun K4 hK4=>?_
  by_cases hc:dG A (2 ^ mi)<0
  ·have hle:L≤mi:=bi.1 (by by_cases h:A<2 ^ mi;exact h;exfalso;by_cases e:A=2 ^ mi;rw [mo e] at hc;omega;rw [jI (by omega)] at hc;omega);refine aae ?_;simp;refine ag.p 0 9 pw ?_;simp;refine ag.p 0 9 cm ?_;simp [hc];apply hK4;refine aah (aae ?_);simp;exact⟨lo,mi,Le.mk' _ rfl aX (by simp),⟨q1,hle,by omega⟩,by omega⟩
  ·have hle:¬ L≤mi:=fun h=>hc (by rw [jh (bi.2 h)];omega)
   have e:(mi:Int)+1=((mi+1:Nat):Int):=by omega
   refine aae ?_;simp;refine ag.p 0 9 pw ?_;simp;refine ag.p 0 9 cm ?_;simp [hc];apply hK4;refine aag (aae ?_);simp [u5];exact⟨mi+1,hi,Le.mk' _ rfl aX (by simp),⟨by omega,q2,q3⟩,by omega⟩
 ·obtain rfl:lo=L:=by omega
  refine aaj (by simp [hlh] <;> omega) (aan (hK _ _ (aab ?_)));exact aad (aq.rt (t:=2) rfl 9 (by simp))
end Go.Am
namespace Go.Am
open Go.Am.Ty Go.Proofs N
attribute [local irreducible] bD
theorem Ay (k:Int):(aM 1 k).num=((2 ^ (max k 0).toNat:Nat):Int)∧(aM 1 k).den=2 ^ (max (-k) 0).toNat:=by
 by_cases hk:k<0
 ·rw [gZ hk];obtain⟨n1,n2⟩:=iw (decide ((1:Rat).num<0)) (a:=(1:Rat).num.natAbs) (b:=(1:Rat).den*2 ^ (-k).toNat) (by have:=W3 (a:=2) (n:=(-k).toNat) (by decide);show 1*_≠0;omega);rw [n1,n2];have e1:(1:Rat).num.natAbs=1:=rfl;have e2:(1:Rat).den=1:=rfl;have e3:(max k 0).toNat=0:=by omega
  have e4:(max (-k) 0).toNat=(-k).toNat:=by omega
  rw [e1,e2,e3,e4,Nat.gcd_one_left,Xv];exact⟨rfl,X0 _⟩
 ·rw [gW hk];obtain⟨n1,n2⟩:=iw (decide ((1:Rat).num<0)) (a:=(1:Rat).num.natAbs*2 ^ k.toNat) (b:=(1:Rat).den) (by decide);rw [n1,n2];have e1:(1:Rat).num.natAbs=1:=rfl;have e2:(1:Rat).den=1:=rfl;have e3:(max k 0).toNat=k.toNat:=by omega
  have e4:(max (-k) 0).toNat=0:=by omega
  rw [e1,e2,e3,e4,YR,Xv,X0];exact⟨rfl,rfl⟩
theorem MW {x y:Rat}:ia x y<0↔x<y:=by
 unfold ia
 by_cases h:x<y
 ·rw [if_pos h];simp [h]
 ·rw [if_neg h];constructor
  ·intro h2;exfalso;split at h2 <;> omega
  ·intro h2;exact absurd h2 h
theorem qL (x:Rat)(k:Int):ia (gJ x) (aM 1 k)<0↔x.num.natAbs*2 ^ (max (-k) 0).toNat<x.den*2 ^ (max k 0).toNat:=by
 rw [MW,Fb];obtain⟨a1,a2⟩:=GH x;obtain⟨b1,b2⟩:=Ay k;rw [a1,a2,b1,b2];have e1:((x.num.natAbs:Nat):Int).natAbs=x.num.natAbs:=by omega
 have e2:(((2 ^ (max k 0).toNat:Nat)):Int).natAbs=2 ^ (max k 0).toNat:=Int.natAbs_natCast _;have e3:decide (((x.num.natAbs:Nat):Int)<0)=false:=decide_eq_false (by omega);have e4:decide ((((2 ^ (max k 0).toNat:Nat)):Int)<0)=false:=decide_eq_false (Int.not_lt.2 (XW _));rw [e1,e2,e3,e4,WT (2 ^ (max k 0).toNat)];show ((x.num.natAbs*2 ^ (max (-k) 0).toNat:Nat):Int)<((x.den*2 ^ (max k 0).toNat:Nat):Int)↔_;exact Int.ofNat_lt
theorem Ki (m:Int)(x:Rat)(hx0:x.num≠0)(hs:jv x 300):aa Tryz.prog (GG m) 296 [c8 x] (.c (.d (.int .i64 (fN x)))):=by
 have h1:=hs.1;have h2:=hs.2;have s1:=Jr h1;have s2:=Jr h2;have ln1:=ux (GG m) x.num.natAbs (by omega);have ln2:=ux (GG m) x.den (by omega);rw [fG,← NS hx0] at ln1;rw [fG,← AS hx0] at ln2;have b1:=AA (A:=x.num.natAbs) s1;have b2:=AA (A:=x.den) s2;have ab:=xS (GG m) x;obtain⟨k,hk⟩:∃ k:Int,(bh x.num.natAbs:Int) - bh x.den=k:=⟨_,rfl⟩
 have hkr:-20000≤k∧k≤20000:=by omega
 have tw:=nN m k hkr.1 hkr.2;have cm:=sR (GG m) (gJ x) (aM 1 k) (vX (bQ hs (by decide))) (bQ (iZ (jl 1 (by decide)) k) (by omega));have hlt:=qL x k;have hlog:fN x=if x.num.natAbs*2 ^ (max (-k) 0).toNat<x.den*2 ^ (max k 0).toNat then k - 1 else k:=by unfold fN;rw [hk]
 have w1:=bG (n:=k) (by omega) (by omega);have w2:=bG (n:=k - 1) (by omega) (by omega);rw [← hk] at w1;have sx:¬ eG x=0:=fun h=>hx0 (kC.1 h)
 generalize bh x.num.natAbs=B1 at *
 generalize bh x.den=B2 at *
 generalize aM 1 k=T at *
 generalize x.num.natAbs*2 ^ (max (-k) 0).toNat=U at *
 generalize x.den*2 ^ (max k 0).toNat=W at *
 rw [hk] at w1;refine aa.en Tryz.func296 rfl fun _=>aab ?_;refine aaa fun K hK=>aab ?_;refine aaj (by simp [sx] <;> omega) (aac (hK _ _ (aaa fun K hK=>?_)));refine aap mixed (by kernel_rfl) rfl ?_;simp;refine ag.p 2 9 ln1 ?_;simp;refine ag.p 2 9 ln2 ?_;simp;simp [hk,w1];refine⟨by kernel_rfl,?_⟩;apply hK;refine aaa fun K hK=>aaa fun K1 hK1=>?_
 by_cases hc:U<W
 ·have hc2:=hlt.2 hc;rw [if_pos hc] at hlog;refine aae ?_;simp;refine ag.p 2 9 ab ?_;simp;refine ag.p 2 9 tw ?_;simp;refine ag.p 2 9 cm ?_;simp [hc2];apply hK1;refine aah (aat w2 (hK _ _ ?_));refine aab ?_;exact aad (aq.rt (t:=2) rfl 9 (by simp [hlog]))
 ·have hc2:¬ ia (gJ x) T<0:=fun h=>hc (hlt.1 h)
  rw [if_neg hc] at hlog;refine aae ?_;simp;refine ag.p 2 9 ab ?_;simp;refine ag.p 2 9 tw ?_;simp;refine ag.p 2 9 cm ?_;simp [hc2];apply hK1;refine aag (aac (hK _ _ (aab ?_)));exact aad (aq.rt (t:=2) rfl 9 (by simp [hlog]))
end Go.Am
namespace Go.Am
open Go.Am.Ty Go.Proofs N
variable {e p:Int}{x:Rat}
attribute [local irreducible] bD
theorem uC (G:List (List DV))(e p:Int):aa Tryz.prog G 90 [.agg [.d (.int .i64 e),.d (.int .i64 p)]] (.c (.d (.int .i64 (fF e p)))):=by
 refine aa.en Tryz.func90 rfl fun _=>aab ?_;refine aaa fun K hK=>aaa fun K1 hK1=>?_
 have bad:∀ (fr:Nat→AV) (κ:Nat) (lv:Key→LB),lv 9=.hole→fr 28=.c (.d (.bool true))→fF e p=2→K1 ⟨fr,lv⟩ κ:=by
  intro fr κ lv h9 z hf;apply hK1;refine aai (by simp [z] <;> omega) (aab ?_);exact aam (κ:=0) (aq.tmp (κ:=0) rfl 9 (by simp [hf]) rfl (by simp [h9]) rfl)
 by_cases h1:e<2
 ·refine aae ?_;simp [h1];exact bad _ _ _ (by simp) (by simp) (by unfold fF;rw [if_pos (by omega)])
 by_cases h2:11<e
 ·refine aae ?_;simp [h1,h2];exact bad _ _ _ (by simp) (by simp) (by unfold fF;rw [if_pos (by omega)])
 by_cases h3:p<2
 ·refine aae ?_;simp [h1,h2,h3];exact bad _ _ _ (by simp) (by simp) (by unfold fF;rw [if_pos (by omega)])
 by_cases h4:113<p
 ·refine aae ?_;simp [h1,h2,h3,h4];exact bad _ _ _ (by simp) (by simp) (by unfold fF;rw [if_pos (by omega)])
 have hw:IntKind.i64.wrap (e+p)=e+p:=bG (by omega) (by omega)
 by_cases h5:e+p<5
 ·refine aae ?_;simp [h1,h2,h3,h4,hw,h5];exact bad _ _ _ (by simp) (by simp) (by unfold fF;rw [if_pos (by omega)])
 refine aae ?_;simp [h1,h2,h3,h4,hw,h5];apply hK1;refine aag (aac (hK _ _ (aab ?_)));have hf:fF e p=0:=by unfold fF;rw [if_neg (by omega)]
 exact aad (aq.rt rfl 9 (by simp [hf]))
theorem tM (G:List (List DV))(e p:Int)(h1:2≤e)(h2:e≤11):aa Tryz.prog G 338 [fA e p] (.c (.d (.int .i64 (bu e)))):=by
 obtain⟨n,hn⟩:∃ n:Nat,e=(n:Int):=⟨e.toNat,by omega⟩
 have hb:bu e=((2 ^ (n - 1):Nat):Int) - 1:=by
  unfold bu;rw [hn,show ((n:Int) - 1).toNat=n - 1 by omega];simp
 have hp:∀ i,i≤10→2 ^ i≤1024:=fun i h=>Xr (by decide) h
 rw [hb];refine aa.en Tryz.func338 rfl fun _=>aab ?_;refine aab ?_;refine aaa fun K hK=>aab ?_;refine aaf ?_
 refine aao (fun (i:Nat)=>⟨bf [(1,.c (.ptr 0 0)),(3,.c (.d (.int .i64 ((2 ^ i:Nat):Int)))),(4,.c (.d (.int .i64 ((i+1:Nat):Int))))],aC (fun _=>.hole) 0 (.cells true false 81 [.d (.int .i64 e),.d (.int .i64 p)])⟩) 1
  (fun i=>i+1≤n) (fun i=>n - i) 0 (Le.mk' _ rfl (by simp) (by simp)) (by omega) ?_
 intro i hi
 try simp only at hi
 have hpi:=hp i (by omega);have hpi1:2*2 ^ i=2 ^ (i+1):=by rw [WU,WT]
 obtain⟨T,hT⟩:∃ T,2 ^ i=T:=⟨_,rfl⟩
 rw [hT] at hpi hpi1;simp only [hT];have w1:IntKind.i64.wrap (2*(T:Int))=((2 ^ (i+1):Nat):Int):=by rw [bG (by omega) (by omega),← hpi1];omega
 have w2:IntKind.i64.wrap (((i+1:Nat):Int)+1)=((i+1+1:Nat):Int):=by rw [bG (by omega) (by omega)];omega
 have w3:=bG (n:=(T:Int) - 1) (by omega) (by omega);refine aaa fun K3 hK3=>aak fun K4 hK4=>?_;simp [-Int.natCast_add];apply hK4
 by_cases hlt:i+1<n
 ·have hlt':((i+1:Nat):Int)<e:=by omega
  refine aai (by simp [hlt',-Int.natCast_add] <;> omega) (aac (hK3 _ _ (aaa fun K5 hK5=>aaf (aae ?_))));simp [w1,-Int.natCast_pow,-Int.natCast_add];apply hK5;refine aae ?_;simp [w2,-Int.natCast_pow,-Int.natCast_add];have w2':=bG (n:=(i:Int)+1+1) (by omega) (by omega);exact⟨i+1,Le.mk' _ rfl (by simp) (by simp [w2']),by omega,by omega⟩
 ·have hlt':¬ ((i+1:Nat):Int)<e:=by omega
  have e1:n - 1=i:=by omega
  refine aaj (by simp [hlt',-Int.natCast_add] <;> omega) (aan (hK _ _ (aal w3 ?_)));rw [e1,hT];exact aad (aq.rt (t:=2) rfl 9 (by simp))
theorem qx(h:fF e p=0):1≤bu e∧bu e≤1023:=by
 obtain⟨h1,h2,_⟩:=ji h;obtain⟨a,b,_⟩:=uj h1 h2;exact⟨a,b⟩
theorem Fa (m:Int)(e p:Int)(hf:fF e p=0):aa Tryz.prog (GG m) 294 [fA e p] (c8 (aM 1 (2 - bu e - p))):=by
 obtain⟨h1,h2,h3,h4,_⟩:=ji hf;obtain⟨b1,b2⟩:=qx hf;have bb:=tM (GG m) e p h1 h2;generalize bu e=b at *
 have w1:=bG (n:=2 - b) (by omega) (by omega);have w2:=bG (n:=2 - b - p) (by omega) (by omega);have tw:=nN m (2 - b - p) (by omega) (by omega);refine aa.enc Tryz.func294 rfl (fun lv=>eW lv _ _ _) fun _=>aab ?_;refine aaa fun K hK=>?_;refine aap mixed (by kernel_rfl) rfl ?_;simp;refine ag.p 2 9 bb ?_;simp [w1,w2];refine ag.p 2 9 tw ?_;simp [aj];refine⟨by kernel_rfl,?_⟩;apply hK;exact aam (bD.ref (k:=1) rfl (by simp) (by simp [aj]) rfl)
theorem C4 (m:Int)(e p:Int)(hf:fF e p=0):aa Tryz.prog (GG m) 339 [fA e p] (c8 (aM 1 (1 - bu e))):=by
 obtain⟨h1,h2,h3,h4,_⟩:=ji hf;obtain⟨b1,b2⟩:=qx hf;have bb:=tM (GG m) e p h1 h2;generalize bu e=b at *
 have w1:=bG (n:=1 - b) (by omega) (by omega);have tw:=nN m (1 - b) (by omega) (by omega);refine aa.enc Tryz.func339 rfl (fun lv=>eW lv _ _ _) fun _=>aab ?_;refine aak fun K hK=>?_;simp;refine ag.p 2 9 bb ?_;simp [w1];refine ag.p 2 9 tw ?_;simp [aj];apply hK;exact aam (bD.ref (k:=1) rfl (by simp) (by simp [aj]) rfl)
theorem yN (m:Int)(e p:Int)(hf:fF e p=0):aa Tryz.prog (GG m) 291 [fA e p] (c8 (eL p (bu e))):=by
 obtain⟨h1,h2,h3,h4,_⟩:=ji hf;obtain⟨b1,b2⟩:=qx hf;have bb:=tM (GG m) e p h1 h2;have tw:=nN m p (by omega) (by omega);have i1:=zW m;have sb:=Kz (GG m) (aM 1 p) 1 (bQ (iZ (jl 1 (by decide)) p) (by omega)) (jl _ (by decide));have sg:=qF p (by omega) (by omega);have sh:=wT (GG m) (aM 1 p - 1) (bu e - p+1) (bQ sg (by decide)) (by omega) (by omega);have hgr:aM (aM 1 p - 1) (bu e - p+1)=eL p (bu e):=rfl;rw [hgr] at sh;generalize eL p (bu e)=g at *
 generalize aM 1 p - 1=g1 at *
 generalize aM 1 p=g2 at *
 generalize bu e=b at *
 have w1:=bG (n:=b - p) (by omega) (by omega);have w2:=bG (n:=b - p+1) (by omega) (by omega);refine aa.enc Tryz.func291 rfl (fun lv=>eW lv _ _ _) fun _=>aab ?_;refine aak fun K hK=>?_;simp;refine ag.p 2 9 tw ?_;simp;refine ag.p 2 9 i1 ?_;simp;refine ag.p 2 9 sb ?_;simp [aj];apply hK;refine aaa fun K hK=>?_;refine aap mixed (by kernel_rfl) rfl ?_;simp;refine ag.p 3 9 bb ?_;simp [w1,w2];refine ag.p 3 9 sh ?_;simp [aj];refine⟨by kernel_rfl,?_⟩;apply hK;exact aam (bD.ref (k:=1) rfl (by simp) (by simp [aj]) rfl)
theorem E4 (m:Int)(e p:Int)(hf:fF e p=0)(x:Rat)(hx:jv x 300):aa Tryz.prog (GG m) 293 [fA e p,c8 x] (.c (.d (.bool (decide (ia (gJ x) (aM 1 (1 - bu e))<0))))):=by
 obtain⟨b1,b2⟩:=qx hf;have ab:=xS (GG m) x;have nm:=C4 m e p hf;have cm:=sR (GG m) (gJ x) (aM 1 (1 - bu e)) (vX (bQ hx (by decide))) (bQ (iZ (jl 1 (by decide)) _) (by omega));generalize aM 1 (1 - bu e)=g at *
 refine aa.en Tryz.func293 rfl fun _=>aab ?_;refine aaa fun K hK=>?_;refine aap mixed (by kernel_rfl) rfl ?_;simp;refine ag.p 2 9 ab ?_;simp;refine ag.p 2 9 nm ?_;simp;refine ag.p 2 9 cm ?_;simp;refine⟨by kernel_rfl,?_⟩;apply hK;exact aad (aq.rt (t:=4) rfl 9 (by simp))
theorem CS (m:Int)(e p:Int)(hf:fF e p=0)(x:Rat)(hx:jv x 300):aa Tryz.prog (GG m) 244 [fA e p,c8 x] (.c (.d (.bool (decide (0<ia (gJ x) (eL p (bu e))))))):=by
 obtain⟨h1,h2,h3,h4,_⟩:=ji hf;obtain⟨b1,b2⟩:=qx hf;have ab:=xS (GG m) x;have nm:=yN m e p hf;have cm:=sR (GG m) (gJ x) (eL p (bu e)) (vX (bQ hx (by decide))) (bQ (zI p (bu e) (by omega) (by omega) (by omega) (by omega)) (by omega));generalize eL p (bu e)=g at *
 refine aa.en Tryz.func244 rfl fun _=>aab ?_;refine aaa fun K hK=>?_;refine aap mixed (by kernel_rfl) rfl ?_;simp;refine ag.p 2 9 ab ?_;simp;refine ag.p 2 9 nm ?_;simp;refine ag.p 2 9 cm ?_;simp;refine⟨by kernel_rfl,?_⟩;apply hK;exact aad (aq.rt (t:=4) rfl 9 (by simp))
def jD (e p:Int)(x:Rat):Int:=if ia (gJ x) (aM 1 (1 - bu e))<0 then 2 - bu e - p else fN x - p+1
theorem CB(h:x.num=0) (k:Int):ia (gJ x) (aM 1 k)<0:=by
 rw [qL];have:x.num.natAbs=0:=by omega
 rw [this,Nat.zero_mul];exact XC x.den_pos (W3 (by decide))
theorem Ia(hf:fF e p=0) (hx:jv x 300):-15000≤jD e p x∧jD e p x≤15000:=by
 obtain⟨h1,h2,h3,h4,_⟩:=ji hf;obtain⟨b1,b2⟩:=qx hf;unfold jD;split
 ·omega
 ·rename_i h
  have hx0:x≠0:=fun e=>h (CB (Rat.num_eq_zero.2 e) _)
  have:=yd hx0 hx;omega
theorem G9 (m:Int)(e p:Int)(hf:fF e p=0)(x:Rat)(hx:jv x 300):aa Tryz.prog (GG m) 246 [fA e p,c8 x] (c8 (aM 1 (jD e p x))):=by
 obtain⟨h1,h2,h3,h4,_⟩:=ji hf;obtain⟨b1,b2⟩:=qx hf;have bl:=E4 m e p hf x hx;have ls:=Fa m e p hf
 by_cases hb:ia (gJ x) (aM 1 (1 - bu e))<0
 ·have hs:jD e p x=2 - bu e - p:=if_pos hb;rw [hs];generalize aM 1 (2 - bu e - p)=g at *
  refine aa.enc Tryz.func246 rfl (fun lv=>eW lv _ _ _) fun _=>aab ?_;refine aaa fun K hK=>aav 3 bl hb ?_;refine aah (aav 3 ls @aj.eq_1 ?_);exact aam (bD.ref (k:=2) rfl (by simp) (by simp [aj]) rfl)
 ·have hs:jD e p x=fN x - p+1:=if_neg hb;have hx0:x.num≠0:=fun h=>hb (CB h _)
  have hl:=yd (fun e=>hx0 (Rat.num_eq_zero.2 e)) hx;have lg:=Ki m x hx0 hx;have tw:=nN m (fN x - p+1) (by omega) (by omega);have w1:=bG (n:=fN x - p) (by omega) (by omega);have w2:=bG (n:=fN x - p+1) (by omega) (by omega);rw [hs];generalize aM 1 (fN x - p+1)=g at *
  generalize fN x=l at *
  refine aa.enc Tryz.func246 rfl (fun lv=>eW lv _ _ _) fun _=>aab ?_;refine aaa fun K hK=>aav 3 bl hb ?_;refine aag (aac (hK _ _ (aaa fun K hK=>?_)));refine aap mixed (by kernel_rfl) rfl ?_;simp;refine ag.p 3 9 lg ?_;simp [w1,w2];refine ag.p 3 9 tw ?_;simp [aj];refine⟨by kernel_rfl,?_⟩;apply hK;exact aam (bD.ref (k:=2) rfl (by simp) (by simp [aj]) rfl)
theorem M5 (x:Rat)(k:Int):mkRat (dy (decide (x.num<0)) (x.num.natAbs*(aM 1 k).den)) (x.den*(aM 1 k).num.natAbs)=aM x (-k):=by
 obtain⟨b1,b2⟩:=Ay k;have e2:(((2 ^ (max k 0).toNat:Nat)):Int).natAbs=2 ^ (max k 0).toNat:=Int.natAbs_natCast _;rw [b1,b2,e2]
 by_cases hk:-k<0
 ·rw [gZ hk,show (max (-k) 0).toNat=0 by omega,show (max k 0).toNat=(- -k).toNat by omega,Yz,XB]
 ·rw [gW hk,show (max (-k) 0).toNat=(-k).toNat by omega,show (max k 0).toNat=0 by omega,Yz,XB]
theorem Hh (G:List (List DV))(x:Rat)(k:Int)(hx:jv x 300)(h1:-15000≤k)(h2:k≤15000):aa Tryz.prog G 245 [c8 x,c8 (aM 1 k)] (c8 (aM x (-k))):=by
 have q:=LK G x (aM 1 k) (bQ hx (by decide)) (bQ (iZ (jl 1 (by decide)) k) (by omega)) (by rw [(Ay k).1];exact Int.natCast_pos.2 (W3 (by decide)));rw [M5] at q;generalize aM 1 k=y at *
 generalize aM x (-k)=z at *
 refine aa.enc Tryz.func245 rfl (fun lv=>eW lv _ _ _) fun _=>aab ?_;refine aav 3 q @aj.eq_1 ?_;refine aal @aj.eq_1 ?_;exact aam (bD.ref (k:=2) rfl (by simp) (by simp [aj]) rfl)
end Go.Am
namespace Go.Am
open Go.Am.Ty Go.Proofs N
variable {n d κ:Nat}{s l T:List UInt8}{x y z u:AV}{neg:Bool}{k e:Int}{c:Ctx}{fn:Func}
def E9 (n d:Nat)(k:Int):Prop:=n*2 ^ (max (-k) 0).toNat<d*2 ^ (max k 0).toNat
theorem JR(h:E9 n d k):E9 n d (k+1):=by
 unfold E9 at *
 by_cases hk:0≤k
 ·obtain⟨j,hj⟩:∃ j:Nat,k=j:=⟨k.toNat,by omega⟩
  subst hj;rw [show (max (-(j:Int)) 0).toNat=0 by omega,show (max (j:Int) 0).toNat=j by omega] at h;rw [show (max (-((j:Int)+1)) 0).toNat=0 by omega,show (max ((j:Int)+1) 0).toNat=j+1 by omega,WU,← WV];have:=Zn (d*2 ^ j) (by decide:0<2);omega
 ·obtain⟨j,hj⟩:∃ j:Nat,k = -((j:Int)+1):=⟨(-k - 1).toNat,by omega⟩
  subst hj;rw [show (max (-(-((j:Int)+1))) 0).toNat=j+1 by omega,show (max (-((j:Int)+1)) 0).toNat=0 by omega,WU,← WV] at h;rw [show (max (-(-((j:Int)+1)+1)) 0).toNat=j by omega,show (max (-((j:Int)+1)+1) 0).toNat=0 by omega];have:=Zn (n*2 ^ j) (by decide:0<2);omega
theorem GQ {n d:Nat}{k:Int}(h:E9 n d k):∀ j:Nat,E9 n d (k+j)
 | 0=>by simpa using h
 | j+1=>by
  have:=JR (GQ h j)
  rwa [show k+((j+1:Nat):Int)=k+(j:Int)+1 by omega]
theorem r8{l:Int}(h:E9 n d k) (hl:k≤l):E9 n d l:=by
 have:=GQ h (l - k).toNat
 rwa [show k+((l - k).toNat:Int)=l by omega] at this
theorem Nh(hd:d≠0):E9 n d ((bh n:Int) - bh d+1):=by
 have h1:=rR n;have h2:=jG hd;have h3:1≤bh d:=by unfold bh;rw [if_neg hd];omega
 unfold E9;generalize bh n=a at *
 generalize bh d=b at *
 by_cases hk:b≤a+1
 ·rw [show (max (-((a:Int) - b+1)) 0).toNat=0 by omega,show (max ((a:Int) - b+1) 0).toNat=a+1 - b by omega,Yz,XB];have h4:2 ^ (b - 1)*2 ^ (a+1 - b)≤d*2 ^ (a+1 - b):=WZ _ h2;rw [← XE,show b - 1+(a+1 - b)=a by omega] at h4;omega
 ·rw [show (max (-((a:Int) - b+1)) 0).toNat=b - a - 1 by omega,show (max ((a:Int) - b+1) 0).toNat=0 by omega,Yz,XB];have h4:n*2 ^ (b - a - 1)<2 ^ a*2 ^ (b - a - 1):=Zv h1 (W3 (by decide));rw [← XE,show a+(b - a - 1)=b - 1 by omega] at h4;omega
theorem Mi(hn:n≠0):¬ E9 n d ((bh n:Int) - bh d - 1):=by
 have h1:=rR d;have h2:=jG hn;have h3:1≤bh n:=by unfold bh;rw [if_neg hn];omega
 unfold E9;generalize bh n=a at *
 generalize bh d=b at *
 rw [Nat.not_lt]
 by_cases hk:b+1≤a
 ·rw [show (max (-((a:Int) - b - 1)) 0).toNat=0 by omega,show (max ((a:Int) - b - 1) 0).toNat=a - b - 1 by omega,Yz,XB];have h4:d*2 ^ (a - b - 1)≤2 ^ b*2 ^ (a - b - 1):=WZ _ (XZ h1);rw [← XE,show b+(a - b - 1)=a - 1 by omega] at h4;omega
 ·rw [show (max (-((a:Int) - b - 1)) 0).toNat=b+1 - a by omega,show (max ((a:Int) - b - 1) 0).toNat=0 by omega,Yz,XB];have h4:2 ^ (a - 1)*2 ^ (b+1 - a)≤n*2 ^ (b+1 - a):=WZ _ h2;rw [← XE,show a - 1+(b+1 - a)=b by omega] at h4;omega
theorem NJ {x:Rat}(hx:x.num≠0) (k:Int):ia (gJ x) (aM 1 k)<0↔fN x<k:=by
 rw [qL];show E9 x.num.natAbs x.den k↔_;have ht:=Nh (n:=x.num.natAbs) x.den_nz;have hb:=Mi (n:=x.num.natAbs) (d:=x.den) (by omega)
 have hl:(E9 x.num.natAbs x.den ((bh x.num.natAbs:Int) - bh x.den)∧fN x=(bh x.num.natAbs:Int) - bh x.den - 1)∨(¬ E9 x.num.natAbs x.den ((bh x.num.natAbs:Int) - bh x.den)∧fN x=(bh x.num.natAbs:Int) - bh x.den):=by
  unfold fN
  by_cases h:E9 x.num.natAbs x.den ((bh x.num.natAbs:Int) - bh x.den)
  ·exact .inl ⟨h,if_pos h⟩
  ·exact .inr ⟨h,if_neg h⟩
 generalize (bh x.num.natAbs:Int) - bh x.den=q at *
 rcases hl with ⟨h1,h2⟩|⟨h1,h2⟩ <;> rw [h2]
 ·constructor
  ·intro h;apply Xq;intro hn;exact hb (r8 h (by omega))
  ·intro h;exact r8 h1 (by omega)
 ·constructor
  ·intro h;apply Xq;intro hn;exact h1 (r8 h (by omega))
  ·intro h;exact r8 ht (by omega)
theorem Hx {x:Rat}(h:0≤x.num) (k:Int):0≤(aM x k).num:=by
 have hd:decide (x.num<0)=false:=decide_eq_false (by omega)
 by_cases hk:k<0
 ·rw [gZ hk,hd,(iw false (qu x _)).1];exact XW _
 ·rw [gW hk,hd,(iw false x.den_nz).1];exact XW _
theorem Ji (p b:Int)(hp:0≤p):0≤(eL p b).num:=by
 refine Hx ?_ _;rw [Rat.num_nonneg,Zp]
 have h1:¬ aM 1 p<1:=by
  rw [Fb];obtain⟨b1,b2⟩:=Ay p;rw [b1,b2];have e2:(((2 ^ (max p 0).toNat:Nat)):Int).natAbs=2 ^ (max p 0).toNat:=Int.natAbs_natCast _;have e4:decide ((((2 ^ (max p 0).toNat:Nat)):Int)<0)=false:=decide_eq_false (Int.not_lt.2 (XW _));rw [e2,e4,show (max (-p) 0).toNat=0 by omega];show ¬ ((2 ^ (max p 0).toNat*1:Nat):Int)<((1*2 ^ 0:Nat):Int)
  have:=W3 (a:=2) (n:=(max p 0).toNat) (by decide);omega
 have h2:(1:Rat)≤aM 1 p:=Rat.not_lt.1 h1;have h3:=Rat.add_le_add_right (c:=-1) |>.2 h2
 rwa [Rat.add_neg_cancel] at h3
theorem has_eq {p:Int}(hf:fF e p=0) (x:Rat):hasB e p x=(decide (¬ 0<ia (gJ x) (eL p (bu e))) && decide ((aM x (-(jD e p x))).den=1)):=by
 obtain⟨h1,h2,h3,h4,_⟩:=ji hf;unfold hasB;rw [decide_eq_true hf,Bool.true_and]
 by_cases hx:x=0
 ·subst hx
  have e1:aM 0 (-(jD e p 0))=0:=by
   by_cases hk:-(jD e p 0)<0
   ·rw [gZ hk];exact Za _
   ·rw [gW hk,show (0:Rat).num.natAbs*2 ^ (-(jD e p 0)).toNat=0 from Nat.zero_mul _];exact Za _
  have e2:¬ 0<ia (gJ 0) (eL p (bu e)):=by
   have hg:=Ji p (bu e) (by omega);have:gJ 0=0:=by unfold gJ;rw [if_neg (by decide)]
   rw [this];intro h;unfold ia at h;have h5:¬ eL p (bu e)<0:=Rat.not_lt.2 (Rat.num_nonneg.1 hg);rw [if_neg h5] at h;split at h <;> omega
  rw [e1,decide_eq_true (by rfl:(0:Rat)=0),decide_eq_true e2];rfl
 ·have hx0:x.num≠0:=fun h=>hx (Rat.num_eq_zero.1 h)
  have hs:jD e p x=jt p (bu e) (fN x):=by
   unfold jD jt;have:=NJ hx0 (1 - bu e)
   by_cases hb:ia (gJ x) (aM 1 (1 - bu e))<0
   ·rw [if_pos hb];have:=this.1 hb;omega
   ·rw [if_neg hb];have h6:¬ fN x<1 - bu e:=fun h=>hb (this.2 h);omega
  rw [decide_eq_false hx,Bool.false_or,hs,Bool.and_comm];congr 1;exact decide_eq_decide.2 (by omega)
theorem DZ (m:Int)(e p:Int)(x:Rat)(hx:jv x 300):aa Tryz.prog (GG m) 168 [fA e p,c8 x] (.c (.d (.bool (hasB e p x)))):=by
 have ck:=uC (GG m) e p
 by_cases hf:fF e p=0
 rotate_left
 ·have hh:hasB e p x=false:=by unfold hasB;rw [decide_eq_false hf];rfl
  rw [hh];refine aa.en Tryz.func168 rfl fun _=>aab ?_;refine aaa fun K hK=>?_;refine aap mixed (by kernel_rfl) rfl ?_;simp;refine ag.p 2 9 ck ?_;simp [hf];refine⟨by kernel_rfl,?_⟩;apply hK;exact aad (aq.rt (t:=4) rfl 9 (by simp))
 have by':=CS m e p hf x hx;have st:=G9 m e p hf x hx;have sr:=Ia hf hx;have ov:=Hh (GG m) x (jD e p x) hx (by omega) (by omega);have ii:=xo (GG m) (aM x (-(jD e p x)));rw [has_eq hf];generalize aM 1 (jD e p x)=y at *
 generalize aM x (-(jD e p x))=z at *
 generalize ia (gJ x) (eL p (bu e))=c at *
 by_cases hc:0<c
 ·refine aa.en Tryz.func168 rfl fun _=>aab ?_;refine aaa fun K hK=>?_;refine aap mixed (by kernel_rfl) rfl ?_;simp;refine ag.p 2 9 ck ?_;simp [hf];refine ag.p 2 9 by' ?_;simp [hc];refine⟨by kernel_rfl,?_⟩;apply hK;exact aad (aq.rt (t:=4) rfl 9 (by simp [hc]))
 ·refine aa.en Tryz.func168 rfl fun _=>aab ?_;refine aaa fun K hK=>?_;refine aap mixed (by kernel_rfl) rfl ?_;simp;refine ag.p 2 9 ck ?_;simp [hf];refine ag.p 2 9 by' ?_;simp [hc];refine ag.p 2 9 st ?_;simp;refine ag.p 2 9 ov ?_;simp;refine ag.p 2 9 ii ?_;simp;refine⟨by kernel_rfl,?_⟩;apply hK;exact aad (aq.rt (t:=4) rfl 9 (by simp [hc]))
theorem JZ (c:UInt8):jy c=true↔48≤c.toNat∧c.toNat≤57:=by simp [jy]
theorem PZ(h:∀ x∈l,jy x=true):l.dropWhile jy=[]:=by
 induction l with
 | nil=>rfl
 | cons a l ih=>rw [List.dropWhile_cons,if_pos (h a (by simp))];exact ih fun x hx=>h x (by simp [hx])
theorem Ea(h:vI s):rM s=[]:=by
 have h1:s.reverse.dropWhile jy=[]:=PZ fun x hx=>(JZ x).2 (h x (List.mem_reverse.1 hx))
 unfold rM jB;rw [h1];rfl
def isRow (s:List UInt8):Prop:=vI s∧s≠[]∧(s=[48]∨s.getD 0 0≠48)
theorem om:eM s=true↔isRow s:=by
 constructor
 ·intro h;obtain⟨h1,h2⟩:=nw h;unfold eM at h;simp only [cn,Xl,W8,decide_eq_true_eq,decide_eq_false_iff_not] at h;exact⟨h1,h2,h.2⟩
 ·rintro⟨h1,h2,h3⟩;unfold eM;rw [decide_eq_false h2,decide_eq_true (Ea h1)];rcases h3 with h3|h3
  ·rw [decide_eq_true h3];rfl
  ·rw [decide_eq_false h3];simp
theorem Wx{i:Nat}(h:i<s.length):s.getD i 0=s[i]:=by rw [WO,rP h];rfl
theorem I3 (G:List (List DV))(s:List UInt8):aa Tryz.prog G 288 [.c (.d (.str s))] (.c (.d (.bool (eM s)))):=by
 refine aF.jq 0 (by simp) (fun V v h=>(show s.length≤9223372036854775807 by cases h.1 with|str _ hl=>exact hl)) fun hs=>?_;refine aa.en Tryz.func288 rfl fun _=>aab ?_;refine aaa fun K hK=>aab ?_;refine aaf ?_;refine aao (fun (i:Nat)=>⟨bf [(0,.c (.d (.str s))),(3,.c (.d (.int .i64 (i:Int))))],fun _=>.hole⟩) 0 (fun i=>i≤s.length∧vI (s.take i)) (fun i=>s.length - i) 0 (Le.mk' _ rfl aX (by simp)) ⟨W2 _,fun c hc=>by simp at hc⟩ ?_;rintro i ⟨hi,hd⟩;refine aaa fun K3 hK3=>aab ?_
 by_cases hlt:i<s.length
 ·have hlt':(i:Int)<(s.length:Int):=by omega
  have wi:=bG (n:=(i:Int)+1) (by omega) (by omega);have hg:=Wx hlt;have hg2:s[i]?.getD 0=s[i]:=by rw [rP hlt];rfl
  obtain⟨c,hc⟩:∃ c,s[i]=c:=⟨_,rfl⟩
  rw [hc] at hg hg2;have hcm:c∈s:=by rw [← hc];exact aW hlt
  have bad:¬ (48≤c.toNat∧c.toNat≤57)→eM s=false:=fun h=>by
   cases hr:eM s with
   | false=>rfl
   | true=>exact absurd ((om.1 hr).1 c hcm) h
  refine aai (by simp [hlt] <;> omega) (aac (hK3 _ _ (aaa fun K5 hK5=>aaf (aaa fun K6 hK6=>?_))))
  by_cases c1:c.toNat<48
  ·have c1':(c.toNat:Int)<48:=by omega
   refine aae ?_;simp [hlt,hlt',hc,c1,c1'];apply hK6;refine aah (aab ?_);exact aad (aq.rt (t:=2) rfl 9 (by simp [(bad (by omega))]))
  ·have c1':¬ (c.toNat:Int)<48:=by omega
   by_cases c2:57<c.toNat
   ·have c2':(57:Int)<(c.toNat:Int):=by omega
    refine aae ?_;simp [hlt,hlt',hc,c1,c1',c2,c2'];apply hK6;refine aah (aab ?_);exact aad (aq.rt (t:=2) rfl 9 (by simp [(bad (by omega))]))
   ·have c2':¬ (57:Int)<(c.toNat:Int):=by omega
    refine aae ?_;simp [hlt,hlt',hc,c1,c1',c2,c2'];apply hK6;refine aag (aac (hK5 _ _ (aae ?_)));simp [wi];refine⟨i+1,Le.mk' _ rfl aX (by simp),⟨by omega,?_⟩,by omega⟩;intro x hx;rw [YK,rP hlt,XF] at hx;rcases hx with hx|hx
    ·exact hd x hx
    ·simp only [Option.toList_some,Xx] at hx;rw [hx,hc];omega
 ·have he:i=s.length:=by omega
  subst he;rw [List.take_length] at hd;refine aaj (by simp [hlt] <;> omega) (aan (hK _ _ (aaa fun K hK=>?_)))
  cases s with
  | nil=>
   refine aaA (hK _ _ ?_);exact aad (aq.rt (t:=2) rfl 9 (by simp [eM]))
  | cons a l=>
   have hrow:eM (a::l)=(decide (a::l=[48]) || !decide (a=48)):=by
    unfold eM;rw [decide_eq_true (Ea hd)];simp
   have ha:((a.toNat:Int)=48)↔a=48:=by
    constructor
    ·intro h;exact UInt8.toNat_inj.1 (by show a.toNat=48;omega)
    ·intro h;subst h;rfl
   have hpos:(0:Int)<((l.length:Int)+1):=by omega
   by_cases h0:a::l=[48]
   ·obtain⟨rfl,rfl⟩:=List.cons.inj h0;refine aat @eqStr (hK _ _ ?_);exact aad (aq.rt (t:=2) rfl 9 (by simp [hrow]))
   ·refine aae ?_;simp [eqStr,h0,hpos];apply hK;exact aad (aq.rt (t:=2) rfl 9 (by simp [hrow,h0,ha]))
def IM (l:List Nat):LB:=if l=[] then .hole else .cells true false 2 (wK .i64 l)
def LZ (l:List Nat):AV:=if l=[] then .c (.d .nilsl) else .c (.aR 0 0 l.length 1)
theorem PR {lv:Key→LB}{k:Key}(h:lv k=.hole):aC lv k .hole=lv:=by
 funext j;unfold aC;split
 ·rename_i e;rw [e,h]
 ·rfl
theorem Uv (j:Nat):10 ^ (9*j)=1000000000 ^ j:=by rw [XX]
theorem B0(h:vI s) (n:Nat):vI (s.take n):=fun c hc=>h c (X9 hc)
theorem Ce(h:vI s) (n:Nat):vI (s.drop n):=fun c hc=>h c (X3 hc)
theorem zf (G:List (List DV))(s:List UInt8)(hd:vI s)(hne:s≠[])(hl:s.length≤100000):aa Tryz.prog G 243 [.c (.d (.str s))] (nK .i64 (some (aI 1000000000 (aO s 0)))):=by
 have hbs:∀ (lv:Key→LB) (h:lv 1=.hole) (a:CV),au Tryz.prog 213 1 [0] lv 1 [.c a]=some (.c (.aR 1 0 1 1),[(1,.cells true false 2 [a])],[],True):=fun lv h a=>CL lv 1 h a
 refine aa.Ol Tryz.func243 rfl fun _=>aab ?_;refine aab ?_;refine aaa fun K hK=>aab ?_;refine aaf ?_
 refine aao (fun (p:List Nat)=>⟨bf [(0,.c (.d (.str s))),(3,LZ p),(4,.c (.d (.int .i64 ((s.length:Int) - 9*(p.length:Int)))))],aC (fun _=>.hole) 0 (IM p)⟩) 1
  (fun p=>ok 1000000000 p∧val 1000000000 p=aO (s.drop (s.length - 9*p.length)) 0∧(9*p.length<s.length+9)) (fun p=>s.length+9 - 9*p.length) [] (Le.mk' _ (PR rfl).symm aX (by simp [LZ])) ⟨b9 _,by simp [aO],by simp⟩ ?_
 rintro p ⟨h1,h2,h3⟩;obtain⟨z,hz⟩:∃ z:Int,(s.length:Int) - 9*(p.length:Int)=z:=⟨_,rfl⟩
 simp only [hz];refine aaa fun K3 hK3=>aab ?_
 by_cases hgo:0<z
 ·obtain⟨i,rfl⟩:∃ i:Nat,z=i:=⟨z.toNat,by omega⟩
  have hi:s.length - 9*p.length=i:=by omega
  have hil:i≤s.length:=by omega
  rw [hi] at h2;obtain⟨lo,hlo⟩:∃ lo,i - 9=lo:=⟨_,rfl⟩
  obtain⟨y,hy⟩:∃ y:Int,(i:Int) - 9=y:=⟨_,rfl⟩
  have w1:IntKind.i64.wrap ((i:Int) - 9)=y:=by rw [bG (by omega) (by omega)];exact hy
  have hmx:(if y<0 then 0 else y)=(lo:Int):=by split <;> omega
  have w9:=bG (n:=(i:Int) - 9) (by omega) (by omega);rw [hy] at w9;refine aai (by simp [hgo] <;> omega) (aac (hK3 _ _ (aaa fun K5 hK5=>aaf (aab ?_))));refine aaa fun K6 hK6=>aak fun K7 hK7=>?_;simp [dh,w1,hmx];apply hK7;refine aaf ?_
  refine aao (fun (k:Nat)=>⟨bf [(0,.c (.d (.str s))),(3,LZ p),(4,.c (.d (.int .i64 (i:Int)))),(5,.c (.d (.int .i64 ((aO ((s.take k).drop lo) 0:Nat):Int)))),(6,.c (.d (.int .i64 (k:Int))))],aC (fun _=>.hole) 0 (IM p)⟩) 1
   (fun k=>lo≤k∧k≤i) (fun k=>i - k) lo (Le.keys [(0,0,IM p)] 19 _ rfl rfl (by simp) (by simp) (by simp) ?_ ?_) ⟨bg _,by omega⟩ ?_
  ·intro e he;simp only [WM,Xh,or_false] at he;subst he;simp only [aA];unfold IM;split
   ·rfl
   ·exact j9 .i64 2 p _
  ·have e0:List.drop lo (List.take lo s)=[]:=Ye (by rw [WR];omega);simp [e0,aO,c7];unfold LZ;split <;> simp [c7]
  rintro k ⟨k1,k2⟩;refine aaa fun K8 hK8=>aab ?_
  by_cases hlk:k<i
  ·have hks:k<s.length:=by omega
   have hks':(k:Int)<(s.length:Int):=by omega
   obtain⟨c,hc⟩:∃ c,s[k]=c:=⟨_,rfl⟩
   have hcd:=hd c (by rw [← hc];exact aW hks);have hlt:=mO (Ce (B0 hd k) lo);have hln:(List.drop lo (List.take k s)).length=k - lo:=by rw [XU,WR];omega
   have hp9:10 ^ (List.drop lo (List.take k s)).length≤10 ^ 8:=Xr (by decide) (by omega)
   have hnx:aO ((s.take (k+1)).drop lo) 0=10*aO ((s.take k).drop lo) 0+(c.toNat - 48):=by
    have e:(s.take (k+1)).drop lo=(s.take k).drop lo++[c]:=by
     rw [YK,rP hks,hc,List.drop_append,show lo - (List.take k s).length=0 by rw [WR];omega];rfl
    rw [e,kD];rfl
   obtain⟨N0,hN0e⟩:∃ N0,aO ((s.take k).drop lo) 0=N0:=⟨_,rfl⟩
   obtain⟨N1,hN1e⟩:∃ N1,aO ((s.take (k+1)).drop lo) 0=N1:=⟨_,rfl⟩
   rw [hN0e] at hlt hnx;rw [hN1e] at hnx;simp only [hN0e];have hN0:N0≤100000000:=by omega
   have v1:IntKind.i64.wrap (10*(N0:Int))=((10*N0:Nat):Int):=by rw [bG (by omega) (by omega)];omega
   have v2:IntKind.u8.wrap ((c.toNat:Int) - 48)=((c.toNat - 48:Nat):Int):=by rw [cC ⟨by simp only [zH];omega,by simp only [pF];omega⟩];omega
   have v3:=bG (n:=((c.toNat - 48:Nat):Int)) (by omega) (by omega);have v4:IntKind.i64.wrap (((10*N0:Nat):Int)+((c.toNat - 48:Nat):Int))=(N1:Int):=by rw [bG (by omega) (by omega)];omega
   have v5:=bG (n:=(k:Int)+1) (by omega) (by omega);refine aai (by simp [hlk] <;> omega) (aac (hK8 _ _ (aaa fun K9 hK9=>aaf (aae ?_))));simp [hks,hks',hc,v1,v2,v3,v4,-Int.natCast_mul];apply hK9;refine aae ?_;simp [v5];refine⟨k+1,Le.keys [(0,0,IM p)] 19 _ rfl rfl (by simp) (by simp) (by simp) ?_ ?_,⟨by omega,by omega⟩,by omega⟩
   ·intro e he;simp only [WM,Xh,or_false] at he;subst he;simp only [aA];unfold IM;split
    ·rfl
    ·exact j9 .i64 2 p _
   ·simp [c7,hN1e];unfold LZ;split <;> simp [c7]
  ·obtain rfl:k=i:=by omega
   refine aaj (by simp [hlk] <;> omega) (aan (hK6 _ _ ?_));refine aaz 1 ?_;have hlt:=mO (Ce (B0 hd k) lo);have hln:(List.drop lo (List.take k s)).length=k - lo:=by rw [XU,WR];omega
   have hp9:10 ^ (List.drop lo (List.take k s)).length≤10 ^ 9:=Xr (by decide) (by omega)
   have hv:aO (s.drop lo) 0=aO ((s.take k).drop lo) 0*1000000000 ^ p.length+aO (s.drop k) 0:=by
    have e:s.drop lo=(s.take k).drop lo++s.drop k:=by
     conv=>lhs;rw [← Ys k s]
     rw [List.drop_append,show lo - (List.take k s).length=0 by rw [WR];omega];rfl
    have e2:(s.drop k).length=9*p.length:=by rw [XU];omega
    rw [e,kD,ff,e2,Uv]
   have hz2:(s.length:Int) - 9*(((p.length+1:Nat)):Int)=y:=by omega
   have hz3:s.length - 9*(p.length+1)=lo:=by omega
   obtain⟨N,hN⟩:∃ N,aO ((s.take k).drop lo) 0=N:=⟨_,rfl⟩
   simp only [hN] at hlt hv ⊢;have hok:ok 1000000000 (p++[N]):=b8.2 ⟨h1,bx.2 ⟨by omega,b9 _⟩⟩
   have hvl:val 1000000000 (p++[N])=aO (s.drop (s.length - 9*(p++[N]).length)) 0:=by
    rw [WW,Xy,hz3,eK,h2,hv,WT];omega
   have hB1:IM (p++[N])=.cells true false 2 (wK .i64 (p++[N])):=if_neg (by simp);have hV1:LZ (p++[N])=.c (.aR 0 0 (p.length+1) 1):=by unfold LZ;rw [if_neg (by simp)];simp
   by_cases hp:p=[]
   ·subst hp;refine aae ?_;simp [LZ,IM,hbs,dY,keyOf,-au];apply hK5;refine aae ?_;simp [w1];refine⟨[]++[N],Le.keys [(0,2,IM ([]++[N]))] 19 _ rfl rfl (by simp) (by simp) (by simp) ?_ ?_,⟨hok,hvl,by simp <;> omega⟩,by simp <;> omega⟩
    ·intro e he;simp only [WM,Xh,or_false] at he;subst he;rw [hB1];simpa [wK] using j9 .i64 2 ([]++[N]) _
    ·rw [hV1];have hz2':(s.length:Int) - 9=y:=by simpa using hz2
     simp [c7,hz2']
   ·have hB0:IM p=.cells true false 2 (wK .i64 p):=if_neg hp;have hV0:LZ p=.c (.aR 0 0 p.length 1):=if_neg hp;refine aae ?_;simp [hB0,hV0,hbs,dY,keyOf,AY,-au]
    repeat refine ah ?_
    apply hK5;refine aae ?_;simp [w1];refine⟨p++[N],Le.keys [(0,2,IM (p++[N]))] 19 _ rfl rfl (by simp) (by simp) (by simp) ?_ ?_,⟨hok,hvl,by simp;omega⟩,by simp;omega⟩
    ·intro e he;simp only [WM,Xh,or_false] at he;subst he;rw [hB1];simpa using j9 .i64 2 (p++[N]) _
    ·rw [hV1];have hz2':(s.length:Int) - 9*((p.length:Int)+1)=y:=by simpa using hz2
     simp [c7,hz2']
 ·have hp:p≠[]:=by
   intro e;subst e;have:=List.length_pos_iff.2 hne;simp at hz;omega
  have hB0:IM p=.cells true false 2 (wK .i64 p):=if_neg hp;have hV0:LZ p=.c (.aR 0 0 p.length 1):=if_neg hp;have h0:s.length - 9*p.length=0:=by omega
  rw [h0,fQ] at h2;have hout:cS p=aI 1000000000 (aO s 0):=dB (by decide) h1 h2;rw [hB0,hV0];refine aaj (by simp [hgo] <;> omega) (aan (hK _ _ (aak fun K hK=>?_)));simp;refine fS.pz (T:=2) (k:=.i64) (l:=p) 1 9 0 (by simp) (by omega) (iY _ _ (by omega)) (by simp) (by simp) (by simp) ?_;simp;apply hK;exact aad (aq.rt (t:=2) rfl 9 (by simp [hout]))
def HZ (d:Nat):UInt8:=UInt8.ofNat (48+d)
theorem kN(h:d<10):(HZ d).toNat=48+d:=by simp [HZ];omega
theorem Lh {c:UInt8}(h:48≤c.toNat∧c.toNat≤57):HZ (c.toNat - 48)=c:=UInt8.toNat_inj.1 (by rw [kN (by omega)];omega)
def CO (n:Nat):Nat→List UInt8
 | 0=>[]
 | i+1=>HZ (n / 10 ^ i % 10)::CO n i
theorem vR (n:Nat):∀ i,(CO n i).length=i
 | 0=>rfl
 | i+1=>by rw [CO,Xi,vR n i]
theorem N6 (n:Nat):∀ i,vI (CO n i)
 | 0=>fun c hc=>by cases hc
 | i+1=>fun c hc=>by
  rw [CO] at hc;rcases List.mem_cons.1 hc with rfl|hc
  ·rw [kN (by omega)];omega
  ·exact N6 n i c hc
theorem N3 (n:Nat):∀ i,aO (CO n i) 0=n % 10 ^ i
 | 0=>by simp [CO,aO,Nat.mod_one]
 | i+1=>by
  have ih:=N3 n i
  have e:aO (CO n (i+1)) 0=(n / 10 ^ i % 10)*10 ^ i+n % 10 ^ i:=by
   rw [CO];show aO (CO n i) (10*0+((HZ (n / 10 ^ i % 10)).toNat - 48))=_;rw [ff,ih,vR,kN (by omega),XI,W5,XN]
  rw [e,WU,Nat.mod_mul,WT,XL]
theorem rB (s t:List UInt8):aH Tryz.prog .add 9 (.c (.d (.str s))) (.c (.d (.str t)))=some (.c (.d (.str (s++t))),[],[],s.length+t.length≤9223372036854775807):=by
 simp [aH,Jx,qk]
theorem Pb:eP Tryz.prog 138=some (5,1):=by simp
theorem Q9 (lv:Key→LB)(κ:Key)(h:lv κ=.hole)(a:CV):au Tryz.prog 138 1 [0] lv κ [.c a]=some (.c (.aR κ 0 1 1),[(κ,.cells true false 5 [a])],[],True):=by
 unfold au;rw [h];kernel_rfl
theorem HN (G:List (List DV))(n:Nat)(hn:n<1000000000):aa Tryz.prog G 273 [.c (.d (.int .i64 (n:Int)))] (.c (.d (.str (CO n 9)))):=by
 have hbs:∀ (lv:Key→LB) (h:lv 0=.hole) (a:CV),au Tryz.prog 138 1 [0] lv 0 [.c a]=some (.c (.aR 0 0 1 1),[(0,.cells true false 5 [a])],[],True):=fun lv h a=>Q9 lv 0 h a
 refine aa.Ol Tryz.func273 rfl fun _=>aab ?_;refine aab ?_;refine aaa fun K hK=>aab ?_;refine aaf ?_;refine aao (fun (i:Nat)=>⟨bf [(0,.c (.d (.int .i64 ((n / 10 ^ i:Nat):Int)))),(3,.c (.d (.str (CO n i)))),(4,.c (.d (.int .i64 (i:Int))))],fun _=>.hole⟩) 0 (fun i=>i≤9) (fun i=>9 - i) 0 (Le.mk' _ rfl aX (by simp [CO])) (by omega) ?_;intro i hi
 try simp only at hi
 have hle:n / 10 ^ i≤n:=YP _ _;have hnx:n / 10 ^ (i+1)=n / 10 ^ i / 10:=by rw [WU,Zm]
 have hds:CO n (i+1)=HZ (n / 10 ^ i % 10)::CO n i:=rfl;have hdl:=vR n i;obtain⟨q,hq⟩:∃ q,n / 10 ^ i=q:=⟨_,rfl⟩
 obtain⟨T,hT⟩:∃ T,CO n i=T:=⟨_,rfl⟩
 rw [hq] at hle hnx hds;rw [hT] at hds hdl;simp only [hq,hT];refine aaa fun K3 hK3=>aab ?_
 by_cases hlt:i<9
 ·have hlt':(i:Int)<9:=by omega
  have e1:(q:Int).tmod 10=((q % 10:Nat):Int):=tN q 10;have e2:IntKind.i64.wrap (48+((q % 10:Nat):Int))=((48+q % 10:Nat):Int):=by rw [bG (by omega) (by omega)];omega
  have e3:IntKind.u8.wrap ((48+q % 10:Nat):Int)=((48+q % 10:Nat):Int):=cC ⟨by simp only [zH];omega,by simp only [pF];omega⟩;have e4:(q:Int).tdiv 10=((q / 10:Nat):Int):=mM q 10;have w4:=bG (n:=((q / 10:Nat):Int)) (by omega) (by omega);have w5:=bG (n:=(i:Int)+1) (by omega) (by omega);refine aai (by simp [hlt,hlt'] <;> omega) (aac (hK3 _ _ (aaa fun K5 hK5=>aaf (aaa fun K6 hK6=>?_))));refine AW.wj ?_;refine nq.run 5 rfl ?_;simp [e1,e2,e3,hbs,-au,-Int.natCast_add,-Int.natCast_emod];refine nq.IT (κ:=0) (off:=0) (own:=true) (fz:=false) (T':=5) (e:=5) (cs:=[.d (.int .u8 ((48+q % 10:Nat):Int))]) (n:=((48+q % 10:Nat):Int)) 1 rfl rfl rfl (by simp) (by simp) (by simp) Pb Tryz.underlying5 (by simp) ?_;refine nq.run 3 rfl ?_;simp [rB]
  repeat refine ah ?_
  refine nq.done ?_;apply hK6;refine aae ?_;simp [e4,w4,-Int.natCast_ediv];apply hK5;refine aae ?_;simp [w5];refine⟨i+1,Le.keys [] 19 _ rfl rfl (by simp) (by simp) (by simp) (by simp) ?_,by omega,by omega⟩
  have f0:(q:Int) / 10=(n:Int) / 10 ^ (i+1):=by
   have:=congrArg (fun x:Nat=>(x:Int)) hnx;simpa using this.symm
  have f1:(48+(q:Int) % 10).toNat=48+q % 10:=by omega
  simp [c7,hds,HZ];exact⟨f0,by rw [f1];simp⟩
 ·obtain rfl:i=9:=by omega
  refine aaj (by simp [hlt] <;> omega) (aan (hK _ _ (aab ?_)));exact aad (aq.rt (t:=2) rfl 9 (by simp [hT]))
def tP:Nat→Nat→List UInt8
 | 0,n=>[HZ n]
 | f+1,n=>if n<10 then [HZ n] else tP f (n / 10)++[HZ (n % 10)]
def iV (n:Nat):List UInt8:=tP n n
theorem Ba:∀ (f n:Nat),n≤f→tP f n=iV n
 | 0,n,h=>by have:n=0:=by omega
             subst this;rfl
 | f+1,n,h=>by
  unfold iV
  by_cases h10:n<10
  ·cases n with
   | zero=>rfl
   | succ n=>rw [tP,if_pos h10,tP,if_pos h10]
  ·obtain⟨m,rfl⟩:∃ m,n=m+1:=⟨n - 1,by omega⟩
   rw [tP,if_neg h10,tP,if_neg h10,Ba f ((m+1) / 10) (by omega),Ba m ((m+1) / 10) (by omega)]
theorem Gu(h:n<10):iV n=[HZ n]:=by
 unfold iV
 cases n with
 | zero=>rfl
 | succ n=>rw [tP,if_pos h]
theorem GI(h:¬ n<10):iV n=iV (n / 10)++[HZ (n % 10)]:=by
 obtain⟨m,rfl⟩:∃ m,n=m+1:=⟨n - 1,by omega⟩
 conv=>lhs;unfold iV
 rw [tP,if_neg h,Ba m ((m+1) / 10) (by omega)]
theorem zn (l:List UInt8)(c:UInt8):aO (l++[c]) 0=10*aO l 0+(c.toNat - 48):=by rw [kD];rfl
theorem Mu(h:vI l) (hne:l≠[]) (h0:l.getD 0 0≠48):1≤aO l 0:=by
 cases l with
 | nil=>exact absurd rfl hne
 | cons c l=>
  have hc:=h c (by simp);have hc48:c≠48:=h0;have hcn:c.toNat≠48:=fun e=>hc48 (UInt8.toNat_inj.1 (by rw [e];rfl))
  show 1≤aO l (10*0+(c.toNat - 48));rw [ff];have:1*1≤(10*0+(c.toNat - 48))*10 ^ l.length:=X7 (by omega) (W3 (by decide));omega
theorem Lp:∀ (k:Nat) (s:List UInt8),s.length=k→isRow s→s=iV (aO s 0)
 | 0,s,hk,h=>absurd (Yd hk) h.2.1
 | k+1,s,hk,⟨h1,h2,h3⟩=>by
  rcases Yx s with rfl|⟨l,c,rfl⟩
  ·exact absurd rfl h2
  ·rw [Yy] at *
   have hc:=h1 c (by simp);have hl:vI l:=fun x hx=>h1 x (by simp [hx])
   rw [zn]
   by_cases hle:l=[]
   ·subst hle;show [c]=iV (10*aO [] 0+(c.toNat - 48));rw [show 10*aO [] 0+(c.toNat - 48)=c.toNat - 48 by simp [aO],Gu (by omega),Lh hc]
   ·have h0:l.getD 0 0≠48:=by
     rcases h3 with h3|h3
     ·exfalso;have:=congrArg List.length h3;simp at this;exact hle this
     ·cases l with
      | nil=>exact absurd rfl hle
      | cons a l=>exact h3
    have hp:=Mu hl hle h0;have ih:=Lp k l (by simpa using hk) ⟨hl,hle,.inr h0⟩;rw [GI (by omega),show (10*aO l 0+(c.toNat - 48)) / 10=aO l 0 by omega,show (10*aO l 0+(c.toNat - 48)) % 10=c.toNat - 48 by omega,← ih,Lh hc]
theorem wk(h:isRow s):s=iV (aO s 0):=Lp _ s rfl h
theorem za (G:List (List DV))(A:Nat)(o:Option (List Nat))(ho:dO o=aI 1000000000 A)(hl:(aI 1000000000 A).length≤100000):aa Tryz.prog G 217 [.c (rC o)] (.c (.d (.str (iV A)))):=by
 have hok:=(bp (B:=1000000000) (by decide) A).1;have hval:=bk (B:=1000000000) (by decide) A;obtain⟨D,hD⟩:∃ D,aI 1000000000 A=D:=⟨_,rfl⟩
 rw [hD] at hok hval hl ho;have nineG:=fun n h=>HN G n h
 rw [← fG];have hw0:=bG (n:=(D.length:Int) - 1) (by omega) (by omega);refine aa.en Tryz.func217 rfl fun _=>aab ?_;refine aab ?_;refine aaa fun K hK=>aas ho hw0 ?_;refine aaf ?_
 refine aao (fun (p:Nat × List UInt8)=>⟨bf [(0,nK .i64 o),(3,.c (.d (.str p.2))),(4,.c (.d (.int .i64 ((p.1:Int) - 1))))],fun _=>.hole⟩) 0
  (fun p=>p.1≤D.length∧vI p.2∧aO p.2 0=val 1000000000 (D.drop p.1)∧p.2.length=9*(D.length - p.1)) (fun p=>p.1) (D.length,[]) (Le.mk' _ rfl aX (by simp [hw0])) ⟨bg _,fun c hc=>(by cases hc),by simp [aO],by simp⟩ ?_
 rintro⟨k,S⟩ ⟨h1,h2,h3,h4⟩;simp only at h1 h2 h3 h4;refine aaa fun K3 hK3=>aab ?_
 cases k with
 | succ k=>
  have hk:k<D.length:=by omega
  have hko:k<(dO o).length:=by rw [ho];exact hk
  have e2:((k+1:Nat):Int) - 1=k:=by omega
  simp only [e2];obtain⟨x,hx⟩:∃ x,(dO o)[k]=x:=⟨_,rfl⟩
  have hxD:D[k]=x:=by rw [← hx];congr 1;exact ho.symm
  have hxB:x<1000000000:=by rw [← hxD];exact hok _ (aW hk)
  have hv:=cB (B:=1000000000) hk;rw [hxD] at hv;have nn:=nineG x hxB;have hnd:=N6 x 9;have hnv:=N3 x 9;have hnl:=vR x 9;obtain⟨T,hT⟩:∃ T,CO x 9=T:=⟨_,rfl⟩
  rw [hT] at nn hnd hnv hnl;have w9:=bG (n:=(k:Int) - 1) (by omega) (by omega);refine aah (aac (hK3 _ _ (aaa fun K5 hK5=>aaf (aae ?_))));simp [hko,hx];refine ag.p 0 9 nn ?_;simp [rB]
  repeat refine ah ?_
  apply hK5;refine aae ?_;simp [w9];refine⟨k,S++T,Le.mk' _ rfl aX (by simp),⟨by omega,?_,?_,?_⟩,by omega⟩
  ·intro c hc;rcases List.mem_append.1 hc with hc|hc
   ·exact h2 c hc
   ·exact hnd c hc
  ·rw [kD,ff,hnv,hnl,h3,hv,Xk hxB];omega
  ·rw [WW,h4,hnl];omega
 | zero=>
  rw [fQ,hval] at h3;refine aag (aan (hK _ _ (aaa fun K hK=>aaf ?_)))
  refine aao (fun (S:List UInt8)=>⟨bf [(3,.c (.d (.str S)))],fun _=>.hole⟩) 0
   (fun S=>vI S∧aO S 0=A∧S.length≤9*D.length) (fun S=>S.length) S (Le.mk' _ rfl aX (by simp)) ⟨h2,h3,by omega⟩ ?_
  rintro S ⟨q1,q2,q3⟩
  have fin:∀ (fr:Nat→AV) (κ:Nat),S≠[]→isRow S→fr 3=.c (.d (.str S))→K ⟨fr,fun _=>.hole⟩ κ:=by
   intro fr κ hne hr z3;have hrd:=wk hr;rw [q2] at hrd;apply hK;refine aaa fun K6 hK6=>aay z3 @vW hne ?_;refine aag (aac (hK6 _ _ (aal z3 ?_)));exact aad (aq.rt (t:=2) rfl 9 (by simp [hrd.symm]))
  refine aaa fun K4 hK4=>aaa fun K5 hK5=>?_
  cases S with
  | nil=>
   have hA:A=0:=q2.symm;refine aaA (hK5 _ _ ?_);refine aag (aan (hK _ _ (aaa fun K6 hK6=>aal @vW ?_)));refine aah (aaA (hK6 _ _ ?_));refine aab ?_;have hs:iV A=[48]:=by rw [hA];rfl
   exact aad (aq.rt (t:=2) rfl 9 (by simp [hs]))
  | cons c l=>
   have hc:=q1 c (by simp)
   cases l with
   | nil=>
    refine aaA (hK5 _ _ ?_);refine aag (aan ?_);simp;refine fin _ _ (by simp) ⟨q1,by simp,?_⟩ (by simp)
    by_cases h:c=48
    ·exact .inl (by rw [h])
    ·exact .inr h
   | cons d l=>
    have hl2:(1:Int)<((l.length:Int)+1+1):=by omega
    have hl3:(0:Int)<((l.length:Int)+1+1):=by omega
    have ll:l.length≤900000:=by simp at q3;omega
    by_cases h:c=48
    ·subst h;refine aae ?_;simp [hl2,hl3];apply hK5;refine aah (aac (hK4 _ _ (aaf (aae ?_))));simp
     repeat refine ah ?_
     have ht:List.take (((l.length:Int)+1+1).toNat) ((48:UInt8)::d::l)=48::d::l:=X6 (by simp;omega);exact⟨d::l,Le.mk' _ rfl aX (by simp [ht]),⟨fun x hx=>q1 x (XO _ hx),q2,by simp at q3 ⊢;omega⟩,by simp⟩
    ·have hcn:¬ (c.toNat:Int)=48:=fun e=>h (UInt8.toNat_inj.1 (by show c.toNat=48;omega))
     have hcn2:¬ c.toNat=48:=by omega
     refine aae ?_;simp [hl2,hl3,hcn,hcn2];apply hK5;refine aag (aan ?_);simp;exact fin _ _ (by simp) ⟨q1,by simp,.inr h⟩ (by simp)
def yE (x:Rat):List UInt8:=(if x.num<0 then [45] else [])++iV x.num.natAbs++(if x.den=1 then [] else [47]++iV x.den)
theorem IF {L:Nat}(h:n<10 ^ L) (hL:1≤L):(iV n).length≤L:=by
 induction L generalizing n with
 | zero=>omega
 | succ L ih=>
  by_cases h10:n<10
  ·rw [Gu h10];simp
  ·rw [GI h10,WW,Xy]
   have hL1:1≤L:=by
    rcases Yo L with h0|h0
    ·subst h0;simp at h;omega
    ·exact h0
   have:=ih (n:=n / 10) (by rw [Yf (by decide),← WU];exact h) hL1;omega
theorem Ga (n:Nat):(iV n).length≤10*nl n+1:=by
 have h1:=wP n;have h2:4294967296 ^ nl n≤(10 ^ 10) ^ nl n:=YC (by decide) _;rw [← XX] at h2;have h3:n<10 ^ (10*nl n+1):=Xe (Xe h1 h2) (Xr (by decide) (by omega));exact IF h3 (by omega)
theorem NR {x:Rat}:eG x<0↔x.num<0:=by
 unfold eG
 by_cases h:x.num=0
 ·rw [if_pos h];omega
 ·rw [if_neg h];split <;> omega
theorem Iu (G:List (List DV))(x:Rat)(hx:jv x 20000):aa Tryz.prog G 153 [c8 x] (.c (.d (.str (yE x)))):=by
 have h1:=Jr hx.1;have h2:=Jr hx.2;have t1:=za G x.num.natAbs (ju x) (mS x) (by omega);have ii:=xo G x;have l1:=Ga x.num.natAbs;have l2:=Ga x.den;have hx1:=hx.1;have hx2:=hx.2;have hn:=NR (x:=x)
 have t2:¬ x.den=1→aa Tryz.prog G 217 [.c (rC (lF x))] (.c (.d (.str (iV x.den)))):=fun h=>by
  have h0:x.num≠0:=fun e=>h (B4 e)
  refine za G x.den (lF x) (by rw [AS h0];rfl) (by omega)
 have hS:yE x=(if x.num<0 then [45] else [])++iV x.num.natAbs++(if x.den=1 then [] else [47]++iV x.den):=rfl;generalize yE x=Z at *
 generalize iV x.num.natAbs=P at *
 generalize iV x.den=Q at *
 refine aa.en Tryz.func153 rfl fun _=>aab ?_;refine aaq 1 t1 ?_;refine aaa fun K hK=>?_
 have fin:∀ (S:List UInt8) (fr:Nat→AV) (κ:Nat),S=(if x.num<0 then [45] else [])++P→fr 1=.c (.ptr 0 0)→fr 3=.c (.d (.str S))→K ⟨fr,aC (fun _=>.hole) 0 (.cells true false 215 [.d (.int .i64 (eG x)),rC (ju x),rC (lF x)])⟩ κ:=by
  intro S fr κ hSe z1 z3;have hSl:S.length≤P.length+1:=by rw [hSe];split <;> simp <;> omega
  rw [← hSe] at hS;apply hK;refine aaa fun K1 hK1=>aaa fun K2 hK2=>?_
  by_cases hd:x.den=1
  ·rw [if_pos hd,XD] at hS;refine AW.m2 1 ii z1 hd (hK2 _ _ ?_);refine aag (aac (hK1 _ _ (aal z3 ?_)));exact aad (aq.rt (t:=2) rfl 9 (by simp [hS]))
  ·have t2':=t2 hd;rw [if_neg hd] at hS;refine AW.m2 1 ii z1 hd (hK2 _ _ ?_);refine aah (aae ?_);simp [z1,z3,rB]
   repeat refine ah ?_
   refine ag.pure 1 9 t2' (by simp) (by simp) (by simp) ?_;simp [rB]
   repeat refine ah ?_
   apply hK1;refine aab ?_;exact aad (aq.rt (t:=2) rfl 9 (by simp [hS]))
 refine aaa fun K1 hK1=>?_
 by_cases hneg:x.num<0
 ·have hr:=hn.2 hneg;refine aat hr (hK1 _ _ ?_);refine aah (aae ?_);simp [rB]
  repeat refine ah ?_
  exact fin ([45]++P) _ _ (by rw [if_pos hneg]) (by simp) (by simp)
 ·have hr:¬ eG x<0:=fun h=>hneg (hn.1 h)
  refine aat hr (hK1 _ _ ?_);refine aag (aac ?_);simp;exact fin P _ _ (by rw [if_neg hneg];rfl) (by simp) (by simp)
theorem aq.RZ{t1 t2 t3 t4:Nat}{s:aB}(hr:fn.results=#[.tmp t1,.tmp t2,.tmp t3,.tmp t4]) (kh:Key) (hx:s.fr t1=x) (hy:s.fr t2=y) (hz:s.fr t3=z) (hu:s.fr t4=u) (hp:x.pure=true) (hq:y.pure=true) (hw:z.pure=true) (hv:u.pure=true) (hh:s.lv kh=.hole)
 (n1:x.cu=true) (n2:y.cu=true) (n3:z.cu=true) (n4:u.cu=true) (h12:t1≠t2) (h13:t1≠t3) (h14:t1≠t4) (h23:t2≠t3) (h24:t2≠t4) (h34:t3≠t4):aq c fn (.tup [x,y,z,u]) .ret s κ:=by
 refine⟨[(t1,x),(t2,y),(t3,z),(t4,u)],kh,by simp [hp,hx,hq,hy,hw,hz,hv,hu],hh,?_⟩;rw [hr];simp [cH,iK,ki,bf,h12.symm,h13.symm,h14.symm,h23.symm,h24.symm,h34.symm,n1,n2,n3,n4]
theorem xx:∀ {s:List UInt8},(∀ c∈s,c≠47)→jM s [47] = -1
 | [],_=>rfl
 | a::s,h=>by
  have ha:=h a (by simp);have ih:=xx (s:=s) fun c hc=>h c (by simp [hc])
  unfold jM at ih ⊢;rw [Lib.index];have hp:([47]:List UInt8).isPrefixOf (a::s)=false:=by simp [List.isPrefixOf,Ne.symm ha]
  rw [hp,ih];rfl
theorem Ek:∀ {a b:List UInt8},(∀ c∈a,c≠47)→jM (a++47::b) [47]=a.length
 | [],b,_=>by simp [jM,Lib.index,List.isPrefixOf]
 | x::a,b,h=>by
  have hx:=h x (by simp);have ih:=Ek (a:=a) (b:=b) fun c hc=>h c (by simp [hc])
  unfold jM at ih ⊢;rw [YI,Lib.index];have hp:([47]:List UInt8).isPrefixOf (x::(a++47::b))=false:=by simp [List.isPrefixOf,Ne.symm hx]
  rw [hp,ih];have h1:((a.length:Int) == -1)=false:=by rw [beq_eq_false_iff_ne];omega
  simp only [WS,if_false,h1,Xi];omega
def SJ (s:List UInt8):List UInt8:=sW s [47]
def QF (s:List UInt8):List UInt8:=if 0≤jM s [47] then rZ s [47] else [49]
def DL (neg:Bool):Int:=if neg then -1 else 1
abbrev N8 (neg:Bool)(s:List UInt8):AV:=.tup [.c (.d (.str (SJ s))),.c (.d (.str (QF s))),.c (.d (.int .i64 (DL neg))),.c (.d (.bool (!iz neg (sW s [47]) (rZ s [47]) (decide (0≤jM s [47])))))]
theorem Hr (G:List (List DV))(r:List UInt8):aa Tryz.prog G 242 [.c (.d (.str r))] (N8 (sn r [45]) (kF r [45])):=by
 refine aF.jq 0 (by simp) (fun V v h=>(show r.length≤9223372036854775807 by cases h.1 with|str _ hl=>exact hl)) fun hs=>?_;have rowG:=fun s=>I3 G s
 have hsl:(kF r [45]).length≤r.length:=by unfold kF;split <;> simp
 have hdec:(sn r [45]=true∧∃ l,r=45::l∧kF r [45]=l)∨(sn r [45]=false∧kF r [45]=r∧(r=[]∨∃ c l,r=c::l∧c≠45)):=by
  cases r with
  | nil=>exact .inr ⟨rfl,rfl,.inl rfl⟩
  | cons c l=>
   by_cases hc:c=45
   ·subst hc;have:sn (45::l) [45]=true:=by simp [sn]
    exact .inl ⟨this,l,rfl,by unfold kF;rw [if_pos this];rfl⟩
   ·have:sn (c::l) [45]=false:=by simp [sn,hc]
    exact .inr ⟨this,by unfold kF;rw [if_neg (by rw [this];decide)],.inr ⟨c,l,rfl,hc⟩⟩
 generalize kF r [45]=s at *
 generalize sn r [45]=neg at *
 refine aa.en Tryz.func242 rfl fun _=>aab ?_;refine aab ?_;refine aaa fun K hK=>?_
 have main:∀ (fr:Nat→AV) (κ:Nat),fr 6=.c (.d (.str s))→fr 7=.c (.d (.int .i64 (DL neg)))→K ⟨fr,fun _=>.hole⟩ κ:=by
  intro fr κ z6 z7;apply hK;refine aaa fun K hK=>aab ?_;refine aaf ?_;refine aao (fun (i:Nat)=>⟨bf [(6,.c (.d (.str s))),(7,.c (.d (.int .i64 (DL neg)))),(8,.c (.d (.int .i64 (i:Int))))],fun _=>.hole⟩) 0 (fun i=>i≤s.length∧∀ c∈s.take i,c≠47) (fun i=>s.length - i) 0 (Le.mk' _ rfl aX (by simp [z6,z7])) ⟨W2 _,fun c hc=>by simp at hc⟩ ?_;rintro i ⟨hi,hd⟩;refine aaa fun K3 hK3=>aab ?_
  by_cases hlt:i<s.length
  ·have hlt':(i:Int)<(s.length:Int):=by omega
   have wi:=bG (n:=(i:Int)+1) (by omega) (by omega);obtain⟨c,hc⟩:∃ c,s[i]=c:=⟨_,rfl⟩
   refine aai (by simp [hlt] <;> omega) (aac (hK3 _ _ (aaa fun K5 hK5=>aaf (aak fun K6 hK6=>?_))));simp [hlt,hlt',hc];apply hK6
   by_cases h47:c=47
   ·have hcn:(c.toNat:Int)=47:=by rw [h47];rfl
    have hcn2:c.toNat=47:=by rw [h47];rfl
    have hsp:s=s.take i++47::s.drop (i+1):=by
     conv=>lhs;rw [← Ys i s,XG hlt,hc,h47]
    have hidx:jM s [47]=i:=by
     have:=Ek (b:=s.drop (i+1)) hd;rw [← hsp,WR,Xu (by omega)] at this;exact this
    have hge:0≤jM s [47]:=by rw [hidx];omega
    have hA:sW s [47]=s.take i:=by unfold sW;rw [if_pos hge,hidx,XH]
    have hB:rZ s [47]=s.drop (i+1):=by unfold rZ;rw [if_pos hge,hidx,XH];rfl
    have hT:SJ s=s.take i:=hA;have hB2:QF s=s.drop (i+1):=by unfold QF;rw [if_pos hge,hB]
    have hbad:(!iz neg (sW s [47]) (rZ s [47]) (decide (0≤jM s [47])))=(eM (s.take i) && eM (s.drop (i+1)) && !decide (s.drop (i+1)=[48]) && !decide (s.drop (i+1)=[49]) && (!decide (s.take i=[48]) || decide (0<DL neg))):=by
     rw [hA,hB,decide_eq_true hge];unfold iz DL
     cases eM (s.take i) <;> cases eM (s.drop (i+1)) <;> cases neg <;> cases decide (s.take i=[48]) <;> cases decide (s.drop (i+1)=[48]) <;> cases decide (s.drop (i+1)=[49]) <;> rfl
    have e1:∀ l:List UInt8,(l.take ((i:Int)).toNat).drop (0:Int).toNat=l.take i:=fun l=>rfl
    have hdr:(s.take ((s.length:Int)).toNat).drop ((i+1:Nat):Int).toNat=s.drop (i+1):=by rw [XH,XH,List.take_length]
    obtain⟨p,hp⟩:∃ p,s.take i=p:=⟨_,rfl⟩
    obtain⟨q,hq⟩:∃ q,s.drop (i+1)=q:=⟨_,rfl⟩
    have rp:=rowG p;have rq:=rowG q;rw [hp] at hT;rw [hq] at hB2;rw [hp,hq] at hbad;have hp':List.drop 0 (List.take i s)=p:=hp;refine aai (by simp [hcn,hcn2] <;> omega) (aaa fun K6 hK6=>?_);refine aap mixed (by kernel_rfl) rfl ?_;simp [wi,hp,hq,hlt]
    repeat refine ah ?_
    refine⟨by kernel_rfl,?_⟩;apply hK6;refine aaa fun K6 hK6=>?_
    have fin:∀ (b:Bool) (fr:Nat→AV) (κ:Nat),fr 2=.c (.d (.str p))→fr 3=.c (.d (.str q))→fr 4=.c (.d (.int .i64 (DL neg)))→fr 5=.c (.d (.bool b)) →
     b=(eM p && eM q && !decide (q=[48]) && !decide (q=[49]) && (!decide (p=[48]) || decide (0<DL neg)))→K6 ⟨fr,fun _=>.hole⟩ κ:=by
     intro b fr κ z2 z3 z4 z5 hb;rw [← hbad] at hb;apply hK6;exact aam (κ:=0) (aq.RZ (κ:=0) rfl 9 (by simp [z2,hT]) (by simp [z3,hB2]) (by simp [z4]) (by simp [z5,hb]) rfl rfl rfl rfl rfl rfl rfl rfl rfl (by decide) (by decide) (by decide) (by decide) (by decide) (by decide))
    cases r1:eM p with
    | false=>
     refine aae ?_;simp;refine ag.p 0 9 rp ?_;simp [r1];exact fin false _ _ (by simp) (by simp) (by simp) (by simp) (by simp [r1])
    | true=>
    cases r2:eM q with
    | false=>
     refine aae ?_;simp;refine ag.p 0 9 rp ?_;simp [r1];refine ag.p 0 9 rq ?_;simp [r2];exact fin false _ _ (by simp) (by simp) (by simp) (by simp) (by simp [r1,r2])
    | true=>
    by_cases q0:q=[48]
    ·subst q0;refine aae ?_;simp;refine ag.p 0 9 rp ?_;simp [r1];refine ag.p 0 9 rq ?_;simp [r2,uG];exact fin false _ _ (by simp) (by simp) (by simp) (by simp) (by simp [r1,r2])
    by_cases q1:q=[49]
    ·subst q1;refine aae ?_;simp;refine ag.p 0 9 rp ?_;simp [r1];refine ag.p 0 9 rq ?_;simp [r2,uG];exact fin false _ _ (by simp) (by simp) (by simp) (by simp) (by simp [r1,r2])
    by_cases p0:p=[48]
    ·subst p0;refine aae ?_;simp;refine ag.p 0 9 rp ?_;simp [r1];refine ag.p 0 9 rq ?_;simp [r2,uG,q0,q1];exact fin (decide (0<DL neg)) _ _ (by simp) (by simp) (by simp) (by simp) (by simp [r1,r2,q0,q1])
    ·refine aae ?_;simp;refine ag.p 0 9 rp ?_;simp [r1];refine ag.p 0 9 rq ?_;simp [r2,uG,q0,q1,p0];exact fin true _ _ (by simp) (by simp) (by simp) (by simp) (by simp [r1,r2,q0,q1,p0])
   ·have hcn:¬ (c.toNat:Int)=47:=fun e=>h47 (UInt8.toNat_inj.1 (by show c.toNat=47;omega))
    have hcn2:¬ c.toNat=47:=by omega
    refine aaj (by simp [hcn,hcn2] <;> omega) (aac (hK5 _ _ (aae ?_)));simp [wi];refine⟨i+1,Le.mk' _ rfl aX (by simp),⟨by omega,?_⟩,by omega⟩;intro x hx;rw [YK,rP hlt,XF] at hx;rcases hx with hx|hx
    ·exact hd x hx
    ·simp only [Option.toList_some,Xx] at hx;rw [hx,hc];exact h47
  ·have he:i=s.length:=by omega
   subst he;rw [List.take_length] at hd;have hidx:=xx hd;have hge:¬ 0≤jM s [47]:=by rw [hidx];decide
   have hA:sW s [47]=s:=if_neg hge;have hT:SJ s=s:=hA;have hB2:QF s=[49]:=if_neg hge
   have hbad:(!iz neg (sW s [47]) (rZ s [47]) (decide (0≤jM s [47])))=(eM s && (!decide (s=[48]) || decide (0<DL neg))):=by
    rw [hA,decide_eq_false hge];unfold iz DL
    cases eM s <;> cases neg <;> cases decide (s=[48]) <;> rfl
   have rs:=rowG s;refine aaj (by simp [hlt] <;> omega) (aan (hK _ _ (aaa fun K6 hK6=>?_)))
   have fin:∀ (b:Bool) (fr:Nat→AV) (κ:Nat),fr 2=.c (.d (.str s))→fr 3=.c (.d (.str [49]))→fr 4=.c (.d (.int .i64 (DL neg)))→fr 5=.c (.d (.bool b)) →
    b=(eM s && (!decide (s=[48]) || decide (0<DL neg)))→K6 ⟨fr,fun _=>.hole⟩ κ:=by
    intro b fr κ z2 z3 z4 z5 hb;rw [← hbad] at hb;apply hK6;exact aam (κ:=0) (aq.RZ (κ:=0) rfl 9 (by simp [z2,hT]) (by simp [z3,hB2]) (by simp [z4]) (by simp [z5,hb]) rfl rfl rfl rfl rfl rfl rfl rfl rfl (by decide) (by decide) (by decide) (by decide) (by decide) (by decide))
   cases r1:eM s with
   | false=>
    refine aae ?_;simp;refine ag.p 0 9 rs ?_;simp [r1];exact fin false _ _ (by simp) (by simp) (by simp) (by simp) (by simp [r1])
   | true=>
   by_cases p0:s=[48]
   ·subst p0;refine aae ?_;simp;refine ag.p 0 9 rs ?_;simp [r1,uG];exact fin (decide (0<DL neg)) _ _ (by simp) (by simp) (by simp) (by simp) (by simp [r1])
   ·refine aae ?_;simp;refine ag.p 0 9 rs ?_;simp [r1,uG,p0];exact fin true _ _ (by simp) (by simp) (by simp) (by simp) (by simp [r1,p0])
 refine aaa fun K1 hK1=>?_;rcases hdec with ⟨hn,l,hr,hl⟩|⟨hn,hl,hr|⟨c,l,hr,hc⟩⟩
 ·subst hr;subst hl;have ht:List.take (((s.length:Int)+1).toNat) ((45:UInt8)::s)=45::s:=X6 (by simp);have hp:(0:Int)<(s.length:Int)+1:=by omega
  have hll:s.length+1≤9223372036854775807:=by simpa using hs
  refine aae ?_;simp [hp];apply hK1;refine aah (aae ?_);simp [ht]
  repeat refine ah ?_
  exact main _ _ (by simp [ht]) (by simp [DL,hn])
 ·subst hr;subst hl;refine aaA (hK1 _ _ ?_);refine aag (aac ?_);simp;exact main _ _ (by simp) (by simp [DL,hn])
 ·subst hr;subst hl;have hcn:¬ (c.toNat:Int)=45:=fun e=>hc (UInt8.toNat_inj.1 (by show c.toNat=45;omega))
  have hcn2:¬ c.toNat=45:=by omega
  have hp:(0:Int)<(l.length:Int)+1:=by omega
  refine aae ?_;simp [hp,hcn,hcn2];apply hK1;refine aag (aac ?_);simp;exact main _ _ (by simp) (by simp [DL,hn])
attribute [local irreducible] bD
theorem ze:∀ (s:List UInt8),(∀ c∈s,c≠47)∨∃ a b,s=a++47::b∧∀ c∈a,c≠47
 | []=>.inl fun c hc=>by cases hc
 | x::s=>by
  by_cases hx:x=47
  ·subst hx;exact .inr ⟨[],s,rfl,fun c hc=>by cases hc⟩
  ·rcases ze s with h|⟨a,b,h,ha⟩
   ·exact .inl fun c hc=>by rcases List.mem_cons.1 hc with rfl|hc;exact hx;exact h c hc
   ·exact .inr ⟨x::a,b,by rw [h];rfl,fun c hc=>by rcases List.mem_cons.1 hc with rfl|hc;exact hx;exact ha c hc⟩
theorem xY:∀ {a a' b b':List UInt8},(∀ c∈a,c≠47)→(∀ c∈a',c≠47)→a++47::b=a'++47::b'→b=b'
 | [],[],b,b',_,_,h=>(List.cons.inj h).2
 | [],x::a',b,b',_,h',h=>absurd (List.cons.inj h).1.symm (h' x (by simp))
 | x::a,[],b,b',h',_,h=>absurd (List.cons.inj h).1 (h' x (by simp))
 | x::a,y::a',b,b',h1,h2,h=>xY (fun c hc=>h1 c (by simp [hc])) (fun c hc=>h2 c (by simp [hc])) (List.cons.inj h).2
theorem Ed(h:vI s):∀ c∈s,c≠47:=fun c hc e=>by
 have:=h c hc;rw [e] at this;have h2:(47:UInt8).toNat=47:=rfl;omega
theorem FB:∀ (f n:Nat),n≤f→vI (tP f n)∧aO (tP f n) 0=n
 | 0,n,h=>by
  have:n=0:=by omega
  subst this;refine⟨fun c hc=>?_,rfl⟩;rw [tP,Xx] at hc;rw [hc,kN (by decide)];omega
 | f+1,n,h=>by
  rw [tP]
  by_cases h10:n<10
  ·rw [if_pos h10];refine⟨fun c hc=>?_,?_⟩
   ·rw [Xx] at hc;rw [hc,kN h10];omega
   ·show 10*0+((HZ n).toNat - 48)=n;rw [kN h10];omega
  ·rw [if_neg h10];obtain⟨h1,h2⟩:=FB f (n / 10) (by omega);refine⟨fun c hc=>?_,?_⟩
   ·rcases List.mem_append.1 hc with hc|hc
    ·exact h1 c hc
    ·rw [Xx] at hc;rw [hc,kN (by omega)];omega
   ·rw [zn,h2,kN (by omega)];omega
theorem JG (n:Nat):vI (iV n):=(FB n n (bg _)).1
theorem Pj (n:Nat):aO (iV n) 0=n:=(FB n n (bg _)).2
theorem Jf (r:List UInt8):r=(if sn r [45] then [45] else [])++kF r [45]:=by
 unfold kF
 cases h:sn r [45] with
 | false=>rfl
 | true=>
  unfold sn at h;simp only [Xy,cn,decide_eq_true_eq] at h;show r=[45]++r.drop 1;rw [← h.2];have:=Ys 1 r;rw [h.2] at this ⊢;exact this.symm
theorem AX (neg:Bool){P Q:Nat}(hP:P≠0) (hQ:Q≠0):yE (mkRat (dy neg P) Q)=(if neg then [45] else [])++iV (P / Nat.gcd P Q)++(if Q / Nat.gcd P Q=1 then [] else [47]++iV (Q / Nat.gcd P Q)):=by
 obtain⟨n1,n2⟩:=iw neg (a:=P) hQ;have hg:P / Nat.gcd P Q≠0:=XY (Nat.div_pos (Nat.le_of_dvd (by omega) (Y9 _ _)) (YQ _ (by omega)));unfold yE;rw [n1,n2,sE]
 cases neg with
 | true=>
  rw [if_pos (show dy true (P / Nat.gcd P Q)<0 from Int.neg_neg_of_pos (Int.ofNat_lt.2 (YA hg)))];rfl
 | false=>
  rw [if_neg (show ¬ dy false (P / Nat.gcd P Q)<0 from Int.not_lt.2 (XW _))];rfl
theorem zU:yE 0=[48]:=rfl
theorem G6 (neg:Bool)(Q:Nat):mkRat (dy neg 0) Q=0:=by
 have e2:dy neg 0=0:=by cases neg <;> rfl
 rw [e2];exact Za Q
theorem Fs(hT:isRow T) (h0:¬ (neg=true∧T=[48])):yE (mkRat (dy neg (aO T 0)) 1)=(if neg then [45] else [])++T:=by
 have hd:=wk hT
 by_cases hP:aO T 0=0
 ·rw [hP,G6,zU];have:T=[48]:=by rw [hd,hP];rfl
  have hn:neg=false:=by cases neg with
   | false=>rfl
   | true=>exact absurd ⟨rfl,this⟩ h0
  rw [hn,this];rfl
 ·rw [AX neg hP (by decide),YR,X0,X0,← hd,if_pos rfl,XD]
theorem HO{B:List UInt8}(hT:isRow T) (hB:isRow B) (hQ:2≤aO B 0):yE (mkRat (dy neg (aO T 0)) (aO B 0))=(if neg then [45] else [])++(T++47::B)↔Nat.gcd (aO T 0) (aO B 0)=1:=by
 have hdT:=wk hT;have hdB:=wk hB
 have h45:∀ c∈(if neg then [45] else []:List UInt8),c≠47:=by
  intro c hc;split at hc
  ·rw [Xx] at hc;rw [hc];decide
  ·cases hc
 have hmem:(47:UInt8)∈(if neg then [45] else []:List UInt8)++(T++47::B):=by simp
 constructor
 ·intro h;apply Xq;intro hg
  by_cases hP:aO T 0=0
  ·rw [hP,G6,zU] at h;rw [← h] at hmem;simp at hmem
  ·rw [AX neg hP (by omega)] at h;generalize hgg:Nat.gcd (aO T 0) (aO B 0)=g at *
   have hg0:0<g:=by rw [← hgg];exact YQ _ (by omega)
   by_cases h1:aO B 0 / g=1
   ·rw [if_pos h1,XD] at h;rw [← h] at hmem;rcases List.mem_append.1 hmem with hm|hm
    ·exact h45 47 hm rfl
    ·exact Ed (JG _) 47 hm rfl
   ·rw [if_neg h1,← WY] at h
    have h2:((if neg then [45] else [])++iV (aO T 0 / g))++47::iV (aO B 0 / g)=((if neg then [45] else [])++T)++47::B:=by
     rw [WY,WY] at h ⊢;simpa using h
    have h3:=xY (fun c hc=>by
     rcases List.mem_append.1 hc with hc|hc
     ·exact h45 c hc
     ·exact Ed (JG _) c hc) (fun c hc=>by
     rcases List.mem_append.1 hc with hc|hc
     ·exact h45 c hc
     ·exact Ed hT.1 c hc) h2
    have h4:=congrArg (fun l=>aO l 0) h3;simp only [Pj] at h4;have:aO B 0 / g<aO B 0:=Nat.div_lt_self (by omega) (by omega);omega
 ·intro hg;have hP:aO T 0≠0:=by intro e;rw [e,Zq] at hg;omega
  rw [AX neg hP (by omega),hg,X0,X0,← hdT,← hdB,if_neg (show ¬ aO B 0=1 by omega),WY];rfl
theorem Mx:isRow [49]:=⟨by intro c hc;rw [Xx] at hc;rw [hc];decide,by decide,.inr (by decide)⟩
theorem AM (s t:List UInt8):aH Tryz.prog .neq 53 (.c (.d (.str s))) (.c (.d (.str t)))=some (.c (.d (.bool (!decide (s=t)))),[],[],True):=by
 rw [← L7];kernel_rfl
theorem bD.JO{z:Rat}{t u k:Nat}{s:aB}(hr:fn.results=#[.cell t 215,.tmp u]) (ht:s.fr t=.c (.ptr k 0)) (hk:s.lv k=.cells true false 215 [.d (.int .i64 (eG z)),rC (ju z),rC (lF z)]) (hu:s.fr u=.c (.d (.int .i64 e))) (hP:c.P=Tryz.prog):bD c fn (.tup [c8 z,.c (.d (.int .i64 e))]) .ret s κ:=
 bD.hO hr ht hk (by rw [fQ,hP,iN]) hu rfl rfl
theorem Ll{top bot:List UInt8}{brk:Bool}(h:iz neg top bot brk=false):isRow top∧¬ (neg=true∧top=[48])∧(brk=true→isRow bot∧bot≠[48]∧bot≠[49]):=by
 obtain⟨h1,h2⟩:=E2 h;refine⟨om.1 h1,?_,fun hb=>?_⟩
 ·rintro⟨rfl,rfl⟩;unfold iz at h;simp at h
 ·obtain⟨a,b,c⟩:=h2 hb;exact⟨om.1 a,b,c⟩
theorem Kr {r:List UInt8}(h:ez r≠0):fj r=0:=if_neg h
@[simp] theorem S5(h:x.cu=true):tJ 0 (.tup [x,y,z,u])=some (x,[],[],True):=by
 cases x <;> first|rfl|cases h
@[simp] theorem S8(h:y.cu=true):tJ 1 (.tup [x,y,z,u])=some (y,[],[],True):=by
 cases y <;> first|rfl|cases h
@[simp] theorem Tk(h:z.cu=true):tJ 2 (.tup [x,y,z,u])=some (z,[],[],True):=by
 cases z <;> first|rfl|cases h
@[simp] theorem SE(h:u.cu=true):tJ 3 (.tup [x,y,z,u])=some (u,[],[],True):=by
 cases u <;> first|rfl|cases h
theorem p7 (G:List (List DV))(r:List UInt8):aa Tryz.prog G 167 [.c (.d (.str r))] (.tup [c8 (fj r),.c (.d (.int .i64 (ez r)))]):=by
 have rw0:=Hr G r;have hE:ez r=dg (sn r [45]) (sW (kF r [45]) [47]) (rZ (kF r [45]) [47]) (decide (0≤jM (kF r [45]) [47])):=rfl;have hP:fj r=oE (sn r [45]) (sW (kF r [45]) [47]) (rZ (kF r [45]) [47]) (decide (0≤jM (kF r [45]) [47])):=rfl;have hsp:=Jf r;obtain⟨s,hs⟩:∃ s,kF r [45]=s:=⟨_,rfl⟩
 obtain⟨neg,hn⟩:∃ n,sn r [45]=n:=⟨_,rfl⟩
 rw [hs,hn] at rw0 hE hP hsp;unfold N8 at rw0;have hbad0:=Kr (r:=r);have dz:∀ e:Int,fR (fun _=>LB.hole) (.tup [c8 0,.c (.d (.int .i64 e))])=some (.tup [c8 0,.c (.d (.int .i64 e))],[]):=fun e=>jP _ _ _ _ _
 cases hb:iz neg (sW s [47]) (rZ s [47]) (decide (0≤jM s [47])) with
 | true=>
  have e6:ez r=6:=by rw [hE];unfold dg;rw [if_pos hb]
  rw [hbad0 (by rw [e6];decide),e6];rw [hb] at rw0;refine aa.enc Tryz.func167 rfl (fun lv=>jP lv _ _ _ _) fun _=>aab ?_;refine aaq 1 rw0 ?_;refine aaa fun K hK=>aab ?_;refine aah (aas @Sk @aj.eq_1 ?_);exact aam (bD.JO (k:=0) rfl (by simp) (by simp <;> exact⟨rfl,rfl,rfl⟩) (by simp) rfl)
 | false=>
 rw [hb] at rw0;obtain⟨hT,hT0,hB⟩:=Ll hb;obtain⟨T,hTe⟩:∃ T,sW s [47]=T:=⟨_,rfl⟩
 have hrT:SJ s=T:=hTe;obtain⟨B,hBe⟩:∃ B,QF s=B:=⟨_,rfl⟩
 rw [hTe] at hT hT0
 have hsame:(2000<max (sW s [47]).length (rZ s [47]).length)↔(2000<T.length∨2000<B.length):=by
  rw [hTe]
  by_cases hk:0≤jM s [47]
  ·have:B=rZ s [47]:=by rw [← hBe];exact if_pos hk
   rw [this];omega
  ·have h1:B=[49]:=by rw [← hBe];exact if_neg hk
   have h2:rZ s [47]=[]:=if_neg hk;rw [h1,h2];simp <;> omega
 have hBrow:isRow B∧1≤aO B 0:=by
  by_cases hk:0≤jM s [47]
  ·have h1:B=rZ s [47]:=by rw [← hBe];exact if_pos hk
   obtain⟨a,b,c⟩:=hB (decide_eq_true hk);rw [h1];exact⟨a,by have:=we (om.2 a) b c;omega⟩
  ·have h1:B=[49]:=by rw [← hBe];exact if_neg hk
   rw [h1];exact⟨Mx,by decide⟩
 rw [hrT,hBe] at rw0
 by_cases hlong:2000<T.length∨2000<B.length
 ·have e3:ez r=3:=by rw [hE];unfold dg;rw [if_neg (by rw [hb];decide),if_pos (hsame.2 hlong)]
  rw [hbad0 (by rw [e3];decide),e3];refine aa.enc Tryz.func167 rfl (fun lv=>jP lv _ _ _ _) fun _=>aab ?_;refine aaq 1 rw0 ?_;refine aaa fun K hK=>aab ?_;refine aag (aac (hK _ _ (aaa fun K hK=>aaa fun K1 hK1=>?_)))
  by_cases l1:2000<T.length
  ·have l1':(2000:Int)<(T.length:Int):=by omega
   refine aau l1 l1' (hK1 _ _ ?_);refine aah (aas @Sk @aj.eq_1 ?_);exact aam (bD.JO (k:=0) rfl (by simp) (by simp <;> exact⟨rfl,rfl,rfl⟩) (by simp) rfl)
  ·have l1':¬ (2000:Int)<(T.length:Int):=by omega
   have l2:2000<B.length:=by omega
   have l2':(2000:Int)<(B.length:Int):=by omega
   refine aaE l1 l1' l2 l2' (hK1 _ _ ?_);refine aah (aas @Sk @aj.eq_1 ?_);exact aam (bD.JO (k:=0) rfl (by simp) (by simp <;> exact⟨rfl,rfl,rfl⟩) (by simp) rfl)
 have l1:¬ 2000<T.length:=fun h=>hlong (.inl h)
 have l2:¬ 2000<B.length:=fun h=>hlong (.inr h)
 have l1':¬ (2000:Int)<(T.length:Int):=by omega
 have l2':¬ (2000:Int)<(B.length:Int):=by omega
 have rd1:=zf G T hT.1 hT.2.1 (by omega);have rd2:=zf G B hBrow.1.1 hBrow.1.2.1 (by omega);rw [fG] at rd1 rd2;have n1:=rm hT.1 (by omega:T.length≤2000);have n2:=rm hBrow.1.1 (by omega:B.length≤2000);have mk:=sM G (DL neg) neg (aO T 0) (aO B 0) 300 (some (aI 1000000000 (aO T 0))) rfl (fun _=>rfl) hBrow.2 n1 n2 (by decide);have hsz:jv (mkRat (dy neg (aO T 0)) (aO B 0)) 300:=nQ _ (by omega) n1 n2;have tx:=Iu G _ (bQ hsz (by decide:300≤20000))
 have hres:(yE (mkRat (dy neg (aO T 0)) (aO B 0))=r∧ez r=0∧fj r=mkRat (dy neg (aO T 0)) (aO B 0))∨(yE (mkRat (dy neg (aO T 0)) (aO B 0))≠r∧ez r=6∧fj r=0):=by
  rcases ze s with h47|⟨a,b,hab,ha⟩
  ·have hk:¬ 0≤jM s [47]:=by rw [xx h47];decide
   have hTs:T=s:=by rw [← hTe];exact if_neg hk
   have hB1:B=[49]:=by rw [← hBe];exact if_neg hk
   have hd1:aO B 0=1:=by rw [hB1];rfl
   left;have e0:ez r=0:=by rw [hE];unfold dg;rw [if_neg (by rw [hb];decide),if_neg (fun h=>hlong (hsame.1 h)),if_pos (decide_eq_false hk)]
   refine⟨?_,e0,?_⟩
   ·rw [hd1,Fs hT hT0,hTs];exact hsp.symm
   ·rw [hP];unfold oE;rw [← hE,if_pos e0,hTe,decide_eq_false hk,hd1];rfl
  ·have hidx:=Ek (b:=b) ha;rw [← hab] at hidx;have hk:0≤jM s [47]:=by rw [hidx];omega
   have hA:sW s [47]=a:=by unfold sW;rw [if_pos hk,hidx,XH,hab,List.take_left]
   have hBb:rZ s [47]=b:=by
    unfold rZ;rw [if_pos hk,hidx,XH,hab];rw [show a++47::b=(a++[47])++b by simp];exact List.drop_left' (by simp)
   have hTa:T=a:=by rw [← hTe];exact hA
   have hBb2:B=b:=by rw [← hBe];unfold QF;rw [if_pos hk,hBb]
   obtain⟨c1,c2,c3⟩:=hB (decide_eq_true hk);have hge:=we (om.2 c1) c2 c3;rw [hBb,← hBb2] at hge c1;have htf:=HO (neg:=neg) hT c1 hge;have hsr:r=(if neg then [45] else [])++(T++47::B):=by rw [hTa,hBb2,← hab];exact hsp
   rw [← hsr] at htf
   have hpe:ez r=if Nat.gcd (aO T 0) (aO B 0)=1 then 0 else 6:=by
    rw [hE];unfold dg;rw [if_neg (by rw [hb];decide),if_neg (fun h=>hlong (hsame.1 h)),if_neg (by rw [decide_eq_true hk];decide),R3,hTe,hBb,← hBb2]
   by_cases hg:Nat.gcd (aO T 0) (aO B 0)=1
   ·left;rw [if_pos hg] at hpe;refine⟨htf.2 hg,hpe,?_⟩;rw [hP];unfold oE;rw [← hE,if_pos hpe,hTe,hBb,← hBb2,decide_eq_true hk];rfl
   ·right;rw [if_neg hg] at hpe;exact⟨fun h=>hg (htf.1 h),hpe,hbad0 (by rw [hpe];decide)⟩
 generalize mkRat (dy neg (aO T 0)) (aO B 0)=z at *
 rcases hres with ⟨q1,q2,q3⟩|⟨q1,q2,q3⟩
 ·rw [q2,q3];refine aa.enc Tryz.func167 rfl (fun lv=>jP lv _ _ _ _) fun _=>aab ?_;refine aaq 1 rw0 ?_;refine aaa fun K hK=>aab ?_;refine aag (aac (hK _ _ (aaa fun K hK=>aaD l1 l1' l2 l2' ?_)));refine aag (aac (hK _ _ (aak fun K hK=>?_)));simp;refine ag.p 1 9 rd1 ?_;simp;refine ag.p 1 9 rd2 ?_;simp;refine ag.p 1 9 mk ?_;simp [aj];apply hK;refine aaa fun K hK=>AW.c2 2 tx @AM q1 ?_;refine aag (aac (hK _ _ (aal @aj.eq_1 ?_)));exact aam (bD.JO (k:=0) rfl (by simp) (by simp) (by simp) rfl)
 ·rw [q2,q3];refine aa.enc Tryz.func167 rfl (fun lv=>jP lv _ _ _ _) fun _=>aab ?_;refine aaq 1 rw0 ?_;refine aaa fun K hK=>aab ?_;refine aag (aac (hK _ _ (aaa fun K hK=>aaD l1 l1' l2 l2' ?_)));refine aag (aac (hK _ _ (aak fun K hK=>?_)));simp;refine ag.p 1 9 rd1 ?_;simp;refine ag.p 1 9 rd2 ?_;simp;refine ag.p 1 9 mk ?_;simp [aj];apply hK;refine aaa fun K hK=>AW.c2 2 tx @AM q1 ?_;refine aah (aas @Sk @aj.eq_1 ?_);exact aam (bD.JO (k:=0) rfl (by simp) (by simp <;> exact⟨rfl,rfl,rfl⟩) (by simp) rfl)
theorem DD (G:List (List DV))(r:List UInt8):aa Tryz.prog G 171 [.c (.d (.str r))] (.c (.d (.int .i64 (ez r)))):=by
 have h:=p7 G r;generalize fj r=z at *
 generalize ez r=e at *
 refine aa.en Tryz.func171 rfl fun _=>aab ?_;refine aav 1 h @aj.eq_1 ?_;refine aab ?_;exact aad (aq.rt (t:=2) rfl 9 (by simp))
end Go.Am
namespace Go.Am
open Go.Am.Ty Go.Proofs N
variable {op:Int}{i k:Nat}{p:PD}
theorem jH (G:List (List DV))(n m:Int):aa Tryz.prog G 94 [.c (.d (.int .i64 n)),.c (.d (.int .i64 m))] (.c (.d (.bool (decide (0≤n∧n<m))))):=by
 refine aa.en Tryz.func94 rfl fun _=>aab ?_;refine aaa fun K hK=>?_
 by_cases h:0≤n
 ·refine aat h (hK _ _ ?_);exact aad (aq.rt rfl 4 (by simp [h]))
 ·refine aat h (hK _ _ ?_);exact aad (aq.rt rfl 4 (by simp [h]))
theorem o5 (G:List (List DV))(p:PD)(i:Int):aa Tryz.prog G 95 [p.A,.c (.d (.int .i64 i))] (.c (.d (.int .i64 (iQ p i)))):=by
 refine aa.en Tryz.func95 rfl fun _=>aab ?_;refine aaa fun K hK=>aab ?_
 by_cases h:i<p.head
 ·refine aai (by simp [h] <;> omega) (aab ?_);exact aad (aq.rt rfl 4 (by simp [iQ,h]))
 ·refine aaj (by simp [h] <;> omega) (aac (hK _ _ (aaa fun K hK=>aab ?_)))
  by_cases h2:i<p.tail
  ·refine aai (by simp [h2] <;> omega) (aab ?_);exact aad (aq.rt rfl 4 (by simp [iQ,h,h2]))
  ·refine aaj (by simp [h2] <;> omega) (aac (hK _ _ (aab ?_)));exact aad (aq.rt rfl 4 (by simp [iQ,h,h2]))
theorem Hu (G:List (List DV))(p:PD)(i k:Int):aa Tryz.prog G 172 [p.A,.c (.d (.int .i64 i)),.c (.d (.int .i64 k))] (.c (.d (.bool (dQ p i k)))):=by
 have c1:=o5 G p k;have c2:=o5 G p i
 by_cases h1:0≤k
 rotate_left
 ·refine aa.en Tryz.func172 rfl fun _=>aab ?_;refine AW.d1 mixed h1 ?_;exact aad (aq.rt rfl 6 (by simp [dQ,h1]))
 by_cases h2:k<i
 rotate_left
 ·refine aa.en Tryz.func172 rfl fun _=>aab ?_;refine AW.d2 mixed h1 h2 ?_;exact aad (aq.rt rfl 6 (by simp [dQ,h1,h2]))
 by_cases h3:iQ p k=0
 ·rw [h3] at c1;refine aa.en Tryz.func172 rfl fun _=>aab ?_;refine aaa fun K hK=>?_;refine aap mixed (by kernel_rfl) rfl ?_;simp [h1,h2];refine ag.p 3 9 c1 ?_;simp;refine⟨by kernel_rfl,?_⟩;apply hK;exact aad (aq.rt rfl 6 (by simp [dQ,h1,h2,h3]))
 ·refine aa.en Tryz.func172 rfl fun _=>aab ?_;refine aaa fun K hK=>?_;refine aap mixed (by kernel_rfl) rfl ?_;simp [h1,h2];refine ag.p 3 9 c1 ?_;simp [h3];refine ag.p 3 9 c1 ?_;simp [h3];refine ag.p 3 9 c2 ?_;simp [h3];refine⟨by kernel_rfl,?_⟩;apply hK;exact aad (aq.rt rfl 6 (by simp [dQ,h1,h2,h3]))
def eF (op:Int):Int:=if 1≤op∧op≤15 then kA op else -1
theorem Mc(h1:1≤op) (h2:op≤15):eF op=if op≤3 then 0 else if op≤7 then 1 else if op≤13 then 2 else if op=14 then 3 else 4:=by
 unfold eF kA;rw [if_pos ⟨h1,h2⟩];(repeat' split) <;> rfl
theorem qy (G:List (List DV))(op:Int):aa Tryz.prog G 99 [.c (.d (.int .i64 op))] (.c (.d (.int .i64 (eF op)))):=by
 by_cases h1:op<1
 ·have hr:eF op = -1:=if_neg (by omega);refine aa.en Tryz.func99 rfl fun _=>aab ?_;refine aaa fun K hK=>aaf (aal h1 ?_)
  refine aah (aab ?_);exact aad (aq.rt rfl 2 (by simp [hr]))
 by_cases h2:15<op
 ·have hr:eF op = -1:=if_neg (by omega);refine aa.en Tryz.func99 rfl fun _=>aab ?_;refine aaa fun K hK=>aaf (aas h1 h2 ?_)
  refine aah (aab ?_);exact aad (aq.rt rfl 2 (by simp [hr]))
 have hv:=Mc (op:=op) (by omega) (by omega);refine aa.en Tryz.func99 rfl fun _=>aab ?_;refine aaa fun K hK=>aaf (aas h1 h2 ?_)
 refine aag ?_;refine aab ?_
 by_cases h3:op≤3
 ·have hr:eF op=0:=by rw [hv];rw [if_pos h3]
  refine aai (by simp [h3] <;> omega) (aab ?_);exact aad (aq.rt rfl 2 (by simp [hr]))
 refine aaj (by simp [h3] <;> omega) (aab ?_)
 by_cases h4:op≤7
 ·have hr:eF op=1:=by rw [hv];rw [if_neg h3];rw [if_pos h4]
  refine aai (by simp [h4] <;> omega) (aab ?_);exact aad (aq.rt rfl 2 (by simp [hr]))
 refine aaj (by simp [h4] <;> omega) (aab ?_)
 by_cases h5:op≤13
 ·have hr:eF op=2:=by rw [hv];rw [if_neg h3];rw [if_neg h4];rw [if_pos h5]
  refine aai (by simp [h5] <;> omega) (aab ?_);exact aad (aq.rt rfl 2 (by simp [hr]))
 refine aaj (by simp [h5] <;> omega) (aab ?_)
 by_cases h6:op=14
 ·have hr:eF op=3:=by rw [hv];rw [if_neg h3];rw [if_neg h4];rw [if_neg h5];rw [if_pos h6]
  refine aai (by simp [h6] <;> omega) (aab ?_);exact aad (aq.rt rfl 2 (by simp [hr]))
 refine aaj (by simp [h6] <;> omega) (aac (hK _ _ (aab ?_)));have hr:eF op=4:=by rw [hv,if_neg h3,if_neg h4,if_neg h5,if_neg h6]
 exact aad (aq.rt rfl 2 (by simp [hr]))
abbrev T5 (n:Nd):AV:=.agg [.d (.int .i64 n.a),.d (.int .i64 n.b),.d (.int .i64 n.c),.d (.int .i64 n.d)]
theorem NA (lv:Key→LB)(n:Nd):fR lv (T5 n)=some (T5 n,[]):=rfl
theorem Pk (a b c d:CV):eN Tryz.prog 85 [a,b,c,d]=some (.agg [a,b,c,d]):=by kernel_rfl
theorem uE (G:List (List DV))(n:Nd):aa Tryz.prog G 98 [n.A] (T5 n):=by
 refine aa.enc Tryz.func98 rfl (fun lv=>NA lv n) fun _=>aab ?_;refine aas @T6 @aj.eq_1 ?_;refine aam ?_;refine bD.cell (κ:=0) (T:=85) (t:=2) (k:=1) (off:=0) (own:=true) (fz:=false) (U:=85) (cs:=[.d (.int .i64 n.a),.d (.int .i64 n.b),.d (.int .i64 n.c),.d (.int .i64 n.d)]) rfl ?_ ?_ ?_
 ·simp
 ·simp [aj]
 ·rw [fQ];exact Pk ..
def zN (l:List Int):Option (List Int):=if l=[] then none else some l
theorem Ks (l:List Int):zL (zN l)=l:=by unfold zN;split <;> simp_all [zL]
theorem NQ (n:Nd)(i:Nat):((i:Int)<eF n.op)↔i<(bJ n).length:=by
 unfold eF bJ;have:=sJ n.op;split
 ·rw [WR,Nd.kq];omega
 ·simp <;> omega
theorem MF (n:Nd)(h:i<(bJ n).length):∃ h4:i<n.l4.length,(bJ n).take (i+1)=(bJ n).take i++[n.l4[i]]:=by
 have h0:bJ n=n.l4.take (kA n.op):=by
  unfold bJ at h ⊢;split
  ·rfl
  ·rename_i hh;rw [if_neg hh] at h;cases h
 have h4:i<n.l4.length:=by rw [h0,WR] at h;omega
 refine⟨h4,?_⟩;rw [YK,rP h];have:(bJ n)[i]=n.l4[i]:=by simp only [h0,X2]
 rw [this];rfl
theorem I2 (n:Nd)(g:Key→Key):(LB.cells true false 55 [.d (.int .i64 n.op),.d (.int .i64 n.a),.d (.int .i64 n.b),.d (.int .i64 n.c),.d (.int .i64 n.d),.d (.int .i64 n.f),.d (.str n.v)]).like (.cells true false 55 [.d (.int .i64 n.op),.d (.int .i64 n.a),.d (.int .i64 n.b),.d (.int .i64 n.c),.d (.int .i64 n.d),.d (.int .i64 n.f),.d (.str n.v)]) g:=LB.mF.2 ⟨rfl,rfl,rfl,id⟩
theorem CW (l:List Int)(g:Key→Key):(LB.cells true false 85 (zK l)).like (.cells true false 85 (zK l)) g:=by
 rw [Bb];exact Od ..
abbrev bN (n:Nd):LB:=.cells true false 55 [.d (.int .i64 n.op),.d (.int .i64 n.a),.d (.int .i64 n.b),.d (.int .i64 n.c),.d (.int .i64 n.d),.d (.int .i64 n.f),.d (.str n.v)]
theorem Mz {lv:Key→LB}{k:Key}{l:List Int}(hl:l.length≤1000) (h:lv k=zB l):∃ ks,fR lv (NZ k l)=some (.c (zC (zN l)),ks):=by
 unfold NZ zN
 by_cases hn:l=[]
 ·rw [if_pos hn,if_pos hn];exact⟨[],rfl⟩
 ·rw [if_neg hn,if_neg hn];refine⟨[k],Mp (by rw [h];exact if_neg hn) hl⟩
theorem He (G:List (List DV))(n:Nd):aa Tryz.prog G 36 [n.A] (.c (zC (zN (bJ n)))):=by
 have hf:=uE G n;have ha:=qy G n.op;have hka:=NQ n;have hkl:=ug n;have hzk:[CV.d (.int .i64 n.a),.d (.int .i64 n.b),.d (.int .i64 n.c),.d (.int .i64 n.d)]=zK n.l4:=rfl;refine aa.ed Tryz.func36 rfl fun _=>aab ?_;refine aak fun K hK=>?_;simp [aj];refine ag.p 1 9 hf ?_;simp;simp [aj];apply hK;refine aab ?_;refine aaa fun K hK=>aab ?_;refine aaf ?_
 refine aao (fun (i:Nat)=>⟨bf [(1,.c (.ptr 0 0)),(3,.c (.ptr 1 0)),(4,NZ 2 ((bJ n).take i)),(5,.c (.d (.int .i64 i)))],aC (aC (aC (fun _=>.hole) 0 (bN n)) 1 (.cells true false 85 (zK n.l4))) 2 (zB ((bJ n).take i))⟩) 10
  (fun i=>i≤(bJ n).length) (fun i=>(bJ n).length - i) 0 (Le.mW _ (by rw [List.take_zero];exact (Jz (k:=2) rfl).symm) (by simp [NZ])) (W2 _) ?_
 rintro i hi
 try simp only at hi
 refine aaa fun K3 hK3=>aaq 3 ha ?_
 by_cases hlt:i<(bJ n).length
 ·have hlt':(i:Int)<eF n.op:=(hka i).2 hlt;obtain⟨h4,hnx⟩:=MF n hlt;have hld:=Bp (P:=Tryz.prog) (T:=3) (by simp) h4;have hbs:∀ (lv:Key→LB) (h:lv 10=.hole) (a:CV),au Tryz.prog 30 1 [0] lv 10 [.c a]=some (.c (.aR 10 0 1 1),[(10,.cells true false 3 [a])],[],True):=fun lv h a=>UT lv 10 h a
  have hle:((bJ n).take i).length≤1000:=by rw [WR];omega
  have hli:((bJ n).take i).length=i:=by rw [WR];omega
  have f12:=bG (n:=(i:Int)+1) (by omega) (by omega);generalize (bJ n).take i=l at *
  generalize n.l4[i]=x at *
  have h44:i<4:=by omega
  refine aai (by simp [hlt'] <;> omega) (aac (hK3 _ _ (aaa fun K5 hK5=>aaf ?_)));refine aaz 10 ?_
  by_cases hl:l=[]
  ·subst hl;refine aae ?_;simp [hld,h44,HS,zB,NZ,hbs,dY,keyOf,-au]
   repeat refine ah ?_
   apply hK5;refine aae ?_;simp [f12];refine⟨i+1,Le.keys [(0,0,bN n),(1,1,.cells true false 85 (zK n.l4)),(2,11,zB ([]++[x]))] 19 _ (by rw [hnx];rfl) rfl (by simp) (by simp) (by simp) ?_ ?_,by omega,by omega⟩
   ·intro e he;simp only [WM,Xh,or_false] at he;rcases he with rfl|rfl|rfl
    ·exact I2 n _
    ·exact CW _ _
    ·rw [Gl];exact Jh [x] _
   ·rw [hnx,F4];simp [c7]
  ·have hzb:zB l=.cells true false 3 (zK l):=if_neg hl;have hzs:NZ 2 l=.c (.aR 2 0 l.length 1):=if_neg hl;have hzl:(zK l).length=l.length:=J0 l;refine aae ?_;simp [hld,h44,HS,hzb,hzs,hbs,dY,keyOf,hzl,-au]
   repeat refine ah ?_
   apply hK5;refine aae ?_;simp [f12];refine⟨i+1,Le.keys [(0,0,bN n),(1,1,.cells true false 85 (zK n.l4)),(2,11,zB (l++[x]))] 19 _ (by rw [hnx];rfl) rfl (by simp) (by simp) (by simp) ?_ ?_,by omega,by omega⟩
   ·intro e he;simp only [WM,Xh,or_false] at he;rcases he with rfl|rfl|rfl
    ·exact I2 n _
    ·exact CW _ _
    ·rw [Gl,show zK l++[CV.d (.int .i64 x)]=zK (l++[x]) by simp [zK]];exact Jh (l++[x]) _
   ·rw [hnx,F4];simp [c7]
 have hlt':¬ (i:Int)<eF n.op:=fun h=>hlt ((hka i).1 h)
 refine aaj (by simp [hlt'] <;> omega) (aan ?_);simp;have hie:i=(bJ n).length:=by omega
 subst hie;rw [List.take_length];apply hK;refine aab ?_;obtain⟨ks,hd⟩:=Mz (k:=2) (lv:=aC (aC (aC (fun _=>.hole) 0 (bN n)) 1 (.cells true false 85 (zK n.l4))) 2 (zB (bJ n))) (l:=bJ n) (by omega) (by simp);exact aam (κ:=0) (jr.tmp (κ:=0) (ks:=ks) rfl (by simp) hd)
theorem Md(h1:1≤op) (h2:op≤15):(iO op:Int)=if op=1∨op=2 then 1 else eF op:=by
 unfold iO eF;rw [if_pos (⟨h1,h2⟩:1≤op∧op≤15)];split <;> rfl
theorem AT (G:List (List DV))(n:Nd)(h1:1≤n.op)(h2:n.op≤15):aa Tryz.prog G 170 [n.A] (.c (.d (.bool (!lE n)))):=by
 have hf:=uE G n;have ha:=qy G n.op;have hle:=D8 n.op;have hu:=Md h1 h2;have hib:lE n=((n.l4.drop (iO n.op)).all (fun x=>decide (x=0)) && (decide (n.v=[]) || decide (n.op=3))):=rfl;generalize iO n.op=u at *
 refine aa.en Tryz.func170 rfl fun _=>aab ?_;refine aaq 1 ha ?_;refine aaa fun K hK=>?_
 have tail:∀ (fr:Nat→AV) (κ:Nat),fr 1=.c (.ptr 0 0)→fr 3=.c (.d (.int .i64 u))→K ⟨fr,aC (fun _=>.hole) 0 (bN n)⟩ κ:=by
  intro fr κ z1 z3;apply hK;refine aaz 1 ?_;refine aak fun K2 hK2=>?_;simp [z1,z3,aj];refine ag.p 1 9 hf ?_;simp;simp [aj];apply hK2;refine aaa fun K2 hK2=>aas z1 z3 ?_;refine aaf ?_
  refine aao (fun (i:Nat)=>⟨bf [(1,.c (.ptr 0 0)),(4,.c (.ptr 1 0)),(5,.c (.d (.int .i64 i)))],aC (aC (fun _=>.hole) 0 (bN n)) 1 (.cells true false 85 (zK n.l4))⟩) 10
   (fun i=>u≤i∧i≤4∧∀ j (hj:u≤j) (hj2:j<i) (h:j<n.l4.length),n.l4[j]=0) (fun i=>4 - i) u (Le.mW _ rfl (by simp [z1])) ⟨bg _,hle,fun j a b=>absurd b (by omega)⟩ ?_
  rintro i ⟨hi0,hi,hall⟩
  try simp only at hi0 hi hall
  refine aaa fun K3 hK3=>aab ?_
  by_cases hlt:i<4
  ·have h4:i<n.l4.length:=hlt;have hld:=Bp (P:=Tryz.prog) (T:=3) (by simp) h4;have f12:=bG (n:=(i:Int)+1) (by omega) (by omega);refine aai (by simp [hlt] <;> omega) (aac (hK3 _ _ (aaa fun K5 hK5=>aaf (aay hld hlt @HS ?_))))
   by_cases h0:n.l4[i]=0
   ·refine aaj (by simp [h0] <;> omega) (aac (hK5 _ _ (aae ?_)));simp [f12];refine⟨i+1,Le.mW _,⟨by omega,by omega,fun j a b h=>?_⟩,by omega⟩
    by_cases hji:j=i
    ·subst hji;exact h0
    ·exact hall j a (by omega) h
   ·have hb:lE n=false:=by
     rw [hib]
     have:(n.l4.drop u).all (fun x=>decide (x=0))=false:=by
      rw [Zb];refine⟨n.l4[i],?_,by simpa using h0⟩;rw [List.mem_iff_getElem];exact⟨i - u,by rw [XU,Nd.kq];omega,by simp [show u+(i - u)=i by omega]⟩
     rw [this];rfl
    refine aai (by simp [h0] <;> omega) (aab ?_);exact aad (aq.rt rfl 2 (by simp [hb]))
  ·have hall2:(n.l4.drop u).all (fun x=>decide (x=0))=true:=by
    rw [E5];intro x hx;obtain⟨j,hj,rfl⟩:=List.mem_iff_getElem.1 hx;rw [XU,Nd.kq] at hj;have:=hall (u+j) (by omega) (by omega) (by rw [Nd.kq];omega);simpa using this
   have hi2:lE n=(decide (n.v=[]) || decide (n.op=3)):=by rw [hib,hall2];rfl
   refine aaj (by simp [hlt] <;> omega) (aan (hK2 _ _ (aaa fun K5 hK5=>?_)))
   by_cases h3:n.op=3
   ·have t3:(n.op=3)=True:=eq_true h3;refine aat t3 (hK5 _ _ ?_);exact aad (aq.rt rfl 2 (by simp [hi2,t3]))
   ·refine aau h3 @AM (hK5 _ _ ?_);exact aad (aq.rt rfl 2 (by simp [hi2,h3]))
 refine aaa fun K1 hK1=>?_
 by_cases c1:n.op=1
 ·have hu1:u=1:=by rw [if_pos (.inl c1)] at hu;omega
  have t1:(n.op=1)=True:=eq_true c1;refine aat t1 (hK1 _ _ ?_);refine aah (aae ?_);simp;exact tail _ _ (by simp) (by simp [hu1])
 by_cases c2:n.op=2
 ·have hu1:u=1:=by rw [if_pos (.inr c2)] at hu;omega
  have t1:(n.op=2)=True:=eq_true c2;refine aau c1 t1 (hK1 _ _ ?_);refine aah (aae ?_);simp;exact tail _ _ (by simp) (by simp [hu1])
 rw [if_neg (by omega)] at hu;refine aau c1 c2 (hK1 _ _ ?_);refine aag (aac ?_);simp;exact tail _ _ (by simp) (by simp [hu])
theorem Eu (G:List (List DV))(p:PD):aa Tryz.prog G 89 [p.A] (.c (.d (.int .i64 (dH p)))):=by
 refine aa.en Tryz.func89 rfl fun _=>aab ?_;refine aal @fC ?_;have r0:dH p=if 6<p.nf∨6<p.ni∨64<p.nn∨4<p.ns then 3 else if p.nf=0∨p.nn=0∨p.mode<0∨4<p.mode then 2 else if p.head<0∨p.tail<p.head∨(p.nn:Int)<p.tail then 2 else if p.ns=0∧p.head≠p.nn then 2 else 0:=rfl
 refine aaa fun K hK=>aaa fun K1 hK1=>?_
 by_cases e00:6<p.nf
 ·have e00':(6:Int)<(p.nf:Int):=by omega
  have hr:dH p=3:=by rw [r0];exact if_pos (.inl e00)
  refine aae ?_;simp [qM,sX,fC,yD,e00,e00'];apply hK1;refine aah (aab ?_);exact aad (aq.rt rfl 2 (by simp [hr]))
 have e00':¬ (6:Int)<(p.nf:Int):=by omega
 by_cases e01:6<p.ni
 ·have e01':(6:Int)<(p.ni:Int):=by omega
  have hr:dH p=3:=by rw [r0];exact if_pos (.inr (.inl e01))
  refine aae ?_;simp [qM,sX,fC,yD,e00,e01,e00',e01'];apply hK1;refine aah (aab ?_);exact aad (aq.rt rfl 2 (by simp [hr]))
 have e01':¬ (6:Int)<(p.ni:Int):=by omega
 by_cases e02:64<p.nn
 ·have e02':(64:Int)<(p.nn:Int):=by omega
  have hr:dH p=3:=by rw [r0];exact if_pos (.inr (.inr (.inl e02)))
  refine aae ?_;simp [qM,sX,fC,yD,e00,e01,e02,e00',e01',e02'];apply hK1;refine aah (aab ?_);exact aad (aq.rt rfl 2 (by simp [hr]))
 have e02':¬ (64:Int)<(p.nn:Int):=by omega
 by_cases e03:4<p.ns
 ·have e03':(4:Int)<(p.ns:Int):=by omega
  have hr:dH p=3:=by rw [r0];exact if_pos (.inr (.inr (.inr (e03))))
  refine aae ?_;simp [qM,sX,fC,yD,e00,e01,e02,e03,e00',e01',e02',e03'];apply hK1;refine aah (aab ?_);exact aad (aq.rt rfl 2 (by simp [hr]))
 have e03':¬ (4:Int)<(p.ns:Int):=by omega
 have r1:=r0;rw [if_neg (by omega)] at r1;refine aae ?_;simp [qM,sX,fC,yD,e00,e01,e02,e03,e00',e01',e02',e03'];apply hK1;refine aag (aac (hK _ _ (aaa fun K hK=>aaa fun K1 hK1=>?_)))
 by_cases e10:p.nf=0
 ·have e10':(p.nf:Int)=0:=by omega
  have hr:dH p=2:=by rw [r1];exact if_pos (.inl e10)
  refine aae ?_;simp [qM,sX,fC,yD,e10,e10'];apply hK1;refine aah (aab ?_);exact aad (aq.rt rfl 2 (by simp [hr]))
 have e10':¬ (p.nf:Int)=0:=by omega
 by_cases e11:p.nn=0
 ·have e11':(p.nn:Int)=0:=by omega
  have hr:dH p=2:=by rw [r1];exact if_pos (.inr (.inl e11))
  refine aae ?_;simp [qM,sX,fC,yD,e10,e11,e10',e11'];apply hK1;refine aah (aab ?_);exact aad (aq.rt rfl 2 (by simp [hr]))
 have e11':¬ (p.nn:Int)=0:=by omega
 by_cases e12:p.mode<0
 ·have e12':p.mode<0:=by omega
  have hr:dH p=2:=by rw [r1];exact if_pos (.inr (.inr (.inl e12)))
  refine aae ?_;simp [qM,sX,fC,yD,e10,e11,e12,e10',e11',e12'];apply hK1;refine aah (aab ?_);exact aad (aq.rt rfl 2 (by simp [hr]))
 have e12':¬ p.mode<0:=by omega
 by_cases e13:4<p.mode
 ·have e13':4<p.mode:=by omega
  have hr:dH p=2:=by rw [r1];exact if_pos (.inr (.inr (.inr (e13))))
  refine aae ?_;simp [qM,sX,fC,yD,e10,e11,e12,e13,e10',e11',e12',e13'];apply hK1;refine aah (aab ?_);exact aad (aq.rt rfl 2 (by simp [hr]))
 have e13':¬ 4<p.mode:=by omega
 have r2:=r1;rw [if_neg (by omega)] at r2;refine aae ?_;simp [qM,sX,fC,yD,e10,e11,e12,e13,e10',e11',e12',e13'];apply hK1;refine aag (aac (hK _ _ (aaa fun K hK=>aaa fun K1 hK1=>?_)))
 by_cases e20:p.head<0
 ·have e20':p.head<0:=by omega
  have hr:dH p=2:=by rw [r2];exact if_pos (.inl e20)
  refine aae ?_;simp [qM,sX,fC,yD,e20,e20'];apply hK1;refine aah (aab ?_);exact aad (aq.rt rfl 2 (by simp [hr]))
 have e20':¬ p.head<0:=by omega
 by_cases e21:p.tail<p.head
 ·have e21':p.tail<p.head:=by omega
  have hr:dH p=2:=by rw [r2];exact if_pos (.inr (.inl e21))
  refine aae ?_;simp [qM,sX,fC,yD,e20,e21,e20',e21'];apply hK1;refine aah (aab ?_);exact aad (aq.rt rfl 2 (by simp [hr]))
 have e21':¬ p.tail<p.head:=by omega
 by_cases e22:(p.nn:Int)<p.tail
 ·have e22':(p.nn:Int)<p.tail:=by omega
  have hr:dH p=2:=by rw [r2];exact if_pos (.inr (.inr (e22)))
  refine aae ?_;simp [qM,sX,fC,yD,e20,e21,e22,e20',e21',e22'];apply hK1;refine aah (aab ?_);exact aad (aq.rt rfl 2 (by simp [hr]))
 have e22':¬ (p.nn:Int)<p.tail:=by omega
 have r3:=r2;rw [if_neg (by omega)] at r3
 have fin0:dH p=0→∀ (fr:Nat→AV) (κ:Nat) (lv:Key→LB),lv 9=.hole→K ⟨fr,lv⟩ κ:=by
  intro hg fr κ lv h9;apply hK;refine aab ?_;exact aam (κ:=0) (aq.tmp (κ:=0) rfl 9 (by simp [hg]) rfl (by simp [h9]) rfl)
 by_cases e3:p.ns=0
 ·have e3':(p.ns:Int)=0:=by omega
  by_cases e4:p.head<p.nn
  ·have hr:dH p=2:=by rw [r3,if_pos ⟨e3,by omega⟩]
   refine aae ?_;simp [qM,sX,fC,yD,e20,e21,e22,e20',e21',e22',e3,e3',e4];apply hK1;refine aah (aab ?_);exact aad (aq.rt rfl 2 (by simp [hr]))
  ·have hr:dH p=0:=by rw [r3,if_neg (fun h=>h.2 (by omega))]
   refine aae ?_;simp [qM,sX,fC,yD,e20,e21,e22,e20',e21',e22',e3,e3',e4];apply hK1;refine aag (aac ?_);simp;exact fin0 hr _ _ _ (by simp)
 ·have e3':¬ (p.ns:Int)=0:=by omega
  have hr:dH p=0:=by rw [r3,if_neg (fun h=>e3 h.1)]
  refine aae ?_;simp [qM,sX,fC,yD,e20,e21,e22,e20',e21',e22',e3,e3'];apply hK1;refine aag (aac ?_);simp;exact fin0 hr _ _ _ (by simp)
abbrev In.A (x:In):AV:=.agg [.d (.int .i64 x.f),.d (.str x.lo),.d (.str x.hi)]
abbrev Ww (x:Rat):List CV:=[.d (.int .i64 (eG x)),rC (ju x),rC (lF x)]
theorem EK (m:Int)(p:PD)(hp:p.ok)(x:In):aa Tryz.prog (GG m) 91 [p.A,In.A x] (.c (.d (.int .i64 (tO p x)))):=by
 have hwf:=jH (GG m) x.f p.nf;have hP1:=p7 (GG m) x.lo;have hP2:=p7 (GG m) x.hi;have z1:=vK x.lo;have z2:=vK x.hi
 by_cases h1:0≤x.f∧x.f<p.nf
 rotate_left
 ·have hd:decide (0≤x.f∧x.f<(p.nf:Int))=false:=decide_eq_false h1;have hr:tO p x=7:=by unfold tO;rw [if_pos h1]
  rw [hd] at hwf;refine aa.en Tryz.func91 rfl fun _=>aab ?_;refine aaa fun K hK=>aav 2 hwf @qM ?_;refine aah (aab ?_);exact aad (aq.rt (t:=4) rfl 9 (by simp [hr]))
 have hd:decide (0≤x.f∧x.f<(p.nf:Int))=true:=decide_eq_true h1;rw [hd] at hwf
 have r1:tO p x=if ez x.lo≠0 then ez x.lo else if ez x.hi≠0 then ez x.hi else if hasB (p.fm x.f.toNat).1 (p.fm x.f.toNat).2 (fj x.lo)=false then 7
  else if hasB (p.fm x.f.toNat).1 (p.fm x.f.toNat).2 (fj x.hi)=false then 7 else if 0<ia (fj x.lo) (fj x.hi) then 7 else 0:=by
  unfold tO;rw [if_neg (not_not_intro h1)]
 have hxf:=fun lv=>Tm hp lv x.f h1.1 h1.2
 generalize p.fm x.f.toNat=fe at *
 have hb1:=DZ m fe.1 fe.2 (fj x.lo) z1;have hb2:=DZ m fe.1 fe.2 (fj x.hi) z2;have hcm:=sR (GG m) (fj x.lo) (fj x.hi) (bQ z1 (by omega)) (bQ z2 (by omega));generalize fj x.lo=a at *
 generalize fj x.hi=b at *
 generalize ez x.lo=ea at *
 generalize ez x.hi=eb at *
 refine aa.en Tryz.func91 rfl fun _=>aab ?_;refine aaa fun K hK=>aav 2 hwf @qM ?_;refine aag (aac (hK _ _ (aav 2 hP1 @aj.eq_1 ?_)));refine aaa fun K hK=>aab ?_
 by_cases q1:ea=0
 rotate_left
 ·have hr:tO p x=ea:=by rw [r1,if_pos q1]
  refine aai (by simp [q1] <;> omega) (aab ?_);exact aad (aq.rt (t:=4) rfl 9 (by simp [hr]))
 refine aaj (by simp [q1] <;> omega) (aac (hK _ _ (aav 3 hP2 @aj.eq_1 ?_)));refine aaa fun K hK=>aab ?_
 by_cases q2:eb=0
 rotate_left
 ·have hr:tO p x=eb:=by rw [r1,if_neg (not_not_intro q1),if_pos q2]
  refine aai (by simp [q2] <;> omega) (aab ?_);exact aad (aq.rt (t:=4) rfl 9 (by simp [hr]))
 have r2:tO p x=if hasB fe.1 fe.2 a=false then 7 else if hasB fe.1 fe.2 b=false then 7 else if 0<ia a b then 7 else 0:=by
  rw [r1,if_neg (not_not_intro q1),if_neg (not_not_intro q2)]
 refine aaj (by simp [q2] <;> omega) (aac (hK _ _ (aas hxf @aj.eq_1 ?_)));refine aaa fun K hK=>aaa fun K4 hK4=>?_
 cases g1:hasB fe.1 fe.2 a with
 | false=>
  have hr:tO p x=7:=by rw [r2,if_pos g1]
  rw [g1] at hb1;refine aax 5 hb1 @iN (hK4 _ _ ?_);refine aah (aab ?_);exact aad (aq.rt (t:=4) rfl 9 (by simp [hr]))
 | true=>
 rw [g1] at hb1
 cases g2:hasB fe.1 fe.2 b with
 | false=>
  have hr:tO p x=7:=by rw [r2,g1,if_neg (by decide),if_pos g2]
  rw [g2] at hb2;refine aae ?_;simp [iN];refine ag.p 5 9 hb1 ?_;simp [iN];refine ag.p 5 9 hb2 ?_;simp;apply hK4;refine aah (aab ?_);exact aad (aq.rt (t:=4) rfl 9 (by simp [hr]))
 | true=>
 rw [g2] at hb2
 by_cases g3:0<ia a b
 ·have hr:tO p x=7:=by rw [r2,g1,if_neg (by decide),g2,if_neg (by decide),if_pos g3]
  refine aae ?_;simp [iN];refine ag.p 5 9 hb1 ?_;simp [iN];refine ag.p 5 9 hb2 ?_;simp [iN];refine ag.p 5 9 hcm ?_;simp;apply hK4;refine aai (by simp [g3] <;> omega) (aab ?_);exact aad (aq.rt (t:=4) rfl 9 (by simp [hr]))
 ·have hr:tO p x=0:=by rw [r2,g1,if_neg (by decide),g2,if_neg (by decide),if_neg g3]
  refine aae ?_;simp [iN];refine ag.p 5 9 hb1 ?_;simp [iN];refine ag.p 5 9 hb2 ?_;simp [iN];refine ag.p 5 9 hcm ?_;simp;apply hK4;refine aaj (by simp [g3] <;> omega) (aac (hK _ _ (aab ?_)));exact aad (aq.rt (t:=4) rfl 9 (by simp [hr]))
theorem Hj (m:Int)(p:PD)(hp:p.ok)(i:Nat)(hi:i<p.nn)(hn2:p.nn≤1000):aa Tryz.prog (GG m) 92 [p.A,.c (.d (.int .i64 i))] (.c (.d (.int .i64 (kj p i (p.nd i))))):=by
 have hx:=fun lv=>Nk p lv hp i hi
 obtain⟨n,hn⟩:∃ n,p.nd i=n:=⟨_,rfl⟩
 simp only [hn] at hx ⊢;have har:=qy (GG m) n.op;have hwf:=jH (GG m) n.f p.nf;have hwa:=jH (GG m) n.a p.ni;have hws:=jH (GG m) n.a p.ns;have hsee:=fun k=>Hu (GG m) p i k
 have hck:=DD (GG m) n.v;have hkd:=He (GG m) n
 by_cases h1:1≤n.op∧n.op≤15
 rotate_left
 ·have hr:kj p i n=2:=by unfold kj;rw [if_pos h1]
  have ha:eF n.op = -1:=if_neg h1;rw [ha] at har;refine aa.en Tryz.func92 rfl fun _=>aab ?_;refine aas hx @aj.eq_1 ?_;refine aaa fun K hK=>aaq 2 har ?_;refine aah (aab ?_);exact aad (aq.rt rfl 4 (by simp [hr]))
 have ha0:¬ eF n.op<0:=by
  have:eF n.op=kA n.op:=if_pos h1;omega
 have hid:=AT (GG m) n h1.1 h1.2;generalize eF n.op=ar at *
 cases hib:lE n with
 | false=>
  have hr:kj p i n=2:=by unfold kj;rw [if_neg (not_not_intro h1),if_pos hib]
  rw [hib] at hid;refine aa.en Tryz.func92 rfl fun _=>aab ?_;refine aas hx @aj.eq_1 ?_;refine aaa fun K hK=>aak fun K1 hK1=>?_;simp;refine ag.p 2 9 har ?_;simp [ha0];refine ag.p 2 9 hid ?_;simp [ha0];apply hK1;refine aah (aab ?_);exact aad (aq.rt rfl 4 (by simp [hr]))
 | true=>
 rw [hib] at hid;have ib:¬ lE n=false:=by rw [hib];decide
 refine aa.en Tryz.func92 rfl fun _=>aab ?_;refine aas hx @aj.eq_1 ?_;refine aaa fun K hK=>aak fun K1 hK1=>?_;simp;refine ag.p 2 9 har ?_;simp [ha0];refine ag.p 2 9 hid ?_;simp [ha0];apply hK1;refine aag (aac (hK _ _ (aaa fun K hK=>aaa fun K1 hK1=>?_)))
 by_cases h2:0≤n.f∧n.f<p.nf
 rotate_left
 ·have hd2:decide (0≤n.f∧n.f<(p.nf:Int))=false:=decide_eq_false h2;have hr:kj p i n=7:=by unfold kj;rw [if_neg (not_not_intro h1),if_neg ib,if_pos h2]
  rw [hd2] at hwf;refine aax 2 hwf @qM (hK1 _ _ ?_);refine aah (aab ?_);exact aad (aq.rt rfl 4 (by simp [hr]))
 have hd2:decide (0≤n.f∧n.f<(p.nf:Int))=true:=decide_eq_true h2;rw [hd2] at hwf
 have r2:kj p i n=if n.op=1∧¬ (0≤n.a∧n.a<p.ni) then 7 else if n.op=1∧(p.HL n.a.toNat).f≠n.f then 143 else if n.op=2∧((i:Int)<p.head∨¬ (0≤n.a∧n.a<p.ns)) then 7 else if n.op=3 then ez n.v else if (bJ n).all (dQ p i) then 0 else 7:=by
  unfold kj;rw [if_neg (not_not_intro h1),if_neg ib,if_neg (not_not_intro h2)]
 refine aax 2 hwf @qM (hK1 _ _ ?_);refine aag (aac (hK _ _ (aaa fun K hK=>?_)))
 have tail:∀ (fr:Nat→AV) (κ:Nat),fr 1=.c (.d (.int .i64 i))→fr 2=.c (.ptr 0 0)→fr 5=.c (.ptr 1 0)→(kj p i n=if (bJ n).all (dQ p i) then 0 else 7) →
  K ⟨fr,aC (aC (fun _=>.hole) 0 (.cells true false 27 p.cs)) 1 (bN n)⟩ κ:=by
  intro fr κ z1 z2 z5 hr;have hkl:=ug n;have lpk:=fun lv=>Ql (T:=30) (by simp) lv (zN (bJ n))
  have ixk:∀ lv (j:Nat) (hj:j<(bJ n).length),ak Tryz.prog 30 lv (.c (zC (zN (bJ n)))) (.c (.d (.int .i64 (j:Int))))=some (.c (.d (.ptr [.int .i64 (bJ n)[j]])),[],[],True):=by
   intro lv j hj;have:=SB (T:=30) (by simp) lv (zN (bJ n)) (i:=j) (by rw [Ks];exact hj);simp only [Ks] at this;exact this
  rw [Ks] at lpk;have hkz:(AV.c (zC (zN (bJ n)))).pure=true:=Ni _;have hkf:(AV.c (zC (zN (bJ n)))).bY=true:=Du _;generalize zC (zN (bJ n))=kz at *
  generalize bJ n=kl at *
  apply hK;refine aak fun K2 hK2=>?_;simp [z1,z2,z5];refine ag.pure 2 9 hkd hkz (by simp) (by first|rfl|simp) ?_;simp [z1,z2,z5];apply hK2;refine aaa fun K2 hK2=>aay z1 z2 z5 ?_;refine aaf ?_
  refine aao (fun (j:Nat)=>⟨bf [(1,.c (.d (.int .i64 i))),(2,.c (.ptr 0 0)),(6,.c kz),(7,.c (.d (.int .i64 j)))],aC (aC (fun _=>.hole) 0 (.cells true false 27 p.cs)) 1 (bN n)⟩) 10
   (fun j=>j≤kl.length∧∀ q,q<j→(h:q<kl.length)→dQ p i kl[q]=true) (fun j=>kl.length - j) 0 (Le.mW _ rfl (by simp [z1,z2,hkf])) ⟨W2 _,fun q hq=>absurd hq (by omega)⟩ ?_
  rintro j ⟨hj,hall⟩
  try simp only at hj hall
  refine aaa fun K5 hK5=>aal lpk ?_
  by_cases hlt:j<kl.length
  ·have hlt':(j:Int)<(kl.length:Int):=by omega
   have hxk:=fun lv=>ixk lv j hlt
   have hse:=hsee kl[j];have f12:=bG (n:=(j:Int)+1) (by omega) (by omega);refine aai (by simp [hlt'] <;> omega) (aac (hK5 _ _ (aaa fun K7 hK7=>aaf (aaa fun K8 hK8=>?_))))
   cases hs:dQ p i kl[j] with
   | true=>
    rw [hs] at hse;refine aap mixed (by kernel_rfl) rfl ?_;simp [hxk];refine ag.p 11 9 hse ?_;simp;refine⟨by kernel_rfl,?_⟩;apply hK8;refine aag (aac (hK7 _ _ (aae ?_)));simp [f12];refine⟨j+1,Le.mW _,⟨by omega,fun q hq h=>?_⟩,by omega⟩
    by_cases hji:q=j
    ·subst hji;exact hs
    ·exact hall q (by omega) h
   | false=>
    rw [hs] at hse
    have hb:kj p i n=7:=by
     rw [hr,if_neg];rw [Bool.not_eq_true,Zb];exact⟨kl[j],aW hlt,by rw [hs];decide⟩
    refine aap mixed (by kernel_rfl) rfl ?_;simp [hxk];refine ag.p 11 9 hse ?_;simp;refine⟨by kernel_rfl,?_⟩;apply hK8;refine aah (aab ?_);exact aad (aq.rt rfl 4 (by simp [hb]))
  ·have hlt':¬ (j:Int)<(kl.length:Int):=by omega
   have hb:kj p i n=0:=by
    rw [hr,if_pos];rw [E5];intro x hx;obtain⟨q,hq,rfl⟩:=List.mem_iff_getElem.1 hx;exact hall q (by omega) hq
   refine aaj (by simp [hlt'] <;> omega) (aan (hK2 _ _ (aab ?_)));exact aad (aq.rt rfl 4 (by simp [hb]))
 refine aab ?_;refine aaf ?_
 by_cases h3:n.op=1
 ·have n2:¬ n.op=2:=by omega
  have n3:¬ n.op=3:=by omega
  have t3:(n.op=1)=True:=eq_true h3;refine aal t3 ?_;refine aah (aaa fun K2 hK2=>aaa fun K3 hK3=>?_)
  by_cases h4:0≤n.a∧n.a<p.ni
  rotate_left
  ·have hd4:decide (0≤n.a∧n.a<(p.ni:Int))=false:=decide_eq_false h4;have hr:kj p i n=7:=by rw [r2,if_pos ⟨h3,h4⟩]
   rw [hd4] at hwa;refine aax 2 hwa @sX (hK3 _ _ ?_);refine aah (aab ?_);exact aad (aq.rt rfl 4 (by simp [hr]))
  have hd4:decide (0≤n.a∧n.a<(p.ni:Int))=true:=decide_eq_true h4;rw [hd4] at hwa;have hxi:=fun lv=>Tj hp lv n.a h4.1 h4.2
  refine aax 2 hwa @sX (hK3 _ _ ?_);refine aag (aac (hK2 _ _ (aaa fun K2 hK2=>?_)))
  by_cases h5:(p.HL n.a.toNat).f=n.f
  ·have hr:kj p i n=if (bJ n).all (dQ p i) then 0 else 7:=by
    rw [r2,if_neg (fun h=>h.2 h4),if_neg (fun h=>h.2 h5),if_neg (fun h=>n2 h.1),if_neg n3]
   refine AW.VR mixed hxi h5 (hK2 _ _ ?_);refine aag (aac ?_);simp;exact tail _ _ (by simp) (by simp) (by simp) hr
  ·have hr:kj p i n=143:=by rw [r2,if_neg (fun h=>h.2 h4),if_pos ⟨h3,h5⟩]
   refine AW.VR mixed hxi h5 (hK2 _ _ ?_);refine aah (aab ?_);exact aad (aq.rt rfl 4 (by simp [hr]))
 have r3:kj p i n=if n.op=2∧((i:Int)<p.head∨¬ (0≤n.a∧n.a<p.ns)) then 7 else if n.op=3 then ez n.v else if (bJ n).all (dQ p i) then 0 else 7:=by
  rw [r2,if_neg (fun h=>h3 h.1),if_neg (fun h=>h3 h.1)]
 refine aal h3 ?_;refine aag (aaa fun K2 hK2=>?_)
 by_cases h6:n.op=2
 ·have n3:¬ n.op=3:=by omega
  have t6:(n.op=2)=True:=eq_true h6;refine aat t6 (hK2 _ _ ?_);refine aah (aaa fun K2 hK2=>?_)
  by_cases h7:(i:Int)<p.head
  ·have hr:kj p i n=7:=by rw [r3,if_pos ⟨h6,.inl h7⟩]
   refine aat h7 (hK2 _ _ ?_);refine aah (aab ?_);exact aad (aq.rt rfl 4 (by simp [hr]))
  by_cases h8:0≤n.a∧n.a<p.ns
  ·have hd8:decide (0≤n.a∧n.a<(p.ns:Int))=true:=decide_eq_true h8;rw [hd8] at hws
   have hr:kj p i n=if (bJ n).all (dQ p i) then 0 else 7:=by
    rw [r3,if_neg (fun h=>h.2.elim h7 (fun h=>h h8)),if_neg n3]
   refine AW.m2 2 hws h7 @yD (hK2 _ _ ?_);refine aag (aac ?_);simp;exact tail _ _ (by simp) (by simp) (by simp) hr
  ·have hd8:decide (0≤n.a∧n.a<(p.ns:Int))=false:=decide_eq_false h8;rw [hd8] at hws;have hr:kj p i n=7:=by rw [r3,if_pos ⟨h6,.inr h8⟩]
   refine AW.m2 2 hws h7 @yD (hK2 _ _ ?_);refine aah (aab ?_);exact aad (aq.rt rfl 4 (by simp [hr]))
 have r4:kj p i n=if n.op=3 then ez n.v else if (bJ n).all (dQ p i) then 0 else 7:=by
  rw [r3,if_neg (fun h=>h6 h.1)]
 refine aat h6 (hK2 _ _ ?_);refine aag (aaa fun K2 hK2=>?_)
 by_cases h9:n.op=3
 ·have hr:kj p i n=ez n.v:=by rw [r4,if_pos h9]
  have t9:(n.op=3)=True:=eq_true h9;rw [← hr] at hck;refine aat t9 (hK2 _ _ ?_);refine aah (aaq 2 hck ?_);exact aad (aq.rt rfl 4 (by simp))
 ·have hr:kj p i n=if (bJ n).all (dQ p i) then 0 else 7:=by rw [r4,if_neg h9]
  refine aat h9 (hK2 _ _ ?_);refine aag (aac ?_);simp;exact tail _ _ (by simp) (by simp) (by simp) hr
theorem FC (m:Int)(p:PD)(hp:p.ok)(hg:dH p=0)(i:Nat)(hi:i<p.ns):aa Tryz.prog (GG m) 93 [p.A,.c (.d (.int .i64 i))] (.c (.d (.int .i64 (wC p i (p.st i))))):=by
 obtain⟨g1,g2,g3,_,_,g4,_⟩:=oT hg;have hx:=fun lv=>VE hp lv (i:Int) (by omega) (by omega)
 simp only [XH] at hx;generalize p.st i=s at *
 have hw1:=jH (GG m) s.1 p.head;have hw2:=jH (GG m) s.2 p.tail
 by_cases h1:0≤s.1∧s.1<p.head
 rotate_left
 ·have hd:decide (0≤s.1∧s.1<p.head)=false:=decide_eq_false h1;have hr:wC p i s=7:=by unfold wC;rw [if_pos h1]
  rw [hd] at hw1;refine aa.en Tryz.func93 rfl fun _=>aab ?_;refine aas hx @aj.eq_1 ?_;refine aaa fun K hK=>aaq 2 hw1 ?_;refine aah (aab ?_);exact aad (aq.rt rfl 4 (by simp [hr]))
 have hd:decide (0≤s.1∧s.1<p.head)=true:=decide_eq_true h1;rw [hd] at hw1
 by_cases h2:0≤s.2∧s.2<p.tail
 rotate_left
 ·have hd2:decide (0≤s.2∧s.2<p.tail)=false:=decide_eq_false h2;have hr:wC p i s=7:=by unfold wC;rw [if_neg (not_not_intro h1),if_pos h2]
  rw [hd2] at hw2;refine aa.en Tryz.func93 rfl fun _=>aab ?_;refine aas hx @aj.eq_1 ?_;refine aaa fun K hK=>aak fun K1 hK1=>?_;simp;refine ag.p 2 9 hw1 ?_;simp;refine ag.p 2 9 hw2 ?_;simp;apply hK1;refine aah (aab ?_);exact aad (aq.rt rfl 4 (by simp [hr]))
 have hd2:decide (0≤s.2∧s.2<p.tail)=true:=decide_eq_true h2;rw [hd2] at hw2;have x1:=fun lv=>Rq hp lv s.1 h1.1 (by omega)
 have x2:=fun lv=>Rq hp lv s.2 h2.1 (by omega)
 have hr:wC p i s=if (p.nd s.2.toNat).f≠(p.nd s.1.toNat).f then 143 else if (List.range p.nn).any (fun j=>iC i (p.nd s.1.toNat).f (p.nd j)) then 143 else 0:=by
  unfold wC;rw [if_neg (not_not_intro h1),if_neg (not_not_intro h2)]
 generalize p.nd s.1.toNat=n1 at *
 generalize p.nd s.2.toNat=n2 at *
 refine aa.Ol Tryz.func93 rfl fun _=>aab ?_;refine aas hx @aj.eq_1 ?_;refine aaa fun K hK=>aak fun K1 hK1=>?_;simp;refine ag.p 2 9 hw1 ?_;simp;refine ag.p 2 9 hw2 ?_;simp;apply hK1;refine aag (aac (hK _ _ (aal x1 ?_)));refine aaa fun K hK=>aaa fun K1 hK1=>?_
 by_cases h3:n2.f=n1.f
 rotate_left
 ·have hr2:wC p i s=143:=by rw [hr,if_pos h3]
  refine aau x2 h3 (hK1 _ _ ?_);refine aah (aab ?_);exact aad (aq.rt (t:=4) rfl 9 (by simp [hr2]))
 refine aau x2 h3 (hK1 _ _ ?_);refine aag (aac (hK _ _ (aaa fun K hK=>aab ?_)));refine aaf ?_
 refine aao (fun (j:Nat)=>⟨bf [(1,.c (.d (.int .i64 i))),(2,.c (.ptr 0 0)),(6,.c (.d (.int .i64 n1.f))),(7,.c (.d (.int .i64 j)))],aC (aC (fun _=>.hole) 0 (.cells true false 27 p.cs)) 1 (.cells true false 69 [.d (.int .i64 s.1),.d (.int .i64 s.2)])⟩) 2
  (fun j=>j≤p.nn∧∀ q,q<j→iC i n1.f (p.nd q)=false) (fun j=>p.nn - j) 0 (Le.mW _) ⟨by omega,fun q hq=>absurd hq (Xf q)⟩ ?_
 rintro j ⟨hj,hall⟩
 try simp only at hj hall
 refine aaa fun K3 hK3=>aal @fC ?_
 by_cases hlt:j<p.nn
 ·have hlt':(j:Int)<(p.nn:Int):=by omega
  have hxn:=fun lv=>Nk p lv hp j hlt
  have f12:=bG (n:=(j:Int)+1) (by omega) (by omega);refine aai (by simp [hlt'] <;> omega) (aac (hK3 _ _ (aaa fun K5 hK5=>aaf (aas hxn @aj.eq_1 ?_))));refine aaa fun K6 hK6=>?_;obtain⟨n,hn⟩:∃ n,p.nd j=n:=⟨_,rfl⟩
  rw [hn]
  by_cases a1:n.op=2
  rotate_left
  ·have hs:iC i n1.f (p.nd j)=false:=by rw [hn];simp [iC,a1]
   refine aat a1 (hK6 _ _ ?_);refine aag (aac (hK5 _ _ (aae ?_)));simp [f12];refine⟨j+1,(Le.zM [2] 9),⟨by omega,fun q hq=>?_⟩,by omega⟩
   by_cases hji:q=j
   ·subst hji;exact hs
   ·exact hall q (by omega)
  by_cases a2:n.a=(i:Int)
  rotate_left
  ·have hs:iC i n1.f (p.nd j)=false:=by rw [hn];simp [iC,a1,a2]
   refine aau a1 a2 (hK6 _ _ ?_);refine aag (aac (hK5 _ _ (aae ?_)));simp [f12];refine⟨j+1,(Le.zM [2] 9),⟨by omega,fun q hq=>?_⟩,by omega⟩
   by_cases hji:q=j
   ·subst hji;exact hs
   ·exact hall q (by omega)
  by_cases a3:n.f=n1.f
  ·have hs:iC i n1.f (p.nd j)=false:=by rw [hn];simp [iC,a1,a2,a3]
   refine aaB a1 a2 a3 (hK6 _ _ ?_);refine aag (aac (hK5 _ _ (aae ?_)));simp [f12];refine⟨j+1,(Le.zM [2] 9),⟨by omega,fun q hq=>?_⟩,by omega⟩
   by_cases hji:q=j
   ·subst hji;exact hs
   ·exact hall q (by omega)
  have hs:iC i n1.f (p.nd j)=true:=by rw [hn];simp [iC,a1,a2,a3]
  have hr2:wC p i s=143:=by
   rw [hr,if_neg (not_not_intro h3),if_pos];exact List.any_eq_true.2 ⟨j,List.mem_range.2 hlt,hs⟩
  refine aaB a1 a2 a3 (hK6 _ _ ?_);refine aah (aab ?_);exact aad (aq.rt (t:=4) rfl 9 (by simp [hr2]))
 ·have hlt':¬ (j:Int)<(p.nn:Int):=by omega
  have hs:(List.range p.nn).any (fun j=>iC i n1.f (p.nd j))=false:=by
   rw [Ze];intro q hq;rw [hall q (by have:=List.mem_range.1 hq;omega)];decide
  have hr2:wC p i s=0:=by rw [hr,if_neg (not_not_intro h3),hs,if_neg (by decide)]
  refine aaj (by simp [hlt'] <;> omega) (aan (hK _ _ (aab ?_)));exact aad (aq.rt (t:=4) rfl 9 (by simp [hr2]))
theorem oW(n:Nat)(hi:i<ku p k) (h0:cx p k i≠0) (h1:∀ j,j<i→cx p k j=0):eI p (n+1) k=((k:Int)+1,(i:Int),cx p k i):=by
 show (match mZ (cx p k) (ku p k) with|some i=>((k:Int)+1,(i:Int),cx p k i)|none=>eI p n (k+1))=_;rw [uw hi h0 h1]
theorem mT(n:Nat)(h1:∀ j,j<ku p k→cx p k j=0):eI p (n+1) k=eI p n (k+1):=by
 show (match mZ (cx p k) (ku p k) with|some i=>((k:Int)+1,(i:Int),cx p k i)|none=>eI p n (k+1))=_;rw [uK h1]
abbrev Uk (v:Int × Int × Int):AV:=.tup [.c (.d (.int .i64 v.1)),.c (.d (.int .i64 v.2.1)),.c (.d (.int .i64 v.2.2))]
theorem C3 (m:Int)(p:PD)(hp:p.ok):aa Tryz.prog (GG m) 32 [p.A] (Uk (bK p)):=by
 have hge:=Eu (GG m) p
 by_cases hg:dH p=0
 rotate_left
 ·have hr:bK p=(0,0,dH p):=by unfold bK;rw [if_pos hg]
  rw [hr];refine aa.en Tryz.func32 rfl fun _=>aab ?_;refine aaq 1 hge ?_;refine aaa fun K hK=>aab ?_;refine aai (by simp [hg] <;> omega) (aab ?_);exact aad (aq.t3 rfl 9 (by simp) (by simp) (by simp))
 have v0:bK p=eI p 4 0:=by unfold bK;rw [if_neg (not_not_intro hg)]
 rw [hg] at hge;have hrg:=oT hg;have hwi:=jH (GG m) p.res p.nn;have hse:=o5 (GG m) p p.res;have q0:=fun i=>uC (GG m) (p.fm i).1 (p.fm i).2
 have q1:=fun i=>EK m p hp (p.HL i)
 have q2:=fun i hi=>Hj m p hp i hi (by omega)
 have q3:=fun i hi=>FC m p hp hg i hi
 have x0:∀ lv (i:Nat),i<p.nf→ak Tryz.prog 22 lv (.c (dL p.f)) (.c (.d (.int .i64 (i:Int))))=some (.c (.d (.ptr (Tv (p.fm i)))),[],[],True):=by
  intro lv i hi;have:=Tm hp lv (i:Int) (by omega) (by omega)
  rwa [XH] at this
 have x1:=fun lv i hi=>UF p lv hp i hi
 refine aa.Ol Tryz.func32 rfl fun _=>aab ?_;refine aaq 1 hge ?_;refine aaa fun K hK=>aab ?_;refine aag (aac (hK _ _ (aaa fun Ka0 hKa0=>aab ?_)));refine aaf ?_
 refine aao (fun (i:Nat)=>⟨bf [(1,.c (.ptr 0 0)),(6,.c (.d (.int .i64 i)))],aC (fun _=>.hole) 0 (.cells true false 27 p.cs)⟩) 2
  (fun i=>i≤p.nf∧∀ j,j<i→cx p 0 j=0) (fun i=>p.nf - i) 0 (Le.mW _) ⟨by omega,fun j hj=>absurd hj (Xf j)⟩ ?_
 rintro i ⟨hi,hall⟩
 try simp only at hi hall
 refine aaa fun K3 hK3=>aal @qM ?_
 by_cases hlt:i<p.nf
 ·have hlt':(i:Int)<(p.nf:Int):=by omega
  have f12:=bG (n:=(i:Int)+1) (by omega) (by omega);have hxn:=fun lv=>x0 lv i hlt
  have hcc:=q0 i;have hE:fF (p.fm i).1 (p.fm i).2=cx p 0 i:=rfl;rw [hE] at hcc;refine aai (by simp [hlt'] <;> omega) (aac (hK3 _ _ (aaa fun K5 hK5=>aaf (aav 3 hcc hxn ?_))));refine aab ?_
  by_cases h0:cx p 0 i=0
  ·refine aaj (by simp [h0] <;> omega) (aac (hK5 _ _ (aae ?_)));simp [f12];refine⟨i+1,Le.mW _,⟨by omega,fun j hj=>?_⟩,by omega⟩
   by_cases hji:j=i
   ·subst hji;exact h0
   ·exact hall j (by omega)
  ·have hres:=v0.trans (oW 3 (k:=0) (i:=i) hlt h0 hall);refine aai (by simp [h0] <;> omega) (aab ?_);exact aad (aq.t3 rfl 9 (by simp [hres]) (by simp [hres]) (by simp [hres]))
 have hlt':¬ (i:Int)<(p.nf:Int):=by omega
 have v1:=v0.trans (mT 3 (k:=0) (fun j (hj:j<p.nf)=>hall j (by omega)));refine aaj (by simp [hlt'] <;> omega) (aan ?_);simp;clear hall hlt hlt';apply hKa0;refine aaa fun Ka1 hKa1=>aab ?_;refine aaf ?_
 refine aao (fun (i:Nat)=>⟨bf [(1,.c (.ptr 0 0)),(8,.c (.d (.int .i64 i)))],aC (fun _=>.hole) 0 (.cells true false 27 p.cs)⟩) 2
  (fun i=>i≤p.ni∧∀ j,j<i→cx p 1 j=0) (fun i=>p.ni - i) 0 (Le.mW _) ⟨by omega,fun j hj=>absurd hj (Xf j)⟩ ?_
 rintro i ⟨hi,hall⟩
 try simp only at hi hall
 refine aaa fun K3 hK3=>aal @sX ?_
 by_cases hlt:i<p.ni
 ·have hlt':(i:Int)<(p.ni:Int):=by omega
  have f12:=bG (n:=(i:Int)+1) (by omega) (by omega);have hxn:=fun lv=>x1 lv i hlt
  have hcc:=q1 i;have hE:tO p (p.HL i)=cx p 1 i:=rfl;rw [hE] at hcc;refine aai (by simp [hlt'] <;> omega) (aac (hK3 _ _ (aaa fun K5 hK5=>aaf (aaa fun K6 hK6=>?_))));refine aap mixed (by kernel_rfl) rfl ?_;simp [hxn];refine ag.p 3 9 hcc ?_;simp;refine⟨by kernel_rfl,?_⟩;apply hK6;refine aab ?_
  by_cases h0:cx p 1 i=0
  ·refine aaj (by simp [h0] <;> omega) (aac (hK5 _ _ (aae ?_)));simp [f12];refine⟨i+1,Le.mW _,⟨by omega,fun j hj=>?_⟩,by omega⟩
   by_cases hji:j=i
   ·subst hji;exact h0
   ·exact hall j (by omega)
  ·have hres:=v1.trans (oW 2 (k:=1) (i:=i) hlt h0 hall);refine aai (by simp [h0] <;> omega) (aab ?_);exact aad (aq.t3 rfl 9 (by simp [hres]) (by simp [hres]) (by simp [hres]))
 have hlt':¬ (i:Int)<(p.ni:Int):=by omega
 have v2:=v1.trans (mT 2 (k:=1) (fun j (hj:j<p.ni)=>hall j (by omega)));refine aaj (by simp [hlt'] <;> omega) (aan ?_);simp;clear hall hlt hlt';apply hKa1;refine aaa fun Ka2 hKa2=>aab ?_;refine aaf ?_
 refine aao (fun (i:Nat)=>⟨bf [(1,.c (.ptr 0 0)),(10,.c (.d (.int .i64 i)))],aC (fun _=>.hole) 0 (.cells true false 27 p.cs)⟩) 2
  (fun i=>i≤p.nn∧∀ j,j<i→cx p 2 j=0) (fun i=>p.nn - i) 0 (Le.mW _) ⟨by omega,fun j hj=>absurd hj (Xf j)⟩ ?_
 rintro i ⟨hi,hall⟩
 try simp only at hi hall
 refine aaa fun K3 hK3=>aal @fC ?_
 by_cases hlt:i<p.nn
 ·have hlt':(i:Int)<(p.nn:Int):=by omega
  have f12:=bG (n:=(i:Int)+1) (by omega) (by omega);have hxn:=True.intro;have hcc:=q2 i hlt;have hE:kj p i (p.nd i)=cx p 2 i:=rfl;rw [hE] at hcc;refine aai (by simp [hlt'] <;> omega) (aac (hK3 _ _ (aaa fun K5 hK5=>aaf (aaq 3 hcc ?_))));refine aab ?_
  by_cases h0:cx p 2 i=0
  ·refine aaj (by simp [h0] <;> omega) (aac (hK5 _ _ (aae ?_)));simp [f12];refine⟨i+1,Le.mW _,⟨by omega,fun j hj=>?_⟩,by omega⟩
   by_cases hji:j=i
   ·subst hji;exact h0
   ·exact hall j (by omega)
  ·have hres:=v2.trans (oW 1 (k:=2) (i:=i) hlt h0 hall);refine aai (by simp [h0] <;> omega) (aab ?_);exact aad (aq.t3 rfl 9 (by simp [hres]) (by simp [hres]) (by simp [hres]))
 have hlt':¬ (i:Int)<(p.nn:Int):=by omega
 have v3:=v2.trans (mT 1 (k:=2) (fun j (hj:j<p.nn)=>hall j (by omega)));refine aaj (by simp [hlt'] <;> omega) (aan ?_);simp;clear hall hlt hlt';apply hKa2;refine aaa fun Ka3 hKa3=>aab ?_;refine aaf ?_
 refine aao (fun (i:Nat)=>⟨bf [(1,.c (.ptr 0 0)),(12,.c (.d (.int .i64 i)))],aC (fun _=>.hole) 0 (.cells true false 27 p.cs)⟩) 2
  (fun i=>i≤p.ns∧∀ j,j<i→cx p 3 j=0) (fun i=>p.ns - i) 0 (Le.mW _) ⟨by omega,fun j hj=>absurd hj (Xf j)⟩ ?_
 rintro i ⟨hi,hall⟩
 try simp only at hi hall
 refine aaa fun K3 hK3=>aal @yD ?_
 by_cases hlt:i<p.ns
 ·have hlt':(i:Int)<(p.ns:Int):=by omega
  have f12:=bG (n:=(i:Int)+1) (by omega) (by omega);have hxn:=True.intro;have hcc:=q3 i hlt;have hE:wC p i (p.st i)=cx p 3 i:=rfl;rw [hE] at hcc;refine aai (by simp [hlt'] <;> omega) (aac (hK3 _ _ (aaa fun K5 hK5=>aaf (aaq 3 hcc ?_))));refine aab ?_
  by_cases h0:cx p 3 i=0
  ·refine aaj (by simp [h0] <;> omega) (aac (hK5 _ _ (aae ?_)));simp [f12];refine⟨i+1,Le.mW _,⟨by omega,fun j hj=>?_⟩,by omega⟩
   by_cases hji:j=i
   ·subst hji;exact h0
   ·exact hall j (by omega)
  ·have hres:=v3.trans (oW 0 (k:=3) (i:=i) hlt h0 hall);refine aai (by simp [h0] <;> omega) (aab ?_);exact aad (aq.t3 rfl 9 (by simp [hres]) (by simp [hres]) (by simp [hres]))
 have hlt':¬ (i:Int)<(p.ns:Int):=by omega
 have v4:=v3.trans (mT 0 (k:=3) (fun j (hj:j<p.ns)=>hall j (by omega)));refine aaj (by simp [hlt'] <;> omega) (aan ?_);simp;clear hall hlt hlt';apply hKa3;have hfin:bK p=if 0≤p.res∧p.res<p.nn∧iQ p p.res≠1 then (0,0,0) else (5,0,7):=v4
 refine aaa fun K hK=>aaa fun K1 hK1=>?_
 by_cases h1:0≤p.res∧p.res<p.nn
 rotate_left
 ·have hd:decide (0≤p.res∧p.res<(p.nn:Int))=false:=decide_eq_false h1;have hres:bK p=(5,0,7):=by rw [hfin,if_neg (fun h=>h1 ⟨h.1,h.2.1⟩)]
  rw [hd] at hwi;refine aax 3 hwi @fC (hK1 _ _ ?_);refine aah (aab ?_);exact aad (aq.t3 rfl 9 (by simp [hres]) (by simp [hres]) (by simp [hres]))
 have hd:decide (0≤p.res∧p.res<(p.nn:Int))=true:=decide_eq_true h1;rw [hd] at hwi
 by_cases h2:iQ p p.res=1
 ·have hres:bK p=(5,0,7):=by rw [hfin,if_neg (fun h=>h.2.2 h2)]
  rw [h2] at hse;refine aae ?_;simp [fC];refine ag.p 3 9 hwi ?_;simp;refine ag.p 3 9 hse ?_;simp;apply hK1;refine aah (aab ?_);exact aad (aq.t3 rfl 9 (by simp [hres]) (by simp [hres]) (by simp [hres]))
 ·have hres:bK p=(0,0,0):=by rw [hfin,if_pos ⟨h1.1,h1.2,h2⟩]
  refine aae ?_;simp [fC];refine ag.p 3 9 hwi ?_;simp;refine ag.p 3 9 hse ?_;simp [h2];apply hK1;refine aaj (by simp [h2] <;> omega) (aac (hK _ _ (aab ?_)));exact aad (aq.t3 rfl 9 (by simp [hres]) (by simp [hres]) (by simp [hres]))
end Go.Am
