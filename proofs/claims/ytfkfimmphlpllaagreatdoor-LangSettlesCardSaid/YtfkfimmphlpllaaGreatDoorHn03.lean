/- Helpers: an abstract machine for Go functions, and walks of functions of the program. -/
import Derived.Test.YtfkfimmphlpllaaGreatDoorHn02

set_option linter.all false
set_option maxHeartbeats 8000000
set_option maxRecDepth 100000
namespace Go.Am
variable {x y:Code}{a b:RunT}{f g:Rec}{N:Nat}{s s':au}{e:Ex}{c:Ctx}
section
variable {P:Program}{G:List (List DV)}
theorem gQ {α:Type}{l:List α}:Bd l=true↔l=[]:=by cases l <;> simp [Bd]
theorem GS {k:Key}{l:List Key}(h:NN k l=true):l=[k]:=by
 unfold NN at h;split at h
 ·rw [Y9 h]
 ·cases h
theorem sF (P:Program)(f:Rec)(d:Option Nat)(fr:Nat→AV)(lv:Key→LB):(iV P f).e.app d ⟨fr,lv⟩=⟨Ln d f.x fr,aR lv (tw f.us)⟩:=by
 show au.put ⟨fr,aR lv (tw f.us)⟩ d f.x=_;rw [rD]
theorem Iq(h:FD P f g=true):(iV P f).apart (iV P g):=by
 unfold FD at h;simp only [cy,Zp,Zd,YU] at h;obtain⟨⟨⟨⟨h1,h2⟩,h3⟩,h4⟩,h5⟩:=h
 have hmem:∀ {us:List (Key × LB)}{k:Key},k∈(tw us).map (·.1)→∃ p∈us,p.1=k:=by
  intro us k hk;rw [KV] at hk;simpa using hk
 refine⟨fun ha=>?_,fun ha=>?_,?_,?_,?_⟩
 ·rcases h1 with h1|h1
  ·have:f.all=true:=ha;rw [this] at h1;cases h1
  ·exact oX.2 (gQ.1 h1)
 ·rcases h2 with h2|h2
  ·have:g.all=true:=ha;rw [this] at h2;cases h2
  ·exact oX.2 (gQ.1 h2)
 ·intro k hk hk';obtain⟨p,hp,rfl⟩:=hmem hk;obtain⟨q,hq,e⟩:=hmem hk';have:=h3 p hp;rw [List.any_eq_false] at this;exact this q hq (by rw [e];exact Nat.beq_refl _)
 ·intro k hk;obtain⟨p,hp,rfl⟩:=hmem hk;rcases h4 p hp with h|h
  ·left;intro hm;have hm':p.1∈g.rds:=hm;rw [nF.2 hm'] at h;cases h
  ·right;exact⟨oX.2 (gQ.1 h.1.1),GS h.1.2,h.2⟩
 ·intro k hk;obtain⟨p,hp,rfl⟩:=hmem hk;rcases h5 p hp with h|h
  ·left;intro hm;have hm':p.1∈f.rds:=hm;rw [nF.2 hm'] at h;cases h
  ·right;exact⟨oX.2 (gQ.1 h.1.1),GS h.1.2,h.2⟩
theorem qf(h:Rec.idle f=true∨Rec.idle g=true∨(Rec.quiet f=true∧Rec.quiet g=true)):(iV P f).apart (iV P g):=by
 have key:∀ {us:List (Key × LB)},us=[]→tw us=[]:=fun h=>oX.2 h
 rcases h with h|h|⟨h,h'⟩
 ·unfold Rec.idle at h;simp only [cy,Zd] at h;have h1:=key (gQ.1 h.1.1);have h2:=gQ.1 h.1.2;refine⟨fun ha=>?_,fun _=>h1,?_,?_,?_⟩
  ·have:f.all=true:=ha;rw [h.2] at this;cases this
  ·intro k hk;have:(iV P f).e.us=[]:=h1;rw [this] at hk;cases hk
  ·intro k hk;have:(iV P f).e.us=[]:=h1;rw [this] at hk;cases hk
  ·intro k _;left;have:(iV P f).e.rds=[]:=h2;rw [this];simp
 ·unfold Rec.idle at h;simp only [cy,Zd] at h;have h1:=key (gQ.1 h.1.1);have h2:=gQ.1 h.1.2;refine⟨fun _=>h1,fun ha=>?_,?_,?_,?_⟩
  ·have:g.all=true:=ha;rw [h.2] at this;cases this
  ·intro k _ hk;have:(iV P g).e.us=[]:=h1;rw [this] at hk;cases hk
  ·intro k _;left;have:(iV P g).e.rds=[]:=h2;rw [this];simp
  ·intro k hk;have:(iV P g).e.us=[]:=h1;rw [this] at hk;cases hk
 ·unfold Rec.quiet at h h';simp only [cy,Zd] at h h';have h1:=key (gQ.1 h.1);have h2:=key (gQ.1 h'.1);refine⟨fun _=>h2,fun _=>h1,?_,?_,?_⟩
  ·intro k hk;have:(iV P f).e.us=[]:=h1;rw [this] at hk;cases hk
  ·intro k hk;have:(iV P f).e.us=[]:=h1;rw [this] at hk;cases hk
  ·intro k hk;have:(iV P g).e.us=[]:=h2;rw [this] at hk;cases hk
theorem yb {ms:List Nat}:∀ {r:List Rec}{j0:Nat}{before:List (Nat × Rec)},Oe.pairs P ms r j0 before=true →
 (∀ (j:Nat) g,r[j]?=some g→∀ p∈before,(ms.getD (j0+j) 0).testBit p.1=true∨(iV P p.2).apart (iV P g)) ∧
 (∀ (i j:Nat) f g,i<j→r[i]?=some f→r[j]?=some g→(ms.getD (j0+j) 0).testBit (j0+i)=true∨(iV P f).apart (iV P g))
 | [],j0,before,h=>⟨fun j g hg=>by simp at hg,fun i j f g _ hf=>by simp at hf⟩
 | a::r,j0,before,h=>by
  unfold Oe.pairs at h
  cases hi:Rec.idle a with
  | true=>
   rw [hi] at h;simp only [cond_true] at h;obtain⟨h1,h2⟩:=yb h;refine⟨fun j g hg p hp=>?_,fun i j f g hij hf hg=>?_⟩
   ·cases j with
    | zero=>simp only [aaW,ai] at hg;subst hg;exact .inr (qf (.inr (.inl hi)))
    | succ j=>
     have:=h1 j g (by simpa using hg) p hp;have e:j0+1+j=j0+(j+1):=by omega
     rwa [e] at this
   ·cases j with
    | zero=>omega
    | succ j=>
     cases i with
     | zero=>simp only [aaW,ai] at hf;subst hf;exact .inr (qf (.inl hi))
     | succ i=>
      have:=h2 i j f g (by omega) (by simpa using hf) (by simpa using hg);have e:j0+1+j=j0+(j+1):=by omega
      have e2:j0+1+i=j0+(i+1):=by omega
      rwa [e,e2] at this
  | false=>
   rw [hi] at h;simp only [cond_false,cy,YU,Zp] at h;obtain⟨h0,h⟩:=h;obtain⟨h1,h2⟩:=yb h;refine⟨fun j g hg p hp=>?_,fun i j f g hij hf hg=>?_⟩
   ·cases j with
    | zero=>
     simp only [aaW,ai] at hg;subst hg;rcases h0 p hp with (h3|h3)|h3
     ·exact .inr (qf (.inr (.inr ⟨h3.2,h3.1⟩)))
     ·exact .inl h3
     ·exact .inr (Iq h3)
    | succ j=>
     have:=h1 j g (by simpa using hg) p (ZX _ hp);have e:j0+1+j=j0+(j+1):=by omega
     rwa [e] at this
   ·cases j with
    | zero=>omega
    | succ j=>
     have e:j0+1+j=j0+(j+1):=by omega
     cases i with
     | zero=>
      simp only [aaW,ai] at hf;subst hf;have:=h1 j g (by simpa using hg) (j0,a) (ZP ..);rw [e] at this;exact this
     | succ i=>
      have:=h2 i j f g (by omega) (by simpa using hf) (by simpa using hg);have e2:j0+1+i=j0+(i+1):=by omega
      rwa [e,e2] at this
theorem oC {call:er}(hc:ke P G call) {ops:Array Oper}:∀ {os:List Oper}{fr:Tb AV}{lv:Tb LB}{nx:Nat}{lg:List Key}{acc:List Rec}{k:List Rec→Tb AV→Tb LB→Nat→List Key→cV}{r:cV},
 iU P G call ops os fr lv nx lg acc k=r→Good r→cN (aV lv) →
 ∃ (rs:List Rec) (fr':Tb AV) (lv':Tb LB) (nx':Nat) (l:List Key),k (rs.reverse++acc) fr' lv' nx' (l++lg)=r∧cN (aV lv')∧jP lv lv' l∧∀ c:Ctx,c.P=P→c.G=G→cu c.n os=true→iX c none ops os (rs.map (iV P)) (SS fr lv) (SS fr' lv')
 | [],fr,lv,nx,lg,acc,k,r,h,hg,ho=>⟨[],fr,lv,nx,[],h,ho,jP.refl _,fun c _ _ _=>rfl⟩
 | o::os,fr,lv,nx,lg,acc,k,r,h,hg,ho=>by
  have h0:(lT (eC ops o.guard (jO fr)) (.bad 8 [o.op]) fun b=>
   eS b (eI o.dst .undef fr fun fr=>iU P G call ops os fr lv nx lg (⟨.undef,[],[],false,lv,o.op,[],nx⟩::acc) k)
    (Rr.rec (motive:=fun _=>cV)
     (fun _=>.bad 9 [o.op])
     (fun cl fo=>eS (NX ops)
      (uZ P G call o.op cl fo fr lv nx [] (fun x lv' nx' lg'=>dY x fun x=>eI o.dst x fr fun fr=>iU P G call ops os fr lv' nx' (lg'++lg) (⟨x,lg'.map fun q=>(q,aV lv' q),[],true,lv,o.op,[],nx⟩::acc) k) (fun _ _ _ _=>.bad 10 [o.op]))
      (tX P G call o.op cl fo fr lv nx fun x us rds nx'=>dY x fun x=>eI o.dst x fr fun fr=>Ao us lv lg fun lv' lg=>iU P G call ops os fr lv' nx' lg (⟨x,us,rds,false,lv,o.op,[],nx⟩::acc) k))
     (ON P o.op (gG G fr o.op.operands.toList) lv nx fun x us rds=>MF nx us fun nx'=>dY x fun x=>eI o.dst x fr fun fr'=>Ao us lv lg fun lv' lg=>iU P G call ops os fr' lv' nx' lg (⟨x,us,rds,false,lv,o.op,gG G fr o.op.operands.toList,nx⟩::acc) k)
     (uq o.op)))=r:=h
  obtain⟨b,hw,h1⟩:=dG h0 hg.ne
  cases b with
  | false=>
   have h1':eI o.dst .undef fr (fun fr=>iU P G call ops os fr lv nx lg (⟨.undef,[],[],false,lv,o.op,[],nx⟩::acc) k)=r:=h1;obtain⟨fr1,h2,e1⟩:=j9 h1';obtain⟨rs,fr',lv',nx',l,q1,q2,q3,q4⟩:=oC hc h2 hg ho;refine⟨⟨.undef,[],[],false,lv,o.op,[],nx⟩::rs,fr',lv',nx',l,by simpa using q1,q2,q3,fun c hP hG hd=>?_⟩;obtain⟨hd1,hd2⟩:=jW hd;refine⟨lS.skip hd1 hw,rfl,?_⟩
   have:(iV P ⟨.undef,[],[],false,lv,o.op,[],nx⟩).e.app o.dst (SS fr lv)=SS fr1 lv:=by
    unfold SS;rw [sF,← e1];rfl
   rw [this];exact q4 c hP hG hd2
  | true=>
   cases ek:uq o.op with
   | tq x=>rw [ek] at h1;exact absurd h1 hg.ne
   | call cl fo=>
    rw [ek] at h1;obtain⟨hop,hcal⟩:=Az ek
    have h1':eS (NX ops)
     (uZ P G call o.op cl fo fr lv nx [] (fun x lv' nx' lg'=>dY x fun x=>eI o.dst x fr fun fr=>iU P G call ops os fr lv' nx' (lg'++lg) (⟨x,lg'.map fun q=>(q,aV lv' q),[],true,lv,o.op,[],nx⟩::acc) k) (fun _ _ _ _=>.bad 10 [o.op]))
     (tX P G call o.op cl fo fr lv nx fun x us rds nx'=>dY x fun x=>eI o.dst x fr fun fr=>Ao us lv lg fun lv' lg=>iU P G call ops os fr lv' nx' lg (⟨x,us,rds,false,lv,o.op,[],nx⟩::acc) k)=r:=h1
    cases hi:NX ops with
    | false=>
     rw [hi] at h1';have h2:uZ P G call o.op cl fo fr lv nx [] (fun x lv' nx' lg'=>dY x fun x=>eI o.dst x fr fun fr=>iU P G call ops os fr lv' nx' (lg'++lg) (⟨x,lg'.map fun q=>(q,aV lv' q),[],true,lv,o.op,[],nx⟩::acc) k) (fun _ _ _ _=>.bad 10 [o.op])=r:=h1';obtain⟨f,fs,cs,c1,c2,c3⟩:=Eo hc h2 hg ho;rcases c3 with ⟨x,lv1,nx1,l1,d1,d2,d3,d4⟩|⟨d,lv1,nx1,l1,d1,_⟩
     ·rw [jc,Zr] at d1;have d1':eI o.dst x fr (fun fr=>iU P G call ops os fr lv1 nx1 (l1++lg) (⟨x,l1.map fun q=>(q,aV lv1 q),[],true,lv,o.op,[],nx⟩::acc) k)=r:=d1;obtain⟨fr1,h3,e1⟩:=j9 d1';obtain⟨rs,fr',lv',nx',l,q1,q2,q3,q4⟩:=oC hc h3 hg d3;refine⟨⟨x,l1.map fun q=>(q,aV lv1 q),[],true,lv,o.op,[],nx⟩::rs,fr',lv',nx',l++l1,by simpa [YZ] using q1,q2,d4.trans q3,fun c hP hG hd=>?_⟩;obtain⟨hd1,hd2⟩:=jW hd;refine⟨lS.N2 hP hG hd1 hw hop hcal c1 c2 ho d3 d4 d2,rfl,?_⟩
      have:(iV P ⟨x,l1.map fun q=>(q,aV lv1 q),[],true,lv,o.op,[],nx⟩).e.app o.dst (SS fr lv)=SS fr1 lv1:=by
       unfold SS;rw [sF,Sc d4 d3,← e1]
      rw [this];exact q4 c hP hG hd2
     ·exact absurd d1 hg.ne
    | true=>
     rw [hi] at h1';have h2:tX P G call o.op cl fo fr lv nx (fun x us rds nx'=>dY x fun x=>eI o.dst x fr fun fr=>Ao us lv lg fun lv' lg=>iU P G call ops os fr lv' nx' lg (⟨x,us,rds,false,lv,o.op,[],nx⟩::acc) k)=r:=h1';obtain⟨f,fs,cs,x,us,rds,nx1,c1,c2,d1,c3⟩:=I6 hc h2 hg;rw [jc] at d1;have d1':eI o.dst x fr (fun fr=>Ao us lv lg fun lv' lg=>iU P G call ops os fr lv' nx1 lg (⟨x,us,rds,false,lv,o.op,[],nx⟩::acc) k)=r:=d1;obtain⟨fr1,h3,e1⟩:=j9 d1';have h3':Ao us lv lg (fun lv' lg=>iU P G call ops os fr1 lv' nx1 lg (⟨x,us,rds,false,lv,o.op,[],nx⟩::acc) k)=r:=h3;obtain⟨lv1,l1,h5,e2,e3,e4⟩:=yI h3' hg ho;obtain⟨rs,fr',lv',nx',l,q1,q2,q3,q4⟩:=oC hc h5 hg e3;refine⟨⟨x,us,rds,false,lv,o.op,[],nx⟩::rs,fr',lv',nx',l++l1,by simpa [YZ] using q1,q2,e4.trans q3,fun c hP hG hd=>?_⟩;obtain⟨hd1,hd2⟩:=jW hd;have heff:cO c none ops o (SS fr lv) ⟨x,us,rds⟩:=cO.call hd1 hw hop hcal (by rw [hG];exact c1) (by rw [hP];exact c2) (by rw [hG];exact c3 c hP hG);refine⟨lS.JJ heff (fun lv' hok=>?_),rfl,?_⟩
     ·rcases hok with ⟨h1,_⟩|⟨_,h1|⟨h1,j,h2,h3⟩⟩
      ·cases h1
      ·exact DO h1
      ·exfalso;obtain⟨vc,g1,_⟩:=Dr h3;simp only at g1;rw [hop] at g1;have g2:iy P cl [] (aD (aV lv) j (lv' j)) nx=some (x,[],[j],vc):=g1;unfold iy at g2;rw [hcal] at g2;cases g2
     ·have:(iV P ⟨x,us,rds,false,lv,o.op,[],nx⟩).e.app o.dst (SS fr lv)=SS fr1 lv1:=by
       unfold SS;rw [sF,← e1,← e2]
      rw [this];exact q4 c hP hG hd2
   | plain=>
    rw [ek] at h1;have h1':ON P o.op (gG G fr o.op.operands.toList) lv nx (fun x us rds=>MF nx us fun nx'=>dY x fun x=>eI o.dst x fr fun fr'=>Ao us lv lg fun lv' lg=>iU P G call ops os fr' lv' nx' lg (⟨x,us,rds,false,lv,o.op,gG G fr o.op.operands.toList,nx⟩::acc) k)=r:=h1;obtain⟨x,us,rds,h2,hdo⟩:=Js h1' hg;have h2':MF nx us (fun nx'=>dY x fun x=>eI o.dst x fr fun fr'=>Ao us lv lg fun lv' lg=>iU P G call ops os fr' lv' nx' lg (⟨x,us,rds,false,lv,o.op,gG G fr o.op.operands.toList,nx⟩::acc) k)=r:=h2;obtain⟨nx1,h3⟩:=Fq h2';rw [jc] at h3;obtain⟨fr1,h4,e1⟩:=j9 h3;have h4':Ao us lv lg (fun lv' lg=>iU P G call ops os fr1 lv' nx1 lg (⟨x,us,rds,false,lv,o.op,gG G fr o.op.operands.toList,nx⟩::acc) k)=r:=h4;obtain⟨lv1,l1,h5,e2,e3,e4⟩:=yI h4' hg ho;obtain⟨rs,fr',lv',nx',l,q1,q2,q3,q4⟩:=oC hc h5 hg e3;refine⟨⟨x,us,rds,false,lv,o.op,gG G fr o.op.operands.toList,nx⟩::rs,fr',lv',nx',l++l1,by simpa [YZ] using q1,q2,e4.trans q3,fun c hP hG hd=>?_⟩;obtain⟨hd1,hd2⟩:=jW hd;refine⟨lS.plain hP hG hd1 hw hdo,rfl,?_⟩
    have:(iV P ⟨x,us,rds,false,lv,o.op,gG G fr o.op.operands.toList,nx⟩).e.app o.dst (SS fr lv)=SS fr1 lv1:=by
     unfold SS;rw [sF,← e1,← e2]
    rw [this];exact q4 c hP hG hd2
def oe (P:Program)(G:List (List DV))(N:Nat)(x:Code)(s s':au)(e:Ex):Prop:=
 ∀ c:Ctx,c.P=P→c.G=G→c.n=N→∀ F β a w,aE c F β s a w→x.wpIn (nS none) 0 c.P (fun ex a' w'=>∃ F' β',aE c F' β' s' a' w'∧EC e ex F' w') a w
def kO (P:Program)(G:List (List DV))(x:Code)(run:RunT):Prop:=∀ call,ke P G call→∀ N fr lv nx lg k r,run call N fr lv nx lg k=r→Good r→cN (aV lv) →
 ∃ e fr' lv' nx' l,k e fr' lv' nx' (l++lg)=r∧cN (aV lv')∧jP lv lv' l∧oe P G N x (SS fr lv) (SS fr' lv') e
theorem IY (hm:P.follows .mixedOrders=true)(id:Nat)(ops:Array Oper)(dr:Bool):kO P G (.region id ops dr) (C2 P G id ops dr):=by
 intro call hc N fr lv nx lg k r h hg ho
 have h0:eS (cu N ops.toList) (.bad 11 []) (Bool.rec (motive:=fun _=>cV) (xZ P G call ops ops.toList fr lv nx lg k)
  (eS (eX ops) (.bad 12 []) (iU P G call ops ops.toList fr lv nx lg [] fun acc fr lv nx lg=>eS (Oe P (fX ops.toList []) acc.reverse) (.bad 13 (ops.toList.map (·.op))) (k .normal fr lv nx lg))) dr)=r:=h
 obtain⟨hd,h1⟩:=dj h0 hg.ne
 cases dr with
 | false=>
  obtain⟨e,fr',lv',nx',l,q1,q2,q3,q4⟩:=wL hc h1 hg ho;refine⟨e,fr',lv',nx',l,q1,q2,q3,?_⟩;intro c hP hG hn F β a w hs;refine wpIn_region ?_;have:=q4 c 0 _ hP hG (by rw [hn];exact hd) rfl (fun F' β' a' w' ex h1 h2=>(⟨F',β',h1,h2⟩:∃ F' β',aE c F' β' (SS fr' lv') a' w'∧EC e ex F' w')) F β a w hs;rw [List.range_eq_range'];simpa using this
 | true=>
  obtain⟨hst,h2⟩:=dj h1 hg.ne;obtain⟨rs,fr',lv',nx',l,q1,q2,q3,q4⟩:=oC hc h2 hg ho;rw [Zr,List.reverse_reverse] at q1;obtain⟨hi,h3⟩:=dj q1 hg.ne;refine⟨.normal,fr',lv',nx',l,h3,q2,q3,?_⟩;intro c hP hG hn F β a w hs;have hch:=q4 c hP hG (by rw [hn];exact hd);have hp:=yb (P:=P) (ms:=fX ops.toList []) (r:=rs) (j0:=0) (before:=[]) hi;unfold eX at hst;simp only [cy,YU,aaV] at hst;obtain⟨hs1,hs2⟩:=hst;have hanc:∀ i j,((fX ops.toList []).getD j 0).testBit i=true→uX ops i j:=iF ops.toList [] (by simp) (fun i j h=>by simp at h)
  refine iX.draw (by rw [hP];exact hm) hch (fun i o ho ed hed hb=>nG ops.toList 0 rfl hs1 i o (Y4 _) ho ed hed hb) (fun i j o o' f g hij ho ho' hf hg=>?_)
   (fun F' β' a' w' h'=>⟨F',β',h',rfl⟩) hs
  have hj:j<ops.size:=(Array.getElem?_eq_some_iff.1 ho').1;rw [ZO,Y8] at hf hg;obtain⟨f0,hf0,rfl⟩:=hf;obtain⟨g0,hg0,rfl⟩:=hg;have h5:=hs2 j hj i hij;rw [ho,ho'] at h5;simp only [Zp] at h5;rcases h5 with h5|h5
  ·exact .inl (hanc i j h5)
  ·rcases hp.2 i j f0 g0 hij hf0 hg0 with h6|h6
   ·simp only [Y5] at h6;exact .inl (hanc i j h6)
   ·exact .inr ⟨h5,h6⟩
theorem oe.mono(h:oe P G N x s s' e)(hP:c.P=P) (hG:c.G=G) (hn:c.n=N) {Q:Exit→Act→World→Prop}
 (hQ:∀ F' β' a' w' ex,aE c F' β' s' a' w'→EC e ex F' w'→Q ex a' w') {F:Nat→Prop}{β:Key→Nat}{a:Act}{w:World}(hs:aE c F β s a w):x.wpIn (nS none) 0 c.P Q a w:=
 wpIn_mono (h c hP hG hn F β a w hs) fun ex a' w' ⟨F',β',h1,h2⟩=>hQ F' β' a' w' ex h1 h2
theorem QB(ha:kO P G x a) (hb:kO P G y b):kO P G (.seq x y) (Pd x y a b):=by
 intro call hc N fr lv nx lg k r h hg ho;obtain⟨e,fr1,lv1,nx1,l1,q1,q2,q3,q4⟩:=ha call hc N fr lv nx lg _ r h hg ho
 cases e with
 | normal=>
  have q1':b call N fr1 lv1 nx1 (l1++lg) k=r:=q1;obtain⟨e,fr',lv',nx',l,p1,p2,p3,p4⟩:=hb call hc N fr1 lv1 nx1 _ k r q1' hg q2;refine⟨e,fr',lv',nx',l++l1,by rw [YZ];exact p1,p2,q3.trans p3,?_⟩;intro c hP hG hn F β ac w hs;refine wpIn_seq (q4.mono hP hG hn (fun F' β' a' w' ex h1 h2=>?_) hs);have:ex=.normal:=h2;subst this;exact p4 c hP hG hn F' β' a' w' h1
 | exit id=>
  refine⟨.exit id,fr1,lv1,nx1,l1,q1,q2,q3,fun c hP hG hn F β ac w hs=>wpIn_seq (q4.mono hP hG hn (fun F' β' a' w' ex h1 h2=>?_) hs)⟩;have:ex=.exit id:=h2;subst this;exact⟨F',β',h1,rfl⟩
 | goto id=>
  refine⟨.goto id,fr1,lv1,nx1,l1,q1,q2,q3,fun c hP hG hn F β ac w hs=>wpIn_seq (q4.mono hP hG hn (fun F' β' a' w' ex h1 h2=>?_) hs)⟩;have:ex=.goto id:=h2;subst this;exact⟨F',β',h1,rfl⟩
 | ret=>
  refine⟨.ret,fr1,lv1,nx1,l1,q1,q2,q3,fun c hP hG hn F β ac w hs=>wpIn_seq (q4.mono hP hG hn (fun F' β' a' w' ex h1 h2=>?_) hs)⟩;have:ex=.ret:=h2;subst this;exact⟨F',β',h1,rfl⟩
 | panic d=>
  refine⟨.panic d,fr1,lv1,nx1,l1,q1,q2,q3,fun c hP hG hn F β ac w hs=>wpIn_seq (q4.mono hP hG hn (fun F' β' a' w' ex h1 h2=>?_) hs)⟩;obtain⟨v,rfl,hv⟩:=h2;exact⟨F',β',h1,v,rfl,hv⟩
theorem OI {o:Operand}(ha:kO P G x a) (hb:kO P G y b):kO P G (.cond o x y) (Jp G o x y a b):=by
 intro call hc N fr lv nx lg k r h hg ho;have h0:L4 (zx G fr o) (b call N fr lv nx lg k) (a call N fr lv nx lg k)=r:=h;unfold L4 at h0;split at h0
 ·rename_i t ht
  rw [rz G fr (aV lv)] at ht
  cases t with
  | false=>
   obtain⟨e,fr',lv',nx',l,p1,p2,p3,p4⟩:=hb call hc N fr lv nx lg k r h0 hg ho;refine⟨e,fr',lv',nx',l,p1,p2,p3,fun c hP hG hn F β ac w hs=>?_⟩;have hv:=hs.val o;have ht':(SS fr lv).val c.G o=.c (.d (.bool false)):=by rw [hG];exact ht
   rw [ht'] at hv;exact wpIn_cond_false (Vw.qp hv) (p4 c hP hG hn F β ac w hs)
  | true=>
   obtain⟨e,fr',lv',nx',l,p1,p2,p3,p4⟩:=ha call hc N fr lv nx lg k r h0 hg ho;refine⟨e,fr',lv',nx',l,p1,p2,p3,fun c hP hG hn F β ac w hs=>?_⟩;have hv:=hs.val o;have ht':(SS fr lv).val c.G o=.c (.d (.bool true)):=by rw [hG];exact ht
   rw [ht'] at hv;exact wpIn_cond_true (Vw.qp hv) (p4 c hP hG hn F β ac w hs)
 ·exact absurd h0 hg.ne
theorem LH {id:Nat}(ha:kO P G x a):kO P G (.block id x) (Hl id x a):=by
 intro call hc N fr lv nx lg k r h hg ho;obtain⟨e,fr1,lv1,nx1,l1,q1,q2,q3,q4⟩:=ha call hc N fr lv nx lg _ r h hg ho
 cases e with
 | normal=>
  refine⟨.normal,fr1,lv1,nx1,l1,q1,q2,q3,fun c hP hG hn F β ac w hs=>wpIn_block (q4.mono hP hG hn (fun F' β' a' w' ex h1 h2=>?_) hs)⟩;have:ex=.normal:=h2;subst this;exact⟨F',β',h1,rfl⟩
 | exit i=>
  have q1':Bool.rec (motive:=fun _=>cV) (k (.exit i) fr1 lv1 nx1 (l1++lg)) (k .normal fr1 lv1 nx1 (l1++lg)) (Nat.beq i id)=r:=q1
  cases hb:Nat.beq i id with
  | true=>
   rw [hb] at q1';have:=Y9 hb;subst this;refine⟨.normal,fr1,lv1,nx1,l1,q1',q2,q3,fun c hP hG hn F β ac w hs=>wpIn_block (q4.mono hP hG hn (fun F' β' a' w' ex h1 h2=>?_) hs)⟩;have:ex=.exit i:=h2;subst this;simp only [Exit.inBlock,if_true];exact⟨F',β',h1,rfl⟩
  | false=>
   rw [hb] at q1';have hne:=abk hb;refine⟨.exit i,fr1,lv1,nx1,l1,q1',q2,q3,fun c hP hG hn F β ac w hs=>wpIn_block (q4.mono hP hG hn (fun F' β' a' w' ex h1 h2=>?_) hs)⟩;have:ex=.exit i:=h2;subst this;simp only [Exit.inBlock,if_neg hne];exact⟨F',β',h1,rfl⟩
 | goto i=>
  refine⟨.goto i,fr1,lv1,nx1,l1,q1,q2,q3,fun c hP hG hn F β ac w hs=>wpIn_block (q4.mono hP hG hn (fun F' β' a' w' ex h1 h2=>?_) hs)⟩;have:ex=.goto i:=h2;subst this;exact⟨F',β',h1,rfl⟩
 | ret=>
  refine⟨.ret,fr1,lv1,nx1,l1,q1,q2,q3,fun c hP hG hn F β ac w hs=>wpIn_block (q4.mono hP hG hn (fun F' β' a' w' ex h1 h2=>?_) hs)⟩;have:ex=.ret:=h2;subst this;exact⟨F',β',h1,rfl⟩
 | panic d=>
  refine⟨.panic d,fr1,lv1,nx1,l1,q1,q2,q3,fun c hP hG hn F β ac w hs=>wpIn_block (q4.mono hP hG hn (fun F' β' a' w' ex h1 h2=>?_) hs)⟩;obtain⟨v,rfl,hv⟩:=h2;exact⟨F',β',h1,v,rfl,hv⟩
theorem OB(ha:kO P G x a):kO P G (.loop x) (JX x a):=by
 intro call hc N fr lv nx lg k r h hg ho
 have key:∀ m (fr:Tb AV) (lv:Tb LB) (nx:Nat) (lg:List Key),KA a call N m fr lv nx lg k=r→cN (aV lv) →
  ∃ e fr' lv' nx' l,k e fr' lv' nx' (l++lg)=r∧cN (aV lv')∧jP lv lv' l ∧
   ∀ c:Ctx,c.P=P→c.G=G→c.n=N→∀ F β ac w,aE c F β (SS fr lv) ac w→Code.roundsIn (nS none) 0 c.P x (fun ex a' w'=>∃ F' β',aE c F' β' (SS fr' lv') a' w'∧EC e ex F' w') m ac w:=by
  intro m
  induction m with
  | zero=>intro fr lv nx lg h _;exact absurd h hg.ne
  | succ m ih=>
   intro fr lv nx lg h ho;obtain⟨e,fr1,lv1,nx1,l1,q1,q2,q3,q4⟩:=ha call hc N fr lv nx lg _ r h hg ho
   cases e with
   | normal=>
    have q1':KA a call N m fr1 lv1 nx1 (l1++lg) k=r:=q1;obtain⟨e,fr',lv',nx',l,p1,p2,p3,p4⟩:=ih fr1 lv1 nx1 _ q1' q2;refine⟨e,fr',lv',nx',l++l1,by rw [YZ];exact p1,p2,q3.trans p3,fun c hP hG hn F β ac w hs=>?_⟩;rw [roundsIn_succ];refine q4.mono hP hG hn (fun F' β' a' w' ex h1 h2=>?_) hs;have:ex=.normal:=h2;subst this;exact p4 c hP hG hn F' β' a' w' h1
   | exit i=>
    refine⟨.exit i,fr1,lv1,nx1,l1,q1,q2,q3,fun c hP hG hn F β ac w hs=>?_⟩;rw [roundsIn_succ];refine q4.mono hP hG hn (fun F' β' a' w' ex h1 h2=>?_) hs;have:ex=.exit i:=h2;subst this;exact⟨F',β',h1,rfl⟩
   | goto i=>
    refine⟨.goto i,fr1,lv1,nx1,l1,q1,q2,q3,fun c hP hG hn F β ac w hs=>?_⟩;rw [roundsIn_succ];refine q4.mono hP hG hn (fun F' β' a' w' ex h1 h2=>?_) hs;have:ex=.goto i:=h2;subst this;exact⟨F',β',h1,rfl⟩
   | ret=>
    refine⟨.ret,fr1,lv1,nx1,l1,q1,q2,q3,fun c hP hG hn F β ac w hs=>?_⟩;rw [roundsIn_succ];refine q4.mono hP hG hn (fun F' β' a' w' ex h1 h2=>?_) hs;have:ex=.ret:=h2;subst this;exact⟨F',β',h1,rfl⟩
   | panic d=>
    refine⟨.panic d,fr1,lv1,nx1,l1,q1,q2,q3,fun c hP hG hn F β ac w hs=>?_⟩;rw [roundsIn_succ];refine q4.mono hP hG hn (fun F' β' a' w' ex h1 h2=>?_) hs;obtain⟨v,rfl,hv⟩:=h2;exact⟨F',β',h1,v,rfl,hv⟩
 obtain⟨e,fr',lv',nx',l,p1,p2,p3,p4⟩:=key 1000000 fr lv nx lg h ho;exact⟨e,fr',lv',nx',l,p1,p2,p3,fun c hP hG hn F β ac w hs=>wpIn_loop_rounds _ (p4 c hP hG hn F β ac w hs)⟩
theorem Ov (hm:P.follows .mixedOrders=true)(x:Code):kO P G x (runK P G x):=by
 have leaf:∀ {y:Code}{e:Ex},(∀ c:Ctx,∀ ex,e=ex→True)→(∀ (c:Ctx) (s:au) F β a w,aE c F β s a w→y.wpIn (nS none) 0 c.P (fun ex a' w'=>∃ F' β',aE c F' β' s a' w'∧EC e ex F' w') a w) →
  kO P G y (fun _ _ fr lv nx lg k=>k e fr lv nx lg):=by
  intro y e _ hy call hc N fr lv nx lg k r h hg ho;exact⟨e,fr,lv,nx,[],h,ho,jP.refl _,fun c _ _ _ F β a w hs=>hy c _ F β a w hs⟩
 have bad:∀ y:Code,kO P G y Hf:=fun y call hc N fr lv nx lg k r h hg ho=>absurd h hg.ne
 induction x with
 | skip=>exact leaf (e:=.normal) (fun _ _ _=>trivial) fun c s F β a w hs=>wpIn_skip ⟨F,β,hs,rfl⟩
 | region id ops dr=>exact IY hm id ops dr
 | seq a b iha ihb=>exact QB iha ihb
 | cond o a b iha ihb=>exact OI iha ihb
 | block id a iha=>exact LH iha
 | loop a iha=>exact OB iha
 | rangeFunc f ps a b _ _=>exact bad _
 | exit id=>exact leaf (e:=.exit id) (fun _ _ _=>trivial) fun c s F β a w hs=>wpIn_exit ⟨F,β,hs,rfl⟩
 | scope a _=>exact bad _
 | label l=>exact leaf (e:=.normal) (fun _ _ _=>trivial) fun c s F β a w hs=>wpIn_label ⟨F,β,hs,rfl⟩
 | goto l=>exact leaf (e:=.goto l) (fun _ _ _=>trivial) fun c s F β a w hs=>wpIn_goto ⟨F,β,hs,rfl⟩
 | ret=>exact leaf (e:=.ret) (fun _ _ _=>trivial) fun c s F β a w hs=>wpIn_ret ⟨F,β,hs,rfl⟩
 | refuse w=>exact bad _
theorem CZ:∀ {us:List AV}{i:Nat}{fr:Tb AV}{k:Tb AV→cV}{r:cV},KS us i fr k=r →
 ∃ fr',k fr'=r∧∀ j:Nat,jO fr' j=if i≤j∧j<i+us.length then us.getD (j - i) .undef else jO fr j
 | [],i,fr,k,r,h=>⟨fr,h,fun j=>by rw [if_neg (by simp only [aaX];omega)]⟩
 | x::us,i,fr,k,r,h=>by
  have h1:(Tb.A9 .undef x (pathOf i) fr fun fr=>KS us (Nat.succ i) fr k)=r:=h;rw [Tb.kN] at h1;obtain⟨fr',e1,e2⟩:=CZ h1;refine⟨fr',e1,fun j=>?_⟩;rw [e2 j,Ed]
  by_cases hj:j=i
  ·subst hj;rw [if_neg (by omega),if_pos (by simp),az];simp
  ·rw [aC _ _ hj]
   by_cases h2:Nat.succ i≤j∧j<Nat.succ i+us.length
   ·rw [if_pos h2,if_pos (by simp;omega)];have:j - i=(j - Nat.succ i)+1:=by omega
    rw [this];rfl
   ·rw [if_neg h2,if_neg (by simp;omega)]
theorem oe.aw(h:oe P G N x s s' e)(hP:c.P=P) (hG:c.G=G) (hn:c.n=N) {κ:Nat}{Q:Ex→au→Nat→Prop}(hQ:Q e s' 0):AW c none x s κ Q:=
 fun F β a w hs=>h.mono hP hG hn (fun F' β' a' w' ex h1 h2=>⟨e,s',0,F',β',hQ,h1,h2⟩) hs
theorem MQ (hm:P.follows .mixedOrders=true){call:er}(hc:ke P G call):ke P G (Nf P G call):=by
 intro f us lv nx lg kr kp r h hg ho;unfold Nf at h;obtain⟨fn,h1,h2⟩:=dG h hg.ne;obtain⟨code,h3,h4⟩:=dG h2 hg.ne;obtain⟨h5,h6⟩:=dj h4 hg.ne;obtain⟨fr,h7,h8⟩:=CZ h6;obtain⟨e,fr',lv',nx',l,q1,q2,q3,q4⟩:=Ov hm code call hc fn.ntmps fr lv nx lg _ r h7 hg ho
 have hfr:jO fr=fun t=>us.getD t .undef:=by
  funext j;rw [h8 j]
  by_cases hj:j<us.length
  ·rw [if_pos ⟨Y4 _,by omega⟩,Nat.sub_zero]
  ·rw [if_neg (by omega),c8 hj];show Tb.get AV.undef .leaf _=_;exact Tb.dZ _ _
 have hSS:SS fr lv=⟨fun t=>us.getD t .undef,aV lv⟩:=by unfold SS;rw [hfr]
 rw [hSS] at q4
 cases e with
 | normal=>
  have q1':(lT (cM P ⟨jO fr',aV lv'⟩ fn.results.toList) (.bad 20 []) fun x=>dY x fun x=>kr x lv' nx' (l++lg))=r:=q1;obtain⟨x,h9,h10⟩:=dG q1' hg.ne;rw [jc] at h10;exact .inl ⟨x,lv',nx',l,h10,bO.ny (κ:=0) h1 h3 (Ze h5) fun c hP hG hn _=>q4.aw hP hG hn ⟨by rw [hP];exact h9,rfl⟩,q2,q3⟩
 | ret=>
  have q1':(lT (cM P ⟨jO fr',aV lv'⟩ fn.results.toList) (.bad 23 []) fun x=>dY x fun x=>kr x lv' nx' (l++lg))=r:=q1;obtain⟨x,h9,h10⟩:=dG q1' hg.ne;rw [jc] at h10;exact .inl ⟨x,lv',nx',l,h10,bO.ny (κ:=0) h1 h3 (Ze h5) fun c hP hG hn _=>q4.aw hP hG hn ⟨by rw [hP];exact h9,rfl⟩,q2,q3⟩
 | panic d=>
  have q1':kp d lv' nx' (l++lg)=r:=q1;exact .inr ⟨d,lv',nx',l,q1',bO.ny (κ:=0) h1 h3 (Ze h5) fun c hP hG hn _=>q4.aw hP hG hn ⟨rfl,rfl⟩,q2,q3⟩
 | exit i=>exact absurd q1 hg.ne
 | goto i=>exact absurd q1 hg.ne
structure xb (P:Program) (G:List (List DV)) (sp:Tb Spec) (ft:TypeId):Prop where
 pure:∀ f g us x,sp.get .body (pathOf f)=.pure g→g us=some x→∀ lv,cN lv→bO P G f us lv (.ret x lv)
 wX:∀ f,sp.get .body (pathOf f)=.caught→∀ v t fs cs lv lv' x,cj v=some (t,fs,cs)→aT P t=true→cN lv→bO P G t (fs++cs) lv (.ret x lv')→bO P G f [v] lv (.ret (.c (.d (.int .i64 0))) lv')
 wP:∀ f,sp.get .body (pathOf f)=.caught→∀ v t fs cs lv lv' n,cj v=some (t,fs,cs)→aT P t=true→cN lv→bO P G t (fs++cs) lv (.tq (.iface ft (.agg [.int .i64 n])) lv')→bO P G f [v] lv (.ret (.c (.d (.int .i64 n))) lv')
 Hv:∀ f g,sp.get .body (pathOf f)=.self g→∀ lv k off T cs r,cN lv→g T off cs.length=true→lv k=.cells false false T cs→cs.drop off=.d .nilp::r→bO P G f [.c (.ptr k off)] lv (.ret (.tup []) (aD lv k (.cells false false T (aj cs off [.ptr k off]))))
 HB:∀ f g,sp.get .body (pathOf f)=.self g→∀ lv k off T cs r,cN lv→g T off cs.length=true→lv k=.cells false false T cs→cs.drop off=.ptr k off::r→bO P G f [.c (.ptr k off)] lv (.ret (.tup []) lv)
theorem Gm (hm:P.follows .mixedOrders=true){sp:Tb Spec}{ft:TypeId}(hsp:xb P G sp ft):∀ n,ke P G (Rx P G sp ft n)
 | 0=>fun f us lv nx lg kr kp r h hg ho=>absurd h hg.ne
 | n+1=>fun f us lv nx lg kr kp r h hg ho=>by
  have ih:=Gm hm hsp n;have h0:Spec.rec (motive:=fun _=>cV) (Nf P G (Rx P G sp ft n) f us lv nx lg kr kp) (fun g=>lT (g us) (.bad 29 []) fun x=>dY x fun x=>kr x lv nx lg) (wQ P ft (Rx P G sp ft n) us lv nx lg kr) (fun g=>Hq g us lv nx lg kr) (sp.get .body (pathOf f))=r:=h
  cases es:sp.get .body (pathOf f) with
  | body=>rw [es] at h0;exact MQ hm ih f us lv nx lg kr kp r h0 hg ho
  | pure g=>
   rw [es] at h0;obtain⟨x,h1,h2⟩:=dG h0 hg.ne;rw [jc] at h2;exact .inl ⟨x,lv,nx,[],h2,hsp.pure f g us x es h1 _ ho,ho,jP.refl _⟩
  | caught=>
   rw [es] at h0;have h1:wQ P ft (Rx P G sp ft n) us lv nx lg kr=r:=h0;unfold wQ at h1;split at h1
   ·rename_i v
    obtain⟨⟨t,fs,cs⟩,h2,h3⟩:=dG h1 hg.ne;obtain⟨h4,h5⟩:=dj h3 hg.ne;rcases ih _ _ _ _ _ _ _ _ h5 hg ho with ⟨x,lv',nx',l,q1,q2,q3,q4⟩|⟨d,lv',nx',l,q1,q2,q3,q4⟩
    ·exact .inl ⟨_,lv',nx',l,q1,hsp.wX f es v t fs cs _ _ x h2 h4 ho q2,q3,q4⟩
    ·split at q1
     ·rename_i t' m
      obtain⟨hb,q5⟩:=dj q1 hg.ne;have:=Y9 hb;subst this;exact .inl ⟨_,lv',nx',l,q5,hsp.wP f es v t fs cs _ _ m h2 h4 ho q2,q3,q4⟩
     ·exact absurd q1 hg.ne
   ·exact absurd h1 hg.ne
  | self T0=>
   rw [es] at h0;have h1:Hq T0 us lv nx lg kr=r:=h0;unfold Hq at h1;split at h1
   ·rename_i k off
    split at h1
    ·rename_i own T cs hk
     have hown:own=false:=by have:=ho k;rw [hk] at this;simp only [LB.okB,cy,Zd] at this;exact this.1
     subst hown;obtain⟨hb0,h6⟩:=dj h1 hg.ne;clear h1;split at h6
     ·rename_i y hcs
      obtain⟨lv',l,e1,e2,e3,e4⟩:=yI h6 hg ho;refine .inl ⟨_,lv',nx,l,e1,?_,e3,e4⟩;have:=hsp.Hv f _ es (aV lv) k off T cs y ho hb0 hk hcs;have e5:aV lv'=aD (aV lv) k (.cells false false T (aj cs off [.ptr k off])):=by rw [e2];rfl
      rw [e5];exact this
     ·rename_i k' off' y hcs
      obtain⟨hb,h2⟩:=dj h6 hg.ne;simp only [cy] at hb;have b1:=Y9 hb.1;have b2:=Y9 hb.2;subst b1;subst b2;exact .inl ⟨_,lv,nx,[],h2,hsp.HB f _ es (aV lv) _ _ T cs y ho hb0 hk hcs,ho,jP.refl _⟩
     ·exact absurd h6 hg.ne
    ·exact absurd h1 hg.ne
   ·exact absurd h1 hg.ne
end
section
variable {c:Ctx}{r:Option Nat}{ops:Array Oper}{o:Oper}{s0:au}
end
end Go.Am
