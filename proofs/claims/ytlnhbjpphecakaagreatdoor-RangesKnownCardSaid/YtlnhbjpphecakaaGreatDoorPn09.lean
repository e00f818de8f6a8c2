/- Helpers: an abstract machine for Go functions, and walks of functions of the program. -/
import Derived.Test.YtlnhbjpphecakaaGreatDoorPn08

set_option linter.all false
set_option maxHeartbeats 8000000
set_option maxRecDepth 100000
namespace Go.Am
abbrev HdT:=AV→Tb LB→Nat→List Key→(Tb LB→Nat→List Key→Res)→Res
def inY (t:Nat)(ys:List Nat):Bool:=ys.any fun y=>Nat.beq t y
def opY (ys:List Nat):Operand→Bool
 | .tmp t=>inY t ys
 | _=>false
def guardY (ops:Array Oper)(g:Option (Nat × Bool))(ys:List Nat):Bool:=
 match g with
 | none=>false
 | some (j,_)=>match (ops[j]?).bind (·.dst) with
  | some d=>inY d ys
  | none=>false
def dstY (d:Option Nat)(ys:List Nat):Bool:=match d with|some d=>inY d ys|none=>false
def mvY (ys:List Nat):Op→Bool
 | .move x=>opY ys x
 | _=>false
def calV (cl:Call)(fo:Operand):Bool:=match cl.callee with|.value _=>true|_=>false
noncomputable def oneK (xs:List AV)(k:AV→Res):Res:=
 match xs with
 | [x]=>k x
 | _=>.bad 61 []
theorem oneK_ok {xs:List AV}{k:AV→Res}{r:Res}(h:oneK xs k=r) (hg:Good r):∃ x,xs=[x]∧k x=r:=by
 unfold oneK at h
 split at h
 ·exact⟨_,rfl,h⟩
 ·exact absurd h hg.ne
noncomputable def dK' (d:Option Nat)(k:Nat→Res):Res:=match d with|some d=>k d|none=>.bad 69 []
abbrev KY:=Ex→Tb AV→Tb LB→Nat→List Key→List Nat→Res
section
variable (P:Program) (G:List (List DV))
noncomputable def opsY (hd:HdT)(call:EvCall2)(ops:Array Oper)(os:List Oper)(fr:Tb AV)(lv:Tb LB)(nx:Nat)(lg:List Key)(ys:List Nat)(k:KY):Res:=
 List.rec (motive:=fun _=>Tb AV→Tb LB→Nat→List Key→List Nat→KY→Res) (fun fr lv nx lg ys k=>k .normal fr lv nx lg ys)
  (fun o _ ih fr lv nx lg ys k=>boolK (guardY ops o.guard ys || dstY o.dst ys) (optK (wantA ops o.guard (frT' fr)) (.bad 6 [o.op]) fun b=>
   boolK b (putK' o.dst .undef fr fun fr=>ih fr lv nx lg ys k)
    (boolK (mvY ys o.op)
     (OpK.rec (motive:=fun _=>Res)
      (fun x=>boolK (opY ys x) (panK (valT G fr x) (fun d=>k (.panic d) fr lv nx lg ys) (.bad 7 [o.op])) (.bad 71 [o.op]))
      (fun cl fo=>boolK (cl.args.toList.any (opY ys)) (boolK (opY ys fo)
       (callK P G call o.op cl fo fr lv nx lg (fun x lv nx lg=>putK' o.dst x fr fun fr=>ih fr lv nx lg ys k) (fun d lv nx lg=>k (.panic d) fr lv nx lg ys))
       (boolK (o.guard.isNone && calV cl fo) (.bad 62 [o.op]) (oneK (valsT G fr cl.args.toList) fun x=>hd x lv nx lg fun lv nx lg=>putK' o.dst (.c (.d (.bool true))) fr fun fr=>ih fr lv nx lg ys k))) (.bad 72 [o.op]))
      (boolK (o.op.operands.toList.any (opY ys)) (opK P o.op (valsT G fr o.op.operands.toList) lv nx fun x us _=>nxK nx us fun nx'=>putK' o.dst x fr fun fr=>wrK us lv lg fun lv lg=>ih fr lv nx' lg ys k) (.bad 73 [o.op]))
      (opKd o.op))
     (dK' o.dst fun d=>putK' (some d) .junk fr fun fr=>ih fr lv nx lg (d::ys) k))) (.bad 70 [o.op])) os fr lv nx lg ys k
end
section
variable {P:Program}{G:List (List DV)}
def RegI (c:Ctx)(ops:Array Oper)(os:List Oper)(s s':LSt)(e:Ex):Prop:=
 ∀ (n:Nat) (Q:Exit→Act→World→Prop),dstB c.n os=true→ops.toList.drop n=os →
  (∀ F' β' a' w' ex,StOK c F' β' s' a' w'→ExOK e ex F' w'→Q ex a' w')→∀ F β a w,StOK c F β s a w→wpOpsIn (fen none) 0 c.P ops Q (List.range' n os.length) a w
section
variable {c:Ctx}{ops:Array Oper}{o:Oper}{os:List Oper}{s s1 s':LSt}{e:Ex}
theorem RegI.consW (h:(∀ d,o.dst=some d→d<c.n)→SimW c none ops o s s1)(hk:RegI c ops os s1 s' e):RegI c ops (o::os) s s' e:=by
 intro n Q hd hdr hQ F β a w hs
 obtain⟨ho,hdr'⟩:=drop_get hdr
 obtain⟨hd1,hd2⟩:=dstB_cons hd
 have ih:=hk (n+1) Q hd2 hdr' hQ
 simp only [List.length_cons,List.range'_succ]
 rw [wpOpsIn_cons]
 unfold wpOpIn
 rw [ho]
 simp only
 have h1:=h hd1 F β a w _ Q hs fun F' β' a' w' h'=>ih F' β' a' w' h'
 by_cases hw:Region.wanted o (yielded ops a.tmps)=true
 ·rw [if_pos hw] at h1 ⊢;exact h1
 ·rw [if_neg hw] at h1 ⊢;exact⟨fun _ _=>trivial,h1⟩
theorem RegI.cons (hw:wantA ops o.guard s.fr=some true)(hdf:∀ cl,o.op≠.defer cl)(h:(∀ d,o.dst=some d→d<c.n)→Sim c o s s1)(hk:RegI c ops os s1 s' e):RegI c ops (o::os) s s' e:=by
 intro n Q hd hdr hQ F β a w hs
 obtain⟨ho,hdr'⟩:=drop_get hdr
 obtain⟨hd1,hd2⟩:=dstB_cons hd
 have ih:=hk (n+1) Q hd2 hdr' hQ
 simp only [List.length_cons,List.range'_succ]
 rw [wpOpsIn_cons]
 unfold wpOpIn
 rw [ho]
 simp only
 rw [wantA_sound hs hw]
 simp only [if_true]
 exact wpIn_fen hdf (h hd1 F β a w _ Q hs fun F' β' a' w' h'=>ih F' β' a' w' h')
theorem RegI.skip (hw:wantA ops o.guard s.fr=some false)(hk:RegI c ops os (s.put o.dst .undef) s' e):RegI c ops (o::os) s s' e:=by
 intro n Q hd hdr hQ F β a w hs
 obtain⟨ho,hdr'⟩:=drop_get hdr
 obtain⟨hd1,hd2⟩:=dstB_cons hd
 have ih:=hk (n+1) Q hd2 hdr' hQ
 simp only [List.length_cons,List.range'_succ]
 rw [wpOpsIn_cons]
 unfold wpOpIn
 rw [ho]
 simp only
 rw [wantA_sound hs hw]
 simp only [Bool.false_eq_true,if_false]
 exact⟨fun _ _=>trivial,ih F β _ _ (hs.putD hd1 (undef_junk _))⟩
theorem RegI.pan {d:DV}(hw:wantA ops o.guard s.fr=some true) (hdf:∀ cl,o.op≠.defer cl) (h:SimP c o s d s'):RegI c ops (o::os) s s' (.panic d):=by
 intro n Q hd hdr hQ F β a w hs
 obtain⟨ho,hdr'⟩:=drop_get hdr
 simp only [List.length_cons,List.range'_succ]
 rw [wpOpsIn_cons]
 unfold wpOpIn
 rw [ho]
 simp only
 rw [wantA_sound hs hw]
 simp only [if_true]
 exact wpIn_fen hdf (h F β a w _ Q hs fun F' β' v a' w' h' hv=>hQ F' β' a' w' _ h' ⟨v,rfl,hv⟩)
end
noncomputable def SY (l:Nat)(ys:List Nat)(fr:Tb AV)(lv:Tb LB):LSt:=⟨fun t=>if inY t ys then yv l else frT' fr t,lvT' lv⟩
theorem SY_val {l:Nat}{ys:List Nat}{fr:Tb AV}{lv:Tb LB}{x:Operand}(h:opY ys x=false):(SY l ys fr lv).val G x=(SS fr lv).val G x:=by
 cases x with
 | tmp t=>
  have h':inY t ys=false:=h
  show (if inY t ys then yv l else frT' fr t)=frT' fr t
  rw [h'];rfl
 | _=>rfl
theorem SY_vals {l:Nat}{ys:List Nat}{fr:Tb AV}{lv:Tb LB}{xs:List Operand}(h:xs.any (opY ys)=false):xs.map ((SY l ys fr lv).val G)=xs.map ((SS fr lv).val G):=by
 refine List.map_congr_left fun x hx=>SY_val ?_
 cases e:opY ys x with
 | false=>rfl
 | true=>rw [List.any_eq_true.2 ⟨x,hx,e⟩] at h;cases h
theorem SY_yv {l:Nat}{ys:List Nat}{fr:Tb AV}{lv:Tb LB}{x:Operand}(h:opY ys x=true):(SY l ys fr lv).val G x=yv l:=by
 cases x with
 | tmp t=>
  have h':inY t ys=true:=h
  show (if inY t ys then yv l else frT' fr t)=yv l
  rw [h'];rfl
 | _=>cases h
theorem SY_want {l:Nat}{ys:List Nat}{fr:Tb AV}{lv:Tb LB}{ops:Array Oper}{g:Option (Nat × Bool)}(h:guardY ops g ys=false):wantA ops g (SY l ys fr lv).fr=wantA ops g (frT' fr):=by
 unfold wantA
 cases g with
 | none=>rfl
 | some p=>
  obtain⟨j,want⟩:=p
  simp only
  unfold guardY at h
  simp only at h
  cases e:(ops[j]?).bind (·.dst) with
  | none=>rfl
  | some d=>
   rw [e] at h
   have h':inY d ys=false:=h
   have:(SY l ys fr lv).fr d=frT' fr d:=by
    show (if inY d ys then yv l else frT' fr d)=_
    rw [h'];rfl
   simp only [this]
theorem SY_put {l:Nat}{ys:List Nat}{fr fr1:Tb AV}{lv lv1:Tb LB}{d:Option Nat}{x:AV}(hd:dstY d ys=false) (e:frT' fr1=putF d x (frT' fr)):LSt.put ⟨(SY l ys fr lv).fr,lvT' lv1⟩ d x=SY l ys fr1 lv1:=by
 rw [putF_put]
 unfold SY
 congr 1
 funext t
 rw [e]
 cases d with
 | none=>rfl
 | some d=>
  have hd':inY d ys=false:=hd
  show upd _ d x t=if inY t ys then yv l else upd (frT' fr) d x t
  by_cases ht:t=d
  ·subst ht;rw [upd_same,upd_same,hd'];rfl
  ·rw [upd_ne _ _ ht,upd_ne _ _ ht]
theorem SY_mv {l:Nat}{ys:List Nat}{fr fr1:Tb AV}{lv:Tb LB}{d:Nat}(e:frT' fr1=putF (some d) .junk (frT' fr)):LSt.put (SY l ys fr lv) (some d) (yv l)=SY l (d::ys) fr1 lv:=by
 show LSt.mk (upd (SY l ys fr lv).fr d (yv l)) _=_
 unfold SY
 congr 1
 funext t
 rw [e]
 show upd _ d (yv l) t=if inY t (d::ys) then yv l else upd (frT' fr) d .junk t
 by_cases ht:t=d
 ·subst ht
  rw [upd_same]
  have:inY t (t::ys)=true:=by unfold inY;simp
  rw [this];rfl
 ·rw [upd_ne _ _ ht,upd_ne _ _ ht]
  have:inY t (d::ys)=inY t ys:=by
   unfold inY
   rw [List.any_cons]
   have:Nat.beq t d=false:=by
    cases e:Nat.beq t d with
    | false=>rfl
    | true=>exact absurd (Nat.eq_of_beq_eq_true e) ht
   rw [this];rfl
  rw [this]
def HdOK (hd:HdT)(Y:AV→(Key→LB)→(Key→LB)→Prop):Prop:=∀ x lv nx lg k r,hd x lv nx lg k=r→Good r→AllOk (lvT' lv) →
 ∃ lv' nx' l,k lv' nx' (l++lg)=r∧AllOk (lvT' lv')∧LgOK lv lv' l∧Y x (lvT' lv) (lvT' lv')
def YSim (c:Ctx)(l:Nat)(Y:AV→(Key→LB)→(Key→LB)→Prop):Prop:=
 ∀ {fr:Nat→AV}{lv lv':Key→LB}{ops:Array Oper}{o:Oper}{cl:Call}{fy:Operand}{x:AV},(∀ d,o.dst=some d→d<c.n)→o.guard=none→o.op=.call cl→cl.callee=.value fy→(LSt.mk fr lv).val c.G fy=yv l →
  cl.args.toList.map ((LSt.mk fr lv).val c.G)=[x]→AllOk lv→Y x lv lv'→SimW c none ops o ⟨fr,lv⟩ (LSt.put ⟨fr,lv'⟩ o.dst (.c (.d (.bool true))))
theorem tgtY {l:Nat}{ys:List Nat}{fr:Tb AV}{lv:Tb LB}{op:Op}{cl:Call}{fo:Operand}(ek:opKd op=.call cl fo) (h:opY ys fo=false):tgtC P ((SY l ys fr lv).val G) cl.callee=tgtC P ((SS fr lv).val G) cl.callee:=by
 unfold opKd at ek
 split at ek
 ·cases ek
 ·rename_i cl'
  split at ek
  ·rename_i fo' e;cases ek;rw [e];unfold tgtC;simp only [SY_val h]
  ·rename_i x m e;cases ek;rw [e];unfold tgtC;simp only [SY_val h]
  ·cases ek
 ·cases ek
theorem inY0 {ys:List Nat}{t d:Nat}(h:inY t ys=true):inY t (d::ys)=true:=by
 unfold inY at *;rw [List.any_cons,h,Bool.or_true]
theorem inY_cons {ys:List Nat}{t d:Nat}(h:inY t (d::ys)=true):t=d∨inY t ys=true:=by
 unfold inY at *;rw [List.any_cons,Bool.or_eq_true] at h
 rcases h with h|h
 ·exact .inl (Nat.eq_of_beq_eq_true h)
 ·exact .inr h
def InvY (ys:List Nat)(fr:Tb AV):Prop:=inY 0 ys=true∧∀ t,inY t ys=true→t≠0→frT' fr t=.junk
theorem InvY.put {ys:List Nat}{fr fr1:Tb AV}{d:Option Nat}{x:AV}(h:InvY ys fr) (hd:dstY d ys=false) (e:frT' fr1=putF d x (frT' fr)):InvY ys fr1:=by
 refine⟨h.1,fun t ht h0=>?_⟩
 rw [e]
 cases d with
 | none=>exact h.2 t ht h0
 | some d=>
  have hd':inY d ys=false:=hd
  have hne:t≠d:=fun e=>by subst e;rw [ht] at hd';cases hd'
  show upd (frT' fr) d x t=_
  rw [upd_ne _ _ hne];exact h.2 t ht h0
theorem InvY.mv {ys:List Nat}{fr fr1:Tb AV}{d:Nat}(h:InvY ys fr) (e:frT' fr1=putF (some d) .junk (frT' fr)):InvY (d::ys) fr1:=by
 refine⟨inY0 h.1,fun t ht h0=>?_⟩
 rw [e]
 show upd (frT' fr) d .junk t=_
 by_cases hne:t=d
 ·subst hne;rw [upd_same]
 ·rw [upd_ne _ _ hne]
  rcases inY_cons ht with h1|h1
  ·exact absurd h1 hne
  ·exact h.2 t h1 h0
theorem opsY_ok {hd:HdT}{Y:AV→(Key→LB)→(Key→LB)→Prop}(hH:HdOK hd Y) {call:EvCall2}(hc:CallOK P G call) {ops:Array Oper}:∀ {os:List Oper}{fr:Tb AV}{lv:Tb LB}{nx:Nat}{lg:List Key}{ys:List Nat}{k:KY}{r:Res},
 opsY P G hd call ops os fr lv nx lg ys k=r→Good r→AllOk (lvT' lv)→InvY ys fr →
 ∃ e fr' lv' nx' l ys',k e fr' lv' nx' (l++lg) ys'=r∧AllOk (lvT' lv')∧LgOK lv lv' l∧InvY ys' fr'∧∀ l0 c,c.P=P→c.G=G→YSim c l0 Y→RegI c ops os (SY l0 ys fr lv) (SY l0 ys' fr' lv') e
 | [],fr,lv,nx,lg,ys,k,r,h,hg,ho,hi=>by
  refine⟨.normal,fr,lv,nx,[],ys,h,ho,LgOK.refl _,hi,?_⟩
  intro l0 c hP hG hY n Q hd hdr hQ F β a w hs
  exact hQ F β a w .normal hs rfl
 | o::os,fr,lv,nx,lg,ys,k,r,h,hg,ho,hi=>by
  have h0:(boolK (guardY ops o.guard ys || dstY o.dst ys) (optK (wantA ops o.guard (frT' fr)) (.bad 6 [o.op]) fun b=>
   boolK b (putK' o.dst .undef fr fun fr=>opsY P G hd call ops os fr lv nx lg ys k)
    (boolK (mvY ys o.op)
     (OpK.rec (motive:=fun _=>Res)
      (fun x=>boolK (opY ys x) (panK (valT G fr x) (fun d=>k (.panic d) fr lv nx lg ys) (.bad 7 [o.op])) (.bad 71 [o.op]))
      (fun cl fo=>boolK (cl.args.toList.any (opY ys)) (boolK (opY ys fo)
       (callK P G call o.op cl fo fr lv nx lg (fun x lv nx lg=>putK' o.dst x fr fun fr=>opsY P G hd call ops os fr lv nx lg ys k) (fun d lv nx lg=>k (.panic d) fr lv nx lg ys))
       (boolK (o.guard.isNone && calV cl fo) (.bad 62 [o.op]) (oneK (valsT G fr cl.args.toList) fun x=>hd x lv nx lg fun lv nx lg=>putK' o.dst (.c (.d (.bool true))) fr fun fr=>opsY P G hd call ops os fr lv nx lg ys k))) (.bad 72 [o.op]))
      (boolK (o.op.operands.toList.any (opY ys)) (opK P o.op (valsT G fr o.op.operands.toList) lv nx fun x us _=>nxK nx us fun nx'=>putK' o.dst x fr fun fr=>wrK us lv lg fun lv lg=>opsY P G hd call ops os fr lv nx' lg ys k) (.bad 73 [o.op]))
      (opKd o.op))
     (dK' o.dst fun d=>putK' (some d) .junk fr fun fr=>opsY P G hd call ops os fr lv nx lg (d::ys) k))) (.bad 70 [o.op]))=r:=h
  cases hgd:guardY ops o.guard ys || dstY o.dst ys with
  | true=>rw [hgd] at h0;exact absurd h0 hg.ne
  | false=>
  rw [hgd] at h0
  simp only [Bool.or_eq_false_iff] at hgd
  obtain⟨hgu,hds⟩:=hgd
  obtain⟨b,hw,h1⟩:=optK_some (show optK _ _ _=r from h0) hg.ne
  have hw':=fun l0=>(SY_want (l:=l0) (lv:=lv) (fr:=fr) hgu).trans hw
  cases b with
  | false=>
   have h1':putK' o.dst .undef fr (fun fr=>opsY P G hd call ops os fr lv nx lg ys k)=r:=h1
   obtain⟨fr1,h2,e1⟩:=putK'_ok h1'
   obtain⟨e,fr',lv',nx',l,ys',q1,q2,q3,q5,q4⟩:=opsY_ok hH hc h2 hg ho (hi.put hds e1)
   refine⟨e,fr',lv',nx',l,ys',q1,q2,q3,q5,fun l0 c hP hG hY=>RegI.skip (hw' l0) ?_⟩
   rw [show (SY l0 ys fr lv).put o.dst .undef=SY l0 ys fr1 lv from SY_put (lv:=lv) hds e1];exact q4 l0 c hP hG hY
  | true=>
   cases hmv:mvY ys o.op with
   | true=>
    rw [hmv] at h1
    have h2:dK' o.dst (fun d=>putK' (some d) .junk fr fun fr=>opsY P G hd call ops os fr lv nx lg (d::ys) k)=r:=h1
    cases hdd:o.dst with
    | none=>rw [hdd] at h2;exact absurd h2 hg.ne
    | some d=>
     rw [hdd] at h2
     have h3:putK' (some d) .junk fr (fun fr=>opsY P G hd call ops os fr lv nx lg (d::ys) k)=r:=h2
     obtain⟨fr1,h4,e1⟩:=putK'_ok h3
     obtain⟨e,fr',lv',nx',l,ys',q1,q2,q3,q5,q4⟩:=opsY_ok hH hc h4 hg ho (hi.mv e1)
     obtain⟨x,hop,hx⟩:∃ x,o.op=.move x∧opY ys x=true:=by
      unfold mvY at hmv
      split at hmv
      ·rename_i x e;exact⟨x,e,hmv⟩
      ·cases hmv
     refine⟨e,fr',lv',nx',l,ys',q1,q2,q3,q5,fun l0 c hP hG hY=>RegI.cons (hw' l0) (fun cl h=>by rw [hop] at h;cases h) (s1:=SY l0 (d::ys) fr1 lv) (fun hd=>?_) (q4 l0 c hP hG hY)⟩
     have hsim:=OpDoes.sim (c:=c) (o:=o) (s:=SY l0 ys fr lv) (κ:=0) (x:=yv l0) (us:=[]) (rds:=[]) hd (by
      rw [hop]
      show OpDoes c.P (.move x) [(SY l0 ys fr lv).val c.G x] _ 0 _ _ _
      rw [SY_yv hx]
      exact .inl ⟨True,rfl,trivial⟩)
     have e2:LSt.put ⟨(SY l0 ys fr lv).fr,updL (SY l0 ys fr lv).lv []⟩ o.dst (yv l0)=SY l0 (d::ys) fr1 lv:=by
      rw [hdd];exact SY_mv e1
     rw [e2] at hsim;exact hsim
   | false=>
   rw [hmv] at h1
   cases ek:opKd o.op with
   | pan x=>
    rw [ek] at h1
    have h2:boolK (opY ys x) (panK (valT G fr x) (fun d=>k (.panic d) fr lv nx lg ys) (.bad 7 [o.op])) (.bad 71 [o.op])=r:=h1
    cases hx:opY ys x with
    | true=>rw [hx] at h2;exact absurd h2 hg.ne
    | false=>
    rw [hx] at h2
    have h3:panK (valT G fr x) (fun d=>k (.panic d) fr lv nx lg ys) (.bad 7 [o.op])=r:=h2
    obtain⟨t,d,e1,e2⟩:=panK_ok h3 hg.ne
    have hop:=opKd_pan ek
    refine⟨.panic (.iface t d),fr,lv,nx,[],ys,e2,ho,LgOK.refl _,hi,fun l0 c hP hG hY=>RegI.pan (hw' l0) (fun cl h=>by rw [hop] at h;cases h) ?_⟩
    refine simP_panic hop ?_
    rw [hG,SY_val hx];rw [valT_eq G fr (lvT' lv)] at e1;exact e1
   | call cl fo=>
    rw [ek] at h1
    obtain⟨hop,hcal⟩:=opKd_call ek
    have hdf:∀ cl',o.op≠.defer cl':=fun cl' h=>by rw [hop] at h;cases h
    have h1':boolK (cl.args.toList.any (opY ys)) (boolK (opY ys fo)
     (callK P G call o.op cl fo fr lv nx lg (fun x lv nx lg=>putK' o.dst x fr fun fr=>opsY P G hd call ops os fr lv nx lg ys k) (fun d lv nx lg=>k (.panic d) fr lv nx lg ys))
     (boolK (o.guard.isNone && calV cl fo) (.bad 62 [o.op]) (oneK (valsT G fr cl.args.toList) fun x=>hd x lv nx lg fun lv nx lg=>putK' o.dst (.c (.d (.bool true))) fr fun fr=>opsY P G hd call ops os fr lv nx lg ys k))) (.bad 72 [o.op])=r:=h1
    cases hay:cl.args.toList.any (opY ys) with
    | true=>rw [hay] at h1';exact absurd h1' hg.ne
    | false=>
    rw [hay] at h1'
    have hav:=fun l0=>SY_vals (G:=G) (l:=l0) (fr:=fr) (lv:=lv) hay
    cases hyv:opY ys fo with
    | false=>
     rw [hyv] at h1'
     obtain⟨f,fs,cs,c1,c2,c3⟩:=callK_ok (fo:=fo) hc (show callK P G call o.op cl fo fr lv nx lg (fun x lv nx lg=>putK' o.dst x fr fun fr=>opsY P G hd call ops os fr lv nx lg ys k) (fun d lv nx lg=>k (.panic d) fr lv nx lg ys)=r from h1') hg ho
     have htg:=fun l0=>(tgtY (P:=P) (G:=G) (l:=l0) (fr:=fr) (lv:=lv) ek hyv).trans c1
     rcases c3 with ⟨x,lv1,nx1,l1,d1,d2,d3,d4⟩|⟨d,lv1,nx1,l1,d1,d2,d3,d4⟩
     ·obtain⟨fr1,h2,e1⟩:=putK'_ok d1
      obtain⟨e,fr',lv',nx',l,ys',q1,q2,q3,q5,q4⟩:=opsY_ok hH hc h2 hg d3 (hi.put hds e1)
      refine⟨e,fr',lv',nx',l++l1,ys',by rw [List.append_assoc];exact q1,q2,d4.trans q3,q5,fun l0 c hP hG hY=>RegI.cons (hw' l0) hdf (s1:=SY l0 ys fr1 lv1) (fun hd=>?_) (q4 l0 c hP hG hY)⟩
      have hsim:=CallG.sim (c:=c) (s:=SY l0 ys fr lv) (o:=o) (cl:=cl) (f:=f) (fs:=fs) (cs:=cs) (x:=x) (lv':=lvT' lv1) hd hop (by rw [hP,hG];exact htg l0) (by rw [hP];exact c2) ho (by rw [hP,hG,hav];exact d2)
      rw [SY_put hds e1] at hsim;exact hsim
     ·refine⟨.panic d,fr,lv1,nx1,l1,ys,d1,d3,d4,hi,fun l0 c hP hG hY=>RegI.pan (hw' l0) hdf ?_⟩
      exact CallG.simP (c:=c) (s:=SY l0 ys fr lv) (o:=o) (cl:=cl) (f:=f) (fs:=fs) (cs:=cs) (d:=d) (lv':=lvT' lv1) hop (by rw [hP,hG];exact htg l0) (by rw [hP];exact c2) ho (by rw [hP,hG,hav];exact d2)
    | true=>
     rw [hyv] at h1'
     obtain⟨g1,h2⟩:=boolK_true (show boolK (o.guard.isNone && calV cl fo) (.bad 62 [o.op]) (oneK (valsT G fr cl.args.toList) fun x=>hd x lv nx lg fun lv nx lg=>putK' o.dst (.c (.d (.bool true))) fr fun fr=>opsY P G hd call ops os fr lv nx lg ys k)=r from h1') hg.ne
     rw [Bool.and_eq_true] at g1
     obtain⟨x,hx,h3⟩:=oneK_ok h2 hg
     obtain⟨lv1,nx1,l1,h4,h5,h5b,h6⟩:=hH _ _ _ _ _ _ h3 hg ho
     obtain⟨fr1,h7,e1⟩:=putK'_ok h4
     obtain⟨e,fr',lv',nx',l,ys',q1,q2,q3,q5,q4⟩:=opsY_ok hH hc h7 hg h5 (hi.put hds e1)
     refine⟨e,fr',lv',nx',l++l1,ys',by rw [List.append_assoc];exact q1,q2,h5b.trans q3,q5,fun l0 c hP hG hY=>RegI.consW (s1:=SY l0 ys fr1 lv1) (fun hd=>?_) (q4 l0 c hP hG hY)⟩
     have hcv:cl.callee=.value fo:=by
      have hcb:=g1.2
      unfold calV at hcb
      rw [hop] at ek
      unfold opKd at ek
      simp only at ek
      split at hcb
      ·rename_i fo' ec
       rw [ec] at ek;simp only at ek
       cases ek;exact ec
      ·cases hcb
     have hgn:o.guard=none:=by have:=g1.1;revert this;cases o.guard <;> simp
     have hsim:=hY (fr:=(SY l0 ys fr lv).fr) (lv:=lvT' lv) (lv':=lvT' lv1) (ops:=ops) (o:=o) (cl:=cl) (fy:=fo) (x:=x) hd hgn hop hcv (SY_yv hyv)
      (by rw [hG];rw [valsT_eq G fr (lvT' lv)] at hx;exact (hav l0).trans hx) ho h6
     rw [SY_put hds e1] at hsim;exact hsim
   | plain=>
    rw [ek] at h1
    have h1':boolK (o.op.operands.toList.any (opY ys)) (opK P o.op (valsT G fr o.op.operands.toList) lv nx (fun x us _=>nxK nx us fun nx'=>putK' o.dst x fr fun fr=>wrK us lv lg fun lv lg=>opsY P G hd call ops os fr lv nx' lg ys k)) (.bad 73 [o.op])=r:=h1
    cases hay:o.op.operands.toList.any (opY ys) with
    | true=>rw [hay] at h1';exact absurd h1' hg.ne
    | false=>
    rw [hay] at h1'
    have hav:=fun l0=>SY_vals (G:=G) (l:=l0) (fr:=fr) (lv:=lv) hay
    have h1'':opK P o.op (valsT G fr o.op.operands.toList) lv nx (fun x us _=>nxK nx us fun nx'=>putK' o.dst x fr fun fr=>wrK us lv lg fun lv lg=>opsY P G hd call ops os fr lv nx' lg ys k)=r:=h1'
    obtain⟨x,us,rds,h2,hdo⟩:=opK_ok h1'' hg
    have h2':nxK nx us (fun nx'=>putK' o.dst x fr fun fr=>wrK us lv lg fun lv lg=>opsY P G hd call ops os fr lv nx' lg ys k)=r:=h2
    obtain⟨nx1,h3⟩:=nxK_ok h2'
    have h3':putK' o.dst x fr (fun fr=>wrK us lv lg fun lv lg=>opsY P G hd call ops os fr lv nx1 lg ys k)=r:=h3
    obtain⟨fr1,h4,e1⟩:=putK'_ok h3'
    have h4':wrK us lv lg (fun lv lg=>opsY P G hd call ops os fr1 lv nx1 lg ys k)=r:=h4
    obtain⟨lv1,l1,h5,e2,e3,e4⟩:=wrK_ok h4' hg ho
    obtain⟨e,fr',lv',nx',l,ys',q1,q2,q3,q5,q4⟩:=opsY_ok hH hc h5 hg e3 (hi.put hds e1)
    have hdf:∀ cl',o.op≠.defer cl':=defer_op hdo
    refine⟨e,fr',lv',nx',l++l1,ys',by rw [List.append_assoc];exact q1,q2,e4.trans q3,q5,fun l0 c hP hG hY=>RegI.cons (hw' l0) hdf (s1:=SY l0 ys fr1 lv1) (fun hd=>?_) (q4 l0 c hP hG hY)⟩
    have hsim:=(OpDoes.sim (c:=c) (o:=o) (s:=SY l0 ys fr lv) (κ:=nx) (x:=x) (us:=us) (rds:=rds) hd (by
     rw [hP,hG,hav];rw [valsT_eq G fr (lvT' lv)] at hdo;exact hdo)).un
    have e5:updL (SY l0 ys fr lv).lv (unU us)=lvT' lv1:=e2.symm
    rw [e5,SY_put hds e1] at hsim;exact hsim
end
def farB (ops:Array Oper):Bool:=ops.toList.all fun o=>(o.looksAt ops).all (fun t=>!inY t [0]) && !dstY o.dst [0]
noncomputable def m_regionY (P:Program)(G:List (List DV))(hd:HdT)(_:Nat)(ops:Array Oper)(dr:Bool):RunT:=fun call N fr lv nx lg k=>
 boolK (dstB N ops.toList) (.bad 11 []) (Bool.rec (motive:=fun _=>Res) (opsY P G hd call ops ops.toList fr lv nx lg [0] fun e fr lv nx lg _=>k e fr lv nx lg)
  (boolK (farB ops) (.bad 76 []) (boolK (statB ops) (.bad 12 []) (drawK P G call ops ops.toList fr lv nx lg [] fun acc fr lv nx lg=>boolK (indB P (ancMasks ops.toList []) acc.reverse) (.bad 13 (ops.toList.map (·.op))) (k .normal fr lv nx lg)))) dr)
noncomputable def m_condY (G:List (List DV))(o:Operand)(x y:Code)(a b:RunT):RunT:=fun call N fr lv nx lg k=>
 boolK (opY [0] o) (m_cond G o x y a b call N fr lv nx lg k) (.bad 74 [])
section
variable {P:Program}{G:List (List DV)}
def CY (P:Program)(G:List (List DV))(l:Nat)(Y:AV→(Key→LB)→(Key→LB)→Prop):Option Nat→Nat→Ctx→Prop:=fun rf N c=>rf=none∧c.P=P∧c.G=G∧c.n=N∧YSim c l Y
theorem StOK.frTo {c:Ctx}{F:Nat→Prop}{β:Key→Nat}{f f':Nat→AV}{lv:Key→LB}{a:Act}{w:World}(h:StOK c F β ⟨f,lv⟩ a w) (hf:∀ t,f' t=f t∨f' t=.junk):StOK c F β ⟨f',lv⟩ a w:=
 ⟨h.blk,h.inj,fun t=>by
  rcases hf t with e|e
  ·show (Vw.mk F β lv w).av _ (f' t);rw [e];exact h.fr t
  ·show (Vw.mk F β lv w).av _ (f' t);rw [e];trivial,h.size,h.defers,h.Flt,h.F0,h.old,h.ge,h.glob,h.keep,h.asz,h.oso⟩
theorem SY_end {c:Ctx}{F:Nat→Prop}{β:Key→Nat}{l:Nat}{ys:List Nat}{fr:Tb AV}{lv:Tb LB}{a:Act}{w:World}(hi:InvY ys fr) (h:StOK c F β (SY l ys fr lv) a w):StOK c F β (SY l [0] fr lv) a w:=by
 refine StOK.frTo h fun t=>?_
 by_cases h0:t=0
 ·subst h0
  left
  have e1:inY 0 [0]=true:=rfl
  simp only [e1,hi.1,if_true]
 ·have e1:inY t [0]=false:=by
   cases e:inY t [0] with
   | false=>rfl
   | true=>
    rcases inY_cons e with h1|h1
    ·exact absurd h1 h0
    ·cases h1
  simp only [e1]
  cases e:inY t ys with
  | false=>left;rfl
  | true=>right;exact hi.2 t e h0
theorem EffP.to {c:Ctx}{r:Option Nat}{ops:Array Oper}{o:Oper}{s0 s1:LSt}{e:Fx}{ok:(Key→LB)→Prop}(h:EffP c r ops o s0 e ok) (hs:∀ t∈o.looksAt ops,s1.fr t=s0.fr t):EffP c r ops o s1 e ok:=
 fun s hf hk=>h s (fun t ht=>(hf t ht).trans (hs t ht)) hk
def ovr (l:Nat)(ys:List Nat)(s:LSt):LSt:=⟨fun t=>if inY t ys then yv l else s.fr t,s.lv⟩
theorem ovr_app {l:Nat}{ys:List Nat}{s:LSt}{e:Fx}{d:Option Nat}(hd:dstY d ys=false):e.app d (ovr l ys s)=ovr l ys (e.app d s):=by
 unfold Fx.app
 rw [putF_put,putF_put]
 unfold ovr
 congr 1
 funext t
 cases d with
 | none=>rfl
 | some d=>
  have hd':inY d ys=false:=hd
  show upd _ d e.x t=if inY t ys then yv l else upd s.fr d e.x t
  by_cases ht:t=d
  ·subst ht;rw [upd_same,upd_same,hd'];rfl
  ·rw [upd_ne _ _ ht,upd_ne _ _ ht]
theorem ChainW.ovr {c:Ctx}{r:Option Nat}{ops:Array Oper}{l:Nat}{ys:List Nat}:∀ {os:List Oper}{fs:List Fw}{s s':LSt},ChainW c r ops os fs s s'→(∀ o∈os,(∀ t∈o.looksAt ops,inY t ys=false)∧dstY o.dst ys=false) →
 ChainW c r ops os fs (Am.ovr l ys s) (Am.ovr l ys s')
 | [],[],s,s',h,_=>by cases h;rfl
 | o::os,f::fs,s,s',⟨h1,h2,h3⟩,hy=>by
  obtain⟨g1,g2⟩:=hy o (List.mem_cons_self ..)
  refine⟨h1.to fun t ht=>?_,h2,?_⟩
  ·show (if inY t ys then yv l else s.fr t)=s.fr t
   rw [g1 t ht];rfl
  ·rw [ovr_app g2];exact ChainW.ovr h3 fun o ho=>hy o (List.mem_cons_of_mem _ ho)
 | [],_::_,_,_,h,_=>h.elim
 | _::_,[],_,_,h,_=>h.elim
theorem regionY_ok (hm:P.follows .mixedOrders=true){l0:Nat}{hd:HdT}{Y:AV→(Key→LB)→(Key→LB)→Prop}(hH:HdOK hd Y) (id:Nat) (ops:Array Oper) (dr:Bool) :
 RunOK P G (CY P G l0 Y) (SY l0 [0]) (.region id ops dr) (m_regionY P G hd id ops dr):=by
 intro call hc N fr lv nx lg k r h hg ho
 have h0:boolK (dstB N ops.toList) (.bad 11 []) (Bool.rec (motive:=fun _=>Res) (opsY P G hd call ops ops.toList fr lv nx lg [0] fun e fr lv nx lg _=>k e fr lv nx lg)
  (boolK (farB ops) (.bad 76 []) (boolK (statB ops) (.bad 12 []) (drawK P G call ops ops.toList fr lv nx lg [] fun acc fr lv nx lg=>boolK (indB P (ancMasks ops.toList []) acc.reverse) (.bad 13 (ops.toList.map (·.op))) (k .normal fr lv nx lg)))) dr)=r:=h
 obtain⟨hb,h1⟩:=boolK_true h0 hg.ne
 cases dr with
 | false=>
  obtain⟨e,fr',lv',nx',l,ys',q1,q2,q3,q5,q4⟩:=opsY_ok hH hc (show opsY P G hd call ops ops.toList fr lv nx lg [0] (fun e fr lv nx lg _=>k e fr lv nx lg)=r from h1) hg ho ⟨rfl,fun t ht h0=>by
   rcases inY_cons ht with h2|h2
   ·exact absurd h2 h0
   ·cases h2⟩
  refine⟨e,fr',lv',nx',l,q1,q2,q3,?_⟩
  rintro c rf ⟨rfl,hP,hG,hn,hY⟩ F β a w hs
  refine wpIn_region ?_
  have:=q4 l0 c hP hG hY 0 _ (by rw [hn];exact hb) rfl (fun F' β' a' w' ex h1 h2=>(⟨F',β',SY_end q5 h1,h2⟩:∃ F' β',StOK c F' β' (SY l0 [0] fr' lv') a' w'∧ExOK e ex F' w')) F β a w hs
  rw [List.range_eq_range']
  simpa using this
 | true=>
  obtain⟨hfar,h1⟩:=boolK_true (show boolK (farB ops) (.bad 76 []) _=r from h1) hg.ne
  obtain⟨hst,h2⟩:=boolK_true h1 hg.ne
  obtain⟨rs,fr',lv',nx',l,q1,q2,q3,q4⟩:=drawK_ok hc h2 hg ho
  rw [List.append_nil,List.reverse_reverse] at q1
  obtain⟨hi,h3⟩:=boolK_true q1 hg.ne
  refine⟨.normal,fr',lv',nx',l,h3,q2,q3,?_⟩
  rintro c rf ⟨rfl,hP,hG,hn,hY⟩ F β a w hs
  have hfr:∀ o∈ops.toList,(∀ t∈o.looksAt ops,inY t [0]=false)∧dstY o.dst [0]=false:=by
   intro o ho
   have:=List.all_eq_true.1 hfar o ho
   rw [Bool.and_eq_true,List.all_eq_true] at this
   exact⟨fun t ht=>by simpa using this.1 t ht,by simpa using this.2⟩
  have hch:=ChainW.ovr (l:=l0) (q4 c none hP hG (by rw [hn];exact hb)) hfr
  have hp:=pairs_ok (P:=P) (ms:=ancMasks ops.toList []) (r:=rs) (j0:=0) (before:=[]) hi
  unfold statB at hst
  simp only [Bool.and_eq_true,List.all_eq_true,List.mem_range] at hst
  obtain⟨hs1,hs2⟩:=hst
  have hanc:∀ i j,((ancMasks ops.toList []).getD j 0).testBit i=true→Anc ops i j:=ancMasks_sound ops.toList [] (by simp) (fun i j h=>by simp at h)
  refine ChainW.draw (by rw [hP];exact hm) hch (fun i o ho ed hed hb=>backL_sound ops.toList 0 rfl hs1 i o (Nat.zero_le _) ho ed hed hb) (fun i j o o' f g hij ho ho' hf hg=>?_)
   (fun F' β' a' w' h'=>⟨F',β',h',rfl⟩) hs
  grind
theorem condY_ok {l0:Nat}{Y:AV→(Key→LB)→(Key→LB)→Prop}{o:Operand}{x y:Code}{a b:RunT}(ha:RunOK P G (CY P G l0 Y) (SY l0 [0]) x a) (hb:RunOK P G (CY P G l0 Y) (SY l0 [0]) y b) :
 RunOK P G (CY P G l0 Y) (SY l0 [0]) (.cond o x y) (m_condY G o x y a b):=by
 intro call hc N fr lv nx lg k r h hg ho
 have h0:boolK (opY [0] o) (m_cond G o x y a b call N fr lv nx lg k) (.bad 74 [])=r:=h
 cases ho':opY [0] o with
 | true=>rw [ho'] at h0;exact absurd h0 hg.ne
 | false=>
  rw [ho'] at h0
  have h1:condK (valT G fr o) (b call N fr lv nx lg k) (a call N fr lv nx lg k)=r:=h0
  unfold condK at h1
  split at h1
  ·rename_i t ht
   have hv0:(SY l0 [0] fr lv).val G o=.c (.d (.bool t)):=by rw [SY_val ho',← ht,valT_eq G fr (lvT' lv)];rfl
   cases t with
   | false=>
    obtain⟨e,fr',lv',nx',l,p1,p2,p3,p4⟩:=hb call hc N fr lv nx lg k r h1 hg ho
    refine⟨e,fr',lv',nx',l,p1,p2,p3,fun c rf hC F β ac w hs=>?_⟩
    have hv:=hs.val o
    rw [hC.2.2.1,hv0] at hv
    exact wpIn_cond_false (Vw.c_bool hv) (p4 c rf hC F β ac w hs)
   | true=>
    obtain⟨e,fr',lv',nx',l,p1,p2,p3,p4⟩:=ha call hc N fr lv nx lg k r h1 hg ho
    refine⟨e,fr',lv',nx',l,p1,p2,p3,fun c rf hC F β ac w hs=>?_⟩
    have hv:=hs.val o
    rw [hC.2.2.1,hv0] at hv
    exact wpIn_cond_true (Vw.c_bool hv) (p4 c rf hC F β ac w hs)
  ·exact absurd h1 hg.ne
theorem iter_ok (hm:P.follows .mixedOrders=true){l0:Nat}{hd:HdT}{Y:AV→(Key→LB)→(Key→LB)→Prop}(hH:HdOK hd Y) (x:Code):RunOK P G (CY P G l0 Y) (SY l0 [0]) x (runG (m_condY G) (m_regionY P G hd) x):=
 runG_ok (fun _ _ _ _ _ ha hb=>condY_ok ha hb) (regionY_ok hm hH) x
noncomputable def exK2 (e:Ex)(n r:Res)(x:Nat→Res)(p:Res):Res:=
 Ex.rec (motive:=fun _=>Res) n x (fun _=>p) r (fun _=>p) e
noncomputable def bodyH (P:Program)(G:List (List DV))(p:Nat)(asg body:Code)(call:EvCall2)(N:Nat)(fr:Tb AV):HdT:=fun x lv nx lg k=>
 Tb.setK .undef x (pathOf p) fr fun fr1=>runK P G asg call N fr1 lv nx lg fun e fr2 lv nx lg=>
  exK2 e (runK P G body call N fr2 lv nx lg fun e _ lv nx lg=>exK2 e (k lv nx lg) (.bad 63 []) (fun _=>.bad 64 []) (.bad 65 [])) (.bad 66 []) (fun _=>.bad 67 []) (.bad 68 [])
def bodyY (P:Program)(G:List (List DV))(p:Nat)(asg body:Code)(N:Nat)(fr:Nat→AV)(x:AV)(lv lv':Key→LB):Prop:=
 ∃ fr2 lv1,AllOk lv1∧(∀ (l:Nat) (c:Ctx),c.P=P→c.G=G→c.n=N→AW c (some l) asg ⟨upd fr p x,lv⟩ 0 (fun e s _=>e=.normal∧s=⟨fr2,lv1⟩)) ∧
  (∀ (l:Nat) (c:Ctx),c.P=P→c.G=G→c.n=N→AW c (some l) body ⟨fr2,lv1⟩ 0 (fun e s _=>e=.normal∧s.lv=lv'))
theorem exK2_ok {e:Ex}{n rr p:Res}{x:Nat→Res}{r:Res}(h:exK2 e n rr x p=r) (h1:rr≠r) (h2:∀ i,x i≠r) (h3:p≠r):e=.normal∧n=r:=by
 cases e with
 | normal=>exact⟨rfl,h⟩
 | exit i=>exact absurd h (h2 i)
 | goto i=>exact absurd h h3
 | ret=>exact absurd h h1
 | panic d=>exact absurd h h3
theorem bodyH_ok (hm:P.follows .mixedOrders=true){call:EvCall2}(hc:CallOK P G call) (p:Nat) (asg body:Code) (N:Nat) (fr:Tb AV):HdOK (bodyH P G p asg body call N fr) (bodyY P G p asg body N (frT' fr)):=by
 intro x lv nx lg k r h hg ho
 unfold bodyH at h
 rw [Tb.setK_eq] at h
 obtain⟨e,fr2,lv1,nx1,l1,q1,q2,q3,q4⟩:=runK_ok hm asg call hc N _ lv nx lg _ r h hg ho
 obtain⟨rfl,q5⟩:=exK2_ok q1 hg.ne (fun _=>hg.ne) hg.ne
 obtain⟨e,fr3,lv2,nx2,l2,p1,p2,p3,p4⟩:=runK_ok hm body call hc N fr2 lv1 nx1 _ _ r q5 hg q2
 obtain⟨rfl,p5⟩:=exK2_ok p1 hg.ne (fun _=>hg.ne) hg.ne
 refine⟨lv2,nx2,l2++l1,by rw [List.append_assoc];exact p5,p2,q3.trans p3,frT' fr2,lvT' lv1,q2,fun l c hP hG hn=>?_,fun l c hP hG hn=>?_⟩
 ·have:=q4.aw (c:=c) (rf:=some l) ⟨hP,hG,hn⟩ (κ:=0) (Q:=fun e s _=>e=.normal∧s=⟨frT' fr2,lvT' lv1⟩) ⟨rfl,rfl⟩
  unfold SS at this
  rw [frT'_set] at this
  exact this
 ·exact p4.aw (c:=c) (rf:=some l) ⟨hP,hG,hn⟩ (κ:=0) (Q:=fun e s _=>e=.normal∧s.lv=lvT' lv2) ⟨rfl,rfl⟩
end
noncomputable def m_range (P:Program)(G:List (List DV))(fo:Operand)(ps:Array Nat)(asg body:Code):RunT:=fun call N fr lv nx lg k=>
 match ps.toList with
 | [p]=>boolK (Nat.blt p N) (.bad 50 []) (optK (callTgt (valT G fr fo)) (.bad 51 []) fun t=>boolK (nilB t.2.1) (.bad 52 []) (isFnK P t.1 (optK P.funcs[t.1]? (.bad 53 []) fun fn=>optK fn.body (.bad 54 []) fun itc=>
  boolK (Nat.ble (t.2.2.length+1) fn.ntmps && nilB fn.results.toList) (.bad 55 []) (argsK (.junk::t.2.2) 0 .leaf fun frI=>runG (m_condY G) (m_regionY P G (bodyH P G p asg body call N fr)) itc call fn.ntmps frI lv nx lg fun e _ lv nx lg=>
   exK2 e (k .normal fr lv nx lg) (k .normal fr lv nx lg) (fun _=>.bad 56 []) (.bad 57 [])))))
 | _=>.bad 58 []
noncomputable def runR (P:Program)(G:List (List DV))(c:Code):RunT:=
 Code.rec (motive:=fun _=>RunT) m_skip (m_region P G) m_seq (m_cond G) m_block m_loop (fun fo ps asg body _ _=>m_range P G fo ps asg body) m_exit (fun _ _=>m_bad) (fun _=>m_skip) m_goto m_ret (fun _=>m_bad) c
section
variable {P:Program}{G:List (List DV)}
def WR (P:Program)(G:List (List DV))(call:EvCall2)(x:Code)(run:RunT):Prop:=∀ N fr lv nx lg k r,run call N fr lv nx lg k=r→Good r→AllOk (lvT' lv) →
 ∀ c:Ctx,c.P=P→c.G=G→c.n=N→AWD c x (SS fr lv) 0 (fun e s _=>∃ fr' lv' nx' lg',s=SS fr' lv'∧AllOk (lvT' lv')∧k e fr' lv' nx' lg'=r)
variable {call:EvCall2}
theorem WR.of_RunOK (hc:CallOK P G call){x:Code}{run:RunT}(h:RunOK P G (Cb P G) SS x run):WR P G call x run:=by
 intro N fr lv nx lg k r hr hg ho c hP hG hn
 obtain⟨e,fr',lv',nx',l,q1,q2,q3,q4⟩:=h call hc N fr lv nx lg k r hr hg ho
 exact AWD.of_AW ho fun c' h1 h2 h3 _=>q4.aw (c:=c') (rf:=none) ⟨h1.trans hP,h2.trans hG,h3.trans hn⟩ ⟨fr',lv',nx',_,rfl,q2,q1⟩
theorem WR.seq {x y:Code}{a b:RunT}(ha:WR P G call x a) (hb:WR P G call y b):WR P G call (.seq x y) (m_seq x y a b):=by
 intro N fr lv nx lg k r hr hg ho c hP hG hn
 refine AWD.seq (K:=fun s _=>∃ fr1 lv1 nx1 lg1,s=SS fr1 lv1∧AllOk (lvT' lv1)∧b call N fr1 lv1 nx1 lg1 k=r) ((ha N fr lv nx lg _ r hr hg ho c hP hG hn).mono fun e s κ hq=>?_) ?_
 ·obtain⟨fr',lv',nx',lg',e1,e2,e3⟩:=hq
  cases e with
  | normal=>exact⟨fr',lv',nx',lg',e1,e2,e3⟩
  | exit i=>exact⟨fr',lv',nx',lg',e1,e2,e3⟩
  | goto i=>exact⟨fr',lv',nx',lg',e1,e2,e3⟩
  | ret=>exact⟨fr',lv',nx',lg',e1,e2,e3⟩
  | panic d=>exact⟨fr',lv',nx',lg',e1,e2,e3⟩
 ·rintro s κ ⟨fr1,lv1,nx1,lg1,rfl,e2,e3⟩
  exact hb N fr1 lv1 nx1 lg1 k r e3 hg e2 c hP hG hn
theorem WR.cond {o:Operand}{x y:Code}{a b:RunT}(ha:WR P G call x a) (hb:WR P G call y b):WR P G call (.cond o x y) (m_cond G o x y a b):=by
 intro N fr lv nx lg k r hr hg ho c hP hG hn
 have h0:condK (valT G fr o) (b call N fr lv nx lg k) (a call N fr lv nx lg k)=r:=hr
 unfold condK at h0
 split at h0
 ·rename_i t ht
  have hv:(SS fr lv).val c.G o=.c (.d (.bool t)):=by rw [hG,← ht,valT_eq G fr (lvT' lv)];rfl
  cases t with
  | false=>exact AWD.cond hv (hb N fr lv nx lg k r h0 hg ho c hP hG hn)
  | true=>exact AWD.cond hv (ha N fr lv nx lg k r h0 hg ho c hP hG hn)
 ·exact absurd h0 hg.ne
theorem WR.block {id:Nat}{x:Code}{a:RunT}(ha:WR P G call x a):WR P G call (.block id x) (m_block id x a):=by
 intro N fr lv nx lg k r hr hg ho c hP hG hn
 refine AWD.block ((ha N fr lv nx lg _ r hr hg ho c hP hG hn).mono fun e s κ hq=>?_)
 obtain⟨fr',lv',nx',lg',e1,e2,e3⟩:=hq
 cases e with
 | normal=>exact⟨fr',lv',nx',lg',e1,e2,e3⟩
 | exit i=>
  have e4:Bool.rec (motive:=fun _=>Res) (k (.exit i) fr' lv' nx' lg') (k .normal fr' lv' nx' lg') (Nat.beq i id)=r:=e3
  simp only [blockA]
  cases hb:Nat.beq i id with
  | true=>
   rw [hb] at e4
   have:=Nat.eq_of_beq_eq_true hb
   subst this
   rw [if_pos rfl]
   exact⟨fr',lv',nx',lg',e1,e2,e4⟩
  | false=>
   rw [hb] at e4
   rw [if_neg (Nat.ne_of_beq_eq_false hb)]
   exact⟨fr',lv',nx',lg',e1,e2,e4⟩
 | goto i=>exact⟨fr',lv',nx',lg',e1,e2,e3⟩
 | ret=>exact⟨fr',lv',nx',lg',e1,e2,e3⟩
 | panic d=>exact⟨fr',lv',nx',lg',e1,e2,e3⟩
theorem WR.loop {x:Code}{a:RunT}(ha:WR P G call x a):WR P G call (.loop x) (m_loop x a):=by
 intro N fr lv nx lg k r hr hg ho c hP hG hn
 let Q:Ex→LSt→Nat→Prop:=fun e s _=>∃ fr' lv' nx' lg',s=SS fr' lv'∧AllOk (lvT' lv')∧k e fr' lv' nx' lg'=r
 have key:∀ m fr lv nx lg,loopK a call N m fr lv nx lg k=r→AllOk (lvT' lv)→∀ F β ac w l,Mks c.w0.heap.size F w l→StOK { c with ds:=l.map mkD } F β (SS fr lv) ac w→Code.roundsIn (fen none) 0 c.P x (PostD c Q) m ac w:=by
  intro m
  induction m with
  | zero=>intro fr lv nx lg h _;exact absurd h hg.ne
  | succ m ih=>
   intro fr lv nx lg h ho F β ac w l hM hs
   rw [roundsIn_succ]
   refine wpIn_mono (ha N fr lv nx lg _ r h hg ho c hP hG hn F β ac w l hM hs) fun e a' w' hp=>?_
   obtain⟨e',s',κ',F',β',l',⟨fr',lv',nx',lg',rfl,e2,e3⟩,hm,hs',he⟩:=hp
   cases e' with
   | normal=>cases he;exact ih fr' lv' nx' lg' e3 e2 F' β' a' w' l' hm hs'
   | exit id=>cases he;exact⟨.exit id,_,κ',F',β',l',⟨fr',lv',nx',lg',rfl,e2,e3⟩,hm,hs',rfl⟩
   | goto i=>cases he;exact⟨.goto i,_,κ',F',β',l',⟨fr',lv',nx',lg',rfl,e2,e3⟩,hm,hs',rfl⟩
   | ret=>cases he;exact⟨.ret,_,κ',F',β',l',⟨fr',lv',nx',lg',rfl,e2,e3⟩,hm,hs',rfl⟩
   | panic d=>obtain⟨v,rfl,hv⟩:=he;exact⟨.panic d,_,κ',F',β',l',⟨fr',lv',nx',lg',rfl,e2,e3⟩,hm,hs',v,rfl,hv⟩
 exact fun F β ac w l hM hs=>wpIn_loop_rounds _ (key 1000000 fr lv nx lg hr ho F β ac w l hM hs)
theorem WR.range (hm:P.follows .mixedOrders=true)(hc:CallOK P G call)(fo:Operand)(ps:Array Nat)(asg body:Code):WR P G call (.rangeFunc fo ps asg body) (m_range P G fo ps asg body):=by
 intro N fr lv nx lg k r hr hg ho c hP hG hn
 unfold m_range at hr
 split at hr
 ·rename_i p hps
  have hps':ps=#[p]:=by cases ps;simp_all
  subst hps'
  obtain⟨h1,h2⟩:=boolK_true hr hg.ne
  obtain⟨⟨f,fs,caps⟩,h3,h4⟩:=optK_some h2 hg.ne
  obtain⟨h5,h6⟩:=boolK_true h4 hg.ne
  obtain⟨h7,h8⟩:=boolK_true (show boolK (isFn P f) (.bad 4 []) _=r from h6) hg.ne
  obtain⟨fn,h9,h10⟩:=optK_some h8 hg.ne
  obtain⟨itc,h11,h12⟩:=optK_some h10 hg.ne
  obtain⟨h13,h14⟩:=boolK_true h12 hg.ne
  rw [Bool.and_eq_true] at h13
  have hfs:fs=[]:=nilB_iff.1 h5
  subst hfs
  obtain⟨frI,h15,h16⟩:=argsK_ok h14
  have hres:fn.results=#[]:=by
   have:=nilB_iff.1 h13.2
   exact Array.toList_eq_nil_iff.1 this
  refine AWD.rangeFunc (κi:=0) (itc:=itc) (by rw [hn];exact Nat.le_of_ble_eq_true h1) (by rw [hG,← h3,valT_eq G fr (lvT' lv)];rfl) (by rw [hP];exact h7) (by rw [hP];exact h9) h11 (Nat.le_of_ble_eq_true h13.1) hres ho ?_
  intro l
  obtain⟨e,frE,lvE,nxE,lE,q1,q2,q3,q4⟩:=iter_ok (P:=P) (G:=G) (l0:=l) hm (bodyH_ok hm hc p asg body N fr) itc call hc fn.ntmps frI lv nx lg _ r h15 hg ho
  have hst:SY l [0] frI lv=⟨fun t=>(yv l::caps).getD t .undef,lvT' lv⟩:=by
   unfold SY
   congr 1
   funext t
   rw [h16 t]
   by_cases h0:t=0
   ·subst h0;rfl
   ·have e1:inY t [0]=false:=by
     cases e:inY t [0] with
     | false=>rfl
     | true=>
      rcases inY_cons e with h1|h1
      ·exact absurd h1 h0
      ·cases h1
    rw [e1]
    obtain⟨j,rfl⟩:∃ j,t=j+1:=⟨t - 1,by omega⟩
    simp only [Bool.false_eq_true,if_false,List.length_cons,Nat.zero_le,true_and,Nat.zero_add,Nat.sub_zero,List.getD_cons_succ]
    by_cases hj:j+1<caps.length+1
    ·rw [if_pos hj]
    ·rw [if_neg hj,getD_ge (by omega)]
     exact Tb.get_leaf _ _
  have hk:(e=.normal∨e=.ret)∧k .normal fr lvE nxE (lE++lg)=r:=by
   cases e with
   | normal=>exact⟨.inl rfl,q1⟩
   | ret=>exact⟨.inr rfl,q1⟩
   | exit i=>exact absurd q1 hg.ne
   | goto i=>exact absurd q1 hg.ne
   | panic d=>exact absurd q1 hg.ne
  refine⟨lvT' lvE,⟨fr,lvE,nxE,_,rfl,q2,hk.2⟩,fun c' e1 e2 e3 e4 hpr=>?_⟩
  have hy:YSim c' l (bodyY P G p asg body N (frT' fr)):=by
   intro fr1 lv1 lv2 ops o cl fy x hd hgd hop hcal hfy hargs hok1 hy
   obtain⟨fr2,lv3,g1,g2,g3⟩:=hy
   exact hpr (κ2:=0) (by rw [← e3];exact hd) hgd hop hcal (by rw [← e2];exact hfy) (by rw [← e2];exact hargs) hok1 g1
    (fun c'' d1 d2 d3 _=>g2 l c'' (d1.trans hP) (d2.trans hG) (d3.trans hn)) (fun c'' d1 d2 d3 _=>g3 l c'' (d1.trans hP) (d2.trans hG) (d3.trans hn))
  have:=q4.aw (c:=c') (rf:=none) ⟨rfl,e1.trans hP,e2.trans hG,e3,hy⟩ (κ:=0) (Q:=fun x s' _=>(x=.normal∨x=.ret)∧s'.lv=lvT' lvE) ⟨hk.1,rfl⟩
  rw [hst] at this
  exact this
 ·exact absurd hr hg.ne
theorem runR_ok (hm:P.follows .mixedOrders=true)(hc:CallOK P G call)(x:Code):WR P G call x (runR P G x):=by
 have bad:∀ y:Code,WR P G call y m_bad:=fun y N fr lv nx lg k r h hg ho=>absurd h hg.ne
 induction x with
 | skip=>exact WR.of_RunOK hc (runK_ok hm .skip)
 | region id ops dr=>exact WR.of_RunOK hc (region_ok hm id ops dr)
 | seq a b iha ihb=>exact WR.seq iha ihb
 | cond o a b iha ihb=>exact WR.cond iha ihb
 | block id a iha=>exact WR.block iha
 | loop a iha=>exact WR.loop iha
 | rangeFunc f ps a b _ _=>exact WR.range hm hc f ps a b
 | exit id=>exact WR.of_RunOK hc (runK_ok hm (.exit id))
 | scope a _=>exact bad _
 | label l=>exact WR.of_RunOK hc (runK_ok hm (.label l))
 | goto l=>exact WR.of_RunOK hc (runK_ok hm (.goto l))
 | ret=>exact WR.of_RunOK hc (runK_ok hm .ret)
 | refuse w=>exact bad _
end
end Go.Am
namespace Go.Am
open Go.Proofs
def lv1 (T:TypeId)(cs:List CV):Key→LB:=upd (fun _=>.hole) 0 (.cells false false T cs)
theorem lv1_z (T:TypeId)(cs:List CV):lv1 T cs 0=.cells false false T cs:=upd_same'
theorem lv1_n (T:TypeId)(cs:List CV){k:Key}(h:k≠0):lv1 T cs k=.hole:=upd_ne _ _ h
theorem CallG.at1 {P:Program}{G:List (List DV)}{f:FuncId}{a:AV}{r:List AV}{o n z:Nat}{T:TypeId}{cs:List CV}{x X:AV}{lv':Key→LB}{ks:List Key}(ha:a.pure=true) (hr:∀ u∈r,u.pure=true) (hcs:cs.all CV.pure=true) (hX:X.pure=true)
 (h:CallG P G f (a::.c (.lsl 0 o n z)::r) (lv1 T cs) (.ret x lv')) (h0:lv' 0=.cells false false T cs) (hd:dRes lv' x=some (X,ks)) (hks:0 ∉ ks) {lv:Key→LB}{k:Key}(hk:lv k=.cells false false T cs) :
 CallG P G f (a::.c (.lsl k o n z)::r) lv (.ret X lv):=by
 intro F β w vs hS hl hv
 have hbk:=hS.blk k
 unfold Vw.blk at hbk;simp only [hk] at hbk
 obtain⟨arr,b1,b2,b3,b4,b5⟩:=hbk
 simp only [Bool.false_eq_true,if_false] at b4
 have hlk:(lv k).live=true:=by rw [hk];rfl
 have hl1:∀ j,(lv1 T cs j).live=true→j=0:=fun j hj=>by
  by_cases e:j=0
  ·exact e
  ·rw [lv1_n T cs e] at hj;cases hj
 have pcv:∀ {V V':Vw},(∀ a v,V.mem a v→V'.mem a v)→∀ i (p:i<cs.length) (v:Value),V.cv v cs[i]→V'.cv v cs[i]:=fun {V V'} hm i p v hc=>
  av_pure_any (V:=V) (V':=V') hm (x:=.c cs[i]) (List.all_eq_true.1 hcs _ (List.getElem_mem p)) hc
 have hS0:Sits (CtxE P G w F (fun _=>β k) (lv1 T cs)) F (fun _=>β k) (lv1 T cs) w:=by
  refine⟨fun j=>?_,fun i j hi hj _=>by rw [hl1 i hi,hl1 j hj],fun _=>trivial,rfl,rfl,fun b hb=>⟨(hS.Flt b hb).1,.inl hb⟩,fun _ hb=>hb,fun _ _ _=>rfl,Nat.le_refl _,hS.glob,fun j _=>.inr ⟨rfl,LB.sub_refl _⟩,fun _=>Nat.le_refl _,⟨rfl,rfl⟩⟩
  by_cases e:j=0
  ·subst e
   unfold Vw.blk
   simp only [lv1_z]
   exact⟨arr,b1,b2,fun i p q=>pcv (V:=Vw.mk F β lv w) (V':=Vw.mk F (fun _=>β k) (lv1 T cs) w) (fun _ _ h=>h) i p _ (b3 i p q),by simpa using b4,.inr ⟨0,by rw [lv1_z];rfl,rfl⟩⟩
  ·unfold Vw.blk
   simp only [lv1_n T cs e]
 refine (h F (fun _=>β k) w vs hS0 hl (fun i p q=>?_)).mono fun e w' he=>?_
 ·have hvi:=hv i p q
  match i,p with
  | 0,_=>exact av_pure_any (V:=Vw.mk F β lv w) (V':=Vw.mk F (fun _=>β k) (lv1 T cs) w) (fun _ _ h=>h) ha hvi
  | 1,_=>
   obtain⟨c1,c2⟩:(Vw.mk F β lv w).atLsl _ k o n z∧_:=hvi
   refine⟨?_,c2⟩
   unfold Vw.atLsl at c1 ⊢
   simp only [hk] at c1
   simp only [lv1_z]
   exact c1
  | i+2,p=>exact av_pure_any (V:=Vw.mk F β lv w) (V':=Vw.mk F (fun _=>β k) (lv1 T cs) w) (fun _ _ h=>h) (hr _ (List.getElem_mem (by simpa using p))) hvi
 obtain⟨v,F',β',rfl,hX',hav⟩:=he
 have hβ0:β' 0=β k:=by
  rcases hX'.keep 0 (by show lv1 T cs 0≠_;rw [lv1_z];exact fun h=>by cases h) with h1|h1
  ·have h1:lv' 0=.dead:=h1
   rw [h0] at h1;cases h1
  ·exact h1.1
 have hb0:=hX'.blk 0
 unfold Vw.blk at hb0;simp only [h0] at hb0
 obtain⟨arr',d1,d2,d3,d4,d5⟩:=hb0
 simp only [Bool.false_eq_true,if_false,hβ0] at d1 d4
 have hlt:∀ {b:Nat},F b→b≠β k:=fun hb e=>b4 (e ▸ hb)
 have hnew:∀ j∈ks,β' j<w'.heap.size∧(F' (β' j)∨(β' j≠β k∧w.heap.size≤β' j)):=by
  intro j hj
  obtain⟨own,fz,T',cs',e⟩:=dRes_keys hd j hj
  have hlt:β' j<w'.heap.size:=StOK.cells_lt hX' e
  refine⟨hlt,?_⟩
  cases fz with
  | false=>
   have hj0:β' j≠β k:=fun e'=>by
    have hl':(lv' j).live=true:=by rw [e];rfl
    have hl0:(lv' 0).live=true:=by rw [h0];rfl
    have:=hX'.inj j 0 hl' hl0 (by rw [e',hβ0])
    exact hks (this ▸ hj)
   refine .inr ⟨hj0,?_⟩
   rcases hX'.live_own (k:=j) (by show (lv' j).live=true;rw [e];rfl) with h1|⟨i,_,h2⟩
   ·exact h1
   ·exact absurd h2.symm hj0
  | true=>
   have hb:=hX'.blk j
   unfold Vw.blk at hb
   simp only [e] at hb
   obtain⟨_,_,_,_,g4,_⟩:=hb
   simp only [if_true] at g4
   exact .inl g4
 have hFz:∀ b,F' b→(F' b∨∃ j∈ks,b=β' j):=fun b hb=>.inl hb
 have hFl:∀ b,(F' b∨∃ j∈ks,b=β' j)→b<w'.heap.size∧(F b∨w.heap.size≤b):=by
  rintro b (hb|⟨j,hj,rfl⟩)
  ·exact hX'.Flt b hb
  ·obtain⟨h1,h2|h2⟩:=hnew j hj
   ·exact hX'.Flt _ h2
   ·exact⟨h1,.inr h2.2⟩
 have hFk:¬ (F' (β k)∨∃ j∈ks,β k=β' j):=by
  rintro (hb|⟨j,hj,e⟩)
  ·exact d4 hb
  ·obtain⟨_,h2|h2⟩:=hnew j hj
   ·exact d4 (e ▸ h2)
   ·exact h2.1 e.symm
 have hold:∀ b,b<w.heap.size→b≠β k→w'.heap[b]?=w.heap[b]?:=fun b hb hne=>hX'.old b hb (by
  rintro⟨j,_,h2⟩
  exact hne h2.symm)
 refine⟨v,fun b=>F' b∨∃ j∈ks,b=β' j,β,rfl,?_,Sits.dRes (s:=⟨fun _=>.junk,lv'⟩) hX' hFz hd (fun j hj=>.inr ⟨j,hj,rfl⟩) hav⟩
 refine StOK.step (hoo:=hX'.oso) (c:={ CtxE P G w F β lv with n:=0 }) (s:=⟨fun _=>.junk,lv⟩) hS (fun b hb=>.inl (hX'.F0 b hb)) (fun b hb=>hold b (hS.Flt b hb).1 (hlt hb)) (fun _=>LB.sub_refl _) (fun _ _ _=>rfl) hX'.asz ?_ hS.inj (fun b hb=>(hFl b hb).2.imp id fun h=>⟨(hFl b hb).1,h⟩) hX'.ge (fun b hb hW=>hold b hb (fun e=>hW ⟨k,hlk,e.symm⟩))
 intro j hK
 by_cases ej:j=k
 ·subst ej
  unfold Vw.blk
  simp only [hk]
  refine⟨arr',d1,d2,fun i p q=>pcv (V:=Vw.mk F' β' lv' w') (V':=Vw.mk (fun b=>F' b∨∃ j∈ks,b=β' j) β lv w') (fun a v hm=>⟨Or.inl hm.1,hm.2⟩) i p _ (d3 i p q),by simpa using hFk,b5⟩
 have hb:=hS.blk j
 have key:(lv j).live=true→(Vw.mk (fun b=>F' b∨∃ j∈ks,b=β' j) β lv w').blk { CtxE P G w F β lv with n:=0 } j:=fun hl=>
  Vw.blk_keep hb hK rfl rfl (hold _ (hS.live_lt hl) (fun e=>ej (hS.inj j k hl hlk e))) (fun _ hf=>by
   rcases (hFl _ hf).2 with h|h
   ·exact h
   ·have:=hS.live_lt (k:=j) hl
    grind)
 cases e:lv j with
 | cells own fz T cs=>
  cases fz with
  | false=>exact key (by rw [e];rfl)
  | true=>
   unfold Vw.blk at hb ⊢;simp only [e] at hb ⊢
   obtain⟨arr,b1,b2,b3,b4,b5⟩:=hb
   simp only [if_true] at b4 ⊢
   exact⟨arr,by rw [hold _ (hS.Flt _ b4).1 (hlt b4)];exact b1,b2,fun i p q=>hK.cv (b3 i p q),.inl (hX'.F0 _ b4),b5⟩
 | map own es=>exact key (by rw [e];rfl)
 | hole=>unfold Vw.blk;grind
 | dead=>unfold Vw.blk;grind
 | nils=>unfold Vw.blk;grind
section
variable {P:Program}{G:List (List DV)}{call:EvCall2}
theorem CallG.of_AWDG {f:FuncId}{fn:Func}{code:Code}{args:List AV}{lv lv':Key→LB}{x:AV}(hf:P.funcs[f]?=some fn) (hb:fn.body=some code) (hl:args.length≤fn.ntmps)
 (h:∀ c:Ctx,c.P=P→c.G=G→c.n=fn.ntmps→AWD c code ⟨fun t=>args.getD t .undef,lv⟩ 0 (fun e s _=>(e=.normal∨e=.ret)∧s.lv=lv'∧resA P s fn.results.toList=some x)):CallG P G f args lv (.ret x lv'):=by
 intro F β w vs hS hvl hv
 refine (callsIn_wide (n:=0)).1 (callsIn_of_wp_marks hf hb trivial ?_ rfl)
 let c:Ctx:={ CtxE P G w F β lv with n:=fn.ntmps }
 have hS':Sits c F β lv w:=hS
 let a:Act:={ tmps:=vs++Array.replicate (fn.ntmps - vs.size) undef,defers:=[] }
 have hst:StOK c F β ⟨fun t=>args.getD t .undef,lv⟩ a w:=by
  refine hS'.with ?_ rfl (fun t=>?_)
  ·show (vs++Array.replicate (fn.ntmps - vs.size) undef).size=fn.ntmps
   simp;omega
  ·show (Vw.mk F β lv w).av ((vs++Array.replicate (fn.ntmps - vs.size) undef).getD t undef) (args.getD t .undef)
   by_cases ht:t<args.length
   ·have h1:args.getD t .undef=args[t]:=getD_lt ht
    have h2:(vs++Array.replicate (fn.ntmps - vs.size) undef).getD t undef=vs[t]'(by omega):=by
     rw [Array.getD_eq_getD_getElem?,Array.getElem?_append_left (by omega),Array.getElem?_eq_getElem (by omega)];rfl
    rw [h1,h2];exact hv t ht (by omega)
   ·have h1:args.getD t .undef=.undef:=getD_ge ht
    have h2:(vs++Array.replicate (fn.ntmps - vs.size) undef).getD t undef=undef:=by
     rw [Array.getD_eq_getD_getElem?,Array.getElem?_append_right (by omega),Array.getElem?_replicate];split <;> rfl
    rw [h1,h2];rfl
 refine wpIn_mono (h c rfl rfl rfl F β a w [] (Mks.nil _ _ _) hst) fun e a' w' hp=>?_
 obtain⟨e',s',κ',F',β',l',hq,hm,hs',he⟩:=hp
 obtain⟨q1,q2,q3⟩:=hq
 have key:LeavesInM Fence.wide 0 P fn a'.tmps (outG P G lv F β w (.ret x lv')) a'.defers .returning w':=by
  rw [hs'.defers]
  refine leave_marks (c:={ c with ds:=l'.map mkD }) (s:=s') l' w' hm hs' fun w2 hX0=>?_
  obtain⟨v,h4,hav⟩:=resA_run hX0 q3
  have hX:Sits (CtxE P G w F β lv) F' β' s'.lv w2:=hX0.sits
  rw [q2] at hX hav
  exact⟨v,h4,v,F',β',rfl,hX,hav⟩
 rcases q1 with rfl|rfl
 ·cases he;exact key
 ·cases he;exact key
noncomputable def funL (P:Program)(G:List (List DV))(call:EvCall2)(f:FuncId)(us:List AV)(lv0:Tb LB)(nx0:Nat):Res:=
 optK P.funcs[f]? (.bad 17 []) fun fn=>optK fn.body (.bad 18 []) fun c=>boolK (Nat.ble us.length fn.ntmps) (.bad 19 []) (
  argsK us 0 .leaf fun fr=>runR P G c call fn.ntmps fr lv0 nx0 [] fun e fr lv nx lg=>
   exK2 e (optK (resA P ⟨frT' fr,lvT' lv⟩ fn.results.toList) (.bad 20 []) fun x=>.done x lv nx []) (optK (resA P ⟨frT' fr,lvT' lv⟩ fn.results.toList) (.bad 20 []) fun x=>.done x lv nx []) (fun _=>.bad 21 []) (.bad 22 []))
theorem CallG.of_funL (hm:P.follows .mixedOrders=true)(hc:CallOK P G call){f:FuncId}{us:List AV}{lv0:Tb LB}{nx0:Nat}{X:AV}{LV:Tb LB}{nx:Nat}{lg:List Key}(h0:AllOk (lvT' lv0)) (hr:funL P G call f us lv0 nx0=.done X LV nx lg) :
 CallG P G f us (lvT' lv0) (.ret X (lvT' LV)):=by
 have hg:Good (.done X LV nx lg):=Good.done
 unfold funL at hr
 obtain⟨fn,h1,h2⟩:=optK_some hr hg.ne
 obtain⟨code,h3,h4⟩:=optK_some h2 hg.ne
 obtain⟨h5,h6⟩:=boolK_true h4 hg.ne
 obtain⟨fr,h7,h8⟩:=argsK_ok h6
 have hfr:frT' fr=fun t=>us.getD t .undef:=by
  funext j
  rw [h8 j]
  by_cases hj:j<us.length
  ·rw [if_pos (by omega)];rfl
  ·rw [if_neg (by omega),getD_ge (by omega)]
   exact Tb.get_leaf _ _
 have hSS:SS fr lv0=⟨fun t=>us.getD t .undef,lvT' lv0⟩:=by unfold SS;rw [hfr]
 refine CallG.of_AWDG h1 h3 (Nat.le_of_ble_eq_true h5) fun c hP hG hn=>?_
 have:=runR_ok hm hc code fn.ntmps fr lv0 nx0 [] _ _ h7 hg h0 c hP hG hn
 rw [hSS] at this
 refine this.mono fun e s κ hq=>?_
 obtain⟨fr',lv',nx',lg',rfl,_,e3⟩:=hq
 have fin:∀ (q:(optK (resA P ⟨frT' fr',lvT' lv'⟩ fn.results.toList) (.bad 20 []) fun x=>Res.done x lv' nx' [])=.done X LV nx lg),lvT' lv'=lvT' LV∧resA P (SS fr' lv') fn.results.toList=some X:=by
  intro q
  obtain⟨Y,g1,g2⟩:=optK_some q hg.ne
  simp only [Res.done.injEq] at g2
  obtain⟨rfl,rfl,_,_⟩:=g2
  exact⟨rfl,g1⟩
 cases e with
 | normal=>exact⟨.inl rfl,fin e3⟩
 | ret=>exact⟨.inr rfl,fin e3⟩
 | exit i=>exact absurd e3 hg.ne
 | goto i=>exact absurd e3 hg.ne
 | panic d=>exact absurd e3 hg.ne
end
structure Ent where
 a:AV
 o:Nat
 n:Nat
 z:Nat
 T:Nat
 cs:List CV
 r:List AV
 x:AV
def Ent.us (e:Ent)(k:Key):List AV:=e.a::.c (.lsl k e.o e.n e.z)::e.r
def Ent.good (e:Ent):Bool:=e.a.pure && e.r.all AV.pure && e.cs.all CV.pure && e.x.pure
def Ent.At (P:Program)(G:List (List DV))(f:FuncId)(e:Ent):Prop:=∀ {lv:Key→LB}{k:Key},lv k=.cells false false e.T e.cs→CallG P G f (e.us k) lv (.ret e.x lv)
noncomputable def Ent.tr (e:Ent):Tb LB:=Tb.set .hole (.cells false false e.T e.cs) (pathOf 0) .leaf
theorem Ent.tr_lv (e:Ent):lvT' e.tr=lv1 e.T e.cs:=by
 funext k
 have:Decidable (pathOf k=pathOf 0):=Classical.propDecidable _
 show Tb.get LB.hole (Tb.set LB.hole (LB.cells false false e.T e.cs) (pathOf 0) .leaf) (pathOf k)=_
 rw [Tb.get_set]
 by_cases h0:k=0
 ·subst h0;rw [if_pos rfl,lv1_z]
 ·rw [if_neg (fun h=>h0 (pathOf_inj h)),lv1_n _ _ h0];exact Tb.get_leaf _ _
theorem Ent.tr_ok (e:Ent):AllOk (lvT' e.tr):=by
 rw [e.tr_lv]
 intro k
 by_cases h:k=0
 ·subst h;rw [lv1_z];rfl
 ·rw [lv1_n _ _ h];rfl
noncomputable def finL (r:Res):Option (AV × Bool × LB):=
 Res.rec (motive:=fun _=>Option (AV × Bool × LB)) (fun _ _=>none) (fun x lv _ _=>(dRes (lvT' lv) x).map fun p=>(p.1,p.2.any (Nat.beq 0),lvT' lv 0)) (fun _ _ _ _=>none) r
section
variable {P:Program}{G:List (List DV)}{call:EvCall2}{f:FuncId}{e:Ent}
theorem Ent.of_done (hg:e.good=true){X:AV}{LV:Tb LB}{nx:Nat}{lg:List Key}(h:CallG P G f (e.us 0) (lvT' e.tr) (.ret X (lvT' LV))) (hf:finL (.done X LV nx lg)=some (e.x,false,.cells false false e.T e.cs)):e.At P G f:=by
 intro lv k hk
 simp only [Ent.good,Bool.and_eq_true,List.all_eq_true] at hg
 obtain⟨⟨⟨g1,g2⟩,g3⟩,g4⟩:=hg
 have hf:(dRes (lvT' LV) X).map (fun p=>(p.1,p.2.any (Nat.beq 0),lvT' LV 0))=some (e.x,false,.cells false false e.T e.cs):=hf
 obtain⟨⟨y,ks⟩,f1,f2⟩:=Option.map_eq_some_iff.1 hf
 simp only [Prod.mk.injEq] at f2
 obtain⟨rfl,f3,f4⟩:=f2
 rw [e.tr_lv] at h
 refine CallG.at1 g1 g2 (List.all_eq_true.2 g3) g4 h f4 f1 (fun h0=>?_) hk
 rw [List.any_eq_true.2 ⟨0,h0,rfl⟩] at f3
 cases f3
theorem Ent.of_ev (hc:CallOK P G call)(hg:e.good=true)(h:finL (call f (e.us 0) e.tr 1 [] kDone .pan)=some (e.x,false,.cells false false e.T e.cs)):e.At P G f:=by
 generalize hr:call f (e.us 0) e.tr 1 [] kDone .pan=r at h
 cases r with
 | bad n o=>cases h
 | pan d lv nx lg=>cases h
 | done X LV nx lg=>
  rcases hc f (e.us 0) e.tr 1 [] kDone .pan _ hr (fun n o h=>by cases h) e.tr_ok with ⟨x,lv',nx',l,q1,q2,_⟩|⟨d,lv',nx',l,q1,_⟩
  ·simp only [kDone,Res.done.injEq] at q1
   obtain⟨rfl,rfl,_,_⟩:=q1
   exact Ent.of_done hg q2 h
  ·cases q1
theorem Ent.of_evR (hm:P.follows .mixedOrders=true)(hc:CallOK P G call)(hg:e.good=true)(h:finL (funL P G call f (e.us 0) e.tr 1)=some (e.x,false,.cells false false e.T e.cs)):e.At P G f:=by
 generalize hr:funL P G call f (e.us 0) e.tr 1=r at h
 cases r with
 | bad n o=>cases h
 | pan d lv nx lg=>cases h
 | done X LV nx lg=>exact Ent.of_done hg (CallG.of_funL hm hc e.tr_ok hr) h
end
def Ent.lb (e:Ent):LB→Bool
 | .cells false false T cs=>Nat.beq e.T T && lsB cdB e.cs cs
 | _=>false
theorem Ent.lb_eq {e:Ent}{b:LB}(h:e.lb b=true):b=.cells false false e.T e.cs:=by
 unfold Ent.lb at h
 split at h
 ·simp only [Bool.and_eq_true] at h
  rw [Nat.eq_of_beq_eq_true h.1,lsB_eq cdB_eq h.2]
 ·cases h
noncomputable def Ent.fits (e:Ent)(us:List AV)(lv:Tb LB):Bool:=
 match us with
 | a::.c (.lsl k o n z)::r=>(avB e.a a && lsB avB e.r r && Nat.beq e.o o && Nat.beq e.n n && Nat.beq e.z z) && e.lb (lvT' lv k)
 | _=>false
theorem Ent.fits_eq {e:Ent}{us:List AV}{lv:Tb LB}(h:e.fits us lv=true):∃ k,us=e.us k∧lvT' lv k=.cells false false e.T e.cs:=by
 unfold Ent.fits at h
 split at h
 ·simp only [Bool.and_eq_true] at h
  obtain⟨⟨⟨⟨⟨h1,h2⟩,h3⟩,h4⟩,h5⟩,h6⟩:=h
  refine⟨_,?_,Ent.lb_eq h6⟩
  unfold Ent.us
  rw [avB_eq _ _ h1,lsB_eq avB_eq h2,Nat.eq_of_beq_eq_true h3,Nat.eq_of_beq_eq_true h4,Nat.eq_of_beq_eq_true h5]
 ·cases h
noncomputable def gLive:List Ent→List AV→Tb LB→Option AV
 | [],_,_=>none
 | e::l,us,lv=>bif e.fits us lv then some e.x else gLive l us lv
theorem gLive_in:∀ {l:List Ent}{us:List AV}{lv:Tb LB}{x:AV},gLive l us lv=some x→∃ e∈l,e.fits us lv=true∧x=e.x
 | e::l,us,lv,x,h=>by
  unfold gLive at h
  cases hf:e.fits us lv with
  | true=>rw [hf] at h;cases h;exact⟨e,List.mem_cons_self ..,hf,rfl⟩
  | false=>
   rw [hf] at h
   obtain⟨e',h1,h2⟩:=gLive_in h
   exact⟨e',List.mem_cons_of_mem _ h1,h2⟩
theorem SpecOK.lives {P:Program}{G:List (List DV)}{sp:Tb Spec}{ft:TypeId}(h:SpecOK P G sp ft) (f0:Nat) (l:List Ent) (hl:∀ e∈l,e.At P G f0):SpecOK P G (setS f0 (.live (gLive l)) sp) ft where
 pure:=by
  intro f g us x hf
  rw [setS_get] at hf
  split at hf
  ·cases hf
  ·exact h.pure f g us x hf
 caughtR:=by
  intro f hf
  rw [setS_get] at hf
  split at hf
  ·cases hf
  ·exact h.caughtR f hf
 caughtP:=by
  intro f hf
  rw [setS_get] at hf
  split at hf
  ·cases hf
  ·exact h.caughtP f hf
 selfN:=by
  intro f T hf
  rw [setS_get] at hf
  split at hf
  ·cases hf
  ·exact h.selfN f T hf
 live:=by
  intro f g us lv x hf hx ho
  rw [setS_get] at hf
  split at hf
  ·rename_i e;subst e;cases hf
   obtain⟨e,h1,h2,rfl⟩:=gLive_in hx
   obtain⟨k,rfl,h3⟩:=Ent.fits_eq h2
   exact hl e h1 h3
  ·exact h.live f g us lv x hf hx ho
 selfP:=by
  intro f T hf
  rw [setS_get] at hf
  split at hf
  ·cases hf
  ·exact h.selfP f T hf
theorem check_x (m:Int):CallsP Tryz.prog (GG m) 163 [pX] (.tup [nI 0,nI 0,nI 0]):=CallsP.of_ev (evZ_ok m 80) (by kernel_rfl)
def tabC:List (List AV × AV):=[([pX],.tup [nI 0,nI 0,nI 0])]
noncomputable def spC:Tb Spec:=setS 163 (.pure (gTab tabC)) spZ
theorem spC_ok (m:Int):SpecOK Tryz.prog (GG m) spC 0:=(spZ_ok m).tab 163 tabC rfl fun p hp=>by
 simp only [tabC,List.mem_cons,List.not_mem_nil,or_false] at hp
 subst hp;exact check_x m
theorem evC_ok (m:Int)(n:Nat):CallOK Tryz.prog (GG m) (evK Tryz.prog (GG m) spC 0 n):=evK_ok mixed (spC_ok m) n
def eB (a b c d a' b' c' d':Nat):Ent:=⟨pX,0,1,6,32,(qA a b++qA c d).map .d,[nI 2],.tup [iy a' b' c' d',nI 0]⟩
def eN (r:List AV)(x:AV):Ent:=⟨pX,0,1,2,24,[.d (.str [49]),.d (.str [50])],r,x⟩
end Go.Am
