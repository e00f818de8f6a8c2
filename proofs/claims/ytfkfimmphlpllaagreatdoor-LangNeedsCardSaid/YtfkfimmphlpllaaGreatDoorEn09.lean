/- Helpers: an abstract machine for Go functions, and walks of functions of the program. -/
import Derived.Test.YtfkfimmphlpllaaGreatDoorEn08

set_option linter.all false
set_option maxHeartbeats 8000000
set_option maxRecDepth 100000
namespace Go.Am
open Go.Am.Ty Go.Proofs N
variable {B vb n V P A X t:Nat}{lv:Key→LB}{k:IntKind}{l:List Nat}
theorem Mr (k:IntKind)(l:List Nat):(dK k l).flatten.map CV.d=wK k l:=by
 have:(dK k l).flatten=l.map fun (x:Nat)=>DV.int k (x:Int):=by
  unfold dK;induction l with
  | nil=>rfl
  | cons a l ih=>simp only [List.map_cons,List.flatten_cons,ih];rfl
 rw [this,List.map_map];rfl
theorem O2(o:Option (List Nat)):gV lv 1 (nK k o)=some ((dO o).length,wK k (dO o)):=by
 cases o with
 | none=>rfl
 | some l=>
  have h1:(dK k l).all (fun e=>e.length == 1)=true:=by rw [List.all_eq_true];intro e he;obtain⟨x,_,rfl⟩:=List.mem_map.1 he;rfl
  show gV lv 1 (.c (.d (.sl (dK k l))))=_;simp only [gV,h1,if_true,Mr];simp [dK]
theorem MK (k:IntKind):nK k none=.c (.d .nilsl):=rfl
theorem FH (k:IntKind)(x:Nat)(l:List Nat):CV.d (.int k (x:Int))::wK k l=wK k (x::l):=rfl
theorem ag.Ku {c:Ctx}{f:FuncId}{K:AV→List (Key × LB)→List Key→Nat→Prop}(κ' kh κb:Key) {T:TypeId}{x0 x:AV}(hk:lv κb=.cells true false T (wK k l)) (hl:l.length≤1000)
 (hc:aa c.P c.G f [x0,nK k (some l)] x) (hx0:x0.pure=true) (hx:x.pure=true) (hh:lv kh=.hole) (hK:K x [(κb,.cells true true T (wK k l))] [kh,κb] κ'):ag c f [x0,.c (.aV κb 0 l.length 1)] lv K:=by
 have e:bk lv (eU [(κb,T,wK k l)]) κb=.cells true true T (wK k l):=by simp [eU,bk,aG]
 refine ag.Ts (us:=[x0,nK k (some l)]) κ' kh [(κb,T,wK k l)] [kh,κb] hc hx (by simpa using hk) (by simp) hh rfl (fun i p' q'=>?_) (fun a ha j hj=>?_) (by simp) hK
 ·have hi:i=0∨i=1:=by simp at p';omega
  rcases hi with rfl|rfl
  ·exact .inl ⟨hx0,rfl⟩
  ·exact .inr ⟨[κb],Ao e (by omega),by simp⟩
 ·simp only [List.mem_cons,List.not_mem_nil,or_false] at ha;rcases ha with rfl|rfl
  ·rw [nY hx0] at hj;cases hj
  ·left;simp only [om,ld,e,List.mem_cons] at hj;rcases hj with rfl|hj
   ·simp
   ·simp only [List.mem_flatMap] at hj;obtain⟨y,hy,hj⟩:=hj;simp only [wK,List.mem_map] at hy;obtain⟨z,_,rfl⟩:=hy
    cases hj
theorem o8 (o o':Option (List Nat)):(AV.tup [nK .i64 o,nK .i64 o']).pure=true:=by
 cases o <;> cases o' <;> rfl
theorem Rb(hB:0<B) (h:ok B l) (h1:1≤n) (h2:n≤l.length) (h3:l.length≤n+1):val B l / B ^ (n - 1)=l.getD (n - 1) 0+B*l.getD n 0:=by
 have e1:=b7 (B:=B) l (n - 1) (by omega);have e2:=cG (B:=B) (l:=l) (i:=n - 1) (by omega);rw [show n - 1+1=n by omega] at e2
 have e3:val B (l.drop n)=l.getD n 0:=by
  by_cases h4:n<l.length
  ·rw [cG h4,eL (by omega),Nat.mul_zero,Nat.add_zero,List.getD_eq_getElem?_getD,List.getElem?_eq_getElem h4];rfl
  ·rw [eL (by omega),List.getD_eq_getElem?_getD,List.getElem?_eq_none (by omega)];rfl
 have e4:l.getD (n - 1) 0=l[n - 1]'(by omega):=by rw [List.getD_eq_getElem?_getD,List.getElem?_eq_getElem (by omega)];rfl
 have e5:=eN (kQ h (n - 1));rw [List.length_take,Nat.min_eq_left (by omega)] at e5;rw [e1,e2,e3,e4];generalize l[n - 1]+B*l.getD n 0=q;exact Nat.div_eq_of_lt_le (by rw [Nat.mul_comm];omega) (by rw [Nat.add_mul,Nat.one_mul,Nat.mul_comm q];omega)
theorem Qx(h1:X*P≤V) (h2:vb<(t+1)*P) (hb:0<vb):X / (t+1)≤V / vb:=by
 rw [Nat.le_div_iff_mul_le hb]
 calc X / (t+1)*vb≤X / (t+1)*((t+1)*P):=Nat.mul_le_mul_left _ (Nat.le_of_lt h2)
  _=(X / (t+1)*(t+1))*P:=by rw [Nat.mul_assoc]
  _≤X*P:=Nat.mul_le_mul_right _ (Nat.div_mul_le_self _ _)
  _≤V:=h1
theorem Ro(h1:V<(X+1)*P) (h2:t*P≤vb) (ht:0<t):V / vb≤(X+1) / t:=by
 have hP:0<P:=by
  rcases Nat.eq_zero_or_pos P with h|h
  ·subst h;omega
  ·exact h
 have hb:0<vb:=Nat.lt_of_lt_of_le (Nat.mul_pos ht hP) h2;rw [Nat.le_div_iff_mul_le ht];have h3:V / vb*(t*P)≤V:=Nat.le_trans (Nat.mul_le_mul_left _ h2) (Nat.div_mul_le_self _ _);rw [← Nat.mul_assoc] at h3;have h4:=Nat.lt_of_mul_lt_mul_right (Nat.lt_of_le_of_lt h3 h1);omega
theorem LK {k R x qs:Nat}(hV:x+B*R=V) (h:vb*qs+R=k):vb*(V / vb+B*qs)+V % vb=x+B*k:=by
 have h1:=Nat.div_add_mod V vb;rw [← h,Nat.mul_add,Nat.mul_add,← hV,Nat.mul_left_comm] at *
 omega
def KF (a b:Option (List Nat)):Option (List Nat):=if dO a=[] then none else some (aH 1000000000 (val 1000000000 (dO a) % val 1000000000 (dO b)))
theorem OX:aH 1000000000 0=[]:=(dN (by decide)).2 rfl
theorem ru (G:List (List DV))(a b:Option (List Nat))(oka:ok 1000000000 (dO a))(hb:can 1000000000 (dO b))(hb0:dO b≠[])(hal:(dO a).length≤100000)(hbl:(dO b).length≤100000) :
 aa Tryz.prog G 275 [nK .i64 a,nK .i64 b] (.tup [nK .i64 (some (aH 1000000000 (val 1000000000 (dO a) / val 1000000000 (dO b)))),nK .i64 (KF a b)]):=by
 have hbs:∀ (lv:Key→LB) (h:lv 1=.hole) (a:CV),au Tryz.prog 213 1 [0] lv 1 [.c a]=some (.c (.aV 1 0 1 1),[(1,.cells true false 2 [a])],[],True):=fun lv h a=>Ck lv 1 h a
 obtain⟨n,hn⟩:∃ n,(dO b).length=n:=⟨_,rfl⟩
 obtain⟨vb,hvb⟩:∃ vb,val 1000000000 (dO b)=vb:=⟨_,rfl⟩
 have hn1:1≤n:=by rw [← hn];exact List.length_pos_iff.2 hb0
 have hvp:0<vb:=by rw [← hvb];exact gI hb hb0
 have hdb:dO b=aH 1000000000 vb:=gw (by decide) hb hvb;have hvl:vb<1000000000 ^ n:=by rw [← hvb,← hn];exact eN hb.1
 obtain⟨t,ht⟩:∃ t,(dO b)[n - 1]?=some t:=⟨_,List.getElem?_eq_getElem (by omega)⟩
 have ht1:(dO b)[n - 1]'(by omega)=t:=(List.getElem?_eq_some_iff.1 ht).2;have htB:t<1000000000:=by rw [← ht1];exact hb.1 _ (List.getElem_mem _)
 have ht0:0<t:=by
  have:=hb.2 t (by rw [List.getLast?_eq_getElem?,hn];exact ht);omega
 have htop:=Rb (B:=1000000000) (by decide) hb.1 hn1 (by omega) (by omega);rw [hvb,List.getD_eq_getElem?_getD,ht,List.getD_eq_getElem?_getD,List.getElem?_eq_none (by omega)] at htop;simp only [Option.getD_some,Option.getD_none,Nat.mul_zero,Nat.add_zero] at htop;have hPp:0<1000000000 ^ (n - 1):=Nat.pow_pos (by decide);have hb1:t*1000000000 ^ (n - 1)≤vb:=by rw [← htop];exact Nat.div_mul_le_self _ _
 have hb2:vb<(t+1)*1000000000 ^ (n - 1):=by rw [← htop];exact Nat.lt_mul_of_div_lt (Nat.lt_succ_self _) hPp
 have cmpG:∀ V,aa Tryz.prog G 247 [(nK .i64 (some (aH 1000000000 (V)))),nK .i64 b] (.c (.d (.int .i64 (dI V vb)))):=fun V=>by
  have hcmp:=me G (a:=some (aH 1000000000 V)) (b:=b) (bq (by decide) V) hb;simp only [aW,bn (by decide:2≤1000000000),hvb] at hcmp;exact hcmp
 have cmG:∀ W V,aa Tryz.prog G 247 [(nK .i64 (some (aH 1000000000 (W)))),(nK .i64 (some (aH 1000000000 (V))))] (.c (.d (.int .i64 (dI W V)))):=fun W V=>by
  have hcm:=me G (a:=some (aH 1000000000 W)) (b:=some (aH 1000000000 V)) (bq (by decide) _) (bq (by decide) _);simp only [aW,bn (by decide:2≤1000000000)] at hcm;exact hcm
 have prG:∀ mi,mi<1000000000→aa Tryz.prog G 248 [nK .i64 b,nK .i64 (some [mi])] (nK .i64 (some (aH 1000000000 (vb*mi)))):=fun mi hmi=>by
  have hpr:=qF G b (some [mi]) hb.1 (bA.2 ⟨hmi,cx _⟩) (by omega) (by simp);have hval:val 1000000000 (dO (some [mi]))=mi:=by simp
  rw [hval,hvb] at hpr;exact hpr
 have dfG:∀ V W,(aH 1000000000 V).length≤1000000→W≤V→aa Tryz.prog G 323 [(nK .i64 (some (aH 1000000000 (V)))),(nK .i64 (some (aH 1000000000 (W))))] (nK .i64 (some (aH 1000000000 (V - W)))):=fun V W hl hle=>by
  have hdl:(aH 1000000000 W).length≤(aH 1000000000 V).length:=cT (by decide) hle;have hdf:=mK G (some (aH 1000000000 V)) (some (aH 1000000000 W)) (bq (by decide) _).1 (bq (by decide) _).1 (by simp;omega) (by simp;omega) (by simp only [aW,bn (by decide:2≤1000000000)];exact hle);simp only [aW,bn (by decide:2≤1000000000)] at hdf;exact hdf
 refine aa.Nc Tryz.func275 rfl fun _=>aab ?_;refine aai fun K hK=>?_;simp
 repeat (refine And.intro (by omega) ?_)
 apply hK;clear hK K;refine aan hn ?_;refine aab ?_;have w0:=bM (n:=((dO a).length:Int) - 1) (by omega) (by omega);refine aaa fun K hK=>aan w0 ?_;refine aaf ?_
 refine aao (fun (p:Nat × List Nat × Nat)=>⟨bh [(0,nK .i64 a),(1,nK .i64 b),(6,.c (.aV 0 0 (dO a).length 1)),(7,.c (.d (.int .i64 n))),(8,nK .i64 (if p.1=(dO a).length then none else some (aH 1000000000 p.2.2))),(9,.c (.d (.int .i64 ((p.1:Int) - 1))))],
  aG (fun _=>.hole) 0 (.cells true false 2 (wK .i64 (List.replicate p.1 0++p.2.1)))⟩) 1
  (fun p=>p.1+p.2.1.length=(dO a).length∧ok 1000000000 p.2.1∧p.2.2<vb∧(p.1=(dO a).length→p.2.2=0)∧vb*val 1000000000 p.2.1+p.2.2=val 1000000000 ((dO a).drop p.1))
  (fun p=>p.1) ((dO a).length,[],0) (Le.mk' _ (by simp [fL]) (by simp) (by simp [MK])) ⟨by simp,cx _,hvp,fun _=>rfl,by simp⟩ ?_
 rintro⟨k,qs,R⟩ ⟨h1,h2,h3,h5,h4⟩;simp only at h1 h2 h3 h4 h5;obtain⟨ro,hro⟩:∃ ro,(if k=(dO a).length then none else some (aH 1000000000 R))=ro:=⟨_,rfl⟩
 have hdr:dO ro=aH 1000000000 R:=by
  rw [← hro];split
  ·rename_i h;rw [h5 h,OX];rfl
  ·rfl
 simp only [hro];refine aaa fun K3 hK3=>aab ?_
 cases k with
 | zero=>
  refine aak (aam (hK _ _ (aaa fun K hK=>?_)));have hl:qs.length=(dO a).length:=by omega
  rw [List.drop_zero] at h4
  have hq:val 1000000000 qs=val 1000000000 (dO a) / vb:=by
   rw [← h4,Nat.mul_add_div hvp,Nat.div_eq_of_lt h3,Nat.add_zero]
  have hr:R=val 1000000000 (dO a) % vb:=by
   rw [← h4,Nat.mul_add_mod,Nat.mod_eq_of_lt h3]
  have hout:cW qs=aH 1000000000 (val 1000000000 (dO a) / vb):=dD (by decide) h2 hq
  have hrem:KF a b=ro:=by
   unfold KF;rw [← hro,hvb,← hr]
   by_cases h:dO a=[]
   ·rw [if_pos h,if_pos (by rw [h];rfl)]
   ·rw [if_neg h,if_neg (fun e=>h (List.eq_nil_of_length_eq_zero e.symm))]
  refine aad ?_;simp;rw [← hl];refine fU.oK (T:=2) (k:=.i64) (l:=qs) 1 9 0 (by simp) (by omega) (iP _ _ (by omega)) (by simp) (by simp) (by simp) ?_;simp;apply hK;clear hK K;exact aal (κ:=0) (aq.ug (κ:=0) (t:=4) (u:=5) rfl 9 (by simp [hout,hvb]) (by simp [hrem]) (by simp) (by simp) (by simp) (by simp) (by simp) (by decide))
 | succ k=>
  have hk:k<(dO a).length:=by omega
  have e2:((k+1:Nat):Int) - 1=k:=by omega
  simp only [e2];have hx:(dO a)[k]<1000000000:=oka _ (List.getElem_mem hk);have hxv:=cG (B:=1000000000) hk;obtain⟨x,hxe⟩:∃ x,(dO a)[k]=x:=⟨_,rfl⟩
  rw [hxe] at hx hxv;obtain⟨V,hV⟩:∃ V,x+1000000000*R=V:=⟨_,rfl⟩
  have hRV:V<1000000000*vb:=by
   have:1000000000*(R+1)≤1000000000*vb:=Nat.mul_le_mul_left _ h3;omega
  have hRl:(aH 1000000000 R).length≤n:=by rw [← hn,hdb];exact cT (by decide) (Nat.le_of_lt h3)
  have htr:cW (x::aH 1000000000 R)=aH 1000000000 V:=dD (by decide) (bA.2 ⟨hx,(bq (by decide) R).1⟩) (by rw [bJ,bn (by decide),hV]);have hsr:∀ lv:Key→LB,gV lv 1 (nK .i64 ro)=some ((aH 1000000000 R).length,wK .i64 (aH 1000000000 R)):=fun lv=>by rw [O2,hdr]
  have hcmp:=cmpG V;have w9:=bM (n:=(k:Int) - 1) (by omega) (by omega);have hkn:¬ k=(dO a).length:=by omega
  have hnext:vb*val 1000000000 ((V / vb)::qs)+V % vb=val 1000000000 ((dO a).drop k):=by rw [hxv,bJ];exact LK hV h4
  have hqB:V / vb<1000000000:=by rw [Nat.div_lt_iff_lt_mul hvp];exact hRV
  refine aaj (aac (hK3 _ _ (aaa fun K5 hK5=>aaf (aai fun K6 hK6=>?_))));simp [hk,hxe,hbs,hsr,keyOf,FH,-au]
  repeat (refine And.intro (by omega) ?_)
  have hc1:(x::aH 1000000000 R).length=1+(aH 1000000000 R).length:=by simp;omega
  rw [← hc1];refine fU.oK (k:=.i64) (T:=2) (l:=x::aH 1000000000 R) 3 9 2 (by simp [FH]) (by simp;omega) (iP _ _ (by simp;omega)) (by simp) (by simp) (by simp) ?_;simp [htr];apply hK6;clear hK6 K6;refine aaa fun K6 hK6=>aaa fun K7 hK7=>?_
  by_cases hlt:V<vb
  ·have hc:=jb hlt;have hq0:V / vb=0:=Nat.div_eq_of_lt hlt;rw [hq0,Nat.mod_eq_of_lt hlt] at hnext;refine aay 3 hcmp hc (hK7 _ _ ?_);refine aaj (aam (hK5 _ _ (aad ?_)));simp [w9];refine⟨k,0::qs,V,Le.keys [(0,0,.cells true false 2 (wK .i64 (List.replicate k 0++0::qs)))] 19 _ rfl rfl (by simp) (by simp) (by simp) ?_ ?_,⟨by simp;omega,bA.2 ⟨by omega,h2⟩,hlt,fun h=>absurd h hkn,hnext⟩,by omega⟩
   ·intro e he;simp only [List.mem_cons,List.not_mem_nil,or_false] at he;subst he;have e:List.replicate k 0++0::qs=List.replicate (k+1) 0++qs:=by rw [List.replicate_succ',List.append_assoc];rfl
    rw [e];simpa using jN .i64 2 (List.replicate (k+1) 0++qs) _
   ·simp [cK,hkn]
  ·have hge:vb≤V:=by omega
   have hlen1:n≤(aH 1000000000 V).length:=by rw [← hn,hdb];exact cT (by decide) hge
   have hlen2:(aH 1000000000 V).length≤n+1:=by
    refine cF (by decide) ?_;rw [Nat.pow_succ,Nat.mul_comm];exact Nat.lt_of_lt_of_le hRV (Nat.mul_le_mul_left _ (Nat.le_of_lt hvl))
   have hX:=Rb (B:=1000000000) (by decide) (bq (by decide) V).1 hn1 hlen1 hlen2;rw [bn (by decide)] at hX;obtain⟨X,hXe⟩:∃ X,V / 1000000000 ^ (n - 1)=X:=⟨_,rfl⟩
   rw [hXe] at hX;have hX1:X*1000000000 ^ (n - 1)≤V:=by rw [← hXe];exact Nat.div_mul_le_self _ _
   have hX2:V<(X+1)*1000000000 ^ (n - 1):=by rw [← hXe];exact Nat.lt_mul_of_div_lt (Nat.lt_succ_self _) hPp
   have hlo:=Qx hX1 hb2 hvp;have hhi:=Ro hX2 hb1 ht0;obtain⟨Q,hQ⟩:∃ Q,V / vb=Q:=⟨_,rfl⟩
   rw [hQ] at hlo hhi hnext hqB
   have hcne:¬ dI V vb<0:=by
    by_cases e:V=vb
    ·rw [mu e];omega
    ·rw [jB (by omega)];omega
   have hokV:=(bq (B:=1000000000) (by decide) V).1;obtain⟨r1,hr1⟩:∃ r1,(aH 1000000000 V)[n - 1]'(by omega)=r1:=⟨_,rfl⟩
   have hr1B:r1<1000000000:=by rw [← hr1];exact hokV _ (List.getElem_mem _)
   have hr1g:(aH 1000000000 V).getD (n - 1) 0=r1:=by rw [List.getD_eq_getElem?_getD,List.getElem?_eq_getElem (by omega),hr1];rfl
   rw [hr1g] at hX;have wn:IntKind.i64.wrap ((n:Int) - 1)=((n - 1:Nat):Int):=by rw [bM (by omega) (by omega)];omega
   have hix1:∀ lv,ak Tryz.prog 213 lv (nK .i64 (some (aH 1000000000 V))) (.c (.d (.int .i64 ((n - 1:Nat):Int))))=some (.c (.d (.ptr [DV.int .i64 (r1:Int)])),[],[],True):=fun lv=>by
    have:=fO (P:=Tryz.prog) (T:=213) (lv:=lv) (k:=.i64) (k':=.i64) (o:=some (aH 1000000000 V)) (i:=n - 1) (by simp) (by simp;omega);rw [this];simp only [aW,hr1]
   have hixb:∀ lv,ak Tryz.prog 213 lv (nK .i64 b) (.c (.d (.int .i64 ((n - 1:Nat):Int))))=some (.c (.d (.ptr [DV.int .i64 (t:Int)])),[],[],True):=fun lv=>by
    have:=fO (P:=Tryz.prog) (T:=213) (lv:=lv) (k:=.i64) (k':=.i64) (o:=b) (i:=n - 1) (by simp) (by omega);rw [this];simp only [ht1]
   refine aay 3 hcmp hcne (hK7 _ _ ?_);refine aag (by simp [hcne] <;> omega) (aac (hK6 _ _ (aai fun K6 hK6=>?_)));simp [wn,hix1,-fO];apply hK6;refine aaa fun K6 hK6=>?_
   have g1:∀ (fr:Nat→AV) (κ:Nat),fr 0=nK .i64 a→fr 1=nK .i64 b→fr 6=.c (.aV 0 0 (dO a).length 1)→fr 7=.c (.d (.int .i64 n))→fr 8=nK .i64 (some (aH 1000000000 V))→fr 9=.c (.d (.int .i64 (k:Int)))→fr 10=.c (.d (.int .i64 (X:Int)))→∀ lv:Key→LB,lv 0=.cells true false 2 (wK .i64 (List.replicate (k+1) 0++qs))→lv 19=.hole →
    K6 ⟨fr,lv⟩ κ:=by
    intro fr κ z0 z1 z6 z7 z8 z9 z10 lv l0 l19
    have hX3:X≤1000000000000000000:=by
     have:V / 1000000000 ^ (n - 1)<1000000000*1000000000:=by
      rw [Nat.div_lt_iff_lt_mul hPp]
      have e:1000000000*1000000000*1000000000 ^ (n - 1)=1000000000*1000000000 ^ n:=by
       obtain⟨n',rfl⟩:∃ n',n=n'+1:=⟨n - 1,by omega⟩
       rw [Nat.add_sub_cancel,Nat.pow_succ,Nat.mul_comm (1000000000 ^ n') 1000000000,Nat.mul_assoc]
      rw [e];exact Nat.lt_of_lt_of_le hRV (Nat.mul_le_mul_left _ (Nat.le_of_lt hvl))
     omega
    apply hK6;refine aaa fun K7 hK7=>?_;have f1:=bM (n:=(t:Int)+1) (by omega) (by omega);have f2:=bM (n:=(X:Int)+1) (by omega) (by omega)
    have f3:(X:Int).tdiv ((t:Int)+1)=((X / (t+1):Nat):Int):=by
     have:=mF X (t+1);rwa [Int.natCast_add,Int.natCast_one] at this
    have f4:((X:Int)+1).tdiv (t:Int)=(((X+1) / t:Nat):Int):=by
     have:=mF (X+1) t;rwa [Int.natCast_add,Int.natCast_one] at this
    have hle1:X / (t+1)≤X:=Nat.div_le_self _ _;have hle2:(X+1) / t≤X+1:=Nat.div_le_self _ _;obtain⟨D1,hD1⟩:∃ D,X / (t+1)=D:=⟨_,rfl⟩
    obtain⟨D2,hD2⟩:∃ D,(X+1) / t=D:=⟨_,rfl⟩
    rw [hD1] at hlo f3 hle1;rw [hD2] at hhi f4 hle2;have f5:=bM (n:=(D1:Int)) (by omega) (by omega);have f6:=bM (n:=(D2:Int)) (by omega) (by omega);have t1:¬ (t:Int)+1=0:=by omega
    have t2:¬ (t:Int)=0:=by omega
    have t3:¬ t=0:=by omega
    have hmin:(if (999999999:Int)<(D2:Int) then (999999999:Int) else (D2:Int))=((min D2 999999999:Nat):Int):=by split <;> omega
    have hmin':(if 999999999<D2 then (999999999:Int) else (D2:Int))=((min D2 999999999:Nat):Int):=by split <;> omega
    have hhi2:Q≤min D2 999999999:=by omega
    have hhB:min D2 999999999≤999999999:=by omega
    obtain⟨H,hH⟩:∃ H,min D2 999999999=H:=⟨_,rfl⟩
    rw [hH] at hmin hmin' hhi2 hhB;refine aaw mixed (by kernel_rfl) rfl rfl ?_;simp [di,z0,z1,z7,z10,wn,hixb,f1,f2,f3,f4,f5,f6,t1,t2,t3,hmin,hmin',-fO]
    repeat (refine And.intro (by omega) ?_)
    apply hK7;clear hK7 K7;refine aaa fun K7 hK7=>aaf ?_
    refine aao (fun (p:Nat × Nat)=>⟨bh [(0,nK .i64 a),(1,nK .i64 b),(6,.c (.aV 0 0 (dO a).length 1)),(7,.c (.d (.int .i64 n))),(8,nK .i64 (some (aH 1000000000 V))),(9,.c (.d (.int .i64 (k:Int)))),(11,.c (.d (.int .i64 (p.1:Int)))),(12,.c (.d (.int .i64 (p.2:Int))))],
     aG (fun _=>.hole) 0 (.cells true false 2 (wK .i64 (List.replicate (k+1) 0++qs)))⟩) 1
     (fun p=>p.1≤Q∧Q≤p.2∧p.2≤999999999) (fun p=>p.2 - p.1) (D1,H) (Le.keys [(0,0,.cells true false 2 (wK .i64 (List.replicate (k+1) 0++qs)))] 19 _ rfl rfl (by simp) (by simp) (by simp [l19]) ?_ ?_) ⟨hlo,hhi2,hhB⟩ ?_
    ·intro e he;simp only [List.mem_cons,List.not_mem_nil,or_false] at he;subst he;simpa [l0] using jN .i64 2 (List.replicate (k+1) 0++qs) _
    ·simp [cK,z0,z1,z6,z7,z8,z9]
    rintro⟨lo,hi⟩ ⟨q1,q2,q3⟩;simp only at q1 q2 q3;refine aaa fun K8 hK8=>aab ?_
    by_cases hlh:lo<hi
    ·have u1:IntKind.i64.wrap ((lo:Int)+hi)=((lo+hi:Nat):Int):=by rw [bM (by omega) (by omega)];omega
     have u2:IntKind.i64.wrap (((lo+hi:Nat):Int)+1)=((lo+hi+1:Nat):Int):=by rw [bM (by omega) (by omega)];omega
     have u3:(((lo+hi+1:Nat):Int)).tdiv 2=(((lo+hi+1) / 2:Nat):Int):=mF _ 2;obtain⟨mi,hmi⟩:∃ mi,(lo+hi+1) / 2=mi:=⟨_,rfl⟩
     rw [hmi] at u3;have u4:=bM (n:=(mi:Int)) (by omega) (by omega);have u5:=bM (n:=(mi:Int) - 1) (by omega) (by omega);have hpr:=prG mi (by omega);have hcm:=cmG (vb*mi) V;refine aah (by simp [hlh] <;> omega) (aac (hK8 _ _ (aaf (aai fun K9 hK9=>?_))));simp [u1,u2,u3,u4,-Int.natCast_add];apply hK9;refine aaa fun K9 hK9=>?_
     by_cases hle:vb*mi≤V
     ·have hc:dI (vb*mi) V≤0:=by
       by_cases e:vb*mi=V
       ·rw [mu e];omega
       ·rw [jb (by omega)];omega
      have hmQ:mi≤Q:=by rw [← hQ,Nat.le_div_iff_mul_le hvp,Nat.mul_comm];exact hle
      refine aad ?_;simp [hbs,-au];refine ag.Ku (T:=2) (l:=[mi]) 2 9 1 (by simp [wK]) (by simp) hpr (by simp) (by simp) (by simp) ?_;simp;refine ag.p 2 9 hcm ?_;simp [hc];apply hK9;clear hK9 K9;refine aaj (aad ?_);simp;refine⟨mi,hi,Le.keys [(0,0,.cells true false 2 (wK .i64 (List.replicate (k+1) 0++qs)))] 19 _ rfl rfl (by simp) (by simp) (by simp) ?_ (by simp [cK]),⟨hmQ,q2,q3⟩,by omega⟩;intro e he;simp only [List.mem_cons,List.not_mem_nil,or_false] at he;subst he;simpa using jN .i64 2 (List.replicate (k+1) 0++qs) _
     ·have hc:¬ dI (vb*mi) V≤0:=by rw [jB (by omega)];omega
      have hmQ:Q≤mi - 1:=by
       have:¬ mi≤Q:=by rw [← hQ,Nat.le_div_iff_mul_le hvp,Nat.mul_comm];exact hle
       omega
      have u6:(mi:Int) - 1=((mi - 1:Nat):Int):=by omega
      refine aad ?_;simp [hbs,-au];refine ag.Ku (T:=2) (l:=[mi]) 2 9 1 (by simp [wK]) (by simp) hpr (by simp) (by simp) (by simp) ?_;simp;refine ag.p 2 9 hcm ?_;simp [hc];apply hK9;clear hK9 K9;refine aak (aad ?_);simp [u5];refine⟨lo,mi - 1,Le.keys [(0,0,.cells true false 2 (wK .i64 (List.replicate (k+1) 0++qs)))] 19 _ rfl rfl (by simp) (by simp) (by simp) ?_ (by simp [cK,u6]),⟨q1,hmQ,by omega⟩,by omega⟩;intro e he;simp only [List.mem_cons,List.not_mem_nil,or_false] at he;subst he;simpa using jN .i64 2 (List.replicate (k+1) 0++qs) _
    ·refine aag (by simp [hlh] <;> omega) (aam (hK7 _ _ ?_));obtain rfl:lo=Q:=by omega
     have f5:aj (wK .i64 (List.replicate (k+1) 0++qs)) k [CV.d (.int .i64 (lo:Int))]=wK .i64 (List.replicate k 0++(lo::qs)):=by
      rw [fj _ (by simp;omega),oH]
     have hk2:(k:Int)<((dO a).length:Int):=by omega
     have hk3:k<k+1+qs.length:=by omega
     refine aai fun K8 hK8=>?_;simp [f5,hk,hk2,hk3]
     repeat (refine And.intro (by omega) ?_)
     apply hK8;clear hK8 K8;refine aax 1 ?_;have hpr:=prG lo (by omega);have hle:vb*lo≤V:=by rw [← hQ];exact Nat.mul_div_le _ _
     have hdf:=dfG V (vb*lo) (by omega) hle
     have hmod:V - vb*lo=V % vb:=by
      have:=Nat.div_add_mod V vb;rw [hQ] at this;omega
     rw [hmod] at hdf;refine aad ?_;simp [hbs,-au];refine ag.Ku (T:=2) (l:=[lo]) 2 9 1 (by simp [wK]) (by simp) hpr (by simp) (by simp) (by simp) ?_;simp;refine ag.p 2 9 hdf ?_;simp;apply hK5;refine aad ?_;simp [w9];refine⟨k,lo::qs,V % vb,Le.keys [(0,0,.cells true false 2 (wK .i64 (List.replicate k 0++lo::qs)))] 19 _ rfl rfl (by simp) (by simp) (by simp) ?_ ?_,⟨by simp;omega,bA.2 ⟨by omega,h2⟩,Nat.mod_lt _ hvp,fun h=>absurd h hkn,hnext⟩,by omega⟩
     ·intro e he;simp only [List.mem_cons,List.not_mem_nil,or_false] at he;subst he;simpa using jN .i64 2 (List.replicate k 0++lo::qs) _
     ·simp [cK,hkn]
   refine aab ?_
   by_cases hln:n<(aH 1000000000 V).length
   ·obtain⟨r2,hr2⟩:∃ r2,(aH 1000000000 V)[n]=r2:=⟨_,rfl⟩
    have hr2B:r2<1000000000:=by rw [← hr2];exact hokV _ (List.getElem_mem _)
    have hr2g:(aH 1000000000 V).getD n 0=r2:=by rw [List.getD_eq_getElem?_getD,List.getElem?_eq_getElem hln,hr2];rfl
    rw [hr2g] at hX
    have hix2:∀ lv,ak Tryz.prog 213 lv (nK .i64 (some (aH 1000000000 V))) (.c (.d (.int .i64 ((n:Nat):Int))))=some (.c (.d (.ptr [DV.int .i64 (r2:Int)])),[],[],True):=fun lv=>by
     have:=fO (P:=Tryz.prog) (T:=213) (lv:=lv) (k:=.i64) (k':=.i64) (o:=some (aH 1000000000 V)) (i:=n) (by simp) (by simpa using hln);rw [this];simp only [aW,hr2]
    have v1:IntKind.i64.wrap (1000000000*(r2:Int))=((1000000000*r2:Nat):Int):=by rw [bM (by omega) (by omega)];omega
    have v2:IntKind.i64.wrap ((r1:Int)+((1000000000*r2:Nat):Int))=(X:Int):=by rw [bM (by omega) (by omega)];omega
    refine aah (by simp [hln] <;> omega) (aad ?_);simp [hix2,v1,v2,-fO,-Int.natCast_mul];exact g1 _ _ (by simp) (by simp) (by simp) (by simp) (by simp) (by simp) (by simp) _ (by simp) (by simp)
   ·have hX0:X=r1:=by
     rw [List.getD_eq_getElem?_getD,List.getElem?_eq_none (by omega)] at hX;simpa using hX
    refine aag (by simp [hln] <;> omega) (aac ?_);simp;exact g1 _ _ (by simp) (by simp) (by simp) (by simp) (by simp) (by simp) (by simp [hX0]) _ (by simp) (by simp)
theorem BB(ha:A % 2=0) (hb:B % 2=1):Nat.gcd (A / 2) B=Nat.gcd A B:=by
 have h:Nat.Coprime 2 B:=by
  have:Nat.gcd 2 B=Nat.gcd (B % 2) 2:=Nat.gcd_rec 2 B;unfold Nat.Coprime;rw [this,hb];rfl
 have e:A=2*(A / 2):=by omega
 conv=>rhs;rw [e]
 exact (Nat.Coprime.gcd_mul_left_cancel _ h).symm
theorem EG(ha:A % 2=0) (hb:B % 2=0):2*Nat.gcd (A / 2) (B / 2)=Nat.gcd A B:=by
 rw [← Nat.gcd_mul_left];congr 1 <;> omega
theorem Jl(h:B≤A):Nat.gcd (A - B) B=Nat.gcd A B:=by
 conv=>rhs;rw [show A=(A - B)+B by omega]
 rw [Nat.gcd_add_self_left]
theorem JD {tw:Nat}(h:2 ^ tw≤vb) (hl:(aH 1000000000 vb).length≤n):tw<30*n:=by
 have h1:=pN (B:=1000000000) (by decide) (n:=vb);have h2:1000000000 ^ (aH 1000000000 vb).length≤1000000000 ^ n:=Nat.pow_le_pow_right (by decide) hl;have h3:1000000000 ^ n≤(2 ^ 30) ^ n:=Nat.pow_le_pow_left (by decide) n;rw [← Nat.pow_mul] at h3;exact (Nat.pow_lt_pow_iff_right (by decide:1<2)).1 (Nat.lt_of_le_of_lt h (Nat.lt_of_lt_of_le h1 (Nat.le_trans h2 h3)))
theorem No:(aH 1000000000 n).length=0↔n=0:=by
 rw [List.length_eq_zero_iff];exact dN (by decide)
theorem Gu (G:List (List DV))(A:Nat):aa Tryz.prog G 321 [(nK .i64 (some (aH 1000000000 (A))))] (.c (.d (.bool (decide (A % 2=1))))):=by
 have h:=J9 G (some (aH 1000000000 A))
 rwa [aW,bn (by decide)] at h
theorem EY (G:List (List DV))(A:Nat)(h:(aH 1000000000 A).length≤100000):aa Tryz.prog G 322 [(nK .i64 (some (aH 1000000000 (A))))] (nK .i64 (some (aH 1000000000 (A / 2)))):=by
 have h:=GK G (some (aH 1000000000 A)) (bq (by decide) A).1 (by rw [aW];omega)
 rwa [aW,bn (by decide)] at h
theorem yX (G:List (List DV))(A B:Nat)(h:(aH 1000000000 A).length≤1000000)(h':(aH 1000000000 B).length≤1000000):aa Tryz.prog G 324 [(nK .i64 (some (aH 1000000000 (A)))),(nK .i64 (some (aH 1000000000 (B))))] (nK .i64 (some (aH 1000000000 (A+B)))):=by
 have h:=KI G (some (aH 1000000000 A)) (some (aH 1000000000 B)) (bq (by decide) A) (bq (by decide) B) h h'
 rwa [aW,aW,bn (by decide),bn (by decide)] at h
theorem vl (G:List (List DV))(A B:Nat)(h:(aH 1000000000 A).length≤1000000)(hle:B≤A):aa Tryz.prog G 323 [(nK .i64 (some (aH 1000000000 (A)))),(nK .i64 (some (aH 1000000000 (B))))] (nK .i64 (some (aH 1000000000 (A - B)))):=by
 have hl:=cT (B:=1000000000) (by decide) hle;have h:=mK G (some (aH 1000000000 A)) (some (aH 1000000000 B)) (bq (by decide) A).1 (bq (by decide) B).1 h (by rw [aW];omega) (by rw [aW,aW,bn (by decide),bn (by decide)];exact hle)
 rwa [aW,aW,bn (by decide),bn (by decide)] at h
theorem ot (G:List (List DV))(A B:Nat):aa Tryz.prog G 247 [(nK .i64 (some (aH 1000000000 (A)))),(nK .i64 (some (aH 1000000000 (B))))] (.c (.d (.int .i64 (dI A B)))):=by
 have h:=me G (a:=some (aH 1000000000 A)) (b:=some (aH 1000000000 B)) (bq (by decide) A) (bq (by decide) B)
 rwa [aW,aW,bn (by decide),bn (by decide)] at h
theorem AU (G:List (List DV))(va vb:Nat)(ha0:0<va)(hb0:0<vb)(hal:(aH 1000000000 va).length≤100000)(hbl:(aH 1000000000 vb).length≤100000) :
 aa Tryz.prog G 274 [(nK .i64 (some (aH 1000000000 (va)))),(nK .i64 (some (aH 1000000000 (vb))))] (nK .i64 (some (aH 1000000000 (Nat.gcd va vb)))):=by
 have hdv:=ru G (some (aH 1000000000 va)) (some (aH 1000000000 vb)) (bq (by decide) va).1 (bq (by decide) vb) (by rw [aW];intro h;have:=(dN (by decide)).1 h;omega) hal hbl
 have hrm:KF (some (aH 1000000000 va)) (some (aH 1000000000 vb))=some (aH 1000000000 (va % vb)):=by
  unfold KF;rw [aW,aW,if_neg (by intro h;have:=(dN (by decide)).1 h;omega),bn (by decide),bn (by decide)]
 rw [hrm] at hdv;have dle:∀ n,n≤vb→(aH 1000000000 n).length≤100000:=fun n h=>Nat.le_trans (cT (by decide) h) hbl
 have tw_le:∀ tw,2 ^ tw≤vb→tw<3000000:=fun tw h=>Nat.lt_of_lt_of_le (JD h hbl) (by decide)
 have hg0:Nat.gcd va vb=Nat.gcd (va % vb) vb:=by rw [Nat.gcd_comm,Nat.gcd_rec]
 have oddG:∀ A,aa Tryz.prog G 321 [(nK .i64 (some (aH 1000000000 (A))))] (.c (.d (.bool (decide (A % 2=1))))):=fun A=>Gu G A
 have halfG:∀ A,A≤vb→aa Tryz.prog G 322 [(nK .i64 (some (aH 1000000000 (A))))] (nK .i64 (some (aH 1000000000 (A / 2)))):=fun A h=>EY G A (dle A h)
 have sumG:∀ A,A≤vb→aa Tryz.prog G 324 [(nK .i64 (some (aH 1000000000 (A)))),(nK .i64 (some (aH 1000000000 (A))))] (nK .i64 (some (aH 1000000000 (A+A)))):=fun A h=>yX G A A (by have:=dle A h;omega) (by have:=dle A h;omega)
 have diffG:∀ A B,A≤vb→B≤A→aa Tryz.prog G 323 [(nK .i64 (some (aH 1000000000 (A)))),(nK .i64 (some (aH 1000000000 (B))))] (nK .i64 (some (aH 1000000000 (A - B)))):=fun A B h h'=>vl G A B (by have:=dle A h;omega) h'
 have cmpG:∀ A B,aa Tryz.prog G 247 [(nK .i64 (some (aH 1000000000 (A)))),(nK .i64 (some (aH 1000000000 (B))))] (.c (.d (.int .i64 (dI A B)))):=fun A B=>ot G A B
 refine aa.en Tryz.func274 rfl fun _=>aab ?_;refine aai fun K hK=>?_;simp;refine ag.pure 0 9 hdv (o8 _ _) (by simp) rfl ?_;simp;apply hK;clear hK K;refine aaa fun K hK=>aab ?_
 by_cases hm:va % vb=0
 ·have h1:aH 1000000000 (va % vb)=[]:=(dN (by decide)).2 hm;have hgv:Nat.gcd va vb=vb:=by rw [hg0,hm,Nat.gcd_zero_left]
  rw [hgv];refine aah (by simp [h1] <;> omega) (aab ?_);exact aae (aq.rt (t:=4) rfl 9 (by simp))
 have h1:¬ aH 1000000000 (va % vb)=[]:=fun h=>hm ((dN (by decide)).1 h)
 have hmlt:va % vb<vb:=Nat.mod_lt _ hb0;refine aag (by simp [h1] <;> omega) (aac (hK _ _ (aab ?_)));refine aaa fun K hK=>aaf ?_
 refine aao (fun (p:Nat × Nat × Nat)=>⟨bh [(0,(nK .i64 (some (aH 1000000000 (p.1))))),(1,(nK .i64 (some (aH 1000000000 (p.2.1))))),(5,.c (.d (.int .i64 (p.2.2:Int))))],fun _=>.hole⟩) 0
  (fun p=>0<p.1∧0<p.2.1∧p.1≤vb∧p.2.1≤vb∧2 ^ p.2.2*Nat.gcd p.1 p.2.1=Nat.gcd va vb∧2 ^ p.2.2*p.2.1≤vb) (fun p=>p.1) (va % vb,vb,0) (Le.mk' _ rfl az (by simp)) ⟨by omega,hb0,by omega,Nat.le_refl _,by simp [hg0],by simp⟩ ?_
 rintro⟨A,B,tw⟩ ⟨hA,hB,hA2,hB2,hg,ht⟩;simp only at hA hB hA2 hB2 hg ht;have htw:tw<3000000:=tw_le tw (Nat.le_trans (Nat.le_mul_of_pos_right _ hB) ht);have wt:=bM (n:=(tw:Int)+1) (by omega) (by omega);have oA:=oddG A;have oB:=oddG B;have hAl:=dle (A) (by omega);have hBl:=dle (B) (by omega)
 have st2:(A % 2=1∨B % 2=1)→∀ (fr:Nat→AV) (κ:Nat),fr 0=(nK .i64 (some (aH 1000000000 (A))))→fr 1=(nK .i64 (some (aH 1000000000 (B))))→fr 5=.c (.d (.int .i64 (tw:Int)))→K ⟨fr,fun _=>.hole⟩ κ:=by
  intro hodd fr κ z0 z1 z5;apply hK;refine aaa fun K hK=>aaf ?_
  refine aao (fun (p:Nat × Nat)=>⟨bh [(0,(nK .i64 (some (aH 1000000000 (p.1))))),(1,(nK .i64 (some (aH 1000000000 (p.2))))),(5,.c (.d (.int .i64 (tw:Int))))],fun _=>.hole⟩) 0
   (fun p=>0<p.2∧p.1≤vb∧p.2≤vb∧(p.1 % 2=1∨p.2 % 2=1)∧2 ^ tw*Nat.gcd p.1 p.2=Nat.gcd va vb) (fun p=>p.1+p.2) (A,B) (Le.mk' _ rfl az (by simp [z0,z1,z5])) ⟨hB,hA2,hB2,hodd,hg⟩ ?_
  rintro⟨C,D⟩ ⟨i1,i2,i3,i4,i5⟩;simp only at i1 i2 i3 i4 i5
  have fin:∀ (Z:Nat) (fr:Nat→AV) (κ:Nat),Z≤vb→2 ^ tw*Z=Nat.gcd va vb→fr 1=(nK .i64 (some (aH 1000000000 (Z))))→fr 5=.c (.d (.int .i64 (tw:Int)))→K ⟨fr,fun _=>.hole⟩ κ:=by
   intro Z fr κ hZ0 hZ z1 z5;apply hK;refine aaa fun K hK=>aab ?_;refine aaf ?_;refine aao (fun (i:Nat)=>⟨bh [(1,(nK .i64 (some (aH 1000000000 (Z*2 ^ i))))),(5,.c (.d (.int .i64 (tw:Int)))),(6,.c (.d (.int .i64 (i:Int))))],fun _=>.hole⟩) 0 (fun i=>i≤tw) (fun i=>tw - i) 0 (Le.mk' _ rfl az (by simp [z1,z5])) (Nat.zero_le _) ?_;intro i hi
   try simp only at hi
   refine aaa fun K2 hK2=>aab ?_
   by_cases hlt:i<tw
   ·have wi:=bM (n:=(i:Int)+1) (by omega) (by omega);have hgv:Nat.gcd va vb≤vb:=Nat.gcd_le_right _ hb0
    have hle:Z*2 ^ i≤vb:=by
     rw [Nat.mul_comm];exact Nat.le_trans (Nat.mul_le_mul_right Z (Nat.pow_le_pow_right (by decide) (Nat.le_of_lt hlt))) (by rw [hZ];exact hgv)
    have hll:=dle (Z*2 ^ i) (by omega);have hs:=sumG (Z*2 ^ i) hle;have he:Z*2 ^ i+Z*2 ^ i=Z*2 ^ (i+1):=by rw [Nat.pow_succ,← Nat.mul_assoc];omega
    rw [he] at hs;refine aah (by simp [hlt] <;> omega) (aac (hK2 _ _ (aaa fun K5 hK5=>aaf (AW.m0 0 hs (hK5 _ _ ?_)))));refine aad ?_;simp [wi];exact⟨i+1,Le.mk' _ rfl az (by simp),by omega,by omega⟩
   ·obtain rfl:i=tw:=by omega
    refine aag (by simp [hlt] <;> omega) (aam (hK _ _ (aab ?_)));rw [← hZ,Nat.mul_comm];exact aae (aq.rt (t:=4) rfl 9 (by simp))
  have hCl:=dle (C) (by omega);refine aaa fun K2 hK2=>aab ?_
  by_cases hC0:C=0
  ·have h2:¬ 0<(aH 1000000000 C).length:=by rw [Nat.pos_iff_ne_zero];exact fun h=>h (No.2 hC0)
   subst hC0;rw [Nat.gcd_zero_left] at i5;refine aag (by simp [h2] <;> omega) (aam ?_);simp;exact fin D _ _ i3 i5 (by simp) (by simp)
  have h2:0<(aH 1000000000 C).length:=Nat.pos_of_ne_zero fun h=>hC0 (No.1 h)
  refine aah (by simp [h2] <;> omega) (aac (hK2 _ _ (aaf (aaa fun K5 hK5=>aaf ?_))))
  refine aao (fun (C':Nat)=>⟨bh [(0,(nK .i64 (some (aH 1000000000 (C'))))),(1,(nK .i64 (some (aH 1000000000 (D))))),(5,.c (.d (.int .i64 (tw:Int))))],fun _=>.hole⟩) 0
   (fun C'=>0<C'∧C'≤C∧(C' % 2=1∨D % 2=1)∧Nat.gcd C' D=Nat.gcd C D) (fun C'=>C') C (Le.mk' _ rfl az (by simp)) ⟨by omega,Nat.le_refl _,i4,rfl⟩ ?_
  rintro C' ⟨j1,j2,j3,j4⟩;have oC:=oddG C';have hhC:=halfG C' (by omega);refine aaa fun K6 hK6=>aai fun K7 hK7=>?_;simp
  by_cases c1:C' % 2=1
  rotate_left
  ·have hd1:D % 2=1:=by omega
   refine ag.p 0 9 oC ?_;simp [c1];apply hK7;refine aaj (aac (hK6 _ _ (aaf (aad ?_))));simp;refine ag.p 0 9 hhC ?_;simp;exact⟨C' / 2,Le.mk' _ rfl az (by simp),⟨by omega,by omega,.inr hd1,by rw [BB (by omega) hd1,j4]⟩,by omega⟩
  refine ag.p 0 9 oC ?_;simp [c1];apply hK7;refine aak (aam (hK5 _ _ (aaa fun K8 hK8=>aaf ?_)))
  refine aao (fun (D':Nat)=>⟨bh [(0,(nK .i64 (some (aH 1000000000 (C'))))),(1,(nK .i64 (some (aH 1000000000 (D'))))),(5,.c (.d (.int .i64 (tw:Int))))],fun _=>.hole⟩) 0
   (fun D'=>0<D'∧D'≤D∧Nat.gcd C' D'=Nat.gcd C D) (fun D'=>D') D (Le.mk' _ rfl az (by simp)) ⟨i1,Nat.le_refl _,j4⟩ ?_
  rintro D' ⟨l1,l2,l3⟩;have oD:=oddG D';have hhD:=halfG D' (by omega);refine aaa fun K9 hK9=>aai fun K10 hK10=>?_;simp
  by_cases d1:D' % 2=1
  rotate_left
  ·refine ag.p 0 9 oD ?_;simp [d1];apply hK10;refine aaj (aac (hK9 _ _ (aaf (aad ?_))));simp;refine ag.p 0 9 hhD ?_;simp;exact⟨D' / 2,Le.mk' _ rfl az (by simp),⟨by omega,by omega,by rw [Nat.gcd_comm,BB (by omega) c1,Nat.gcd_comm,l3]⟩,by omega⟩
  have hDl:=dle (D') (by omega);refine ag.p 0 9 oD ?_;simp [d1];apply hK10;refine aak (aam (hK8 _ _ ?_));rw [← l3] at i5;refine aaa fun K11 hK11=>aaa fun K12 hK12=>?_
  by_cases hD1:D'=1
  ·subst hD1;have e1:aH 1000000000 1=[1]:=(gw (by decide:2≤1000000000) (l:=[1]) ⟨by intro d hd;simp at hd;omega,by simp⟩ (by simp)).symm;have e2:=fO (P:=Tryz.prog) (T:=213) (lv:=fun _=>.hole) (k:=.i64) (k':=.i64) (o:=some [1]) (i:=0) (by simp) (by simp);simp only [Int.natCast_zero,aW,List.getElem_cons_zero] at e2;rw [e1];rw [Nat.gcd_one_right,Nat.mul_one] at i5;refine aad ?_;simp [e2,-fO];apply hK12;clear hK12 K12;refine aaj (aam ?_);simp;exact fin 1 _ _ (by omega) (by rw [Nat.mul_one];exact i5) (by simp [e1]) (by simp)
  have one:∀ lv:Key→LB,(aH 1000000000 D').length=1→ak Tryz.prog 213 lv (nK .i64 (some (aH 1000000000 D'))) (.c (.d (.int .i64 0)))=some (.c (.d (.ptr [DV.int .i64 (D':Int)])),[],[],True):=fun lv h=>by
   have h0:0<(dO (some (aH 1000000000 D'))).length:=by rw [aW];omega
   have h2:=fO (P:=Tryz.prog) (T:=213) (lv:=lv) (k:=.i64) (k':=.i64) (o:=some (aH 1000000000 D')) (i:=0) (by simp) h0
   have hx:(aH 1000000000 D')[0]'(by rw [h];decide)=D':=by
    obtain⟨x,hx⟩:∃ x,aH 1000000000 D'=[x]:=by match hd:aH 1000000000 D',h with|[x],_=>exact⟨x,rfl⟩
    have hv:=bn (B:=1000000000) (by decide) D';rw [hx] at hv;simp at hv;simp [hx,hv]
   simp only [Int.natCast_zero,aW,hx] at h2;exact h2
  have hD1':¬ (D':Int)=1:=by omega
  have rest:∀ (fr:Nat→AV) (κ:Nat),fr 0=(nK .i64 (some (aH 1000000000 (C'))))→fr 1=(nK .i64 (some (aH 1000000000 (D'))))→fr 5=.c (.d (.int .i64 (tw:Int)))→K11 ⟨fr,fun _=>.hole⟩ κ:=by
   intro fr κ z0 z1 z5;apply hK11;refine aaa fun K13 hK13=>?_
   have fin2:∀ (X Y:Nat) (fr:Nat→AV) (κ:Nat),Y≤X→X≤vb→0<Y→Y % 2=1→X % 2=1→X+Y=C'+D'→Nat.gcd X Y=Nat.gcd C' D'→fr 0=(nK .i64 (some (aH 1000000000 (X))))→fr 1=(nK .i64 (some (aH 1000000000 (Y))))→fr 5=.c (.d (.int .i64 (tw:Int)))→K13 ⟨fr,fun _=>.hole⟩ κ:=by
    intro X Y fr κ hXY hXv hY hY1 hX1 hs hgg z0 z1 z5;have hdf:=diffG X Y hXv hXY;apply hK13;refine aad ?_;simp [z0,z1];refine ag.p 0 9 hdf ?_;simp;refine⟨X - Y,Y,Le.mk' _ rfl az (by simp [z1,z5]),⟨hY,by omega,by omega,.inr hY1,by rw [Jl hXY,hgg];exact i5⟩,by omega⟩
   have hcm:=cmpG C' D';refine aaa fun K14 hK14=>?_
   by_cases hlt:C'<D'
   ·have hc:dI C' D'<0:=by rw [jb hlt];omega
    refine aad ?_;simp [z0,z1];refine ag.p 0 9 hcm ?_;simp [hc];apply hK14;clear hK14 K14;refine aaj (aad ?_);simp [z0,z1];exact fin2 D' C' _ _ (by omega) (by omega) j1 c1 d1 (by omega) (Nat.gcd_comm _ _) (by simp) (by simp) (by simp [z5])
   ·have hc:¬ dI C' D'<0:=by
     by_cases e:C'=D'
     ·rw [mu e];omega
     ·rw [jB (by omega)];omega
    refine aad ?_;simp [z0,z1];refine ag.p 0 9 hcm ?_;simp [hc];apply hK14;clear hK14 K14;refine aak (aac ?_);simp;exact fin2 C' D' _ _ (by omega) (by omega) l1 d1 c1 rfl rfl (by simp [z0]) (by simp [z1]) (by simp [z5])
  by_cases hl1:(aH 1000000000 D').length=1
  ·have o1:=fun lv=>one lv hl1
   refine aad ?_;simp [hl1,o1,hD1',hD1,-fO];apply hK12;clear hK12 K12;refine aak (aac ?_);simp;exact rest _ _ (by simp) (by simp) (by simp)
  ·have hl1':¬ ((aH 1000000000 D').length:Int)=1:=by omega
   refine aau hl1 hl1' (hK12 _ _ ?_);refine aak (aac ?_);simp;exact rest _ _ (by simp) (by simp) (by simp)
 refine aaa fun K2 hK2=>aai fun K3 hK3=>?_;simp
 by_cases a1:A % 2=1
 ·refine ag.p 0 9 oA ?_;simp [a1];apply hK3;refine aak (aam ?_);simp;exact st2 (.inl a1) _ _ (by simp) (by simp) (by simp)
 by_cases b1:B % 2=1
 ·refine ag.p 0 9 oA ?_;simp [a1];refine ag.p 0 9 oB ?_;simp [b1];apply hK3;refine aak (aam ?_);simp;exact st2 (.inr b1) _ _ (by simp) (by simp) (by simp)
 have hhA:=halfG A (by omega);have hhB:=halfG B (by omega);refine ag.p 0 9 oA ?_;simp [a1];refine ag.p 0 9 oB ?_;simp [b1];apply hK3;refine aaj (aac (hK2 _ _ (aaf (aai fun K5 hK5=>?_))));simp;refine ag.p 0 9 hhA ?_;simp;refine ag.p 0 9 hhB ?_;simp;apply hK5;refine aad ?_;simp [wt];refine⟨A / 2,B / 2,tw+1,Le.mk' _ rfl az (by simp),⟨by omega,by omega,by omega,by omega,?_,?_⟩,by omega⟩
 ·rw [Nat.pow_succ,Nat.mul_assoc,EG (by omega) (by omega)];exact hg
 ·have e:2 ^ (tw+1)*(B / 2)=2 ^ tw*(2*(B / 2)):=by rw [Nat.pow_succ,Nat.mul_assoc]
  rw [e,show 2*(B / 2)=B by omega];exact ht
def ey (x:Rat):Int:=if x.num=0 then 0 else if x.num<0 then -1 else 1
def jg (x:Rat):Option (List Nat):=if x.num=0 then none else some (aH 1000000000 x.num.natAbs)
def lF (x:Rat):Option (List Nat):=if x.num=0 then none else some (aH 1000000000 x.den)
abbrev c9 (x:Rat):AV:=rA (ey x) (jg x) (lF x)
theorem lS (x:Rat):dO (jg x)=aH 1000000000 x.num.natAbs:=by
 unfold jg;split
 ·rename_i h;rw [h];exact OX.symm
 ·rfl
theorem C8 {x:Rat}(h:x.num=0):x.den=1:=by
 have:=Rat.num_eq_zero.1 h;subst this;rfl
theorem NG:aH 1000000000 1=[1]:=(gw (by decide:2≤1000000000) (l:=[1]) ⟨by intro d hd;simp at hd;omega,by simp⟩ (by simp)).symm
theorem Oe (x:Rat):IS (ey x) (lF x)=some (aH 1000000000 x.den):=by
 unfold IS ey lF
 by_cases h:x.num=0
 ·rw [if_pos h,if_pos rfl,C8 h,NG]
 ·rw [if_neg h,if_neg h,if_neg (by split <;> omega)]
theorem NI (n:Nat):(aH 1000000000 n).length≤2*nl n:=by
 refine cF (by decide) ?_;rw [Nat.pow_mul];exact Nat.lt_of_lt_of_le (wP n) (Nat.pow_le_pow_left (by decide) _)
theorem su (G:List (List DV)):aa Tryz.prog G 221 [] (nK .i64 (some (aH 1000000000 (1)))):=by rw [NG];exact BZ G
theorem yl (G:List (List DV))(A B:Nat)(hB:0<B)(h:(aH 1000000000 A).length≤100000)(h':(aH 1000000000 B).length≤100000):∃ o,aa Tryz.prog G 275 [(nK .i64 (some (aH 1000000000 (A)))),(nK .i64 (some (aH 1000000000 (B))))] (.tup [(nK .i64 (some (aH 1000000000 (A / B)))),nK .i64 o]):=by
 have h:=ru G (some (aH 1000000000 A)) (some (aH 1000000000 B)) (bq (by decide) A).1 (bq (by decide) B) (by rw [aW];intro e;have:=(dN (by decide)).1 e;omega) h h';rw [aW,aW,bn (by decide),bn (by decide)] at h;exact⟨_,h⟩
theorem LM (neg:Bool){Q:Nat}(hP:P≠0) (hQ:Q≠0):c9 (mkRat (dB neg P) Q)=rA (if neg then -1 else 1) (some (aH 1000000000 (P / Nat.gcd P Q))) (some (aH 1000000000 (Q / Nat.gcd P Q))):=by
 obtain⟨n1,n2⟩:=iu neg (a:=P) hQ;have hg:P / Nat.gcd P Q≠0:=Nat.ne_of_gt (Nat.div_pos (Nat.le_of_dvd (by omega) (Nat.gcd_dvd_left _ _)) (Nat.gcd_pos_of_pos_left _ (by omega)))
 have h0:(mkRat (dB neg P) Q).num≠0:=by
  rw [n1];unfold dB;split <;> omega
 unfold c9 ey jg lF;rw [if_neg h0,if_neg h0,if_neg h0,n1,n2,qi]
 cases neg with
 | true=>
  rw [if_pos (show dB true (P / Nat.gcd P Q)<0 from Int.neg_neg_of_pos (Int.ofNat_lt.2 (Nat.pos_of_ne_zero hg)))];rfl
 | false=>
  rw [if_neg (show ¬ dB false (P / Nat.gcd P Q)<0 from Int.not_lt.2 (Int.natCast_nonneg _))];rfl
theorem G5:c9 0=rA 0 none none:=rfl
attribute [local irreducible] bO
theorem GN (G:List (List DV))(s:Int)(neg:Bool)(P Q:Nat)(p:Option (List Nat))(hp:dO p=aH 1000000000 P)(hs:P≠0→s=if neg then -1 else 1)(hQ:0<Q)(hPl:(aH 1000000000 P).length≤100000)(hQl:(aH 1000000000 Q).length≤100000) :
 aa Tryz.prog G 219 [.c (.d (.int .i64 s)),nK .i64 p,(nK .i64 (some (aH 1000000000 (Q))))] (c9 (mkRat (dB neg P) Q)):=by
 have oneG:=su G;have cmG:=fun A B=>ot G A B
 by_cases hP0:P=0
 ·subst hP0;have e0:dO p=[]:=by rw [hp];exact OX
  have e2:dB neg 0=0:=by cases neg <;> rfl
  have e1:mkRat (dB neg 0) Q=0:=by rw [e2];exact Rat.zero_mkRat Q
  rw [e1,G5];refine aa.enc Tryz.func219 rfl (fun lv=>eS lv _ _ _) fun _=>aab ?_;refine aaa fun K hK=>aan e0 ?_;refine aaj (aan @Qo ?_);refine aal ?_;refine bO.cell (T:=215) (t:=6) (k:=0) (off:=0) (own:=true) (fz:=false) (U:=215) (cs:=[.d (.int .i64 0),.d .nilsl,.d .nilsl]) rfl ?_ ?_ ?_
  ·simp
  ·simp [aj]
  ·rw [List.drop_zero,iD];rfl
 have hp1:p=some (aH 1000000000 P):=by
  cases p with
  | none=>exact absurd ((dN (by decide)).1 hp.symm) hP0
  | some l=>exact congrArg some hp
 subst hp1;have hs1:=hs hP0;have hs0:¬ s=0:=by rw [hs1];split <;> omega
 rw [LM neg hP0 (by omega),← hs1];have hdv:=AU G P Q (by omega) hQ hPl hQl;obtain⟨g,hg⟩:∃ g,Nat.gcd P Q=g:=⟨_,rfl⟩
 have hg0:0<g:=by rw [← hg];exact Nat.gcd_pos_of_pos_left _ (by omega)
 have hgl:(aH 1000000000 g).length≤100000:=Nat.le_trans (cT (by decide) (by rw [← hg];exact Nat.gcd_le_right _ hQ)) hQl;obtain⟨o1,hd1⟩:=yl G P g hg0 hPl hgl;obtain⟨o2,hd2⟩:=yl G Q g hg0 hQl hgl;rw [hg] at hdv ⊢;have hne:¬ aH 1000000000 P=[]:=fun e=>hP0 ((dN (by decide)).1 e)
 have c0:∀ A B,(dI A B=0)↔A=B:=fun A B=>by unfold dI;(repeat' split) <;> omega
 refine aa.enc Tryz.func219 rfl (fun lv=>eS lv _ _ _) fun _=>aab ?_;refine aaa fun K hK=>aaq hne hs0 ?_;refine aak (aac (hK _ _ (aaa fun K hK=>?_)))
 by_cases h1:P=1
 ·have hc:=(c0 P 1).2 h1;have hg1:g=1:=by rw [← hg,h1,Nat.gcd_one_left]
  refine aai fun K1 hK1=>?_;simp;refine ag.p 1 9 oneG ?_;simp;refine ag.p 1 9 (cmG P 1) ?_;simp [hc];apply hK1;refine aaj (aaq @bR @fC ?_);refine aal ?_;refine bO.cell (T:=215) (t:=6) (k:=0) (off:=0) (own:=true) (fz:=false) (U:=215) (cs:=[.d (.int .i64 s),rC (some (aH 1000000000 P)),rC (some (aH 1000000000 Q))]) rfl ?_ ?_ ?_
  ·simp
  ·simp [aj]
  ·rw [List.drop_zero,iD];simp [hg1]
 have hc1:¬ dI P 1=0:=fun e=>h1 ((c0 P 1).1 e)
 by_cases h2:Q=1
 ·have hc:=(c0 Q 1).2 h2;have hg1:g=1:=by rw [← hg,h2,Nat.gcd_one_right]
  refine aai fun K1 hK1=>?_;simp;refine ag.p 1 9 oneG ?_;simp;refine ag.p 1 9 (cmG P 1) ?_;simp [hc1];refine ag.p 1 9 oneG ?_;simp;refine ag.p 1 9 (cmG Q 1) ?_;simp [hc];apply hK1;refine aaj (aaq @bR @fC ?_);refine aal ?_;refine bO.cell (T:=215) (t:=6) (k:=0) (off:=0) (own:=true) (fz:=false) (U:=215) (cs:=[.d (.int .i64 s),rC (some (aH 1000000000 P)),rC (some (aH 1000000000 Q))]) rfl ?_ ?_ ?_
  ·simp
  ·simp [aj]
  ·rw [List.drop_zero,iD];simp [hg1]
 have hc2:¬ dI Q 1=0:=fun e=>h2 ((c0 Q 1).1 e)
 refine aai fun K1 hK1=>?_;simp;refine ag.p 1 9 oneG ?_;simp;refine ag.p 1 9 (cmG P 1) ?_;simp [hc1];refine ag.p 1 9 oneG ?_;simp;refine ag.p 1 9 (cmG Q 1) ?_;simp [hc2];apply hK1;refine aak (aac (hK _ _ (aas 1 hdv ?_)));refine aaa fun K hK=>?_
 have fin:∀ (fr:Nat→AV) (κ:Nat),fr 0=.c (.d (.int .i64 s))→fr 1=(nK .i64 (some (aH 1000000000 (P / g))))→fr 2=(nK .i64 (some (aH 1000000000 (Q / g))))→fr 6=.c (.ptr 0 0) →
  K ⟨fr,aG (fun _=>.hole) 0 (.cells true false 215 [.d (.int .i64 0),.d .nilsl,.d .nilsl])⟩ κ:=by
  intro fr κ z0 z1 z2 z6;apply hK;refine AW.f6 z0 z1 z2 z6 @fC @bR ?_;refine aal ?_;refine bO.cell (T:=215) (t:=6) (k:=0) (off:=0) (own:=true) (fz:=false) (U:=215) (cs:=[.d (.int .i64 s),rC (some (aH 1000000000 (P / g))),rC (some (aH 1000000000 (Q / g)))]) rfl ?_ ?_ ?_
  ·simp [z6]
  ·simp [aj]
  ·rw [List.drop_zero,iD]
 by_cases hg1:g=1
 ·have hc:=(c0 g 1).2 hg1;refine aai fun K1 hK1=>?_;simp;refine ag.p 1 9 oneG ?_;simp;refine ag.p 1 9 (cmG g 1) ?_;simp [hc];apply hK1;refine aak (aac ?_);simp;exact fin _ _ (by simp) (by simp [hg1]) (by simp [hg1]) (by simp)
 ·have hc:¬ dI g 1=0:=fun e=>hg1 ((c0 g 1).1 e)
  refine aai fun K1 hK1=>?_;simp;refine ag.p 1 9 oneG ?_;simp;refine ag.p 1 9 (cmG g 1) ?_;simp [hc];apply hK1;refine aaj (aai fun K1 hK1=>?_);simp;refine ag.pure 1 9 hd1 (o8 _ _) (by simp) (by simp) ?_;simp;apply hK1;clear hK1 K1;refine aad ?_;simp;refine ag.pure 1 9 hd2 (o8 _ _) (by simp) (by simp) ?_;simp;exact fin _ _ (by simp) (by simp) (by simp) (by simp)
end Go.Am
namespace Go.Am
open Go.Am.Ty Go.Proofs N
attribute [local irreducible] bO
theorem uE (x:Rat):ey x=0∨ey x=1∨ey x = -1:=by unfold ey;split <;> (try split) <;> simp
theorem jM {x:Rat}:ey x=0↔x.num=0:=by unfold ey;split <;> (try split) <;> simp_all
theorem nG {x:Rat}(h:x.num≠0):ey x=if decide (x.num<0) then -1 else 1:=by
 unfold ey;rw [if_neg h];simp
theorem FD (x:Rat):(gE x).num=(x.num.natAbs:Int)∧(gE x).den=x.den:=by
 unfold gE;split
 ·rename_i h
  have:x.num<0:=by
   have:=(Rat.lt_iff x 0).1 h;simpa using this
  rw [Rat.neg_num,Rat.neg_den];exact⟨by omega,rfl⟩
 ·rename_i h
  have:¬ x.num<0:=fun hn=>h ((Rat.lt_iff x 0).2 (by simpa using hn))
  exact⟨by omega,rfl⟩
theorem JJ (x:Rat):c9 (-x)=rA (-ey x) (jg x) (lF x):=by
 unfold c9 ey jg lF;rw [Rat.neg_num,Rat.neg_den,Int.natAbs_neg]
 by_cases h:x.num=0
 ·simp [h]
 ·by_cases h2:x.num<0
  ·have h3:¬ 0<x.num:=by omega
   simp [h,h2,h3]
  ·have h3:0<x.num:=by omega
   simp [h,h2,h3]
theorem Iu (x:Rat):c9 (gE x)=rA (ey x*ey x) (jg x) (lF x):=by
 obtain⟨e1,e2⟩:=FD x;unfold c9 ey jg lF;rw [e1,e2]
 by_cases h:x.num=0
 ·rw [if_pos h,if_pos h,if_pos h,if_pos (by omega),if_pos (by omega),if_pos (by omega)];rfl
 ·rw [if_neg h,if_neg h,if_neg h,if_neg (by omega),if_neg (by omega),if_neg (by omega),if_neg (by omega)];have e3:((x.num.natAbs:Int)).natAbs=x.num.natAbs:=by omega
  rw [e3]
  by_cases h2:x.num<0
  ·rw [if_pos h2];rfl
  ·rw [if_neg h2];rfl
theorem IM {n L:Nat}(h:nl n≤L):(aH 1000000000 n).length≤2*L:=Nat.le_trans (NI n) (by omega)
theorem j8 (G:List (List DV))(x:Rat):aa Tryz.prog G 249 [c9 x] (.c (rC (some (aH 1000000000 x.den)))):=by
 have:=Cz G (ey x) (jg x) (lF x)
 rwa [Oe] at this
theorem gz (G:List (List DV))(p q:Option (List Nat))(A B L:Nat)(hp:dO p=aH 1000000000 A)(hq:dO q=aH 1000000000 B)(hA:nl A≤L)(hB:nl B≤L)(hL:L≤400000):aa Tryz.prog G 248 [.c (rC p),.c (rC q)] (.c (rC (some (aH 1000000000 (A*B))))):=by
 have h1:=IM hA;have h2:=IM hB;have h:=qF G p q (by rw [hp];exact (bq (by decide) _).1) (by rw [hq];exact (bq (by decide) _).1) (by rw [hp];omega) (by rw [hq];omega);rw [hp,hq,bn (by decide),bn (by decide)] at h;rw [← fC,← fC,← fC];exact h
theorem BE (G:List (List DV))(A B L:Nat)(hA:nl A≤L)(hB:nl B≤L)(hL:L≤400000):aa Tryz.prog G 324 [.c (rC (some (aH 1000000000 A))),.c (rC (some (aH 1000000000 B)))] (.c (rC (some (aH 1000000000 (A+B))))):=by
 have h1:=IM hA;have h2:=IM hB;have:=yX G A B (by omega) (by omega);rw [fC,fC,fC] at this;exact this
theorem CO (G:List (List DV))(A B L:Nat)(hA:nl A≤L)(hL:L≤400000)(h:B≤A):aa Tryz.prog G 323 [.c (rC (some (aH 1000000000 A))),.c (rC (some (aH 1000000000 B)))] (.c (rC (some (aH 1000000000 (A - B))))):=by
 have h1:=IM hA;have:=vl G A B (by omega) h;rw [fC,fC,fC] at this;exact this
theorem vL (G:List (List DV))(A B:Nat):aa Tryz.prog G 247 [.c (rC (some (aH 1000000000 A))),.c (rC (some (aH 1000000000 B)))] (.c (.d (.int .i64 (dI A B)))):=by
 have:=ot G A B;rw [fC,fC] at this;exact this
theorem qC (G:List (List DV))(s:Int)(neg:Bool)(P Q L:Nat)(p:Option (List Nat))(hp:dO p=aH 1000000000 P)(hs:P≠0→s=if neg then -1 else 1)(hQ:0<Q)(hP:nl P≤L)(hQl:nl Q≤L)(hL:L≤50000) :
 aa Tryz.prog G 219 [.c (.d (.int .i64 s)),.c (rC p),.c (rC (some (aH 1000000000 Q)))] (c9 (mkRat (dB neg P) Q)):=by
 have h1:=IM hP;have h2:=IM hQl;have:=GN G s neg P Q p hp hs hQ (by omega) (by omega);rw [fC,fC] at this;exact this
theorem Jd (G:List (List DV))(x:Rat):aa Tryz.prog G 270 [c9 x] (c9 (-x)):=by
 have hr:=uE x;have hw:=bM (n:=-ey x) (by omega) (by omega);rw [JJ];refine aa.enc Tryz.func270 rfl (fun lv=>eS lv _ _ _) fun _=>aab ?_;refine aaq hw @bR ?_;refine aal ?_;refine bO.cell (T:=215) (t:=2) (k:=1) (off:=0) (own:=true) (fz:=false) (U:=215) (cs:=[.d (.int .i64 (-ey x)),rC (jg x),rC (lF x)]) rfl ?_ ?_ ?_
 ·simp
 ·simp [aj]
 ·rw [List.drop_zero,iD]
theorem wq (G:List (List DV))(x:Rat):aa Tryz.prog G 290 [c9 x] (c9 (gE x)):=by
 have hr:=uE x;have hw:IntKind.i64.wrap (ey x*ey x)=ey x*ey x:=by rcases hr with h|h|h <;> rw [h] <;> rfl
 rw [Iu];refine aa.enc Tryz.func290 rfl (fun lv=>eS lv _ _ _) fun _=>aab ?_;refine aaq hw @bR ?_;refine aal ?_;refine bO.cell (T:=215) (t:=2) (k:=1) (off:=0) (own:=true) (fz:=false) (U:=215) (cs:=[.d (.int .i64 (ey x*ey x)),rC (jg x),rC (lF x)]) rfl ?_ ?_ ?_
 ·simp
 ·simp [aj]
 ·rw [List.drop_zero,iD]
theorem wh (G:List (List DV))(x:Rat):aa Tryz.prog G 218 [c9 x] (.c (.d (.bool (decide (x.den=1))))):=by
 have hb:=j8 G x;have ho:=su G;rw [fC] at ho;have hc:=vL G x.den 1;have e:(dI x.den 1=0)↔x.den=1:=by unfold dI;(repeat' split) <;> omega
 refine aa.en Tryz.func218 rfl fun _=>aab ?_;refine aai fun K hK=>?_;simp;refine ag.p 1 9 hb ?_;simp;refine ag.p 1 9 ho ?_;simp;refine ag.p 1 9 hc ?_;simp;apply hK;exact aae (aq.rt (t:=2) rfl 9 (by simp [e]))
theorem FA (x:Rat):rY (decide (x.num<0)) (cP x.num.natAbs)=ey x:=by
 unfold rY ey;rw [kW];simp only [dN (by decide:2≤4294967296),decide_eq_true_eq]
 by_cases h:x.num=0
 ·rw [if_pos (by omega),if_pos h]
 ·rw [if_neg (by omega),if_neg h]
theorem ND (x y:Rat):gU x y=if ey x<ey y then -1 else if ey y<ey x then 1 else ey x*dI (x.num.natAbs*y.den) (y.num.natAbs*x.den):=by
 rw [← FW];unfold N9;rw [FA,FA,nw,nw,sY,sY]
 by_cases h:ey x=ey y
 ·rw [if_pos h,if_neg (by omega),if_neg (by omega)]
 ·rw [if_neg h]
  by_cases h2:ey x<ey y
  ·rw [if_pos h2,if_pos h2]
  ·rw [if_neg h2,if_neg h2,if_pos (by omega)]
theorem qh (G:List (List DV))(x y:Rat)(hx:jh x 20000)(hy:jh y 20000):aa Tryz.prog G 169 [c9 x,c9 y] (.c (.d (.int .i64 (gU x y)))):=by
 have b1:=j8 G x;have b2:=j8 G y;have m1:=gz G (jg x) (some (aH 1000000000 y.den)) x.num.natAbs y.den 20000 (lS x) rfl hx.1 hy.2 (by decide);have m2:=gz G (jg y) (some (aH 1000000000 x.den)) y.num.natAbs x.den 20000 (lS y) rfl hy.1 hx.2 (by decide);have cc:=vL G (x.num.natAbs*y.den) (y.num.natAbs*x.den);have hr:=ND x y
 have hw:IntKind.i64.wrap (ey x*dI (x.num.natAbs*y.den) (y.num.natAbs*x.den))=ey x*dI (x.num.natAbs*y.den) (y.num.natAbs*x.den):=by
  have h1:=Dq (x.num.natAbs*y.den) (y.num.natAbs*x.den);rcases uE x with h|h|h <;> rw [h] <;> exact bM (by omega) (by omega)
 rw [hr];refine aa.en Tryz.func169 rfl fun _=>aab ?_;refine aaa fun K hK=>aaf (aab ?_)
 by_cases h1:ey x<ey y
 ·refine aah (by simp [h1] <;> omega) (aab ?_);exact aae (aq.rt (t:=4) rfl 9 (by simp [h1]))
 ·refine aag (by simp [h1] <;> omega) (aab ?_)
  by_cases h2:ey y<ey x
  ·refine aah (by simp [h2] <;> omega) (aab ?_);exact aae (aq.rt (t:=4) rfl 9 (by simp [h1,h2]))
  ·refine aag (by simp [h2] <;> omega) (aac (hK _ _ (aaa fun K hK=>?_)));refine aap mixed (by kernel_rfl) rfl ?_;simp;refine ag.p 2 9 b2 ?_;simp;refine ag.p 2 9 m1 ?_;simp;refine ag.p 2 9 b1 ?_;simp;refine ag.p 2 9 m2 ?_;simp;refine ag.p 2 9 cc ?_;simp;simp [hw];refine⟨by kernel_rfl,?_⟩;apply hK;clear hK K;exact aae (aq.rt (t:=4) rfl 9 (by simp [h1,h2]))
end Go.Am
namespace Go.Am
open Go.Am.Ty Go.Proofs N
attribute [local irreducible] bO
theorem jH (lv:Key→LB)(s:Int)(p q:Option (List Nat))(n:Int):fP lv (.tup [rA s p q,.c (.d (.int .i64 n))])=some (.tup [rA s p q,.c (.d (.int .i64 n))],[]):=by
 cases p <;> cases q <;> rfl
theorem bO.ref {c:Ctx}{fn:Func}{z:Rat}{t k:Nat}{s:aB}{κ:Nat}(hr:fn.results=#[.cell t 215]) (ht:s.fr t=.c (.ptr k 0)) (hk:s.lv k=.cells true false 215 [.d (.int .i64 (ey z)),rC (jg z),rC (lF z)]) (hP:c.P=Tryz.prog):bO c fn (c9 z) .ret s κ:=
 bO.cell hr ht hk (by rw [List.drop_zero,hP,iD])
theorem JT (G:List (List DV))(x y:Rat)(hx:jh x 10000)(hy:jh y 10000):aa Tryz.prog G 360 [c9 x,c9 y] (c9 (x+y)):=by
 have b1:=j8 G x;have b2:=j8 G y;have m1:=gz G (jg x) (some (aH 1000000000 y.den)) x.num.natAbs y.den 10000 (lS x) rfl hx.1 hy.2 (by decide);have m2:=gz G (jg y) (some (aH 1000000000 x.den)) y.num.natAbs x.den 10000 (lS y) rfl hy.1 hx.2 (by decide);have m3:=gz G (some (aH 1000000000 x.den)) (some (aH 1000000000 y.den)) x.den y.den 10000 rfl rfl hx.2 hy.2 (by decide);have l1:=fR x.num.natAbs y.den;have l2:=fR y.num.natAbs x.den;have l3:=fR x.den y.den;have hq0:0<x.den*y.den:=Nat.mul_pos x.den_pos y.den_pos;have hx1:=hx.1;have hx2:=hx.2;have hy1:=hy.1;have hy2:=hy.2;have zx:x.num.natAbs*y.den=0↔x.num=0:=by rw [Nat.mul_eq_zero];have:=y.den_nz;omega
 have zy:y.num.natAbs*x.den=0↔y.num=0:=by rw [Nat.mul_eq_zero];have:=x.den_nz;omega
 rw [DL];generalize x.num.natAbs*y.den=A at *
 generalize y.num.natAbs*x.den=B at *
 generalize x.den*y.den=Q at *
 have ad:=BE G A B 20000 (by omega) (by omega) (by decide);have l4:=E4 A B;have cm:=vL G A B;have mk:=fun (s:Int) (neg:Bool) (P:Nat) (hs:P≠0→s=if neg then -1 else 1) (hP:nl P≤20001)=>qC G s neg P Q 20001 (some (aH 1000000000 P)) rfl hs hq0 hP (by omega) (by decide)
 have df1:A<B→_:=fun h=>CO G B A 20000 (by omega) (by decide) (Nat.le_of_lt h)
 have df2:¬ A<B→_:=fun h=>CO G A B 20000 (by omega) (by decide) (Nat.not_lt.1 h)
 have nA:∀ n,n≤A→nl n≤20001:=fun n h=>by have:=kN h;omega
 have nB:∀ n,n≤B→nl n≤20001:=fun n h=>by have:=kN h;omega
 refine aa.enc Tryz.func360 rfl (fun lv=>eS lv _ _ _) fun _=>aab ?_;refine aaa fun K hK=>?_;refine aap mixed (by kernel_rfl) rfl ?_;simp;refine ag.p 3 9 b2 ?_;simp;refine ag.p 3 9 m1 ?_;simp;refine ag.p 3 9 b1 ?_;simp;refine ag.p 3 9 m2 ?_;simp;refine⟨by kernel_rfl,?_⟩;apply hK;clear hK K;refine aaa fun K hK=>?_;refine aap mixed (by kernel_rfl) rfl ?_;simp;refine ag.p 3 9 b1 ?_;simp;refine ag.p 3 9 b2 ?_;simp;refine ag.p 3 9 m3 ?_;simp;refine⟨by kernel_rfl,?_⟩;apply hK;clear hK K;refine aaa fun K hK=>aaa fun K1 hK1=>?_
 by_cases hs:ey x=0∨ey y=0∨ey x=ey y
 ·obtain⟨s,hse⟩:∃ s,(if ey x=0 then ey y else ey x)=s:=⟨_,rfl⟩
  obtain⟨neg,hn1,hn2⟩:∃ neg:Bool,(A+B≠0→s=if neg then -1 else 1)∧dB (decide (x.num<0)) A+dB (decide (y.num<0)) B=dB neg (A+B):=by
   by_cases hx0:x.num=0
   ·have hA:A=0:=zx.2 hx0;have hs1:s=ey y:=by rw [← hse,if_pos (jM.2 hx0)]
    refine⟨decide (y.num<0),fun h=>?_,?_⟩
    ·rw [hs1];exact nG (fun e=>h (by rw [hA,zy.2 e]))
    ·rw [hA,Nat.zero_add];have:dB (decide (x.num<0)) 0=0:=by unfold dB;split <;> rfl
     rw [this,Int.zero_add]
   ·have hs1:s=ey x:=by rw [← hse,if_neg (fun e=>hx0 (jM.1 e))]
    refine⟨decide (x.num<0),fun _=>?_,?_⟩
    ·rw [hs1];exact nG hx0
    ·by_cases hy0:y.num=0
     ·have hB:B=0:=zy.2 hy0;rw [hB,Nat.add_zero];have:dB (decide (y.num<0)) 0=0:=by unfold dB;split <;> rfl
      rw [this,Int.add_zero]
     ·have he:ey x=ey y:=by
       rcases hs with h|h|h
       ·exact absurd (jM.1 h) hx0
       ·exact absurd (jM.1 h) hy0
       ·exact h
      rw [nG hx0,nG hy0] at he
      have hd:decide (x.num<0)=decide (y.num<0):=by
       cases h1:decide (x.num<0) <;> cases h2:decide (y.num<0) <;> simp [h1,h2] at he ⊢
      rw [hd,zH]
  have mk1:=mk s neg (A+B) hn1 (by omega);rw [← hn2] at mk1
  by_cases c1:ey x=0
  ·refine aat c1 (hK1 _ _ ?_);refine aaj (aan c1 ?_);refine aaa fun K1 hK1=>aab ?_;refine aaj ?_;rw [if_pos c1] at hse;refine aat hse (hK1 _ _ ?_);refine aai fun K1 hK1=>?_;simp;refine ag.p 3 9 ad ?_;simp;refine ag.p 3 9 mk1 ?_;simp;simp [aj];apply hK1;clear hK1 K1;exact aal (bO.ref (k:=2) rfl (by simp) (by simp [aj]) rfl)
  ·rw [if_neg c1] at hse
   by_cases c2:ey y=0
   ·refine aau c1 c2 (hK1 _ _ ?_);refine aaj (aan hse ?_);refine aaa fun K1 hK1=>aab ?_;have c3:¬ s=0:=by rw [← hse];exact c1
    refine aag (by simp [c3] <;> omega) (aac (hK1 _ _ (aai fun K1 hK1=>?_)));simp;refine ag.p 3 9 ad ?_;simp;refine ag.p 3 9 mk1 ?_;simp;simp [aj];apply hK1;clear hK1 K1;exact aal (bO.ref (k:=2) rfl (by simp) (by simp [aj]) rfl)
   ·have c4:ey x=ey y:=hs.elim (fun h=>absurd h c1) fun h=>h.elim (fun h=>absurd h c2) id
    have c5:ey y=s:=by rw [← c4];exact hse
    have c3:¬ s=0:=by rw [← hse];exact c1
    refine aad ?_;simp [c1,c2,hse,c5,c3];apply hK1;clear hK1 K1;refine aaj (aan hse ?_);refine aaa fun K1 hK1=>aab ?_;refine aag (by simp [c3] <;> omega) (aac (hK1 _ _ (aai fun K1 hK1=>?_)));simp;refine ag.p 3 9 ad ?_;simp;refine ag.p 3 9 mk1 ?_;simp;simp [aj];apply hK1;clear hK1 K1;exact aal (bO.ref (k:=2) rfl (by simp) (by simp [aj]) rfl)
 ·have c1:¬ ey x=0:=fun h=>hs (.inl h)
  have c2:¬ ey y=0:=fun h=>hs (.inr (.inl h))
  have c3:¬ ey x=ey y:=fun h=>hs (.inr (.inr h))
  have hx0:x.num≠0:=fun h=>c1 (jM.2 h)
  have hy0:y.num≠0:=fun h=>c2 (jM.2 h)
  have hne:decide (x.num<0)≠decide (y.num<0):=fun h=>c3 (by rw [nG hx0,nG hy0,h])
  refine aaD c1 c2 c3 (hK1 _ _ ?_);refine aak (aac (hK _ _ (aaa fun K hK=>aaa fun K1 hK1=>?_)))
  by_cases hlt:A<B
  ·have hc:dI A B<0:=by rw [jb hlt];omega
   have d1:=df1 hlt;have mk1:=mk (ey y) (decide (y.num<0)) (B - A) (fun _=>nG hy0) (nB _ (Nat.sub_le _ _));rw [← ET hne hlt] at mk1;refine aay 3 cm hc (hK1 _ _ ?_);refine aaj (aaa fun K1 hK1=>?_);refine aap mixed (by kernel_rfl) rfl ?_;simp;refine ag.p 3 9 d1 ?_;simp;refine ag.p 3 9 mk1 ?_;simp;simp [aj];refine⟨by kernel_rfl,?_⟩;apply hK1;clear hK1 K1;exact aal (bO.ref (k:=2) rfl (by simp) (by simp [aj]) rfl)
  ·have hc:¬ dI A B<0:=by
    by_cases e:A=B
    ·rw [mu e];omega
    ·rw [jB (by omega)];omega
   have d1:=df2 hlt;have mk1:=mk (ey x) (decide (x.num<0)) (A - B) (fun _=>nG hx0) (nA _ (Nat.sub_le _ _));rw [← Eo hne hlt] at mk1;refine aay 3 cm hc (hK1 _ _ ?_);refine aak (aac (hK _ _ (aaa fun K hK=>?_)));refine aap mixed (by kernel_rfl) rfl ?_;simp;refine ag.p 3 9 d1 ?_;simp;refine ag.p 3 9 mk1 ?_;simp;simp [aj];refine⟨by kernel_rfl,?_⟩;apply hK;clear hK K;exact aal (bO.ref (k:=2) rfl (by simp) (by simp [aj]) rfl)
theorem Ii (G:List (List DV))(x y:Rat)(hx:jh x 10000)(hy:jh y 10000):aa Tryz.prog G 336 [c9 x,c9 y] (c9 (x - y)):=by
 have h1:=Jd G y;have h2:=JT G x (-y) hx (uy hy);rw [← Rat.sub_eq_add_neg] at h2;refine aa.enc Tryz.func336 rfl (fun lv=>eS lv _ _ _) fun _=>aab ?_;refine aaa fun K hK=>?_;refine aap mixed (by kernel_rfl) rfl ?_;simp;refine ag.p 3 9 h1 ?_;simp;refine ag.p 3 9 h2 ?_;simp;simp [aj];refine⟨by kernel_rfl,?_⟩;apply hK;clear hK K;exact aal (bO.ref (k:=2) rfl (by simp) (by simp [aj]) rfl)
end Go.Am
namespace Go.Am
open Go.Am.Ty Go.Proofs N
attribute [local irreducible] bO
theorem L2 {x:Rat}(h:x.num≠0):jg x=some (aH 1000000000 x.num.natAbs):=if_neg h
theorem Bh {x:Rat}(h:x.num≠0):lF x=some (aH 1000000000 x.den):=if_neg h
theorem J8 (G:List (List DV))(x y:Rat)(hx:jh x 10000)(hy:jh y 10000)(hy0:0<y.num) :
 aa Tryz.prog G 292 [c9 x,c9 y] (.tup [c9 (mkRat (dB (decide (x.num<0)) (x.num.natAbs*y.den)) (x.den*y.num.natAbs)),.c (.d (.int .i64 0))]):=by
 have hyn:y.num≠0:=by omega
 have b1:=j8 G x;have m1:=gz G (jg x) (lF y) x.num.natAbs y.den 10000 (lS x) (by rw [Bh hyn];rfl) hx.1 hy.2 (by decide);have m2:=gz G (some (aH 1000000000 x.den)) (jg y) x.den y.num.natAbs 10000 rfl (lS y) hx.2 hy.1 (by decide);have l1:=fR x.num.natAbs y.den;have l2:=fR x.den y.num.natAbs;have hx1:=hx.1;have hx2:=hx.2;have hy1:=hy.1;have hy2:=hy.2;have sy:ey y=1:=by unfold ey;rw [if_neg hyn,if_neg (by omega)]
 have sy0:¬ ey y=0:=by rw [sy];decide
 have hw:IntKind.i64.wrap (ey x*ey y)=ey x:=by
  rw [sy,Int.mul_one];rcases uE x with h|h|h <;> rw [h] <;> rfl
 have mk:=qC G (ey x) (decide (x.num<0)) (x.num.natAbs*y.den) (x.den*y.num.natAbs) 20000 (some (aH 1000000000 (x.num.natAbs*y.den))) rfl (fun h=>nG (fun e=>h (by rw [e];simp))) (Nat.mul_pos x.den_pos (by omega)) (by omega) (by omega) (by decide);generalize mkRat (dB (decide (x.num<0)) (x.num.natAbs*y.den)) (x.den*y.num.natAbs)=z at *
 generalize x.num.natAbs*y.den=A at *
 generalize x.den*y.num.natAbs=B at *
 refine aa.enc Tryz.func292 rfl (fun lv=>jH lv _ _ _ _) fun _=>aab ?_;refine aaa fun K hK=>aab ?_;refine aag (by simp [sy0] <;> omega) (aac (hK _ _ (aaa fun K hK=>?_)));refine aap mixed (by kernel_rfl) rfl ?_;simp [hw];refine ag.p 3 9 m1 ?_;simp;refine ag.p 3 9 b1 ?_;simp;refine ag.p 3 9 m2 ?_;simp;refine ag.p 3 9 mk ?_;simp [aj];refine⟨by kernel_rfl,?_⟩;apply hK;clear hK K;refine aal ?_;refine bO.lz (x:=c9 z) (y:=.c (.d (.int .i64 0))) (T:=215) (t:=4) (u:=5) (k:=2) (off:=0) (own:=true) (fz:=false) (U:=215) (cs:=[.d (.int .i64 (ey z)),rC (jg z),rC (lF z)]) rfl ?_ ?_ ?_ ?_ rfl rfl
 ·simp
 ·simp [aj]
 ·rw [List.drop_zero,iD]
 ·simp
theorem yg (m:Int):aa Tryz.prog (GG m) 154 [.c (.d (.int .i64 1))] (c9 1):=by
 have h:aa Tryz.prog (GG m) 154 [.c (.d (.int .i64 1))] (.agg [.d (.int .i64 1),.d (.sl [[.int .i64 1]]),.d (.sl [[.int .i64 1]])]):=aa.CH (AT m 60) (by kernel_rfl)
 have e:c9 1=.agg [.d (.int .i64 1),.d (.sl [[.int .i64 1]]),.d (.sl [[.int .i64 1]])]:=by
  show rA 1 (some (aH 1000000000 1)) (some (aH 1000000000 1))=_;rw [NG];rfl
 rw [e];exact h
theorem wg (G:List (List DV)):∀ (k:Nat),k≤100000→aa Tryz.prog G 361 [.c (.d (.int .i64 (k:Int)))] (.c (rC (some (aH 1000000000 (2 ^ k))))):=by
 intro k
 induction k using Nat.strongRecOn with
 | ind k ih=>
 intro hk;have ho:=su G;rw [fC] at ho
 by_cases h0:k=0
 ·subst h0;have h0':((0:Nat):Int)=0:=rfl;refine aa.en Tryz.func361 rfl fun _=>aab ?_;refine aaa fun K hK=>aab ?_;refine aaj (aas 1 ho ?_);exact aae (aq.rt (t:=2) rfl 9 (by simp))
 have hk0:¬ (k:Int)=0:=by omega
 have ih2:=ih (k / 2) (by omega) (by omega);have e1:(k:Int).tdiv 2=((k / 2:Nat):Int):=mF k 2;have w1:=bM (n:=((k / 2:Nat):Int)) (by omega) (by omega);have e2:(k:Int).tmod 2=((k % 2:Nat):Int):=sZ k 2;have n2:=nT (k / 2);have m1:=gz G (some (aH 1000000000 (2 ^ (k / 2)))) (some (aH 1000000000 (2 ^ (k / 2)))) (2 ^ (k / 2)) (2 ^ (k / 2)) 10000 rfl rfl (by omega) (by omega) (by decide);rw [← Nat.pow_add] at m1;have n3:=nT (k / 2+k / 2);have ad:=BE G (2 ^ (k / 2+k / 2)) (2 ^ (k / 2+k / 2)) 10000 (by omega) (by omega) (by decide);have e3:2 ^ (k / 2+k / 2)+2 ^ (k / 2+k / 2)=2 ^ (k / 2+k / 2+1):=by rw [Nat.pow_succ];omega
 rw [e3] at ad;refine aa.en Tryz.func361 rfl fun _=>aab ?_;refine aaa fun K hK=>aab ?_;refine aag (by simp [h0,hk0] <;> omega) (aac (hK _ _ (aai fun K hK=>?_)));simp [e1,w1,-Int.natCast_ediv];refine ag.p 1 9 ih2 ?_;simp;apply hK;refine aas 1 m1 ?_;refine aaa fun K hK=>aaa fun K1 hK1=>?_
 by_cases ho:k % 2=1
 ·have e4:k=k / 2+k / 2+1:=by omega
  have ho':(k:Int) % 2=1:=by omega
  refine aad ?_;simp [e2,ho,ho',-Int.natCast_emod];apply hK1;clear hK1 K1;refine aah (by simp [ho,ho'] <;> omega) (AW.m0 1 ad (hK _ _ ?_));refine aab ?_;rw [← e4];exact aae (aq.rt (t:=2) rfl 9 (by simp))
 ·have e4:k=k / 2+k / 2:=by omega
  have ho':¬ (k:Int) % 2=1:=by omega
  refine aad ?_;simp [e2,ho,ho',-Int.natCast_emod];apply hK1;clear hK1 K1;refine aag (by simp [ho,ho'] <;> omega) (aac (hK _ _ (aab ?_)));rw [← e4];exact aae (aq.rt (t:=2) rfl 9 (by simp))
end Go.Am
namespace Go.Am
open Go.Am.Ty Go.Proofs N
attribute [local irreducible] bO
theorem wB (G:List (List DV))(x:Rat)(k:Int)(hx:jh x 10000)(h1:-20000≤k)(h2:k≤20000):aa Tryz.prog G 337 [c9 x,.c (.d (.int .i64 k))] (c9 (aP x k)):=by
 have b1:=j8 G x;have hx1:=hx.1;have hx2:=hx.2
 by_cases hk:k<0
 ·have hsh:=gK (x:=x) hk;obtain⟨j,hj⟩:∃ j:Nat,(-k).toNat=j:=⟨_,rfl⟩
  rw [hj] at hsh;have w1:IntKind.i64.wrap (-k)=(j:Int):=by rw [bM (by omega) (by omega)];omega
  have n1:=nT j;have pw:=wg G j (by omega);have m1:=gz G (some (aH 1000000000 x.den)) (some (aH 1000000000 (2 ^ j))) x.den (2 ^ j) 10000 rfl rfl hx2 (by omega) (by decide);have l1:=fR x.den (2 ^ j);have mk:=qC G (ey x) (decide (x.num<0)) x.num.natAbs (x.den*2 ^ j) 20000 (jg x) (lS x) (fun h=>nG (by omega)) (Nat.mul_pos x.den_pos (Nat.pow_pos (by decide))) (by omega) (by omega) (by decide);rw [← hsh] at mk;generalize 2 ^ j=T at *
  refine aa.enc Tryz.func337 rfl (fun lv=>eS lv _ _ _) fun _=>aab ?_;refine aaa fun K hK=>aab ?_;refine aah (by simp [hk] <;> omega) (aaa fun K1 hK1=>?_);refine aap mixed (by kernel_rfl) rfl ?_;simp;refine ag.p 2 9 b1 ?_;simp;simp [w1];refine ag.p 2 9 pw ?_;simp;refine ag.p 2 9 m1 ?_;simp;refine ag.p 2 9 mk ?_;simp [aj];refine⟨by kernel_rfl,?_⟩;apply hK1;clear hK1 K1;exact aal (bO.ref (k:=1) rfl (by simp) (by simp [aj]) rfl)
 ·have hkn:k=((k.toNat:Nat):Int):=by omega
  have n1:=nT k.toNat;have pw:=wg G k.toNat (by omega);rw [← hkn] at pw;have m1:=gz G (jg x) (some (aH 1000000000 (2 ^ k.toNat))) x.num.natAbs (2 ^ k.toNat) 10000 (lS x) rfl hx1 (by omega) (by decide);have l1:=fR x.num.natAbs (2 ^ k.toNat);have mk:=qC G (ey x) (decide (x.num<0)) (x.num.natAbs*2 ^ k.toNat) x.den 20000 (some (aH 1000000000 (x.num.natAbs*2 ^ k.toNat))) rfl (fun h=>nG (fun e=>h (by rw [e];simp))) x.den_pos (by omega) (by omega) (by decide);rw [← gN hk] at mk;generalize 2 ^ k.toNat=T at *
  refine aa.enc Tryz.func337 rfl (fun lv=>eS lv _ _ _) fun _=>aab ?_;refine aaa fun K hK=>aab ?_;refine aag (by simp [hk] <;> omega) (aac (hK _ _ (aaa fun K hK=>?_)));refine aap mixed (by kernel_rfl) rfl ?_;simp;refine ag.p 2 9 pw ?_;simp;refine ag.p 2 9 m1 ?_;simp;refine ag.p 2 9 b1 ?_;simp;refine ag.p 2 9 mk ?_;simp [aj];refine⟨by kernel_rfl,?_⟩;apply hK;clear hK K;exact aal (bO.ref (k:=1) rfl (by simp) (by simp [aj]) rfl)
theorem mW (m:Int)(k:Int)(h1:-20000≤k)(h2:k≤20000):aa Tryz.prog (GG m) 295 [.c (.d (.int .i64 k))] (c9 (aP 1 k)):=by
 have i1:=yg m;have sh:=wB (GG m) 1 k (jc 10000 (by decide)) h1 h2;refine aa.enc Tryz.func295 rfl (fun lv=>eS lv _ _ _) fun _=>aab ?_;refine aai fun K hK=>?_;simp;refine ag.p 1 9 i1 ?_;simp;refine ag.p 1 9 sh ?_;simp [aj];apply hK;exact aal (bO.ref (k:=0) rfl (by simp) (by simp [aj]) rfl)
theorem DJ {A k:Nat}:A<2 ^ k↔bg A≤k:=by
 constructor
 ·intro h
  by_cases h0:A=0
  ·subst h0;exact Nat.zero_le _
  ·have h1:=jw h0;have:bg A - 1<k:=(Nat.pow_lt_pow_iff_right (by decide:1<2)).1 (Nat.lt_of_le_of_lt h1 h);omega
 ·intro h;exact Nat.lt_of_lt_of_le (rS A) (Nat.pow_le_pow_right (by decide) h)
theorem A9 {A n:Nat}(h:(aH 1000000000 A).length≤n):bg A≤30*n:=by
 rw [← DJ,Nat.pow_mul];exact Nat.lt_of_lt_of_le (pN (by decide)) (Nat.le_trans (Nat.pow_le_pow_right (by decide) h) (Nat.pow_le_pow_left (by decide) _))
theorem Mj {A:Nat}:29*((aH 1000000000 A).length - 1)≤bg A:=by
 by_cases h0:aH 1000000000 A=[]
 ·rw [h0];exact Nat.zero_le _
 ·have h1:=E8 (bq (B:=1000000000) (by decide) A) h0;rw [bn (by decide)] at h1
  have h2:2 ^ (29*((aH 1000000000 A).length - 1))≤A:=by
   rw [Nat.pow_mul];exact Nat.le_trans (Nat.pow_le_pow_left (by decide) _) h1
  by_cases h3:bg A≤29*((aH 1000000000 A).length - 1)
  ·have:=DJ.2 h3;omega
  ·omega
theorem tK (G:List (List DV))(A:Nat)(hl:(aH 1000000000 A).length≤3000):aa Tryz.prog G 340 [(nK .i64 (some (aH 1000000000 (A))))] (.c (.d (.int .i64 (bg A)))):=by
 have hlo:=Mj (A:=A);have hhi:=A9 (A:=A) (Nat.le_refl _);obtain⟨n,hn⟩:∃ n,(aH 1000000000 A).length=n:=⟨_,rfl⟩
 have pwG:=fun k (h:k≤100000)=>wg G k h
 have cmG:∀ k:Nat,aa Tryz.prog G 247 [(nK .i64 (some (aH 1000000000 (A)))),.c (rC (some (aH 1000000000 (2 ^ k))))] (.c (.d (.int .i64 (dI A (2 ^ k))))):=fun k=>by
  have:=ot G A (2 ^ k);rw [← fC];exact this
 have hln:∀ lv,fc Tryz.prog 213 lv (nK .i64 (some (aH 1000000000 (A))))=some (.c (.d (.int .i64 n)),[],[],True):=fun lv=>by
  have:=Cw (P:=Tryz.prog) (T:=213) (lv:=lv) (k:=.i64) (o:=some (aH 1000000000 A)) (by simp);rw [aW,hn] at this;exact this
 rw [hn] at hlo hhi hl;have e1:=bM (n:=(n:Int) - 1) (by omega) (by omega);have e2:=bM (n:=29*((n:Int) - 1)) (by omega) (by omega);have e3:IntKind.i64.wrap (30*(n:Int))=((30*n:Nat):Int):=by rw [bM (by omega) (by omega)];omega
 obtain⟨z,hz⟩:∃ z:Int,29*((n:Int) - 1)=z:=⟨_,rfl⟩
 rw [hz] at e2;have hmx:(if 0<z then z else 0)=((29*(n - 1):Nat):Int):=by split <;> omega
 have blI:=fun k=>DJ (A:=A) (k:=k)
 generalize bg A=L at *
 refine aa.en Tryz.func340 rfl fun _=>aab ?_;refine aai fun K hK=>?_;simp [di,hln,e1,hz,e2,e3,hmx,-Int.natCast_mul,-Cw];apply hK;refine aaa fun K hK=>aaf ?_
 refine aao (fun (p:Nat × Nat)=>⟨bh [(0,(nK .i64 (some (aH 1000000000 (A))))),(3,.c (.d (.int .i64 (p.1:Int)))),(4,.c (.d (.int .i64 (p.2:Int))))],fun _=>.hole⟩) 0
  (fun p=>p.1≤L∧L≤p.2∧p.2≤90000) (fun p=>p.2 - p.1) (29*(n - 1),30*n) (Le.mk' _ rfl az (by simp)) ⟨hlo,hhi,by omega⟩ ?_
 rintro⟨lo,hi⟩ ⟨q1,q2,q3⟩;simp only at q1 q2 q3;refine aaa fun K2 hK2=>aab ?_
 by_cases hlh:lo<hi
 ·have u1:IntKind.i64.wrap ((lo:Int)+hi)=((lo+hi:Nat):Int):=by rw [bM (by omega) (by omega)];omega
  have u3:(((lo+hi:Nat):Int)).tdiv 2=(((lo+hi) / 2:Nat):Int):=mF _ 2;obtain⟨mi,hmi⟩:∃ mi,(lo+hi) / 2=mi:=⟨_,rfl⟩
  rw [hmi] at u3;have u4:=bM (n:=(mi:Int)) (by omega) (by omega);have u5:=bM (n:=(mi:Int)+1) (by omega) (by omega);have pw:=pwG mi (by omega);have cm:=cmG mi;have bi:=blI mi;refine aah (by simp [hlh] <;> omega) (aac (hK2 _ _ (aaf (aai fun K4 hK4=>?_))));simp [u1,u3,u4,-Int.natCast_add];apply hK4;refine aaa fun K4 hK4=>?_
  by_cases hc:dI A (2 ^ mi)<0
  ·have hle:L≤mi:=bi.1 (by by_cases h:A<2 ^ mi;exact h;exfalso;by_cases e:A=2 ^ mi;rw [mu e] at hc;omega;rw [jB (by omega)] at hc;omega);refine aad ?_;simp;refine ag.p 0 9 pw ?_;simp;refine ag.p 0 9 cm ?_;simp [hc];apply hK4;clear hK4 K4;refine aaj (aad ?_);simp;exact⟨lo,mi,Le.mk' _ rfl az (by simp),⟨q1,hle,by omega⟩,by omega⟩
  ·have hle:¬ L≤mi:=fun h=>hc (by rw [jb (bi.2 h)];omega)
   have e:(mi:Int)+1=((mi+1:Nat):Int):=by omega
   refine aad ?_;simp;refine ag.p 0 9 pw ?_;simp;refine ag.p 0 9 cm ?_;simp [hc];apply hK4;clear hK4 K4;refine aak (aad ?_);simp [u5];exact⟨mi+1,hi,Le.mk' _ rfl az (by simp),⟨by omega,q2,q3⟩,by omega⟩
 ·obtain rfl:lo=L:=by omega
  refine aag (by simp [hlh] <;> omega) (aam (hK _ _ (aab ?_)));exact aae (aq.rt (t:=2) rfl 9 (by simp))
end Go.Am
namespace Go.Am
open Go.Am.Ty Go.Proofs N
attribute [local irreducible] bO
theorem AY (k:Int):(aP 1 k).num=((2 ^ (max k 0).toNat:Nat):Int)∧(aP 1 k).den=2 ^ (max (-k) 0).toNat:=by
 by_cases hk:k<0
 ·rw [gK hk];obtain⟨n1,n2⟩:=iu (decide ((1:Rat).num<0)) (a:=(1:Rat).num.natAbs) (b:=(1:Rat).den*2 ^ (-k).toNat) (by have:=Nat.pow_pos (a:=2) (n:=(-k).toNat) (by decide);show 1*_≠0;omega);rw [n1,n2];have e1:(1:Rat).num.natAbs=1:=rfl;have e2:(1:Rat).den=1:=rfl;have e3:(max k 0).toNat=0:=by omega
  have e4:(max (-k) 0).toNat=(-k).toNat:=by omega
  rw [e1,e2,e3,e4,Nat.gcd_one_left,Nat.one_mul];exact⟨rfl,Nat.div_one _⟩
 ·rw [gN hk];obtain⟨n1,n2⟩:=iu (decide ((1:Rat).num<0)) (a:=(1:Rat).num.natAbs*2 ^ k.toNat) (b:=(1:Rat).den) (by decide);rw [n1,n2];have e1:(1:Rat).num.natAbs=1:=rfl;have e2:(1:Rat).den=1:=rfl;have e3:(max k 0).toNat=k.toNat:=by omega
  have e4:(max (-k) 0).toNat=0:=by omega
  rw [e1,e2,e3,e4,Nat.gcd_one_right,Nat.one_mul,Nat.div_one];exact⟨rfl,rfl⟩
theorem MG {x y:Rat}:gU x y<0↔x<y:=by
 unfold gU
 by_cases h:x<y
 ·rw [if_pos h];simp [h]
 ·rw [if_neg h];constructor
  ·intro h2;exfalso;split at h2 <;> omega
  ·intro h2;exact absurd h2 h
theorem pZ (x:Rat)(k:Int):gU (gE x) (aP 1 k)<0↔x.num.natAbs*2 ^ (max (-k) 0).toNat<x.den*2 ^ (max k 0).toNat:=by
 rw [MG,D6];obtain⟨a1,a2⟩:=FD x;obtain⟨b1,b2⟩:=AY k;rw [a1,a2,b1,b2];have e1:((x.num.natAbs:Nat):Int).natAbs=x.num.natAbs:=by omega
 have e2:(((2 ^ (max k 0).toNat:Nat)):Int).natAbs=2 ^ (max k 0).toNat:=Int.natAbs_natCast _;have e3:decide (((x.num.natAbs:Nat):Int)<0)=false:=decide_eq_false (by omega);have e4:decide ((((2 ^ (max k 0).toNat:Nat)):Int)<0)=false:=decide_eq_false (Int.not_lt.2 (Int.natCast_nonneg _));rw [e1,e2,e3,e4,Nat.mul_comm (2 ^ (max k 0).toNat)];show ((x.num.natAbs*2 ^ (max (-k) 0).toNat:Nat):Int)<((x.den*2 ^ (max k 0).toNat:Nat):Int)↔_;exact Int.ofNat_lt
theorem IY (m:Int)(x:Rat)(hx0:x.num≠0)(hs:jh x 300):aa Tryz.prog (GG m) 296 [c9 x] (.c (.d (.int .i64 (fH x)))):=by
 have h1:=hs.1;have h2:=hs.2;have s1:=IM h1;have s2:=IM h2;have ln1:=tK (GG m) x.num.natAbs (by omega);have ln2:=tK (GG m) x.den (by omega);rw [fC,← L2 hx0] at ln1;rw [fC,← Bh hx0] at ln2;have b1:=A9 (A:=x.num.natAbs) s1;have b2:=A9 (A:=x.den) s2;have ab:=wq (GG m) x;obtain⟨k,hk⟩:∃ k:Int,(bg x.num.natAbs:Int) - bg x.den=k:=⟨_,rfl⟩
 have hkr:-20000≤k∧k≤20000:=by omega
 have tw:=mW m k hkr.1 hkr.2;have cm:=qh (GG m) (gE x) (aP 1 k) (uH (bW hs (by decide))) (bW (iJ (jc 1 (by decide)) k) (by omega));have hlt:=pZ x k;have hlog:fH x=if x.num.natAbs*2 ^ (max (-k) 0).toNat<x.den*2 ^ (max k 0).toNat then k - 1 else k:=by unfold fH;rw [hk]
 have w1:=bM (n:=k) (by omega) (by omega);have w2:=bM (n:=k - 1) (by omega) (by omega);rw [← hk] at w1;have sx:¬ ey x=0:=fun h=>hx0 (jM.1 h)
 generalize bg x.num.natAbs=B1 at *
 generalize bg x.den=B2 at *
 generalize aP 1 k=T at *
 generalize x.num.natAbs*2 ^ (max (-k) 0).toNat=U at *
 generalize x.den*2 ^ (max k 0).toNat=W at *
 rw [hk] at w1;refine aa.en Tryz.func296 rfl fun _=>aab ?_;refine aaa fun K hK=>aab ?_;refine aag (by simp [sx] <;> omega) (aac (hK _ _ (aaa fun K hK=>?_)));refine aap mixed (by kernel_rfl) rfl ?_;simp;refine ag.p 2 9 ln1 ?_;simp;refine ag.p 2 9 ln2 ?_;simp;simp [hk,w1];refine⟨by kernel_rfl,?_⟩;apply hK;clear hK K;refine aaa fun K hK=>aaa fun K1 hK1=>?_
 by_cases hc:U<W
 ·have hc2:=hlt.2 hc;rw [if_pos hc] at hlog;refine aad ?_;simp;refine ag.p 2 9 ab ?_;simp;refine ag.p 2 9 tw ?_;simp;refine ag.p 2 9 cm ?_;simp [hc2];apply hK1;clear hK1 K1;refine aaj (aat w2 (hK _ _ ?_));refine aab ?_;exact aae (aq.rt (t:=2) rfl 9 (by simp [hlog]))
 ·have hc2:¬ gU (gE x) T<0:=fun h=>hc (hlt.1 h)
  rw [if_neg hc] at hlog;refine aad ?_;simp;refine ag.p 2 9 ab ?_;simp;refine ag.p 2 9 tw ?_;simp;refine ag.p 2 9 cm ?_;simp [hc2];apply hK1;clear hK1 K1;refine aak (aac (hK _ _ (aab ?_)));exact aae (aq.rt (t:=2) rfl 9 (by simp [hlog]))
end Go.Am
namespace Go.Am
open Go.Am.Ty Go.Proofs N
variable {e p:Int}{x:Rat}
attribute [local irreducible] bO
theorem tM (G:List (List DV))(e p:Int):aa Tryz.prog G 90 [.agg [.d (.int .i64 e),.d (.int .i64 p)]] (.c (.d (.int .i64 (ff e p)))):=by
 refine aa.en Tryz.func90 rfl fun _=>aab ?_;refine aaa fun K hK=>aaa fun K1 hK1=>?_
 have bad:∀ (fr:Nat→AV) (κ:Nat) (lv:Key→LB),lv 9=.hole→fr 28=.c (.d (.bool true))→ff e p=2→K1 ⟨fr,lv⟩ κ:=by
  intro fr κ lv h9 z hf;apply hK1;refine aah (by simp [z] <;> omega) (aab ?_);exact aal (κ:=0) (aq.tmp (κ:=0) rfl 9 (by simp [hf]) rfl (by simp [h9]) rfl)
 by_cases h1:e<2
 ·refine aad ?_;simp [h1];exact bad _ _ _ (by simp) (by simp) (by unfold ff;rw [if_pos (by omega)])
 by_cases h2:11<e
 ·refine aad ?_;simp [h1,h2];exact bad _ _ _ (by simp) (by simp) (by unfold ff;rw [if_pos (by omega)])
 by_cases h3:p<2
 ·refine aad ?_;simp [h1,h2,h3];exact bad _ _ _ (by simp) (by simp) (by unfold ff;rw [if_pos (by omega)])
 by_cases h4:113<p
 ·refine aad ?_;simp [h1,h2,h3,h4];exact bad _ _ _ (by simp) (by simp) (by unfold ff;rw [if_pos (by omega)])
 have hw:IntKind.i64.wrap (e+p)=e+p:=bM (by omega) (by omega)
 by_cases h5:e+p<5
 ·refine aad ?_;simp [h1,h2,h3,h4,hw,h5];exact bad _ _ _ (by simp) (by simp) (by unfold ff;rw [if_pos (by omega)])
 refine aad ?_;simp [h1,h2,h3,h4,hw,h5];apply hK1;refine aak (aac (hK _ _ (aab ?_)));have hf:ff e p=0:=by unfold ff;rw [if_neg (by omega)]
 exact aal (κ:=0) (aq.tmp (κ:=0) rfl 9 (by simp [hf]) rfl (by simp) rfl)
theorem sQ (G:List (List DV))(e p:Int)(h1:2≤e)(h2:e≤11):aa Tryz.prog G 338 [fA e p] (.c (.d (.int .i64 (bw e)))):=by
 obtain⟨n,hn⟩:∃ n:Nat,e=(n:Int):=⟨e.toNat,by omega⟩
 have hb:bw e=((2 ^ (n - 1):Nat):Int) - 1:=by
  unfold bw;rw [hn,show ((n:Int) - 1).toNat=n - 1 by omega];simp
 have hp:∀ i,i≤10→2 ^ i≤1024:=fun i h=>Nat.pow_le_pow_right (by decide) h
 rw [hb];refine aa.en Tryz.func338 rfl fun _=>aab ?_;refine aab ?_;refine aaa fun K hK=>aab ?_;refine aaf ?_
 refine aao (fun (i:Nat)=>⟨bh [(1,.c (.ptr 0 0)),(3,.c (.d (.int .i64 ((2 ^ i:Nat):Int)))),(4,.c (.d (.int .i64 ((i+1:Nat):Int))))],aG (fun _=>.hole) 0 (.cells true false 81 [.d (.int .i64 e),.d (.int .i64 p)])⟩) 1
  (fun i=>i+1≤n) (fun i=>n - i) 0 (Le.mk' _ rfl (by simp) (by simp)) (by omega) ?_
 intro i hi
 try simp only at hi
 have hpi:=hp i (by omega);have hpi1:2*2 ^ i=2 ^ (i+1):=by rw [Nat.pow_succ,Nat.mul_comm]
 obtain⟨T,hT⟩:∃ T,2 ^ i=T:=⟨_,rfl⟩
 rw [hT] at hpi hpi1;simp only [hT];have w1:IntKind.i64.wrap (2*(T:Int))=((2 ^ (i+1):Nat):Int):=by rw [bM (by omega) (by omega),← hpi1];omega
 have w2:IntKind.i64.wrap (((i+1:Nat):Int)+1)=((i+1+1:Nat):Int):=by rw [bM (by omega) (by omega)];omega
 have w3:=bM (n:=(T:Int) - 1) (by omega) (by omega);refine aaa fun K3 hK3=>aai fun K4 hK4=>?_;simp [-Int.natCast_add];apply hK4
 by_cases hlt:i+1<n
 ·have hlt':((i+1:Nat):Int)<e:=by omega
  refine aah (by simp [hlt',-Int.natCast_add] <;> omega) (aac (hK3 _ _ (aaa fun K5 hK5=>aaf (aad ?_))));simp [w1,-Int.natCast_pow,-Int.natCast_add];apply hK5;refine aad ?_;simp [w2,-Int.natCast_pow,-Int.natCast_add];have w2':=bM (n:=(i:Int)+1+1) (by omega) (by omega);exact⟨i+1,Le.mk' _ rfl (by simp) (by simp [w2']),by omega,by omega⟩
 ·have hlt':¬ ((i+1:Nat):Int)<e:=by omega
  have e1:n - 1=i:=by omega
  refine aag (by simp [hlt',-Int.natCast_add] <;> omega) (aam (hK _ _ (aan w3 ?_)));rw [e1,hT];exact aae (aq.rt (t:=2) rfl 9 (by simp))
theorem pJ(h:ff e p=0):1≤bw e∧bw e≤1023:=by
 obtain⟨h1,h2,_⟩:=iZ h;obtain⟨a,b,_⟩:=sA h1 h2;exact⟨a,b⟩
theorem E7 (m:Int)(e p:Int)(hf:ff e p=0):aa Tryz.prog (GG m) 294 [fA e p] (c9 (aP 1 (2 - bw e - p))):=by
 obtain⟨h1,h2,h3,h4,_⟩:=iZ hf;obtain⟨b1,b2⟩:=pJ hf;have bb:=sQ (GG m) e p h1 h2;generalize bw e=b at *
 have w1:=bM (n:=2 - b) (by omega) (by omega);have w2:=bM (n:=2 - b - p) (by omega) (by omega);have tw:=mW m (2 - b - p) (by omega) (by omega);refine aa.enc Tryz.func294 rfl (fun lv=>eS lv _ _ _) fun _=>aab ?_;refine aaa fun K hK=>?_;refine aap mixed (by kernel_rfl) rfl ?_;simp;refine ag.p 2 9 bb ?_;simp [w1,w2];refine ag.p 2 9 tw ?_;simp [aj];refine⟨by kernel_rfl,?_⟩;apply hK;clear hK K;exact aal (bO.ref (k:=1) rfl (by simp) (by simp [aj]) rfl)
theorem C1 (m:Int)(e p:Int)(hf:ff e p=0):aa Tryz.prog (GG m) 339 [fA e p] (c9 (aP 1 (1 - bw e))):=by
 obtain⟨h1,h2,h3,h4,_⟩:=iZ hf;obtain⟨b1,b2⟩:=pJ hf;have bb:=sQ (GG m) e p h1 h2;generalize bw e=b at *
 have w1:=bM (n:=1 - b) (by omega) (by omega);have tw:=mW m (1 - b) (by omega) (by omega);refine aa.enc Tryz.func339 rfl (fun lv=>eS lv _ _ _) fun _=>aab ?_;refine aai fun K hK=>?_;simp;refine ag.p 2 9 bb ?_;simp [w1];refine ag.p 2 9 tw ?_;simp [aj];apply hK;exact aal (bO.ref (k:=1) rfl (by simp) (by simp [aj]) rfl)
theorem xR (m:Int)(e p:Int)(hf:ff e p=0):aa Tryz.prog (GG m) 291 [fA e p] (c9 (eH p (bw e))):=by
 obtain⟨h1,h2,h3,h4,_⟩:=iZ hf;obtain⟨b1,b2⟩:=pJ hf;have bb:=sQ (GG m) e p h1 h2;have tw:=mW m p (by omega) (by omega);have i1:=yg m;have sb:=Ii (GG m) (aP 1 p) 1 (bW (iJ (jc 1 (by decide)) p) (by omega)) (jc _ (by decide));have sg:=p6 p (by omega) (by omega);have sh:=wB (GG m) (aP 1 p - 1) (bw e - p+1) (bW sg (by decide)) (by omega) (by omega);have hgr:aP (aP 1 p - 1) (bw e - p+1)=eH p (bw e):=rfl;rw [hgr] at sh;generalize eH p (bw e)=g at *
 generalize aP 1 p - 1=g1 at *
 generalize aP 1 p=g2 at *
 generalize bw e=b at *
 have w1:=bM (n:=b - p) (by omega) (by omega);have w2:=bM (n:=b - p+1) (by omega) (by omega);refine aa.enc Tryz.func291 rfl (fun lv=>eS lv _ _ _) fun _=>aab ?_;refine aai fun K hK=>?_;simp;refine ag.p 2 9 tw ?_;simp;refine ag.p 2 9 i1 ?_;simp;refine ag.p 2 9 sb ?_;simp [aj];apply hK;refine aaa fun K hK=>?_;refine aap mixed (by kernel_rfl) rfl ?_;simp;refine ag.p 3 9 bb ?_;simp [w1,w2];refine ag.p 3 9 sh ?_;simp [aj];refine⟨by kernel_rfl,?_⟩;apply hK;clear hK K;exact aal (bO.ref (k:=1) rfl (by simp) (by simp [aj]) rfl)
theorem Dx (m:Int)(e p:Int)(hf:ff e p=0)(x:Rat)(hx:jh x 300):aa Tryz.prog (GG m) 293 [fA e p,c9 x] (.c (.d (.bool (decide (gU (gE x) (aP 1 (1 - bw e))<0))))):=by
 obtain⟨b1,b2⟩:=pJ hf;have ab:=wq (GG m) x;have nm:=C1 m e p hf;have cm:=qh (GG m) (gE x) (aP 1 (1 - bw e)) (uH (bW hx (by decide))) (bW (iJ (jc 1 (by decide)) _) (by omega));generalize aP 1 (1 - bw e)=g at *
 refine aa.en Tryz.func293 rfl fun _=>aab ?_;refine aaa fun K hK=>?_;refine aap mixed (by kernel_rfl) rfl ?_;simp;refine ag.p 2 9 ab ?_;simp;refine ag.p 2 9 nm ?_;simp;refine ag.p 2 9 cm ?_;simp;refine⟨by kernel_rfl,?_⟩;apply hK;clear hK K;exact aae (aq.rt (t:=4) rfl 9 (by simp))
theorem Cd (m:Int)(e p:Int)(hf:ff e p=0)(x:Rat)(hx:jh x 300):aa Tryz.prog (GG m) 244 [fA e p,c9 x] (.c (.d (.bool (decide (0<gU (gE x) (eH p (bw e))))))):=by
 obtain⟨h1,h2,h3,h4,_⟩:=iZ hf;obtain⟨b1,b2⟩:=pJ hf;have ab:=wq (GG m) x;have nm:=xR m e p hf;have cm:=qh (GG m) (gE x) (eH p (bw e)) (uH (bW hx (by decide))) (bW (yf p (bw e) (by omega) (by omega) (by omega) (by omega)) (by omega));generalize eH p (bw e)=g at *
 refine aa.en Tryz.func244 rfl fun _=>aab ?_;refine aaa fun K hK=>?_;refine aap mixed (by kernel_rfl) rfl ?_;simp;refine ag.p 2 9 ab ?_;simp;refine ag.p 2 9 nm ?_;simp;refine ag.p 2 9 cm ?_;simp;refine⟨by kernel_rfl,?_⟩;apply hK;clear hK K;exact aae (aq.rt (t:=4) rfl 9 (by simp))
def jr (e p:Int)(x:Rat):Int:=if gU (gE x) (aP 1 (1 - bw e))<0 then 2 - bw e - p else fH x - p+1
theorem Bx(h:x.num=0) (k:Int):gU (gE x) (aP 1 k)<0:=by
 rw [pZ];have:x.num.natAbs=0:=by omega
 rw [this,Nat.zero_mul];exact Nat.mul_pos x.den_pos (Nat.pow_pos (by decide))
theorem Hs(hf:ff e p=0) (hx:jh x 300):-15000≤jr e p x∧jr e p x≤15000:=by
 obtain⟨h1,h2,h3,h4,_⟩:=iZ hf;obtain⟨b1,b2⟩:=pJ hf;unfold jr;split
 ·omega
 ·rename_i h
  have hx0:x≠0:=fun e=>h (Bx (Rat.num_eq_zero.2 e) _)
  have:=wF hx0 hx;omega
theorem GV (m:Int)(e p:Int)(hf:ff e p=0)(x:Rat)(hx:jh x 300):aa Tryz.prog (GG m) 246 [fA e p,c9 x] (c9 (aP 1 (jr e p x))):=by
 obtain⟨h1,h2,h3,h4,_⟩:=iZ hf;obtain⟨b1,b2⟩:=pJ hf;have bl:=Dx m e p hf x hx;have ls:=E7 m e p hf
 by_cases hb:gU (gE x) (aP 1 (1 - bw e))<0
 ·have hs:jr e p x=2 - bw e - p:=if_pos hb;rw [hs];generalize aP 1 (2 - bw e - p)=g at *
  refine aa.enc Tryz.func246 rfl (fun lv=>eS lv _ _ _) fun _=>aab ?_;refine aaa fun K hK=>aav 3 bl hb ?_;refine aaj (aav 3 ls @aj.eq_1 ?_);exact aal (bO.ref (k:=2) rfl (by simp) (by simp [aj]) rfl)
 ·have hs:jr e p x=fH x - p+1:=if_neg hb;have hx0:x.num≠0:=fun h=>hb (Bx h _)
  have hl:=wF (fun e=>hx0 (Rat.num_eq_zero.2 e)) hx;have lg:=IY m x hx0 hx;have tw:=mW m (fH x - p+1) (by omega) (by omega);have w1:=bM (n:=fH x - p) (by omega) (by omega);have w2:=bM (n:=fH x - p+1) (by omega) (by omega);rw [hs];generalize aP 1 (fH x - p+1)=g at *
  generalize fH x=l at *
  refine aa.enc Tryz.func246 rfl (fun lv=>eS lv _ _ _) fun _=>aab ?_;refine aaa fun K hK=>aav 3 bl hb ?_;refine aak (aac (hK _ _ (aaa fun K hK=>?_)));refine aap mixed (by kernel_rfl) rfl ?_;simp;refine ag.p 3 9 lg ?_;simp [w1,w2];refine ag.p 3 9 tw ?_;simp [aj];refine⟨by kernel_rfl,?_⟩;apply hK;clear hK K;exact aal (bO.ref (k:=2) rfl (by simp) (by simp [aj]) rfl)
theorem MB (x:Rat)(k:Int):mkRat (dB (decide (x.num<0)) (x.num.natAbs*(aP 1 k).den)) (x.den*(aP 1 k).num.natAbs)=aP x (-k):=by
 obtain⟨b1,b2⟩:=AY k;have e2:(((2 ^ (max k 0).toNat:Nat)):Int).natAbs=2 ^ (max k 0).toNat:=Int.natAbs_natCast _;rw [b1,b2,e2]
 by_cases hk:-k<0
 ·rw [gK hk,show (max (-k) 0).toNat=0 by omega,show (max k 0).toNat=(- -k).toNat by omega,Nat.pow_zero,Nat.mul_one]
 ·rw [gN hk,show (max (-k) 0).toNat=(-k).toNat by omega,show (max k 0).toNat=0 by omega,Nat.pow_zero,Nat.mul_one]
theorem GJ (G:List (List DV))(x:Rat)(k:Int)(hx:jh x 300)(h1:-15000≤k)(h2:k≤15000):aa Tryz.prog G 245 [c9 x,c9 (aP 1 k)] (c9 (aP x (-k))):=by
 have q:=J8 G x (aP 1 k) (bW hx (by decide)) (bW (iJ (jc 1 (by decide)) k) (by omega)) (by rw [(AY k).1];exact Int.natCast_pos.2 (Nat.pow_pos (by decide)));rw [MB] at q;generalize aP 1 k=y at *
 generalize aP x (-k)=z at *
 refine aa.enc Tryz.func245 rfl (fun lv=>eS lv _ _ _) fun _=>aab ?_;refine aav 3 q @aj.eq_1 ?_;refine aan @aj.eq_1 ?_;exact aal (bO.ref (k:=2) rfl (by simp) (by simp [aj]) rfl)
end Go.Am
namespace Go.Am
open Go.Am.Ty Go.Proofs N
variable {n d κ:Nat}{s l T:List UInt8}{x y z u:AV}{neg:Bool}{k e:Int}{c:Ctx}{fn:Func}
def EX (n d:Nat)(k:Int):Prop:=n*2 ^ (max (-k) 0).toNat<d*2 ^ (max k 0).toNat
theorem IJ(h:EX n d k):EX n d (k+1):=by
 unfold EX at *
 by_cases hk:0≤k
 ·obtain⟨j,hj⟩:∃ j:Nat,k=j:=⟨k.toNat,by omega⟩
  subst hj;rw [show (max (-(j:Int)) 0).toNat=0 by omega,show (max (j:Int) 0).toNat=j by omega] at h;rw [show (max (-((j:Int)+1)) 0).toNat=0 by omega,show (max ((j:Int)+1) 0).toNat=j+1 by omega,Nat.pow_succ,← Nat.mul_assoc];have:=Nat.le_mul_of_pos_right (d*2 ^ j) (by decide:0<2);omega
 ·obtain⟨j,hj⟩:∃ j:Nat,k = -((j:Int)+1):=⟨(-k - 1).toNat,by omega⟩
  subst hj;rw [show (max (-(-((j:Int)+1))) 0).toNat=j+1 by omega,show (max (-((j:Int)+1)) 0).toNat=0 by omega,Nat.pow_succ,← Nat.mul_assoc] at h;rw [show (max (-(-((j:Int)+1)+1)) 0).toNat=j by omega,show (max (-((j:Int)+1)+1) 0).toNat=0 by omega];have:=Nat.le_mul_of_pos_right (n*2 ^ j) (by decide:0<2);omega
theorem Gf {n d:Nat}{k:Int}(h:EX n d k):∀ j:Nat,EX n d (k+j)
 | 0=>by simpa using h
 | j+1=>by
  have:=IJ (Gf h j)
  rwa [show k+((j+1:Nat):Int)=k+(j:Int)+1 by omega]
theorem rE{l:Int}(h:EX n d k) (hl:k≤l):EX n d l:=by
 have:=Gf h (l - k).toNat
 rwa [show k+((l - k).toNat:Int)=l by omega] at this
theorem MR(hd:d≠0):EX n d ((bg n:Int) - bg d+1):=by
 have h1:=rS n;have h2:=jw hd;have h3:1≤bg d:=by unfold bg;rw [if_neg hd];omega
 unfold EX;generalize bg n=a at *
 generalize bg d=b at *
 by_cases hk:b≤a+1
 ·rw [show (max (-((a:Int) - b+1)) 0).toNat=0 by omega,show (max ((a:Int) - b+1) 0).toNat=a+1 - b by omega,Nat.pow_zero,Nat.mul_one];have h4:2 ^ (b - 1)*2 ^ (a+1 - b)≤d*2 ^ (a+1 - b):=Nat.mul_le_mul_right _ h2;rw [← Nat.pow_add,show b - 1+(a+1 - b)=a by omega] at h4;omega
 ·rw [show (max (-((a:Int) - b+1)) 0).toNat=b - a - 1 by omega,show (max ((a:Int) - b+1) 0).toNat=0 by omega,Nat.pow_zero,Nat.mul_one];have h4:n*2 ^ (b - a - 1)<2 ^ a*2 ^ (b - a - 1):=Nat.mul_lt_mul_of_pos_right h1 (Nat.pow_pos (by decide));rw [← Nat.pow_add,show a+(b - a - 1)=b - 1 by omega] at h4;omega
theorem Md(hn:n≠0):¬ EX n d ((bg n:Int) - bg d - 1):=by
 have h1:=rS d;have h2:=jw hn;have h3:1≤bg n:=by unfold bg;rw [if_neg hn];omega
 unfold EX;generalize bg n=a at *
 generalize bg d=b at *
 rw [Nat.not_lt]
 by_cases hk:b+1≤a
 ·rw [show (max (-((a:Int) - b - 1)) 0).toNat=0 by omega,show (max ((a:Int) - b - 1) 0).toNat=a - b - 1 by omega,Nat.pow_zero,Nat.mul_one];have h4:d*2 ^ (a - b - 1)≤2 ^ b*2 ^ (a - b - 1):=Nat.mul_le_mul_right _ (Nat.le_of_lt h1);rw [← Nat.pow_add,show b+(a - b - 1)=a - 1 by omega] at h4;omega
 ·rw [show (max (-((a:Int) - b - 1)) 0).toNat=b+1 - a by omega,show (max ((a:Int) - b - 1) 0).toNat=0 by omega,Nat.pow_zero,Nat.mul_one];have h4:2 ^ (a - 1)*2 ^ (b+1 - a)≤n*2 ^ (b+1 - a):=Nat.mul_le_mul_right _ h2;rw [← Nat.pow_add,show a - 1+(b+1 - a)=b by omega] at h4;omega
theorem MF {x:Rat}(hx:x.num≠0) (k:Int):gU (gE x) (aP 1 k)<0↔fH x<k:=by
 rw [pZ];show EX x.num.natAbs x.den k↔_;have ht:=MR (n:=x.num.natAbs) x.den_nz;have hb:=Md (n:=x.num.natAbs) (d:=x.den) (by omega)
 have hl:(EX x.num.natAbs x.den ((bg x.num.natAbs:Int) - bg x.den)∧fH x=(bg x.num.natAbs:Int) - bg x.den - 1)∨(¬ EX x.num.natAbs x.den ((bg x.num.natAbs:Int) - bg x.den)∧fH x=(bg x.num.natAbs:Int) - bg x.den):=by
  unfold fH
  by_cases h:EX x.num.natAbs x.den ((bg x.num.natAbs:Int) - bg x.den)
  ·exact .inl ⟨h,if_pos h⟩
  ·exact .inr ⟨h,if_neg h⟩
 generalize (bg x.num.natAbs:Int) - bg x.den=q at *
 rcases hl with ⟨h1,h2⟩|⟨h1,h2⟩ <;> rw [h2]
 ·constructor
  ·intro h;apply Classical.byContradiction;intro hn;exact hb (rE h (by omega))
  ·intro h;exact rE h1 (by omega)
 ·constructor
  ·intro h;apply Classical.byContradiction;intro hn;exact h1 (rE h (by omega))
  ·intro h;exact rE ht (by omega)
theorem GO {x:Rat}(h:0≤x.num) (k:Int):0≤(aP x k).num:=by
 have hd:decide (x.num<0)=false:=decide_eq_false (by omega)
 by_cases hk:k<0
 ·rw [gK hk,hd,(iu false (qc x _)).1];exact Int.natCast_nonneg _
 ·rw [gN hk,hd,(iu false x.den_nz).1];exact Int.natCast_nonneg _
theorem II (p b:Int)(hp:0≤p):0≤(eH p b).num:=by
 refine GO ?_ _;rw [Rat.num_nonneg,Rat.sub_eq_add_neg]
 have h1:¬ aP 1 p<1:=by
  rw [D6];obtain⟨b1,b2⟩:=AY p;rw [b1,b2];have e2:(((2 ^ (max p 0).toNat:Nat)):Int).natAbs=2 ^ (max p 0).toNat:=Int.natAbs_natCast _;have e4:decide ((((2 ^ (max p 0).toNat:Nat)):Int)<0)=false:=decide_eq_false (Int.not_lt.2 (Int.natCast_nonneg _));rw [e2,e4,show (max (-p) 0).toNat=0 by omega];show ¬ ((2 ^ (max p 0).toNat*1:Nat):Int)<((1*2 ^ 0:Nat):Int)
  have:=Nat.pow_pos (a:=2) (n:=(max p 0).toNat) (by decide);omega
 have h2:(1:Rat)≤aP 1 p:=Rat.not_lt.1 h1;have h3:=Rat.add_le_add_right (c:=-1) |>.2 h2
 rwa [Rat.add_neg_cancel] at h3
theorem has_eq {p:Int}(hf:ff e p=0) (x:Rat):hasB e p x=(decide (¬ 0<gU (gE x) (eH p (bw e))) && decide ((aP x (-(jr e p x))).den=1)):=by
 obtain⟨h1,h2,h3,h4,_⟩:=iZ hf;unfold hasB;rw [decide_eq_true hf,Bool.true_and]
 by_cases hx:x=0
 ·subst hx
  have e1:aP 0 (-(jr e p 0))=0:=by
   by_cases hk:-(jr e p 0)<0
   ·rw [gK hk];exact Rat.zero_mkRat _
   ·rw [gN hk,show (0:Rat).num.natAbs*2 ^ (-(jr e p 0)).toNat=0 from Nat.zero_mul _];exact Rat.zero_mkRat _
  have e2:¬ 0<gU (gE 0) (eH p (bw e)):=by
   have hg:=II p (bw e) (by omega);have:gE 0=0:=by unfold gE;rw [if_neg (by decide)]
   rw [this];intro h;unfold gU at h;have h5:¬ eH p (bw e)<0:=Rat.not_lt.2 (Rat.num_nonneg.1 hg);rw [if_neg h5] at h;split at h <;> omega
  rw [e1,decide_eq_true (by rfl:(0:Rat)=0),decide_eq_true e2];rfl
 ·have hx0:x.num≠0:=fun h=>hx (Rat.num_eq_zero.1 h)
  have hs:jr e p x=jf p (bw e) (fH x):=by
   unfold jr jf;have:=MF hx0 (1 - bw e)
   by_cases hb:gU (gE x) (aP 1 (1 - bw e))<0
   ·rw [if_pos hb];have:=this.1 hb;omega
   ·rw [if_neg hb];have h6:¬ fH x<1 - bw e:=fun h=>hb (this.2 h);omega
  rw [decide_eq_false hx,Bool.false_or,hs,Bool.and_comm];congr 1;exact decide_eq_decide.2 (by omega)
theorem CE (m:Int)(e p:Int)(x:Rat)(hx:jh x 300):aa Tryz.prog (GG m) 168 [fA e p,c9 x] (.c (.d (.bool (hasB e p x)))):=by
 have ck:=tM (GG m) e p
 by_cases hf:ff e p=0
 rotate_left
 ·have hh:hasB e p x=false:=by unfold hasB;rw [decide_eq_false hf];rfl
  rw [hh];refine aa.en Tryz.func168 rfl fun _=>aab ?_;refine aaa fun K hK=>?_;refine aap mixed (by kernel_rfl) rfl ?_;simp;refine ag.p 2 9 ck ?_;simp [hf];refine⟨by kernel_rfl,?_⟩;apply hK;clear hK K;exact aae (aq.rt (t:=4) rfl 9 (by simp))
 have by':=Cd m e p hf x hx;have st:=GV m e p hf x hx;have sr:=Hs hf hx;have ov:=GJ (GG m) x (jr e p x) hx (by omega) (by omega);have ii:=wh (GG m) (aP x (-(jr e p x)));rw [has_eq hf];generalize aP 1 (jr e p x)=y at *
 generalize aP x (-(jr e p x))=z at *
 generalize gU (gE x) (eH p (bw e))=c at *
 by_cases hc:0<c
 ·refine aa.en Tryz.func168 rfl fun _=>aab ?_;refine aaa fun K hK=>?_;refine aap mixed (by kernel_rfl) rfl ?_;simp;refine ag.p 2 9 ck ?_;simp [hf];refine ag.p 2 9 by' ?_;simp [hc];refine⟨by kernel_rfl,?_⟩;apply hK;clear hK K;exact aae (aq.rt (t:=4) rfl 9 (by simp [hc]))
 ·refine aa.en Tryz.func168 rfl fun _=>aab ?_;refine aaa fun K hK=>?_;refine aap mixed (by kernel_rfl) rfl ?_;simp;refine ag.p 2 9 ck ?_;simp [hf];refine ag.p 2 9 by' ?_;simp [hc];refine ag.p 2 9 st ?_;simp;refine ag.p 2 9 ov ?_;simp;refine ag.p 2 9 ii ?_;simp;refine⟨by kernel_rfl,?_⟩;apply hK;clear hK K;exact aae (aq.rt (t:=4) rfl 9 (by simp [hc]))
theorem I5 (c:UInt8):jm c=true↔48≤c.toNat∧c.toNat≤57:=by simp [jm]
theorem OR(h:∀ x∈l,jm x=true):l.dropWhile jm=[]:=by
 induction l with
 | nil=>rfl
 | cons a l ih=>rw [List.dropWhile_cons,if_pos (h a (by simp))];exact ih fun x hx=>h x (by simp [hx])
theorem CT(h:ua s):qx s=[]:=by
 have h1:s.reverse.dropWhile jm=[]:=OR fun x hx=>(I5 x).2 (h x (List.mem_reverse.1 hx))
 unfold qx jl;rw [h1];rfl
def isRow (s:List UInt8):Prop:=ua s∧s≠[]∧(s=[48]∨s.getD 0 0≠48)
theorem mV:eB s=true↔isRow s:=by
 constructor
 ·intro h;obtain⟨h1,h2⟩:=nF h;unfold eB at h;simp only [Bool.and_eq_true,Bool.or_eq_true,Bool.not_eq_true',decide_eq_true_eq,decide_eq_false_iff_not] at h;exact⟨h1,h2,h.2⟩
 ·rintro⟨h1,h2,h3⟩;unfold eB;rw [decide_eq_false h2,decide_eq_true (CT h1)];rcases h3 with h3|h3
  ·rw [decide_eq_true h3];rfl
  ·rw [decide_eq_false h3];simp
theorem Vf{i:Nat}(h:i<s.length):s.getD i 0=s[i]:=by rw [List.getD_eq_getElem?_getD,List.getElem?_eq_getElem h];rfl
theorem Ic (G:List (List DV))(s:List UInt8):aa Tryz.prog G 288 [.c (.d (.str s))] (.c (.d (.bool (eB s)))):=by
 refine aL.ji 0 (by simp) (fun V v h=>(show s.length≤9223372036854775807 by cases h.1 with|str _ hl=>exact hl)) fun hs=>?_;refine aa.en Tryz.func288 rfl fun _=>aab ?_;refine aaa fun K hK=>aab ?_;refine aaf ?_;refine aao (fun (i:Nat)=>⟨bh [(0,.c (.d (.str s))),(3,.c (.d (.int .i64 (i:Int))))],fun _=>.hole⟩) 0 (fun i=>i≤s.length∧ua (s.take i)) (fun i=>s.length - i) 0 (Le.mk' _ rfl az (by simp)) ⟨Nat.zero_le _,fun c hc=>by simp at hc⟩ ?_;rintro i ⟨hi,hd⟩;refine aaa fun K3 hK3=>aab ?_
 by_cases hlt:i<s.length
 ·have hlt':(i:Int)<(s.length:Int):=by omega
  have wi:=bM (n:=(i:Int)+1) (by omega) (by omega);have hg:=Vf hlt;have hg2:s[i]?.getD 0=s[i]:=by rw [List.getElem?_eq_getElem hlt];rfl
  obtain⟨c,hc⟩:∃ c,s[i]=c:=⟨_,rfl⟩
  rw [hc] at hg hg2;have hcm:c∈s:=by rw [← hc];exact List.getElem_mem hlt
  have bad:¬ (48≤c.toNat∧c.toNat≤57)→eB s=false:=fun h=>by
   cases hr:eB s with
   | false=>rfl
   | true=>exact absurd ((mV.1 hr).1 c hcm) h
  refine aah (by simp [hlt] <;> omega) (aac (hK3 _ _ (aaa fun K5 hK5=>aaf (aaa fun K6 hK6=>?_))))
  by_cases c1:c.toNat<48
  ·have c1':(c.toNat:Int)<48:=by omega
   refine aad ?_;simp [hlt,hlt',hc,c1,c1']
   repeat (refine And.intro (by omega) ?_)
   apply hK6;clear hK6 K6;refine aaj (aab ?_);exact aae (aq.rt (t:=2) rfl 9 (by simp [(bad (by omega))]))
  ·have c1':¬ (c.toNat:Int)<48:=by omega
   by_cases c2:57<c.toNat
   ·have c2':(57:Int)<(c.toNat:Int):=by omega
    refine aad ?_;simp [hlt,hlt',hc,c1,c1',c2,c2']
    repeat (refine And.intro (by omega) ?_)
    apply hK6;clear hK6 K6;refine aaj (aab ?_);exact aae (aq.rt (t:=2) rfl 9 (by simp [(bad (by omega))]))
   ·have c2':¬ (57:Int)<(c.toNat:Int):=by omega
    refine aad ?_;simp [hlt,hlt',hc,c1,c1',c2,c2']
    repeat (refine And.intro (by omega) ?_)
    apply hK6;clear hK6 K6;refine aak (aac (hK5 _ _ (aad ?_)));simp [wi];refine⟨i+1,Le.mk' _ rfl az (by simp),⟨by omega,?_⟩,by omega⟩;intro x hx;rw [List.take_add_one,List.getElem?_eq_getElem hlt,List.mem_append] at hx;rcases hx with hx|hx
    ·exact hd x hx
    ·simp only [Option.toList_some,List.mem_singleton] at hx;rw [hx,hc];omega
 ·have he:i=s.length:=by omega
  subst he;rw [List.take_length] at hd;refine aag (by simp [hlt] <;> omega) (aam (hK _ _ (aaa fun K hK=>?_)))
  cases s with
  | nil=>
   refine aaA (hK _ _ ?_);exact aae (aq.rt (t:=2) rfl 9 (by simp [eB]))
  | cons a l=>
   have hrow:eB (a::l)=(decide (a::l=[48]) || !decide (a=48)):=by
    unfold eB;rw [decide_eq_true (CT hd)];simp
   have ha:((a.toNat:Int)=48)↔a=48:=by
    constructor
    ·intro h;exact UInt8.toNat_inj.1 (by show a.toNat=48;omega)
    ·intro h;subst h;rfl
   have hpos:(0:Int)<((l.length:Int)+1):=by omega
   by_cases h0:a::l=[48]
   ·obtain⟨rfl,rfl⟩:=List.cons.inj h0;refine aat @eqStr (hK _ _ ?_);exact aae (aq.rt (t:=2) rfl 9 (by simp [hrow]))
   ·refine aad ?_;simp [eqStr,h0,hpos]
    repeat (refine And.intro (by omega) ?_)
    apply hK;clear hK K;exact aae (aq.rt (t:=2) rfl 9 (by simp [hrow,h0,ha]))
def HW (l:List Nat):LB:=if l=[] then .hole else .cells true false 2 (wK .i64 l)
def K0 (l:List Nat):AV:=if l=[] then .c (.d .nilsl) else .c (.aV 0 0 l.length 1)
theorem Od {lv:Key→LB}{k:Key}(h:lv k=.hole):aG lv k .hole=lv:=by
 funext j;unfold aG;split
 ·rename_i e;rw [e,h]
 ·rfl
theorem TI (j:Nat):10 ^ (9*j)=1000000000 ^ j:=by rw [Nat.pow_mul]
theorem C3(h:ua s) (n:Nat):ua (s.take n):=fun c hc=>h c (List.mem_of_mem_take hc)
theorem Bn(h:ua s) (n:Nat):ua (s.drop n):=fun c hc=>h c (List.mem_of_mem_drop hc)
theorem yh (G:List (List DV))(s:List UInt8)(hd:ua s)(hne:s≠[])(hl:s.length≤100000):aa Tryz.prog G 243 [.c (.d (.str s))] (nK .i64 (some (aH 1000000000 (aQ s 0)))):=by
 have hbs:∀ (lv:Key→LB) (h:lv 1=.hole) (a:CV),au Tryz.prog 213 1 [0] lv 1 [.c a]=some (.c (.aV 1 0 1 1),[(1,.cells true false 2 [a])],[],True):=fun lv h a=>Ck lv 1 h a
 refine aa.Nc Tryz.func243 rfl fun _=>aab ?_;refine aab ?_;refine aaa fun K hK=>aab ?_;refine aaf ?_
 refine aao (fun (p:List Nat)=>⟨bh [(0,.c (.d (.str s))),(3,K0 p),(4,.c (.d (.int .i64 ((s.length:Int) - 9*(p.length:Int)))))],aG (fun _=>.hole) 0 (HW p)⟩) 1
  (fun p=>ok 1000000000 p∧val 1000000000 p=aQ (s.drop (s.length - 9*p.length)) 0∧(9*p.length<s.length+9)) (fun p=>s.length+9 - 9*p.length) [] (Le.mk' _ (Od rfl).symm az (by simp [K0])) ⟨cx _,by simp [aQ],by simp⟩ ?_
 rintro p ⟨h1,h2,h3⟩;obtain⟨z,hz⟩:∃ z:Int,(s.length:Int) - 9*(p.length:Int)=z:=⟨_,rfl⟩
 simp only [hz];refine aaa fun K3 hK3=>aab ?_
 by_cases hgo:0<z
 ·obtain⟨i,rfl⟩:∃ i:Nat,z=i:=⟨z.toNat,by omega⟩
  have hi:s.length - 9*p.length=i:=by omega
  have hil:i≤s.length:=by omega
  rw [hi] at h2;obtain⟨lo,hlo⟩:∃ lo,i - 9=lo:=⟨_,rfl⟩
  obtain⟨y,hy⟩:∃ y:Int,(i:Int) - 9=y:=⟨_,rfl⟩
  have w1:IntKind.i64.wrap ((i:Int) - 9)=y:=by rw [bM (by omega) (by omega)];exact hy
  have hmx:(if y<0 then 0 else y)=(lo:Int):=by split <;> omega
  have w9:=bM (n:=(i:Int) - 9) (by omega) (by omega);rw [hy] at w9;refine aah (by simp [hgo] <;> omega) (aac (hK3 _ _ (aaa fun K5 hK5=>aaf (aab ?_))));refine aaa fun K6 hK6=>aai fun K7 hK7=>?_;simp [di,w1,hmx];apply hK7;refine aaf ?_
  refine aao (fun (k:Nat)=>⟨bh [(0,.c (.d (.str s))),(3,K0 p),(4,.c (.d (.int .i64 (i:Int)))),(5,.c (.d (.int .i64 ((aQ ((s.take k).drop lo) 0:Nat):Int)))),(6,.c (.d (.int .i64 (k:Int))))],aG (fun _=>.hole) 0 (HW p)⟩) 1
   (fun k=>lo≤k∧k≤i) (fun k=>i - k) lo (Le.keys [(0,0,HW p)] 19 _ rfl rfl (by simp) (by simp) (by simp) ?_ ?_) ⟨Nat.le_refl _,by omega⟩ ?_
  ·intro e he;simp only [List.mem_cons,List.not_mem_nil,or_false] at he;subst he;simp only [aA];unfold HW;split
   ·rfl
   ·exact jN .i64 2 p _
  ·have e0:List.drop lo (List.take lo s)=[]:=List.drop_eq_nil_of_le (by rw [List.length_take];omega);simp [e0,aQ,cK];unfold K0;split <;> simp [cK]
  rintro k ⟨k1,k2⟩;refine aaa fun K8 hK8=>aab ?_
  by_cases hlk:k<i
  ·have hks:k<s.length:=by omega
   have hks':(k:Int)<(s.length:Int):=by omega
   obtain⟨c,hc⟩:∃ c,s[k]=c:=⟨_,rfl⟩
   have hcd:=hd c (by rw [← hc];exact List.getElem_mem hks);have hlt:=mm (Bn (C3 hd k) lo);have hln:(List.drop lo (List.take k s)).length=k - lo:=by rw [List.length_drop,List.length_take];omega
   have hp9:10 ^ (List.drop lo (List.take k s)).length≤10 ^ 8:=Nat.pow_le_pow_right (by decide) (by omega)
   have hnx:aQ ((s.take (k+1)).drop lo) 0=10*aQ ((s.take k).drop lo) 0+(c.toNat - 48):=by
    have e:(s.take (k+1)).drop lo=(s.take k).drop lo++[c]:=by
     rw [List.take_add_one,List.getElem?_eq_getElem hks,hc,List.drop_append,show lo - (List.take k s).length=0 by rw [List.length_take];omega];rfl
    rw [e,jJ];rfl
   obtain⟨N0,hN0e⟩:∃ N0,aQ ((s.take k).drop lo) 0=N0:=⟨_,rfl⟩
   obtain⟨N1,hN1e⟩:∃ N1,aQ ((s.take (k+1)).drop lo) 0=N1:=⟨_,rfl⟩
   rw [hN0e] at hlt hnx;rw [hN1e] at hnx;simp only [hN0e];have hN0:N0≤100000000:=by omega
   have v1:IntKind.i64.wrap (10*(N0:Int))=((10*N0:Nat):Int):=by rw [bM (by omega) (by omega)];omega
   have v2:IntKind.u8.wrap ((c.toNat:Int) - 48)=((c.toNat - 48:Nat):Int):=by rw [cE ⟨by simp only [yQ];omega,by simp only [oL];omega⟩];omega
   have v3:=bM (n:=((c.toNat - 48:Nat):Int)) (by omega) (by omega);have v4:IntKind.i64.wrap (((10*N0:Nat):Int)+((c.toNat - 48:Nat):Int))=(N1:Int):=by rw [bM (by omega) (by omega)];omega
   have v5:=bM (n:=(k:Int)+1) (by omega) (by omega);refine aah (by simp [hlk] <;> omega) (aac (hK8 _ _ (aaa fun K9 hK9=>aaf (aad ?_))));simp [hks,hks',hc,v1,v2,v3,v4,-Int.natCast_mul]
   repeat (refine And.intro (by omega) ?_)
   apply hK9;clear hK9 K9;refine aad ?_;simp [v5];refine⟨k+1,Le.keys [(0,0,HW p)] 19 _ rfl rfl (by simp) (by simp) (by simp) ?_ ?_,⟨by omega,by omega⟩,by omega⟩
   ·intro e he;simp only [List.mem_cons,List.not_mem_nil,or_false] at he;subst he;simp only [aA];unfold HW;split
    ·rfl
    ·exact jN .i64 2 p _
   ·simp [cK,hN1e];unfold K0;split <;> simp [cK]
  ·obtain rfl:k=i:=by omega
   refine aag (by simp [hlk] <;> omega) (aam (hK6 _ _ ?_));refine aax 1 ?_;have hlt:=mm (Bn (C3 hd k) lo);have hln:(List.drop lo (List.take k s)).length=k - lo:=by rw [List.length_drop,List.length_take];omega
   have hp9:10 ^ (List.drop lo (List.take k s)).length≤10 ^ 9:=Nat.pow_le_pow_right (by decide) (by omega)
   have hv:aQ (s.drop lo) 0=aQ ((s.take k).drop lo) 0*1000000000 ^ p.length+aQ (s.drop k) 0:=by
    have e:s.drop lo=(s.take k).drop lo++s.drop k:=by
     conv=>lhs;rw [← List.take_append_drop k s]
     rw [List.drop_append,show lo - (List.take k s).length=0 by rw [List.length_take];omega];rfl
    have e2:(s.drop k).length=9*p.length:=by rw [List.length_drop];omega
    rw [e,jJ,eP,e2,TI]
   have hz2:(s.length:Int) - 9*(((p.length+1:Nat)):Int)=y:=by omega
   have hz3:s.length - 9*(p.length+1)=lo:=by omega
   obtain⟨N,hN⟩:∃ N,aQ ((s.take k).drop lo) 0=N:=⟨_,rfl⟩
   simp only [hN] at hlt hv ⊢;have hok:ok 1000000000 (p++[N]):=ct.2 ⟨h1,bA.2 ⟨by omega,cx _⟩⟩
   have hvl:val 1000000000 (p++[N])=aQ (s.drop (s.length - 9*(p++[N]).length)) 0:=by
    rw [List.length_append,List.length_singleton,hz3,ez,h2,hv,Nat.mul_comm];omega
   have hB1:HW (p++[N])=.cells true false 2 (wK .i64 (p++[N])):=if_neg (by simp);have hV1:K0 (p++[N])=.c (.aV 0 0 (p.length+1) 1):=by unfold K0;rw [if_neg (by simp)];simp
   by_cases hp:p=[]
   ·subst hp;refine aad ?_;simp [K0,HW,hbs,gV,keyOf,-au]
    repeat (refine And.intro (by omega) ?_)
    apply hK5;refine aad ?_;simp [w1];refine⟨[]++[N],Le.keys [(0,2,HW ([]++[N]))] 19 _ rfl rfl (by simp) (by simp) (by simp) ?_ ?_,⟨hok,hvl,by simp <;> omega⟩,by simp <;> omega⟩
    ·intro e he;simp only [List.mem_cons,List.not_mem_nil,or_false] at he;subst he;rw [hB1];simpa [wK] using jN .i64 2 ([]++[N]) _
    ·rw [hV1];have hz2':(s.length:Int) - 9=y:=by simpa using hz2
     simp [cK,hz2']
   ·have hB0:HW p=.cells true false 2 (wK .i64 p):=if_neg hp;have hV0:K0 p=.c (.aV 0 0 p.length 1):=if_neg hp;refine aad ?_;simp [hB0,hV0,hbs,gV,keyOf,A5,-au]
    repeat (refine And.intro (by omega) ?_)
    apply hK5;refine aad ?_;simp [w1];refine⟨p++[N],Le.keys [(0,2,HW (p++[N]))] 19 _ rfl rfl (by simp) (by simp) (by simp) ?_ ?_,⟨hok,hvl,by simp;omega⟩,by simp;omega⟩
    ·intro e he;simp only [List.mem_cons,List.not_mem_nil,or_false] at he;subst he;rw [hB1];simpa using jN .i64 2 (p++[N]) _
    ·rw [hV1];have hz2':(s.length:Int) - 9*((p.length:Int)+1)=y:=by simpa using hz2
     simp [cK,hz2']
 ·have hp:p≠[]:=by
   intro e;subst e;have:=List.length_pos_iff.2 hne;simp at hz;omega
  have hB0:HW p=.cells true false 2 (wK .i64 p):=if_neg hp;have hV0:K0 p=.c (.aV 0 0 p.length 1):=if_neg hp;have h0:s.length - 9*p.length=0:=by omega
  rw [h0,List.drop_zero] at h2;have hout:cW p=aH 1000000000 (aQ s 0):=dD (by decide) h1 h2;rw [hB0,hV0];refine aag (by simp [hgo] <;> omega) (aam (hK _ _ (aai fun K hK=>?_)));simp;refine fU.oK (T:=2) (k:=.i64) (l:=p) 1 9 0 (by simp) (by omega) (iP _ _ (by omega)) (by simp) (by simp) (by simp) ?_;simp;apply hK;clear hK K;exact aae (aq.rt (t:=2) rfl 9 (by simp [hout]))
def Hy (d:Nat):UInt8:=UInt8.ofNat (48+d)
theorem kG(h:d<10):(Hy d).toNat=48+d:=by simp [Hy];omega
theorem Iq {c:UInt8}(h:48≤c.toNat∧c.toNat≤57):Hy (c.toNat - 48)=c:=UInt8.toNat_inj.1 (by rw [kG (by omega)];omega)
def Da (n:Nat):Nat→List UInt8
 | 0=>[]
 | i+1=>Hy (n / 10 ^ i % 10)::Da n i
theorem uO (n:Nat):∀ i,(Da n i).length=i
 | 0=>rfl
 | i+1=>by rw [Da,List.length_cons,uO n i]
theorem M8 (n:Nat):∀ i,ua (Da n i)
 | 0=>fun c hc=>by cases hc
 | i+1=>fun c hc=>by
  rw [Da] at hc;rcases List.mem_cons.1 hc with rfl|hc
  ·rw [kG (by omega)];omega
  ·exact M8 n i c hc
theorem M6 (n:Nat):∀ i,aQ (Da n i) 0=n % 10 ^ i
 | 0=>by simp [Da,aQ,Nat.mod_one]
 | i+1=>by
  have ih:=M6 n i
  have e:aQ (Da n (i+1)) 0=(n / 10 ^ i % 10)*10 ^ i+n % 10 ^ i:=by
   rw [Da];show aQ (Da n i) (10*0+((Hy (n / 10 ^ i % 10)).toNat - 48))=_;rw [eP,ih,uO,kG (by omega),Nat.mul_zero,Nat.zero_add,Nat.add_sub_cancel_left]
  rw [e,Nat.pow_succ,Nat.mod_mul,Nat.mul_comm,Nat.add_comm]
theorem qJ (s t:List UInt8):aM Tryz.prog .add 9 (.c (.d (.str s))) (.c (.d (.str t)))=some (.c (.d (.str (s++t))),[],[],s.length+t.length≤9223372036854775807):=by
 simp [aM,KC,pM]
theorem NK:eI Tryz.prog 138=some (5,1):=by simp
theorem PX (lv:Key→LB)(κ:Key)(h:lv κ=.hole)(a:CV):au Tryz.prog 138 1 [0] lv κ [.c a]=some (.c (.aV κ 0 1 1),[(κ,.cells true false 5 [a])],[],True):=by
 unfold au;rw [h];kernel_rfl
theorem He (G:List (List DV))(n:Nat)(hn:n<1000000000):aa Tryz.prog G 273 [.c (.d (.int .i64 (n:Int)))] (.c (.d (.str (Da n 9)))):=by
 have hbs:∀ (lv:Key→LB) (h:lv 0=.hole) (a:CV),au Tryz.prog 138 1 [0] lv 0 [.c a]=some (.c (.aV 0 0 1 1),[(0,.cells true false 5 [a])],[],True):=fun lv h a=>PX lv 0 h a
 refine aa.Nc Tryz.func273 rfl fun _=>aab ?_;refine aab ?_;refine aaa fun K hK=>aab ?_;refine aaf ?_;refine aao (fun (i:Nat)=>⟨bh [(0,.c (.d (.int .i64 ((n / 10 ^ i:Nat):Int)))),(3,.c (.d (.str (Da n i)))),(4,.c (.d (.int .i64 (i:Int))))],fun _=>.hole⟩) 0 (fun i=>i≤9) (fun i=>9 - i) 0 (Le.mk' _ rfl az (by simp [Da])) (by omega) ?_;intro i hi
 try simp only at hi
 have hle:n / 10 ^ i≤n:=Nat.div_le_self _ _;have hnx:n / 10 ^ (i+1)=n / 10 ^ i / 10:=by rw [Nat.pow_succ,Nat.div_div_eq_div_mul]
 have hds:Da n (i+1)=Hy (n / 10 ^ i % 10)::Da n i:=rfl;have hdl:=uO n i;obtain⟨q,hq⟩:∃ q,n / 10 ^ i=q:=⟨_,rfl⟩
 obtain⟨T,hT⟩:∃ T,Da n i=T:=⟨_,rfl⟩
 rw [hq] at hle hnx hds;rw [hT] at hds hdl;simp only [hq,hT];refine aaa fun K3 hK3=>aab ?_
 by_cases hlt:i<9
 ·have hlt':(i:Int)<9:=by omega
  have e1:(q:Int).tmod 10=((q % 10:Nat):Int):=sZ q 10;have e2:IntKind.i64.wrap (48+((q % 10:Nat):Int))=((48+q % 10:Nat):Int):=by rw [bM (by omega) (by omega)];omega
  have e3:IntKind.u8.wrap ((48+q % 10:Nat):Int)=((48+q % 10:Nat):Int):=cE ⟨by simp only [yQ];omega,by simp only [oL];omega⟩;have e4:(q:Int).tdiv 10=((q / 10:Nat):Int):=mF q 10;have w4:=bM (n:=((q / 10:Nat):Int)) (by omega) (by omega);have w5:=bM (n:=(i:Int)+1) (by omega) (by omega);refine aah (by simp [hlt,hlt'] <;> omega) (aac (hK3 _ _ (aaa fun K5 hK5=>aaf (aaa fun K6 hK6=>?_))));refine AW.ux ?_;refine mR.run 5 rfl ?_;simp [e1,e2,e3,hbs,-au,-Int.natCast_add,-Int.natCast_emod];refine mR.Kj (κ:=0) (off:=0) (own:=true) (fz:=false) (T':=5) (e:=5) (cs:=[.d (.int .u8 ((48+q % 10:Nat):Int))]) (n:=((48+q % 10:Nat):Int)) 1 rfl rfl rfl (by simp) (by simp) (by simp) NK Tryz.underlying5 (by simp) ?_;refine mR.run 3 rfl ?_;simp [qJ]
  repeat (refine And.intro (by omega) ?_)
  refine mR.done ?_;apply hK6;clear hK6 K6;refine aad ?_;simp [e4,w4,-Int.natCast_ediv];apply hK5;refine aad ?_;simp [w5];refine⟨i+1,Le.keys [] 19 _ rfl rfl (by simp) (by simp) (by simp) (by simp) ?_,by omega,by omega⟩
  have f0:(q:Int) / 10=(n:Int) / 10 ^ (i+1):=by
   have:=congrArg (fun x:Nat=>(x:Int)) hnx;simpa using this.symm
  have f1:(48+(q:Int) % 10).toNat=48+q % 10:=by omega
  simp [cK,hds,Hy];exact⟨f0,by rw [f1];simp⟩
 ·obtain rfl:i=9:=by omega
  refine aag (by simp [hlt] <;> omega) (aam (hK _ _ (aab ?_)));exact aae (aq.rt (t:=2) rfl 9 (by simp [hT]))
def sS:Nat→Nat→List UInt8
 | 0,n=>[Hy n]
 | f+1,n=>if n<10 then [Hy n] else sS f (n / 10)++[Hy (n % 10)]
def iL (n:Nat):List UInt8:=sS n n
theorem At:∀ (f n:Nat),n≤f→sS f n=iL n
 | 0,n,h=>by have:n=0:=by omega
             subst this;rfl
 | f+1,n,h=>by
  unfold iL
  by_cases h10:n<10
  ·cases n with
   | zero=>rfl
   | succ n=>rw [sS,if_pos h10,sS,if_pos h10]
  ·obtain⟨m,rfl⟩:∃ m,n=m+1:=⟨n - 1,by omega⟩
   rw [sS,if_neg h10,sS,if_neg h10,At f ((m+1) / 10) (by omega),At m ((m+1) / 10) (by omega)]
theorem F6(h:n<10):iL n=[Hy n]:=by
 unfold iL
 cases n with
 | zero=>rfl
 | succ n=>rw [sS,if_pos h]
theorem Fg(h:¬ n<10):iL n=iL (n / 10)++[Hy (n % 10)]:=by
 obtain⟨m,rfl⟩:∃ m,n=m+1:=⟨n - 1,by omega⟩
 conv=>lhs;unfold iL
 rw [sS,if_neg h,At m ((m+1) / 10) (by omega)]
theorem zg (l:List UInt8)(c:UInt8):aQ (l++[c]) 0=10*aQ l 0+(c.toNat - 48):=by rw [jJ];rfl
theorem MJ(h:ua l) (hne:l≠[]) (h0:l.getD 0 0≠48):1≤aQ l 0:=by
 cases l with
 | nil=>exact absurd rfl hne
 | cons c l=>
  have hc:=h c (by simp);have hc48:c≠48:=h0;have hcn:c.toNat≠48:=fun e=>hc48 (UInt8.toNat_inj.1 (by rw [e];rfl))
  show 1≤aQ l (10*0+(c.toNat - 48));rw [eP];have:1*1≤(10*0+(c.toNat - 48))*10 ^ l.length:=Nat.mul_le_mul (by omega) (Nat.pow_pos (by decide));omega
theorem KL:∀ (k:Nat) (s:List UInt8),s.length=k→isRow s→s=iL (aQ s 0)
 | 0,s,hk,h=>absurd (List.eq_nil_of_length_eq_zero hk) h.2.1
 | k+1,s,hk,⟨h1,h2,h3⟩=>by
  rcases List.eq_nil_or_concat s with rfl|⟨l,c,rfl⟩
  ·exact absurd rfl h2
  ·rw [List.concat_eq_append] at *
   have hc:=h1 c (by simp);have hl:ua l:=fun x hx=>h1 x (by simp [hx])
   rw [zg]
   by_cases hle:l=[]
   ·subst hle;show [c]=iL (10*aQ [] 0+(c.toNat - 48));rw [show 10*aQ [] 0+(c.toNat - 48)=c.toNat - 48 by simp [aQ],F6 (by omega),Iq hc]
   ·have h0:l.getD 0 0≠48:=by
     rcases h3 with h3|h3
     ·exfalso;have:=congrArg List.length h3;simp at this;exact hle this
     ·cases l with
      | nil=>exact absurd rfl hle
      | cons a l=>exact h3
    have hp:=MJ hl hle h0;have ih:=KL k l (by simpa using hk) ⟨hl,hle,.inr h0⟩;rw [Fg (by omega),show (10*aQ l 0+(c.toNat - 48)) / 10=aQ l 0 by omega,show (10*aQ l 0+(c.toNat - 48)) % 10=c.toNat - 48 by omega,← ih,Iq hc]
theorem uM(h:isRow s):s=iL (aQ s 0):=KL _ s rfl h
theorem yY (G:List (List DV))(A:Nat)(o:Option (List Nat))(ho:dO o=aH 1000000000 A)(hl:(aH 1000000000 A).length≤100000):aa Tryz.prog G 217 [.c (rC o)] (.c (.d (.str (iL A)))):=by
 have hok:=(bq (B:=1000000000) (by decide) A).1;have hval:=bn (B:=1000000000) (by decide) A;obtain⟨D,hD⟩:∃ D,aH 1000000000 A=D:=⟨_,rfl⟩
 rw [hD] at hok hval hl ho;have nineG:=fun n h=>He G n h
 rw [← fC];have hw0:=bM (n:=(D.length:Int) - 1) (by omega) (by omega);refine aa.en Tryz.func217 rfl fun _=>aab ?_;refine aab ?_;refine aaa fun K hK=>aaq ho hw0 ?_;refine aaf ?_
 refine aao (fun (p:Nat × List UInt8)=>⟨bh [(0,nK .i64 o),(3,.c (.d (.str p.2))),(4,.c (.d (.int .i64 ((p.1:Int) - 1))))],fun _=>.hole⟩) 0
  (fun p=>p.1≤D.length∧ua p.2∧aQ p.2 0=val 1000000000 (D.drop p.1)∧p.2.length=9*(D.length - p.1)) (fun p=>p.1) (D.length,[]) (Le.mk' _ rfl az (by simp [hw0])) ⟨Nat.le_refl _,fun c hc=>(by cases hc),by simp [aQ],by simp⟩ ?_
 rintro⟨k,S⟩ ⟨h1,h2,h3,h4⟩;simp only at h1 h2 h3 h4;refine aaa fun K3 hK3=>aab ?_
 cases k with
 | succ k=>
  have hk:k<D.length:=by omega
  have hko:k<(dO o).length:=by rw [ho];exact hk
  have e2:((k+1:Nat):Int) - 1=k:=by omega
  simp only [e2];obtain⟨x,hx⟩:∃ x,(dO o)[k]=x:=⟨_,rfl⟩
  have hxD:D[k]=x:=by rw [← hx];congr 1;exact ho.symm
  have hxB:x<1000000000:=by rw [← hxD];exact hok _ (List.getElem_mem hk)
  have hv:=cG (B:=1000000000) hk;rw [hxD] at hv;have nn:=nineG x hxB;have hnd:=M8 x 9;have hnv:=M6 x 9;have hnl:=uO x 9;obtain⟨T,hT⟩:∃ T,Da x 9=T:=⟨_,rfl⟩
  rw [hT] at nn hnd hnv hnl;have w9:=bM (n:=(k:Int) - 1) (by omega) (by omega);refine aaj (aac (hK3 _ _ (aaa fun K5 hK5=>aaf (aad ?_))));simp [hko,hx];refine ag.p 0 9 nn ?_;simp [qJ]
  repeat (refine And.intro (by omega) ?_)
  apply hK5;refine aad ?_;simp [w9];refine⟨k,S++T,Le.mk' _ rfl az (by simp),⟨by omega,?_,?_,?_⟩,by omega⟩
  ·intro c hc;rcases List.mem_append.1 hc with hc|hc
   ·exact h2 c hc
   ·exact hnd c hc
  ·rw [jJ,eP,hnv,hnl,h3,hv,Nat.mod_eq_of_lt hxB];omega
  ·rw [List.length_append,h4,hnl];omega
 | zero=>
  rw [List.drop_zero,hval] at h3;refine aak (aam (hK _ _ (aaa fun K hK=>aaf ?_)))
  refine aao (fun (S:List UInt8)=>⟨bh [(3,.c (.d (.str S)))],fun _=>.hole⟩) 0
   (fun S=>ua S∧aQ S 0=A∧S.length≤9*D.length) (fun S=>S.length) S (Le.mk' _ rfl az (by simp)) ⟨h2,h3,by omega⟩ ?_
  rintro S ⟨q1,q2,q3⟩
  have fin:∀ (fr:Nat→AV) (κ:Nat),S≠[]→isRow S→fr 3=.c (.d (.str S))→K ⟨fr,fun _=>.hole⟩ κ:=by
   intro fr κ hne hr z3;have hrd:=uM hr;rw [q2] at hrd;apply hK;refine aaa fun K6 hK6=>aaC z3 @uT hne ?_;refine aak (aac (hK6 _ _ (aan z3 ?_)));exact aae (aq.rt (t:=2) rfl 9 (by simp [hrd.symm]))
  refine aaa fun K4 hK4=>aaa fun K5 hK5=>?_
  cases S with
  | nil=>
   have hA:A=0:=q2.symm;refine aaA (hK5 _ _ ?_);refine aak (aam (hK _ _ (aaa fun K6 hK6=>aan @uT ?_)));refine aaj (aaA (hK6 _ _ ?_));refine aab ?_;have hs:iL A=[48]:=by rw [hA];rfl
   exact aae (aq.rt (t:=2) rfl 9 (by simp [hs]))
  | cons c l=>
   have hc:=q1 c (by simp)
   cases l with
   | nil=>
    refine aaA (hK5 _ _ ?_);refine aak (aam ?_);simp;refine fin _ _ (by simp) ⟨q1,by simp,?_⟩ (by simp)
    by_cases h:c=48
    ·exact .inl (by rw [h])
    ·exact .inr h
   | cons d l=>
    have hl2:(1:Int)<((l.length:Int)+1+1):=by omega
    have hl3:(0:Int)<((l.length:Int)+1+1):=by omega
    have ll:l.length≤900000:=by simp at q3;omega
    by_cases h:c=48
    ·subst h;refine aad ?_;simp [hl2,hl3]
     repeat (refine And.intro (by omega) ?_)
     apply hK5;refine aaj (aac (hK4 _ _ (aaf (aad ?_))));simp
     repeat (refine And.intro (by omega) ?_)
     have ht:List.take (((l.length:Int)+1+1).toNat) ((48:UInt8)::d::l)=48::d::l:=List.take_of_length_le (by simp;omega);exact⟨d::l,Le.mk' _ rfl az (by simp [ht]),⟨fun x hx=>q1 x (List.mem_cons_of_mem _ hx),q2,by simp at q3 ⊢;omega⟩,by simp⟩
    ·have hcn:¬ (c.toNat:Int)=48:=fun e=>h (UInt8.toNat_inj.1 (by show c.toNat=48;omega))
     have hcn2:¬ c.toNat=48:=by omega
     refine aad ?_;simp [hl2,hl3,hcn,hcn2]
     repeat (refine And.intro (by omega) ?_)
     apply hK5;refine aak (aam ?_);simp;exact fin _ _ (by simp) ⟨q1,by simp,.inr h⟩ (by simp)
def xx (x:Rat):List UInt8:=(if x.num<0 then [45] else [])++iL x.num.natAbs++(if x.den=1 then [] else [47]++iL x.den)
theorem GF {L:Nat}(h:n<10 ^ L) (hL:1≤L):(iL n).length≤L:=by
 induction L generalizing n with
 | zero=>omega
 | succ L ih=>
  by_cases h10:n<10
  ·rw [F6 h10];simp
  ·rw [Fg h10,List.length_append,List.length_singleton]
   have hL1:1≤L:=by
    rcases Nat.eq_zero_or_pos L with h0|h0
    ·subst h0;simp at h;omega
    ·exact h0
   have:=ih (n:=n / 10) (by rw [Nat.div_lt_iff_lt_mul (by decide),← Nat.pow_succ];exact h) hL1;omega
theorem Gi (n:Nat):(iL n).length≤10*nl n+1:=by
 have h1:=wP n;have h2:4294967296 ^ nl n≤(10 ^ 10) ^ nl n:=Nat.pow_le_pow_left (by decide) _;rw [← Nat.pow_mul] at h2;have h3:n<10 ^ (10*nl n+1):=Nat.lt_of_lt_of_le (Nat.lt_of_lt_of_le h1 h2) (Nat.pow_le_pow_right (by decide) (by omega));exact GF h3 (by omega)
theorem LD {x:Rat}:ey x<0↔x.num<0:=by
 unfold ey
 by_cases h:x.num=0
 ·rw [if_pos h];omega
 ·rw [if_neg h];split <;> omega
theorem HE (G:List (List DV))(x:Rat)(hx:jh x 20000):aa Tryz.prog G 153 [c9 x] (.c (.d (.str (xx x)))):=by
 have h1:=IM hx.1;have h2:=IM hx.2;have t1:=yY G x.num.natAbs (jg x) (lS x) (by omega);have ii:=wh G x;have l1:=Gi x.num.natAbs;have l2:=Gi x.den;have hx1:=hx.1;have hx2:=hx.2;have hn:=LD (x:=x)
 have t2:¬ x.den=1→aa Tryz.prog G 217 [.c (rC (lF x))] (.c (.d (.str (iL x.den)))):=fun h=>by
  have h0:x.num≠0:=fun e=>h (C8 e)
  refine yY G x.den (lF x) (by rw [Bh h0];rfl) (by omega)
 have hS:xx x=(if x.num<0 then [45] else [])++iL x.num.natAbs++(if x.den=1 then [] else [47]++iL x.den):=rfl;generalize xx x=Z at *
 generalize iL x.num.natAbs=P at *
 generalize iL x.den=Q at *
 refine aa.en Tryz.func153 rfl fun _=>aab ?_;refine aas 1 t1 ?_;refine aaa fun K hK=>?_
 have fin:∀ (S:List UInt8) (fr:Nat→AV) (κ:Nat),S=(if x.num<0 then [45] else [])++P→fr 1=.c (.ptr 0 0)→fr 3=.c (.d (.str S))→K ⟨fr,aG (fun _=>.hole) 0 (.cells true false 215 [.d (.int .i64 (ey x)),rC (jg x),rC (lF x)])⟩ κ:=by
  intro S fr κ hSe z1 z3;have hSl:S.length≤P.length+1:=by rw [hSe];split <;> simp <;> omega
  rw [← hSe] at hS;apply hK;refine aaa fun K1 hK1=>aaa fun K2 hK2=>?_
  by_cases hd:x.den=1
  ·rw [if_pos hd,List.append_nil] at hS;refine AW.m2 1 ii z1 hd (hK2 _ _ ?_);refine aak (aac (hK1 _ _ (aan z3 ?_)));exact aae (aq.rt (t:=2) rfl 9 (by simp [hS]))
  ·have t2':=t2 hd;rw [if_neg hd] at hS;refine AW.m2 1 ii z1 hd (hK2 _ _ ?_);refine aaj (aad ?_);simp [z1,z3,qJ]
   repeat (refine And.intro (by omega) ?_)
   refine ag.pure 1 9 t2' (by simp) (by simp) (by simp) ?_;simp [qJ]
   repeat (refine And.intro (by omega) ?_)
   apply hK1;refine aab ?_;exact aae (aq.rt (t:=2) rfl 9 (by simp [hS]))
 refine aaa fun K1 hK1=>?_
 by_cases hneg:x.num<0
 ·have hr:=hn.2 hneg;refine aat hr (hK1 _ _ ?_);refine aaj (aad ?_);simp [qJ]
  repeat (refine And.intro (by omega) ?_)
  exact fin ([45]++P) _ _ (by rw [if_pos hneg]) (by simp) (by simp)
 ·have hr:¬ ey x<0:=fun h=>hneg (hn.1 h)
  refine aat hr (hK1 _ _ ?_);refine aak (aac ?_);simp;exact fin P _ _ (by rw [if_neg hneg];rfl) (by simp) (by simp)
theorem aq.Rk{t1 t2 t3 t4:Nat}{s:aB}(hr:fn.results=#[.tmp t1,.tmp t2,.tmp t3,.tmp t4]) (kh:Key) (hx:s.fr t1=x) (hy:s.fr t2=y) (hz:s.fr t3=z) (hu:s.fr t4=u) (hp:x.pure=true) (hq:y.pure=true) (hw:z.pure=true) (hv:u.pure=true) (hh:s.lv kh=.hole)
 (n1:x.cq=true) (n2:y.cq=true) (n3:z.cq=true) (n4:u.cq=true) (h12:t1≠t2) (h13:t1≠t3) (h14:t1≠t4) (h23:t2≠t3) (h24:t2≠t4) (h34:t3≠t4):aq c fn (.tup [x,y,z,u]) .ret s κ:=by
 refine⟨[(t1,x),(t2,y),(t3,z),(t4,u)],kh,by simp [hp,hx,hq,hy,hw,hz,hv,hu],hh,?_⟩;rw [hr];simp [dF,kn,mZ,bh,h12.symm,h13.symm,h14.symm,h23.symm,h24.symm,h34.symm,n1,n2,n3,n4]
theorem vq:∀ {s:List UInt8},(∀ c∈s,c≠47)→jG s [47] = -1
 | [],_=>rfl
 | a::s,h=>by
  have ha:=h a (by simp);have ih:=vq (s:=s) fun c hc=>h c (by simp [hc])
  unfold jG at ih ⊢;rw [Lib.index];have hp:([47]:List UInt8).isPrefixOf (a::s)=false:=by simp [List.isPrefixOf,Ne.symm ha]
  rw [hp,ih];rfl
theorem D9:∀ {a b:List UInt8},(∀ c∈a,c≠47)→jG (a++47::b) [47]=a.length
 | [],b,_=>by simp [jG,Lib.index,List.isPrefixOf]
 | x::a,b,h=>by
  have hx:=h x (by simp);have ih:=D9 (a:=a) (b:=b) fun c hc=>h c (by simp [hc])
  unfold jG at ih ⊢;rw [List.cons_append,Lib.index];have hp:([47]:List UInt8).isPrefixOf (x::(a++47::b))=false:=by simp [List.isPrefixOf,Ne.symm hx]
  rw [hp,ih];have h1:((a.length:Int) == -1)=false:=by rw [beq_eq_false_iff_ne];omega
  simp only [Bool.false_eq_true,if_false,h1,List.length_cons];omega
def RU (s:List UInt8):List UInt8:=rX s [47]
def PI (s:List UInt8):List UInt8:=if 0≤jG s [47] then rF s [47] else [49]
def Ca (neg:Bool):Int:=if neg then -1 else 1
abbrev Na (neg:Bool)(s:List UInt8):AV:=.tup [.c (.d (.str (RU s))),.c (.d (.str (PI s))),.c (.d (.int .i64 (Ca neg))),.c (.d (.bool (!iw neg (rX s [47]) (rF s [47]) (decide (0≤jG s [47])))))]
theorem Gz (G:List (List DV))(r:List UInt8):aa Tryz.prog G 242 [.c (.d (.str r))] (Na (qm r [45]) (ku r [45])):=by
 refine aL.ji 0 (by simp) (fun V v h=>(show r.length≤9223372036854775807 by cases h.1 with|str _ hl=>exact hl)) fun hs=>?_;have rowG:=fun s=>Ic G s
 have hsl:(ku r [45]).length≤r.length:=by unfold ku;split <;> simp
 have hdec:(qm r [45]=true∧∃ l,r=45::l∧ku r [45]=l)∨(qm r [45]=false∧ku r [45]=r∧(r=[]∨∃ c l,r=c::l∧c≠45)):=by
  cases r with
  | nil=>exact .inr ⟨rfl,rfl,.inl rfl⟩
  | cons c l=>
   by_cases hc:c=45
   ·subst hc;have:qm (45::l) [45]=true:=by simp [qm]
    exact .inl ⟨this,l,rfl,by unfold ku;rw [if_pos this];rfl⟩
   ·have:qm (c::l) [45]=false:=by simp [qm,hc]
    exact .inr ⟨this,by unfold ku;rw [if_neg (by rw [this];decide)],.inr ⟨c,l,rfl,hc⟩⟩
 generalize ku r [45]=s at *
 generalize qm r [45]=neg at *
 refine aa.en Tryz.func242 rfl fun _=>aab ?_;refine aab ?_;refine aaa fun K hK=>?_
 have main:∀ (fr:Nat→AV) (κ:Nat),fr 6=.c (.d (.str s))→fr 7=.c (.d (.int .i64 (Ca neg)))→K ⟨fr,fun _=>.hole⟩ κ:=by
  intro fr κ z6 z7;apply hK;refine aaa fun K hK=>aab ?_;refine aaf ?_;refine aao (fun (i:Nat)=>⟨bh [(6,.c (.d (.str s))),(7,.c (.d (.int .i64 (Ca neg)))),(8,.c (.d (.int .i64 (i:Int))))],fun _=>.hole⟩) 0 (fun i=>i≤s.length∧∀ c∈s.take i,c≠47) (fun i=>s.length - i) 0 (Le.mk' _ rfl az (by simp [z6,z7])) ⟨Nat.zero_le _,fun c hc=>by simp at hc⟩ ?_;rintro i ⟨hi,hd⟩;refine aaa fun K3 hK3=>aab ?_
  by_cases hlt:i<s.length
  ·have hlt':(i:Int)<(s.length:Int):=by omega
   have wi:=bM (n:=(i:Int)+1) (by omega) (by omega);obtain⟨c,hc⟩:∃ c,s[i]=c:=⟨_,rfl⟩
   refine aah (by simp [hlt] <;> omega) (aac (hK3 _ _ (aaa fun K5 hK5=>aaf (aai fun K6 hK6=>?_))));simp [hlt,hlt',hc]
   repeat (refine And.intro (by omega) ?_)
   apply hK6;clear hK6 K6
   by_cases h47:c=47
   ·have hcn:(c.toNat:Int)=47:=by rw [h47];rfl
    have hcn2:c.toNat=47:=by rw [h47];rfl
    have hsp:s=s.take i++47::s.drop (i+1):=by
     conv=>lhs;rw [← List.take_append_drop i s,List.drop_eq_getElem_cons hlt,hc,h47]
    have hidx:jG s [47]=i:=by
     have:=D9 (b:=s.drop (i+1)) hd;rw [← hsp,List.length_take,Nat.min_eq_left (by omega)] at this;exact this
    have hge:0≤jG s [47]:=by rw [hidx];omega
    have hA:rX s [47]=s.take i:=by unfold rX;rw [if_pos hge,hidx,Int.toNat_natCast]
    have hB:rF s [47]=s.drop (i+1):=by unfold rF;rw [if_pos hge,hidx,Int.toNat_natCast];rfl
    have hT:RU s=s.take i:=hA;have hB2:PI s=s.drop (i+1):=by unfold PI;rw [if_pos hge,hB]
    have hbad:(!iw neg (rX s [47]) (rF s [47]) (decide (0≤jG s [47])))=(eB (s.take i) && eB (s.drop (i+1)) && !decide (s.drop (i+1)=[48]) && !decide (s.drop (i+1)=[49]) && (!decide (s.take i=[48]) || decide (0<Ca neg))):=by
     rw [hA,hB,decide_eq_true hge];unfold iw Ca
     cases eB (s.take i) <;> cases eB (s.drop (i+1)) <;> cases neg <;> cases decide (s.take i=[48]) <;> cases decide (s.drop (i+1)=[48]) <;> cases decide (s.drop (i+1)=[49]) <;> rfl
    have e1:∀ l:List UInt8,(l.take ((i:Int)).toNat).drop (0:Int).toNat=l.take i:=fun l=>rfl
    have hdr:(s.take ((s.length:Int)).toNat).drop ((i+1:Nat):Int).toNat=s.drop (i+1):=by rw [Int.toNat_natCast,Int.toNat_natCast,List.take_length]
    obtain⟨p,hp⟩:∃ p,s.take i=p:=⟨_,rfl⟩
    obtain⟨q,hq⟩:∃ q,s.drop (i+1)=q:=⟨_,rfl⟩
    have rp:=rowG p;have rq:=rowG q;rw [hp] at hT;rw [hq] at hB2;rw [hp,hq] at hbad;have hp':List.drop 0 (List.take i s)=p:=hp;refine aah (by simp [hcn,hcn2] <;> omega) (aaa fun K6 hK6=>?_);refine aap mixed (by kernel_rfl) rfl ?_;simp [wi,hp,hq,hlt]
    repeat (refine And.intro (by omega) ?_)
    refine⟨by kernel_rfl,?_⟩;apply hK6;clear hK6 K6;refine aaa fun K6 hK6=>?_
    have fin:∀ (b:Bool) (fr:Nat→AV) (κ:Nat),fr 2=.c (.d (.str p))→fr 3=.c (.d (.str q))→fr 4=.c (.d (.int .i64 (Ca neg)))→fr 5=.c (.d (.bool b)) →
     b=(eB p && eB q && !decide (q=[48]) && !decide (q=[49]) && (!decide (p=[48]) || decide (0<Ca neg)))→K6 ⟨fr,fun _=>.hole⟩ κ:=by
     intro b fr κ z2 z3 z4 z5 hb;rw [← hbad] at hb;apply hK6;exact aal (κ:=0) (aq.Rk (κ:=0) rfl 9 (by simp [z2,hT]) (by simp [z3,hB2]) (by simp [z4]) (by simp [z5,hb]) rfl rfl rfl rfl rfl rfl rfl rfl rfl (by decide) (by decide) (by decide) (by decide) (by decide) (by decide))
    cases r1:eB p with
    | false=>
     refine aad ?_;simp;refine ag.p 0 9 rp ?_;simp [r1];exact fin false _ _ (by simp) (by simp) (by simp) (by simp) (by simp [r1])
    | true=>
    cases r2:eB q with
    | false=>
     refine aad ?_;simp;refine ag.p 0 9 rp ?_;simp [r1];refine ag.p 0 9 rq ?_;simp [r2];exact fin false _ _ (by simp) (by simp) (by simp) (by simp) (by simp [r1,r2])
    | true=>
    by_cases q0:q=[48]
    ·subst q0;refine aad ?_;simp;refine ag.p 0 9 rp ?_;simp [r1];refine ag.p 0 9 rq ?_;simp [r2,tJ];exact fin false _ _ (by simp) (by simp) (by simp) (by simp) (by simp [r1,r2])
    by_cases q1:q=[49]
    ·subst q1;refine aad ?_;simp;refine ag.p 0 9 rp ?_;simp [r1];refine ag.p 0 9 rq ?_;simp [r2,tJ];exact fin false _ _ (by simp) (by simp) (by simp) (by simp) (by simp [r1,r2])
    by_cases p0:p=[48]
    ·subst p0;refine aad ?_;simp;refine ag.p 0 9 rp ?_;simp [r1];refine ag.p 0 9 rq ?_;simp [r2,tJ,q0,q1];exact fin (decide (0<Ca neg)) _ _ (by simp) (by simp) (by simp) (by simp) (by simp [r1,r2,q0,q1])
    ·refine aad ?_;simp;refine ag.p 0 9 rp ?_;simp [r1];refine ag.p 0 9 rq ?_;simp [r2,tJ,q0,q1,p0];exact fin true _ _ (by simp) (by simp) (by simp) (by simp) (by simp [r1,r2,q0,q1,p0])
   ·have hcn:¬ (c.toNat:Int)=47:=fun e=>h47 (UInt8.toNat_inj.1 (by show c.toNat=47;omega))
    have hcn2:¬ c.toNat=47:=by omega
    refine aag (by simp [hcn,hcn2] <;> omega) (aac (hK5 _ _ (aad ?_)));simp [wi];refine⟨i+1,Le.mk' _ rfl az (by simp),⟨by omega,?_⟩,by omega⟩;intro x hx;rw [List.take_add_one,List.getElem?_eq_getElem hlt,List.mem_append] at hx;rcases hx with hx|hx
    ·exact hd x hx
    ·simp only [Option.toList_some,List.mem_singleton] at hx;rw [hx,hc];exact h47
  ·have he:i=s.length:=by omega
   subst he;rw [List.take_length] at hd;have hidx:=vq hd;have hge:¬ 0≤jG s [47]:=by rw [hidx];decide
   have hA:rX s [47]=s:=if_neg hge;have hT:RU s=s:=hA;have hB2:PI s=[49]:=if_neg hge
   have hbad:(!iw neg (rX s [47]) (rF s [47]) (decide (0≤jG s [47])))=(eB s && (!decide (s=[48]) || decide (0<Ca neg))):=by
    rw [hA,decide_eq_false hge];unfold iw Ca
    cases eB s <;> cases neg <;> cases decide (s=[48]) <;> rfl
   have rs:=rowG s;refine aag (by simp [hlt] <;> omega) (aam (hK _ _ (aaa fun K6 hK6=>?_)))
   have fin:∀ (b:Bool) (fr:Nat→AV) (κ:Nat),fr 2=.c (.d (.str s))→fr 3=.c (.d (.str [49]))→fr 4=.c (.d (.int .i64 (Ca neg)))→fr 5=.c (.d (.bool b)) →
    b=(eB s && (!decide (s=[48]) || decide (0<Ca neg)))→K6 ⟨fr,fun _=>.hole⟩ κ:=by
    intro b fr κ z2 z3 z4 z5 hb;rw [← hbad] at hb;apply hK6;exact aal (κ:=0) (aq.Rk (κ:=0) rfl 9 (by simp [z2,hT]) (by simp [z3,hB2]) (by simp [z4]) (by simp [z5,hb]) rfl rfl rfl rfl rfl rfl rfl rfl rfl (by decide) (by decide) (by decide) (by decide) (by decide) (by decide))
   cases r1:eB s with
   | false=>
    refine aad ?_;simp;refine ag.p 0 9 rs ?_;simp [r1];exact fin false _ _ (by simp) (by simp) (by simp) (by simp) (by simp [r1])
   | true=>
   by_cases p0:s=[48]
   ·subst p0;refine aad ?_;simp;refine ag.p 0 9 rs ?_;simp [r1,tJ];exact fin (decide (0<Ca neg)) _ _ (by simp) (by simp) (by simp) (by simp) (by simp [r1])
   ·refine aad ?_;simp;refine ag.p 0 9 rs ?_;simp [r1,tJ,p0];exact fin true _ _ (by simp) (by simp) (by simp) (by simp) (by simp [r1,p0])
 refine aaa fun K1 hK1=>?_;rcases hdec with ⟨hn,l,hr,hl⟩|⟨hn,hl,hr|⟨c,l,hr,hc⟩⟩
 ·subst hr;subst hl;have ht:List.take (((s.length:Int)+1).toNat) ((45:UInt8)::s)=45::s:=List.take_of_length_le (by simp);have hp:(0:Int)<(s.length:Int)+1:=by omega
  have hll:s.length+1≤9223372036854775807:=by simpa using hs
  refine aad ?_;simp [hp]
  repeat (refine And.intro (by omega) ?_)
  apply hK1;clear hK1 K1;refine aaj (aad ?_);simp [ht]
  repeat (refine And.intro (by omega) ?_)
  exact main _ _ (by simp [ht]) (by simp [Ca,hn])
 ·subst hr;subst hl;refine aaA (hK1 _ _ ?_);refine aak (aac ?_);simp;exact main _ _ (by simp) (by simp [Ca,hn])
 ·subst hr;subst hl;have hcn:¬ (c.toNat:Int)=45:=fun e=>hc (UInt8.toNat_inj.1 (by show c.toNat=45;omega))
  have hcn2:¬ c.toNat=45:=by omega
  have hp:(0:Int)<(l.length:Int)+1:=by omega
  refine aad ?_;simp [hp,hcn,hcn2]
  repeat (refine And.intro (by omega) ?_)
  apply hK1;clear hK1 K1;refine aak (aac ?_);simp;exact main _ _ (by simp) (by simp [Ca,hn])
attribute [local irreducible] bO
theorem yP:∀ (s:List UInt8),(∀ c∈s,c≠47)∨∃ a b,s=a++47::b∧∀ c∈a,c≠47
 | []=>.inl fun c hc=>by cases hc
 | x::s=>by
  by_cases hx:x=47
  ·subst hx;exact .inr ⟨[],s,rfl,fun c hc=>by cases hc⟩
  ·rcases yP s with h|⟨a,b,h,ha⟩
   ·exact .inl fun c hc=>by rcases List.mem_cons.1 hc with rfl|hc;exact hx;exact h c hc
   ·exact .inr ⟨x::a,b,by rw [h];rfl,fun c hc=>by rcases List.mem_cons.1 hc with rfl|hc;exact hx;exact ha c hc⟩
theorem v8:∀ {a a' b b':List UInt8},(∀ c∈a,c≠47)→(∀ c∈a',c≠47)→a++47::b=a'++47::b'→b=b'
 | [],[],b,b',_,_,h=>(List.cons.inj h).2
 | [],x::a',b,b',_,h',h=>absurd (List.cons.inj h).1.symm (h' x (by simp))
 | x::a,[],b,b',h',_,h=>absurd (List.cons.inj h).1 (h' x (by simp))
 | x::a,y::a',b,b',h1,h2,h=>v8 (fun c hc=>h1 c (by simp [hc])) (fun c hc=>h2 c (by simp [hc])) (List.cons.inj h).2
theorem EW(h:ua s):∀ c∈s,c≠47:=fun c hc e=>by
 have:=h c hc;rw [e] at this;have h2:(47:UInt8).toNat=47:=rfl;omega
theorem Ey:∀ (f n:Nat),n≤f→ua (sS f n)∧aQ (sS f n) 0=n
 | 0,n,h=>by
  have:n=0:=by omega
  subst this;refine⟨fun c hc=>?_,rfl⟩;rw [sS,List.mem_singleton] at hc;rw [hc,kG (by decide)];omega
 | f+1,n,h=>by
  rw [sS]
  by_cases h10:n<10
  ·rw [if_pos h10];refine⟨fun c hc=>?_,?_⟩
   ·rw [List.mem_singleton] at hc;rw [hc,kG h10];omega
   ·show 10*0+((Hy n).toNat - 48)=n;rw [kG h10];omega
  ·rw [if_neg h10];obtain⟨h1,h2⟩:=Ey f (n / 10) (by omega);refine⟨fun c hc=>?_,?_⟩
   ·rcases List.mem_append.1 hc with hc|hc
    ·exact h1 c hc
    ·rw [List.mem_singleton] at hc;rw [hc,kG (by omega)];omega
   ·rw [zg,h2,kG (by omega)];omega
theorem Jt (n:Nat):ua (iL n):=(Ey n n (Nat.le_refl _)).1
theorem NV (n:Nat):aQ (iL n) 0=n:=(Ey n n (Nat.le_refl _)).2
theorem IV (r:List UInt8):r=(if qm r [45] then [45] else [])++ku r [45]:=by
 unfold ku
 cases h:qm r [45] with
 | false=>rfl
 | true=>
  unfold qm at h;simp only [List.length_singleton,Bool.and_eq_true,decide_eq_true_eq] at h;show r=[45]++r.drop 1;rw [← h.2];have:=List.take_append_drop 1 r;rw [h.2] at this ⊢;exact this.symm
theorem Az (neg:Bool){P Q:Nat}(hP:P≠0) (hQ:Q≠0):xx (mkRat (dB neg P) Q)=(if neg then [45] else [])++iL (P / Nat.gcd P Q)++(if Q / Nat.gcd P Q=1 then [] else [47]++iL (Q / Nat.gcd P Q)):=by
 obtain⟨n1,n2⟩:=iu neg (a:=P) hQ;have hg:P / Nat.gcd P Q≠0:=Nat.ne_of_gt (Nat.div_pos (Nat.le_of_dvd (by omega) (Nat.gcd_dvd_left _ _)) (Nat.gcd_pos_of_pos_left _ (by omega)));unfold xx;rw [n1,n2,qi]
 cases neg with
 | true=>
  rw [if_pos (show dB true (P / Nat.gcd P Q)<0 from Int.neg_neg_of_pos (Int.ofNat_lt.2 (Nat.pos_of_ne_zero hg)))];rfl
 | false=>
  rw [if_neg (show ¬ dB false (P / Nat.gcd P Q)<0 from Int.not_lt.2 (Int.natCast_nonneg _))];rfl
theorem yU:xx 0=[48]:=rfl
theorem Fi (neg:Bool)(Q:Nat):mkRat (dB neg 0) Q=0:=by
 have e2:dB neg 0=0:=by cases neg <;> rfl
 rw [e2];exact Rat.zero_mkRat Q
theorem EZ(hT:isRow T) (h0:¬ (neg=true∧T=[48])):xx (mkRat (dB neg (aQ T 0)) 1)=(if neg then [45] else [])++T:=by
 have hd:=uM hT
 by_cases hP:aQ T 0=0
 ·rw [hP,Fi,yU];have:T=[48]:=by rw [hd,hP];rfl
  have hn:neg=false:=by cases neg with
   | false=>rfl
   | true=>exact absurd ⟨rfl,this⟩ h0
  rw [hn,this];rfl
 ·rw [Az neg hP (by decide),Nat.gcd_one_right,Nat.div_one,Nat.div_one,← hd,if_pos rfl,List.append_nil]
theorem Gy{B:List UInt8}(hT:isRow T) (hB:isRow B) (hQ:2≤aQ B 0):xx (mkRat (dB neg (aQ T 0)) (aQ B 0))=(if neg then [45] else [])++(T++47::B)↔Nat.gcd (aQ T 0) (aQ B 0)=1:=by
 have hdT:=uM hT;have hdB:=uM hB
 have h45:∀ c∈(if neg then [45] else []:List UInt8),c≠47:=by
  intro c hc;split at hc
  ·rw [List.mem_singleton] at hc;rw [hc];decide
  ·cases hc
 have hmem:(47:UInt8)∈(if neg then [45] else []:List UInt8)++(T++47::B):=by simp
 constructor
 ·intro h;apply Classical.byContradiction;intro hg
  by_cases hP:aQ T 0=0
  ·rw [hP,Fi,yU] at h;rw [← h] at hmem;simp at hmem
  ·rw [Az neg hP (by omega)] at h;generalize hgg:Nat.gcd (aQ T 0) (aQ B 0)=g at *
   have hg0:0<g:=by rw [← hgg];exact Nat.gcd_pos_of_pos_left _ (by omega)
   by_cases h1:aQ B 0 / g=1
   ·rw [if_pos h1,List.append_nil] at h;rw [← h] at hmem;rcases List.mem_append.1 hmem with hm|hm
    ·exact h45 47 hm rfl
    ·exact EW (Jt _) 47 hm rfl
   ·rw [if_neg h1,← List.append_assoc] at h
    have h2:((if neg then [45] else [])++iL (aQ T 0 / g))++47::iL (aQ B 0 / g)=((if neg then [45] else [])++T)++47::B:=by
     rw [List.append_assoc,List.append_assoc] at h ⊢;simpa using h
    have h3:=v8 (fun c hc=>by
     rcases List.mem_append.1 hc with hc|hc
     ·exact h45 c hc
     ·exact EW (Jt _) c hc) (fun c hc=>by
     rcases List.mem_append.1 hc with hc|hc
     ·exact h45 c hc
     ·exact EW hT.1 c hc) h2
    have h4:=congrArg (fun l=>aQ l 0) h3;simp only [NV] at h4;have:aQ B 0 / g<aQ B 0:=Nat.div_lt_self (by omega) (by omega);omega
 ·intro hg;have hP:aQ T 0≠0:=by intro e;rw [e,Nat.gcd_zero_left] at hg;omega
  rw [Az neg hP (by omega),hg,Nat.div_one,Nat.div_one,← hdT,← hdB,if_neg (show ¬ aQ B 0=1 by omega),List.append_assoc];rfl
theorem Ly:isRow [49]:=⟨by intro c hc;rw [List.mem_singleton] at hc;rw [hc];decide,by decide,.inr (by decide)⟩
theorem Av (s t:List UInt8):aM Tryz.prog .neq 53 (.c (.d (.str s))) (.c (.d (.str t)))=some (.c (.d (.bool (!decide (s=t)))),[],[],True):=by
 rw [← L9];kernel_rfl
theorem bO.Jq{z:Rat}{t u k:Nat}{s:aB}(hr:fn.results=#[.cell t 215,.tmp u]) (ht:s.fr t=.c (.ptr k 0)) (hk:s.lv k=.cells true false 215 [.d (.int .i64 (ey z)),rC (jg z),rC (lF z)]) (hu:s.fr u=.c (.d (.int .i64 e))) (hP:c.P=Tryz.prog):bO c fn (.tup [c9 z,.c (.d (.int .i64 e))]) .ret s κ:=
 bO.lz hr ht hk (by rw [List.drop_zero,hP,iD]) hu rfl rfl
theorem I2{top bot:List UInt8}{brk:Bool}(h:iw neg top bot brk=false):isRow top∧¬ (neg=true∧top=[48])∧(brk=true→isRow bot∧bot≠[48]∧bot≠[49]):=by
 obtain⟨h1,h2⟩:=EC h;refine⟨mV.1 h1,?_,fun hb=>?_⟩
 ·rintro⟨rfl,rfl⟩;unfold iw at h;simp at h
 ·obtain⟨a,b,c⟩:=h2 hb;exact⟨mV.1 a,b,c⟩
theorem KS {r:List UInt8}(h:er r≠0):eX r=0:=if_neg h
@[simp] theorem Sy(h:x.cq=true):so 0 (.tup [x,y,z,u])=some (x,[],[],True):=by
 cases x <;> first|rfl|cases h
@[simp] theorem St(h:y.cq=true):so 1 (.tup [x,y,z,u])=some (y,[],[],True):=by
 cases y <;> first|rfl|cases h
@[simp] theorem Se(h:z.cq=true):so 2 (.tup [x,y,z,u])=some (z,[],[],True):=by
 cases z <;> first|rfl|cases h
@[simp] theorem RR(h:u.cq=true):so 3 (.tup [x,y,z,u])=some (u,[],[],True):=by
 cases u <;> first|rfl|cases h
theorem o9 (G:List (List DV))(r:List UInt8):aa Tryz.prog G 167 [.c (.d (.str r))] (.tup [c9 (eX r),.c (.d (.int .i64 (er r)))]):=by
 have rw0:=Gz G r;have hE:er r=dg (qm r [45]) (rX (ku r [45]) [47]) (rF (ku r [45]) [47]) (decide (0≤jG (ku r [45]) [47])):=rfl;have hP:eX r=nI (qm r [45]) (rX (ku r [45]) [47]) (rF (ku r [45]) [47]) (decide (0≤jG (ku r [45]) [47])):=rfl;have hsp:=IV r;obtain⟨s,hs⟩:∃ s,ku r [45]=s:=⟨_,rfl⟩
 obtain⟨neg,hn⟩:∃ n,qm r [45]=n:=⟨_,rfl⟩
 rw [hs,hn] at rw0 hE hP hsp;unfold Na at rw0;have hbad0:=KS (r:=r);have dz:∀ e:Int,fP (fun _=>LB.hole) (.tup [c9 0,.c (.d (.int .i64 e))])=some (.tup [c9 0,.c (.d (.int .i64 e))],[]):=fun e=>jH _ _ _ _ _
 cases hb:iw neg (rX s [47]) (rF s [47]) (decide (0≤jG s [47])) with
 | true=>
  have e6:er r=6:=by rw [hE];unfold dg;rw [if_pos hb]
  rw [hbad0 (by rw [e6];decide),e6];rw [hb] at rw0;refine aa.enc Tryz.func167 rfl (fun lv=>jH lv _ _ _ _) fun _=>aab ?_;refine aas 1 rw0 ?_;refine aaa fun K hK=>aab ?_;refine aaj (aaq @Qo @aj.eq_1 ?_);exact aal (bO.Jq (k:=0) rfl (by simp) (by simp <;> exact⟨rfl,rfl,rfl⟩) (by simp) rfl)
 | false=>
 rw [hb] at rw0;obtain⟨hT,hT0,hB⟩:=I2 hb;obtain⟨T,hTe⟩:∃ T,rX s [47]=T:=⟨_,rfl⟩
 have hrT:RU s=T:=hTe;obtain⟨B,hBe⟩:∃ B,PI s=B:=⟨_,rfl⟩
 rw [hTe] at hT hT0
 have hsame:(2000<max (rX s [47]).length (rF s [47]).length)↔(2000<T.length∨2000<B.length):=by
  rw [hTe]
  by_cases hk:0≤jG s [47]
  ·have:B=rF s [47]:=by rw [← hBe];exact if_pos hk
   rw [this];omega
  ·have h1:B=[49]:=by rw [← hBe];exact if_neg hk
   have h2:rF s [47]=[]:=if_neg hk;rw [h1,h2];simp <;> omega
 have hBrow:isRow B∧1≤aQ B 0:=by
  by_cases hk:0≤jG s [47]
  ·have h1:B=rF s [47]:=by rw [← hBe];exact if_pos hk
   obtain⟨a,b,c⟩:=hB (decide_eq_true hk);rw [h1];exact⟨a,by have:=uV (mV.2 a) b c;omega⟩
  ·have h1:B=[49]:=by rw [← hBe];exact if_neg hk
   rw [h1];exact⟨Ly,by decide⟩
 rw [hrT,hBe] at rw0
 by_cases hlong:2000<T.length∨2000<B.length
 ·have e3:er r=3:=by rw [hE];unfold dg;rw [if_neg (by rw [hb];decide),if_pos (hsame.2 hlong)]
  rw [hbad0 (by rw [e3];decide),e3];refine aa.enc Tryz.func167 rfl (fun lv=>jH lv _ _ _ _) fun _=>aab ?_;refine aas 1 rw0 ?_;refine aaa fun K hK=>aab ?_;refine aak (aac (hK _ _ (aaa fun K hK=>aaa fun K1 hK1=>?_)))
  by_cases l1:2000<T.length
  ·have l1':(2000:Int)<(T.length:Int):=by omega
   refine aau l1 l1' (hK1 _ _ ?_);refine aaj (aaq @Qo @aj.eq_1 ?_);exact aal (bO.Jq (k:=0) rfl (by simp) (by simp <;> exact⟨rfl,rfl,rfl⟩) (by simp) rfl)
  ·have l1':¬ (2000:Int)<(T.length:Int):=by omega
   have l2:2000<B.length:=by omega
   have l2':(2000:Int)<(B.length:Int):=by omega
   refine aaB l1 l1' l2 l2' (hK1 _ _ ?_);refine aaj (aaq @Qo @aj.eq_1 ?_);exact aal (bO.Jq (k:=0) rfl (by simp) (by simp <;> exact⟨rfl,rfl,rfl⟩) (by simp) rfl)
 have l1:¬ 2000<T.length:=fun h=>hlong (.inl h)
 have l2:¬ 2000<B.length:=fun h=>hlong (.inr h)
 have l1':¬ (2000:Int)<(T.length:Int):=by omega
 have l2':¬ (2000:Int)<(B.length:Int):=by omega
 have rd1:=yh G T hT.1 hT.2.1 (by omega);have rd2:=yh G B hBrow.1.1 hBrow.1.2.1 (by omega);rw [fC] at rd1 rd2;have n1:=qE hT.1 (by omega:T.length≤2000);have n2:=qE hBrow.1.1 (by omega:B.length≤2000);have mk:=qC G (Ca neg) neg (aQ T 0) (aQ B 0) 300 (some (aH 1000000000 (aQ T 0))) rfl (fun _=>rfl) hBrow.2 n1 n2 (by decide);have hsz:jh (mkRat (dB neg (aQ T 0)) (aQ B 0)) 300:=nJ _ (by omega) n1 n2;have tx:=HE G _ (bW hsz (by decide:300≤20000))
 have hres:(xx (mkRat (dB neg (aQ T 0)) (aQ B 0))=r∧er r=0∧eX r=mkRat (dB neg (aQ T 0)) (aQ B 0))∨(xx (mkRat (dB neg (aQ T 0)) (aQ B 0))≠r∧er r=6∧eX r=0):=by
  rcases yP s with h47|⟨a,b,hab,ha⟩
  ·have hk:¬ 0≤jG s [47]:=by rw [vq h47];decide
   have hTs:T=s:=by rw [← hTe];exact if_neg hk
   have hB1:B=[49]:=by rw [← hBe];exact if_neg hk
   have hd1:aQ B 0=1:=by rw [hB1];rfl
   left;have e0:er r=0:=by rw [hE];unfold dg;rw [if_neg (by rw [hb];decide),if_neg (fun h=>hlong (hsame.1 h)),if_pos (decide_eq_false hk)]
   refine⟨?_,e0,?_⟩
   ·rw [hd1,EZ hT hT0,hTs];exact hsp.symm
   ·rw [hP];unfold nI;rw [← hE,if_pos e0,hTe,decide_eq_false hk,hd1];rfl
  ·have hidx:=D9 (b:=b) ha;rw [← hab] at hidx;have hk:0≤jG s [47]:=by rw [hidx];omega
   have hA:rX s [47]=a:=by unfold rX;rw [if_pos hk,hidx,Int.toNat_natCast,hab,List.take_left]
   have hBb:rF s [47]=b:=by
    unfold rF;rw [if_pos hk,hidx,Int.toNat_natCast,hab];rw [show a++47::b=(a++[47])++b by simp];exact List.drop_left' (by simp)
   have hTa:T=a:=by rw [← hTe];exact hA
   have hBb2:B=b:=by rw [← hBe];unfold PI;rw [if_pos hk,hBb]
   obtain⟨c1,c2,c3⟩:=hB (decide_eq_true hk);have hge:=uV (mV.2 c1) c2 c3;rw [hBb,← hBb2] at hge c1;have htf:=Gy (neg:=neg) hT c1 hge;have hsr:r=(if neg then [45] else [])++(T++47::B):=by rw [hTa,hBb2,← hab];exact hsp
   rw [← hsr] at htf
   have hpe:er r=if Nat.gcd (aQ T 0) (aQ B 0)=1 then 0 else 6:=by
    rw [hE];unfold dg;rw [if_neg (by rw [hb];decide),if_neg (fun h=>hlong (hsame.1 h)),if_neg (by rw [decide_eq_true hk];decide),Qf,hTe,hBb,← hBb2]
   by_cases hg:Nat.gcd (aQ T 0) (aQ B 0)=1
   ·left;rw [if_pos hg] at hpe;refine⟨htf.2 hg,hpe,?_⟩;rw [hP];unfold nI;rw [← hE,if_pos hpe,hTe,hBb,← hBb2,decide_eq_true hk];rfl
   ·right;rw [if_neg hg] at hpe;exact⟨fun h=>hg (htf.1 h),hpe,hbad0 (by rw [hpe];decide)⟩
 generalize mkRat (dB neg (aQ T 0)) (aQ B 0)=z at *
 rcases hres with ⟨q1,q2,q3⟩|⟨q1,q2,q3⟩
 ·rw [q2,q3];refine aa.enc Tryz.func167 rfl (fun lv=>jH lv _ _ _ _) fun _=>aab ?_;refine aas 1 rw0 ?_;refine aaa fun K hK=>aab ?_;refine aak (aac (hK _ _ (aaa fun K hK=>aaE l1 l1' l2 l2' ?_)));refine aak (aac (hK _ _ (aai fun K hK=>?_)));simp;refine ag.p 1 9 rd1 ?_;simp;refine ag.p 1 9 rd2 ?_;simp;refine ag.p 1 9 mk ?_;simp [aj];apply hK;refine aaa fun K hK=>AW.c2 2 tx @Av q1 ?_;refine aak (aac (hK _ _ (aan @aj.eq_1 ?_)));exact aal (bO.Jq (k:=0) rfl (by simp) (by simp) (by simp) rfl)
 ·rw [q2,q3];refine aa.enc Tryz.func167 rfl (fun lv=>jH lv _ _ _ _) fun _=>aab ?_;refine aas 1 rw0 ?_;refine aaa fun K hK=>aab ?_;refine aak (aac (hK _ _ (aaa fun K hK=>aaE l1 l1' l2 l2' ?_)));refine aak (aac (hK _ _ (aai fun K hK=>?_)));simp;refine ag.p 1 9 rd1 ?_;simp;refine ag.p 1 9 rd2 ?_;simp;refine ag.p 1 9 mk ?_;simp [aj];apply hK;refine aaa fun K hK=>AW.c2 2 tx @Av q1 ?_;refine aaj (aaq @Qo @aj.eq_1 ?_);exact aal (bO.Jq (k:=0) rfl (by simp) (by simp <;> exact⟨rfl,rfl,rfl⟩) (by simp) rfl)
theorem Bp (G:List (List DV))(r:List UInt8):aa Tryz.prog G 171 [.c (.d (.str r))] (.c (.d (.int .i64 (er r)))):=by
 have h:=o9 G r;generalize eX r=z at *
 generalize er r=e at *
 refine aa.en Tryz.func171 rfl fun _=>aab ?_;refine aav 1 h @aj.eq_1 ?_;refine aab ?_;exact aae (aq.rt (t:=2) rfl 9 (by simp))
end Go.Am
namespace Go.Am
open Go.Am.Ty Go.Proofs N
variable {op:Int}{i k:Nat}{p:PD}
theorem mG (G:List (List DV))(n m:Int):aa Tryz.prog G 94 [.c (.d (.int .i64 n)),.c (.d (.int .i64 m))] (.c (.d (.bool (decide (0≤n∧n<m))))):=by
 refine aa.en Tryz.func94 rfl fun _=>aab ?_;refine aaa fun K hK=>?_
 by_cases h:0≤n
 ·refine aat h (hK _ _ ?_);exact aae (aq.rt rfl 4 (by simp [h]))
 ·refine aat h (hK _ _ ?_);exact aae (aq.rt rfl 4 (by simp [h]))
theorem sw (G:List (List DV))(p:PD)(i:Int):aa Tryz.prog G 95 [p.A,.c (.d (.int .i64 i))] (.c (.d (.int .i64 (kj p i)))):=by
 refine aa.en Tryz.func95 rfl fun _=>aab ?_;refine aaa fun K hK=>aab ?_
 by_cases h:i<p.head
 ·refine aah (by simp [h] <;> omega) (aab ?_);exact aae (aq.rt rfl 4 (by simp [kj,h]))
 ·refine aag (by simp [h] <;> omega) (aac (hK _ _ (aaa fun K hK=>aab ?_)))
  by_cases h2:i<p.tail
  ·refine aah (by simp [h2] <;> omega) (aab ?_);exact aae (aq.rt rfl 4 (by simp [kj,h,h2]))
  ·refine aag (by simp [h2] <;> omega) (aac (hK _ _ (aab ?_)));exact aae (aq.rt rfl 4 (by simp [kj,h,h2]))
theorem Gv (G:List (List DV))(p:PD)(i k:Int):aa Tryz.prog G 172 [p.A,.c (.d (.int .i64 i)),.c (.d (.int .i64 k))] (.c (.d (.bool (dw p i k)))):=by
 have c1:=sw G p k;have c2:=sw G p i
 by_cases h1:0≤k
 rotate_left
 ·refine aa.en Tryz.func172 rfl fun _=>aab ?_;refine AW.d1 mixed h1 ?_;exact aae (aq.rt rfl 6 (by simp [dw,h1]))
 by_cases h2:k<i
 rotate_left
 ·refine aa.en Tryz.func172 rfl fun _=>aab ?_;refine AW.d2 mixed h1 h2 ?_;exact aae (aq.rt rfl 6 (by simp [dw,h1,h2]))
 by_cases h3:kj p k=0
 ·rw [h3] at c1;refine aa.en Tryz.func172 rfl fun _=>aab ?_;refine aaa fun K hK=>?_;refine aap mixed (by kernel_rfl) rfl ?_;simp [h1,h2];refine ag.p 3 9 c1 ?_;simp;refine⟨by kernel_rfl,?_⟩;apply hK;clear hK K;exact aae (aq.rt rfl 6 (by simp [dw,h1,h2,h3]))
 ·refine aa.en Tryz.func172 rfl fun _=>aab ?_;refine aaa fun K hK=>?_;refine aap mixed (by kernel_rfl) rfl ?_;simp [h1,h2];refine ag.p 3 9 c1 ?_;simp [h3];refine ag.p 3 9 c1 ?_;simp [h3];refine ag.p 3 9 c2 ?_;simp [h3];refine⟨by kernel_rfl,?_⟩;apply hK;clear hK K;exact aae (aq.rt rfl 6 (by simp [dw,h1,h2,h3]))
def eC (op:Int):Int:=if 1≤op∧op≤15 then j9 op else -1
theorem Lo(h1:1≤op) (h2:op≤15):eC op=if op≤3 then 0 else if op≤7 then 1 else if op≤13 then 2 else if op=14 then 3 else 4:=by
 unfold eC j9;rw [if_pos ⟨h1,h2⟩];(repeat' split) <;> rfl
theorem pO (G:List (List DV))(op:Int):aa Tryz.prog G 99 [.c (.d (.int .i64 op))] (.c (.d (.int .i64 (eC op)))):=by
 by_cases h1:op<1
 ·have hr:eC op = -1:=if_neg (by omega);refine aa.en Tryz.func99 rfl fun _=>aab ?_;refine aaa fun K hK=>aaf (aan h1 ?_)
  refine aaj (aab ?_);exact aae (aq.rt rfl 2 (by simp [hr]))
 by_cases h2:15<op
 ·have hr:eC op = -1:=if_neg (by omega);refine aa.en Tryz.func99 rfl fun _=>aab ?_;refine aaa fun K hK=>aaf (aaq h1 h2 ?_)
  refine aaj (aab ?_);exact aae (aq.rt rfl 2 (by simp [hr]))
 have hv:=Lo (op:=op) (by omega) (by omega);refine aa.en Tryz.func99 rfl fun _=>aab ?_;refine aaa fun K hK=>aaf (aaq h1 h2 ?_)
 refine aak ?_;refine aab ?_
 by_cases h3:op≤3
 ·have hr:eC op=0:=by rw [hv];rw [if_pos h3]
  refine aah (by simp [h3] <;> omega) (aab ?_);exact aae (aq.rt rfl 2 (by simp [hr]))
 refine aag (by simp [h3] <;> omega) (aab ?_)
 by_cases h4:op≤7
 ·have hr:eC op=1:=by rw [hv];rw [if_neg h3];rw [if_pos h4]
  refine aah (by simp [h4] <;> omega) (aab ?_);exact aae (aq.rt rfl 2 (by simp [hr]))
 refine aag (by simp [h4] <;> omega) (aab ?_)
 by_cases h5:op≤13
 ·have hr:eC op=2:=by rw [hv];rw [if_neg h3];rw [if_neg h4];rw [if_pos h5]
  refine aah (by simp [h5] <;> omega) (aab ?_);exact aae (aq.rt rfl 2 (by simp [hr]))
 refine aag (by simp [h5] <;> omega) (aab ?_)
 by_cases h6:op=14
 ·have hr:eC op=3:=by rw [hv];rw [if_neg h3];rw [if_neg h4];rw [if_neg h5];rw [if_pos h6]
  refine aah (by simp [h6] <;> omega) (aab ?_);exact aae (aq.rt rfl 2 (by simp [hr]))
 refine aag (by simp [h6] <;> omega) (aac (hK _ _ (aab ?_)));have hr:eC op=4:=by rw [hv,if_neg h3,if_neg h4,if_neg h5,if_neg h6]
 exact aae (aq.rt rfl 2 (by simp [hr]))
abbrev TA (n:Nd):AV:=.agg [.d (.int .i64 n.a),.d (.int .i64 n.b),.d (.int .i64 n.c),.d (.int .i64 n.d)]
theorem MD (lv:Key→LB)(n:Nd):fP lv (TA n)=some (TA n,[]):=rfl
theorem OL (a b c d:CV):eK Tryz.prog 85 [a,b,c,d]=some (.agg [a,b,c,d]):=by kernel_rfl
theorem tv (G:List (List DV))(n:Nd):aa Tryz.prog G 98 [n.A] (TA n):=by
 refine aa.enc Tryz.func98 rfl (fun lv=>MD lv n) fun _=>aab ?_;refine aaq @SW @aj.eq_1 ?_;refine aal ?_;refine bO.cell (κ:=0) (T:=85) (t:=2) (k:=1) (off:=0) (own:=true) (fz:=false) (U:=85) (cs:=[.d (.int .i64 n.a),.d (.int .i64 n.b),.d (.int .i64 n.c),.d (.int .i64 n.d)]) rfl ?_ ?_ ?_
 ·simp
 ·simp [aj]
 ·rw [List.drop_zero];exact OL ..
def zN (l:List Int):Option (List Int):=if l=[] then none else some l
theorem ye (l:List Int):zL (zN l)=l:=by unfold zN;split <;> simp_all [zL]
theorem Lr (n:Nd)(i:Nat):((i:Int)<eC n.op)↔i<(aZ n).length:=by
 unfold eC aZ;have:=rz n.op;split
 ·rw [List.length_take,Nd.jX];omega
 ·simp <;> omega
theorem Mp (n:Nd)(h:i<(aZ n).length):∃ h4:i<n.l4.length,(aZ n).take (i+1)=(aZ n).take i++[n.l4[i]]:=by
 have h0:aZ n=n.l4.take (j9 n.op):=by
  unfold aZ at h ⊢;split
  ·rfl
  ·rename_i hh;rw [if_neg hh] at h;cases h
 have h4:i<n.l4.length:=by rw [h0,List.length_take] at h;omega
 refine⟨h4,?_⟩;rw [List.take_add_one,List.getElem?_eq_getElem h];have:(aZ n)[i]=n.l4[i]:=by simp only [h0,List.getElem_take]
 rw [this];rfl
theorem DA (n:Nd)(g:Key→Key):(LB.cells true false 55 [.d (.int .i64 n.op),.d (.int .i64 n.a),.d (.int .i64 n.b),.d (.int .i64 n.c),.d (.int .i64 n.d),.d (.int .i64 n.f),.d (.str n.v)]).like (.cells true false 55 [.d (.int .i64 n.op),.d (.int .i64 n.a),.d (.int .i64 n.b),.d (.int .i64 n.c),.d (.int .i64 n.d),.d (.int .i64 n.f),.d (.str n.v)]) g:=LB.p7.2 ⟨rfl,rfl,rfl,id⟩
theorem B4 (l:List Int)(g:Key→Key):(LB.cells true false 85 (zK l)).like (.cells true false 85 (zK l)) g:=by
 rw [zv];exact Fm ..
abbrev bN (n:Nd):LB:=.cells true false 55 [.d (.int .i64 n.op),.d (.int .i64 n.a),.d (.int .i64 n.b),.d (.int .i64 n.c),.d (.int .i64 n.d),.d (.int .i64 n.f),.d (.str n.v)]
theorem L3 {lv:Key→LB}{k:Key}{l:List Int}(hl:l.length≤1000) (h:lv k=zB l):∃ ks,fP lv (Nu k l)=some (.c (zC (zN l)),ks):=by
 unfold Nu zN
 by_cases hn:l=[]
 ·rw [if_pos hn,if_pos hn];exact⟨[],rfl⟩
 ·rw [if_neg hn,if_neg hn];refine⟨[k],MX (by rw [h];exact if_neg hn) hl⟩
theorem y6 (G:List (List DV))(n:Nd):aa Tryz.prog G 36 [n.A] (.c (zC (zN (aZ n)))):=by
 have hf:=tv G n;have ha:=pO G n.op;have hka:=Lr n;have hkl:=lH n;have hzk:[CV.d (.int .i64 n.a),.d (.int .i64 n.b),.d (.int .i64 n.c),.d (.int .i64 n.d)]=zK n.l4:=rfl;refine aa.ed Tryz.func36 rfl fun _=>aab ?_;refine aai fun K hK=>?_;simp [aj];refine ag.p 1 9 hf ?_;simp;simp [aj];apply hK;clear hK K;refine aab ?_;refine aaa fun K hK=>aab ?_;refine aaf ?_
 refine aao (fun (i:Nat)=>⟨bh [(1,.c (.ptr 0 0)),(3,.c (.ptr 1 0)),(4,Nu 2 ((aZ n).take i)),(5,.c (.d (.int .i64 i)))],aG (aG (aG (fun _=>.hole) 0 (bN n)) 1 (.cells true false 85 (zK n.l4))) 2 (zB ((aZ n).take i))⟩) 10
  (fun i=>i≤(aZ n).length) (fun i=>(aZ n).length - i) 0 (Le.mk' _ (by rw [List.take_zero];exact (IQ (k:=2) rfl).symm) (by repeat (first|exact az|refine bf ?_ _ _ _ _ _|(refine aD ?_ _)|(refine noMap_blS ?_ _ _ _)|(refine noMap_upd_nils ?_ _)|simp)) (by simp [Nu])) (Nat.zero_le _) ?_
 rintro i hi
 try simp only at hi
 refine aaa fun K3 hK3=>aas 3 ha ?_
 by_cases hlt:i<(aZ n).length
 ·have hlt':(i:Int)<eC n.op:=(hka i).2 hlt;obtain⟨h4,hnx⟩:=Mp n hlt;have hld:=zY (P:=Tryz.prog) (T:=3) (by simp) h4;have hbs:∀ (lv:Key→LB) (h:lv 10=.hole) (a:CV),au Tryz.prog 30 1 [0] lv 10 [.c a]=some (.c (.aV 10 0 1 1),[(10,.cells true false 3 [a])],[],True):=fun lv h a=>Um lv 10 h a
  have hle:((aZ n).take i).length≤1000:=by rw [List.length_take];omega
  have hli:((aZ n).take i).length=i:=by rw [List.length_take];omega
  have f12:=bM (n:=(i:Int)+1) (by omega) (by omega);generalize (aZ n).take i=l at *
  generalize n.l4[i]=x at *
  have h44:i<4:=by omega
  refine aah (by simp [hlt'] <;> omega) (aac (hK3 _ _ (aaa fun K5 hK5=>aaf ?_)));refine aax 10 ?_
  by_cases hl:l=[]
  ·subst hl;refine aad ?_;simp [hld,h44,Ho,zB,Nu,hbs,gV,keyOf,-au]
   repeat refine ah ?_
   apply hK5;clear hK5 K5;refine aad ?_;simp [f12];refine⟨i+1,Le.keys [(0,0,bN n),(1,1,.cells true false 85 (zK n.l4)),(2,11,zB ([]++[x]))] 19 _ (by rw [hnx];rfl) rfl (by simp) (by simp) (by simp) ?_ ?_,by omega,by omega⟩
   ·intro e he;simp only [List.mem_cons,List.not_mem_nil,or_false] at he;rcases he with rfl|rfl|rfl
    ·exact DA n _
    ·exact B4 _ _
    ·rw [FJ];exact JB [x] _
   ·rw [hnx,FP];simp [cK]
  ·have hzb:zB l=.cells true false 3 (zK l):=if_neg hl;have hzs:Nu 2 l=.c (.aV 2 0 l.length 1):=if_neg hl;have hzl:(zK l).length=l.length:=Ir l;refine aad ?_;simp [hld,h44,Ho,hzb,hzs,hbs,gV,keyOf,hzl,-au]
   repeat refine ah ?_
   apply hK5;clear hK5 K5;refine aad ?_;simp [f12];refine⟨i+1,Le.keys [(0,0,bN n),(1,1,.cells true false 85 (zK n.l4)),(2,11,zB (l++[x]))] 19 _ (by rw [hnx];rfl) rfl (by simp) (by simp) (by simp) ?_ ?_,by omega,by omega⟩
   ·intro e he;simp only [List.mem_cons,List.not_mem_nil,or_false] at he;rcases he with rfl|rfl|rfl
    ·exact DA n _
    ·exact B4 _ _
    ·rw [FJ,show zK l++[CV.d (.int .i64 x)]=zK (l++[x]) by simp [zK]];exact JB (l++[x]) _
   ·rw [hnx,FP];simp [cK]
 have hlt':¬ (i:Int)<eC n.op:=fun h=>hlt ((hka i).1 h)
 refine aag (by simp [hlt'] <;> omega) (aam ?_);simp;have hie:i=(aZ n).length:=by omega
 subst hie;rw [List.take_length];apply hK;refine aab ?_;obtain⟨ks,hd⟩:=L3 (k:=2) (lv:=aG (aG (aG (fun _=>.hole) 0 (bN n)) 1 (.cells true false 85 (zK n.l4))) 2 (zB (aZ n))) (l:=aZ n) (by omega) (by simp);exact aal (κ:=0) (nZ.tmp (κ:=0) (ks:=ks) rfl (by simp) hd)
theorem LF(h1:1≤op) (h2:op≤15):(iG op:Int)=if op=1∨op=2 then 1 else eC op:=by
 unfold iG eC;rw [if_pos (⟨h1,h2⟩:1≤op∧op≤15)];split <;> rfl
theorem Aq (G:List (List DV))(n:Nd)(h1:1≤n.op)(h2:n.op≤15):aa Tryz.prog G 170 [n.A] (.c (.d (.bool (!lI n)))):=by
 have hf:=tv G n;have ha:=pO G n.op;have hle:=BJ n.op;have hu:=LF h1 h2;have hib:lI n=((n.l4.drop (iG n.op)).all (fun x=>decide (x=0)) && (decide (n.v=[]) || decide (n.op=3))):=rfl;generalize iG n.op=u at *
 refine aa.en Tryz.func170 rfl fun _=>aab ?_;refine aas 1 ha ?_;refine aaa fun K hK=>?_
 have tail:∀ (fr:Nat→AV) (κ:Nat),fr 1=.c (.ptr 0 0)→fr 3=.c (.d (.int .i64 u))→K ⟨fr,aG (fun _=>.hole) 0 (bN n)⟩ κ:=by
  intro fr κ z1 z3;apply hK;refine aax 1 ?_;refine aai fun K2 hK2=>?_;simp [z1,z3,aj];refine ag.p 1 9 hf ?_;simp;simp [aj];apply hK2;clear hK2 K2;refine aaa fun K2 hK2=>aaq z1 z3 ?_;refine aaf ?_
  refine aao (fun (i:Nat)=>⟨bh [(1,.c (.ptr 0 0)),(4,.c (.ptr 1 0)),(5,.c (.d (.int .i64 i)))],aG (aG (fun _=>.hole) 0 (bN n)) 1 (.cells true false 85 (zK n.l4))⟩) 10
   (fun i=>u≤i∧i≤4∧∀ j (hj:u≤j) (hj2:j<i) (h:j<n.l4.length),n.l4[j]=0) (fun i=>4 - i) u (Le.mk' _ rfl (by repeat (first|exact az|refine bf ?_ _ _ _ _ _|(refine aD ?_ _)|(refine noMap_blS ?_ _ _ _)|(refine noMap_upd_nils ?_ _)|simp)) (by simp [z1])) ⟨Nat.le_refl _,hle,fun j a b=>absurd b (by omega)⟩ ?_
  rintro i ⟨hi0,hi,hall⟩
  try simp only at hi0 hi hall
  refine aaa fun K3 hK3=>aab ?_
  by_cases hlt:i<4
  ·have h4:i<n.l4.length:=hlt;have hld:=zY (P:=Tryz.prog) (T:=3) (by simp) h4;have f12:=bM (n:=(i:Int)+1) (by omega) (by omega);refine aah (by simp [hlt] <;> omega) (aac (hK3 _ _ (aaa fun K5 hK5=>aaf (aaC hld hlt @Ho ?_))))
   by_cases h0:n.l4[i]=0
   ·refine aag (by simp [h0] <;> omega) (aac (hK5 _ _ (aad ?_)));simp [f12];refine⟨i+1,Le.mk' _ (by simp) (by repeat (first|exact az|refine bf ?_ _ _ _ _ _|(refine aD ?_ _)|(refine noMap_blS ?_ _ _ _)|(refine noMap_upd_nils ?_ _)|simp)) (by simp),⟨by omega,by omega,fun j a b h=>?_⟩,by omega⟩
    by_cases hji:j=i
    ·subst hji;exact h0
    ·exact hall j a (by omega) h
   ·have hb:lI n=false:=by
     rw [hib]
     have:(n.l4.drop u).all (fun x=>decide (x=0))=false:=by
      rw [List.all_eq_false];refine⟨n.l4[i],?_,by simpa using h0⟩;rw [List.mem_iff_getElem];exact⟨i - u,by rw [List.length_drop,Nd.jX];omega,by simp [show u+(i - u)=i by omega]⟩
     rw [this];rfl
    refine aah (by simp [h0] <;> omega) (aab ?_);exact aae (aq.rt rfl 2 (by simp [hb]))
  ·have hall2:(n.l4.drop u).all (fun x=>decide (x=0))=true:=by
    rw [List.all_eq_true];intro x hx;obtain⟨j,hj,rfl⟩:=List.mem_iff_getElem.1 hx;rw [List.length_drop,Nd.jX] at hj;have:=hall (u+j) (by omega) (by omega) (by rw [Nd.jX];omega);simpa using this
   have hi2:lI n=(decide (n.v=[]) || decide (n.op=3)):=by rw [hib,hall2];rfl
   refine aag (by simp [hlt] <;> omega) (aam (hK2 _ _ (aaa fun K5 hK5=>?_)))
   by_cases h3:n.op=3
   ·have t3:(n.op=3)=True:=eq_true h3;refine aat t3 (hK5 _ _ ?_);exact aae (aq.rt rfl 2 (by simp [hi2,t3]))
   ·refine aau h3 @Av (hK5 _ _ ?_);exact aae (aq.rt rfl 2 (by simp [hi2,h3]))
 refine aaa fun K1 hK1=>?_
 by_cases c1:n.op=1
 ·have hu1:u=1:=by rw [if_pos (.inl c1)] at hu;omega
  have t1:(n.op=1)=True:=eq_true c1;refine aat t1 (hK1 _ _ ?_);refine aaj (aad ?_);simp;exact tail _ _ (by simp) (by simp [hu1])
 by_cases c2:n.op=2
 ·have hu1:u=1:=by rw [if_pos (.inr c2)] at hu;omega
  have t1:(n.op=2)=True:=eq_true c2;refine aau c1 t1 (hK1 _ _ ?_);refine aaj (aad ?_);simp;exact tail _ _ (by simp) (by simp [hu1])
 rw [if_neg (by omega)] at hu;refine aau c1 c2 (hK1 _ _ ?_);refine aak (aac ?_);simp;exact tail _ _ (by simp) (by simp [hu])
theorem EO (G:List (List DV))(p:PD):aa Tryz.prog G 89 [p.A] (.c (.d (.int .i64 (dR p)))):=by
 refine aa.en Tryz.func89 rfl fun _=>aab ?_;refine aan @gW ?_;have r0:dR p=if 6<p.nf∨6<p.ni∨64<p.nn∨4<p.ns then 3 else if p.nf=0∨p.nn=0∨p.mode<0∨4<p.mode then 2 else if p.head<0∨p.tail<p.head∨(p.nn:Int)<p.tail then 2 else if p.ns=0∧p.head≠p.nn then 2 else 0:=rfl
 refine aaa fun K hK=>aaa fun K1 hK1=>?_
 by_cases e00:6<p.nf
 ·have e00':(6:Int)<(p.nf:Int):=by omega
  have hr:dR p=3:=by rw [r0];exact if_pos (.inl e00)
  refine aad ?_;simp [tC,wZ,gW,uq,e00,e00'];apply hK1;clear hK1 K1;refine aaj (aab ?_);exact aae (aq.rt rfl 2 (by simp [hr]))
 have e00':¬ (6:Int)<(p.nf:Int):=by omega
 by_cases e01:6<p.ni
 ·have e01':(6:Int)<(p.ni:Int):=by omega
  have hr:dR p=3:=by rw [r0];exact if_pos (.inr (.inl e01))
  refine aad ?_;simp [tC,wZ,gW,uq,e00,e01,e00',e01'];apply hK1;clear hK1 K1;refine aaj (aab ?_);exact aae (aq.rt rfl 2 (by simp [hr]))
 have e01':¬ (6:Int)<(p.ni:Int):=by omega
 by_cases e02:64<p.nn
 ·have e02':(64:Int)<(p.nn:Int):=by omega
  have hr:dR p=3:=by rw [r0];exact if_pos (.inr (.inr (.inl e02)))
  refine aad ?_;simp [tC,wZ,gW,uq,e00,e01,e02,e00',e01',e02'];apply hK1;clear hK1 K1;refine aaj (aab ?_);exact aae (aq.rt rfl 2 (by simp [hr]))
 have e02':¬ (64:Int)<(p.nn:Int):=by omega
 by_cases e03:4<p.ns
 ·have e03':(4:Int)<(p.ns:Int):=by omega
  have hr:dR p=3:=by rw [r0];exact if_pos (.inr (.inr (.inr (e03))))
  refine aad ?_;simp [tC,wZ,gW,uq,e00,e01,e02,e03,e00',e01',e02',e03'];apply hK1;clear hK1 K1;refine aaj (aab ?_);exact aae (aq.rt rfl 2 (by simp [hr]))
 have e03':¬ (4:Int)<(p.ns:Int):=by omega
 have r1:=r0;rw [if_neg (by omega)] at r1;refine aad ?_;simp [tC,wZ,gW,uq,e00,e01,e02,e03,e00',e01',e02',e03'];apply hK1;clear hK1 K1;refine aak (aac (hK _ _ (aaa fun K hK=>aaa fun K1 hK1=>?_)))
 by_cases e10:p.nf=0
 ·have e10':(p.nf:Int)=0:=by omega
  have hr:dR p=2:=by rw [r1];exact if_pos (.inl e10)
  refine aad ?_;simp [tC,wZ,gW,uq,e10,e10'];apply hK1;clear hK1 K1;refine aaj (aab ?_);exact aae (aq.rt rfl 2 (by simp [hr]))
 have e10':¬ (p.nf:Int)=0:=by omega
 by_cases e11:p.nn=0
 ·have e11':(p.nn:Int)=0:=by omega
  have hr:dR p=2:=by rw [r1];exact if_pos (.inr (.inl e11))
  refine aad ?_;simp [tC,wZ,gW,uq,e10,e11,e10',e11'];apply hK1;clear hK1 K1;refine aaj (aab ?_);exact aae (aq.rt rfl 2 (by simp [hr]))
 have e11':¬ (p.nn:Int)=0:=by omega
 by_cases e12:p.mode<0
 ·have e12':p.mode<0:=by omega
  have hr:dR p=2:=by rw [r1];exact if_pos (.inr (.inr (.inl e12)))
  refine aad ?_;simp [tC,wZ,gW,uq,e10,e11,e12,e10',e11',e12'];apply hK1;clear hK1 K1;refine aaj (aab ?_);exact aae (aq.rt rfl 2 (by simp [hr]))
 have e12':¬ p.mode<0:=by omega
 by_cases e13:4<p.mode
 ·have e13':4<p.mode:=by omega
  have hr:dR p=2:=by rw [r1];exact if_pos (.inr (.inr (.inr (e13))))
  refine aad ?_;simp [tC,wZ,gW,uq,e10,e11,e12,e13,e10',e11',e12',e13'];apply hK1;clear hK1 K1;refine aaj (aab ?_);exact aae (aq.rt rfl 2 (by simp [hr]))
 have e13':¬ 4<p.mode:=by omega
 have r2:=r1;rw [if_neg (by omega)] at r2;refine aad ?_;simp [tC,wZ,gW,uq,e10,e11,e12,e13,e10',e11',e12',e13'];apply hK1;clear hK1 K1;refine aak (aac (hK _ _ (aaa fun K hK=>aaa fun K1 hK1=>?_)))
 by_cases e20:p.head<0
 ·have e20':p.head<0:=by omega
  have hr:dR p=2:=by rw [r2];exact if_pos (.inl e20)
  refine aad ?_;simp [tC,wZ,gW,uq,e20,e20'];apply hK1;clear hK1 K1;refine aaj (aab ?_);exact aae (aq.rt rfl 2 (by simp [hr]))
 have e20':¬ p.head<0:=by omega
 by_cases e21:p.tail<p.head
 ·have e21':p.tail<p.head:=by omega
  have hr:dR p=2:=by rw [r2];exact if_pos (.inr (.inl e21))
  refine aad ?_;simp [tC,wZ,gW,uq,e20,e21,e20',e21'];apply hK1;clear hK1 K1;refine aaj (aab ?_);exact aae (aq.rt rfl 2 (by simp [hr]))
 have e21':¬ p.tail<p.head:=by omega
 by_cases e22:(p.nn:Int)<p.tail
 ·have e22':(p.nn:Int)<p.tail:=by omega
  have hr:dR p=2:=by rw [r2];exact if_pos (.inr (.inr (e22)))
  refine aad ?_;simp [tC,wZ,gW,uq,e20,e21,e22,e20',e21',e22'];apply hK1;clear hK1 K1;refine aaj (aab ?_);exact aae (aq.rt rfl 2 (by simp [hr]))
 have e22':¬ (p.nn:Int)<p.tail:=by omega
 have r3:=r2;rw [if_neg (by omega)] at r3
 have fin0:dR p=0→∀ (fr:Nat→AV) (κ:Nat) (lv:Key→LB),lv 9=.hole→K ⟨fr,lv⟩ κ:=by
  intro hg fr κ lv h9;apply hK;refine aab ?_;exact aal (κ:=0) (aq.tmp (κ:=0) rfl 9 (by simp [hg]) rfl (by simp [h9]) rfl)
 by_cases e3:p.ns=0
 ·have e3':(p.ns:Int)=0:=by omega
  by_cases e4:p.head<p.nn
  ·have hr:dR p=2:=by rw [r3,if_pos ⟨e3,by omega⟩]
   refine aad ?_;simp [tC,wZ,gW,uq,e20,e21,e22,e20',e21',e22',e3,e3',e4];apply hK1;clear hK1 K1;refine aaj (aab ?_);exact aae (aq.rt rfl 2 (by simp [hr]))
  ·have hr:dR p=0:=by rw [r3,if_neg (fun h=>h.2 (by omega))]
   refine aad ?_;simp [tC,wZ,gW,uq,e20,e21,e22,e20',e21',e22',e3,e3',e4];apply hK1;clear hK1 K1;refine aak (aac ?_);simp;exact fin0 hr _ _ _ (by simp)
 ·have e3':¬ (p.ns:Int)=0:=by omega
  have hr:dR p=0:=by rw [r3,if_neg (fun h=>e3 h.1)]
  refine aad ?_;simp [tC,wZ,gW,uq,e20,e21,e22,e20',e21',e22',e3,e3'];apply hK1;clear hK1 K1;refine aak (aac ?_);simp;exact fin0 hr _ _ _ (by simp)
abbrev In.A (x:In):AV:=.agg [.d (.int .i64 x.f),.d (.str x.lo),.d (.str x.hi)]
abbrev Vt (x:Rat):List CV:=[.d (.int .i64 (ey x)),rC (jg x),rC (lF x)]
theorem EN (m:Int)(p:PD)(hp:p.ok)(x:In):aa Tryz.prog (GG m) 91 [p.A,In.A x] (.c (.d (.int .i64 (tq p x)))):=by
 have hwf:=mG (GG m) x.f p.nf;have hP1:=o9 (GG m) x.lo;have hP2:=o9 (GG m) x.hi;have z1:=uC x.lo;have z2:=uC x.hi
 by_cases h1:0≤x.f∧x.f<p.nf
 rotate_left
 ·have hd:decide (0≤x.f∧x.f<(p.nf:Int))=false:=decide_eq_false h1;have hr:tq p x=7:=by unfold tq;rw [if_pos h1]
  rw [hd] at hwf;refine aa.en Tryz.func91 rfl fun _=>aab ?_;refine aaa fun K hK=>aav 2 hwf @tC ?_;refine aaj (aab ?_);exact aae (aq.rt (t:=4) rfl 9 (by simp [hr]))
 have hd:decide (0≤x.f∧x.f<(p.nf:Int))=true:=decide_eq_true h1;rw [hd] at hwf
 have r1:tq p x=if er x.lo≠0 then er x.lo else if er x.hi≠0 then er x.hi else if hasB (p.fm x.f.toNat).1 (p.fm x.f.toNat).2 (eX x.lo)=false then 7
  else if hasB (p.fm x.f.toNat).1 (p.fm x.f.toNat).2 (eX x.hi)=false then 7 else if 0<gU (eX x.lo) (eX x.hi) then 7 else 0:=by
  unfold tq;rw [if_neg (not_not_intro h1)]
 have hxf:=fun lv=>R5 hp lv x.f h1.1 h1.2
 generalize p.fm x.f.toNat=fe at *
 have hb1:=CE m fe.1 fe.2 (eX x.lo) z1;have hb2:=CE m fe.1 fe.2 (eX x.hi) z2;have hcm:=qh (GG m) (eX x.lo) (eX x.hi) (bW z1 (by omega)) (bW z2 (by omega));generalize eX x.lo=a at *
 generalize eX x.hi=b at *
 generalize er x.lo=ea at *
 generalize er x.hi=eb at *
 refine aa.en Tryz.func91 rfl fun _=>aab ?_;refine aaa fun K hK=>aav 2 hwf @tC ?_;refine aak (aac (hK _ _ (aav 2 hP1 @aj.eq_1 ?_)));refine aaa fun K hK=>aab ?_
 by_cases q1:ea=0
 rotate_left
 ·have hr:tq p x=ea:=by rw [r1,if_pos q1]
  refine aah (by simp [q1] <;> omega) (aab ?_);exact aae (aq.rt (t:=4) rfl 9 (by simp [hr]))
 refine aag (by simp [q1] <;> omega) (aac (hK _ _ (aav 3 hP2 @aj.eq_1 ?_)));refine aaa fun K hK=>aab ?_
 by_cases q2:eb=0
 rotate_left
 ·have hr:tq p x=eb:=by rw [r1,if_neg (not_not_intro q1),if_pos q2]
  refine aah (by simp [q2] <;> omega) (aab ?_);exact aae (aq.rt (t:=4) rfl 9 (by simp [hr]))
 have r2:tq p x=if hasB fe.1 fe.2 a=false then 7 else if hasB fe.1 fe.2 b=false then 7 else if 0<gU a b then 7 else 0:=by
  rw [r1,if_neg (not_not_intro q1),if_neg (not_not_intro q2)]
 refine aag (by simp [q2] <;> omega) (aac (hK _ _ (aaq hxf @aj.eq_1 ?_)));refine aaa fun K hK=>aaa fun K4 hK4=>?_
 cases g1:hasB fe.1 fe.2 a with
 | false=>
  have hr:tq p x=7:=by rw [r2,if_pos g1]
  rw [g1] at hb1;refine aay 5 hb1 @iD (hK4 _ _ ?_);refine aaj (aab ?_);exact aae (aq.rt (t:=4) rfl 9 (by simp [hr]))
 | true=>
 rw [g1] at hb1
 cases g2:hasB fe.1 fe.2 b with
 | false=>
  have hr:tq p x=7:=by rw [r2,g1,if_neg (by decide),if_pos g2]
  rw [g2] at hb2;refine aad ?_;simp [iD];refine ag.p 5 9 hb1 ?_;simp [iD];refine ag.p 5 9 hb2 ?_;simp;apply hK4;clear hK4 K4;refine aaj (aab ?_);exact aae (aq.rt (t:=4) rfl 9 (by simp [hr]))
 | true=>
 rw [g2] at hb2
 by_cases g3:0<gU a b
 ·have hr:tq p x=7:=by rw [r2,g1,if_neg (by decide),g2,if_neg (by decide),if_pos g3]
  refine aad ?_;simp [iD];refine ag.p 5 9 hb1 ?_;simp [iD];refine ag.p 5 9 hb2 ?_;simp [iD];refine ag.p 5 9 hcm ?_;simp;apply hK4;clear hK4 K4;refine aah (by simp [g3] <;> omega) (aab ?_);exact aae (aq.rt (t:=4) rfl 9 (by simp [hr]))
 ·have hr:tq p x=0:=by rw [r2,g1,if_neg (by decide),g2,if_neg (by decide),if_neg g3]
  refine aad ?_;simp [iD];refine ag.p 5 9 hb1 ?_;simp [iD];refine ag.p 5 9 hb2 ?_;simp [iD];refine ag.p 5 9 hcm ?_;simp;apply hK4;clear hK4 K4;refine aag (by simp [g3] <;> omega) (aac (hK _ _ (aab ?_)));exact aae (aq.rt (t:=4) rfl 9 (by simp [hr]))
theorem G1 (m:Int)(p:PD)(hp:p.ok)(i:Nat)(hi:i<p.nn)(hn2:p.nn≤1000):aa Tryz.prog (GG m) 92 [p.A,.c (.d (.int .i64 i))] (.c (.d (.int .i64 (jz p i (p.nd i))))):=by
 have hx:=fun lv=>HU p lv hp i hi
 obtain⟨n,hn⟩:∃ n,p.nd i=n:=⟨_,rfl⟩
 simp only [hn] at hx ⊢;have har:=pO (GG m) n.op;have hwf:=mG (GG m) n.f p.nf;have hwa:=mG (GG m) n.a p.ni;have hws:=mG (GG m) n.a p.ns;have hsee:=fun k=>Gv (GG m) p i k
 have hck:=Bp (GG m) n.v;have hkd:=y6 (GG m) n
 by_cases h1:1≤n.op∧n.op≤15
 rotate_left
 ·have hr:jz p i n=2:=by unfold jz;rw [if_pos h1]
  have ha:eC n.op = -1:=if_neg h1;rw [ha] at har;refine aa.en Tryz.func92 rfl fun _=>aab ?_;refine aaq hx @aj.eq_1 ?_;refine aaa fun K hK=>aas 2 har ?_;refine aaj (aab ?_);exact aae (aq.rt rfl 4 (by simp [hr]))
 have ha0:¬ eC n.op<0:=by
  have:eC n.op=j9 n.op:=if_pos h1;omega
 have hid:=Aq (GG m) n h1.1 h1.2;generalize eC n.op=ar at *
 cases hib:lI n with
 | false=>
  have hr:jz p i n=2:=by unfold jz;rw [if_neg (not_not_intro h1),if_pos hib]
  rw [hib] at hid;refine aa.en Tryz.func92 rfl fun _=>aab ?_;refine aaq hx @aj.eq_1 ?_;refine aaa fun K hK=>aai fun K1 hK1=>?_;simp;refine ag.p 2 9 har ?_;simp [ha0];refine ag.p 2 9 hid ?_;simp [ha0];apply hK1;refine aaj (aab ?_);exact aae (aq.rt rfl 4 (by simp [hr]))
 | true=>
 rw [hib] at hid;have ib:¬ lI n=false:=by rw [hib];decide
 refine aa.en Tryz.func92 rfl fun _=>aab ?_;refine aaq hx @aj.eq_1 ?_;refine aaa fun K hK=>aai fun K1 hK1=>?_;simp;refine ag.p 2 9 har ?_;simp [ha0];refine ag.p 2 9 hid ?_;simp [ha0];apply hK1;refine aak (aac (hK _ _ (aaa fun K hK=>aaa fun K1 hK1=>?_)))
 by_cases h2:0≤n.f∧n.f<p.nf
 rotate_left
 ·have hd2:decide (0≤n.f∧n.f<(p.nf:Int))=false:=decide_eq_false h2;have hr:jz p i n=7:=by unfold jz;rw [if_neg (not_not_intro h1),if_neg ib,if_pos h2]
  rw [hd2] at hwf;refine aay 2 hwf @tC (hK1 _ _ ?_);refine aaj (aab ?_);exact aae (aq.rt rfl 4 (by simp [hr]))
 have hd2:decide (0≤n.f∧n.f<(p.nf:Int))=true:=decide_eq_true h2;rw [hd2] at hwf
 have r2:jz p i n=if n.op=1∧¬ (0≤n.a∧n.a<p.ni) then 7 else if n.op=1∧(p.GY n.a.toNat).f≠n.f then 143 else if n.op=2∧((i:Int)<p.head∨¬ (0≤n.a∧n.a<p.ns)) then 7 else if n.op=3 then er n.v else if (aZ n).all (dw p i) then 0 else 7:=by
  unfold jz;rw [if_neg (not_not_intro h1),if_neg ib,if_neg (not_not_intro h2)]
 refine aay 2 hwf @tC (hK1 _ _ ?_);refine aak (aac (hK _ _ (aaa fun K hK=>?_)))
 have tail:∀ (fr:Nat→AV) (κ:Nat),fr 1=.c (.d (.int .i64 i))→fr 2=.c (.ptr 0 0)→fr 5=.c (.ptr 1 0)→(jz p i n=if (aZ n).all (dw p i) then 0 else 7) →
  K ⟨fr,aG (aG (fun _=>.hole) 0 (.cells true false 27 p.cs)) 1 (bN n)⟩ κ:=by
  intro fr κ z1 z2 z5 hr;have hkl:=lH n;have lpk:=fun lv=>P9 (T:=30) (by simp) lv (zN (aZ n))
  have ixk:∀ lv (j:Nat) (hj:j<(aZ n).length),ak Tryz.prog 30 lv (.c (zC (zN (aZ n)))) (.c (.d (.int .i64 (j:Int))))=some (.c (.d (.ptr [.int .i64 (aZ n)[j]])),[],[],True):=by
   intro lv j hj;have:=Sq (T:=30) (by simp) lv (zN (aZ n)) (i:=j) (by rw [ye];exact hj);simp only [ye] at this;exact this
  rw [ye] at lpk;have hkz:(AV.c (zC (zN (aZ n)))).pure=true:=Aj _;have hkf:(AV.c (zC (zN (aZ n)))).bV=true:=vK _;generalize zC (zN (aZ n))=kz at *
  generalize aZ n=kl at *
  apply hK;refine aai fun K2 hK2=>?_;simp [z1,z2,z5];refine ag.pure 2 9 hkd hkz (by simp) (by first|rfl|simp) ?_;simp [z1,z2,z5];apply hK2;clear hK2 K2;refine aaa fun K2 hK2=>aaC z1 z2 z5 ?_;refine aaf ?_
  refine aao (fun (j:Nat)=>⟨bh [(1,.c (.d (.int .i64 i))),(2,.c (.ptr 0 0)),(6,.c kz),(7,.c (.d (.int .i64 j)))],aG (aG (fun _=>.hole) 0 (.cells true false 27 p.cs)) 1 (bN n)⟩) 10
   (fun j=>j≤kl.length∧∀ q,q<j→(h:q<kl.length)→dw p i kl[q]=true) (fun j=>kl.length - j) 0 (Le.mk' _ rfl (by repeat (first|exact az|refine bf ?_ _ _ _ _ _|(refine aD ?_ _)|(refine noMap_blS ?_ _ _ _)|(refine noMap_upd_nils ?_ _)|simp)) (by simp [z1,z2,hkf])) ⟨Nat.zero_le _,fun q hq=>absurd hq (by omega)⟩ ?_
  rintro j ⟨hj,hall⟩
  try simp only at hj hall
  refine aaa fun K5 hK5=>aan lpk ?_
  by_cases hlt:j<kl.length
  ·have hlt':(j:Int)<(kl.length:Int):=by omega
   have hxk:=fun lv=>ixk lv j hlt
   have hse:=hsee kl[j];have f12:=bM (n:=(j:Int)+1) (by omega) (by omega);refine aah (by simp [hlt'] <;> omega) (aac (hK5 _ _ (aaa fun K7 hK7=>aaf (aaa fun K8 hK8=>?_))))
   cases hs:dw p i kl[j] with
   | true=>
    rw [hs] at hse;refine aap mixed (by kernel_rfl) rfl ?_;simp [hxk];refine ag.p 11 9 hse ?_;simp;refine⟨by kernel_rfl,?_⟩;apply hK8;clear hK8 K8;refine aak (aac (hK7 _ _ (aad ?_)));simp [f12];refine⟨j+1,Le.mk' _ (by simp) (by repeat (first|exact az|refine bf ?_ _ _ _ _ _|(refine aD ?_ _)|(refine noMap_blS ?_ _ _ _)|(refine noMap_upd_nils ?_ _)|simp)) (by simp),⟨by omega,fun q hq h=>?_⟩,by omega⟩
    by_cases hji:q=j
    ·subst hji;exact hs
    ·exact hall q (by omega) h
   | false=>
    rw [hs] at hse
    have hb:jz p i n=7:=by
     rw [hr,if_neg];rw [Bool.not_eq_true,List.all_eq_false];exact⟨kl[j],List.getElem_mem hlt,by rw [hs];decide⟩
    refine aap mixed (by kernel_rfl) rfl ?_;simp [hxk];refine ag.p 11 9 hse ?_;simp;refine⟨by kernel_rfl,?_⟩;apply hK8;clear hK8 K8;refine aaj (aab ?_);exact aae (aq.rt rfl 4 (by simp [hb]))
  ·have hlt':¬ (j:Int)<(kl.length:Int):=by omega
   have hb:jz p i n=0:=by
    rw [hr,if_pos];rw [List.all_eq_true];intro x hx;obtain⟨q,hq,rfl⟩:=List.mem_iff_getElem.1 hx;exact hall q (by omega) hq
   refine aag (by simp [hlt'] <;> omega) (aam (hK2 _ _ (aab ?_)));exact aae (aq.rt rfl 4 (by simp [hb]))
 refine aab ?_;refine aaf ?_
 by_cases h3:n.op=1
 ·have n2:¬ n.op=2:=by omega
  have n3:¬ n.op=3:=by omega
  have t3:(n.op=1)=True:=eq_true h3;refine aan t3 ?_;refine aaj (aaa fun K2 hK2=>aaa fun K3 hK3=>?_)
  by_cases h4:0≤n.a∧n.a<p.ni
  rotate_left
  ·have hd4:decide (0≤n.a∧n.a<(p.ni:Int))=false:=decide_eq_false h4;have hr:jz p i n=7:=by rw [r2,if_pos ⟨h3,h4⟩]
   rw [hd4] at hwa;refine aay 2 hwa @wZ (hK3 _ _ ?_);refine aaj (aab ?_);exact aae (aq.rt rfl 4 (by simp [hr]))
  have hd4:decide (0≤n.a∧n.a<(p.ni:Int))=true:=decide_eq_true h4;rw [hd4] at hwa;have hxi:=fun lv=>RA hp lv n.a h4.1 h4.2
  refine aay 2 hwa @wZ (hK3 _ _ ?_);refine aak (aac (hK2 _ _ (aaa fun K2 hK2=>?_)))
  by_cases h5:(p.GY n.a.toNat).f=n.f
  ·have hr:jz p i n=if (aZ n).all (dw p i) then 0 else 7:=by
    rw [r2,if_neg (fun h=>h.2 h4),if_neg (fun h=>h.2 h5),if_neg (fun h=>n2 h.1),if_neg n3]
   refine AW.UQ mixed hxi h5 (hK2 _ _ ?_);refine aak (aac ?_);simp;exact tail _ _ (by simp) (by simp) (by simp) hr
  ·have hr:jz p i n=143:=by rw [r2,if_neg (fun h=>h.2 h4),if_pos ⟨h3,h5⟩]
   refine AW.UQ mixed hxi h5 (hK2 _ _ ?_);refine aaj (aab ?_);exact aae (aq.rt rfl 4 (by simp [hr]))
 have r3:jz p i n=if n.op=2∧((i:Int)<p.head∨¬ (0≤n.a∧n.a<p.ns)) then 7 else if n.op=3 then er n.v else if (aZ n).all (dw p i) then 0 else 7:=by
  rw [r2,if_neg (fun h=>h3 h.1),if_neg (fun h=>h3 h.1)]
 refine aan h3 ?_;refine aak (aaa fun K2 hK2=>?_)
 by_cases h6:n.op=2
 ·have n3:¬ n.op=3:=by omega
  have t6:(n.op=2)=True:=eq_true h6;refine aat t6 (hK2 _ _ ?_);refine aaj (aaa fun K2 hK2=>?_)
  by_cases h7:(i:Int)<p.head
  ·have hr:jz p i n=7:=by rw [r3,if_pos ⟨h6,.inl h7⟩]
   refine aat h7 (hK2 _ _ ?_);refine aaj (aab ?_);exact aae (aq.rt rfl 4 (by simp [hr]))
  by_cases h8:0≤n.a∧n.a<p.ns
  ·have hd8:decide (0≤n.a∧n.a<(p.ns:Int))=true:=decide_eq_true h8;rw [hd8] at hws
   have hr:jz p i n=if (aZ n).all (dw p i) then 0 else 7:=by
    rw [r3,if_neg (fun h=>h.2.elim h7 (fun h=>h h8)),if_neg n3]
   refine AW.m2 2 hws h7 @uq (hK2 _ _ ?_);refine aak (aac ?_);simp;exact tail _ _ (by simp) (by simp) (by simp) hr
  ·have hd8:decide (0≤n.a∧n.a<(p.ns:Int))=false:=decide_eq_false h8;rw [hd8] at hws;have hr:jz p i n=7:=by rw [r3,if_pos ⟨h6,.inr h8⟩]
   refine AW.m2 2 hws h7 @uq (hK2 _ _ ?_);refine aaj (aab ?_);exact aae (aq.rt rfl 4 (by simp [hr]))
 have r4:jz p i n=if n.op=3 then er n.v else if (aZ n).all (dw p i) then 0 else 7:=by
  rw [r3,if_neg (fun h=>h6 h.1)]
 refine aat h6 (hK2 _ _ ?_);refine aak (aaa fun K2 hK2=>?_)
 by_cases h9:n.op=3
 ·have hr:jz p i n=er n.v:=by rw [r4,if_pos h9]
  have t9:(n.op=3)=True:=eq_true h9;rw [← hr] at hck;refine aat t9 (hK2 _ _ ?_);refine aaj (aas 2 hck ?_);exact aae (aq.rt rfl 4 (by simp))
 ·have hr:jz p i n=if (aZ n).all (dw p i) then 0 else 7:=by rw [r4,if_neg h9]
  refine aat h9 (hK2 _ _ ?_);refine aak (aac ?_);simp;exact tail _ _ (by simp) (by simp) (by simp) hr
theorem EF (m:Int)(p:PD)(hp:p.ok)(hg:dR p=0)(i:Nat)(hi:i<p.ns):aa Tryz.prog (GG m) 93 [p.A,.c (.d (.int .i64 i))] (.c (.d (.int .i64 (uj p i (p.st i))))):=by
 obtain⟨g1,g2,g3,_,_,g4,_⟩:=ij hg;have hx:=fun lv=>TD hp lv (i:Int) (by omega) (by omega)
 simp only [Int.toNat_natCast] at hx;generalize p.st i=s at *
 have hw1:=mG (GG m) s.1 p.head;have hw2:=mG (GG m) s.2 p.tail
 by_cases h1:0≤s.1∧s.1<p.head
 rotate_left
 ·have hd:decide (0≤s.1∧s.1<p.head)=false:=decide_eq_false h1;have hr:uj p i s=7:=by unfold uj;rw [if_pos h1]
  rw [hd] at hw1;refine aa.en Tryz.func93 rfl fun _=>aab ?_;refine aaq hx @aj.eq_1 ?_;refine aaa fun K hK=>aas 2 hw1 ?_;refine aaj (aab ?_);exact aae (aq.rt rfl 4 (by simp [hr]))
 have hd:decide (0≤s.1∧s.1<p.head)=true:=decide_eq_true h1;rw [hd] at hw1
 by_cases h2:0≤s.2∧s.2<p.tail
 rotate_left
 ·have hd2:decide (0≤s.2∧s.2<p.tail)=false:=decide_eq_false h2;have hr:uj p i s=7:=by unfold uj;rw [if_neg (not_not_intro h1),if_pos h2]
  rw [hd2] at hw2;refine aa.en Tryz.func93 rfl fun _=>aab ?_;refine aaq hx @aj.eq_1 ?_;refine aaa fun K hK=>aai fun K1 hK1=>?_;simp;refine ag.p 2 9 hw1 ?_;simp;refine ag.p 2 9 hw2 ?_;simp;apply hK1;refine aaj (aab ?_);exact aae (aq.rt rfl 4 (by simp [hr]))
 have hd2:decide (0≤s.2∧s.2<p.tail)=true:=decide_eq_true h2;rw [hd2] at hw2;have x1:=fun lv=>PW hp lv s.1 h1.1 (by omega)
 have x2:=fun lv=>PW hp lv s.2 h2.1 (by omega)
 have hr:uj p i s=if (p.nd s.2.toNat).f≠(p.nd s.1.toNat).f then 143 else if (List.range p.nn).any (fun j=>hJ i (p.nd s.1.toNat).f (p.nd j)) then 143 else 0:=by
  unfold uj;rw [if_neg (not_not_intro h1),if_neg (not_not_intro h2)]
 generalize p.nd s.1.toNat=n1 at *
 generalize p.nd s.2.toNat=n2 at *
 refine aa.Nc Tryz.func93 rfl fun _=>aab ?_;refine aaq hx @aj.eq_1 ?_;refine aaa fun K hK=>aai fun K1 hK1=>?_;simp;refine ag.p 2 9 hw1 ?_;simp;refine ag.p 2 9 hw2 ?_;simp;apply hK1;refine aak (aac (hK _ _ (aan x1 ?_)));refine aaa fun K hK=>aaa fun K1 hK1=>?_
 by_cases h3:n2.f=n1.f
 rotate_left
 ·have hr2:uj p i s=143:=by rw [hr,if_pos h3]
  refine aau x2 h3 (hK1 _ _ ?_);refine aaj (aab ?_);exact aae (aq.rt (t:=4) rfl 9 (by simp [hr2]))
 refine aau x2 h3 (hK1 _ _ ?_);refine aak (aac (hK _ _ (aaa fun K hK=>aab ?_)));refine aaf ?_
 refine aao (fun (j:Nat)=>⟨bh [(1,.c (.d (.int .i64 i))),(2,.c (.ptr 0 0)),(6,.c (.d (.int .i64 n1.f))),(7,.c (.d (.int .i64 j)))],aG (aG (fun _=>.hole) 0 (.cells true false 27 p.cs)) 1 (.cells true false 69 [.d (.int .i64 s.1),.d (.int .i64 s.2)])⟩) 2
  (fun j=>j≤p.nn∧∀ q,q<j→hJ i n1.f (p.nd q)=false) (fun j=>p.nn - j) 0 (Le.mk' _ rfl (by repeat (first|exact az|refine bf ?_ _ _ _ _ _|(refine aD ?_ _)|(refine noMap_blS ?_ _ _ _)|(refine noMap_upd_nils ?_ _)|simp)) (by simp)) ⟨by omega,fun q hq=>absurd hq (Nat.not_lt_zero q)⟩ ?_
 rintro j ⟨hj,hall⟩
 try simp only at hj hall
 refine aaa fun K3 hK3=>aan @gW ?_
 by_cases hlt:j<p.nn
 ·have hlt':(j:Int)<(p.nn:Int):=by omega
  have hxn:=fun lv=>HU p lv hp j hlt
  have f12:=bM (n:=(j:Int)+1) (by omega) (by omega);refine aah (by simp [hlt'] <;> omega) (aac (hK3 _ _ (aaa fun K5 hK5=>aaf (aaq hxn @aj.eq_1 ?_))));refine aaa fun K6 hK6=>?_;obtain⟨n,hn⟩:∃ n,p.nd j=n:=⟨_,rfl⟩
  rw [hn]
  by_cases a1:n.op=2
  rotate_left
  ·have hs:hJ i n1.f (p.nd j)=false:=by rw [hn];simp [hJ,a1]
   refine aat a1 (hK6 _ _ ?_);refine aak (aac (hK5 _ _ (aad ?_)));simp [f12];refine⟨j+1,(Le.drop [2]  9 _ rfl (by intro k hk;simp at hk;subst hk;simp [aG]) (by intro k hk;simp at hk;simp only [aG];(repeat (any_goals split)) <;> simp_all) (by simp [aG]) (by repeat (first|exact az|refine bf ?_ _ _ _ _ _|(refine aD ?_ _)|(refine noMap_blS ?_ _ _ _)|(refine noMap_upd_nils ?_ _)|simp)) (by repeat (first|exact jI|refine lC ?_ (by simp [yZ]))) (by simp [yZ])),⟨by omega,fun q hq=>?_⟩,by omega⟩
   by_cases hji:q=j
   ·subst hji;exact hs
   ·exact hall q (by omega)
  by_cases a2:n.a=(i:Int)
  rotate_left
  ·have hs:hJ i n1.f (p.nd j)=false:=by rw [hn];simp [hJ,a1,a2]
   refine aau a1 a2 (hK6 _ _ ?_);refine aak (aac (hK5 _ _ (aad ?_)));simp [f12];refine⟨j+1,(Le.drop [2]  9 _ rfl (by intro k hk;simp at hk;subst hk;simp [aG]) (by intro k hk;simp at hk;simp only [aG];(repeat (any_goals split)) <;> simp_all) (by simp [aG]) (by repeat (first|exact az|refine bf ?_ _ _ _ _ _|(refine aD ?_ _)|(refine noMap_blS ?_ _ _ _)|(refine noMap_upd_nils ?_ _)|simp)) (by repeat (first|exact jI|refine lC ?_ (by simp [yZ]))) (by simp [yZ])),⟨by omega,fun q hq=>?_⟩,by omega⟩
   by_cases hji:q=j
   ·subst hji;exact hs
   ·exact hall q (by omega)
  by_cases a3:n.f=n1.f
  ·have hs:hJ i n1.f (p.nd j)=false:=by rw [hn];simp [hJ,a1,a2,a3]
   refine aaD a1 a2 a3 (hK6 _ _ ?_);refine aak (aac (hK5 _ _ (aad ?_)));simp [f12];refine⟨j+1,(Le.drop [2]  9 _ rfl (by intro k hk;simp at hk;subst hk;simp [aG]) (by intro k hk;simp at hk;simp only [aG];(repeat (any_goals split)) <;> simp_all) (by simp [aG]) (by repeat (first|exact az|refine bf ?_ _ _ _ _ _|(refine aD ?_ _)|(refine noMap_blS ?_ _ _ _)|(refine noMap_upd_nils ?_ _)|simp)) (by repeat (first|exact jI|refine lC ?_ (by simp [yZ]))) (by simp [yZ])),⟨by omega,fun q hq=>?_⟩,by omega⟩
   by_cases hji:q=j
   ·subst hji;exact hs
   ·exact hall q (by omega)
  have hs:hJ i n1.f (p.nd j)=true:=by rw [hn];simp [hJ,a1,a2,a3]
  have hr2:uj p i s=143:=by
   rw [hr,if_neg (not_not_intro h3),if_pos];exact List.any_eq_true.2 ⟨j,List.mem_range.2 hlt,hs⟩
  refine aaD a1 a2 a3 (hK6 _ _ ?_);refine aaj (aab ?_);exact aae (aq.rt (t:=4) rfl 9 (by simp [hr2]))
 ·have hlt':¬ (j:Int)<(p.nn:Int):=by omega
  have hs:(List.range p.nn).any (fun j=>hJ i n1.f (p.nd j))=false:=by
   rw [List.any_eq_false];intro q hq;rw [hall q (by have:=List.mem_range.1 hq;omega)];decide
  have hr2:uj p i s=0:=by rw [hr,if_neg (not_not_intro h3),hs,if_neg (by decide)]
  refine aag (by simp [hlt'] <;> omega) (aam (hK _ _ (aab ?_)));exact aae (aq.rt (t:=4) rfl 9 (by simp [hr2]))
theorem n8(n:Nat)(hi:i<iE p k) (h0:cg p k i≠0) (h1:∀ j,j<i→cg p k j=0):c8 p (n+1) k=((k:Int)+1,(i:Int),cg p k i):=by
 show (match iV (cg p k) (iE p k) with|some i=>((k:Int)+1,(i:Int),cg p k i)|none=>c8 p n (k+1))=_;rw [tU hi h0 h1]
theorem lU(n:Nat)(h1:∀ j,j<iE p k→cg p k j=0):c8 p (n+1) k=c8 p n (k+1):=by
 show (match iV (cg p k) (iE p k) with|some i=>((k:Int)+1,(i:Int),cg p k i)|none=>c8 p n (k+1))=_;rw [tr h1]
abbrev SM (v:Int × Int × Int):AV:=.tup [.c (.d (.int .i64 v.1)),.c (.d (.int .i64 v.2.1)),.c (.d (.int .i64 v.2.2))]
theorem Bk (m:Int)(p:PD)(hp:p.ok):aa Tryz.prog (GG m) 32 [p.A] (SM (fJ p)):=by
 have hge:=EO (GG m) p
 by_cases hg:dR p=0
 rotate_left
 ·have hr:fJ p=(0,0,dR p):=by unfold fJ;rw [if_pos hg]
  rw [hr];refine aa.en Tryz.func32 rfl fun _=>aab ?_;refine aas 1 hge ?_;refine aaa fun K hK=>aab ?_;refine aah (by simp [hg] <;> omega) (aab ?_);exact aal (κ:=0) (aq.m6 (κ:=0) rfl 9 (by simp) (by simp) (by simp) rfl rfl rfl rfl rfl rfl rfl (by decide) (by decide) (by decide))
 have v0:fJ p=c8 p 4 0:=by unfold fJ;rw [if_neg (not_not_intro hg)]
 rw [hg] at hge;have hrg:=ij hg;have hwi:=mG (GG m) p.res p.nn;have hse:=sw (GG m) p p.res;have q0:=fun i=>tM (GG m) (p.fm i).1 (p.fm i).2
 have q1:=fun i=>EN m p hp (p.GY i)
 have q2:=fun i hi=>G1 m p hp i hi (by omega)
 have q3:=fun i hi=>EF m p hp hg i hi
 have x0:∀ lv (i:Nat),i<p.nf→ak Tryz.prog 22 lv (.c (hO p.f)) (.c (.d (.int .i64 (i:Int))))=some (.c (.d (.ptr (PZ (p.fm i)))),[],[],True):=by
  intro lv i hi;have:=R5 hp lv (i:Int) (by omega) (by omega)
  rwa [Int.toNat_natCast] at this
 have x1:=fun lv i hi=>SL p lv hp i hi
 refine aa.Nc Tryz.func32 rfl fun _=>aab ?_;refine aas 1 hge ?_;refine aaa fun K hK=>aab ?_;refine aak (aac (hK _ _ (aaa fun Ka0 hKa0=>aab ?_)));refine aaf ?_
 refine aao (fun (i:Nat)=>⟨bh [(1,.c (.ptr 0 0)),(6,.c (.d (.int .i64 i)))],aG (fun _=>.hole) 0 (.cells true false 27 p.cs)⟩) 2
  (fun i=>i≤p.nf∧∀ j,j<i→cg p 0 j=0) (fun i=>p.nf - i) 0 (Le.mk' _ (by simp) (by repeat (first|exact az|refine bf ?_ _ _ _ _ _|(refine aD ?_ _)|(refine noMap_blS ?_ _ _ _)|(refine noMap_upd_nils ?_ _)|simp)) (by simp)) ⟨by omega,fun j hj=>absurd hj (Nat.not_lt_zero j)⟩ ?_
 rintro i ⟨hi,hall⟩
 try simp only at hi hall
 refine aaa fun K3 hK3=>aan @tC ?_
 by_cases hlt:i<p.nf
 ·have hlt':(i:Int)<(p.nf:Int):=by omega
  have f12:=bM (n:=(i:Int)+1) (by omega) (by omega);have hxn:=fun lv=>x0 lv i hlt
  have hcc:=q0 i;have hE:ff (p.fm i).1 (p.fm i).2=cg p 0 i:=rfl;rw [hE] at hcc;refine aah (by simp [hlt'] <;> omega) (aac (hK3 _ _ (aaa fun K5 hK5=>aaf (aav 3 hcc hxn ?_))));refine aab ?_
  by_cases h0:cg p 0 i=0
  ·refine aag (by simp [h0] <;> omega) (aac (hK5 _ _ (aad ?_)));simp [f12];refine⟨i+1,Le.mk' _ (by simp) (by repeat (first|exact az|refine bf ?_ _ _ _ _ _|(refine aD ?_ _)|(refine noMap_blS ?_ _ _ _)|(refine noMap_upd_nils ?_ _)|simp)) (by simp),⟨by omega,fun j hj=>?_⟩,by omega⟩
   by_cases hji:j=i
   ·subst hji;exact h0
   ·exact hall j (by omega)
  ·have hres:=v0.trans (n8 3 (k:=0) (i:=i) hlt h0 hall);refine aah (by simp [h0] <;> omega) (aab ?_);exact aal (κ:=0) (aq.m6 (κ:=0) rfl 9 (by simp [hres]) (by simp [hres]) (by simp [hres]) rfl rfl rfl (by simp) rfl rfl rfl (by decide) (by decide) (by decide))
 have hlt':¬ (i:Int)<(p.nf:Int):=by omega
 have v1:=v0.trans (lU 3 (k:=0) (fun j (hj:j<p.nf)=>hall j (by omega)));refine aag (by simp [hlt'] <;> omega) (aam ?_);simp;clear hall hlt hlt';apply hKa0;refine aaa fun Ka1 hKa1=>aab ?_;refine aaf ?_
 refine aao (fun (i:Nat)=>⟨bh [(1,.c (.ptr 0 0)),(8,.c (.d (.int .i64 i)))],aG (fun _=>.hole) 0 (.cells true false 27 p.cs)⟩) 2
  (fun i=>i≤p.ni∧∀ j,j<i→cg p 1 j=0) (fun i=>p.ni - i) 0 (Le.mk' _ (by simp) (by repeat (first|exact az|refine bf ?_ _ _ _ _ _|(refine aD ?_ _)|(refine noMap_blS ?_ _ _ _)|(refine noMap_upd_nils ?_ _)|simp)) (by simp)) ⟨by omega,fun j hj=>absurd hj (Nat.not_lt_zero j)⟩ ?_
 rintro i ⟨hi,hall⟩
 try simp only at hi hall
 refine aaa fun K3 hK3=>aan @wZ ?_
 by_cases hlt:i<p.ni
 ·have hlt':(i:Int)<(p.ni:Int):=by omega
  have f12:=bM (n:=(i:Int)+1) (by omega) (by omega);have hxn:=fun lv=>x1 lv i hlt
  have hcc:=q1 i;have hE:tq p (p.GY i)=cg p 1 i:=rfl;rw [hE] at hcc;refine aah (by simp [hlt'] <;> omega) (aac (hK3 _ _ (aaa fun K5 hK5=>aaf (aaa fun K6 hK6=>?_))));refine aap mixed (by kernel_rfl) rfl ?_;simp [hxn];refine ag.p 3 9 hcc ?_;simp;refine⟨by kernel_rfl,?_⟩;apply hK6;clear hK6 K6;refine aab ?_
  by_cases h0:cg p 1 i=0
  ·refine aag (by simp [h0] <;> omega) (aac (hK5 _ _ (aad ?_)));simp [f12];refine⟨i+1,Le.mk' _ (by simp) (by repeat (first|exact az|refine bf ?_ _ _ _ _ _|(refine aD ?_ _)|(refine noMap_blS ?_ _ _ _)|(refine noMap_upd_nils ?_ _)|simp)) (by simp),⟨by omega,fun j hj=>?_⟩,by omega⟩
   by_cases hji:j=i
   ·subst hji;exact h0
   ·exact hall j (by omega)
  ·have hres:=v1.trans (n8 2 (k:=1) (i:=i) hlt h0 hall);refine aah (by simp [h0] <;> omega) (aab ?_);exact aal (κ:=0) (aq.m6 (κ:=0) rfl 9 (by simp [hres]) (by simp [hres]) (by simp [hres]) rfl rfl rfl (by simp) rfl rfl rfl (by decide) (by decide) (by decide))
 have hlt':¬ (i:Int)<(p.ni:Int):=by omega
 have v2:=v1.trans (lU 2 (k:=1) (fun j (hj:j<p.ni)=>hall j (by omega)));refine aag (by simp [hlt'] <;> omega) (aam ?_);simp;clear hall hlt hlt';apply hKa1;refine aaa fun Ka2 hKa2=>aab ?_;refine aaf ?_
 refine aao (fun (i:Nat)=>⟨bh [(1,.c (.ptr 0 0)),(10,.c (.d (.int .i64 i)))],aG (fun _=>.hole) 0 (.cells true false 27 p.cs)⟩) 2
  (fun i=>i≤p.nn∧∀ j,j<i→cg p 2 j=0) (fun i=>p.nn - i) 0 (Le.mk' _ (by simp) (by repeat (first|exact az|refine bf ?_ _ _ _ _ _|(refine aD ?_ _)|(refine noMap_blS ?_ _ _ _)|(refine noMap_upd_nils ?_ _)|simp)) (by simp)) ⟨by omega,fun j hj=>absurd hj (Nat.not_lt_zero j)⟩ ?_
 rintro i ⟨hi,hall⟩
 try simp only at hi hall
 refine aaa fun K3 hK3=>aan @gW ?_
 by_cases hlt:i<p.nn
 ·have hlt':(i:Int)<(p.nn:Int):=by omega
  have f12:=bM (n:=(i:Int)+1) (by omega) (by omega);have hxn:=True.intro;have hcc:=q2 i hlt;have hE:jz p i (p.nd i)=cg p 2 i:=rfl;rw [hE] at hcc;refine aah (by simp [hlt'] <;> omega) (aac (hK3 _ _ (aaa fun K5 hK5=>aaf (aas 3 hcc ?_))));refine aab ?_
  by_cases h0:cg p 2 i=0
  ·refine aag (by simp [h0] <;> omega) (aac (hK5 _ _ (aad ?_)));simp [f12];refine⟨i+1,Le.mk' _ (by simp) (by repeat (first|exact az|refine bf ?_ _ _ _ _ _|(refine aD ?_ _)|(refine noMap_blS ?_ _ _ _)|(refine noMap_upd_nils ?_ _)|simp)) (by simp),⟨by omega,fun j hj=>?_⟩,by omega⟩
   by_cases hji:j=i
   ·subst hji;exact h0
   ·exact hall j (by omega)
  ·have hres:=v2.trans (n8 1 (k:=2) (i:=i) hlt h0 hall);refine aah (by simp [h0] <;> omega) (aab ?_);exact aal (κ:=0) (aq.m6 (κ:=0) rfl 9 (by simp [hres]) (by simp [hres]) (by simp [hres]) rfl rfl rfl (by simp) rfl rfl rfl (by decide) (by decide) (by decide))
 have hlt':¬ (i:Int)<(p.nn:Int):=by omega
 have v3:=v2.trans (lU 1 (k:=2) (fun j (hj:j<p.nn)=>hall j (by omega)));refine aag (by simp [hlt'] <;> omega) (aam ?_);simp;clear hall hlt hlt';apply hKa2;refine aaa fun Ka3 hKa3=>aab ?_;refine aaf ?_
 refine aao (fun (i:Nat)=>⟨bh [(1,.c (.ptr 0 0)),(12,.c (.d (.int .i64 i)))],aG (fun _=>.hole) 0 (.cells true false 27 p.cs)⟩) 2
  (fun i=>i≤p.ns∧∀ j,j<i→cg p 3 j=0) (fun i=>p.ns - i) 0 (Le.mk' _ (by simp) (by repeat (first|exact az|refine bf ?_ _ _ _ _ _|(refine aD ?_ _)|(refine noMap_blS ?_ _ _ _)|(refine noMap_upd_nils ?_ _)|simp)) (by simp)) ⟨by omega,fun j hj=>absurd hj (Nat.not_lt_zero j)⟩ ?_
 rintro i ⟨hi,hall⟩
 try simp only at hi hall
 refine aaa fun K3 hK3=>aan @uq ?_
 by_cases hlt:i<p.ns
 ·have hlt':(i:Int)<(p.ns:Int):=by omega
  have f12:=bM (n:=(i:Int)+1) (by omega) (by omega);have hxn:=True.intro;have hcc:=q3 i hlt;have hE:uj p i (p.st i)=cg p 3 i:=rfl;rw [hE] at hcc;refine aah (by simp [hlt'] <;> omega) (aac (hK3 _ _ (aaa fun K5 hK5=>aaf (aas 3 hcc ?_))));refine aab ?_
  by_cases h0:cg p 3 i=0
  ·refine aag (by simp [h0] <;> omega) (aac (hK5 _ _ (aad ?_)));simp [f12];refine⟨i+1,Le.mk' _ (by simp) (by repeat (first|exact az|refine bf ?_ _ _ _ _ _|(refine aD ?_ _)|(refine noMap_blS ?_ _ _ _)|(refine noMap_upd_nils ?_ _)|simp)) (by simp),⟨by omega,fun j hj=>?_⟩,by omega⟩
   by_cases hji:j=i
   ·subst hji;exact h0
   ·exact hall j (by omega)
  ·have hres:=v3.trans (n8 0 (k:=3) (i:=i) hlt h0 hall);refine aah (by simp [h0] <;> omega) (aab ?_);exact aal (κ:=0) (aq.m6 (κ:=0) rfl 9 (by simp [hres]) (by simp [hres]) (by simp [hres]) rfl rfl rfl (by simp) rfl rfl rfl (by decide) (by decide) (by decide))
 have hlt':¬ (i:Int)<(p.ns:Int):=by omega
 have v4:=v3.trans (lU 0 (k:=3) (fun j (hj:j<p.ns)=>hall j (by omega)));refine aag (by simp [hlt'] <;> omega) (aam ?_);simp;clear hall hlt hlt';apply hKa3;have hfin:fJ p=if 0≤p.res∧p.res<p.nn∧kj p p.res≠1 then (0,0,0) else (5,0,7):=v4
 refine aaa fun K hK=>aaa fun K1 hK1=>?_
 by_cases h1:0≤p.res∧p.res<p.nn
 rotate_left
 ·have hd:decide (0≤p.res∧p.res<(p.nn:Int))=false:=decide_eq_false h1;have hres:fJ p=(5,0,7):=by rw [hfin,if_neg (fun h=>h1 ⟨h.1,h.2.1⟩)]
  rw [hd] at hwi;refine aay 3 hwi @gW (hK1 _ _ ?_);refine aaj (aab ?_);exact aal (κ:=0) (aq.m6 (κ:=0) rfl 9 (by simp [hres]) (by simp [hres]) (by simp [hres]) rfl rfl rfl (by simp) rfl rfl rfl (by decide) (by decide) (by decide))
 have hd:decide (0≤p.res∧p.res<(p.nn:Int))=true:=decide_eq_true h1;rw [hd] at hwi
 by_cases h2:kj p p.res=1
 ·have hres:fJ p=(5,0,7):=by rw [hfin,if_neg (fun h=>h.2.2 h2)]
  rw [h2] at hse;refine aad ?_;simp [gW];refine ag.p 3 9 hwi ?_;simp;refine ag.p 3 9 hse ?_;simp;apply hK1;clear hK1 K1;refine aaj (aab ?_);exact aal (κ:=0) (aq.m6 (κ:=0) rfl 9 (by simp [hres]) (by simp [hres]) (by simp [hres]) rfl rfl rfl (by simp) rfl rfl rfl (by decide) (by decide) (by decide))
 ·have hres:fJ p=(0,0,0):=by rw [hfin,if_pos ⟨h1.1,h1.2,h2⟩]
  refine aad ?_;simp [gW];refine ag.p 3 9 hwi ?_;simp;refine ag.p 3 9 hse ?_;simp [h2];apply hK1;clear hK1 K1;refine aag (by simp [h2] <;> omega) (aac (hK _ _ (aab ?_)));exact aal (κ:=0) (aq.m6 (κ:=0) rfl 9 (by simp [hres]) (by simp [hres]) (by simp [hres]) rfl rfl rfl (by simp) rfl rfl rfl (by decide) (by decide) (by decide))
end Go.Am
