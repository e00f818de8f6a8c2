/- Helpers: an abstract machine for Go functions, and walks of functions of the program. -/
import Derived.Test.YtfkfimmphlpllaaGreatDoorDn07
import Derived.Lib.IndexMore

set_option linter.all false

namespace Go.Am
open Go.Am.Ty Go.Proofs N
theorem yg {x0 cb b:Nat}(hx:x0<4294967296) (hc:cb<4294967296) (hb:b≤1) :
 ∃ v b':Nat,v<4294967296∧b'≤1∧v+cb+b=x0+4294967296*b'∧IntKind.u32.wrap (IntKind.u64.wrap (IntKind.u64.wrap ((x0:Int) - cb) - b))=v∧Int.fdiv (IntKind.u64.wrap (IntKind.u64.wrap ((x0:Int) - cb) - b)) 9223372036854775808=b':=by
 simp only [og,ye]
 by_cases h:cb+b≤x0
 ·refine⟨x0 - cb - b,0,by omega,by omega,by omega,by omega,?_⟩;rw [Int.fdiv_eq_ediv_of_nonneg _ (by omega)];omega
 ·refine⟨x0+4294967296 - cb - b,1,by omega,by omega,by omega,by omega,?_⟩;rw [Int.fdiv_eq_ediv_of_nonneg _ (by omega)];omega
theorem nL (k:IntKind)(l:List Nat):∀ x∈wK k l,x.pure=true:=by
 intro x hx;simp only [wK,List.mem_map] at hx;obtain⟨y,_,rfl⟩:=hx;rfl
def oc (w m:Nat):Nat:=if w<m then 1 else 0
theorem Hv {L W M R bb:Nat}(hbb:bb≤1) (h:R+M=W+L*bb) (hR:R<L):bb=oc W M∧R=W+L*oc W M - M:=by
 unfold oc;have:bb=0∨bb=1:=by omega
 rcases this with rfl|rfl <;> split <;> omega
theorem wJ (G:List (List DV))(lo win hi:List Nat)(n t:Nat)(v:Option (List Nat))(hw:win.length=(dO v).length+1)(hn:win.length≤n)(okw:ok 4294967296 win)(ht:t<4294967296)(hl:(lo++win++hi).length≤1000000000000) :
 aZ Tryz.prog G 327 [.c (.aX 0 lo.length n 1),nK .u32 v,.c (.d (.int .u64 t))] [.cells false false 322 (wK .u32 (lo++win++hi))]
  (.ret (.c (.d (.bool (decide (oc (val 4294967296 win) (t*val 4294967296 (dO v))=1))))) [.cells false false 322 (wK .u32 (lo++fG 4294967296 win.length (val 4294967296 win+4294967296 ^ win.length*oc (val 4294967296 win) (t*val 4294967296 (dO v)) - t*val 4294967296 (dO v))++hi))] []):=by
 refine aZ.iQ 1 (by simp) (fun V v h=>gA h) fun hrv=>?_;have okv:ok 4294967296 (dO v):=fun d hd=>by have:=hrv.2 d hd;simp only [nV] at this;omega
 simp only [List.length_append] at hl;refine aZ.Iz Tryz.func327 rfl (by rw [Tryz.ntmps327];simp) ?_;rintro⟨_,_,w0,F0,W0,_,bq,β0⟩ rfl rfl rfl;refine aac fun K hK=>?_;refine aad rfl ?_;simp;apply hK;clear hK K;refine aac fun K hK=>?_;refine aad rfl ?_;simp;apply hK;clear hK K;refine aac fun K hK=>aac fun K1 hK1=>?_;refine aad rfl ?_;simp;apply hK1;clear hK1 K1;refine aak ?_
 refine aax (fun (p:List Nat × Nat × Nat)=>⟨bt [(0,.c (.aX 0 lo.length n 1)),(1,nK .u32 v),(2,.c (.d (.int .u64 t))),(7,.c (.d (.int .u64 p.2.1))),(8,.c (.d (.int .u64 p.2.2))),(13,nK .u32 v),(14,.c (.d (.int .i64 (dO v).length))),(15,.c (.d (.int .i64 p.1.length)))],
  aJ (fun _=>.hole) 0 (.cells false false 322 (wK .u32 (lo++(p.1++win.drop p.1.length)++hi)))⟩) 1000
  (fun p=>p.1.length≤(dO v).length∧ok 4294967296 p.1∧p.2.1<4294967296∧p.2.2≤1∧val 4294967296 p.1+t*val 4294967296 ((dO v).take p.1.length)=val 4294967296 (win.take p.1.length)+4294967296 ^ p.1.length*(p.2.1+p.2.2))
  (fun p=>(dO v).length - p.1.length) ([],0,0) (Le.mk' _ (by simp) (by simp) (by simp)) ⟨by simp,cg _,by simp,by simp,by simp⟩ ?_
 rintro⟨pre,c,b⟩ ⟨h1,h2,h3,h4,h5⟩;simp only at h1 h2 h3 h4 h5;have hwl:pre.length<win.length:=by omega
 have hwd:win.drop pre.length=win[pre.length]::win.drop (pre.length+1):=List.drop_eq_getElem_cons hwl;have hwx:win[pre.length]<4294967296:=okw _ (List.getElem_mem hwl);have hwt:=br (B:=4294967296) hwl;generalize hx0:win[pre.length]=x0 at hwd hwx hwt;generalize hB:lo++(pre++win.drop pre.length)++hi=BL;rw [hwd] at hB;have hget:BL[lo.length+pre.length]?=some x0:=by rw [← hB];exact Ev hi
 have hBl:BL.length=lo.length+(win.length+hi.length):=by rw [← hB];simp;omega
 refine aac fun K3 hK3=>?_;refine aad rfl ?_;simp;apply hK3;clear hK3 K3;refine aac fun K2 hK2=>?_
 by_cases hlt:pre.length<(dO v).length
 ·refine aap (by simp [hlt] <;> omega) ?_;refine aah ?_;simp;apply hK2;refine aac fun K3 hK3=>?_;refine aak ?_;refine aac fun K4 hK4=>?_;refine aad rfl ?_;simp [hlt];apply hK4;clear hK4 K4;refine aac fun K4 hK4=>?_;have hx:(dO v)[pre.length]<4294967296:=okv _ (List.getElem_mem hlt);have hvt:=br (B:=4294967296) hlt;generalize (dO v)[pre.length]=x at hx hvt;have htx:t*x≤4294967295*4294967295:=Nat.mul_le_mul (by omega) (by omega);have e1:=c7 (n:=(x:Int)) (by omega) (by omega)
  have e2:IntKind.u64.wrap ((t:Int)*x)=((t*x:Nat):Int):=by
   rw [← Int.natCast_mul];generalize t*x=p at htx;exact c7 (by omega) (by omega)
  have e3:IntKind.u64.wrap ((c:Int)+((t*x:Nat):Int))=((c+t*x:Nat):Int):=by
   generalize t*x=p at htx;rw [c7 (by omega) (by omega)];omega
  refine aad rfl ?_;simp [e1,e2,e3,-Int.natCast_add,-Int.natCast_mul];apply hK4;clear hK4 K4;generalize hm:c+t*x=m at *
  have hml:m<18446744073709551616:=by rw [← hm];generalize t*x=p at htx;omega
  have e4:IntKind.u32.wrap (m:Int)=((m % 4294967296:Nat):Int):=by rw [og];omega
  have e5:=c7 (n:=((m % 4294967296:Nat):Int)) (by omega) (by omega);have e6:=c7 (n:=(x0:Int)) (by omega) (by omega);have hcb:m % 4294967296<4294967296:=Nat.mod_lt _ (by omega);have hdm:=Nat.div_add_mod m 4294967296;obtain⟨d,b',g1,g2,g3,g4,g5⟩:=yg hwx hcb h4;have e7:Int.fdiv (m:Int) 4294967296=((m / 4294967296:Nat):Int):=by rw [Int.fdiv_eq_ediv_of_nonneg _ (by omega)];omega
  generalize m % 4294967296=mr at *
  generalize m / 4294967296=mq at *
  have i1:=kP (P:=Tryz.prog) (T:=322) (by simp) .u32 hget
  have i2:ak (wK .u32 BL) (lo.length+pre.length) [CV.d (.int .u32 (d:Int))]=wK .u32 (lo++((pre++[d])++win.drop (pre.length+1))++hi):=by
   rw [eR _ (by omega),← hB,tW]
  have i3:lo.length+pre.length+1≤BL.length:=by omega
  have i4:pre.length<n:=by omega
  refine aac fun K4 hK4=>?_;refine aad rfl ?_;simp [i1,e4,e5,e6,i4,-Int.natCast_emod];apply hK4;clear hK4 K4;refine aac fun K4 hK4=>?_;refine aad rfl ?_;simp [g4,i2,i3,i4];apply hK4;clear hK4 K4;refine aac fun K4 hK4=>?_;refine aad rfl ?_;simp [IntKind.bits,g5];apply hK4;clear hK4 K4;refine aad rfl ?_;simp [IntKind.bits,e7,-Int.natCast_ediv];apply hK3;have e8:=bK (n:=(pre.length:Int)+1) (by omega) (by omega);refine aad rfl ?_;simp [e8];refine⟨pre++[d],mq,b',Le.mk' _ (by simp) (by simp) (by simp),⟨by simp;omega,b8.2 ⟨h2,bB.2 ⟨g1,cg _⟩⟩,by omega,g2,?_⟩,by simp;omega⟩;rw [List.length_append,List.length_singleton,ey,hvt,hwt,Nat.pow_succ];have j1:4294967296 ^ pre.length*(d+mr+b)=4294967296 ^ pre.length*(x0+4294967296*b'):=by rw [g3]
  have j2:4294967296 ^ pre.length*(4294967296*(mq)+mr)=4294967296 ^ pre.length*m:=congrArg (fun z=>4294967296 ^ pre.length*z) hdm;have j3:4294967296 ^ pre.length*m=4294967296 ^ pre.length*c+4294967296 ^ pre.length*(t*x):=by rw [← hm,Nat.mul_add]
  have j4:t*(val 4294967296 ((dO v).take pre.length)+4294967296 ^ pre.length*x)=t*val 4294967296 ((dO v).take pre.length)+4294967296 ^ pre.length*(t*x):=by
   rw [Nat.mul_add,Nat.mul_left_comm t]
  have j5:4294967296 ^ pre.length*4294967296*(mq+b')=4294967296 ^ pre.length*(4294967296*(mq))+4294967296 ^ pre.length*(4294967296*b'):=by
   rw [Nat.mul_assoc,Nat.mul_add,Nat.mul_add]
  rw [j4,j5];rw [Nat.mul_add,Nat.mul_add,Nat.mul_add] at j1;rw [Nat.mul_add] at j2 h5;omega
 ·refine aao (by simp [hlt] <;> omega) ?_;refine aav ?_;simp;have ek:pre.length=(dO v).length:=by omega
  apply hK;have hgl:win.drop (pre.length+1)=[]:=List.drop_eq_nil_of_le (by omega);obtain⟨d,b',g1,g2,g3,g4,g5⟩:=yg hwx h3 h4;have e6:=c7 (n:=(x0:Int)) (by omega) (by omega);have i1:=kP (P:=Tryz.prog) (T:=322) (by simp) .u32 hget
  have i2:ak (wK .u32 BL) (lo.length+pre.length) [CV.d (.int .u32 (d:Int))]=wK .u32 (lo++(pre++[d])++hi):=by
   rw [eR _ (by omega),← hB,tW,hgl,List.append_nil]
  have i3:lo.length+pre.length+1≤BL.length:=by omega
  have i4:pre.length<n:=by omega
  rw [← ek];refine aac fun K hK=>?_;refine aad rfl ?_;simp [← ek,i1,e6,i4];apply hK;clear hK K;refine aac fun K hK=>?_;refine aad rfl ?_;simp [← ek,i2,i3,i4,g4];apply hK;clear hK K;refine aac fun K hK=>?_;refine aad rfl ?_;simp [IntKind.bits,g5];apply hK;clear hK K;have hvv:val 4294967296 ((dO v).take pre.length)=val 4294967296 (dO v):=aL (by omega);have hww:val 4294967296 (win.take (pre.length+1))=val 4294967296 win:=aL (by omega);have hL:win.length=pre.length+1:=by omega
  rw [hvv] at h5
  have hfin:val 4294967296 (pre++[d])+t*val 4294967296 (dO v)=val 4294967296 win+4294967296 ^ win.length*b':=by
   rw [hL,ey,← hww,hwt,Nat.pow_succ];have j1:4294967296 ^ pre.length*(d+c+b)=4294967296 ^ pre.length*(x0+4294967296*b'):=by rw [g3]
   rw [Nat.mul_add,Nat.mul_add,Nat.mul_add,← Nat.mul_assoc] at j1;rw [Nat.mul_add] at h5;omega
  have hok:ok 4294967296 (pre++[d]):=b8.2 ⟨h2,bB.2 ⟨g1,cg _⟩⟩;have hlt2:=eC hok;rw [List.length_append,List.length_singleton,← hL] at hlt2;obtain⟨q1,q2⟩:=Hv g2 hfin hlt2;have hdig:=nS hok q2;rw [List.length_append,List.length_singleton,← hL] at hdig;rw [← hdig];have q3:(b':Int)=1↔oc (val 4294967296 win) (t*val 4294967296 (dO v))=1:=by rw [← q1];omega
  refine aag (κ:=0) (Dm.tmp (κ:=0) rfl (by simp [q3]) rfl (by simp) (by simp))
end Go.Am

namespace Go.Am
open Go.Am.Ty Go.Proofs N
theorem I7 {B n:Nat}(hB:0<B) {l:List Nat}(h:ok B l) (hv:val B l=n % B ^ l.length):l=fG B l.length n:=by
 have h1:=nS (qY hB l.length n) (kX l.length n);rw [m8] at h1;rw [h1];exact nS h hv
theorem wR (G:List (List DV))(lo win hi:List Nat)(n:Nat)(v:Option (List Nat))(hw:win.length=(dO v).length+1)(hn:win.length≤n)(okw:ok 4294967296 win)(hl:(lo++win++hi).length≤1000000000000) :
 aZ Tryz.prog G 328 [.c (.aX 0 lo.length n 1),nK .u32 v] [.cells false false 322 (wK .u32 (lo++win++hi))]
  (.ret (.tup []) [.cells false false 322 (wK .u32 (lo++fG 4294967296 win.length (val 4294967296 win+val 4294967296 (dO v))++hi))] []):=by
 refine aZ.iQ 1 (by simp) (fun V v h=>gA h) fun hrv=>?_;have okv:ok 4294967296 (dO v):=fun d hd=>by have:=hrv.2 d hd;simp only [nV] at this;omega
 simp only [List.length_append] at hl;refine aZ.Iz Tryz.func328 rfl (by rw [Tryz.ntmps328];simp) ?_;rintro⟨_,_,w0,F0,W0,_,bq,β0⟩ rfl rfl rfl;refine aac fun K hK=>?_;refine aad rfl ?_;simp;apply hK;clear hK K;refine aac fun K hK=>aac fun K1 hK1=>?_;refine aad rfl ?_;simp;apply hK1;clear hK1 K1;refine aak ?_
 refine aax (fun (p:List Nat × Nat)=>⟨bt [(0,.c (.aX 0 lo.length n 1)),(1,nK .u32 v),(4,.c (.d (.int .u64 p.2))),(7,nK .u32 v),(8,.c (.d (.int .i64 (dO v).length))),(9,.c (.d (.int .i64 p.1.length)))],
  aJ (fun _=>.hole) 0 (.cells false false 322 (wK .u32 (lo++(p.1++win.drop p.1.length)++hi)))⟩) 1000
  (fun p=>p.1.length≤(dO v).length∧ok 4294967296 p.1∧p.2≤1∧val 4294967296 p.1+4294967296 ^ p.1.length*p.2=val 4294967296 (win.take p.1.length)+val 4294967296 ((dO v).take p.1.length))
  (fun p=>(dO v).length - p.1.length) ([],0) (Le.mk' _ (by simp) (by simp) (by simp)) ⟨by simp,cg _,by simp,by simp⟩ ?_
 rintro⟨pre,c⟩ ⟨h1,h2,h4,h5⟩;simp only at h1 h2 h4 h5;have hwl:pre.length<win.length:=by omega
 have hwd:win.drop pre.length=win[pre.length]::win.drop (pre.length+1):=List.drop_eq_getElem_cons hwl;have hwx:win[pre.length]<4294967296:=okw _ (List.getElem_mem hwl);have hwt:=br (B:=4294967296) hwl;generalize hx0:win[pre.length]=x0 at hwd hwx hwt;generalize hB:lo++(pre++win.drop pre.length)++hi=BL;rw [hwd] at hB;have hget:BL[lo.length+pre.length]?=some x0:=by rw [← hB];exact Ev hi
 have hBl:BL.length=lo.length+(win.length+hi.length):=by rw [← hB];simp;omega
 have i1:=kP (P:=Tryz.prog) (T:=322) (by simp) .u32 hget;have i3:lo.length+pre.length+1≤BL.length:=by omega
 have i4:pre.length<n:=by omega
 refine aac fun K3 hK3=>?_;refine aad rfl ?_;simp;apply hK3;clear hK3 K3;refine aac fun K2 hK2=>?_
 by_cases hlt:pre.length<(dO v).length
 ·refine aap (by simp [hlt] <;> omega) ?_;refine aah ?_;simp;apply hK2;refine aac fun K3 hK3=>?_;refine aak ?_;refine aac fun K4 hK4=>?_;refine aad rfl ?_;simp [hlt];apply hK4;clear hK4 K4;refine aac fun K4 hK4=>?_;have hx:(dO v)[pre.length]<4294967296:=okv _ (List.getElem_mem hlt);have hvt:=br (B:=4294967296) hlt;generalize (dO v)[pre.length]=x at hx hvt;have e1:=c7 (n:=(x:Int)) (by omega) (by omega);have e2:=c7 (n:=(x0:Int)) (by omega) (by omega);have e3:IntKind.u64.wrap ((x0:Int)+x)=((x0+x:Nat):Int):=by rw [c7 (by omega) (by omega)];omega
  have e4:IntKind.u64.wrap ((c:Int)+((x0+x:Nat):Int))=((c+(x0+x):Nat):Int):=by rw [c7 (by omega) (by omega)];omega
  refine aad rfl ?_;simp [i1,i4,e1,e2,e3,e4,-Int.natCast_add];apply hK4;clear hK4 K4;have hs:=lU 4294967296 pre (c+(x0+x));have hml:c+(x0+x)<8589934592:=by omega
  generalize hm:c+(x0+x)=m at *
  have e5:IntKind.u32.wrap (m:Int)=((m % 4294967296:Nat):Int):=by rw [og];omega
  have e7:Int.fdiv (m:Int) 4294967296=((m / 4294967296:Nat):Int):=by rw [Int.fdiv_eq_ediv_of_nonneg _ (by omega)];omega
  have hd:m % 4294967296<4294967296:=Nat.mod_lt _ (by omega);have hq:m / 4294967296≤1:=by omega
  generalize m % 4294967296=d at *
  generalize m / 4294967296=q at *
  have i2:ak (wK .u32 BL) (lo.length+pre.length) [CV.d (.int .u32 (d:Int))]=wK .u32 (lo++((pre++[d])++win.drop (pre.length+1))++hi):=by
   rw [eR _ (by omega),← hB,tW]
  refine aac fun K4 hK4=>?_;refine aad rfl ?_;simp [e5,i2,i3,i4];apply hK4;clear hK4 K4;refine aad rfl ?_;simp [IntKind.bits,e7];apply hK3;have e8:=bK (n:=(pre.length:Int)+1) (by omega) (by omega);refine aad rfl ?_;simp [e8];refine⟨pre++[d],q,Le.mk' _ (by simp) (by simp) (by simp),⟨by simp;omega,b8.2 ⟨h2,bB.2 ⟨hd,cg _⟩⟩,hq,?_⟩,by simp;omega⟩;rw [List.length_append,List.length_singleton,hs,hvt,hwt,← hm,Nat.mul_add,Nat.mul_add];omega
 ·refine aao (by simp [hlt] <;> omega) ?_;refine aav ?_;simp;have ek:pre.length=(dO v).length:=by omega
  apply hK;have hgl:win.drop (pre.length+1)=[]:=List.drop_eq_nil_of_le (by omega);have e1:=rT (n:=(c:Int)) (by omega) (by omega);have hs:=lU 4294967296 pre (x0+c);have e2:IntKind.u32.wrap ((x0:Int)+c)=(((x0+c) % 4294967296:Nat):Int):=by rw [og];omega
  have hd:(x0+c) % 4294967296<4294967296:=Nat.mod_lt _ (by omega);generalize (x0+c) / 4294967296=q at *
  generalize (x0+c) % 4294967296=d at *
  have i2:ak (wK .u32 BL) (lo.length+pre.length) [CV.d (.int .u32 (d:Int))]=wK .u32 (lo++(pre++[d])++hi):=by
   rw [eR _ (by omega),← hB,tW,hgl,List.append_nil]
  refine aad rfl ?_;simp [← ek,i1,i2,i3,i4,e1,e2];have hvv:val 4294967296 ((dO v).take pre.length)=val 4294967296 (dO v):=aL (by omega);have hww:val 4294967296 (win.take (pre.length+1))=val 4294967296 win:=aL (by omega);have hL:win.length=(pre++[d]).length:=by simp;omega
  rw [hvv] at h5;have hok:ok 4294967296 (pre++[d]):=b8.2 ⟨h2,bB.2 ⟨hd,cg _⟩⟩;have hlt2:=eC hok
  have hval:val 4294967296 win+val 4294967296 (dO v)=val 4294967296 (pre++[d])+4294967296 ^ (pre++[d]).length*q:=by
   rw [List.length_append,List.length_singleton,hs,← hww,hwt,Nat.mul_add];omega
  have hdig:pre++[d]=fG 4294967296 win.length (val 4294967296 win+val 4294967296 (dO v)):=by
   rw [hL];refine I7 (by decide) hok ?_;rw [hval,Nat.add_mul_mod_self_left,Nat.mod_eq_of_lt hlt2]
  refine Dm.none (.inl rfl) rfl (by simp) ?_;rw [← hdig];simp
end Go.Am

namespace Go.Am
open Go.Am.Ty Go.Proofs N
theorem Gk (G:List (List DV))(a b:Option (List Nat))(ha:can 4294967296 (dO a))(hb:can 4294967296 (dO b))(h:val 4294967296 (dO a)<val 4294967296 (dO b)) :
 aj Tryz.prog G 278 [nK .u32 a,nK .u32 b] (.tup [nK .u32 none,nK .u32 a]):=by
 refine aj.aH Tryz.func278 rfl (by rw [Tryz.ntmps278];simp) ?_;rintro⟨_,_,w0,F0,W0,_,bq,β0⟩ rfl rfl rfl;refine aac fun K hK=>?_;refine aad rfl ?_;simp;apply hK;clear hK K;refine AW.scope ?_;refine aac fun K hK=>?_;refine aad rfl ?_;simp;apply hK;clear hK K;refine aac fun K hK=>?_;refine aak ?_;refine aac fun K1 hK1=>?_;refine aad rfl ?_;simp;refine ai.pure 0 0 (fP ha hb) rfl (by simp) rfl ?_;simp [iI h];apply hK1;clear hK1 K1;refine aaq ?_;refine aac fun K1 hK1=>?_;refine aad rfl ?_;simp;apply hK1;clear hK1 K1;exact aag (κ:=0) (au.o7 (κ:=0) rfl 0 (by simp [nK]) (by simp) (by simp) (by simp) rfl (by simp) (by simp) (by decide))
theorem Gy (G:List (List DV))(a b:Option (List Nat))(ha:can 4294967296 (dO a))(hb:can 4294967296 (dO b))(h:val 4294967296 (dO b)≤val 4294967296 (dO a))(hn:(dO b).length=1)(hl:(dO a).length≤1000000000000) :
 aj Tryz.prog G 278 [nK .u32 a,nK .u32 b] (.tup [nK .u32 (some (aI 4294967296 (val 4294967296 (dO a) / val 4294967296 (dO b)))),nK .u32 (some (aI 4294967296 (val 4294967296 (dO a) % val 4294967296 (dO b))))]):=by
 obtain⟨x,hx⟩:∃ x,dO b=[x]:=by
  match hd:dO b,hn with|[x],_=>exact⟨x,rfl⟩
 have hxv:val 4294967296 (dO b)=x:=by simp [hx]
 have hx0:x≠0:=hb.2 x (by rw [hx];rfl);have hxl:x<4294967296:=hb.1 x (by rw [hx];simp);have hlt:(0:Nat)<(dO b).length:=by omega
 have hix:=fE (P:=Tryz.prog) (T:=222) (lv:=fun _=>.hole) (k:=.u32) (k':=.i64) (o:=b) (i:=0) (by simp) hlt;have hg:(dO b)[0]=x:=by simp [hx]
 simp only [hg,Int.natCast_zero] at hix;refine aj.aH Tryz.func278 rfl (by rw [Tryz.ntmps278];simp) ?_;rintro⟨_,_,w0,F0,W0,_,bq,β0⟩ rfl rfl rfl;refine aac fun K hK=>?_;refine aad rfl ?_;simp;apply hK;clear hK K;refine AW.scope ?_;refine aac fun K hK=>?_;refine aad rfl ?_;simp;apply hK;clear hK K;refine aac fun K hK=>?_;refine aak ?_;refine aac fun K1 hK1=>?_;have hc:¬ dm (val 4294967296 (dO a)) (val 4294967296 (dO b))<0:=by unfold dm;(repeat' split) <;> omega
 refine aad rfl ?_;simp;refine ai.pure 0 0 (fP ha hb) rfl (by simp) rfl ?_;simp only [hxv] at hc ⊢;simp [hc];apply hK1;clear hK1 K1;refine aao (by simp [hc] <;> omega) ?_;refine aac fun K1 hK1=>?_;refine aad rfl ?_;simp;apply hK1;clear hK1 K1;refine aap (by simp [hn] <;> omega) ?_;refine aac fun K1 hK1=>?_;refine aad rfl ?_;simp [hix];refine ai.pure 0 0 (uO _ a x hx0 hl) (by simp [AV.pure,AV.jy];exact⟨rfl,rfl⟩) (by simp) rfl ?_;simp [-Int.natCast_emod];apply hK1;clear hK1 K1;have hml:val 4294967296 (dO a) % x<x:=Nat.mod_lt _ (by omega);generalize hr:val 4294967296 (dO a) % x=r at *
 have e1:=c7 (n:=(r:Int)) (by omega) (by omega);refine aac fun K1 hK1=>?_;refine aad rfl ?_;simp [e1];refine ai.pure 0 0 (fD _ r (by omega)) (by simp) (by simp) rfl ?_;simp;apply hK1;clear hK1 K1;exact aag (κ:=0) (au.o7 (κ:=0) rfl 0 (by simp [hxv]) (by simp [hxv,hr]) (by simp) (by simp) rfl (by simp) (by simp) (by decide))
theorem Kz {lv:Key→LB}(k:IntKind) (l:List Nat):gI lv 1 (nK k (some l))=some (l.length,wK k l):=by
 have h1:(dK k l).all (fun e=>e.length == 1)=true:=by simp [dK]
 have h2:(dK k l).flatten.map CV.d=wK k l:=by
  induction l with
  | nil=>rfl
  | cons x l ih=>simp only [dK,wK,List.map_cons,List.flatten_cons,List.map_append] at ih ⊢;simp [ih]
 simp only [gI,nK,h1,if_true,h2];simp [dK]
theorem uy {lo wl hi:List Nat}{i:Nat}(h:i<wl.length):(lo++wl++hi)[lo.length+i]?=wl[i]?:=by
 rw [List.append_assoc,List.getElem?_append_right (by omega),Nat.add_sub_cancel_left,List.getElem?_append_left h]
theorem Zt {B:Nat}{l:List Nat}{n:Nat}(hn:2≤n) (hl:l.length=n+1):val B l=((l[n]*B+l[n - 1])*B+l[n - 2])*B ^ (n - 2)+val B (l.take (n - 2)):=by
 have h1:=bW (B:=B) l (n - 2) (by omega);have e1:n - 2+1=n - 1:=by omega
 have e2:n - 1+1=n:=by omega
 rw [cz (by omega:n - 2<l.length)] at h1;simp only [e1] at h1;rw [cz (by omega:n - 1<l.length)] at h1;simp only [e2] at h1;rw [cz (by omega:n<l.length),eB (by omega)] at h1;rw [h1,Nat.mul_zero,Nat.add_zero,Nat.mul_comm (B ^ (n - 2)),Nat.add_comm];congr 2;rw [Nat.add_mul,Nat.mul_comm B (l[n - 1]+B*l[n]),Nat.mul_comm B l[n],Nat.add_comm l[n - 1],Nat.add_comm l[n - 2]];rw [Nat.add_mul]
theorem ZB {B:Nat}{l:List Nat}{n:Nat}(hn:2≤n) (hl:l.length=n):val B l=(l[n - 1]*B+l[n - 2])*B ^ (n - 2)+val B (l.take (n - 2)):=by
 have h1:=bW (B:=B) l (n - 2) (by omega);have e1:n - 2+1=n - 1:=by omega
 rw [cz (by omega:n - 2<l.length)] at h1;simp only [e1] at h1;rw [cz (by omega:n - 1<l.length),eB (by omega)] at h1;rw [h1,Nat.mul_zero,Nat.add_zero,Nat.mul_comm (B ^ (n - 2)),Nat.add_comm];congr 2;rw [Nat.mul_comm B,Nat.add_comm]
end Go.Am

namespace Go.Am
open Go.Am.Ty Go.Proofs N
structure Dv (dV:List Nat) (n la m U0:Nat):Prop where
 hn:2≤n
 hla:la≤1000000000000
 hm:m+n=la+1
 Qa:1≤m
 okV:ok 4294967296 dV
 aau:dV.length=n
 aaw:2147483648≤dV.getD (n - 1) 0
def dvI (dV:List Nat)(n m U0:Nat)(p:Nat × List Nat × List Nat × List Nat):Prop:=
 p.1≤m∧p.2.1.length=p.1∧p.2.2.1.length=n∧ok 4294967296 p.2.1∧ok 4294967296 p.2.2.1∧p.2.2.2.length+p.1=m∧ok 4294967296 p.2.2.2∧val 4294967296 p.2.2.1<val 4294967296 dV ∧
  val 4294967296 p.2.1+4294967296 ^ p.1*(val 4294967296 p.2.2.1+val 4294967296 dV*val 4294967296 p.2.2.2)=U0
def dvS (dV:List Nat)(n la m s:Nat)(p:Nat × List Nat × List Nat × List Nat):aG:=
 ⟨bt [(4,.c (.aX 1 0 m 1)),(6,.c (.d (.int .i64 n))),(9,.c (.d (.int .i64 s))),(10,nK .u32 (some dV)),(11,.c (.aX 0 0 (la+1) 1)),(12,.c (.d (.int .i64 ((p.1:Int) - 1))))],
  aJ (aJ (fun _=>.hole) 0 (.cells true false 322 (wK .u32 (p.2.1++p.2.2.1++List.replicate (m - p.1) 0)))) 1 (.cells true false 322 (wK .u32 (List.replicate p.1 0++p.2.2.2)))⟩
theorem Po {b:List Nat}{n:Nat}(hb:can 4294967296 b) (hn:b.length=n) (h1:1≤n):∃ t s,b[n - 1]?=some t∧t<4294967296∧s≤31∧bf t+s=32∧val 4294967296 b*2 ^ s<4294967296 ^ n∧4294967296 ^ (n - 1)*2147483648≤val 4294967296 b*2 ^ s:=by
 have hlt:n - 1<b.length:=by omega
 have ht0:b[n - 1]≠0:=hb.2 _ (by rw [List.getLast?_eq_getElem?,hn,List.getElem?_eq_getElem hlt]);have htl:b[n - 1]<4294967296:=hb.1 _ (List.getElem_mem hlt);have hv:=bW (B:=4294967296) b (n - 1) (by omega);rw [cz hlt,eB (by omega)] at hv;have hl:=eC (ki hb.1 (n - 1));rw [List.length_take,Nat.min_eq_left (by omega)] at hl;refine⟨b[n - 1],32 - bf b[n - 1],List.getElem?_eq_getElem hlt,htl,?_⟩;generalize b[n - 1]=t at *
 have hb1:=jd ht0;have hb2:=qz t;have hb3:1≤bf t:=by simp [bf,ht0]
 have hb4:bf t≤32:=by
  apply Classical.byContradiction;intro hc;have h9:2 ^ 32≤2 ^ (bf t - 1):=Nat.pow_le_pow_right (by decide) (by omega);omega
 have p1:2 ^ bf t*2 ^ (32 - bf t)=4294967296:=by
  rw [← Nat.pow_add];have:bf t+(32 - bf t)=32:=by omega
  rw [this]
 have p2:2 ^ (bf t - 1)*2 ^ (32 - bf t)=2147483648:=by
  rw [← Nat.pow_add];have:bf t - 1+(32 - bf t)=31:=by omega
  rw [this]
 refine⟨by omega,by omega,?_,?_⟩
 ·have q1:val 4294967296 b+1≤4294967296 ^ (n - 1)*2 ^ bf t:=by
   have:4294967296 ^ (n - 1)*(t+1)≤4294967296 ^ (n - 1)*2 ^ bf t:=Nat.mul_le_mul_left _ hb2;rw [Nat.mul_add,Nat.mul_one] at this;simp only [Nat.mul_zero,Nat.add_zero] at hv;omega
  have q2:(val 4294967296 b+1)*2 ^ (32 - bf t)≤4294967296 ^ (n - 1)*2 ^ bf t*2 ^ (32 - bf t):=Nat.mul_le_mul_right _ q1;have q3:4294967296 ^ (n - 1)*4294967296=4294967296 ^ n:=by rw [← Nat.pow_succ];congr 1;omega
  rw [Nat.mul_assoc,p1,q3,Nat.add_mul,Nat.one_mul] at q2;have:=Nat.pow_pos (a:=2) (n:=32 - bf t) (by decide);omega
 ·rw [← p2,← Nat.mul_assoc];refine Nat.mul_le_mul_right _ ?_;have:4294967296 ^ (n - 1)*2 ^ (bf t - 1)≤4294967296 ^ (n - 1)*t:=Nat.mul_le_mul_left _ hb1;simp only [Nat.mul_zero,Nat.add_zero] at hv;omega
theorem Ml {B:Nat}(hB:0<B) (L n:Nat):fG B L (n % B ^ L)=fG B L n:=by
 have h:=nS (qY hB L n) rfl;rw [m8,kX] at h;exact h.symm
theorem Gl {B:Nat}(hB:0<B) (L n:Nat):fG B L (B ^ L+n)=fG B L n:=by
 rw [← Ml hB,Nat.add_mod_left,Ml hB]
theorem y6 {a b c:LB}:aJ (aJ (aJ (fun _=>LB.hole) 0 a) 1 b) 0 c=aJ (aJ (fun _=>LB.hole) 0 c) 1 b:=by
 funext k;simp only [aJ]
 by_cases h0:k=0
 ·subst h0;simp
 ·simp [h0]
set_option maxHeartbeats 4000000 in
theorem Ij (a b:Option (List Nat))(ha:can 4294967296 (dO a))(hb:can 4294967296 (dO b))(h:val 4294967296 (dO b)≤val 4294967296 (dO a))(hn:2≤(dO b).length)(hl:(dO a).length<1000000000000) :
 ∀ G,aj Tryz.prog G 278 [nK .u32 a,nK .u32 b] (.tup [nK .u32 (some (aI 4294967296 (val 4294967296 (dO a) / val 4294967296 (dO b)))),nK .u32 (if val 4294967296 (dO a) % val 4294967296 (dO b)=0 then none else some (aI 4294967296 (val 4294967296 (dO a) % val 4294967296 (dO b))))]):=by
 intro G;obtain⟨t,s,ht,htl,hs,hts,hV1,hV2⟩:=Po hb rfl (by omega)
 have hlen:(dO b).length≤(dO a).length:=by
  apply Classical.byContradiction;intro hc;have:=jJ (by omega) ha hb (by omega);omega
 have hb0:dO b≠[]:=fun e=>by rw [e] at hn;simp at hn
 have ha0:dO a≠[]:=fun e=>by rw [e] at hlen;simp at hlen;exact hb0 hlen
 obtain⟨hk,hte⟩:=List.getElem?_eq_some_iff.1 ht;have hlz:=lY G t htl;have e0:(32 - (bf t:Int))=(s:Int):=by omega
 rw [e0] at hlz;have hsb:=fL G b s (by omega) (by omega);have hsa:=fL G a s (by omega) (by omega);rw [if_neg hb0] at hsb;rw [if_neg ha0] at hsa;refine aj.aH Tryz.func278 rfl (by rw [Tryz.ntmps278];simp) ?_;rintro⟨_,_,w0,F0,W0,_,bq,β0⟩ rfl rfl rfl;refine aac fun K hK=>?_;refine aad rfl ?_;simp;apply hK;clear hK K;refine AW.scope ?_;refine aac fun K hK=>?_;refine aad rfl ?_;simp;apply hK;clear hK K;refine aac fun K hK=>?_;refine aak ?_;refine aac fun K1 hK1=>?_;have hc:¬ dm (val 4294967296 (dO a)) (val 4294967296 (dO b))<0:=by unfold dm;(repeat' split) <;> omega
 refine aad rfl ?_;simp;refine ai.pure 0 0 (fP ha hb) rfl (by simp) rfl ?_;simp [hc];apply hK1;clear hK1 K1;refine aao (by simp [hc] <;> omega) ?_;refine aac fun K1 hK1=>?_;refine aad rfl ?_;simp;apply hK1;clear hK1 K1;have hn1:¬ (dO b).length=1:=by omega
 refine aao (by simp [hn1] <;> omega) ?_;refine aah ?_;simp;apply hK;clear hK K;have e1:IntKind.i64.wrap (((dO b).length:Int) - 1)=(((dO b).length - 1:Nat):Int):=by rw [bK (by omega) (by omega)];omega
 refine aac fun K hK=>?_;refine aad rfl ?_;simp [e1,hk,hte];refine ai.pure 0 0 hlz rfl (by simp) rfl ?_;simp;apply hK;clear hK K;refine aac fun K hK=>?_;refine aad rfl ?_;simp;refine ai.pure 0 0 hsb (by simp) (by simp) rfl ?_;simp;apply hK;clear hK K;have e2:=bK (n:=((dO a).length:Int)+1) (by omega) (by omega);refine aac fun K hK=>?_;refine aad rfl ?_;simp [e2]
 repeat refine ag ?_
 apply hK;clear hK K;refine aac fun K hK=>?_;refine aad rfl ?_;simp;refine ai.pure 1 5 hsa (by simp) (by simp) (by simp) ?_;simp [fX,Kz];have hA:=pn (B:=4294967296) (n:=val 4294967296 (dO a)) (by decide);rw [← fV (by decide) ha rfl] at hA;have hU1:val 4294967296 (dO a)*2 ^ s<4294967296 ^ (dO a).length*2 ^ s:=Nat.mul_lt_mul_of_pos_right hA (Nat.pow_pos (by decide));have hs31:(2:Nat) ^ s≤2147483648:=Nat.pow_le_pow_right (n:=2) (by decide) hs
 have hU2:val 4294967296 (dO a)*2 ^ s<4294967296 ^ ((dO a).length+1):=by
  rw [Nat.pow_succ];refine Nat.lt_of_lt_of_le hU1 (Nat.mul_le_mul_left _ (by omega))
 have hApos:0<val 4294967296 (dO a):=gu ha ha0;have hBpos:0<val 4294967296 (dO b):=gu hb hb0;have hU0:val 4294967296 (dO a)*2 ^ s≠0:=Nat.ne_of_gt (Nat.mul_pos hApos (Nat.pow_pos (by decide)));have hV0:val 4294967296 (dO b)*2 ^ s≠0:=Nat.ne_of_gt (Nat.mul_pos hBpos (Nat.pow_pos (by decide)));have hUl:=cB (by decide) hU2;have hUp:0<(aI 4294967296 (val 4294967296 (dO a)*2 ^ s)).length:=List.length_pos_iff.2 (fun e=>hU0 ((dw (by decide)).1 e));have okU:=(bk (B:=4294967296) (by decide) (val 4294967296 (dO a)*2 ^ s)).1;have vU:=bg (B:=4294967296) (by decide) (val 4294967296 (dO a)*2 ^ s);have canV:=bk (B:=4294967296) (by decide) (val 4294967296 (dO b)*2 ^ s);have vV:=bg (B:=4294967296) (by decide) (val 4294967296 (dO b)*2 ^ s)
 have lV:(aI 4294967296 (val 4294967296 (dO b)*2 ^ s)).length=(dO b).length:=by
  refine Nat.le_antisymm (cB (by decide) hV1) ?_;apply Classical.byContradiction;intro hc;have g1:=pn (B:=4294967296) (n:=val 4294967296 (dO b)*2 ^ s) (by decide);have g2:4294967296 ^ (aI 4294967296 (val 4294967296 (dO b)*2 ^ s)).length≤4294967296 ^ ((dO b).length - 1):=Nat.pow_le_pow_right (by decide) (by omega);have g3:4294967296 ^ ((dO b).length - 1)*1≤4294967296 ^ ((dO b).length - 1)*2147483648:=Nat.mul_le_mul_left _ (by decide);omega
 have hq:val 4294967296 (dO a) / val 4294967296 (dO b)=(val 4294967296 (dO a)*2 ^ s) / (val 4294967296 (dO b)*2 ^ s):=(Nat.mul_div_mul_right _ _ (Nat.pow_pos (by decide))).symm;have hr:(val 4294967296 (dO a)*2 ^ s) % (val 4294967296 (dO b)*2 ^ s)=(val 4294967296 (dO a) % val 4294967296 (dO b))*2 ^ s:=Nat.mul_mod_mul_right _ _ _;generalize hdV:aI 4294967296 (val 4294967296 (dO b)*2 ^ s)=dV at *
 generalize hdU:aI 4294967296 (val 4294967296 (dO a)*2 ^ s)=dU at *
 rw [Nat.min_eq_left hUl]
 have hseg:ak (wK .u32 (List.replicate ((dO a).length+1) 0)) 0 ((wK .u32 dU).take dU.length)=wK .u32 (dU++List.replicate ((dO a).length+1 - dU.length) 0):=by
  simp [ak,wK,← List.map_take,← List.map_drop]
 refine⟨⟨hUp,hUl,by omega⟩,?_⟩;simp only [List.take_of_length_le (by simp:(wK .u32 dU).length≤dU.length)] at hseg ⊢;rw [fu,hseg];apply hK;clear hK K;refine aaA 1 ?_;have e3:IntKind.i64.wrap (((dO a).length:Int) - (dO b).length)=(((dO a).length - (dO b).length:Nat):Int):=by rw [bK (by omega) (by omega)];omega
 have e4:IntKind.i64.wrap ((((dO a).length - (dO b).length:Nat):Int)+1)=(((dO a).length - (dO b).length+1:Nat):Int):=by rw [bK (by omega) (by omega)];omega
 obtain⟨m,hm⟩:∃ m,m=(dO a).length - (dO b).length+1:=⟨_,rfl⟩
 rw [← hm] at e4;refine aac fun K hK=>?_;refine aad rfl ?_;simp [e3,e4]
 repeat refine ag ?_
 apply hK;clear hK K;refine aac fun K hK=>AW.label ?_;simp;apply hK;clear hK K;have e5:IntKind.i64.wrap ((m:Int) - 1)=(m:Int) - 1:=bK (by omega) (by omega);refine aac fun K hK=>aac fun K1 hK1=>?_;refine aad rfl ?_;simp [e5]
 repeat refine ag ?_
 apply hK1;clear hK1 K1;refine aak ?_;have hlu:(dU++List.replicate ((dO a).length+1 - dU.length) 0).length=(dO a).length+1:=by simp;omega
 have hok:ok 4294967296 (dU++List.replicate ((dO a).length+1 - dU.length) 0):=b8.2 ⟨okU,pM (by decide) _⟩;have hvu:val 4294967296 (dU++List.replicate ((dO a).length+1 - dU.length) 0)=val 4294967296 (dO a)*2 ^ s:=by rw [iy,nJ,vU];omega
 generalize hu0:dU++List.replicate ((dO a).length+1 - dU.length) 0=u0 at *
 have htd:=bW (B:=4294967296) u0 m (by omega);have hdv:=jZ hok m (by omega)
 have hrV:val 4294967296 (u0.drop m)<val 4294967296 dV:=by
  rw [← hdv,hvu,vV]
  have g1:val 4294967296 (dO a)*2 ^ s<4294967296 ^ m*(4294967296 ^ ((dO b).length - 1)*2147483648):=by
   have:4294967296 ^ (dO a).length*2 ^ s≤4294967296 ^ m*(4294967296 ^ ((dO b).length - 1)*2147483648):=by
    rw [← Nat.mul_assoc,← Nat.pow_add];have:m+((dO b).length - 1)=(dO a).length:=by omega
    rw [this];exact Nat.mul_le_mul_left _ hs31
   omega
  refine Nat.div_lt_of_lt_mul (Nat.lt_of_lt_of_le g1 (Nat.mul_le_mul_left _ hV2))
 have hI0:dvI dV (dO b).length m (val 4294967296 (dO a)*2 ^ s) (m,u0.take m,u0.drop m,[]):=by
  refine⟨Nat.le_refl _,by simp;omega,by simp;omega,ki hok _,zm hok _,by simp,cg _,hrV,?_⟩;simp only [qw,Nat.mul_zero,Nat.add_zero];rw [← htd,hvu]
 refine aax (dvS dV (dO b).length (dO a).length m s) 2 (dvI dV (dO b).length m (val 4294967296 (dO a)*2 ^ s)) (fun p=>p.1) (m,u0.take m,u0.drop m,[]) (Le.mk' _ (by simp [fu]) (by simp) (by simp)) hI0 ?_;rintro⟨k,lo,r,qs⟩ ⟨i1,i2,i3,i4,i5,i6,i7,i8,i9⟩;simp only at i1 i2 i3 i4 i5 i6 i7 i8 i9;unfold dvS;refine aac fun K3 hK3=>aac fun K4 hK4=>?_;refine aad rfl ?_;simp;apply hK4;clear hK4 K4
 cases k with
 | zero=>
  refine aat ?_;refine aav ?_;simp;apply hK;refine aac fun K hK=>?_;have el:lo=[]:=List.length_eq_zero_iff.1 i2;subst el;simp only [qw,Nat.pow_zero,Nat.one_mul,Nat.zero_add] at i9;simp only [Nat.add_zero] at i6
  have hQ:(val 4294967296 (dO a)*2 ^ s) / (val 4294967296 (dO b)*2 ^ s)=val 4294967296 qs:=by
   rw [← vV,← i9,Nat.add_mul_div_left _ _ (by omega),Nat.div_eq_of_lt i8,Nat.zero_add]
  have hR:(val 4294967296 (dO a)*2 ^ s) % (val 4294967296 (dO b)*2 ^ s)=val 4294967296 r:=by
   rw [← vV,← i9,Nat.add_mul_mod_self_left,Nat.mod_eq_of_lt i8]
  refine aay mixed (by kernel_rfl) rfl ?_;simp [fQ];have hlq:qs.length=m:=i6
  have hQt:cN (qs.take m)=aI 4294967296 (val 4294967296 (dO a) / val 4294967296 (dO b)):=by
   rw [List.take_of_length_le (by omega)];exact di (by decide) i7 (by rw [hq,hQ])
  have hrt:(r++List.replicate m 0).take (dO b).length=r:=by rw [← i3];simp
  have hRt:cN ((r++List.replicate m 0).take (dO b).length)=aI 4294967296 ((val 4294967296 (dO a) % val 4294967296 (dO b))*2 ^ s):=by
   rw [hrt];exact di (by decide) i5 (by rw [← hr,hR])
  refine r6.n7 (l:=qs) 2 5 1 m (by omega) (by simp;rfl) (by omega) (cZ _ _) (by simp) (by simp) (by simp) ?_;have hlr:(dO b).length≤(dO a).length+1:=by omega
  simp [fQ]
  repeat refine ag ?_
  refine r6.n7 (l:=r++List.replicate m 0) 2 5 0 (dO b).length (by simp;omega) (by simp;rfl) (by simp;omega) (cZ _ _) (by simp) (by simp) (by simp) ?_;simp only [hQt,hRt];simp
  have hsh:∀ G,aj Tryz.prog G 329 [nK .u32 (some (aI 4294967296 ((val 4294967296 (dO a) % val 4294967296 (dO b))*2 ^ s))),.c (.d (.int .i64 s))] (nK .u32 (if val 4294967296 (dO a) % val 4294967296 (dO b)=0 then none else some (aI 4294967296 (val 4294967296 (dO a) % val 4294967296 (dO b))))):=by
   intro G
   have hx:(aI 4294967296 ((val 4294967296 (dO a) % val 4294967296 (dO b))*2 ^ s)).length≤1000000000000:=by
    rw [← hRt,hrt];exact Nat.le_trans (Ib r) (by omega)
   have key:=Ad G (some (aI 4294967296 ((val 4294967296 (dO a) % val 4294967296 (dO b))*2 ^ s))) s hx (by omega);have hs0:s / 32=0:=by omega
   simp only [aV,hs0] at key;rw [bg (by decide),Nat.mul_div_cancel _ (Nat.pow_pos (by decide))] at key
   by_cases hz:val 4294967296 (dO a) % val 4294967296 (dO b)=0
   ·rw [hz] at key ⊢;simpa using key
   ·rw [if_neg hz];rw [if_neg] at key
    ·exact key
    ·intro hc;have h9:=List.length_eq_zero_iff.1 (Nat.le_zero.1 hc);have:=(dw (by decide)).1 h9;have h8:=Nat.mul_pos (Nat.pos_of_ne_zero hz) (Nat.pow_pos (a:=2) (n:=s) (by decide));omega
  refine ai.pure 2 5 (hsh _) (by simp) (by simp) (by simp) ?_;simp;refine⟨by kernel_rfl,?_⟩;apply hK;clear hK K;exact aag (κ:=0) (au.o7 (κ:=0) rfl 5 (by simp) (by simp) (by simp) (by simp) (by simp) (by simp) (by simp) (by decide))
 | succ j=>
  refine aaq ?_;refine aah ?_;simp;apply hK3;rcases List.eq_nil_or_concat lo with rfl|⟨lo',x,rfl⟩
  ·simp at i2
  rw [List.concat_eq_append] at *
  have hlo:lo'.length=j:=by simp at i2;exact i2
  obtain⟨oklo,hx1⟩:=b8.1 i4;have hx:x<4294967296:=(bB.1 hx1).1;have e6:((j+1:Nat):Int) - 1=j:=by omega
  simp only [e6];have hwl:(x::r).length=(dO b).length+1:=by simp [i3]
  have okw:ok 4294967296 (x::r):=bB.2 ⟨hx,i5⟩;have hWv:val 4294967296 (x::r)=x+4294967296*val 4294967296 r:=rfl
  have hWV:val 4294967296 (x::r)<4294967296*val 4294967296 dV:=by
   have:4294967296*(val 4294967296 r+1)≤4294967296*val 4294967296 dV:=Nat.mul_le_mul_left _ i8;rw [Nat.mul_add] at this;omega
  have hEW:=Zt (B:=4294967296) hn hwl;have hEV:=ZB (B:=4294967296) hn lV;have Ue:=eC (ki okw ((dO b).length - 2));rw [List.length_take,Nat.min_eq_left (by omega)] at Ue;have okV:=canV.1;have QE:=eC (ki okV ((dO b).length - 2));rw [List.length_take,Nat.min_eq_left (by omega)] at QE
  have hv1':val 4294967296 dV / 4294967296 ^ ((dO b).length - 1)=dV[(dO b).length - 1]:=by
   rw [jZ okV _ (by omega),cz (by omega:(dO b).length - 1<dV.length),eB (l:=dV) (i:=(dO b).length - 1+1) (by omega)];rfl
  have Aw:2147483648≤dV[(dO b).length - 1]:=by
   rw [← hv1',Nat.le_div_iff_mul_le (Nat.pow_pos (by decide)),vV,Nat.mul_comm];exact hV2
  generalize hBL:lo'++[x]++(r++List.replicate (m - (j+1)) 0)=BL;have hBL':lo'++(x::r)++List.replicate (m - (j+1)) 0=BL:=by rw [← hBL];simp
  have hBLl:BL.length=(dO a).length+1:=by rw [← hBL'];simp;omega
  have hb0:BL[j+(dO b).length]?=some (x::r)[(dO b).length]:=by
   rw [← hBL',← hlo,uy (by omega),List.getElem?_eq_getElem (by omega)]
  have hb1:BL[j+(dO b).length - 1]?=some (x::r)[(dO b).length - 1]:=by
   have:j+(dO b).length - 1=lo'.length+((dO b).length - 1):=by omega
   rw [← hBL',this,uy (by omega),List.getElem?_eq_getElem (by omega)]
  have hb2:BL[j+(dO b).length - 2]?=some (x::r)[(dO b).length - 2]:=by
   have:j+(dO b).length - 2=lo'.length+((dO b).length - 2):=by omega
   rw [← hBL',this,uy (by omega),List.getElem?_eq_getElem (by omega)]
  have ha0l:(x::r)[(dO b).length]<4294967296:=okw _ (List.getElem_mem (by omega));have ha1l:(x::r)[(dO b).length - 1]<4294967296:=okw _ (List.getElem_mem (by omega));have ha2l:(x::r)[(dO b).length - 2]<4294967296:=okw _ (List.getElem_mem (by omega));have hv1l:dV[(dO b).length - 1]<4294967296:=okV _ (List.getElem_mem (by omega));have hv2l:dV[(dO b).length - 2]<4294967296:=okV _ (List.getElem_mem (by omega));have hxv1:(dO b).length - 1<(dO (some dV)).length:=by simp;omega
  have hxv2:(dO b).length - 2<(dO (some dV)).length:=by simp;omega
  have gv1:∀ lv,az Tryz.prog 222 lv (nK .u32 (some dV)) (.c (.d (.int .i64 (((dO b).length - 1:Nat):Int))))=some (.c (.d (.ptr [DV.int .u32 (dV[(dO b).length - 1]:Int)])),[],[],True):=fun lv=>fE (by simp) hxv1
  have gv2:∀ lv,az Tryz.prog 222 lv (nK .u32 (some dV)) (.c (.d (.int .i64 (((dO b).length - 2:Nat):Int))))=some (.c (.d (.ptr [DV.int .u32 (dV[(dO b).length - 2]:Int)])),[],[],True):=fun lv=>fE (by simp) hxv2
  have hEst:LZ 4294967296 (4294967296 ^ ((dO b).length - 2)) (val 4294967296 dV) (val 4294967296 (x::r)) dV[(dO b).length - 1] dV[(dO b).length - 2] (val 4294967296 (dV.take ((dO b).length - 2))) ((x::r)[(dO b).length]*4294967296+(x::r)[(dO b).length - 1]) (x::r)[(dO b).length - 2] (val 4294967296 ((x::r).take ((dO b).length - 2))):=
   ⟨hEV,hEW,QE,Ue,hv2l,ha2l,hWV,by omega,by omega⟩
  generalize (x::r)[(dO b).length]=a0 at *
  generalize (x::r)[(dO b).length - 1]=a1 at *
  generalize (x::r)[(dO b).length - 2]=a2 at *
  generalize dV[(dO b).length - 1]=v1 at *
  generalize dV[(dO b).length - 2]=v2 at *
  have l0:=kP (P:=Tryz.prog) (T:=322) (by simp) .u32 hb0;have l1:=kP (P:=Tryz.prog) (T:=322) (by simp) .u32 hb1;have l2:=kP (P:=Tryz.prog) (T:=322) (by simp) .u32 hb2;have f1:IntKind.i64.wrap ((j:Int)+(dO b).length)=((j+(dO b).length:Nat):Int):=by rw [bK (by omega) (by omega)];omega
  have f2:IntKind.i64.wrap (((j+(dO b).length:Nat):Int) - 1)=((j+(dO b).length - 1:Nat):Int):=by rw [bK (by omega) (by omega)];omega
  have f3:IntKind.i64.wrap (((j+(dO b).length:Nat):Int) - 2)=((j+(dO b).length - 2:Nat):Int):=by rw [bK (by omega) (by omega)];omega
  have f4:=c7 (n:=(a0:Int)) (by omega) (by omega);have f5:=c7 (n:=(a1:Int)) (by omega) (by omega);have f6:=c7 (n:=(a2:Int)) (by omega) (by omega);have f7:=c7 (n:=(v1:Int)) (by omega) (by omega);have f8:=c7 (n:=(v2:Int)) (by omega) (by omega);have f9:IntKind.u64.wrap ((a0:Int)*4294967296)=((a0*4294967296:Nat):Int):=by rw [c7 (by omega) (by omega)];omega
  obtain⟨top,htp⟩:∃ t,t=a0*4294967296+a1:=⟨_,rfl⟩
  have f10:Jz .u64 ((a0*4294967296:Nat):Int) (a1:Int)=(top:Int):=by rw [htp];exact qk ha0l ha1l
  rw [← htp] at hEst;have htop:=hEst.M8;refine aac fun K5 hK5=>?_;refine aak ?_;refine aac fun K6 hK6=>?_;refine aaz mixed (by kernel_rfl) rfl rfl ?_;simp [f1,f2,l0,l1,f4,f5,f9,f10,IntKind.bits,-Int.natCast_add,-Int.natCast_mul]
  repeat refine ag ?_
  apply hK6;clear hK6 K6;have htop64:top<18446744073709551616:=by omega
  have f11:Int.tdiv (top:Int) v1=((top / v1:Nat):Int):=by rw [Int.tdiv_eq_ediv_of_nonneg (Int.natCast_nonneg top),← Int.natCast_ediv]
  have f12:Int.tmod (top:Int) v1=((top % v1:Nat):Int):=by rw [Int.tmod_eq_emod_of_nonneg (Int.natCast_nonneg top),← Int.natCast_emod]
  have hdm:=Nat.div_add_mod top v1;have hml:top % v1<v1:=Nat.mod_lt _ (by omega);have hq0:val 4294967296 (x::r) / val 4294967296 dV*val 4294967296 dV≤val 4294967296 (x::r):=Nat.div_mul_le_self _ _;have hVp:0<val 4294967296 dV:=hEst.V0
  have hq1:val 4294967296 (x::r)<(val 4294967296 (x::r) / val 4294967296 dV+1)*val 4294967296 dV:=by
   rw [Nat.mul_comm];exact Nat.lt_mul_div_succ _ hVp
  have hqB:val 4294967296 (x::r) / val 4294967296 dV<4294967296:=by rw [Nat.div_lt_iff_lt_mul hVp];exact hWV
  have hqf:=hEst.first hq0
  have hg0:top / v1≤4294967297:=by
   apply Nat.lt_succ_iff.1;rw [Nat.div_lt_iff_lt_mul (by omega)];omega
  obtain⟨qt,hqt⟩:∃ qt,qt=val 4294967296 (x::r) / val 4294967296 dV:=⟨_,rfl⟩
  rw [← hqt] at hq0 hq1 hqB hqf;obtain⟨g0,hg0'⟩:∃ g,g=top / v1:=⟨_,rfl⟩
  obtain⟨o0,ho0'⟩:∃ o,o=top % v1:=⟨_,rfl⟩
  rw [← hg0'] at f11 hdm hqf hg0;rw [← ho0'] at f12 hdm hml;have f13:=c7 (n:=(g0:Int)) (by omega) (by omega);have hv10:¬ v1=0:=by omega
  have f14:IntKind.i64.wrap (((dO b).length:Int) - 1)=(((dO b).length - 1:Nat):Int):=e1;refine aac fun K6 hK6=>?_;refine aaz mixed (by kernel_rfl) rfl rfl ?_;simp [f14,gv1,f7,f11,f12,f13,hv10];apply hK6;clear hK6 K6
  have close:∀ (fr:Nat→AV) (κ:Nat),fr 4=.c (.aX 1 0 m 1)→fr 6=.c (.d (.int .i64 (dO b).length))→fr 9=.c (.d (.int .i64 s))→fr 10=nK .u32 (some dV)→fr 11=.c (.aX 0 0 ((dO a).length+1) 1)→fr 12=.c (.d (.int .i64 j)) →
   K5 ⟨fr,aJ (aJ (fun _=>.hole) 0 (.cells true false 322 (wK .u32 (lo'++(fG 4294967296 (dO b).length (val 4294967296 (x::r) % val 4294967296 dV)++List.replicate (m - j) 0))))) 1 (.cells true false 322 (wK .u32 (List.replicate j 0++(qt::qs))))⟩ κ:=by
   intro fr κ q4 q6 q9 q10 q11 q12;apply hK5;have g1:=bK (n:=(j:Int) - 1) (by omega) (by omega);refine aad rfl ?_;simp [q12,g1];have hml2:val 4294967296 (x::r) % val 4294967296 dV<val 4294967296 dV:=Nat.mod_lt _ hVp;have hVn:val 4294967296 dV<4294967296 ^ (dO b).length:=by rw [vV];exact hV1
   refine⟨j,lo',fG 4294967296 (dO b).length (val 4294967296 (x::r) % val 4294967296 dV),qt::qs,Le.mk' _ (by simp) (by simp) (by simp [q4,q6,q9,q10,q11]),⟨by omega,hlo,m8 _ _ _,oklo,qY (by decide) _ _,by simp only [List.length_cons];omega,bB.2 ⟨hqB,i7⟩,?_,?_⟩,by omega⟩
   ·simp only [kX];rw [Nat.mod_eq_of_lt (Nat.lt_trans hml2 hVn)];exact hml2
   ·simp only [kX];rw [bJ 4294967296 qt qs,Nat.mod_eq_of_lt (Nat.lt_trans hml2 hVn),← i9,iy,hlo,Nat.pow_succ];have hdm2:=Nat.mod_add_div (val 4294967296 (x::r)) (val 4294967296 dV);rw [← hqt] at hdm2
    have h1:val 4294967296 (x::r) % val 4294967296 dV+val 4294967296 dV*(qt+4294967296*val 4294967296 qs)=x+4294967296*(val 4294967296 r+val 4294967296 dV*val 4294967296 qs):=by
     rw [Nat.mul_add,← Nat.add_assoc,hdm2,hWv,Nat.mul_add,Nat.mul_left_comm,Nat.add_assoc]
    rw [h1,bJ,qw,Nat.mul_zero,Nat.add_zero,Nat.mul_add,Nat.mul_assoc,Nat.add_assoc]
  refine aac fun K6 hK6=>?_;refine aak ?_
  have fin:∀ (g:Nat) (fr:Nat→AV) (κ:Nat),g<4294967296→qt≤g→g≤qt+1→fr 4=.c (.aX 1 0 m 1)→fr 6=.c (.d (.int .i64 (dO b).length))→fr 9=.c (.d (.int .i64 s))→fr 10=nK .u32 (some dV)→fr 11=.c (.aX 0 0 ((dO a).length+1) 1)→fr 12=.c (.d (.int .i64 j))→fr 14=.c (.d (.int .u64 g)) →
   K6 ⟨fr,aJ (aJ (fun _=>.hole) 0 (.cells true false 322 (wK .u32 BL))) 1 (.cells true false 322 (wK .u32 (List.replicate (j+1) 0++qs)))⟩ κ:=by
   intro g fr κ hg1 hg2 hg3 q4 q6 q9 q10 q11 q12 q14;apply hK6;refine aaA 2 ?_;have hVn:val 4294967296 dV<4294967296 ^ (dO b).length:=by rw [vV];exact hV1
   have hmlt:val 4294967296 (x::r) % val 4294967296 dV<4294967296 ^ (dO b).length:=Nat.lt_trans (Nat.mod_lt _ hVp) hVn;have hsn:fG 4294967296 ((dO b).length+1) (val 4294967296 (x::r) % val 4294967296 dV)=fG 4294967296 (dO b).length (val 4294967296 (x::r) % val 4294967296 dV)++[0]:=vl hmlt;have hmj1:m - j=(m - (j+1))+1:=by rw [Nat.sub_succ];exact (Nat.succ_pred_eq_of_pos (Nat.sub_pos_of_lt i1)).symm
   have hmj:List.replicate (m - j) (0:Nat)=0::List.replicate (m - (j+1)) 0:=by
    rw [hmj1];exact List.replicate_succ
   have hmodq:val 4294967296 (x::r) % val 4294967296 dV=val 4294967296 (x::r) - qt*val 4294967296 dV:=by
    rw [hqt,Nat.mul_comm];exact Nat.mod_def _ _
   have hLq:List.replicate (j+1) (0:Nat)++qs=List.replicate j 0++(0::qs):=by
    rw [List.replicate_succ',List.append_assoc];rfl
   refine aac fun K7 hK7=>aac fun K8 hK8=>?_;refine aad rfl ?_;simp [q14];apply hK8;clear hK8 K8
   by_cases hgz:g=0
   ·refine aap (by simp [hgz] <;> omega) ?_;refine aav ?_;simp;have hqz:qt=0:=by omega
    have e9:fG 4294967296 ((dO b).length+1) (val 4294967296 (x::r))=x::r:=by rw [← hwl];exact LU okw
    have e8:val 4294967296 (x::r) % val 4294967296 dV=val 4294967296 (x::r):=by rw [hmodq,hqz];simp
    have e6:fG 4294967296 (dO b).length (val 4294967296 (x::r) % val 4294967296 dV)++[0]=x::r:=by rw [← hsn,e8,e9]
    have e5:∀ (A B:List Nat),A++(0::B)=(A++[0])++B:=fun A B=>by simp
    have e7:lo'++(fG 4294967296 (dO b).length (val 4294967296 (x::r) % val 4294967296 dV)++List.replicate (m - j) 0)=BL:=by
     rw [hmj,e5,e6,← hBL',List.append_assoc]
    have hcl:∀ (fr':Nat→AV) (κ':Nat),fr' 4=.c (.aX 1 0 m 1)→fr' 6=.c (.d (.int .i64 (dO b).length))→fr' 9=.c (.d (.int .i64 s))→fr' 10=nK .u32 (some dV)→fr' 11=.c (.aX 0 0 ((dO a).length+1) 1)→fr' 12=.c (.d (.int .i64 j)) →
     K5 ⟨fr',aJ (aJ (fun _=>.hole) 0 (.cells true false 322 (wK .u32 BL))) 1 (.cells true false 322 (wK .u32 (List.replicate (j+1) 0++qs)))⟩ κ':=by
     intro fr' κ' z1 z2 z3 z4 z5 z6;have hcl:=close fr' κ' z1 z2 z3 z4 z5 z6;rw [e7,hqz,← hLq] at hcl;exact hcl
    exact hcl _ _ (by simp [q4]) (by simp [q6]) (by simp [q9]) (by simp [q10]) (by simp [q11]) (by simp [q12])
   ·refine aao (by simp [hgz] <;> omega) ?_;refine aah ?_;simp;apply hK7;clear hK7 K7;refine aac fun K7 hK7=>aac fun K8 hK8=>?_
    have store:∀ (fr':Nat→AV) (κ':Nat),fr' 4=.c (.aX 1 0 m 1)→fr' 6=.c (.d (.int .i64 (dO b).length))→fr' 9=.c (.d (.int .i64 s))→fr' 10=nK .u32 (some dV)→fr' 11=.c (.aX 0 0 ((dO a).length+1) 1)→fr' 12=.c (.d (.int .i64 j))→fr' 14=.c (.d (.int .u64 qt)) →
     K7 ⟨fr',aJ (aJ (fun _=>.hole) 0 (.cells true false 322 (wK .u32 (lo'++(fG 4294967296 ((dO b).length+1) (val 4294967296 (x::r) % val 4294967296 dV)++List.replicate (m - (j+1)) 0))))) 1 (.cells true false 322 (wK .u32 (List.replicate (j+1) 0++qs)))⟩ κ':=by
     intro fr' κ' z1 z2 z3 z4 z5 z6 z7;apply hK7;have y1:IntKind.u32.wrap (qt:Int)=(qt:Int):=rT (by omega) (by omega)
     have y2:ak (wK .u32 (List.replicate (j+1) 0++qs)) j [CV.d (.int .u32 (qt:Int))]=wK .u32 (List.replicate j 0++(qt::qs)):=by
      rw [eR _ (by simp;omega),nO]
     have y3:lo'++(fG 4294967296 (dO b).length (val 4294967296 (x::r) % val 4294967296 dV)++List.replicate (m - j) 0)=lo'++(fG 4294967296 ((dO b).length+1) (val 4294967296 (x::r) % val 4294967296 dV)++List.replicate (m - (j+1)) 0):=by
      rw [hmj,hsn];simp only [List.append_assoc,List.cons_append,List.nil_append]
     refine aad rfl ?_;simp [z1,z6,z7,y1,y2,-bJ,-List.append_assoc];refine⟨by omega,?_⟩;have hcl:=close (κ:=κ'+1) (fr:=aJ (aJ (aJ (aJ (aJ fr' 156 (.c (.aX 1 0 m 1))) 157 (.c (.d (.int .i64 j)))) 158 (.c (.d (.int .u64 qt)))) 159 (.c (.d (.int .u32 qt)))) 160 (.c (.ptr 1 j))) (by simp [z1]) (by simp [z2]) (by simp [z3]) (by simp [z4]) (by simp [z5]) (by simp [z6]);rw [y3] at hcl;exact hcl
    have hwin:(x::r).length=(dO (some dV)).length+1:=by rw [hwl];simp [lV]
    have hT:=fun (G:List (List DV))=>wJ G lo' (x::r) (List.replicate (m - (j+1)) 0) ((dO a).length+1 - j) g (some dV) hwin (by rw [hwl];omega) okw hg1 (by rw [hBL',hBLl];omega)
    simp only [hBL',hlo,hwl,aV] at hT
    have hWB:val 4294967296 (x::r)<4294967296 ^ ((dO b).length+1):=by
     have:=eC okw;rwa [hwl] at this
    by_cases too:val 4294967296 (x::r)<g*val 4294967296 dV
    ·have hb1:oc (val 4294967296 (x::r)) (g*val 4294967296 dV)=1:=by unfold oc;rw [if_pos too]
     have hgq:g=qt+1:=by
      rcases Nat.lt_or_ge qt g with hc|hc
      ·exact Nat.le_antisymm hg3 hc
      ·exact absurd too (Nat.not_lt.2 (Nat.le_trans (Nat.mul_le_mul_right _ hc) hq0))
     simp only [hb1,Nat.mul_one,eq_self,decide_true] at hT;obtain⟨R,hR⟩:∃ R,R=fG 4294967296 ((dO b).length+1) (val 4294967296 (x::r)+4294967296 ^ ((dO b).length+1) - g*val 4294967296 dV):=⟨_,rfl⟩
     simp only [← hR] at hT;have hRl:R.length=(dO b).length+1:=by rw [hR,m8]
     have hRo:ok 4294967296 R:=by rw [hR];exact qY (by decide) _ _
     have hgV:g*val 4294967296 dV=qt*val 4294967296 dV+val 4294967296 dV:=by rw [hgq,Nat.add_mul,Nat.one_mul]
     have hRv:val 4294967296 R+val 4294967296 dV=4294967296 ^ ((dO b).length+1)+val 4294967296 (x::r) % val 4294967296 dV:=by
      rw [hR,kX,hmodq]
      have hVE:val 4294967296 dV≤4294967296 ^ ((dO b).length+1):=by
       rw [Nat.pow_succ];exact Nat.le_trans (Nat.le_of_lt hVn) (Nat.le_mul_of_pos_right _ (by decide))
      have key:∀ (W E gv qv V:Nat),W<gv→gv=qv+V→qv≤W→V≤E→W+E - gv<E∧(W+E - gv)+V=E+(W - qv):=by intros;omega
      obtain⟨k1,k2⟩:=key _ _ _ _ _ too hgV hq0 hVE;rw [Nat.mod_eq_of_lt k1];exact k2
     have hRd:fG 4294967296 ((dO b).length+1) (val 4294967296 R+val 4294967296 dV)=fG 4294967296 ((dO b).length+1) (val 4294967296 (x::r) % val 4294967296 dV):=by
      rw [hRv,Gl (by decide)]
     have hwin':R.length=(dO (some dV)).length+1:=by rw [hRl];simp [lV]
     have hll:(lo'++R++List.replicate (m - (j+1)) 0).length≤1000000000000:=by
      simp only [List.length_append,List.length_replicate,hlo,hRl];omega
     have hGv:=fun (G:List (List DV))=>wR G lo' R (List.replicate (m - (j+1)) 0) ((dO a).length+1 - j) (some dV) hwin' (by rw [hRl];omega) hRo hll
     simp only [hlo,hRl,aV,hRd,List.append_assoc] at hGv;simp only [List.append_assoc] at hT;refine aad rfl ?_;simp [q11,q12,q10,q14,-bJ];refine⟨by omega,?_⟩
     refine fq.IX 3 9 0 (by simp;rfl) (nL _ _) (nL _ _) (hT _) rfl rfl (by
      intro i h h'
      match i,h with
      | 0,_=>exact .inr (.inl ⟨_,_,_,rfl,rfl⟩)
      | 1,_=>exact .inl ⟨by simp,rfl⟩
      | 2,_=>exact .inl ⟨rfl,rfl⟩) (by simp) (by decide) ?_
     simp [-bJ,y6];apply hK8;clear hK8 K8;refine aaq ?_;refine aac fun K8 hK8=>?_;have y5:IntKind.u64.wrap ((g:Int) - 1)=(qt:Int):=by rw [c7 (by omega) (by omega)];omega
     refine aad rfl ?_;simp [q14,y5,-bJ];apply hK8;clear hK8 K8;refine aad rfl ?_;simp [q11,q12,q10,-bJ];refine⟨by omega,?_⟩
     refine fq.IX 4 9 0 (own:=true) (T:=322) (cs:=wK .u32 (lo'++(R++List.replicate (m - (j+1)) 0))) (by simp) (nL _ _) (nL _ _) (hGv _) rfl rfl (by
      intro i h h'
      match i,h with
      | 0,_=>exact .inr (.inl ⟨_,_,_,rfl,rfl⟩)
      | 1,_=>exact .inl ⟨by simp,rfl⟩) (by simp) (by decide) ?_
     simp [-bJ,y6];exact store _ _ (by simp [q4]) (by simp [q6]) (by simp [q9]) (by simp [q10]) (by simp [q11]) (by simp [q12]) (by simp)
    ·have hb1:oc (val 4294967296 (x::r)) (g*val 4294967296 dV)=0:=by unfold oc;rw [if_neg too]
     have hgq:g=qt:=by
      rcases Nat.lt_or_ge qt g with hc|hc
      ·have:(qt+1)*val 4294967296 dV≤g*val 4294967296 dV:=Nat.mul_le_mul_right _ hc;omega
      ·exact Nat.le_antisymm hc hg2
     have hWm:val 4294967296 (x::r)+4294967296 ^ ((dO b).length+1)*0 - g*val 4294967296 dV=val 4294967296 (x::r) % val 4294967296 dV:=by
      rw [hmodq,hgq,Nat.mul_zero,Nat.add_zero]
     simp only [hb1,hWm,Nat.zero_ne_one,decide_false,List.append_assoc] at hT;refine aad rfl ?_;simp [q11,q12,q10,q14,-bJ];refine⟨by omega,?_⟩
     refine fq.IX 3 9 0 (by simp;rfl) (nL _ _) (nL _ _) (hT _) rfl rfl (by
      intro i h h'
      match i,h with
      | 0,_=>exact .inr (.inl ⟨_,_,_,rfl,rfl⟩)
      | 1,_=>exact .inl ⟨by simp,rfl⟩
      | 2,_=>exact .inl ⟨rfl,rfl⟩) (by simp) (by decide) ?_
     simp [-bJ,y6];apply hK8;clear hK8 K8;refine aat ?_;refine aah ?_;simp [-bJ];exact store _ _ (by simp [q4]) (by simp [q6]) (by simp [q9]) (by simp [q10]) (by simp [q11]) (by simp [q12]) (by simp [q14,hgq])
  refine aax (fun (p:Nat × Nat)=>⟨bt [(4,.c (.aX 1 0 m 1)),(6,.c (.d (.int .i64 (dO b).length))),(9,.c (.d (.int .i64 s))),(10,nK .u32 (some dV)),(11,.c (.aX 0 0 ((dO a).length+1) 1)),(12,.c (.d (.int .i64 j))),(14,.c (.d (.int .u64 p.1))),(15,.c (.d (.int .u64 p.2)))],
   aJ (aJ (fun _=>.hole) 0 (.cells true false 322 (wK .u32 BL))) 1 (.cells true false 322 (wK .u32 (List.replicate (j+1) 0++qs)))⟩) 2
   (fun p=>p.1*v1+p.2=top∧qt≤p.1∧p.1≤4294967297∧p.2<4294967296) (fun p=>p.1) (g0,o0) (Le.mk' _ rfl (by simp) (by simp)) ⟨by rw [Nat.mul_comm];exact hdm,hqf,hg0,by omega⟩ ?_
  rintro⟨g,o⟩ ⟨w1,w2,w3,w4⟩;simp only at w1 w2 w3 w4;refine aac fun K7 hK7=>aac fun K8 hK8=>?_
  have dec:∀ (fr:Nat→AV) (κ:Nat),qt<g→fr 4=.c (.aX 1 0 m 1)→fr 6=.c (.d (.int .i64 (dO b).length))→fr 9=.c (.d (.int .i64 s))→fr 10=nK .u32 (some dV)→fr 11=.c (.aX 0 0 ((dO a).length+1) 1)→fr 12=.c (.d (.int .i64 j))→fr 14=.c (.d (.int .u64 g))→fr 15=.c (.d (.int .u64 o)) →
   K7 ⟨fr,aJ (aJ (fun _=>.hole) 0 (.cells true false 322 (wK .u32 BL))) 1 (.cells true false 322 (wK .u32 (List.replicate (j+1) 0++qs)))⟩ κ:=by
   intro fr κ hg q4 q6 q9 q10 q11 q12 q14 q15;apply hK7;refine aaA 2 ?_;refine aak ?_;have g1:IntKind.u64.wrap ((g:Int) - 1)=((g - 1:Nat):Int):=by rw [c7 (by omega) (by omega)];omega
   have g2:IntKind.u64.wrap ((o:Int)+v1)=((o+v1:Nat):Int):=by rw [c7 (by omega) (by omega)];omega
   refine aac fun K9 hK9=>?_;refine aad rfl ?_;simp [q14,g1];apply hK9;clear hK9 K9;refine aac fun K9 hK9=>?_;refine aad rfl ?_;simp [q15,q10,q6,f14,gv1,f7,g2,-Int.natCast_add];apply hK9;clear hK9 K9;refine aac fun K9 hK9=>?_
   have w1':(g - 1)*v1+(o+v1)=top:=by
    rw [← w1];obtain⟨g',rfl⟩:∃ g',g=g'+1:=⟨g - 1,by omega⟩
    rw [Nat.add_sub_cancel,Nat.add_mul,Nat.one_mul];omega
   by_cases ho:o+v1<4294967296
   ·have g3:Int.fdiv ((o+v1:Nat):Int) 4294967296=0:=by rw [Int.fdiv_eq_ediv_of_nonneg _ (by omega)];omega
    refine aad rfl ?_;simp [IntKind.bits,g3,-Int.natCast_add];apply hK9;clear hK9 K9;refine aat ?_;refine aah ?_;simp;refine⟨g - 1,o+v1,Le.mk' _ rfl (by simp) (by simp [q4,q6,q9,q10,q11,q12]),⟨w1',by omega,by omega,ho⟩,by omega⟩
   ·have g3:Int.fdiv ((o+v1:Nat):Int) 4294967296=1:=by rw [Int.fdiv_eq_ediv_of_nonneg _ (by omega)];omega
    refine aad rfl ?_;simp [IntKind.bits,g3,-Int.natCast_add];apply hK9;clear hK9 K9;refine aaq ?_;refine aav ?_;simp
    have hgB:g - 1<4294967296:=by
     apply Classical.byContradiction;intro hc;have:4294967296*v1≤(g - 1)*v1:=Nat.mul_le_mul_right _ (by omega);rw [Nat.mul_add] at htop;omega
    have hnear:=hEst.near hq1 w1' hgB (by
     have h1:(g - 1)*v2≤4294967296*4294967296:=Nat.mul_le_mul (by omega) (by omega);have h2:4294967296*4294967296≤(o+v1)*4294967296:=Nat.mul_le_mul_right _ (by omega);omega)
    exact fin (g - 1) _ _ hgB (by omega) hnear (by simp [q4]) (by simp [q6]) (by simp [q9]) (by simp [q10]) (by simp [q11]) (by simp [q12]) (by simp)
  by_cases hgB:4294967296≤g
  ·have g1:Int.fdiv (g:Int) 4294967296=1:=by rw [Int.fdiv_eq_ediv_of_nonneg _ (by omega)];omega
   refine aaz mixed (by kernel_rfl) rfl rfl ?_;simp [IntKind.bits,g1];apply hK8;clear hK8 K8;refine aaq ?_;refine aah ?_;simp;exact dec _ _ (by omega) (by simp) (by simp) (by simp) (by simp) (by simp) (by simp) (by simp) (by simp)
  ·have g1:Int.fdiv (g:Int) 4294967296=0:=by rw [Int.fdiv_eq_ediv_of_nonneg _ (by omega)];omega
   have hgv:g*v2≤4294967295*4294967295:=Nat.mul_le_mul (by omega) (by omega)
   have g2:IntKind.u64.wrap ((g:Int)*v2)=((g*v2:Nat):Int):=by
    rw [← Int.natCast_mul];generalize g*v2=p at hgv;exact c7 (by omega) (by omega)
   have g3:IntKind.u64.wrap ((o:Int)*4294967296)=((o*4294967296:Nat):Int):=by rw [c7 (by omega) (by omega)];omega
   have g4:=qk w4 ha2l;have g5:IntKind.i64.wrap (((dO b).length:Int) - 2)=(((dO b).length - 2:Nat):Int):=by rw [bK (by omega) (by omega)];omega
   have hgo:∀ {P Q:Nat},((P:Nat):Int)<((Q:Nat):Int)↔P<Q:=by intro P Q;omega
   refine aaz mixed (by kernel_rfl) rfl rfl ?_;simp [IntKind.bits,g1,g5,gv2,f8,g2,g3,f1,f3,l2,f6,g4,-Int.natCast_add,-Int.natCast_mul]
   repeat refine ag ?_
   apply hK8;clear hK8 K8
   by_cases ht:o*4294967296+a2<g*v2
   ·refine aap (by simp [ht] <;> omega) ?_;refine aah ?_;simp;exact dec _ _ (hEst.over hq0 w1 ht) (by simp) (by simp) (by simp) (by simp) (by simp) (by simp) (by simp) (by simp)
   ·refine aao (by simp [ht] <;> omega) ?_;refine aav ?_;simp;exact fin g _ _ (by omega) w2 (hEst.near hq1 w1 (by omega) (by omega)) (by simp) (by simp) (by simp) (by simp) (by simp) (by simp) (by simp)
end Go.Am

namespace Go.Am
open Go.Am.Ty Go.Proofs N
def tD (a b:Option (List Nat)):Option (List Nat):=if val 4294967296 (dO a)<val 4294967296 (dO b) then none else some (aI 4294967296 (val 4294967296 (dO a) / val 4294967296 (dO b)))
def kD (a b:Option (List Nat)):Option (List Nat):=
 if val 4294967296 (dO a)<val 4294967296 (dO b) then a
 else if (dO b).length=1 then some (aI 4294967296 (val 4294967296 (dO a) % val 4294967296 (dO b)))
 else if val 4294967296 (dO a) % val 4294967296 (dO b)=0 then none else some (aI 4294967296 (val 4294967296 (dO a) % val 4294967296 (dO b)))
theorem OW {a b:Option (List Nat)}:dO (tD a b)=aI 4294967296 (val 4294967296 (dO a) / val 4294967296 (dO b)):=by
 unfold tD;split
 ·rename_i h;rw [Nat.div_eq_of_lt h];rfl
 ·rfl
theorem DN {a b:Option (List Nat)}(ha:can 4294967296 (dO a)):dO (kD a b)=aI 4294967296 (val 4294967296 (dO a) % val 4294967296 (dO b)):=by
 unfold kD;split
 ·rename_i h;rw [Nat.mod_eq_of_lt h];exact fV (by decide) ha rfl
 ·split
  ·rfl
  ·split
   ·rename_i h;rw [h];rfl
   ·rfl
theorem lK (G:List (List DV))(a b:Option (List Nat))(ha:can 4294967296 (dO a))(hb:can 4294967296 (dO b))(h0:dO b≠[])(hl:(dO a).length<1000000000000) :
 aj Tryz.prog G 278 [nK .u32 a,nK .u32 b] (.tup [nK .u32 (tD a b),nK .u32 (kD a b)]):=by
 by_cases h:val 4294967296 (dO a)<val 4294967296 (dO b)
 ·have:=Gk G a b ha hb h;simpa only [tD,kD,if_pos h] using this
 ·by_cases hn:(dO b).length=1
  ·have:=Gy G a b ha hb (Nat.le_of_not_lt h) hn (Nat.le_of_lt hl);simpa only [tD,kD,if_neg h,if_pos hn] using this
  ·have h1:0<(dO b).length:=List.length_pos_iff.2 h0;have:=Ij a b ha hb (Nat.le_of_not_lt h) (by omega) hl G;simp only [tD,kD,if_neg h,if_neg hn];split
   ·rename_i hz;rw [if_pos hz] at this;exact this
   ·rename_i hz;rw [if_neg hz] at this;exact this
def iz (a b:Option (List Nat)):Nat→Option (List Nat)
 | 0=>a
 | n+1=>if dO b=[] then a else iz b (kD a b) n
theorem vf {a b:Option (List Nat)}(h:dO b=[]) (n:Nat):iz a b n=a:=by
 cases n <;> simp [iz,h]
theorem rE (o o':Option (List Nat)):(AV.tup [nK .u32 o,nK .u32 o']).pure=true:=by
 cases o <;> cases o' <;> rfl
theorem cK {B m n:Nat}(hB:2≤B) (h:m≤n):(aI B m).length≤(aI B n).length:=
 cB hB (Nat.lt_of_le_of_lt h (pn hB))
theorem nE:∀ (n:Nat) (a b:Option (List Nat)),can 4294967296 (dO a)→can 4294967296 (dO b)→val 4294967296 (dO b)≤n→iz a b n=iz a b (val 4294967296 (dO b))∧dO (iz a b n)=aI 4294967296 (Nat.gcd (val 4294967296 (dO a)) (val 4294967296 (dO b)))
 | 0,a,b,ha,hb,h=>by
  have h0:val 4294967296 (dO b)=0:=by omega
  rw [h0];exact⟨rfl,by rw [Nat.gcd_zero_right];exact fV (by decide) ha rfl⟩
 | n+1,a,b,ha,hb,h=>by
  by_cases he:dO b=[]
  ·rw [vf he,vf he];refine⟨rfl,?_⟩;rw [he];simp only [qw,Nat.gcd_zero_right];exact fV (by decide) ha rfl
  ·have hv0:0<val 4294967296 (dO b):=gu hb he;have hR:=DN (b:=b) ha;have hRc:can 4294967296 (dO (kD a b)):=by rw [hR];exact bk (by decide) _
   have hlt:val 4294967296 (dO (kD a b))<val 4294967296 (dO b):=by rw [hR,bg (by decide)];exact Nat.mod_lt _ hv0
   obtain⟨k,hk⟩:∃ k,val 4294967296 (dO b)=k+1:=⟨val 4294967296 (dO b) - 1,by omega⟩
   have r1:=nE n b (kD a b) hb hRc (by omega);have r2:=nE k b (kD a b) hb hRc (by omega);have e1:iz a b (n+1)=iz b (kD a b) n:=by simp only [iz,if_neg he]
   have e2:iz a b (val 4294967296 (dO b))=iz b (kD a b) k:=by rw [hk];simp only [iz,if_neg he]
   refine⟨by rw [e1,e2,r1.1,r2.1],?_⟩;rw [e1,r1.2,hR,bg (by decide),Nat.gcd_comm (val 4294967296 (dO b)),← Nat.gcd_rec,Nat.gcd_comm]
 termination_by n a b=>val 4294967296 (dO b)
theorem Fu {a b:Option (List Nat)}(ha:can 4294967296 (dO a)) (hb:can 4294967296 (dO b)) (he:dO b≠[]):iz b (kD a b) (val 4294967296 (dO (kD a b)))=iz a b (val 4294967296 (dO b)):=by
 have hv0:0<val 4294967296 (dO b):=gu hb he;have hR:=DN (b:=b) ha;have hRc:can 4294967296 (dO (kD a b)):=by rw [hR];exact bk (by decide) _
 have hlt:val 4294967296 (dO (kD a b))<val 4294967296 (dO b):=by rw [hR,bg (by decide)];exact Nat.mod_lt _ hv0
 obtain⟨k,hk⟩:∃ k,val 4294967296 (dO b)=k+1:=⟨val 4294967296 (dO b) - 1,by omega⟩
 have e2:iz a b (val 4294967296 (dO b))=iz b (kD a b) k:=by rw [hk];simp only [iz,if_neg he]
 rw [e2,(nE k b (kD a b) hb hRc (by omega)).1]
theorem wk {a b:Option (List Nat)}(ha:can 4294967296 (dO a)) (hb:can 4294967296 (dO b)):dO (iz a b (val 4294967296 (dO b)))=aI 4294967296 (Nat.gcd (val 4294967296 (dO a)) (val 4294967296 (dO b))):=
 (nE _ a b ha hb (Nat.le_refl _)).2
set_option maxHeartbeats 1000000 in
theorem qE (G:List (List DV))(a b:Option (List Nat))(ha:can 4294967296 (dO a))(hb:can 4294967296 (dO b))(hl:(dO a).length<1000000000000)(hl':(dO b).length<1000000000000) :
 aj Tryz.prog G 229 [nK .u32 a,nK .u32 b] (nK .u32 (iz a b (val 4294967296 (dO b)))):=by
 refine aj.aH Tryz.func229 rfl (by rw [Tryz.ntmps229];simp) ?_;rintro⟨_,_,w0,F0,W0,_,bq,β0⟩ rfl rfl rfl;refine aac fun K hK=>?_;refine aad rfl ?_;simp;apply hK;clear hK K;refine aac fun K hK=>?_;refine aak ?_
 refine aax (fun (p:Option (List Nat) × Option (List Nat))=>⟨bt [(0,nK .u32 p.1),(1,nK .u32 p.2)],fun _=>.hole⟩) 0
  (fun p=>can 4294967296 (dO p.1)∧can 4294967296 (dO p.2)∧(dO p.1).length<1000000000000∧(dO p.2).length<1000000000000∧iz p.1 p.2 (val 4294967296 (dO p.2))=iz a b (val 4294967296 (dO b)))
  (fun p=>val 4294967296 (dO p.2)) (a,b) (Le.mk' _ rfl (by intro k own es h;cases h) (by simp)) ⟨ha,hb,hl,hl',rfl⟩ ?_
 rintro⟨x,y⟩ ⟨i1,i2,i3,i4,i5⟩;simp only at i1 i2 i3 i4 i5;refine aac fun K3 hK3=>aac fun K4 hK4=>?_;refine aad rfl ?_;simp;apply hK4;clear hK4 K4
 by_cases hy:dO y=[]
 ·have hy':¬ (0:Int)<((dO y).length:Int):=by rw [hy];simp
  refine aao (by simp [hy'] <;> omega) ?_;refine aav ?_;simp;apply hK;rw [vf hy] at i5;refine aac fun K3 hK3=>?_;refine aad rfl ?_;simp;apply hK3;clear hK3 K3;exact aag (κ:=0) (au.t (κ:=0) rfl 4 (by simp [i5]))
 ·have hy1:0<(dO y).length:=List.length_pos_iff.2 hy;have hy':(0:Int)<((dO y).length:Int):=by omega
  refine aap (by simp [hy'] <;> omega) ?_;refine aah ?_;simp;apply hK3;refine aak ?_;refine aac fun K5 hK5=>?_;refine aad rfl ?_;simp;refine ai.pure 0 0 (lK _ _ _ i1 i2 hy i3) (rE _ _) (by simp) rfl ?_;simp;apply hK5;clear hK5 K5;refine aad rfl ?_;simp;have hv0:0<val 4294967296 (dO y):=gu i2 hy;have hR:=DN (b:=y) i1;have hlt:val 4294967296 (dO (kD x y))<val 4294967296 (dO y):=by rw [hR,bg (by decide)];exact Nat.mod_lt _ hv0
  refine⟨y,kD x y,Le.mk' _ rfl (by intro k own es h;cases h) (by simp),⟨i2,by rw [hR];exact bk (by decide) _,i4,?_,?_⟩,hlt⟩
  ·rw [hR];refine Nat.lt_of_le_of_lt (cK (by decide) (Nat.le_of_lt (Nat.mod_lt _ hv0))) ?_;rw [← fV (by decide) i2 rfl];exact i4
  ·rw [Fu i1 i2 hy];exact i5
end Go.Am

namespace Go.Am
open Go.Am.Ty Go.Proofs N
def nC:Option (List Nat)→CV
 | none=>.d .nilsl
 | some l=>.d (.sl (dK .u32 l))
theorem kg (o:Option (List Nat)):nK .u32 o=.c (nC o):=by cases o <;> rfl
@[simp] theorem eV (lv:Key→LB)(b:Bool)(p q:Option (List Nat)):gH lv (.agg [.d (.bool b),nC p,nC q])=some (.agg [.d (.bool b),nC p,nC q],[]):=by
 cases p <;> cases q <;> rfl
@[simp] theorem WA (o:Option (List Nat)):(nC o).pure=true:=by cases o <;> rfl
@[simp] theorem S3 (o:Option (List Nat)):(AV.c (nC o)).cw=true:=by cases o <;> rfl
@[simp] theorem TZ (o:Option (List Nat)):(AV.c (nC o)).pure=true:=by cases o <;> rfl
theorem bM.cell {c:Ctx}{fn:Func}{x:AV}{t k off:Nat}{T U:TypeId}{own fz:Bool}{cs:List CV}{s:aG}{κ:Nat}(hr:fn.results=#[.cell t T]) (ht:s.fr t=.c (.ptr k off)) (hk:s.lv k=.cells own fz U cs)
 (hx:eL c.P T (cs.drop off)=some x):bM c fn x .ret s κ:=by
 show dH c.P s fn.results.toList=some x;rw [hr];simp [dH,kq,n5,ht,hk,hx]
theorem bM.kY {c:Ctx}{fn:Func}{x y:AV}{t u k off:Nat}{T U:TypeId}{own fz:Bool}{cs:List CV}{s:aG}{κ:Nat}(hr:fn.results=#[.cell t T,.tmp u]) (ht:s.fr t=.c (.ptr k off)) (hk:s.lv k=.cells own fz U cs)
 (hx:eL c.P T (cs.drop off)=some x) (hy:s.fr u=y) (hn:x.cP=true) (hm:y.cP=true):bM c fn (.tup [x,y]) .ret s κ:=by
 show dH c.P s fn.results.toList=some _;rw [hr];simp [dH,kq,n5,ht,hk,hx,hy,hn,hm]
attribute [local irreducible] bM
theorem Eg:gS Tryz.prog 224 [] []=some (.agg [.d (.bool false),.d .nilsl,.d .nilsl],[],[],True):=by kernel_rfl
theorem DP (b p q:CV):gS Tryz.prog 224 [0,1,2] [.c b,.c p,.c q]=some (.agg [b,p,q],[],[],True):=by kernel_rfl
theorem bL (b p q:CV):eL Tryz.prog 224 [b,p,q]=some (.agg [b,p,q]):=by kernel_rfl
abbrev nX (neg:Bool)(p q:Option (List Nat)):AV:=.agg [.d (.bool neg),nC p,nC q]
def gO (p q:Option (List Nat)):Option (List Nat):=iz p q (val 4294967296 (dO q))
def mP (p q:Option (List Nat)):Option (List Nat):=if val 4294967296 (dO q)=1 then p else if val 4294967296 (dO (gO p q))=1 then p else tD p (gO p q)
def Ms (p q:Option (List Nat)):Option (List Nat):=if val 4294967296 (dO q)=1 then q else if val 4294967296 (dO (gO p q))=1 then q else tD q (gO p q)
def mQ (p q:Option (List Nat)):Option (List Nat):=if val 4294967296 (dO (Ms p q))=1 then none else Ms p q
def iY (neg:Bool)(p q:Option (List Nat)):AV:=if dO p=[] then nX false none none else nX neg (mP p q) (mQ p q)
theorem DL (lv:Key→LB)(neg:Bool)(p q:Option (List Nat)):gH lv (iY neg p q)=some (iY neg p q,[]):=by
 unfold iY;split <;> exact eV ..
set_option maxHeartbeats 2000000 in
theorem ot (G:List (List DV))(neg:Bool)(p q:Option (List Nat))(hp:can 4294967296 (dO p))(hq:can 4294967296 (dO q))(hq0:dO q≠[])(hl:(dO p).length<1000000000000)(hl':(dO q).length<1000000000000) :
 aj Tryz.prog G 225 [.c (.d (.bool neg)),nK .u32 p,nK .u32 q] (iY neg p q):=by
 have hgd:=wk hp hq;have hgc:can 4294967296 (dO (gO p q)):=by unfold gO;rw [hgd];exact bk (by decide) _
 have hqv:0<val 4294967296 (dO q):=gu hq hq0
 have hg0:dO (gO p q)≠[]:=by
  unfold gO;rw [hgd];intro h;have:=(dw (by decide)).1 h;have:=Nat.gcd_pos_of_pos_right (val 4294967296 (dO p)) hqv;omega
 refine aj.bH Tryz.func225 rfl (by rw [Tryz.ntmps225];simp) (fun lv=>DL lv _ _ _) ?_;rintro⟨_,_,w0,F0,W0,_,bq,β0⟩ rfl rfl rfl;refine aac fun K hK=>?_;refine aad rfl ?_;simp;apply hK;clear hK K;refine aac fun K hK=>?_;refine aac fun K1 hK1=>?_;refine aad rfl ?_;simp;apply hK1;clear hK1 K1
 by_cases hpe:dO p=[]
 ·refine aap (by simp [hpe] <;> omega) ?_;refine aac fun K1 hK1=>?_;refine aad rfl ?_;simp [Eg];apply hK1;clear hK1 K1;refine aag ?_;refine bM.cell (T:=224) (t:=6) (k:=0) (off:=0) (own:=true) (fz:=false) (U:=224) (cs:=[.d (.bool false),.d .nilsl,.d .nilsl]) rfl ?_ ?_ ?_
  ·simp
  ·simp [ak]
  ·rw [List.drop_zero,bL];simp [iY,hpe,nC]
 refine aao (by simp [hpe] <;> omega) ?_;refine aah ?_;simp;apply hK;clear hK K;refine aac fun K hK=>?_
 have rest:∀ (fr:Nat→AV) (κ:Nat) (p' q':Option (List Nat)),fr 0=.c (.d (.bool neg))→fr 1=nK .u32 p'→fr 2=nK .u32 q'→fr 6=.c (.ptr 0 0)→can 4294967296 (dO q')→mP p q=p'→Ms p q=q' →
  K ⟨fr,aJ (fun _=>.hole) 0 (.cells true false 224 [.d (.bool false),.d .nilsl,.d .nilsl])⟩ κ:=by
  intro fr κ p' q' z0 z1 z2 z6 hc e1 e2;apply hK;refine aac fun K1 hK1=>?_;refine aac fun K2 hK2=>?_;refine aad rfl ?_;simp [z2];refine ai.pure κ 9 (jc _ _ hc) rfl (by simp) (by simp) ?_;simp;apply hK2;clear hK2 K2
  by_cases h1:val 4294967296 (dO q')=1
  ·refine aap (by simp [h1] <;> omega) ?_;refine aad rfl ?_;simp;apply hK1;clear hK1 K1;refine aac fun K1 hK1=>?_;refine aad rfl ?_;simp [z0,z1,z6,kg,DP];apply hK1;clear hK1 K1;refine aag ?_;refine bM.cell (T:=224) (t:=6) (k:=0) (off:=0) (own:=true) (fz:=false) (U:=224) (cs:=[.d (.bool neg),nC p',.d .nilsl]) rfl ?_ ?_ ?_
   ·simp [z6]
   ·simp [ak]
   ·rw [List.drop_zero,bL];simp [iY,hpe,e1,mQ,e2,h1,nC]
  ·refine aao (by simp [h1] <;> omega) ?_;refine aah ?_;simp;apply hK1;clear hK1 K1;refine aac fun K1 hK1=>?_;refine aad rfl ?_;simp [z0,z1,z2,z6,kg,DP];apply hK1;clear hK1 K1;refine aag ?_;refine bM.cell (T:=224) (t:=6) (k:=0) (off:=0) (own:=true) (fz:=false) (U:=224) (cs:=[.d (.bool neg),nC p',nC q']) rfl ?_ ?_ ?_
   ·simp [z6]
   ·simp [ak]
   ·rw [List.drop_zero,bL];simp [iY,hpe,e1,mQ,e2,h1]
 refine aac fun K1 hK1=>?_;refine aad rfl ?_;simp;refine ai.pure 1 9 (jc _ _ hq) rfl (by simp) (by simp) ?_;simp;apply hK1;clear hK1 K1
 by_cases h1:val 4294967296 (dO q)=1
 ·refine aao (by simp [h1] <;> omega) ?_;refine aah ?_;simp;exact rest _ _ p q (by simp) (by simp) (by simp) (by simp) hq (by simp [mP,h1]) (by simp [Ms,h1])
 refine aap (by simp [h1] <;> omega) ?_;refine aac fun K1 hK1=>?_;refine aad rfl ?_;simp;refine ai.pure 1 9 (qE _ _ _ hp hq hl hl') (by simp) (by simp) (by simp) ?_;simp;apply hK1;clear hK1 K1;refine aac fun K1 hK1=>?_;refine aad rfl ?_;simp;refine ai.pure 1 9 (jc _ (iz p q (val 4294967296 (dO q))) hgc) rfl (by simp) (by simp) ?_;simp;apply hK1;clear hK1 K1
 by_cases h2:val 4294967296 (dO (gO p q))=1
 ·have h2':val 4294967296 (dO (iz p q (val 4294967296 (dO q))))=1:=h2;refine aao (by simp [h2'] <;> omega) ?_;refine aah ?_;simp;exact rest _ _ p q (by simp) (by simp) (by simp) (by simp) hq (by simp [mP,h2]) (by simp [Ms,h2])
 have h2':¬ val 4294967296 (dO (iz p q (val 4294967296 (dO q))))=1:=h2;refine aap (by simp [h2'] <;> omega) ?_;refine aac fun K1 hK1=>?_;refine aad rfl ?_;simp;refine ai.pure 1 9 (lK _ _ (iz p q (val 4294967296 (dO q))) hp hgc hg0 hl) (rE _ _) (by simp) (by simp) ?_;simp;apply hK1;clear hK1 K1;refine aad rfl ?_;simp;refine ai.pure 1 9 (lK _ _ (iz p q (val 4294967296 (dO q))) hq hgc hg0 hl') (rE _ _) (by simp) (by simp) ?_;simp;exact rest _ _ (tD p (gO p q)) (tD q (gO p q)) (by simp) (by simp;rfl) (by simp;rfl) (by simp) (by rw [OW];exact bk (by decide) _) (by simp [mP,h1,h2]) (by simp [Ms,h1,h2])
end Go.Am

namespace Go.Am
open Go.Am.Ty Go.Proofs N
theorem MB (q:Option (List Nat)):aO Tryz.prog .eql 222 (.c (nC q)) (.c (.d .nilsl))=some (.c (.d (.bool q.isNone)),[],[],True):=by
 cases q with
 | none=>kernel_rfl
 | some l=>exact (show ∀ es,aO Tryz.prog .eql 222 (.c (.d (.sl es))) (.c (.d .nilsl))=some (.c (.d (.bool false)),[],[],True) from fun es=>by kernel_rfl) _
theorem YA (lv:Key→LB)(o:Option (List Nat)):fh Tryz.prog 222 lv (.c (nC o))=some (.c (.d (.int .i64 (dO o).length)),[],[],True):=by
 rw [← kg];exact lz fQ
@[simp] theorem UF (neg:Bool)(p q:Option (List Nat)):(AV.agg [.d (.bool neg),nC p,nC q]).pure=true:=by cases p <;> cases q <;> rfl
def rm (neg:Bool)(p:Option (List Nat)):Int:=if dO p=[] then 0 else if neg then -1 else 1
def eD:Option (List Nat)→Option (List Nat)
 | none=>some (aI 4294967296 1)
 | some l=>some l
theorem kj (G:List (List DV))(neg:Bool)(p q:Option (List Nat)):aj Tryz.prog G 231 [nX neg p q] (.c (.d (.int .i64 (rm neg p)))):=by
 refine aj.aH Tryz.func231 rfl (by rw [Tryz.ntmps231];simp) ?_;rintro⟨_,_,w0,F0,W0,_,bq,β0⟩ rfl rfl rfl;refine aac fun K hK=>?_;refine aad rfl ?_;simp;apply hK;clear hK K;refine aac fun K hK=>?_;refine aak ?_;refine aac fun K1 hK1=>?_;refine aad rfl ?_;simp [YA];apply hK1;clear hK1 K1
 by_cases hp:dO p=[]
 ·refine aap (by simp [hp] <;> omega) ?_;refine aac fun K1 hK1=>?_;refine aad rfl ?_;simp;apply hK1;clear hK1 K1;exact aag (κ:=0) (au.t (κ:=0) rfl 2 (by simp [rm,hp]))
 ·refine aao (by simp [hp] <;> omega) ?_;refine aac fun K1 hK1=>?_;refine aad rfl ?_;simp;apply hK1;clear hK1 K1
  cases neg with
  | true=>
   refine aaq ?_;refine aac fun K1 hK1=>?_;refine aad rfl ?_;simp;apply hK1;clear hK1 K1;exact aag (κ:=0) (au.t (κ:=0) rfl 2 (by simp [rm,hp]))
  | false=>
   refine aat ?_;refine aah ?_;simp;apply hK;clear hK K;refine aac fun K hK=>?_;refine aad rfl ?_;simp;apply hK;clear hK K;exact aag (κ:=0) (au.t (κ:=0) rfl 2 (by simp [rm,hp]))
theorem c9 (G:List (List DV))(neg:Bool)(p q:Option (List Nat)):aj Tryz.prog G 239 [nX neg p q] (.c (nC (eD q))):=by
 have hof:=fD G 1 (by decide);simp only [kg] at hof;refine aj.aH Tryz.func239 rfl (by rw [Tryz.ntmps239];simp) ?_;rintro⟨_,_,w0,F0,W0,_,bq,β0⟩ rfl rfl rfl;refine aac fun K hK=>?_;refine aad rfl ?_;simp;apply hK;clear hK K;refine aac fun K hK=>?_;refine aac fun K1 hK1=>?_;refine aad rfl ?_;simp [MB];apply hK1;clear hK1 K1
 cases q with
 | none=>
  refine aaq ?_;refine aac fun K1 hK1=>?_;refine aad rfl ?_;simp;refine ai.pure 1 9 hof (by simp) (by simp) (by simp) ?_;simp;apply hK1;clear hK1 K1;exact aag (κ:=0) (au.t (κ:=0) rfl 2 (by simp [eD]))
 | some l=>
  refine aat ?_;refine aah ?_;simp;apply hK;clear hK K;refine aac fun K hK=>?_;refine aad rfl ?_;simp;apply hK;clear hK K;exact aag (κ:=0) (au.t (κ:=0) rfl 2 (by simp [eD]))
theorem yL (G:List (List DV))(neg:Bool)(p q:Option (List Nat)):aj Tryz.prog G 235 [nX neg p q] (.c (.d (.bool q.isNone))):=by
 refine aj.aH Tryz.func235 rfl (by rw [Tryz.ntmps235];simp) ?_;rintro⟨_,_,w0,F0,W0,_,bq,β0⟩ rfl rfl rfl;refine aac fun K hK=>?_;refine aad rfl ?_;simp;apply hK;clear hK K;refine aac fun K hK=>?_;refine aad rfl ?_;simp [MB];apply hK;clear hK K;exact aag (κ:=0) (au.t (κ:=0) rfl 2 (by simp))
theorem Dz (G:List (List DV))(neg:Bool)(p q:Option (List Nat)):aj Tryz.prog G 236 [nX neg p q] (nX false p q):=by
 refine aj.bH Tryz.func236 rfl (by rw [Tryz.ntmps236];simp) (fun lv=>eV lv _ _ _) ?_;rintro⟨_,_,w0,F0,W0,_,bq,β0⟩ rfl rfl rfl;refine aac fun K hK=>?_;refine aad rfl ?_;simp;apply hK;clear hK K;refine aac fun K hK=>?_;refine aad rfl ?_;simp [DP];apply hK;clear hK K;refine aag ?_;refine bM.cell (T:=224) (t:=2) (k:=1) (off:=0) (own:=true) (fz:=false) (U:=224) (cs:=[.d (.bool false),nC p,nC q]) rfl ?_ ?_ ?_
 ·simp
 ·simp [ak]
 ·rw [List.drop_zero,bL]
def Pb (neg:Bool)(p q:Option (List Nat))(neg':Bool)(p' q':Option (List Nat)):Int:=
 if rm neg p=rm neg' p' then rm neg p*dm (val 4294967296 (dO p)*val 4294967296 (dO (eD q'))) (val 4294967296 (dO p')*val 4294967296 (dO (eD q)))
 else if rm neg p<rm neg' p' then -1 else 1
theorem AM (a b:Nat):-1≤dm a b∧dm a b≤1:=by unfold dm;(repeat' split) <;> omega
theorem OJ (neg:Bool)(p:Option (List Nat))(a b:Nat):IntKind.i64.wrap (rm neg p*dm a b)=rm neg p*dm a b:=by
 have h1:=AM a b;have h2:rm neg p=0∨rm neg p=1∨rm neg p = -1:=by unfold rm;split <;> (try split) <;> simp
 rcases h2 with h|h|h <;> rw [h] <;> exact bK (by omega) (by omega)
theorem pQ {q:Option (List Nat)}{n:Nat}(h:(dO q).length≤n) (hn:1≤n):(dO (eD q)).length≤n:=by
 cases q with
 | none=>exact Nat.le_trans (cB (m:=1) (by decide) (by decide)) hn
 | some l=>exact h
set_option maxHeartbeats 2000000 in
theorem D4 (G:List (List DV))(neg neg':Bool)(p q p' q':Option (List Nat))(h1:(dO p).length≤100000000000)(h2:(dO q).length≤100000000000)(h3:(dO p').length≤100000000000)(h4:(dO q').length≤100000000000) :
 aj Tryz.prog G 161 [nX neg p q,nX neg' p' q'] (.c (.d (.int .i64 (Pb neg p q neg' p' q')))):=by
 have b1:=pQ h2 (by decide);have b2:=pQ h4 (by decide);have m1:=fK G p (eD q') (by omega) (by omega);have m2:=fK G p' (eD q) (by omega) (by omega);have m3:=fP (G:=G) (a:=some (aI 4294967296 (val 4294967296 (dO p)*val 4294967296 (dO (eD q'))))) (b:=some (aI 4294967296 (val 4294967296 (dO p')*val 4294967296 (dO (eD q))))) (bk (by decide) _) (bk (by decide) _);simp only [aV,bg (by decide:2≤4294967296)] at m3;simp only [kg] at m1 m2 m3;refine aj.aH Tryz.func161 rfl (by rw [Tryz.ntmps161];simp) ?_;rintro⟨_,_,w0,F0,W0,_,bq,β0⟩ rfl rfl rfl;refine aac fun K hK=>?_;refine aad rfl ?_;simp;apply hK;clear hK K;refine aac fun K hK=>?_;refine aay mixed (by kernel_rfl) rfl ?_;simp;refine ai.pure 2 9 (kj _ neg p q) (by simp) (by simp) rfl ?_;simp;refine ai.pure 2 9 (kj _ neg' p' q') (by simp) (by simp) rfl ?_;simp;refine⟨by kernel_rfl,?_⟩;apply hK;clear hK K;refine aac fun K hK=>?_;refine aac fun K1 hK1=>?_;refine aad rfl ?_;simp;apply hK1;clear hK1 K1
 by_cases hs:rm neg p=rm neg' p'
 ·refine aao (by simp [hs] <;> omega) ?_;refine aah ?_;simp;apply hK;clear hK K;refine aac fun K hK=>?_;refine aay mixed (by kernel_rfl) rfl ?_;simp [hs];refine ai.pure 2 9 (c9 _ neg' p' q') (by simp) (by simp) rfl ?_;simp;refine ai.pure 2 9 m1 (by simp) (by simp) rfl ?_;simp;refine ai.pure 2 9 (c9 _ neg p q) (by simp) (by simp) rfl ?_;simp;refine ai.pure 2 9 m2 (by simp) (by simp) rfl ?_;simp;refine ai.pure 2 9 m3 (by simp) (by simp) rfl ?_;simp [OJ];refine⟨by kernel_rfl,?_⟩;apply hK;clear hK K;exact aag (κ:=0) (au.t (κ:=0) rfl 4 (by simp [Pb,hs]))
 ·refine aap (by simp [hs] <;> omega) ?_;refine aac fun K1 hK1=>?_;refine aac fun K2 hK2=>?_;refine aad rfl ?_;simp;apply hK2;clear hK2 K2
  by_cases hlt:rm neg p<rm neg' p'
  ·refine aap (by simp [hlt] <;> omega) ?_;refine aac fun K2 hK2=>?_;refine aad rfl ?_;simp;apply hK2;clear hK2 K2;exact aag (κ:=0) (au.t (κ:=0) rfl 4 (by simp [Pb,hs,hlt]))
  ·refine aao (by simp [hlt] <;> omega) ?_;refine aah ?_;simp;apply hK1;clear hK1 K1;refine aac fun K1 hK1=>?_;refine aad rfl ?_;simp;apply hK1;clear hK1 K1;exact aag (κ:=0) (au.t (κ:=0) rfl 4 (by simp [Pb,hs,hlt]))
end Go.Am

namespace Go.Am
open Go.Am.Ty Go.Proofs N
def cG (n:Nat):Option (List Nat):=if n=0 then none else some (aI 4294967296 n)
def dA (n:Nat):Option (List Nat):=if n=1 then none else some (aI 4294967296 n)
abbrev fc (x:Rat):AV:=nX (decide (x.num<0)) (cG x.num.natAbs) (dA x.den)
def dg (neg:Bool)(a:Nat):Int:=if neg then -(a:Int) else a
theorem kF (n:Nat):dO (cG n)=(aI 4294967296 n):=by
 unfold cG;split
 ·rename_i h;subst h;rfl
 ·rfl
theorem zc (n:Nat):eD (dA n)=some (aI 4294967296 n):=by
 unfold dA;split
 ·rename_i h;subst h;rfl
 ·rfl
theorem dF (n:Nat):val 4294967296 (aI 4294967296 n)=n:=bg (by decide) n
theorem fJ (n:Nat):can 4294967296 (aI 4294967296 n):=bk (by decide) n
theorem m4 (n:Nat):(val 4294967296 (dO (cG n)))=n:=by rw [kF,dF]
theorem r9 (n:Nat):(val 4294967296 (dO (eD (dA n))))=n:=by rw [zc,aV,dF]
theorem mE (n:Nat):can 4294967296 (dO (cG n)):=by rw [kF];exact fJ n
theorem Co (n:Nat):can 4294967296 (dO (eD (dA n))):=by rw [zc];exact fJ n
theorem kG {n:Nat}(h:n≠0):(aI 4294967296 n)≠[]:=fun e=>h ((dw (by decide)).1 e)
theorem vt {o:Option (List Nat)}(hc:can 4294967296 (dO o)) (h:dO o≠[]):o=some (aI 4294967296 (val 4294967296 (dO o))):=by
 cases o with
 | none=>exact absurd rfl h
 | some l=>exact congrArg some (fV (by decide) hc rfl)
theorem gN (neg:Bool){a b:Nat}(hb:b≠0):(mkRat (dg neg a) b).num=dg neg (a / Nat.gcd a b)∧(mkRat (dg neg a) b).den=b / Nat.gcd a b:=by
 have h1:(dg neg a).natAbs=a:=by unfold dg;split <;> omega
 rw [Rat.num_mkRat,Rat.den_mkRat,if_neg hb,if_neg hb,h1,Nat.gcd_comm b a];refine⟨?_,rfl⟩
 cases neg with
 | false=>rfl
 | true=>
  show -(a:Int) / ((Nat.gcd a b:Nat):Int) = -((a / Nat.gcd a b:Nat):Int)
  rw [Int.neg_ediv_of_dvd (Int.ofNat_dvd.2 (Nat.gcd_dvd_left a b))];rfl
theorem ri (neg:Bool)(a:Nat):(dg neg a).natAbs=a:=by unfold dg;split <;> omega
theorem Ei (neg:Bool){a:Nat}(h:a≠0):decide (dg neg a<0)=neg:=by
 cases neg <;> simp [dg] <;> omega
theorem UO {p q:Option (List Nat)}(hp:can 4294967296 (dO p)) (hq:can 4294967296 (dO q)) (h0:dO p≠[]):mP p q=cG ((val 4294967296 (dO p)) / Nat.gcd (val 4294967296 (dO p)) (val 4294967296 (dO q))):=by
 have ha:0<(val 4294967296 (dO p)):=gu hp h0;have ep:=vt hp h0;have hgv:(val 4294967296 (dO (gO p q)))=Nat.gcd (val 4294967296 (dO p)) (val 4294967296 (dO q)):=by unfold gO;rw [wk hp hq,dF]
 have hgp:0<Nat.gcd (val 4294967296 (dO p)) (val 4294967296 (dO q)):=Nat.gcd_pos_of_pos_left _ ha;have hle:Nat.gcd (val 4294967296 (dO p)) (val 4294967296 (dO q))≤(val 4294967296 (dO p)):=Nat.le_of_dvd ha (Nat.gcd_dvd_left _ _);have hag:(val 4294967296 (dO p)) / Nat.gcd (val 4294967296 (dO p)) (val 4294967296 (dO q))≠0:=Nat.ne_of_gt (Nat.div_pos hle hgp);unfold cG;rw [if_neg hag];unfold mP;split
 ·rename_i h;rw [h,Nat.gcd_one_right,Nat.div_one];exact ep
 ·split
  ·rename_i h;rw [hgv] at h;rw [h,Nat.div_one];exact ep
  ·unfold tD;rw [hgv,if_neg (Nat.not_lt.2 hle)]
theorem R7 {p q:Option (List Nat)}(hp:can 4294967296 (dO p)) (hq:can 4294967296 (dO q)) (h0:dO q≠[]):mQ p q=dA ((val 4294967296 (dO q)) / Nat.gcd (val 4294967296 (dO p)) (val 4294967296 (dO q))):=by
 have hb:0<(val 4294967296 (dO q)):=gu hq h0;have eq:=vt hq h0;have hgv:(val 4294967296 (dO (gO p q)))=Nat.gcd (val 4294967296 (dO p)) (val 4294967296 (dO q)):=by unfold gO;rw [wk hp hq,dF]
 have hle:Nat.gcd (val 4294967296 (dO p)) (val 4294967296 (dO q))≤(val 4294967296 (dO q)):=Nat.le_of_dvd hb (Nat.gcd_dvd_right _ _)
 have e:Ms p q=some (aI 4294967296 ((val 4294967296 (dO q)) / Nat.gcd (val 4294967296 (dO p)) (val 4294967296 (dO q)))):=by
  unfold Ms;split
  ·rename_i h;rw [h,Nat.gcd_one_right,Nat.div_one,← h];exact eq
  ·split
   ·rename_i h;rw [hgv] at h;rw [h,Nat.div_one];exact eq
   ·unfold tD;rw [hgv,if_neg (Nat.not_lt.2 hle)]
 unfold mQ dA;rw [e,aV,dF]
theorem yl (neg:Bool){p q:Option (List Nat)}(hp:can 4294967296 (dO p)) (hq:can 4294967296 (dO q)) (hq0:dO q≠[]):iY neg p q=fc (mkRat (dg neg (val 4294967296 (dO p))) (val 4294967296 (dO q))):=by
 have hb:(val 4294967296 (dO q))≠0:=Nat.ne_of_gt (gu hq hq0);unfold iY
 by_cases h0:dO p=[]
 ·have e:dg neg (val 4294967296 (dO p))=0:=by rw [h0,qw];cases neg <;> rfl
  rw [if_pos h0,e,Rat.zero_mkRat];rfl
 ·have ha:0<(val 4294967296 (dO p)):=gu hp h0;have hgp:0<Nat.gcd (val 4294967296 (dO p)) (val 4294967296 (dO q)):=Nat.gcd_pos_of_pos_left _ ha;have hle:Nat.gcd (val 4294967296 (dO p)) (val 4294967296 (dO q))≤(val 4294967296 (dO p)):=Nat.le_of_dvd ha (Nat.gcd_dvd_left _ _);have hag:(val 4294967296 (dO p)) / Nat.gcd (val 4294967296 (dO p)) (val 4294967296 (dO q))≠0:=Nat.ne_of_gt (Nat.div_pos hle hgp);obtain⟨n1,n2⟩:=gN neg (a:=(val 4294967296 (dO p))) hb;rw [if_neg h0,UO hp hq h0,R7 hp hq hq0];show nX neg _ _=nX (decide (_<0)) (cG _) (dA _);rw [n1,n2,ri,Ei neg hag]
theorem sn (x:Rat):dg (decide (x.num<0)) x.num.natAbs=x.num:=by
 unfold dg
 by_cases h:x.num<0
 ·rw [decide_eq_true h,if_pos rfl];omega
 ·rw [decide_eq_false h,if_neg (by decide)];omega
def nl (n:Nat):Nat:=(aI 4294967296 n).length
theorem BP {n m:Nat}(h:n<4294967296 ^ m):nl n≤m:=cB (by decide) h
theorem vN (n:Nat):n<4294967296 ^ nl n:=pn (by decide)
theorem jV {m n:Nat}(h:m≤n):nl m≤nl n:=cK (by decide) h
theorem fF (a b:Nat):nl (a*b)≤nl a+nl b:=by
 refine BP ?_;rw [Nat.pow_add];exact Nat.mul_lt_mul'' (vN a) (vN b)
theorem Dy (a b:Nat):nl (a+b)≤max (nl a) (nl b)+1:=by
 refine BP ?_;have h1:a<4294967296 ^ max (nl a) (nl b):=Nat.lt_of_lt_of_le (vN a) (Nat.pow_le_pow_right (by decide) (by omega));have h2:b<4294967296 ^ max (nl a) (nl b):=Nat.lt_of_lt_of_le (vN b) (Nat.pow_le_pow_right (by decide) (by omega));rw [Nat.pow_succ];generalize 4294967296 ^ max (nl a) (nl b)=z at *
 omega
theorem MQ (m:Nat):(2:Nat) ^ (32*m)=4294967296 ^ m:=by rw [Nat.pow_mul]
theorem mz (k:Nat):nl (2 ^ k)≤k / 32+1:=by
 refine BP ?_;rw [← MQ];exact Nat.pow_lt_pow_right (by decide) (by omega)
theorem o9:nl 1=1:=by unfold nl;rw [GC (by decide) (by decide) (by decide)];rfl
theorem OU {a L:Nat}(h:a<10 ^ L):nl a≤(L+8) / 9:=by
 refine BP (Nat.lt_of_lt_of_le h ?_);have h1:(10:Nat) ^ L≤10 ^ (9*((L+8) / 9)):=Nat.pow_le_pow_right (by decide) (by omega);rw [Nat.pow_mul] at h1;exact Nat.le_trans h1 (Nat.pow_le_pow_left (by decide) _)
theorem tZ {n:Nat}(h:n≠0):bf n≤32*nl n:=by
 have h1:=vN n;rw [← MQ] at h1;have h2:=jd h;have h3:bf n - 1<32*nl n:=(Nat.pow_lt_pow_iff_right (by decide)).1 (Nat.lt_of_le_of_lt h2 h1);omega
def iN (x:Rat)(L:Nat):Prop:=nl x.num.natAbs≤L∧nl x.den≤L
theorem bQ {x:Rat}{L M:Nat}(h:iN x L) (hm:L≤M):iN x M:=⟨Nat.le_trans h.1 hm,Nat.le_trans h.2 hm⟩
theorem mS (neg:Bool){a b L:Nat}(hb:b≠0) (h1:nl a≤L) (h2:nl b≤L):iN (mkRat (dg neg a) b) L:=by
 obtain⟨n1,n2⟩:=gN neg (a:=a) hb;unfold iN;rw [n1,n2,ri];exact⟨Nat.le_trans (jV (Nat.div_le_self _ _)) h1,Nat.le_trans (jV (Nat.div_le_self _ _)) h2⟩
theorem uc {x:Rat}{L:Nat}(h:iN x L):iN (-x) L:=by
 unfold iN at *;rw [Rat.neg_num,Rat.neg_den,Int.natAbs_neg];exact h
def aN (x:Rat)(k:Int):Rat:=if k<0 then mkRat x.num (x.den*2 ^ (-k).toNat) else mkRat (x.num*2 ^ k.toNat) x.den
theorem ox (x:Rat)(k:Nat):x.den*2 ^ k≠0:=Nat.ne_of_gt (Nat.mul_pos x.den_pos (Nat.pow_pos (by decide)))
theorem gz {x:Rat}{k:Int}(h:k<0):aN x k=mkRat (dg (decide (x.num<0)) x.num.natAbs) (x.den*2 ^ (-k).toNat):=by rw [sn];unfold aN;rw [if_pos h]
theorem p6 (neg:Bool)(a b:Nat):dg neg a*(b:Int)=dg neg (a*b):=by
 unfold dg;cases neg
 ·simp
 ·simp [Int.neg_mul]
theorem gx {x:Rat}{k:Int}(h:¬ k<0):aN x k=mkRat (dg (decide (x.num<0)) (x.num.natAbs*2 ^ k.toNat)) x.den:=by
 unfold aN;rw [if_neg h,← p6,sn];congr 2
theorem iD {x:Rat}{L:Nat}(h:iN x L) (k:Int):iN (aN x k) (L+k.natAbs / 32+1):=by
 by_cases hk:k<0
 ·rw [gz hk];refine mS _ (ox _ _) (by have:=h.1;omega) ?_;have h1:=fF x.den (2 ^ (-k).toNat);have h2:=mz (-k).toNat;have h3:(-k).toNat=k.natAbs:=by omega
  have:=h.2;rw [h3] at h1 h2 ⊢;omega
 ·rw [gx hk];refine mS _ x.den_nz ?_ (by have:=h.2;omega);have h1:=fF x.num.natAbs (2 ^ k.toNat);have h2:=mz k.toNat;have h3:k.toNat=k.natAbs:=by omega
  have:=h.1;rw [h3] at h1 h2 ⊢;omega
theorem C2 (x y:Rat):x+y=mkRat (dg (decide (x.num<0)) (x.num.natAbs*y.den)+dg (decide (y.num<0)) (y.num.natAbs*x.den)) (x.den*y.den):=by
 rw [Rat.add_def',← p6,← p6,sn,sn]
theorem Al (neg:Bool)(a b:Nat):dg neg a+dg neg b=dg neg (a+b):=by unfold dg;cases neg <;> simp <;> omega
theorem Dn {neg neg':Bool}(h:neg≠neg') {a b:Nat}(hab:a<b):dg neg a+dg neg' b=dg neg' (b - a):=by
 unfold dg;cases neg <;> cases neg' <;> simp_all <;> omega
theorem Eb {neg neg':Bool}(h:neg≠neg') {a b:Nat}(hab:¬ a<b):dg neg a+dg neg' b=dg neg (a - b):=by
 unfold dg;cases neg <;> cases neg' <;> simp_all <;> omega
theorem Lv {x y:Rat}{L:Nat}(hx:iN x L) (hy:iN y L):iN (x+y) (2*L+1):=by
 have hd:x.den*y.den≠0:=Nat.ne_of_gt (Nat.mul_pos x.den_pos y.den_pos);have e1:=fF x.num.natAbs y.den;have e2:=fF y.num.natAbs x.den;have e3:=fF x.den y.den;obtain⟨a1,a2⟩:=hx;obtain⟨b1,b2⟩:=hy;rw [C2]
 by_cases h:decide (x.num<0)=decide (y.num<0)
 ·rw [h,Al];refine mS _ hd ?_ (by omega);have:=Dy (x.num.natAbs*y.den) (y.num.natAbs*x.den);omega
 ·by_cases hab:x.num.natAbs*y.den<y.num.natAbs*x.den
  ·rw [Dn h hab];refine mS _ hd ?_ (by omega);have:=jV (Nat.sub_le (y.num.natAbs*x.den) (x.num.natAbs*y.den));omega
  ·rw [Eb h hab];refine mS _ hd ?_ (by omega);have:=jV (Nat.sub_le (x.num.natAbs*y.den) (y.num.natAbs*x.den));omega
def gG (x y:Rat):Int:=if x<y then -1 else if y<x then 1 else 0
end Go.Am

namespace Go.Am
open Go.Am.Ty Go.Proofs N
theorem OX (a b:Bool):aO Tryz.prog .eql 4 (.c (.d (.bool a))) (.c (.d (.bool b)))=some (.c (.d (.bool (a == b))),[],[],True):=by
 cases a <;> cases b <;> kernel_rfl
theorem wo (G:List (List DV))(neg:Bool)(p q:Option (List Nat))(hp:can 4294967296 (dO p))(hq:can 4294967296 (dO q))(hq0:dO q≠[])(hl:(dO p).length<1000000000000)(hl':(dO q).length<1000000000000) :
 aj Tryz.prog G 225 [.c (.d (.bool neg)),.c (nC p),.c (nC q)] (fc (mkRat (dg neg (val 4294967296 (dO p))) (val 4294967296 (dO q)))):=by
 have:=ot G neg p q hp hq hq0 hl hl';rw [yl neg hp hq hq0] at this;simp only [kg] at this;exact this
theorem xP (G:List (List DV))(neg:Bool)(a b:Nat)(hb:b≠0)(hl:nl a<1000000000000)(hl':nl b<1000000000000) :
 aj Tryz.prog G 225 [.c (.d (.bool neg)),.c (nC (some (aI 4294967296 a))),.c (nC (some (aI 4294967296 b)))] (fc (mkRat (dg neg a) b)):=by
 have:=wo G neg (some (aI 4294967296 a)) (some (aI 4294967296 b)) (fJ a) (fJ b) (kG hb) hl hl';simp only [aV,dF] at this;exact this
theorem Ea (G:List (List DV))(neg:Bool)(p q:Option (List Nat)):aj Tryz.prog G 198 [nX neg p q] (nX (!neg && decide (dO p≠[])) p q):=by
 cases neg with
 | true=>
  show aj Tryz.prog G 198 [nX true p q] (nX false p q);refine aj.bH Tryz.func198 rfl (by rw [Tryz.ntmps198];simp) (fun lv=>eV lv _ _ _) ?_;rintro⟨_,_,w0,F0,W0,_,bq,β0⟩ rfl rfl rfl;refine aac fun K hK=>?_;refine aad rfl ?_;simp;apply hK;clear hK K;refine aac fun K hK=>?_;refine aad rfl ?_;simp [DP];apply hK;clear hK K;refine aag ?_;refine bM.cell (κ:=0) (T:=224) (t:=2) (k:=1) (off:=0) (own:=true) (fz:=false) (U:=224) (cs:=[.d (.bool false),nC p,nC q]) rfl ?_ ?_ ?_
  ·simp
  ·simp [ak]
  ·rw [List.drop_zero,bL]
 | false=>
  by_cases hp:dO p=[]
  ·rw [show (!false && decide (dO p≠[]))=false by simp [hp]];refine aj.bH Tryz.func198 rfl (by rw [Tryz.ntmps198];simp) (fun lv=>eV lv _ _ _) ?_;rintro⟨_,_,w0,F0,W0,_,bq,β0⟩ rfl rfl rfl;refine aac fun K hK=>?_;refine aad rfl ?_;simp;apply hK;clear hK K;refine aac fun K hK=>?_;refine aad rfl ?_;simp [DP,YA,hp];apply hK;clear hK K;refine aag ?_;refine bM.cell (κ:=0) (T:=224) (t:=2) (k:=1) (off:=0) (own:=true) (fz:=false) (U:=224) (cs:=[.d (.bool false),nC p,nC q]) rfl ?_ ?_ ?_
   ·simp
   ·simp [ak]
   ·rw [List.drop_zero,bL]
  ·rw [show (!false && decide (dO p≠[]))=true by simp [hp]];refine aj.bH Tryz.func198 rfl (by rw [Tryz.ntmps198];simp) (fun lv=>eV lv _ _ _) ?_;rintro⟨_,_,w0,F0,W0,_,bq,β0⟩ rfl rfl rfl;refine aac fun K hK=>?_;refine aad rfl ?_;simp;apply hK;clear hK K;refine aac fun K hK=>?_;have hp':=List.length_pos_iff.2 hp;refine aad rfl ?_;simp [DP,YA,hp,hp'];apply hK;clear hK K;refine aag ?_;refine bM.cell (κ:=0) (T:=224) (t:=2) (k:=1) (off:=0) (own:=true) (fz:=false) (U:=224) (cs:=[.d (.bool true),nC p,nC q]) rfl ?_ ?_ ?_
   ·simp
   ·simp [ak]
   ·rw [List.drop_zero,bL]
theorem KK (G:List (List DV))(x:Rat):aj Tryz.prog G 198 [fc x] (fc (-x)):=by
 have h:=Ea G (decide (x.num<0)) (cG x.num.natAbs) (dA x.den)
 have e:(!decide (x.num<0) && decide (dO (cG x.num.natAbs)≠[]))=decide ((-x).num<0):=by
  rw [Rat.neg_num,kF]
  by_cases h0:x.num=0
  ·rw [h0];rfl
  ·have h1:(aI 4294967296 x.num.natAbs)≠[]:=kG (by omega);rw [decide_eq_true h1,Bool.and_true]
   by_cases h2:x.num<0
   ·rw [decide_eq_true h2,decide_eq_false (by omega)];rfl
   ·rw [decide_eq_false h2,decide_eq_true (by omega)];rfl
 rw [e] at h;show aj _ _ _ _ (nX (decide ((-x).num<0)) (cG (-x).num.natAbs) (dA (-x).den));rw [show (-x).num.natAbs=x.num.natAbs by rw [Rat.neg_num,Int.natAbs_neg],Rat.neg_den];exact h
theorem Gs (neg:Bool)(a:Nat):mkRat (dg neg a) 1=((dg neg a:Int):Rat):=by
 rw [Rat.mkRat_one]
theorem EW (G:List (List DV))(n:Int)(h1:-9223372036854775808≤n)(h2:n≤9223372036854775807):aj Tryz.prog G 263 [.c (.d (.int .i64 n))] (fc (n:Rat)):=by
 have hof1:=fD G 1 (by decide);have hofn:=fD G n.natAbs (by omega)
 have hl:nl n.natAbs<1000000000000:=by
  have e2:(4294967296:Nat) ^ 2=18446744073709551616:=by decide
  have:=BP (n:=n.natAbs) (m:=2) (by omega);omega
 have hm:=fun neg=>xP G neg n.natAbs 1 (by decide) hl (by rw [o9];decide)
 simp only [kg] at hof1 hofn;simp only [Gs] at hm
 by_cases hn:n<0
 ·have e:dg true n.natAbs=n:=by unfold dg;rw [if_pos rfl];omega
  have Qa:=hm true;rw [e] at Qa;have ew:IntKind.u64.wrap (-IntKind.u64.wrap n)=(n.natAbs:Int):=by rw [ye,ye];omega
  refine aj.bH Tryz.func263 rfl (by rw [Tryz.ntmps263];simp) (fun lv=>eV lv _ _ _) ?_;rintro⟨_,_,w0,F0,W0,_,bq,β0⟩ rfl rfl rfl;refine aac fun K hK=>?_;refine aad rfl ?_;simp;apply hK;clear hK K;refine aac fun K hK=>?_;refine aac fun K1 hK1=>?_;refine aad rfl ?_;simp [hn];apply hK1;clear hK1 K1;refine aap (by simp [hn] <;> omega) ?_;refine aac fun K1 hK1=>?_;refine aad rfl ?_;simp [ew];refine ai.p 1 9 hofn ?_;simp;refine ai.p 1 9 hof1 ?_;simp;refine ai.p 1 9 Qa ?_;simp;apply hK1;clear hK1 K1;refine aag ?_;refine bM.cell (κ:=0) (T:=224) (t:=2) (k:=0) (off:=0) (own:=true) (fz:=false) (U:=224) (cs:=[.d (.bool (decide ((n:Rat).num<0))),nC (cG (n:Rat).num.natAbs),nC (dA (n:Rat).den)]) rfl ?_ ?_ ?_
  ·simp
  ·simp [ak]
  ·rw [List.drop_zero,bL]
 ·have e:dg false n.natAbs=n:=by unfold dg;rw [if_neg (by decide)];omega
  have Qa:=hm false;rw [e] at Qa;have ew:IntKind.u64.wrap n=(n.natAbs:Int):=by rw [ye];omega
  refine aj.bH Tryz.func263 rfl (by rw [Tryz.ntmps263];simp) (fun lv=>eV lv _ _ _) ?_;rintro⟨_,_,w0,F0,W0,_,bq,β0⟩ rfl rfl rfl;refine aac fun K hK=>?_;refine aad rfl ?_;simp;apply hK;clear hK K;refine aac fun K hK=>?_;refine aac fun K1 hK1=>?_;refine aad rfl ?_;simp [hn];apply hK1;clear hK1 K1;refine aao (by simp [hn] <;> omega) ?_;refine aah ?_;simp;apply hK;clear hK K;refine aac fun K hK=>?_;refine aad rfl ?_;simp [ew];refine ai.p 1 9 hofn ?_;simp;refine ai.p 1 9 hof1 ?_;simp;refine ai.p 1 9 Qa ?_;simp;apply hK;clear hK K;refine aag ?_;refine bM.cell (κ:=0) (T:=224) (t:=2) (k:=0) (off:=0) (own:=true) (fz:=false) (U:=224) (cs:=[.d (.bool (decide ((n:Rat).num<0))),nC (cG (n:Rat).num.natAbs),nC (dA (n:Rat).den)]) rfl ?_ ?_ ?_
  ·simp
  ·simp [ak]
  ·rw [List.drop_zero,bL]
def yR (neg:Bool)(a:Nat)(neg':Bool)(b q:Nat):Rat:=
 if neg=neg' then mkRat (dg neg (a+b)) q else if a<b then mkRat (dg neg' (b - a)) q else mkRat (dg neg (a - b)) q
theorem qB {a b:Nat}:(dm a b<0)↔a<b:=by unfold dm;(repeat' split) <;> omega
set_option maxHeartbeats 4000000 in
theorem DG (G:List (List DV))(neg neg':Bool)(p q p' q':Option (List Nat))(h1:(dO p).length≤10000000000)(h2:(dO q).length≤10000000000)(h3:(dO p').length≤10000000000)(h4:(dO q').length≤10000000000)
 (c1:can 4294967296 (dO p)) (c2:can 4294967296 (dO (eD q))) (c3:can 4294967296 (dO p')) (c4:can 4294967296 (dO (eD q'))) (z2:(val 4294967296 (dO (eD q)))≠0) (z4:(val 4294967296 (dO (eD q')))≠0) :
 aj Tryz.prog G 335 [nX neg p q,nX neg' p' q'] (fc (yR neg ((val 4294967296 (dO p))*(val 4294967296 (dO (eD q')))) neg' ((val 4294967296 (dO p'))*(val 4294967296 (dO (eD q)))) ((val 4294967296 (dO (eD q)))*(val 4294967296 (dO (eD q')))))):=by
 have b1:=pQ h2 (by decide);have b2:=pQ h4 (by decide);have m1:=fK G p (eD q') (by omega) (by omega);have m2:=fK G p' (eD q) (by omega) (by omega);have m3:=fK G (eD q) (eD q') (by omega) (by omega);have hQ:(val 4294967296 (dO (eD q)))*(val 4294967296 (dO (eD q')))≠0:=Nat.ne_of_gt (Nat.mul_pos (Nat.pos_of_ne_zero z2) (Nat.pos_of_ne_zero z4));have lv:∀ {o:Option (List Nat)},can 4294967296 (dO o)→nl (val 4294967296 (dO o))=(dO o).length:=fun {o} hc=>by unfold nl;rw [← fV (by decide) hc rfl]
 have l1:nl ((val 4294967296 (dO p))*(val 4294967296 (dO (eD q'))))≤20000000000:=by
  have:=fF (val 4294967296 (dO p)) (val 4294967296 (dO (eD q')));rw [lv c1,lv c4] at this;omega
 have l2:nl ((val 4294967296 (dO p'))*(val 4294967296 (dO (eD q))))≤20000000000:=by
  have:=fF (val 4294967296 (dO p')) (val 4294967296 (dO (eD q)));rw [lv c3,lv c2] at this;omega
 have l3:nl ((val 4294967296 (dO (eD q)))*(val 4294967296 (dO (eD q'))))≤20000000000:=by
  have:=fF (val 4294967296 (dO (eD q))) (val 4294967296 (dO (eD q')));rw [lv c2,lv c4] at this;omega
 generalize (val 4294967296 (dO p))*(val 4294967296 (dO (eD q')))=a at *
 generalize (val 4294967296 (dO p'))*(val 4294967296 (dO (eD q)))=b at *
 generalize (val 4294967296 (dO (eD q)))*(val 4294967296 (dO (eD q')))=Q at *
 have la:(dO (some (aI 4294967296 a))).length≤20000000000:=l1;have lb:(dO (some (aI 4294967296 b))).length≤20000000000:=l2;have k1:=qR G (some (aI 4294967296 a)) (some (aI 4294967296 b)) (by omega) (by omega);have k2:=fP (G:=G) (a:=some (aI 4294967296 a)) (b:=some (aI 4294967296 b)) (fJ _) (fJ _);have k3:=fun h=>pO G (some (aI 4294967296 a)) (some (aI 4294967296 b)) (by omega) h
 have k4:=fun h=>pO G (some (aI 4294967296 b)) (some (aI 4294967296 a)) (by omega) h
 simp only [aV,dF] at k1 k2 k3 k4;simp only [kg,DX] at m1 m2 m3 k1 k2 k3 k4;have mk1:=fun neg n (h:nl n≤20000000001)=>xP G neg n Q hQ (by omega) (by omega)
 have hsum:nl (a+b)≤20000000001:=by have:=Dy a b;omega
 have hs1:nl (a - b)≤20000000001:=by have:=jV (Nat.sub_le a b);omega
 have hs2:nl (b - a)≤20000000001:=by have:=jV (Nat.sub_le b a);omega
 refine aj.bH Tryz.func335 rfl (by rw [Tryz.ntmps335];simp) (fun lv=>eV lv _ _ _) ?_;rintro⟨_,_,w0,F0,W0,_,bq,β0⟩ rfl rfl rfl;refine aac fun K hK=>?_;refine aad rfl ?_;simp;apply hK;clear hK K;refine aac fun K hK=>?_;refine aay mixed (by kernel_rfl) rfl ?_;simp;refine ai.p 3 9 (c9 _ neg' p' q') ?_;simp;refine ai.p 3 9 m1 ?_;simp;refine ai.p 3 9 (c9 _ neg p q) ?_;simp;refine ai.p 3 9 m2 ?_;simp;refine ai.p 3 9 (c9 _ neg p q) ?_;simp;refine ai.p 3 9 (c9 _ neg' p' q') ?_;simp;refine ai.p 3 9 m3 ?_;simp;refine⟨by kernel_rfl,?_⟩;apply hK;clear hK K;refine aac fun K hK=>?_;refine aak ?_;refine aac fun K1 hK1=>?_;refine aad rfl ?_;simp [OX];apply hK1;clear hK1 K1
 by_cases hn:neg=neg'
 ·subst hn;have e:yR neg a neg b Q=mkRat (dg neg (a+b)) Q:=by unfold yR;rw [if_pos rfl]
  rw [e];refine aaq ?_;refine aac fun K1 hK1=>?_;refine aay mixed (by kernel_rfl) rfl ?_;simp;refine ai.p 3 9 k1 ?_;simp;refine ai.p 3 9 (mk1 neg _ hsum) ?_;simp;refine⟨by kernel_rfl,?_⟩;apply hK1;clear hK1 K1;refine aag ?_;refine bM.cell (κ:=0) (T:=224) (t:=4) (k:=2) (off:=0) (own:=true) (fz:=false) (U:=224) (cs:=[.d (.bool (decide ((mkRat (dg neg (a+b)) Q).num<0))),nC (cG (mkRat (dg neg (a+b)) Q).num.natAbs),nC (dA (mkRat (dg neg (a+b)) Q).den)]) rfl ?_ ?_ ?_
  ·simp
  ·simp [ak]
  ·rw [List.drop_zero,bL]
 have hn':(neg == neg')=false:=by cases neg <;> cases neg' <;> simp_all
 refine aao (by simp [hn'] <;> omega) ?_;refine aac fun K1 hK1=>?_;refine aad rfl ?_;simp;refine ai.p 3 9 k2 ?_;simp;apply hK1;clear hK1 K1
 by_cases hab:a<b
 ·have e:yR neg a neg' b Q=mkRat (dg neg' (b - a)) Q:=by unfold yR;rw [if_neg hn,if_pos hab]
  rw [e];have hc:=qB.2 hab;refine aap (by simp [hc] <;> omega) ?_;refine aac fun K1 hK1=>?_;refine aay mixed (by kernel_rfl) rfl ?_;simp;refine ai.p 3 9 (k4 (by omega)) ?_;simp;refine ai.p 3 9 (mk1 neg' _ hs2) ?_;simp;refine⟨by kernel_rfl,?_⟩;apply hK1;clear hK1 K1;refine aag ?_;refine bM.cell (κ:=0) (T:=224) (t:=4) (k:=2) (off:=0) (own:=true) (fz:=false) (U:=224) (cs:=[.d (.bool (decide ((mkRat (dg neg' (b - a)) Q).num<0))),nC (cG (mkRat (dg neg' (b - a)) Q).num.natAbs),nC (dA (mkRat (dg neg' (b - a)) Q).den)]) rfl ?_ ?_ ?_
  ·simp
  ·simp [ak]
  ·rw [List.drop_zero,bL]
 ·have e:yR neg a neg' b Q=mkRat (dg neg (a - b)) Q:=by unfold yR;rw [if_neg hn,if_neg hab]
  have hc:¬ dm a b<0:=fun h=>hab (qB.1 h)
  refine aao (by simp [hc] <;> omega) ?_;refine aah ?_;simp;apply hK;clear hK K;refine aac fun K hK=>?_;refine aay mixed (by kernel_rfl) rfl ?_;simp;refine ai.p 3 9 (k3 (by omega)) ?_;simp;refine ai.p 3 9 (mk1 neg _ hs1) ?_;simp;refine⟨by kernel_rfl,?_⟩;apply hK;clear hK K;refine aag ?_;refine bM.cell (κ:=0) (T:=224) (t:=4) (k:=2) (off:=0) (own:=true) (fz:=false) (U:=224) (cs:=[.d (.bool (decide ((mkRat (dg neg (a - b)) Q).num<0))),nC (cG (mkRat (dg neg (a - b)) Q).num.natAbs),nC (dA (mkRat (dg neg (a - b)) Q).den)]) rfl ?_ ?_ ?_
  ·simp
  ·simp [ak]
  ·rw [List.drop_zero,bL,e]
theorem gJ (n:Nat):(dO (cG n)).length=nl n:=by rw [kF];rfl
theorem qa (n:Nat):(dO (dA n)).length≤nl n:=by
 unfold dA;split
 ·exact Nat.zero_le _
 ·exact Nat.le_refl _
theorem Kp (G:List (List DV))(x y:Rat)(hx:iN x 10000000000)(hy:iN y 10000000000):aj Tryz.prog G 335 [fc x,fc y] (fc (x+y)):=by
 have h:=DG G (decide (x.num<0)) (decide (y.num<0)) (cG x.num.natAbs) (dA x.den) (cG y.num.natAbs) (dA y.den)
  (by rw [gJ];exact hx.1) (Nat.le_trans (qa _) hx.2) (by rw [gJ];exact hy.1) (Nat.le_trans (qa _) hy.2) (mE _) (Co _) (mE _) (Co _) (by rw [r9];exact x.den_nz) (by rw [r9];exact y.den_nz)
 simp only [m4,r9] at h
 have e:yR (decide (x.num<0)) (x.num.natAbs*y.den) (decide (y.num<0)) (y.num.natAbs*x.den) (x.den*y.den)=x+y:=by
  rw [C2];unfold yR;split
  ·rename_i hh;rw [hh,Al]
  ·split
   ·rename_i hh hl;rw [Dn hh hl]
   ·rename_i hh hl;rw [Eb hh hl]
 rw [e] at h;exact h
theorem Lo (G:List (List DV))(x y:Rat)(hx:iN x 10000000000)(hy:iN y 10000000000):aj Tryz.prog G 287 [fc x,fc y] (fc (x - y)):=by
 have h1:=KK G y;have h2:=Kp G x (-y) hx (uc hy);rw [← Rat.sub_eq_add_neg] at h2;refine aj.bH Tryz.func287 rfl (by rw [Tryz.ntmps287];simp) (fun lv=>eV lv _ _ _) ?_;rintro⟨_,_,w0,F0,W0,_,bq,β0⟩ rfl rfl rfl;refine aac fun K hK=>?_;refine aad rfl ?_;simp;apply hK;clear hK K;refine aac fun K hK=>?_;refine aay mixed (by kernel_rfl) rfl ?_;simp;refine ai.p 3 9 h1 ?_;simp;refine ai.p 3 9 h2 ?_;simp;refine⟨by kernel_rfl,?_⟩;apply hK;clear hK K;refine aag ?_;refine bM.cell (κ:=0) (T:=224) (t:=4) (k:=2) (off:=0) (own:=true) (fz:=false) (U:=224) (cs:=[.d (.bool (decide ((x - y).num<0))),nC (cG (x - y).num.natAbs),nC (dA (x - y).den)]) rfl ?_ ?_ ?_
 ·simp
 ·simp [ak]
 ·rw [List.drop_zero,bL]
set_option maxHeartbeats 1000000 in
theorem BG (G:List (List DV))(x:Rat)(k:Int)(hx:iN x 10000000000)(h1:-1000000≤k)(h2:k≤1000000):aj Tryz.prog G 332 [fc x,.c (.d (.int .i64 k))] (fc (aN x k)):=by
 have hbot:=c9 G (decide (x.num<0)) (cG x.num.natAbs) (dA x.den);rw [zc] at hbot;have hw:IntKind.i64.wrap (-k) = -k:=bK (by omega) (by omega)
 by_cases hk:k<0
 ·have e:=gz (x:=x) hk;have ht:((-k).toNat:Int) = -k:=by omega
  have hs:=fL G (some (aI 4294967296 x.den)) (-k).toNat (by have:=hx.2;show nl _≤_;omega) (by omega);simp only [aV,kG x.den_nz,if_false,dF,kg,ht] at hs
  have hm:=wo G (decide (x.num<0)) (cG x.num.natAbs) (some (aI 4294967296 (x.den*2 ^ (-k).toNat))) (mE _) (fJ _) (kG (ox _ _)) (by rw [gJ];have:=hx.1;omega) (by
   have h3:=fF x.den (2 ^ (-k).toNat);have h4:=mz (-k).toNat;have:=hx.2;show nl _<_;omega)
  rw [m4,aV,dF,← e] at hm;generalize aN x k=r at *
  refine aj.bH Tryz.func332 rfl (by rw [Tryz.ntmps332];simp) (fun lv=>eV lv _ _ _) ?_;rintro⟨_,_,w0,F0,W0,_,bq,β0⟩ rfl rfl rfl;refine aac fun K hK=>?_;refine aad rfl ?_;simp;apply hK;clear hK K;refine aac fun K hK=>?_;refine aac fun K1 hK1=>?_;refine aad rfl ?_;simp [hk];apply hK1;clear hK1 K1;refine aap (by simp [hk] <;> omega) ?_;refine aac fun K1 hK1=>?_;refine aay mixed (by kernel_rfl) rfl ?_;simp [hw];refine ai.p 2 9 hbot ?_;simp [hw];refine ai.p 2 9 hs ?_;simp [hw];refine ai.p 2 9 hm ?_;simp;refine⟨by kernel_rfl,?_⟩;apply hK1;clear hK1 K1;refine aag ?_;refine bM.cell (κ:=0) (T:=224) (t:=4) (k:=1) (off:=0) (own:=true) (fz:=false) (U:=224) (cs:=[.d (.bool (decide (r.num<0))),nC (cG r.num.natAbs),nC (dA r.den)]) rfl ?_ ?_ ?_
  ·simp
  ·simp [ak]
  ·rw [List.drop_zero,bL]
 ·have e:=gx (x:=x) hk;have ht:(k.toNat:Int)=k:=by omega
  have hs:=fL G (cG x.num.natAbs) k.toNat (by rw [gJ];have:=hx.1;omega) (by omega)
  have hs':aj Tryz.prog G 326 [.c (nC (cG x.num.natAbs)),.c (.d (.int .i64 k))] (.c (nC (cG (x.num.natAbs*2 ^ k.toNat)))):=by
   simp only [m4] at hs;simp only [kF,ht,kg] at hs
   by_cases h0:x.num.natAbs=0
   ·have:(aI 4294967296 x.num.natAbs)=[]:=by rw [h0];rfl
    rw [if_pos this] at hs;rw [h0,Nat.zero_mul];rw [h0] at hs;exact hs
   ·rw [if_neg (kG h0)] at hs;unfold cG at hs ⊢;rw [if_neg h0] at hs;rw [if_neg h0,if_neg (Nat.ne_of_gt (Nat.mul_pos (Nat.pos_of_ne_zero h0) (Nat.pow_pos (by decide))))];exact hs
  have hm:=wo G (decide (x.num<0)) (cG (x.num.natAbs*2 ^ k.toNat)) (some (aI 4294967296 x.den)) (mE _) (fJ _) (kG x.den_nz) (by
   rw [gJ];have h3:=fF x.num.natAbs (2 ^ k.toNat);have h4:=mz k.toNat;have:=hx.1;omega) (by have:=hx.2;show nl _<_;omega)
  rw [m4,aV,dF,← e] at hm;generalize aN x k=r at *
  refine aj.bH Tryz.func332 rfl (by rw [Tryz.ntmps332];simp) (fun lv=>eV lv _ _ _) ?_;rintro⟨_,_,w0,F0,W0,_,bq,β0⟩ rfl rfl rfl;refine aac fun K hK=>?_;refine aad rfl ?_;simp;apply hK;clear hK K;refine aac fun K hK=>?_;refine aac fun K1 hK1=>?_;refine aad rfl ?_;simp [hk];apply hK1;clear hK1 K1;refine aao (by simp [hk] <;> omega) ?_;refine aah ?_;simp;apply hK;clear hK K;refine aac fun K hK=>?_;refine aay mixed (by kernel_rfl) rfl ?_;simp;refine ai.p 2 9 hs' ?_;simp;refine ai.p 2 9 hbot ?_;simp;refine ai.p 2 9 hm ?_;simp;refine⟨by kernel_rfl,?_⟩;apply hK;clear hK K;refine aag ?_;refine bM.cell (κ:=0) (T:=224) (t:=4) (k:=1) (off:=0) (own:=true) (fz:=false) (U:=224) (cs:=[.d (.bool (decide (r.num<0))),nC (cG r.num.natAbs),nC (dA r.den)]) rfl ?_ ?_ ?_
  ·simp
  ·simp [ak]
  ·rw [List.drop_zero,bL]
theorem A9 (lv:Key→LB)(b:Bool)(p q:Option (List Nat))(n:Int):gH lv (.tup [nX b p q,.c (.d (.int .i64 n))])=some (.tup [nX b p q,.c (.d (.int .i64 n))],[]):=by
 cases p <;> cases q <;> rfl
@[simp] theorem JY (b:Bool)(p q:Option (List Nat))(n:Int):(AV.tup [.agg [.d (.bool b),nC p,nC q],.c (.d (.int .i64 n))]).pure=true:=by
 cases p <;> cases q <;> rfl
theorem yG (G:List (List DV))(x:Rat)(k:Int)(hx:iN x 10000000000)(h1:-20000≤k)(h2:k≤20000):aj Tryz.prog G 283 [fc x,.c (.d (.int .i64 k))] (.tup [fc (aN x k),.c (.d (.int .i64 0))]):=by
 have h:=BG G x k hx (by omega) (by omega);generalize aN x k=r at *
 have i1:¬ k < -20000:=by omega
 have i2:¬ 20000<k:=by omega
 refine aj.bH Tryz.func283 rfl (by rw [Tryz.ntmps283];simp) (fun lv=>A9 lv _ _ _ _) ?_;rintro⟨_,_,w0,F0,W0,_,bq,β0⟩ rfl rfl rfl;refine aac fun K hK=>?_;refine aad rfl ?_;simp;apply hK;clear hK K;refine aac fun K hK=>?_;refine aac fun K1 hK1=>?_;refine aad rfl ?_;simp [i1,i2];apply hK1;clear hK1 K1;refine aat ?_;refine aah ?_;simp;apply hK;clear hK K;refine aac fun K hK=>?_;refine aad rfl ?_;simp;refine ai.p 2 9 h ?_;simp;apply hK;clear hK K;refine aag ?_;refine bM.kY (κ:=0) (T:=224) (t:=4) (u:=5) (k:=1) (off:=0) (own:=true) (fz:=false) (U:=224) (cs:=[.d (.bool (decide (r.num<0))),nC (cG r.num.natAbs),nC (dA r.den)]) rfl ?_ ?_ ?_ ?_ rfl rfl
 ·simp
 ·simp [ak]
 ·rw [List.drop_zero,bL]
 ·simp
theorem Ly (G:List (List DV))(k:Int)(h1:-20000≤k)(h2:k≤20000):aj Tryz.prog G 334 [.c (.d (.int .i64 k))] (.tup [fc (aN 1 k),.c (.d (.int .i64 0))]):=by
 have hi:=EW G 1 (by decide) (by decide);have h:=yG G 1 k ⟨by show nl 1≤_;rw [o9];decide,by show nl 1≤_;rw [o9];decide⟩ h1 h2;change aj _ _ _ _ (fc (1:Rat)) at hi;generalize aN 1 k=r at *
 generalize (1:Rat)=o at *
 refine aj.bH Tryz.func334 rfl (by rw [Tryz.ntmps334];simp) (fun lv=>A9 lv _ _ _ _) ?_;rintro⟨_,_,w0,F0,W0,_,bq,β0⟩ rfl rfl rfl;refine aac fun K hK=>?_;refine aad rfl ?_;simp;apply hK;clear hK K;refine aac fun K hK=>?_;refine aad rfl ?_;simp;refine ai.p 1 9 hi ?_;simp;refine ai.p 1 9 h ?_;simp;apply hK;clear hK K;refine aag ?_;refine bM.kY (κ:=0) (T:=224) (t:=2) (u:=3) (k:=0) (off:=0) (own:=true) (fz:=false) (U:=224) (cs:=[.d (.bool (decide (r.num<0))),nC (cG r.num.natAbs),nC (dA r.den)]) rfl ?_ ?_ ?_ ?_ rfl rfl
 ·simp
 ·simp [ak]
 ·rw [List.drop_zero,bL]
 ·simp
def ff (x:Rat):Int:=
 let k:=(bf x.num.natAbs:Int) - bf x.den
 if x.num.natAbs*2 ^ (max (-k) 0).toNat<x.den*2 ^ (max k 0).toNat then k - 1 else k
theorem vG {x:Rat}(hx:x≠0) {L:Nat}(h:iN x L):-(32*(L:Int))≤ff x∧ff x≤32*L:=by
 have h0:x.num.natAbs≠0:=by intro e;exact hx (Rat.num_eq_zero.1 (by omega))
 have h1:=tZ h0;have h2:=tZ x.den_nz;have h3:1≤bf x.num.natAbs:=by unfold bf;rw [if_neg h0];omega
 have h4:1≤bf x.den:=by unfold bf;rw [if_neg x.den_nz];omega
 have:=h.1;have:=h.2;unfold ff;simp only;split <;> omega
set_option maxHeartbeats 1000000 in
theorem KO (G:List (List DV))(x:Rat)(hx:x≠0)(hs:iN x 10000000):aj Tryz.prog G 333 [fc x] (.c (.d (.int .i64 (ff x)))):=by
 have h0:x.num.natAbs≠0:=by intro e;exact hx (Rat.num_eq_zero.1 (by omega))
 have hbot:=c9 G (decide (x.num<0)) (cG x.num.natAbs) (dA x.den);rw [zc] at hbot;have l1:=hs.1;have l2:=hs.2;have b1:=tZ h0;have b2:=tZ x.den_nz;have p1:=od G (cG x.num.natAbs) (mE _) (by rw [gJ];omega);have p2:=od G (some (aI 4294967296 x.den)) (fJ _) (by show nl _≤_;omega);rw [m4] at p1;rw [aV,dF] at p2;have ek:∃ k:Int,(bf x.num.natAbs:Int) - bf x.den=k∧-320000000≤k∧k≤320000000:=⟨_,rfl,by omega,by omega⟩
 obtain⟨k,hk,k1,k2⟩:=ek;have ew:IntKind.i64.wrap ((bf x.num.natAbs:Int) - bf x.den)=k:=by rw [hk];exact bK (by omega) (by omega)
 have ew2:IntKind.i64.wrap (-k) = -k:=bK (by omega) (by omega);have mx1:(List.foldl (fun a b:Int=>if a<b then b else a) (-k) [0])=((max (-k) 0).toNat:Int):=by simp only [List.foldl];split <;> omega
 have mx2:(List.foldl (fun a b:Int=>if a<b then b else a) k [0])=((max k 0).toNat:Int):=by simp only [List.foldl];split <;> omega
 have hlog:ff x=if x.num.natAbs*2 ^ (max (-k) 0).toNat<x.den*2 ^ (max k 0).toNat then k - 1 else k:=by unfold ff;simp only [hk]
 have s1:=fL G (cG x.num.natAbs) (max (-k) 0).toNat (by rw [gJ];omega) (by omega);have s2:=fL G (some (aI 4294967296 x.den)) (max k 0).toNat (by show nl _≤_;omega) (by omega);rw [kF,if_neg (kG h0),dF] at s1;rw [aV,if_neg (kG x.den_nz),dF] at s2;have cm:=fP (G:=G) (a:=some (aI 4294967296 (x.num.natAbs*2 ^ (max (-k) 0).toNat))) (b:=some (aI 4294967296 (x.den*2 ^ (max k 0).toNat))) (fJ _) (fJ _);simp only [aV,dF] at cm;generalize x.num.natAbs*2 ^ (max (-k) 0).toNat=a at *
 generalize x.den*2 ^ (max k 0).toNat=b at *
 generalize (max (-k) 0).toNat=u at *
 generalize (max k 0).toNat=v at *
 simp only [kg] at p1 p2 s1 s2 cm;have ew3:IntKind.i64.wrap (k - 1)=k - 1:=bK (by omega) (by omega);refine aj.aH Tryz.func333 rfl (by rw [Tryz.ntmps333];simp) ?_;rintro⟨_,_,w0,F0,W0,_,bq,β0⟩ rfl rfl rfl;refine aac fun K hK=>?_;refine aad rfl ?_;simp;apply hK;clear hK K;refine aac fun K hK=>?_;refine aad rfl ?_;simp;refine ai.p 1 9 hbot ?_;simp;apply hK;clear hK K;refine aac fun K hK=>?_;refine aad rfl ?_;simp;refine ai.p 1 9 p1 ?_;simp;refine ai.p 1 9 p2 ?_;simp [ew];apply hK;clear hK K;refine aac fun K hK=>?_;refine aac fun K1 hK1=>?_;refine aad rfl ?_;simp [ew2,cX,mx1,mx2,-List.foldl_cons,-List.foldl_nil];refine ai.p 1 9 s1 ?_;simp [ew2,cX,mx1,mx2,-List.foldl_cons,-List.foldl_nil];refine ai.p 1 9 s2 ?_;simp [ew2,cX,mx1,mx2,-List.foldl_cons,-List.foldl_nil];refine ai.p 1 9 cm ?_;simp;apply hK1;clear hK1 K1
 by_cases hab:a<b
 ·have hc:=qB.2 hab;rw [if_pos hab] at hlog;refine aap (by simp [hc] <;> omega) ?_;refine aad rfl ?_;simp [ew3];apply hK;clear hK K;refine aac fun K hK=>?_;refine aad rfl ?_;simp;apply hK;clear hK K;exact aag (κ:=0) (au.t (κ:=0) rfl 2 (by simp [hlog]))
 ·have hc:¬ dm a b<0:=fun h=>hab (qB.1 h)
  rw [if_neg hab] at hlog;refine aao (by simp [hc] <;> omega) ?_;refine aah ?_;simp;apply hK;clear hK K;refine aac fun K hK=>?_;refine aad rfl ?_;simp;apply hK;clear hK K;exact aag (κ:=0) (au.t (κ:=0) rfl 2 (by simp [hlog]))
theorem HB {x:Rat}(hx:x≠0):rm (decide (x.num<0)) (cG x.num.natAbs)≠0:=by
 have h0:x.num.natAbs≠0:=by intro e;exact hx (Rat.num_eq_zero.1 (by omega))
 unfold rm;rw [kF,if_neg (kG h0)];split <;> decide
theorem Hf {x:Rat}(hx:x=0):rm (decide (x.num<0)) (cG x.num.natAbs)=0:=by subst hx;rfl
theorem KY (G:List (List DV))(x:Rat)(hx:x≠0)(hs:iN x 10000000):aj Tryz.prog G 285 [fc x] (.tup [.c (.d (.int .i64 (ff x))),.c (.d (.int .i64 0))]):=by
 have h:=KO G x hx hs;have hg:=kj G (decide (x.num<0)) (cG x.num.natAbs) (dA x.den);have hne:=HB hx;refine aj.aH Tryz.func285 rfl (by rw [Tryz.ntmps285];simp) ?_;rintro⟨_,_,w0,F0,W0,_,bq,β0⟩ rfl rfl rfl;refine aac fun K hK=>?_;refine aad rfl ?_;simp;apply hK;clear hK K;refine aac fun K hK=>?_;refine aac fun K1 hK1=>?_;refine aad rfl ?_;simp;refine ai.p 1 9 hg ?_;simp [hne];apply hK1;clear hK1 K1;refine aao (by simp [hne] <;> omega) ?_;refine aah ?_;simp;apply hK;clear hK K;refine aac fun K hK=>?_;refine aad rfl ?_;simp;refine ai.p 1 9 h ?_;simp;apply hK;clear hK K;exact aag (κ:=0) (au.o7 (κ:=0) rfl 9 (by simp) (by simp) rfl rfl (by simp) rfl rfl (by decide))
theorem DK {x y:Rat}:x<y↔dg (decide (x.num<0)) (x.num.natAbs*y.den)<dg (decide (y.num<0)) (y.num.natAbs*x.den):=by
 rw [Rat.lt_iff,← p6,← p6,sn,sn]
theorem Eh (x y:Rat):Pb (decide (x.num<0)) (cG x.num.natAbs) (dA x.den) (decide (y.num<0)) (cG y.num.natAbs) (dA y.den)=gG x y:=by
 unfold gG;simp only [DK];unfold Pb;simp only [m4,r9];have hx:0<x.den:=x.den_pos;have hy:0<y.den:=y.den_pos
 have sx:rm (decide (x.num<0)) (cG x.num.natAbs)=if x.num.natAbs=0 then 0 else if x.num<0 then -1 else 1:=by
  unfold rm;rw [kF];simp only [dw (by decide:2≤4294967296),decide_eq_true_eq]
 have sy:rm (decide (y.num<0)) (cG y.num.natAbs)=if y.num.natAbs=0 then 0 else if y.num<0 then -1 else 1:=by
  unfold rm;rw [kF];simp only [dw (by decide:2≤4294967296),decide_eq_true_eq]
 rw [sx,sy];have ha:x.num.natAbs*y.den=0↔x.num.natAbs=0:=by rw [Nat.mul_eq_zero];omega
 have hb:y.num.natAbs*x.den=0↔y.num.natAbs=0:=by rw [Nat.mul_eq_zero];omega
 generalize x.num.natAbs*y.den=a at *
 generalize y.num.natAbs*x.den=b at *
 unfold dg dm;simp only [decide_eq_true_eq];generalize x.num=u at *
 generalize y.num=v at *
 (repeat' split) <;> omega
theorem ED (G:List (List DV))(x y:Rat)(hx:iN x 10000000000)(hy:iN y 10000000000):aj Tryz.prog G 161 [fc x,fc y] (.c (.d (.int .i64 (gG x y)))):=by
 have h:=D4 G (decide (x.num<0)) (decide (y.num<0)) (cG x.num.natAbs) (dA x.den) (cG y.num.natAbs) (dA y.den)
  (by rw [gJ];have:=hx.1;omega) (Nat.le_trans (qa _) (by have:=hx.2;omega)) (by rw [gJ];have:=hy.1;omega) (Nat.le_trans (qa _) (by have:=hy.2;omega))
 rw [Eh] at h;exact h
end Go.Am

namespace Go.Am
open Go.Proofs
theorem F2 (m:Int):aj Tryz.prog (GG m) 22 [.c (.d (.str [114,101,115,117,108,116,32,121,10]))]
 (.tup [.agg [.d .nilsl,.d (.int .i64 (.ofNat 0)),.d .nilsl,.d .nilsl,.d (.int .i64 (.ofNat 0)),.d (.int .i64 (.ofNat 0)),.d .nilsl,.d (.int .i64 (.ofNat 0))],.c (.d (.int .i64 (.ofNat 1))),.c (.d (.int .i64 (.ofNat 144)))]):=
 aj.Cg (zP m 60) (by kernel_rfl)
end Go.Am

namespace Go.Am
open Go.Am.Ty Go.Proofs N
def iW (c:UInt8):Bool:=decide (48≤c.toNat∧c.toNat≤57)
def CA:List DV:=(List.range 256).map fun c=>.bool (decide (48≤c∧c≤57))
theorem zj:CA.length=256:=by simp [CA]
theorem G7 (c:UInt8):CA.drop c.toNat=.bool (iW c)::CA.drop (c.toNat+1):=by
 have h:c.toNat<CA.length:=by rw [zj];exact c.toNat_lt
 rw [List.drop_eq_getElem_cons h];congr 1;simp [CA,iW]
theorem sG (G:List (List DV))(c:UInt8):aj Tryz.prog G 344 [.c (.d (.ptr CA)),.c (.d (.int .u8 c.toNat))] (.c (.d (.bool (iW c)))):=by
 have hc:=c.toNat_lt;have hl:=zj;have ha:=G7 c;refine aj.aH Tryz.func344 rfl (by rw [Tryz.ntmps344];simp) ?_;rintro⟨_,_,w0,F0,W0,_,bq,β0⟩ rfl rfl rfl;refine aac fun K hK=>?_;refine aad rfl ?_;simp;apply hK;clear hK K;refine aac fun K hK=>?_;refine aad rfl ?_;simp [az,ha,hl]
 repeat refine ag ?_
 apply hK;clear hK K;exact aag (κ:=0) (au.t (κ:=0) rfl 4 (by simp))
theorem Cr (G:List (List DV))(s:List UInt8):aj Tryz.prog G 308 [.c (.d (.str s)),.c (.d (.ptr CA))] (.c (.d (.str (s.dropWhile iW)))):=by
 refine aj.aH Tryz.func308 rfl (by rw [Tryz.ntmps308];simp) ?_;rintro⟨_,_,w0,F0,W0,_,bq,β0⟩ rfl rfl rfl;refine aac fun K hK=>?_;refine aad rfl ?_;simp;apply hK;clear hK K;refine aac fun K hK=>?_;refine aak ?_;refine aax (fun (p:List UInt8)=>⟨bt [(0,.c (.d (.str p))),(1,.c (.d (.ptr CA)))],fun _=>.hole⟩) 0 (fun p=>p.dropWhile iW=s.dropWhile iW) (fun p=>p.length) s (Le.mk' _ rfl (by intro k own es h;cases h) (by simp)) rfl ?_;rintro p hp;refine aac fun K3 hK3=>aac fun K4 hK4=>?_;refine aad rfl ?_;simp;apply hK4;clear hK4 K4
 cases p with
 | nil=>
  refine aat ?_;refine aav ?_;simp;apply hK;refine aac fun K3 hK3=>?_;refine aad rfl ?_;simp;apply hK3;clear hK3 K3;have hp':s.dropWhile iW=[]:=by rw [← hp];rfl
  exact aag (κ:=0) (au.t (κ:=0) rfl 4 (by simp [hp']))
 | cons c l=>
  refine aaq ?_;refine aah ?_;simp;apply hK3;refine aak ?_;refine aac fun K5 hK5=>?_;refine aac fun K6 hK6=>?_;refine aad rfl ?_;simp;refine ai.pure 0 9 (sG _ c) (by simp) (by simp) rfl ?_;simp;apply hK6;clear hK6 K6
  cases hd:iW c with
  | false=>
   refine aap (by simp [hd] <;> omega) ?_;refine aav ?_;simp;apply hK;simp only [List.dropWhile,hd] at hp;refine aac fun K3 hK3=>?_;refine aad rfl ?_;simp;apply hK3;clear hK3 K3;exact aag (κ:=0) (au.t (κ:=0) rfl 4 (by simp [hp]))
  | true=>
   refine aao (by simp [hd] <;> omega) ?_;refine aah ?_;simp;apply hK5;clear hK5 K5;refine aad rfl ?_;simp;simp only [List.dropWhile,hd] at hp;exact⟨by omega,l,Le.mk' _ rfl (by intro k own es h;cases h) (by simp),hp,by simp⟩
def iV (s:List UInt8):List UInt8:=(s.reverse.dropWhile iW).reverse
theorem zo (G:List (List DV))(s:List UInt8):aj Tryz.prog G 309 [.c (.d (.str s)),.c (.d (.ptr CA))] (.c (.d (.str (iV s)))):=by
 refine aZ.iQ 0 (by simp) (fun V v h=>(show s.length≤9223372036854775807 by cases h.1 with|str _ hl=>exact hl)) fun hr=>?_;refine aj.aH Tryz.func309 rfl (by rw [Tryz.ntmps309];simp) ?_;rintro⟨_,_,w0,F0,W0,_,bq,β0⟩ rfl rfl rfl;refine aac fun K hK=>?_;refine aad rfl ?_;simp;apply hK;clear hK K;refine aac fun K hK=>?_;refine aak ?_;refine aax (fun (p:List UInt8)=>⟨bt [(0,.c (.d (.str p))),(1,.c (.d (.ptr CA)))],fun _=>.hole⟩) 0 (fun p=>p.reverse.dropWhile iW=s.reverse.dropWhile iW∧p.length≤s.length) (fun p=>p.length) s (Le.mk' _ rfl (by intro k own es h;cases h) (by simp)) ⟨rfl,Nat.le_refl _⟩ ?_;rintro p ⟨hp,hpl⟩;refine aac fun K3 hK3=>aac fun K4 hK4=>?_;refine aad rfl ?_;simp;apply hK4;clear hK4 K4;rcases List.eq_nil_or_concat p with rfl|⟨l,c,rfl⟩
 ·refine aat ?_;refine aav ?_;simp;apply hK;refine aac fun K3 hK3=>?_;refine aad rfl ?_;simp;apply hK3;clear hK3 K3;have hp':iV s=[]:=by unfold iV;rw [← hp];rfl
  exact aag (κ:=0) (au.t (κ:=0) rfl 4 (by simp [hp']))
 ·rw [List.concat_eq_append] at *
  have hn:0<(l++[c]).length:=by simp
  have hlen:(l++[c]).length=l.length+1:=by simp
  have e2:IntKind.i64.wrap (l.length:Int)=(l.length:Int):=bK (by omega) (by omega);have hr1:(l++[c]).reverse=c::l.reverse:=by simp
  rw [hr1] at hp;refine aaq ?_;refine aah ?_;simp;apply hK3;refine aak ?_;refine aac fun K5 hK5=>?_;refine aac fun K6 hK6=>?_;refine aad rfl ?_;simp [e2];refine⟨by omega,?_⟩;refine ai.pure 0 9 (sG _ c) (by simp) (by simp) rfl ?_;simp;apply hK6;clear hK6 K6
  cases hd:iW c with
  | false=>
   refine aap (by simp [hd] <;> omega) ?_;refine aav ?_;simp;apply hK;simp only [List.dropWhile,hd] at hp;refine aac fun K3 hK3=>?_;refine aad rfl ?_;simp;apply hK3;clear hK3 K3;have hp':iV s=l++[c]:=by unfold iV;rw [← hp];simp
   exact aag (κ:=0) (au.t (κ:=0) rfl 4 (by simp [hp']))
  | true=>
   refine aao (by simp [hd] <;> omega) ?_;refine aah ?_;simp;apply hK5;clear hK5 K5;refine aad rfl ?_;simp [e2];simp only [List.dropWhile,hd] at hp;exact⟨by omega,l,Le.mk' _ rfl (by intro k own es h;cases h) (by simp),⟨hp,by omega⟩,by simp⟩
end Go.Am

namespace Go.Am
open Go.Proofs
theorem HY (m:Int):aj Tryz.prog (GG m) 307 [.c (.d (.str [48,49,50,51,52,53,54,55,56,57]))] (.tup [.agg (CA.map .d),.c (.d (.bool true))]):=
 aj.Cg (zP m 60) (by kernel_rfl)
end Go.Am

namespace Go.Am
open Go.Am.Ty Go.Proofs N
abbrev T6:List UInt8:=[48,49,50,51,52,53,54,55,56,57]
def qA (s:List UInt8):List UInt8:=(iV s).dropWhile iW
def A6:List CV:=List.replicate 256 (.d (.bool false))
def pP:List CV:=CA.map .d
theorem Nb (m:Int):aj Tryz.prog (GG m) 307 [.c (.d (.str T6))] (.tup [.agg pP,.c (.d (.bool true))]):=HY m
theorem OF:(AV.tup [.agg pP,.c (.d (.bool true))]).pure=true:=by kernel_rfl
abbrev Yp:Key→LB:=aJ (fun _=>LB.hole) 0 (.cells true false 342 pP)
theorem MC (s:List UInt8):jI Yp [.c (.d (.str s)),.c (.ptr 0 0)]=some ([.c (.d (.str s)),.c (.d (.ptr CA))],[0]):=by kernel_rfl
theorem ZR:pG Yp (.c (.ptr 0 0))=[0]:=by kernel_rfl
theorem rdS (s:List UInt8):∀ a∈[AV.c (.d (.str s)),AV.c (.ptr 0 0)],∀ k∈pG Yp a,k∈[0]:=by
 intro a ha k hk;simp only [List.mem_cons,List.not_mem_nil,or_false] at ha;rcases ha with rfl|rfl
 ·cases hk
 ·rw [ZR] at hk;exact hk
theorem zcS:bx Tryz.prog 342=some A6:=by kernel_rfl
theorem stS:cQ Tryz.prog 342 (aJ (fun _=>.hole) 0 (.cells true false 342 A6)) (.c (.ptr 0 0)) (.agg pP)=some (.undef,[(0,.cells true false 342 pP)],[],True):=by
 have hl:pP.length=256:=by unfold pP;simp [zj]
 have hz:A6.length=256:=List.length_replicate
 have hs:ak A6 0 pP=pP:=by
  unfold ak;rw [hl,List.take_zero,List.nil_append,Nat.zero_add,List.drop_eq_nil_of_le (Nat.le_of_eq hz),List.append_nil]
 have hi:((Tryz.prog.info? 342).isSome && pP.length == gw Tryz.prog 342)=true:=by kernel_rfl
 have hu:aJ (fun _=>LB.hole) 0 (.cells true false 342 A6) 0=.cells true false 342 (List.replicate 256 (.d (.bool false))):=aB _ _ _;have ht:(0+pP.length≤A6.length)=True:=by rw [hl,hz];exact eq_true (by decide)
 unfold cQ;simp only [hu];show (if ((Tryz.prog.info? 342).isSome && pP.length == gw Tryz.prog 342)=true then some (AV.undef,[(0,LB.cells true false 342 (ak A6 0 pP))],[],0+pP.length≤A6.length) else none)=_;rw [if_pos hi,hs,ht]
theorem ai.flat {c:Ctx}{f:FuncId}{xs us:List AV}{ks rds:List Key}{x:AV}{lv:Key→LB}{K:AV→List (Key × LB)→List Key→Nat→Prop}(κ:Nat) (ha:jI lv xs=some (us,ks)) (hc:aj c.P c.G f us x) (hx:x.flat=true)
 (hr:∀ a∈xs,∀ k∈pG lv a,k∈rds) (hK:K x [] rds κ):ai c f xs lv K:=⟨x,[],rds,κ,bU.flat us ks rds x ha hc hx hr,hK⟩
theorem tP (s:List UInt8):aO Tryz.prog .eql 9 (.c (.d (.str s))) (.c (.d (.str [])))=some (.c (.d (.bool (decide (s=[])))),[],[],True):=by
 cases s with
 | nil=>kernel_rfl
 | cons a l=>exact (show ∀ a l,aO Tryz.prog .eql 9 (.c (.d (.str (a::l)))) (.c (.d (.str [])))=some (.c (.d (.bool false)),[],[],True) from fun a l=>by kernel_rfl) a l
set_option maxHeartbeats 1000000 in
theorem At (m:Int)(s:List UInt8):aj Tryz.prog (GG m) 261 [.c (.d (.str s)),.c (.d (.str T6))] (.c (.d (.str (qA s)))):=by
 refine aj.aH Tryz.func261 rfl (by rw [Tryz.ntmps261];simp) ?_;rintro⟨_,_,w0,F0,W0,_,bq,β0⟩ rfl rfl rfl;refine aac fun K hK=>?_;refine aad rfl ?_;simp;apply hK;clear hK K;refine aac fun K hK=>?_;refine aac fun K1 hK1=>?_
 by_cases hs:s=[]
 ·refine aad rfl ?_;simp [tP,hs];apply hK1;clear hK1 K1;refine aaq ?_;refine aac fun K1 hK1=>?_;refine aad rfl ?_;simp;apply hK1;clear hK1 K1;exact aag (κ:=0) (au.t (κ:=0) rfl 4 (by simp [hs,qA,iV]))
 refine aad rfl ?_;simp [tP,hs];apply hK1;clear hK1 K1;refine aat ?_;refine aah ?_;simp;apply hK;clear hK K;refine aac fun K hK=>?_;refine aac fun K1 hK1=>?_;refine aad rfl ?_;simp;apply hK1;clear hK1 K1;refine aat ?_;refine aah ?_;simp;apply hK;clear hK K;refine aac fun K hK=>?_;refine aac fun K1 hK1=>?_;refine aad rfl ?_;simp;refine ai.pure 0 9 (Nb m) OF (by simp) rfl ?_;simp [zcS,stS,-cQ];apply hK1;clear hK1 K1;refine aac fun K1 hK1=>?_;refine aad rfl ?_;simp;apply hK1;clear hK1 K1;refine aaq ?_;refine aac fun K1 hK1=>?_;refine aad rfl ?_;simp;refine ai.flat 2 (us:=[.c (.d (.str s)),.c (.d (.ptr CA))]) (ks:=[0]) (rds:=[0]) (MC s) (zo _ s) rfl (rdS s) ?_;simp;refine ai.flat 2 (us:=[.c (.d (.str (iV s))),.c (.d (.ptr CA))]) (ks:=[0]) (rds:=[0]) (MC _) (Cr _ (iV s)) rfl (rdS _) ?_;simp;apply hK1;clear hK1 K1;exact aag (κ:=0) (au.tmp (κ:=0) rfl 9 (by simp [qA]) rfl (by simp) rfl)
end Go.Am

namespace Go.Am
open Go.Am.Ty Go.Proofs N
theorem JX (s t:List UInt8):(s == t)=decide (s=t):=by
 by_cases h:s=t
 ·subst h;simp
 ·rw [decide_eq_false h];exact beq_eq_false_iff_ne.2 h
theorem eqStr (s t:List UInt8):aO Tryz.prog .eql 9 (.c (.d (.str s))) (.c (.d (.str t)))=some (.c (.d (.bool (decide (s=t)))),[],[],True):=by
 rw [← JX];kernel_rfl
theorem sV (s t:List UInt8):aO Tryz.prog .neq 9 (.c (.d (.str s))) (.c (.d (.str t)))=some (.c (.d (.bool (!decide (s=t)))),[],[],True):=by
 rw [← JX];kernel_rfl
def ef (s:List UInt8):Bool:=!decide (s=[]) && decide (qA s=[]) && (decide (s=[48]) || !decide (s.getD 0 0=48))
theorem GW (m:Int)(s:List UInt8):aj Tryz.prog (GG m) 224 [.c (.d (.str s))] (.c (.d (.bool (ef s)))):=by
 refine aj.aH Tryz.func224 rfl (by rw [Tryz.ntmps224];simp) ?_;rintro⟨_,_,w0,F0,W0,_,bq,β0⟩ rfl rfl rfl;refine aac fun K hK=>?_;refine aad rfl ?_;simp;apply hK;clear hK K;refine aac fun K hK=>?_
 cases s with
 | nil=>
  refine aad rfl ?_;simp [sV];apply hK;clear hK K;exact aag (κ:=0) (au.t (κ:=0) rfl 2 (by simp [ef]))
 | cons a l=>
  refine aad rfl ?_;simp [sV];refine ai.pure 0 9 (At m (a::l)) (by simp) (by simp) rfl ?_
  by_cases ht:qA (a::l)=[]
  ·by_cases h0:a::l=[48]
   ·have ht':qA [48]=[]:=h0 ▸ ht;simp [eqStr,h0,ht'];apply hK;clear hK K;exact aag (κ:=0) (au.t (κ:=0) rfl 2 (by simp [ef,h0,ht']))
   ·simp [eqStr,ht,h0];apply hK;clear hK K
    have ha:((a.toNat:Int)=48)↔a=48:=by
     constructor
     ·intro h;exact UInt8.toNat_inj.1 (by show a.toNat=48;omega)
     ·intro h;subst h;rfl
    have hr:ef (a::l) = !decide ((a.toNat:Int)=48):=by
     have h1:decide ((a.toNat:Int)=48)=decide (a=48):=by simp only [ha]
     rw [h1];simp [ef,ht,h0]
    exact aag (κ:=0) (au.t (κ:=0) rfl 2 (by simp [hr]))
  ·simp [eqStr,ht];apply hK;clear hK K;exact aag (κ:=0) (au.t (κ:=0) rfl 2 (by simp [ef,ht]))
end Go.Am

namespace Go.Am
open Go.Am.Ty Go.Proofs N
def qP (s p:List UInt8):Bool:=decide (p.length≤s.length) && decide (s.take p.length=p)
def jP (s p:List UInt8):List UInt8:=if qP s p=true then s.drop p.length else s
theorem zi (G:List (List DV))(s p:List UInt8):aj Tryz.prog G 254 [.c (.d (.str s)),.c (.d (.str p))] (.c (.d (.bool (qP s p)))):=by
 refine aj.aH Tryz.func254 rfl (by rw [Tryz.ntmps254];simp) ?_;rintro⟨_,_,w0,F0,W0,_,bq,β0⟩ rfl rfl rfl;refine aac fun K hK=>?_;refine aad rfl ?_;simp;apply hK;clear hK K;refine aac fun K hK=>?_
 by_cases h:p.length≤s.length
 ·have h':(p.length:Int)≤(s.length:Int):=by omega
  refine aad rfl ?_;simp [eqStr,h,h'];apply hK;clear hK K;exact aag (κ:=0) (au.t (κ:=0) rfl 4 (by simp [qP,h]))
 ·have h':¬ (p.length:Int)≤(s.length:Int):=by omega
  refine aad rfl ?_;simp [eqStr,h,h'];apply hK;clear hK K;exact aag (κ:=0) (au.t (κ:=0) rfl 4 (by simp [qP,h]))
theorem xq (G:List (List DV))(s p:List UInt8):aj Tryz.prog G 276 [.c (.d (.str s)),.c (.d (.str p))] (.tup [.c (.d (.str (jP s p))),.c (.d (.bool (qP s p)))]):=by
 refine aj.aH Tryz.func276 rfl (by rw [Tryz.ntmps276];simp) ?_;rintro⟨_,_,w0,F0,W0,_,bq,β0⟩ rfl rfl rfl;refine aac fun K hK=>?_;refine aad rfl ?_;simp;apply hK;clear hK K;refine aac fun K hK=>?_;refine aac fun K1 hK1=>?_;refine aad rfl ?_;simp;refine ai.pure 0 9 (zi _ s p) (by simp) (by simp) rfl ?_;simp;apply hK1;clear hK1 K1
 by_cases h:qP s p=true
 ·refine aao (by simp [h] <;> omega) ?_;refine aah ?_;simp;apply hK;clear hK K;refine aac fun K hK=>?_
  have hl:p.length≤s.length:=by
   unfold qP at h;simp only [Bool.and_eq_true,decide_eq_true_eq] at h;exact h.1
  refine aad rfl ?_;simp [hl];apply hK;clear hK K;exact aag (κ:=0) (au.o7 (κ:=0) rfl 5 (by simp [jP,h]) (by simp [h]) rfl rfl rfl rfl rfl (by decide))
 ·refine aap (by simp [h] <;> omega) ?_;refine aac fun K1 hK1=>?_;refine aad rfl ?_;simp;apply hK1;clear hK1 K1;exact aag (κ:=0) (au.o7 (κ:=0) rfl 5 (by simp [jP,h]) (by simp [h]) rfl rfl rfl rfl rfl (by decide))
theorem zh (G:List (List DV))(s p:List UInt8):aj Tryz.prog G 222 [.c (.d (.str s)),.c (.d (.str p))] (.tup [.c (.d (.str (jP s p))),.c (.d (.bool (qP s p)))]):=by
 refine aj.aH Tryz.func222 rfl (by rw [Tryz.ntmps222];simp) ?_;rintro⟨_,_,w0,F0,W0,_,bq,β0⟩ rfl rfl rfl;refine aac fun K hK=>?_;refine aad rfl ?_;simp;apply hK;clear hK K;refine aac fun K hK=>?_;refine aad rfl ?_;simp;refine ai.pure 0 9 (xq _ s p) rfl (by simp) rfl ?_;simp;apply hK;clear hK K;exact aag (κ:=0) (au.o7 (κ:=0) rfl 6 (by simp) (by simp) rfl rfl rfl rfl rfl (by decide))
end Go.Am

namespace Go.Am
open Go.Am.Ty Go.Proofs N
theorem au.nW {c:Ctx}{fn:Func}{x y z:AV}{t u v:Nat}{s:aG}{κ:Nat}(hr:fn.results=#[.tmp t,.tmp u,.tmp v]) (kh:Key) (hx:s.fr t=x) (hy:s.fr u=y) (hz:s.fr v=z) (hp:x.pure=true) (hq:y.pure=true) (hw:z.pure=true) (hh:s.lv kh=.hole)
 (hn:x.cP=true) (hm:y.cP=true) (hl:z.cP=true) (htu:t≠u) (htv:t≠v) (huv:u≠v):au c fn (.tup [x,y,z]) .ret s κ:=by
 refine⟨[(t,x),(u,y),(v,z)],kh,by simp [hp,hx,hq,hy,hw,hz],hh,?_⟩;rw [hr];have h1:¬ u=t:=fun h=>htu h.symm
 have h2:¬ v=t:=fun h=>htv h.symm
 have h3:¬ v=u:=fun h=>huv h.symm
 simp [dH,kq,n5,bt,h1,h2,h3,hn,hm,hl]
def jj (s t:List UInt8):Int:=Lib.index s t
def rj (s t:List UInt8):List UInt8:=if 0≤jj s t then s.take (jj s t).toNat else s
def qS (s t:List UInt8):List UInt8:=if 0≤jj s t then s.drop ((jj s t).toNat+t.length) else []
theorem Jq (s t:List UInt8)(h:s.length≤9223372036854775807):-9223372036854775808≤Lib.index s t∧Lib.index s t≤9223372036854775807:=by
 have h1:=Lib.index_ge s t
 have h2:Lib.index s t≤s.length:=by
  clear h h1
  induction s with
  | nil=>simp only [Lib.index];split <;> simp
  | cons a s ih=>
   simp only [Lib.index];split
   ·simp;omega
   ·split <;> simp <;> omega
 omega
theorem Fh (G:List (List DV))(s:List UInt8)(c:Nat)(hc:c<256):aj Tryz.prog G 255 [.c (.d (.str s)),.c (.d (.int .u8 (c:Int)))] (.c (.d (.int .i64 (jj s [UInt8.ofNat c])))):=by
 refine aZ.iQ 0 (by simp) (fun V v h=>(show s.length≤9223372036854775807 by cases h.1 with|str _ hl=>exact hl)) fun hs=>?_;refine aj.BS (X:=.c (.d (.int .i64 (jj s [UInt8.ofNat c])))) (lv':=fun _=>.hole) (ks:=[]) ?_ rfl;refine bS.of_same (by rfl) fun F β w vs hS hl hv=>?_;obtain⟨u,v,rfl,hu,hv⟩:=args2 hl hv;have:=Tryz.stringslite_IndexByte ⟨s.toArray⟩ c w;refine⟨.int .i64 (jj s [UInt8.ofNat c]),Aq (Jq s _ hs),?_⟩;rw [Vw.hO hu,Vw.eM hv];simpa [jj,← index_one] using this
theorem Jx (c:UInt8):jj [c] [c]=0:=by simp [jj,Lib.index,List.isPrefixOf]
theorem FL (G:List (List DV))(s:List UInt8)(c:UInt8):aj Tryz.prog G 253 [.c (.d (.str s)),.c (.d (.str [c]))] (.c (.d (.int .i64 (jj s [c])))):=by
 have hb:=Fh G s c.toNat c.toNat_lt;rw [show UInt8.ofNat c.toNat=c from UInt8.ofNat_toNat] at hb;refine aj.aH Tryz.func253 rfl (by rw [Tryz.ntmps253];simp) ?_;rintro⟨_,_,w0,F0,W0,_,bq,β0⟩ rfl rfl rfl;refine aac fun K hK=>?_;refine aad rfl ?_;simp;apply hK;clear hK K;refine aac fun K hK=>?_;refine aad rfl ?_;simp;apply hK;clear hK K;refine aac fun K hK=>?_;refine aak ?_;refine aac fun K1 hK1=>?_
 by_cases hs:[c]=s
 ·have h0:jj s [c]=0:=by rw [← hs];exact Jx c
  refine aad rfl ?_;simp [eqStr,hs];apply hK1;clear hK1 K1;refine aaq ?_;refine aac fun K1 hK1=>?_;refine aad rfl ?_;simp;apply hK1;clear hK1 K1;exact aag (κ:=0) (au.t (κ:=0) rfl 4 (by simp [h0]))
 ·refine aad rfl ?_;simp [eqStr,hs];apply hK1;clear hK1 K1;refine aat ?_;refine aac fun K1 hK1=>?_;refine aad rfl ?_;simp;apply hK1;clear hK1 K1;refine aaq ?_;refine aac fun K1 hK1=>?_;refine aad rfl ?_;simp;refine ai.pure 0 9 hb (by simp) (by simp) rfl ?_;simp;apply hK1;clear hK1 K1;exact aag (κ:=0) (au.t (κ:=0) rfl 4 (by simp))
set_option maxHeartbeats 1000000 in
theorem Hu (m:Int)(s t:List UInt8)(h:s.length≤9223372036854775807)(hix:aj Tryz.prog (GG m) 253 [.c (.d (.str s)),.c (.d (.str t))] (.c (.d (.int .i64 (jj s t))))):aj Tryz.prog (GG m) 277 [.c (.d (.str s)),.c (.d (.str t))] (.tup [.c (.d (.str (rj s t))),.c (.d (.str (qS s t))),.c (.d (.bool (decide (0≤jj s t))))]):=by
 refine aj.aH Tryz.func277 rfl (by rw [Tryz.ntmps277];simp) ?_;rintro⟨_,_,w0,F0,W0,_,bq,β0⟩ rfl rfl rfl;refine aac fun K hK=>?_;refine aad rfl ?_;simp;apply hK;clear hK K;refine aac fun K hK=>?_;refine aac fun K1 hK1=>?_;refine aad rfl ?_;simp;refine ai.pure 0 9 hix (by simp) (by simp) rfl ?_;simp;apply hK1;clear hK1 K1;refine aac fun K1 hK1=>?_;refine aad rfl ?_;simp;apply hK1;clear hK1 K1
 by_cases hi:0≤jj s t
 ·refine aap (by simp [hi] <;> omega) ?_;obtain⟨n,hn⟩:∃ n:Nat,jj s t=n:=⟨(jj s t).toNat,(Int.toNat_of_nonneg hi).symm⟩
  have hr:=Lib.index_room s t (by unfold jj at hi;exact hi);have hr':n+t.length≤s.length:=by unfold jj at hn;rw [hn] at hr;omega
  have hw:IntKind.i64.wrap ((n:Int)+t.length)=((n+t.length:Nat):Int):=by rw [bK (by omega) (by omega)];omega
  have hn1:n≤s.length:=by omega
  refine aac fun K1 hK1=>?_;refine aaz mixed (by kernel_rfl) rfl rfl ?_;simp [hn,hw,hn1,hr',-Int.natCast_add];apply hK1;clear hK1 K1;exact aag (κ:=0) (au.nW (κ:=0) rfl 9 (by simp [rj,hi,hn]) (by simp [qS,hi,hn]) (by simp [hi,hn]) rfl rfl rfl rfl rfl rfl rfl (by decide) (by decide) (by decide))
 ·refine aao (by simp [hi] <;> omega) ?_;refine aah ?_;simp;apply hK;clear hK K;refine aac fun K hK=>?_;refine aad rfl ?_;simp;apply hK;clear hK K;exact aag (κ:=0) (au.nW (κ:=0) rfl 9 (by simp [rj,hi]) (by simp [qS,hi]) (by simp [hi]) rfl rfl rfl rfl rfl rfl rfl (by decide) (by decide) (by decide))
theorem JN (m:Int)(s t:List UInt8)(h:s.length≤9223372036854775807)(hix:aj Tryz.prog (GG m) 253 [.c (.d (.str s)),.c (.d (.str t))] (.c (.d (.int .i64 (jj s t))))):aj Tryz.prog (GG m) 223 [.c (.d (.str s)),.c (.d (.str t))] (.tup [.c (.d (.str (rj s t))),.c (.d (.str (qS s t))),.c (.d (.bool (decide (0≤jj s t))))]):=by
 refine aj.aH Tryz.func223 rfl (by rw [Tryz.ntmps223];simp) ?_;rintro⟨_,_,w0,F0,W0,_,bq,β0⟩ rfl rfl rfl;refine aac fun K hK=>?_;refine aad rfl ?_;simp;apply hK;clear hK K;refine aac fun K hK=>?_;refine aad rfl ?_;simp;refine ai.pure 0 9 (Hu m s t h hix) rfl (by simp) rfl ?_;simp;apply hK;clear hK K;exact aag (κ:=0) (au.nW (κ:=0) rfl 9 (by simp) (by simp) (by simp) rfl rfl rfl rfl rfl rfl rfl (by decide) (by decide) (by decide))
theorem Kh (m:Int)(s:List UInt8)(c:UInt8):aj Tryz.prog (GG m) 223 [.c (.d (.str s)),.c (.d (.str [c]))] (.tup [.c (.d (.str (rj s [c]))),.c (.d (.str (qS s [c]))),.c (.d (.bool (decide (0≤jj s [c]))))]):=by
 refine aZ.iQ 0 (by simp) (fun V v h=>(show s.length≤9223372036854775807 by cases h.1 with|str _ hl=>exact hl)) fun hs=>?_;exact JN m s [c] hs (FL (GG m) s c)
end Go.Am

namespace Go.Am
open Go.Am.Ty Go.Proofs N
theorem Hl {p:UInt8→Bool}:∀ {l:List UInt8},l.dropWhile p=[]→∀ x∈l,p x=true
 | [],_,x,hx=>by cases hx
 | a::l,h,x,hx=>by
  simp only [List.dropWhile] at h;split at h
  ·rename_i ha
   rcases List.mem_cons.1 hx with rfl|hx
   ·exact ha
   ·exact Hl h x hx
  ·cases h
theorem FG {s:List UInt8}(h:qA s=[]):tK s:=by
 have h1:∀ x∈iV s,iW x=true:=Hl h;have h2:∀ x∈s.reverse.dropWhile iW,iW x=true:=fun x hx=>h1 x (by unfold iV;exact List.mem_reverse.2 hx)
 have h3:∀ x∈s.reverse,iW x=true:=by
  intro x hx;rw [← List.takeWhile_append_dropWhile (p:=iW) (l:=s.reverse),List.mem_append] at hx;rcases hx with hx|hx
  ·have:=List.all_takeWhile (p:=iW) (l:=s.reverse);exact List.all_eq_true.1 this x hx
  ·exact h2 x hx
 intro c hc;have:=h3 c (List.mem_reverse.2 hc);simpa [iW] using this
theorem mF {s:List UInt8}(h:ef s=true):tK s∧s≠[]:=by
 unfold ef at h;simp only [Bool.and_eq_true,Bool.not_eq_true',decide_eq_false_iff_not,decide_eq_true_eq] at h;exact⟨FG h.1.2,h.1.1⟩
abbrev W5:AV:=nX false none none
def gX (neg:Bool)(top bot:List UInt8)(brk:Bool):Bool:=!ef top || (neg && decide (top=[48])) || (brk && (!ef bot || decide (bot=[48]) || decide (bot=[49])))
abbrev nj (s:List UInt8):Option (List Nat):=some (aI 4294967296 (aP s 0))
def ec (neg:Bool)(top bot:List UInt8)(brk:Bool):AV:=
 if gX neg top bot brk=true then .tup [W5,.c (.d (.int .i64 6))]
 else if 2000<max top.length bot.length then .tup [W5,.c (.d (.int .i64 3))]
 else if brk=false then .tup [iY neg (nj top) (some (aI 4294967296 1)),.c (.d (.int .i64 0))]
 else if val 4294967296 (dO (gO (nj top) (nj bot)))=1 then .tup [nX neg (nj top) (nj bot),.c (.d (.int .i64 0))]
 else .tup [W5,.c (.d (.int .i64 6))]
theorem Cd (lv:Key→LB)(neg:Bool)(top bot:List UInt8)(brk:Bool):gH lv (ec neg top bot brk)=some (ec neg top bot brk,[]):=by
 have h1:∀ b p q n,gH lv (.tup [nX b p q,.c (.d (.int .i64 n))])=some (.tup [nX b p q,.c (.d (.int .i64 n))],[]):=by
  intro b p q n;cases p <;> cases q <;> rfl
 unfold ec iY
 (repeat' split) <;> exact h1 ..
theorem BI (G:List (List DV)){s:List UInt8}(h:ef s=true) (hl:s.length≤2000):aj Tryz.prog G 226 [.c (.d (.str s))] (.c (nC (nj s))):=by
 obtain⟨h1,h2⟩:=mF h;have:=n8 G s h1 (by omega)
 have e:oO (!s.isEmpty) (aP s 0)=nj s:=by
  cases s with
  | nil=>exact absurd rfl h2
  | cons a l=>rfl
 rw [e,kg] at this;exact this
set_option maxHeartbeats 4000000 in
theorem AG (m:Int)(r:List UInt8) :
 aj Tryz.prog (GG m) 159 [.c (.d (.str r))] (ec (qP r [45]) (rj (jP r [45]) [47]) (qS (jP r [45]) [47]) (decide (0≤jj (jP r [45]) [47]))):=by
 refine aZ.iQ 0 (by simp) (fun V v h=>(show r.length≤9223372036854775807 by cases h.1 with|str _ hl=>exact hl)) fun hr=>?_
 have hcl:(jP r [45]).length≤9223372036854775807:=by
  unfold jP;split
  ·rw [List.length_drop];omega
  ·exact hr
 have hcp:=zh (GG m) r [45];have hct:=Kh m (jP r [45]) 47
 have hta:(rj (jP r [45]) [47]).length≤9223372036854775807:=by
  unfold rj;split
  ·rw [List.length_take];omega
  ·omega
 have htb:(qS (jP r [45]) [47]).length≤9223372036854775807:=by
  unfold qS;split
  ·rw [List.length_drop];omega
  ·simp
 generalize qP r [45]=neg at *
 generalize jP r [45]=s at *
 generalize rj s [47]=top at *
 generalize qS s [47]=bot at *
 generalize decide (0≤jj s [47])=brk at *
 refine aj.bH Tryz.func159 rfl (by rw [Tryz.ntmps159];simp) (fun lv=>Cd lv _ _ _ _) ?_;rintro⟨_,_,w0,F0,W0,_,bq,β0⟩ rfl rfl rfl;refine aac fun K hK=>?_;refine aad rfl ?_;simp;apply hK;clear hK K;refine aac fun K hK=>?_;refine aad rfl ?_;simp;refine ai.pure 1 9 hcp rfl (by simp) (by simp) ?_;simp;apply hK;clear hK K;refine aac fun K hK=>?_;refine aad rfl ?_;simp;refine ai.pure 1 9 hct rfl (by simp) (by simp) ?_;simp;apply hK;clear hK K;refine aac fun K hK=>?_;refine aak ?_;refine aac fun K1 hK1=>?_;have row1:=GW m top;have row2:=GW m bot
 have hbad:∀ (fr:Nat→AV) (κ:Nat),fr 2=.c (.ptr 0 0)→fr 22=.c (.d (.bool true))→gX neg top bot brk=true →
  K1 ⟨fr,aJ (fun _=>.hole) 0 (.cells true false 224 [.d (.bool false),.d .nilsl,.d .nilsl])⟩ κ:=by
  intro fr κ z2 z22 hb;apply hK1;refine aap (by simp [z22] <;> omega) ?_;refine aac fun K2 hK2=>?_;refine aad rfl ?_;simp [z2,Eg];apply hK2;clear hK2 K2;refine aag ?_;simp only [ec,if_pos hb];refine bM.kY (κ:=0) (T:=224) (t:=2) (u:=3) (k:=0) (off:=0) (own:=true) (fz:=false) (U:=224) (cs:=[.d (.bool false),.d .nilsl,.d .nilsl]) rfl ?_ ?_ ?_ ?_ rfl rfl
  ·simp [z2]
  ·simp [ak]
  ·rw [List.drop_zero,bL];rfl
  ·simp
 have hgood:∀ (fr:Nat→AV) (κ:Nat),fr 2=.c (.ptr 0 0)→fr 5=.c (.d (.bool neg))→fr 6=.c (.d (.str top))→fr 7=.c (.d (.str bot))→fr 8=.c (.d (.bool brk))→fr 22=.c (.d (.bool false)) →
  ef top=true→(brk=true→ef bot=true)→gX neg top bot brk=false →
  K1 ⟨fr,aJ (fun _=>.hole) 0 (.cells true false 224 [.d (.bool false),.d .nilsl,.d .nilsl])⟩ κ:=by
  intro fr κ z2 z5 z6 z7 z8 z22 g1 g2 hb;apply hK1;refine aao (by simp [z22] <;> omega) ?_;refine aac fun K2 hK2=>?_
  have hmx:∀ (a b:Nat),(List.foldl (fun a b:Int=>if a<b then b else a) (a:Int) [(b:Int)])=((max a b:Nat):Int):=by
   intro a b;simp only [List.foldl];split <;> omega
  refine aad rfl ?_;simp [z6,z7,cX,hmx,-List.foldl_cons,-List.foldl_nil];apply hK2;clear hK2 K2;have hbf:¬ gX neg top bot brk=true:=by rw [hb];decide
  by_cases hl:2000<max top.length bot.length
  ·have hl':(2000:Int)<((max top.length bot.length:Nat):Int):=by omega
   refine aap (by simp [hl'] <;> omega) ?_;refine aac fun K2 hK2=>?_;refine aad rfl ?_;simp [z2,Eg];apply hK2;clear hK2 K2;refine aag ?_;simp only [ec,if_neg hbf,if_pos hl];refine bM.kY (κ:=0) (T:=224) (t:=2) (u:=3) (k:=0) (off:=0) (own:=true) (fz:=false) (U:=224) (cs:=[.d (.bool false),.d .nilsl,.d .nilsl]) rfl ?_ ?_ ?_ ?_ rfl rfl
   ·simp [z2]
   ·simp [ak]
   ·rw [List.drop_zero,bL];rfl
   ·simp
  have hl':¬ (2000:Int)<((max top.length bot.length:Nat):Int):=by omega
  refine aao (by simp [hl'] <;> omega) ?_;refine aah ?_;simp;apply hK;have ht2:top.length≤2000:=by omega
  have hb2:bot.length≤2000:=by omega
  have rd1:=BI (GG m) g1 ht2;have hof:=fD (GG m) 1 (by decide);have c1:can 4294967296 (dO (nj top)):=bk (by decide) _;have c2:can 4294967296 (dO (some (aI 4294967296 1))):=bk (by decide) _
  have dlen:∀ (u:List UInt8),tK u→u.length≤2000→(dO (nj u)).length<1000000000000:=by
   intro u hu hlu;have h1:=lq hu;have h2:(10:Nat) ^ u.length≤4294967296 ^ u.length:=Nat.pow_le_pow_left (by decide) _;have:=cB (B:=4294967296) (n:=aP u 0) (m:=u.length) (by decide) (by omega);simp only [aV];omega
  have l1:=dlen top (mF g1).1 ht2;have l2:(dO (some (aI 4294967296 1))).length<1000000000000:=Nat.lt_of_le_of_lt (cB (m:=1) (by decide) (by decide)) (by decide);refine aac fun K3 hK3=>?_;refine aac fun K4 hK4=>?_;refine aad rfl ?_;simp [z8];apply hK4;clear hK4 K4
  cases hk:brk with
  | false=>
   rw [hk] at hbf;have hmade:=ot (GG m) neg (nj top) (some (aI 4294967296 1)) c1 c2 (by intro h;exact absurd ((dw (by decide)).1 h) (by decide)) l1 l2;simp only [kg] at hmade hof;refine aaq ?_;refine aac fun K4 hK4=>?_;refine aad rfl ?_;simp [z5,z6];refine ai.pure κ 9 rd1 (by simp) (by simp) (by simp) ?_;simp;refine ai.pure κ 9 hof (by simp) (by simp) (by simp) ?_;simp
   by_cases hz:dO (nj top)=[]
   ·simp only [iY,if_pos hz] at hmade;refine ai.pure κ 9 hmade (by simp) (by simp) (by simp) ?_;simp [z2];apply hK4;clear hK4 K4;refine aag ?_;simp only [ec,if_neg hbf,if_neg hl,reduceIte,iY,if_pos hz];refine bM.kY (κ:=0) (T:=224) (t:=2) (u:=3) (k:=0) (off:=0) (own:=true) (fz:=false) (U:=224) (cs:=[.d (.bool false),nC none,nC none]) rfl ?_ ?_ ?_ ?_ rfl rfl
    ·simp [z2]
    ·simp [ak]
    ·rw [List.drop_zero,bL]
    ·simp
   ·simp only [iY,if_neg hz] at hmade;refine ai.pure κ 9 hmade (by simp) (by simp) (by simp) ?_;simp [z2];apply hK4;clear hK4 K4;refine aag ?_;simp only [ec,if_neg hbf,if_neg hl,reduceIte,iY,if_neg hz];refine bM.kY (κ:=0) (T:=224) (t:=2) (u:=3) (k:=0) (off:=0) (own:=true) (fz:=false) (U:=224) (cs:=[.d (.bool neg),nC (mP (nj top) (some (aI 4294967296 1))),nC (mQ (nj top) (some (aI 4294967296 1)))]) rfl ?_ ?_ ?_ ?_ rfl rfl
    ·simp [z2]
    ·simp [ak]
    ·rw [List.drop_zero,bL]
    ·simp
  | true=>
   rw [hk] at hbf;have g3:=g2 hk;have rd2:=BI (GG m) g3 hb2;have c3:can 4294967296 (dO (nj bot)):=bk (by decide) _;have l3:=dlen bot (mF g3).1 hb2;have hgcd:=qE (GG m) (nj top) (nj bot) c1 c3 l1 l3;have his:=jc (GG m) (gO (nj top) (nj bot)) (by unfold gO;rw [wk c1 c3];exact bk (by decide) _);change aj _ _ 229 _ (nK .u32 (gO (nj top) (nj bot))) at hgcd;simp only [kg] at hgcd his;refine aat ?_;refine aah ?_;simp;apply hK3;refine aac fun K4 hK4=>?_;refine aad rfl ?_;simp [z6,z7];refine ai.pure κ 9 rd1 (by simp) (by simp) (by simp) ?_;simp [z7];refine ai.pure κ 9 rd2 (by simp) (by simp) (by simp) ?_;simp;apply hK4;clear hK4 K4;refine aac fun K4 hK4=>?_;refine aac fun K5 hK5=>?_;refine aad rfl ?_;simp;refine ai.pure κ 9 hgcd (by simp) (by simp) (by simp) ?_;simp;refine ai.pure κ 9 his (by simp) (by simp) (by simp) ?_;simp;apply hK5;clear hK5 K5
   by_cases h1:val 4294967296 (dO (gO (nj top) (nj bot)))=1
   ·refine aao (by simp [h1] <;> omega) ?_;refine aah ?_;simp;apply hK4;clear hK4 K4;refine aac fun K4 hK4=>?_;refine aad rfl ?_;simp [z2,z5,DP];apply hK4;clear hK4 K4;refine aag ?_;have hp:ec neg top bot brk=.tup [nX neg (nj top) (nj bot),.c (.d (.int .i64 0))]:=by rw [hk];unfold ec;rw [if_neg hbf,if_neg hl,if_neg (by decide),if_pos h1]
    rw [hp];refine bM.kY (κ:=0) (T:=224) (t:=2) (u:=3) (k:=0) (off:=0) (own:=true) (fz:=false) (U:=224) (cs:=[.d (.bool neg),nC (nj top),nC (nj bot)]) rfl ?_ ?_ ?_ ?_ rfl rfl
    ·simp [z2]
    ·simp [ak]
    ·rw [List.drop_zero,bL]
    ·simp
   ·refine aap (by simp [h1] <;> omega) ?_;refine aac fun K5 hK5=>?_;refine aad rfl ?_;simp [z2,Eg];apply hK5;clear hK5 K5;refine aag ?_;have hp:ec neg top bot brk=.tup [W5,.c (.d (.int .i64 6))]:=by rw [hk];unfold ec;rw [if_neg hbf,if_neg hl,if_neg (by decide),if_neg h1]
    rw [hp];refine bM.kY (κ:=0) (T:=224) (t:=2) (u:=3) (k:=0) (off:=0) (own:=true) (fz:=false) (U:=224) (cs:=[.d (.bool false),.d .nilsl,.d .nilsl]) rfl ?_ ?_ ?_ ?_ rfl rfl
    ·simp [z2]
    ·simp [ak]
    ·rw [List.drop_zero,bL];rfl
    ·simp
 refine aad rfl ?_;simp;refine ai.pure 1 9 row1 (by simp) (by simp) (by simp) ?_
 cases g1:ef top with
 | false=>
  simp [g1];exact hbad _ _ (by simp) (by simp) (by simp [gX,g1])
 | true=>
  cases hn:neg with
  | true=>
   by_cases h48:top=[48]
   ·have e48:decide (top=[48])=true:=decide_eq_true h48;simp [eqStr,g1,hn,e48];exact hbad _ _ (by simp) (by simp) (by simp [gX,hn,h48])
   ·cases hk:brk with
    | false=>
     simp [eqStr,g1,hn,h48,hk];exact hgood _ _ (by simp) (by simp [hn]) (by simp) (by simp) (by simp [hk]) (by simp) g1 (fun h=>by rw [hk] at h;cases h) (by simp [gX,g1,hn,h48,hk])
    | true=>
     simp [eqStr,g1,hn,h48,hk];refine ai.pure 1 9 row2 (by simp) (by simp) (by simp) ?_
     cases g2:ef bot with
     | false=>
      simp [g2];exact hbad _ _ (by simp) (by simp) (by simp [gX,g2,hk])
     | true=>
      by_cases b48:bot=[48]
      ·have e:decide (bot=[48])=true:=decide_eq_true b48;simp [eqStr,g2,e];exact hbad _ _ (by simp) (by simp) (by simp [gX,e,hk])
      ·by_cases b49:bot=[49]
       ·have e:decide (bot=[49])=true:=decide_eq_true b49;simp [eqStr,g2,b48,e];exact hbad _ _ (by simp) (by simp) (by simp [gX,e,hk])
       ·simp [eqStr,g2,b48,b49];exact hgood _ _ (by simp) (by simp [hn]) (by simp) (by simp) (by simp [hk]) (by simp) g1 (fun _=>g2) (by simp [gX,g1,hn,h48,hk,g2,b48,b49])
  | false=>
   cases hk:brk with
   | false=>
    simp [eqStr,g1,hn,hk];exact hgood _ _ (by simp) (by simp [hn]) (by simp) (by simp) (by simp [hk]) (by simp) g1 (fun h=>by rw [hk] at h;cases h) (by simp [gX,g1,hn,hk])
   | true=>
    simp [eqStr,g1,hn,hk];refine ai.pure 1 9 row2 (by simp) (by simp) (by simp) ?_
    cases g2:ef bot with
    | false=>
     simp [g2];exact hbad _ _ (by simp) (by simp) (by simp [gX,g2,hk])
    | true=>
     by_cases b48:bot=[48]
     ·have e:decide (bot=[48])=true:=decide_eq_true b48;simp [eqStr,g2,e];exact hbad _ _ (by simp) (by simp) (by simp [gX,e,hk])
     ·by_cases b49:bot=[49]
      ·have e:decide (bot=[49])=true:=decide_eq_true b49;simp [eqStr,g2,b48,e];exact hbad _ _ (by simp) (by simp) (by simp [gX,e,hk])
      ·simp [eqStr,g2,b48,b49];exact hgood _ _ (by simp) (by simp [hn]) (by simp) (by simp) (by simp [hk]) (by simp) g1 (fun _=>g2) (by simp [gX,g1,hn,hk,g2,b48,b49])
end Go.Am

namespace Go.Am
open Go.Am.Ty Go.Proofs N
def c6 (neg:Bool)(top bot:List UInt8)(brk:Bool):Int:=
 if gX neg top bot brk=true then 6
 else if 2000<max top.length bot.length then 3
 else if brk=false then 0
 else if val 4294967296 (dO (gO (nj top) (nj bot)))=1 then 0 else 6
theorem A4 (neg:Bool)(top bot:List UInt8)(brk:Bool):∃ b p q,ec neg top bot brk=.tup [nX b p q,.c (.d (.int .i64 (c6 neg top bot brk)))]:=by
 unfold ec c6 iY
 (repeat' split) <;> exact⟨_,_,_,rfl⟩
theorem wZ (m:Int)(r:List UInt8) :
 aj Tryz.prog (GG m) 163 [.c (.d (.str r))] (.c (.d (.int .i64 (c6 (qP r [45]) (rj (jP r [45]) [47]) (qS (jP r [45]) [47]) (decide (0≤jj (jP r [45]) [47])))))):=by
 have hp:=AG m r;obtain⟨b,p,q,e⟩:=A4 (qP r [45]) (rj (jP r [45]) [47]) (qS (jP r [45]) [47]) (decide (0≤jj (jP r [45]) [47]));rw [e] at hp;generalize c6 (qP r [45]) (rj (jP r [45]) [47]) (qS (jP r [45]) [47]) (decide (0≤jj (jP r [45]) [47]))=n at *
 have hpu:(AV.tup [nX b p q,.c (.d (.int .i64 n))]).pure=true:=by cases p <;> cases q <;> rfl
 refine aj.aH Tryz.func163 rfl (by rw [Tryz.ntmps163];simp) ?_;rintro⟨_,_,w0,F0,W0,_,bq,β0⟩ rfl rfl rfl;refine aac fun K hK=>?_;refine aad rfl ?_;simp;apply hK;clear hK K;refine aac fun K hK=>?_;refine aad rfl ?_;simp;refine ai.pure 0 9 hp hpu (by simp) rfl ?_;simp;apply hK;clear hK K;refine aac fun K hK=>?_;refine aad rfl ?_;simp;apply hK;clear hK K;exact aag (κ:=0) (au.tmp (κ:=0) rfl 9 (by simp) rfl (by simp) rfl)
def fk (e p:Int):Int:=if e<2∨11<e∨p<2∨113<p∨e+p<5 then 2 else 0
theorem jn (G:List (List DV))(e p:Int):aj Tryz.prog G 158 [.agg [.d (.int .i64 e),.d (.int .i64 p)]] (.c (.d (.int .i64 (fk e p)))):=by
 refine aj.aH Tryz.func158 rfl (by rw [Tryz.ntmps158];simp) ?_;rintro⟨_,_,w0,F0,W0,_,bq,β0⟩ rfl rfl rfl;refine aac fun K hK=>?_;refine aad rfl ?_;simp;apply hK;clear hK K;refine aac fun K hK=>?_;refine aac fun K1 hK1=>?_
 have bad:∀ (fr:Nat→AV) (κ:Nat) (lv:Key→LB),lv 9=.hole→fr 28=.c (.d (.bool true))→fk e p=2→K1 ⟨fr,lv⟩ κ:=by
  intro fr κ lv h9 z hf;apply hK1;refine aap (by simp [z] <;> omega) ?_;refine aac fun K2 hK2=>?_;refine aad rfl ?_;simp;apply hK2;clear hK2 K2;exact aag (κ:=0) (au.tmp (κ:=0) rfl 9 (by simp [hf]) rfl (by simp [h9]) rfl)
 by_cases h1:e<2
 ·refine aad rfl ?_;simp [h1];exact bad _ _ _ (by simp) (by simp) (by unfold fk;rw [if_pos (by omega)])
 by_cases h2:11<e
 ·refine aad rfl ?_;simp [h1,h2];exact bad _ _ _ (by simp) (by simp) (by unfold fk;rw [if_pos (by omega)])
 by_cases h3:p<2
 ·refine aad rfl ?_;simp [h1,h2,h3];exact bad _ _ _ (by simp) (by simp) (by unfold fk;rw [if_pos (by omega)])
 by_cases h4:113<p
 ·refine aad rfl ?_;simp [h1,h2,h3,h4];exact bad _ _ _ (by simp) (by simp) (by unfold fk;rw [if_pos (by omega)])
 have hw:IntKind.i64.wrap (e+p)=e+p:=bK (by omega) (by omega)
 by_cases h5:e+p<5
 ·refine aad rfl ?_;simp [h1,h2,h3,h4,hw,h5];exact bad _ _ _ (by simp) (by simp) (by unfold fk;rw [if_pos (by omega)])
 refine aad rfl ?_;simp [h1,h2,h3,h4,hw,h5];apply hK1;refine aat ?_;refine aah ?_;simp;apply hK;refine aac fun K3 hK3=>?_;refine aad rfl ?_;simp;apply hK3;clear hK3 K3;have hf:fk e p=0:=by unfold fk;rw [if_neg (by omega)]
 exact aag (κ:=0) (au.tmp (κ:=0) rfl 9 (by simp [hf]) rfl (by simp) rfl)
end Go.Am

namespace Go.Am
open Go.Am.Ty Go.Proofs N
@[simp] theorem Tl (cs:List CV):(AV.agg cs).pure=cs.all CV.pure:=rfl
@[simp] theorem VT (x:DV):(CV.d x).pure=true:=rfl
@[simp] theorem PU (o:Option (List (List DV))):(iU o).pure=true:=by cases o <;> rfl
@[simp] theorem Uv (l:List AV):(AV.tup l).pure=l.all AV.jy:=rfl
@[simp] theorem Xe (x:CV):(AV.c x).jy=x.pure:=rfl
@[simp] theorem Qo (cs:List CV):(AV.agg cs).jy=cs.all CV.pure:=rfl
def bw (e:Int):Int:=(2:Int) ^ (e - 1).toNat - 1
theorem rY {e:Int}(h1:2≤e) (h2:e≤11):1≤bw e∧bw e≤1023∧aO Tryz.prog .shl 3 (.c (.d (.int .i64 1))) (.c (.d (.int .i64 (e - 1))))=some (.c (.d (.int .i64 (bw e+1))),[],[],True):=by
 have h:e=2∨e=3∨e=4∨e=5∨e=6∨e=7∨e=8∨e=9∨e=10∨e=11:=by omega
 rcases h with rfl|rfl|rfl|rfl|rfl|rfl|rfl|rfl|rfl|rfl <;> refine⟨by decide,by decide,?_⟩ <;> rw [Ie] <;> congr 1 <;> congr 1 <;> first|rfl|decide|(congr 1;congr 1;decide)
abbrev fA (e p:Int):AV:=.agg [.d (.int .i64 e),.d (.int .i64 p)]
abbrev PJ (e p m b:Int):AV:=.agg [.d (.int .i64 e),.d (.int .i64 p),.d (.int .i64 m),.d (.int .i64 b)]
theorem UI:gS Tryz.prog 282 [] []=some (PJ 0 0 0 0,[],[],True):=by kernel_rfl
theorem Yr (a b c d:CV):gS Tryz.prog 282 [0,1,2] [.agg [a,b],.c c,.c d]=some (.agg [a,b,c,d],[],[],True):=by kernel_rfl
theorem yN (a b c d:CV):eL Tryz.prog 282 [a,b,c,d]=some (.agg [a,b,c,d]):=by kernel_rfl
theorem iH {e p:Int}(h:fk e p=0):2≤e∧e≤11∧2≤p∧p≤113∧5≤e+p:=by
 unfold fk at h;split at h
 ·cases h
 ·omega
theorem lpN (T:TypeId)(h:(eJ Tryz.prog T).isSome=true)(lv:Key→LB):fh Tryz.prog T lv (.c (.d .nilsl))=some (.c (.d (.int .i64 0)),[],[],True):=dB (o:=none) h
set_option maxHeartbeats 1000000 in
theorem Kv (G:List (List DV))(e p:Int)(hf:fk e p=0):aj Tryz.prog G 230 [fA e p,.c (.d (.int .i64 0)),.c (.d .nilsl)] (.tup [PJ e p 0 (bw e),.c (.d (.int .i64 0))]):=by
 obtain⟨f1,f2,f3,f4,f5⟩:=iH hf;obtain⟨g1,g2,hsh⟩:=rY f1 f2;have hc:=jn G e p;rw [hf] at hc;have w1:IntKind.i64.wrap (e - 1)=e - 1:=bK (by omega) (by omega);have w2:IntKind.i64.wrap (bw e+1 - 1)=bw e:=by rw [bK (by omega) (by omega)];omega
 have w2':IntKind.i64.wrap (bw e)=bw e:=bK (by omega) (by omega);have lpn:=lpN 325 (by simp);generalize bw e=b at *
 refine aj.bH Tryz.func230 rfl (by rw [Tryz.ntmps230];simp) (fun lv=>rfl) ?_;rintro⟨_,_,w0,F0,W0,_,bq,β0⟩ rfl rfl rfl;refine aac fun K hK=>?_;refine aad rfl ?_;simp;apply hK;clear hK K;refine aac fun K hK=>?_;refine aac fun K1 hK1=>?_;refine aad rfl ?_;simp;refine ai.p 2 9 hc ?_;simp;apply hK1;clear hK1 K1;refine aat ?_;refine aah ?_;simp;apply hK;clear hK K;refine aac fun K hK=>?_;refine aay mixed (by kernel_rfl) rfl ?_;simp [w1,hsh,w2,w2',Yr,-Ie];refine⟨by kernel_rfl,?_⟩;apply hK;clear hK K;refine aac fun K hK=>?_;refine aac fun K1 hK1=>?_;refine aad rfl ?_;simp [lpn];apply hK1;clear hK1 K1;refine aak ?_
 refine aax (fun (_:Unit)=>⟨bt [(6,.c (.ptr 1 0)),(8,.c (.ptr 2 0)),(32,.c (.d .nilsl)),(33,.c (.d (.int .i64 0))),(34,.c (.d (.int .i64 0)))],
  aJ (aJ (aJ (fun _=>.hole) 0 (.cells true false 81 [.d (.int .i64 e),.d (.int .i64 p)])) 1 (.cells true false 282 [.d (.int .i64 0),.d (.int .i64 0),.d (.int .i64 0),.d (.int .i64 0)])) 2 (.cells true false 282 [.d (.int .i64 e),.d (.int .i64 p),.d (.int .i64 0),.d (.int .i64 b)])⟩) 3
  (fun _=>True) (fun _=>0) () (Le.mk' _ rfl (by repeat (first|exact aA|refine aT ?_ _ _ _ _ _|(refine aC ?_ _)|(refine noMap_blS ?_ _ _ _)|(refine noMap_upd_nils ?_ _)|simp)) (by simp)) trivial ?_
 rintro⟨⟩ _;refine aac fun K3 hK3=>?_;refine aad rfl ?_;simp;apply hK3;clear hK3 K3;refine aac fun K3 hK3=>?_;refine aat ?_;refine aav ?_;simp;apply hK;refine aac fun K3 hK3=>?_;refine aad rfl ?_;simp [yN,ak];apply hK3;clear hK3 K3;refine aag ?_;refine bM.kY (κ:=0) (T:=282) (t:=6) (u:=7) (k:=1) (off:=0) (own:=true) (fz:=false) (U:=282) (cs:=[.d (.int .i64 e),.d (.int .i64 p),.d (.int .i64 0),.d (.int .i64 b)]) rfl ?_ ?_ ?_ ?_ rfl rfl
 ·simp
 ·simp [ak]
 ·rw [List.drop_zero,yN]
 ·simp
theorem Jm (G:List (List DV))(e p:Int)(hf:fk e p≠0):aj Tryz.prog G 230 [fA e p,.c (.d (.int .i64 0)),.c (.d .nilsl)] (.tup [PJ 0 0 0 0,.c (.d (.int .i64 2))]):=by
 have hc:=jn G e p;refine aj.bH Tryz.func230 rfl (by rw [Tryz.ntmps230];simp) (fun lv=>rfl) ?_;rintro⟨_,_,w0,F0,W0,_,bq,β0⟩ rfl rfl rfl;refine aac fun K hK=>?_;refine aad rfl ?_;simp;apply hK;clear hK K;refine aac fun K hK=>?_;refine aac fun K1 hK1=>?_;refine aad rfl ?_;simp;refine ai.p 2 9 hc ?_;simp [hf];apply hK1;clear hK1 K1;refine aap (by simp [hf] <;> omega) ?_;refine aac fun K1 hK1=>?_;refine aad rfl ?_;simp [UI];apply hK1;clear hK1 K1;refine aag ?_;refine bM.kY (κ:=0) (T:=282) (t:=6) (u:=7) (k:=1) (off:=0) (own:=true) (fz:=false) (U:=282) (cs:=[.d (.int .i64 0),.d (.int .i64 0),.d (.int .i64 0),.d (.int .i64 0)]) rfl ?_ ?_ ?_ ?_ rfl rfl
 ·simp
 ·simp [ak]
 ·rw [List.drop_zero,yN]
 ·simp
theorem Gv (G:List (List DV))(k:Int)(h1:-20000≤k)(h2:k≤20000):aj Tryz.prog G 286 [.c (.d (.int .i64 k))] (fc (aN 1 k)):=by
 have h:=Ly G k h1 h2;generalize aN 1 k=r at *
 refine aj.bH Tryz.func286 rfl (by rw [Tryz.ntmps286];simp) (fun lv=>eV lv _ _ _) ?_;rintro⟨_,_,w0,F0,W0,_,bq,β0⟩ rfl rfl rfl;refine aac fun K hK=>?_;refine aad rfl ?_;simp;apply hK;clear hK K;refine aac fun K hK=>?_;refine aad rfl ?_;simp;refine ai.p 1 9 h ?_;simp;apply hK;clear hK K;refine aac fun K hK=>?_;refine aad rfl ?_;simp [bL,ak];apply hK;clear hK K;refine aag ?_;refine bM.cell (κ:=0) (T:=224) (t:=2) (k:=0) (off:=0) (own:=true) (fz:=false) (U:=224) (cs:=[.d (.bool (decide (r.num<0))),nC (cG r.num.natAbs),nC (dA r.den)]) rfl ?_ ?_ ?_
 ·simp
 ·simp [ak]
 ·rw [List.drop_zero,bL]
theorem td (G:List (List DV))(x:Rat)(k:Int)(hx:iN x 10000000000)(h1:-20000≤k)(h2:k≤20000):aj Tryz.prog G 232 [fc x,.c (.d (.int .i64 k))] (fc (aN x k)):=by
 have h:=yG G x k hx h1 h2;generalize aN x k=r at *
 refine aj.bH Tryz.func232 rfl (by rw [Tryz.ntmps232];simp) (fun lv=>eV lv _ _ _) ?_;rintro⟨_,_,w0,F0,W0,_,bq,β0⟩ rfl rfl rfl;refine aac fun K hK=>?_;refine aad rfl ?_;simp;apply hK;clear hK K;refine aac fun K hK=>?_;refine aad rfl ?_;simp;refine ai.p 2 9 h ?_;simp;apply hK;clear hK K;refine aac fun K hK=>?_;refine aad rfl ?_;simp [bL,ak];apply hK;clear hK K;refine aag ?_;refine bM.cell (κ:=0) (T:=224) (t:=4) (k:=1) (off:=0) (own:=true) (fz:=false) (U:=224) (cs:=[.d (.bool (decide (r.num<0))),nC (cG r.num.natAbs),nC (dA r.den)]) rfl ?_ ?_ ?_
 ·simp
 ·simp [ak]
 ·rw [List.drop_zero,bL]
theorem GA (G:List (List DV))(x:Rat)(hx:x≠0)(hs:iN x 10000000):aj Tryz.prog G 234 [fc x] (.c (.d (.int .i64 (ff x)))):=by
 have h:=KY G x hx hs;refine aj.aH Tryz.func234 rfl (by rw [Tryz.ntmps234];simp) ?_;rintro⟨_,_,w0,F0,W0,_,bq,β0⟩ rfl rfl rfl;refine aac fun K hK=>?_;refine aad rfl ?_;simp;apply hK;clear hK K;refine aac fun K hK=>?_;refine aad rfl ?_;simp;refine ai.p 1 9 h ?_;simp;apply hK;clear hK K;refine aac fun K hK=>?_;refine aad rfl ?_;simp;apply hK;clear hK K;exact aag (κ:=0) (au.t (κ:=0) rfl 2 (by simp))
theorem yI (G:List (List DV))(e p m b:Int)(h1:0≤b)(h2:b≤100000):aj Tryz.prog G 284 [PJ e p m b] (.c (.d (.int .i64 (1 - b)))):=by
 have w:IntKind.i64.wrap (1 - b)=1 - b:=bK (by omega) (by omega);refine aj.aH Tryz.func284 rfl (by rw [Tryz.ntmps284];simp) ?_;rintro⟨_,_,w0,F0,W0,_,bq,β0⟩ rfl rfl rfl;refine aac fun K hK=>?_;refine aad rfl ?_;simp;apply hK;clear hK K;refine aac fun K hK=>?_;refine aad rfl ?_;simp [w];apply hK;clear hK K;exact aag (κ:=0) (au.t (κ:=0) rfl 2 (by simp))
def iM (p b l:Int):Int:=max l (1 - b) - p+1
theorem Dq (G:List (List DV))(e p m b l:Int)(h1:0≤b)(h2:b≤100000)(h3:0≤p)(h4:p≤100000)(h5:-1000000≤l)(h6:l≤1000000):aj Tryz.prog G 233 [PJ e p m b,.c (.d (.int .i64 l))] (.c (.d (.int .i64 (iM p b l)))):=by
 have h:=yI G e p m b h1 h2;have mx:(List.foldl (fun a b:Int=>if a<b then b else a) l [1 - b])=max l (1 - b):=by simp only [List.foldl];split <;> omega
 have w1:IntKind.i64.wrap (max l (1 - b) - p)=max l (1 - b) - p:=bK (by omega) (by omega);have w2:IntKind.i64.wrap (max l (1 - b) - p+1)=iM p b l:=by unfold iM;exact bK (by omega) (by omega)
 refine aj.aH Tryz.func233 rfl (by rw [Tryz.ntmps233];simp) ?_;rintro⟨_,_,w0,F0,W0,_,bq,β0⟩ rfl rfl rfl;refine aac fun K hK=>?_;refine aad rfl ?_;simp;apply hK;clear hK K;refine aac fun K hK=>?_;refine aay mixed (by kernel_rfl) rfl ?_;simp;refine ai.p 1 9 h ?_;simp [cX,mx,w1,w2,-List.foldl_cons,-List.foldl_nil];refine⟨by kernel_rfl,?_⟩;apply hK;clear hK K;exact aag (κ:=0) (au.t (κ:=0) rfl 4 (by simp))
def en (p b:Int):Rat:=aN (aN 1 p - 1) (b - p+1)
theorem iJ (L:Nat)(h:1≤L):iN 1 L:=⟨by show nl 1≤_;rw [o9];exact h,by show nl 1≤_;rw [o9];exact h⟩
theorem oF (p:Int)(h1:0≤p)(h2:p≤10000):iN (aN 1 p - 1) 1000:=by
 rw [Rat.sub_eq_add_neg];have h:=iD (iJ 1 (Nat.le_refl _)) p;have:=Lv (bQ h (show 1+p.natAbs / 32+1≤400 by omega)) (uc (iJ 400 (by omega)));exact bQ this (by omega)
theorem yA (p b:Int)(h1:0≤p)(h2:p≤10000)(h3:0≤b)(h4:b≤5000):iN (en p b) 2000:=by
 refine bQ (iD (oF p h1 h2) _) (by omega)
theorem vB (G:List (List DV))(e p m b:Int)(h1:0≤b)(h2:b≤5000)(h3:0≤p)(h4:p≤10000):aj Tryz.prog G 237 [PJ e p m b] (fc (en p b)):=by
 have k1:=Gv G p (by omega) (by omega);have k2:aj Tryz.prog G 263 [.c (.d (.int .i64 1))] (fc (1:Rat)):=EW G 1 (by decide) (by decide);have k3:=Lo G (aN 1 p) 1 (bQ (iD (iJ 1 (Nat.le_refl _)) p) (by omega)) (iJ _ (by omega));have k4:=td G (aN 1 p - 1) (b - p+1) (bQ (oF p h3 h4) (by omega)) (by omega) (by omega);rw [show aN (aN 1 p - 1) (b - p+1)=en p b from rfl] at k4;have w1:IntKind.i64.wrap (b - p)=b - p:=bK (by omega) (by omega);have w2:IntKind.i64.wrap (b - p+1)=b - p+1:=bK (by omega) (by omega);generalize en p b=r at *
 generalize aN 1 p - 1=r2 at *
 generalize aN 1 p=r1 at *
 generalize (1:Rat)=r0 at *
 refine aj.bH Tryz.func237 rfl (by rw [Tryz.ntmps237];simp) (fun lv=>eV lv _ _ _) ?_;rintro⟨_,_,w0,F0,W0,_,bq,β0⟩ rfl rfl rfl;refine aac fun K hK=>?_;refine aad rfl ?_;simp;apply hK;clear hK K;refine aac fun K hK=>?_;refine aay mixed (by kernel_rfl) rfl ?_;simp;refine ai.p 2 9 k1 ?_;simp;refine ai.p 2 9 k2 ?_;simp;refine ai.p 2 9 k3 ?_;simp [w1,w2];refine ai.p 2 9 k4 ?_;simp;refine⟨by kernel_rfl,?_⟩;apply hK;clear hK K;refine aag ?_;refine bM.cell (κ:=0) (T:=224) (t:=2) (k:=1) (off:=0) (own:=true) (fz:=false) (U:=224) (cs:=[.d (.bool (decide (r.num<0))),nC (cG r.num.natAbs),nC (dA r.den)]) rfl ?_ ?_ ?_
 ·simp
 ·simp [ak]
 ·rw [List.drop_zero,bL]
def fY (x:Rat):Rat:=if x<0 then -x else x
theorem NO (x:Rat):fc (fY x)=nX false (cG x.num.natAbs) (dA x.den):=by
 unfold fY;split
 ·rename_i h
  have:x.num<0:=by
   have:=(Rat.lt_iff x 0).1 h;simpa using this
  show nX (decide ((-x).num<0)) (cG (-x).num.natAbs) (dA (-x).den)=_;rw [Rat.neg_num,Rat.neg_den,Int.natAbs_neg,decide_eq_false (by omega)]
 ·rename_i h
  have:¬ x.num<0:=fun hn=>h ((Rat.lt_iff x 0).2 (by simpa using hn))
  show nX (decide (x.num<0)) _ _=_;rw [decide_eq_false this]
theorem Km (G:List (List DV))(x:Rat):aj Tryz.prog G 236 [fc x] (fc (fY x)):=by
 rw [NO];exact Dz _ _ _ _
theorem uh {x:Rat}{L:Nat}(h:iN x L):iN (fY x) L:=by
 unfold fY;split
 ·exact uc h
 ·exact h
theorem F5 (G:List (List DV))(x:Rat):aj Tryz.prog G 235 [fc x] (.c (.d (.bool (decide (x.den=1))))):=by
 have h:=yL G (decide (x.num<0)) (cG x.num.natAbs) (dA x.den);have e:(dA x.den).isNone=decide (x.den=1):=by unfold dA;split <;> simp_all
 rw [e] at h;exact h
def hasB (e p:Int)(x:Rat):Bool:=
 decide (fk e p=0) && (decide (x=0) || (decide ((aN x (-(iM p (bw e) (ff x)))).den=1) && decide (gG (fY x) (en p (bw e))≤0)))
set_option maxHeartbeats 2000000 in
theorem p8 (G:List (List DV))(e p:Int)(x:Rat)(hs:iN x 300):aj Tryz.prog G 160 [fA e p,fc x] (.c (.d (.bool (hasB e p x)))):=by
 by_cases hf:fk e p=0
 rotate_left
 ·have hw:=Jm G e p hf;have hb:hasB e p x=false:=by unfold hasB;rw [decide_eq_false hf];rfl
  refine aj.aH Tryz.func160 rfl (by rw [Tryz.ntmps160];simp) ?_;rintro⟨_,_,w0,F0,W0,_,bq,β0⟩ rfl rfl rfl;refine aac fun K hK=>?_;refine aad rfl ?_;simp;apply hK;clear hK K;refine aac fun K hK=>?_;refine aad rfl ?_;simp;refine ai.p 2 9 hw ?_;simp;apply hK;clear hK K;refine aac fun K hK=>?_;refine aak ?_;refine aac fun K1 hK1=>?_;refine aad rfl ?_;simp;apply hK1;clear hK1 K1;refine aaq ?_;refine aac fun K1 hK1=>?_;refine aad rfl ?_;simp;apply hK1;clear hK1 K1;exact aag (κ:=0) (au.t (κ:=0) rfl 4 (by simp [hb]))
 obtain⟨f1,f2,f3,f4,f5⟩:=iH hf;obtain⟨g1,g2,_⟩:=rY f1 f2;have hw:=Kv G e p hf;have hg:=kj G (decide (x.num<0)) (cG x.num.natAbs) (dA x.den)
 by_cases hx:x=0
 ·have hb:hasB e p x=true:=by unfold hasB;rw [decide_eq_true hf,decide_eq_true hx];rfl
  have hz:=Hf hx;refine aj.aH Tryz.func160 rfl (by rw [Tryz.ntmps160];simp) ?_;rintro⟨_,_,w0,F0,W0,_,bq,β0⟩ rfl rfl rfl;refine aac fun K hK=>?_;refine aad rfl ?_;simp;apply hK;clear hK K;refine aac fun K hK=>?_;refine aad rfl ?_;simp;refine ai.p 2 9 hw ?_;simp;apply hK;clear hK K;refine aac fun K hK=>?_;refine aak ?_;refine aac fun K1 hK1=>?_;refine aad rfl ?_;simp;apply hK1;clear hK1 K1;refine aat ?_;refine aac fun K1 hK1=>?_;refine aad rfl ?_;simp;refine ai.p 3 9 hg ?_;simp [hz];apply hK1;clear hK1 K1;refine aap (by simp [hz] <;> omega) ?_;refine aac fun K1 hK1=>?_;refine aad rfl ?_;simp;apply hK1;clear hK1 K1;exact aag (κ:=0) (au.t (κ:=0) rfl 4 (by simp [hb]))
 have hne:=HB hx;have hl:=GA G x hx (bQ hs (by omega));obtain⟨l1,l2⟩:=vG hx hs;have hst:=Dq G e p 0 (bw e) (ff x) (by omega) (by omega) (by omega) (by omega) (by omega) (by omega);have s1:-20000≤-(iM p (bw e) (ff x)):=by unfold iM;omega
 have s2:-(iM p (bw e) (ff x))≤20000:=by unfold iM;omega
 have hsh:=td G x (-(iM p (bw e) (ff x))) (bQ hs (by omega)) s1 s2;have hin:=F5 G (aN x (-(iM p (bw e) (ff x))));have hab:=Km G x;have hgr:=vB G e p 0 (bw e) (by omega) (by omega) (by omega) (by omega);have hcm:=ED G (fY x) (en p (bw e)) (bQ (uh hs) (by omega)) (bQ (yA p (bw e) (by omega) (by omega) (by omega) (by omega)) (by omega))
 have hb:hasB e p x=(decide ((aN x (-(iM p (bw e) (ff x)))).den=1) && decide (gG (fY x) (en p (bw e))≤0)):=by
  unfold hasB;rw [decide_eq_true hf,decide_eq_false hx];rfl
 have w:IntKind.i64.wrap (-(iM p (bw e) (ff x))) = -(iM p (bw e) (ff x)):=bK (by omega) (by omega);generalize gG (fY x) (en p (bw e))=cm at *
 generalize en p (bw e)=gr at *
 generalize fY x=ab at *
 generalize aN x (-(iM p (bw e) (ff x)))=sh at *
 generalize iM p (bw e) (ff x)=st at *
 generalize ff x=lo at *
 generalize bw e=b at *
 by_cases hi:sh.den=1
 ·have hb2:hasB e p x=decide (cm≤0):=by rw [hb,decide_eq_true hi];rfl
  refine aj.aH Tryz.func160 rfl (by rw [Tryz.ntmps160];simp) ?_;rintro⟨_,_,w0,F0,W0,_,bq,β0⟩ rfl rfl rfl;refine aac fun K hK=>?_;refine aad rfl ?_;simp;apply hK;clear hK K;refine aac fun K hK=>?_;refine aad rfl ?_;simp;refine ai.p 2 9 hw ?_;simp;apply hK;clear hK K;refine aac fun K hK=>?_;refine aak ?_;refine aac fun K1 hK1=>?_;refine aad rfl ?_;simp;apply hK1;clear hK1 K1;refine aat ?_;refine aac fun K1 hK1=>?_;refine aad rfl ?_;simp;refine ai.p 3 9 hg ?_;simp [hne];apply hK1;clear hK1 K1;refine aao (by simp [hne] <;> omega) ?_;refine aah ?_;simp;apply hK;clear hK K;refine aac fun K hK=>?_;refine aay mixed (by kernel_rfl) rfl ?_;simp [ak];refine ai.p 3 9 hl ?_;simp;refine ai.p 3 9 hst ?_;simp [w];refine ai.p 3 9 hsh ?_;simp;refine ai.p 3 9 hin ?_;simp [hi];refine ai.p 3 9 hab ?_;simp;refine ai.p 3 9 hgr ?_;simp;refine ai.p 3 9 hcm ?_;simp;refine⟨by kernel_rfl,?_⟩;apply hK;clear hK K;exact aag (κ:=0) (au.t (κ:=0) rfl 4 (by simp [hb2]))
 ·have hb2:hasB e p x=false:=by rw [hb,decide_eq_false hi];rfl
  refine aj.aH Tryz.func160 rfl (by rw [Tryz.ntmps160];simp) ?_;rintro⟨_,_,w0,F0,W0,_,bq,β0⟩ rfl rfl rfl;refine aac fun K hK=>?_;refine aad rfl ?_;simp;apply hK;clear hK K;refine aac fun K hK=>?_;refine aad rfl ?_;simp;refine ai.p 2 9 hw ?_;simp;apply hK;clear hK K;refine aac fun K hK=>?_;refine aak ?_;refine aac fun K1 hK1=>?_;refine aad rfl ?_;simp;apply hK1;clear hK1 K1;refine aat ?_;refine aac fun K1 hK1=>?_;refine aad rfl ?_;simp;refine ai.p 3 9 hg ?_;simp [hne];apply hK1;clear hK1 K1;refine aao (by simp [hne] <;> omega) ?_;refine aah ?_;simp;apply hK;clear hK K;refine aac fun K hK=>?_;refine aay mixed (by kernel_rfl) rfl ?_;simp [ak];refine ai.p 3 9 hl ?_;simp;refine ai.p 3 9 hst ?_;simp [w];refine ai.p 3 9 hsh ?_;simp;refine ai.p 3 9 hin ?_;simp [hi];refine⟨by kernel_rfl,?_⟩;apply hK;clear hK K;exact aag (κ:=0) (au.t (κ:=0) rfl 4 (by simp [hb2]))
end Go.Am

namespace Go.Am
open Go.Am.Ty Go.Proofs N
def eo (x:Rat):Int:=if x.num=0 then 0 else if x.num<0 then -1 else 1
def iK (x:Rat):Option (List Nat):=if x.num=0 then none else some (aI 1000000000 x.num.natAbs)
def kJ (x:Rat):Option (List Nat):=if x.num=0 then none else some (aI 1000000000 x.den)
abbrev cT (x:Rat):AV:=rA (eo x) (iK x) (kJ x)
theorem lB (x:Rat):dO (iK x)=aI 1000000000 x.num.natAbs:=by
 unfold iK;split
 ·rename_i h;rw [h];exact NT.symm
 ·rfl
theorem Ay {x:Rat}(h:x.num=0):x.den=1:=by
 have:=Rat.num_eq_zero.1 h;subst this;rfl
theorem O6:aI 1000000000 1=[1]:=(fV (by decide:2≤1000000000) (l:=[1]) ⟨by intro d hd;simp at hd;omega,by simp⟩ (by simp)).symm
theorem NA (x:Rat):HH (eo x) (kJ x)=some (aI 1000000000 x.den):=by
 unfold HH eo kJ
 by_cases h:x.num=0
 ·rw [if_pos h,if_pos rfl,Ay h,O6]
 ·rw [if_neg h,if_neg h,if_neg (by split <;> omega)]
theorem Nz (n:Nat):(aI 1000000000 n).length≤2*nl n:=by
 refine cB (by decide) ?_;rw [Nat.pow_mul];exact Nat.lt_of_lt_of_le (vN n) (Nat.pow_le_pow_left (by decide) _)
theorem rP (G:List (List DV)):aj Tryz.prog G 221 [] (nK .i64 (some (aI 1000000000 (1)))):=by rw [O6];exact Bs G
theorem x8 (G:List (List DV))(A B:Nat)(hB:0<B)(h:(aI 1000000000 A).length≤100000)(h':(aI 1000000000 B).length≤100000):∃ o,aj Tryz.prog G 275 [(nK .i64 (some (aI 1000000000 (A)))),(nK .i64 (some (aI 1000000000 (B))))] (.tup [(nK .i64 (some (aI 1000000000 (A / B)))),nK .i64 o]):=by
 have h:=qp G (some (aI 1000000000 A)) (some (aI 1000000000 B)) (bk (by decide) A).1 (bk (by decide) B) (by rw [aV];intro e;have:=(dw (by decide)).1 e;omega) h h';rw [aV,aV,bg (by decide),bg (by decide)] at h;exact⟨_,h⟩
theorem Lp (neg:Bool){P Q:Nat}(hP:P≠0) (hQ:Q≠0):cT (mkRat (dg neg P) Q)=rA (if neg then -1 else 1) (some (aI 1000000000 (P / Nat.gcd P Q))) (some (aI 1000000000 (Q / Nat.gcd P Q))):=by
 obtain⟨n1,n2⟩:=gN neg (a:=P) hQ;have hg:P / Nat.gcd P Q≠0:=Nat.ne_of_gt (Nat.div_pos (Nat.le_of_dvd (by omega) (Nat.gcd_dvd_left _ _)) (Nat.gcd_pos_of_pos_left _ (by omega)))
 have h0:(mkRat (dg neg P) Q).num≠0:=by
  rw [n1];unfold dg;split <;> omega
 unfold cT eo iK kJ;rw [if_neg h0,if_neg h0,if_neg h0,n1,n2,ri]
 cases neg with
 | true=>
  rw [if_pos (show dg true (P / Nat.gcd P Q)<0 from Int.neg_neg_of_pos (Int.ofNat_lt.2 (Nat.pos_of_ne_zero hg)))];rfl
 | false=>
  rw [if_neg (show ¬ dg false (P / Nat.gcd P Q)<0 from Int.not_lt.2 (Int.natCast_nonneg _))];rfl
theorem Fj:cT 0=rA 0 none none:=rfl
attribute [local irreducible] bM
set_option maxHeartbeats 4000000 in
theorem FJ (G:List (List DV))(s:Int)(neg:Bool)(P Q:Nat)(p:Option (List Nat))(hp:dO p=aI 1000000000 P)(hs:P≠0→s=if neg then -1 else 1)(hQ:0<Q)(hPl:(aI 1000000000 P).length≤100000)(hQl:(aI 1000000000 Q).length≤100000) :
 aj Tryz.prog G 219 [.c (.d (.int .i64 s)),nK .i64 p,(nK .i64 (some (aI 1000000000 (Q))))] (cT (mkRat (dg neg P) Q)):=by
 have oneG:=rP G;have cmG:=fun A B=>nF G A B
 by_cases hP0:P=0
 ·subst hP0;have e0:dO p=[]:=by rw [hp];exact NT
  have e2:dg neg 0=0:=by cases neg <;> rfl
  have e1:mkRat (dg neg 0) Q=0:=by rw [e2];exact Rat.zero_mkRat Q
  rw [e1,Fj];refine aj.bH Tryz.func219 rfl (by rw [Tryz.ntmps219];simp) (fun lv=>eG lv _ _ _) ?_;rintro⟨_,_,w0,F0,W0,_,bq,β0⟩ rfl rfl rfl;refine aac fun K hK=>?_;refine aad rfl ?_;simp;apply hK;clear hK K;refine aac fun K hK=>?_;refine aac fun K1 hK1=>?_;refine aad rfl ?_;simp [e0];apply hK1;clear hK1 K1;refine aaq ?_;refine aac fun K1 hK1=>?_;refine aad rfl ?_;simp [Ve];apply hK1;clear hK1 K1;refine aag ?_;refine bM.cell (T:=215) (t:=6) (k:=0) (off:=0) (own:=true) (fz:=false) (U:=215) (cs:=[.d (.int .i64 0),.d .nilsl,.d .nilsl]) rfl ?_ ?_ ?_
  ·simp
  ·simp [ak]
  ·rw [List.drop_zero,ic];rfl
 have hp1:p=some (aI 1000000000 P):=by
  cases p with
  | none=>exact absurd ((dw (by decide)).1 hp.symm) hP0
  | some l=>exact congrArg some hp
 subst hp1;have hs1:=hs hP0;have hs0:¬ s=0:=by rw [hs1];split <;> omega
 rw [Lp neg hP0 (by omega),← hs1];have hdv:=Aa G P Q (by omega) hQ hPl hQl;obtain⟨g,hg⟩:∃ g,Nat.gcd P Q=g:=⟨_,rfl⟩
 have hg0:0<g:=by rw [← hg];exact Nat.gcd_pos_of_pos_left _ (by omega)
 have hgl:(aI 1000000000 g).length≤100000:=Nat.le_trans (cK (by decide) (by rw [← hg];exact Nat.gcd_le_right _ hQ)) hQl;obtain⟨o1,hd1⟩:=x8 G P g hg0 hPl hgl;obtain⟨o2,hd2⟩:=x8 G Q g hg0 hQl hgl;rw [hg] at hdv ⊢;have hne:¬ aI 1000000000 P=[]:=fun e=>hP0 ((dw (by decide)).1 e)
 have c0:∀ A B,(dm A B=0)↔A=B:=fun A B=>by unfold dm;(repeat' split) <;> omega
 refine aj.bH Tryz.func219 rfl (by rw [Tryz.ntmps219];simp) (fun lv=>eG lv _ _ _) ?_;rintro⟨_,_,w0,F0,W0,_,bq,β0⟩ rfl rfl rfl;refine aac fun K hK=>?_;refine aad rfl ?_;simp;apply hK;clear hK K;refine aac fun K hK=>?_;refine aac fun K1 hK1=>?_;refine aad rfl ?_;simp [hne,hs0];apply hK1;clear hK1 K1;refine aat ?_;refine aah ?_;simp;apply hK;clear hK K;refine aac fun K hK=>?_
 by_cases h1:P=1
 ·have hc:=(c0 P 1).2 h1;have hg1:g=1:=by rw [← hg,h1,Nat.gcd_one_left]
  refine aac fun K1 hK1=>?_;refine aad rfl ?_;simp;refine ai.p 1 9 oneG ?_;simp;refine ai.p 1 9 (cmG P 1) ?_;simp [hc];apply hK1;clear hK1 K1;refine aaq ?_;refine aac fun K1 hK1=>?_;refine aad rfl ?_;simp [bR,eY];apply hK1;clear hK1 K1;refine aag ?_;refine bM.cell (T:=215) (t:=6) (k:=0) (off:=0) (own:=true) (fz:=false) (U:=215) (cs:=[.d (.int .i64 s),rC (some (aI 1000000000 P)),rC (some (aI 1000000000 Q))]) rfl ?_ ?_ ?_
  ·simp
  ·simp [ak]
  ·rw [List.drop_zero,ic];simp [hg1]
 have hc1:¬ dm P 1=0:=fun e=>h1 ((c0 P 1).1 e)
 by_cases h2:Q=1
 ·have hc:=(c0 Q 1).2 h2;have hg1:g=1:=by rw [← hg,h2,Nat.gcd_one_right]
  refine aac fun K1 hK1=>?_;refine aad rfl ?_;simp;refine ai.p 1 9 oneG ?_;simp;refine ai.p 1 9 (cmG P 1) ?_;simp [hc1];refine ai.p 1 9 oneG ?_;simp;refine ai.p 1 9 (cmG Q 1) ?_;simp [hc];apply hK1;clear hK1 K1;refine aaq ?_;refine aac fun K1 hK1=>?_;refine aad rfl ?_;simp [bR,eY];apply hK1;clear hK1 K1;refine aag ?_;refine bM.cell (T:=215) (t:=6) (k:=0) (off:=0) (own:=true) (fz:=false) (U:=215) (cs:=[.d (.int .i64 s),rC (some (aI 1000000000 P)),rC (some (aI 1000000000 Q))]) rfl ?_ ?_ ?_
  ·simp
  ·simp [ak]
  ·rw [List.drop_zero,ic];simp [hg1]
 have hc2:¬ dm Q 1=0:=fun e=>h2 ((c0 Q 1).1 e)
 refine aac fun K1 hK1=>?_;refine aad rfl ?_;simp;refine ai.p 1 9 oneG ?_;simp;refine ai.p 1 9 (cmG P 1) ?_;simp [hc1];refine ai.p 1 9 oneG ?_;simp;refine ai.p 1 9 (cmG Q 1) ?_;simp [hc2];apply hK1;clear hK1 K1;refine aat ?_;refine aah ?_;simp;apply hK;clear hK K;refine aac fun K hK=>?_;refine aad rfl ?_;simp;refine ai.p 1 9 hdv ?_;simp;apply hK;clear hK K;refine aac fun K hK=>?_
 have fin:∀ (fr:Nat→AV) (κ:Nat),fr 0=.c (.d (.int .i64 s))→fr 1=(nK .i64 (some (aI 1000000000 (P / g))))→fr 2=(nK .i64 (some (aI 1000000000 (Q / g))))→fr 6=.c (.ptr 0 0) →
  K ⟨fr,aJ (fun _=>.hole) 0 (.cells true false 215 [.d (.int .i64 0),.d .nilsl,.d .nilsl])⟩ κ:=by
  intro fr κ z0 z1 z2 z6;apply hK;refine aac fun K1 hK1=>?_;refine aad rfl ?_;simp [z0,z1,z2,z6,eY,bR];apply hK1;clear hK1 K1;refine aag ?_;refine bM.cell (T:=215) (t:=6) (k:=0) (off:=0) (own:=true) (fz:=false) (U:=215) (cs:=[.d (.int .i64 s),rC (some (aI 1000000000 (P / g))),rC (some (aI 1000000000 (Q / g)))]) rfl ?_ ?_ ?_
  ·simp [z6]
  ·simp [ak]
  ·rw [List.drop_zero,ic]
 by_cases hg1:g=1
 ·have hc:=(c0 g 1).2 hg1;refine aac fun K1 hK1=>?_;refine aad rfl ?_;simp;refine ai.p 1 9 oneG ?_;simp;refine ai.p 1 9 (cmG g 1) ?_;simp [hc];apply hK1;clear hK1 K1;refine aat ?_;refine aah ?_;simp;exact fin _ _ (by simp) (by simp [hg1]) (by simp [hg1]) (by simp)
 ·have hc:¬ dm g 1=0:=fun e=>hg1 ((c0 g 1).1 e)
  refine aac fun K1 hK1=>?_;refine aad rfl ?_;simp;refine ai.p 1 9 oneG ?_;simp;refine ai.p 1 9 (cmG g 1) ?_;simp [hc];apply hK1;clear hK1 K1;refine aaq ?_;refine aac fun K1 hK1=>?_;refine aad rfl ?_;simp;refine ai.pure 1 9 hd1 (oy _ _) (by simp) (by simp) ?_;simp;apply hK1;clear hK1 K1;refine aad rfl ?_;simp;refine ai.pure 1 9 hd2 (oy _ _) (by simp) (by simp) ?_;simp;exact fin _ _ (by simp) (by simp) (by simp) (by simp)
end Go.Am

namespace Go.Am
open Go.Am.Ty Go.Proofs N
attribute [local irreducible] bM
theorem tO (x:Rat):eo x=0∨eo x=1∨eo x = -1:=by unfold eo;split <;> (try split) <;> simp
theorem jo {x:Rat}:eo x=0↔x.num=0:=by unfold eo;split <;> (try split) <;> simp_all
theorem m9 {x:Rat}(h:x.num≠0):eo x=if decide (x.num<0) then -1 else 1:=by
 unfold eo;rw [if_neg h];simp
theorem EY (x:Rat):(fY x).num=(x.num.natAbs:Int)∧(fY x).den=x.den:=by
 unfold fY;split
 ·rename_i h
  have:x.num<0:=by
   have:=(Rat.lt_iff x 0).1 h;simpa using this
  rw [Rat.neg_num,Rat.neg_den];exact⟨by omega,rfl⟩
 ·rename_i h
  have:¬ x.num<0:=fun hn=>h ((Rat.lt_iff x 0).2 (by simpa using hn))
  exact⟨by omega,rfl⟩
theorem Im (x:Rat):cT (-x)=rA (-eo x) (iK x) (kJ x):=by
 unfold cT eo iK kJ;rw [Rat.neg_num,Rat.neg_den,Int.natAbs_neg]
 by_cases h:x.num=0
 ·simp [h]
 ·by_cases h2:x.num<0
  ·have h3:¬ 0<x.num:=by omega
   simp [h,h2,h3]
  ·have h3:0<x.num:=by omega
   simp [h,h2,h3]
theorem IZ (x:Rat):cT (fY x)=rA (eo x*eo x) (iK x) (kJ x):=by
 obtain⟨e1,e2⟩:=EY x;unfold cT eo iK kJ;rw [e1,e2]
 by_cases h:x.num=0
 ·rw [if_pos h,if_pos h,if_pos h,if_pos (by omega),if_pos (by omega),if_pos (by omega)];rfl
 ·rw [if_neg h,if_neg h,if_neg h,if_neg (by omega),if_neg (by omega),if_neg (by omega),if_neg (by omega)];have e3:((x.num.natAbs:Int)).natAbs=x.num.natAbs:=by omega
  rw [e3]
  by_cases h2:x.num<0
  ·rw [if_pos h2];rfl
  ·rw [if_neg h2];rfl
theorem I6 {n L:Nat}(h:nl n≤L):(aI 1000000000 n).length≤2*L:=Nat.le_trans (Nz n) (by omega)
theorem jt (G:List (List DV))(x:Rat):aj Tryz.prog G 249 [cT x] (.c (rC (some (aI 1000000000 x.den)))):=by
 have:=Cc G (eo x) (iK x) (kJ x)
 rwa [NA] at this
theorem gk (G:List (List DV))(p q:Option (List Nat))(A B L:Nat)(hp:dO p=aI 1000000000 A)(hq:dO q=aI 1000000000 B)(hA:nl A≤L)(hB:nl B≤L)(hL:L≤400000):aj Tryz.prog G 248 [.c (rC p),.c (rC q)] (.c (rC (some (aI 1000000000 (A*B))))):=by
 have h1:=I6 hA;have h2:=I6 hB;have h:=pS G p q (by rw [hp];exact (bk (by decide) _).1) (by rw [hq];exact (bk (by decide) _).1) (by rw [hp];omega) (by rw [hq];omega);rw [hp,hq,bg (by decide),bg (by decide)] at h;rw [← eY,← eY,← eY];exact h
theorem By (G:List (List DV))(A B L:Nat)(hA:nl A≤L)(hB:nl B≤L)(hL:L≤400000):aj Tryz.prog G 324 [.c (rC (some (aI 1000000000 A))),.c (rC (some (aI 1000000000 B)))] (.c (rC (some (aI 1000000000 (A+B))))):=by
 have h1:=I6 hA;have h2:=I6 hB;have:=yd G A B (by omega) (by omega);rw [eY,eY,eY] at this;exact this
theorem A3 (G:List (List DV))(A B L:Nat)(hA:nl A≤L)(hL:L≤400000)(h:B≤A):aj Tryz.prog G 323 [.c (rC (some (aI 1000000000 A))),.c (rC (some (aI 1000000000 B)))] (.c (rC (some (aI 1000000000 (A - B))))):=by
 have h1:=I6 hA;have:=vm G A B (by omega) h;rw [eY,eY,eY] at this;exact this
theorem vW (G:List (List DV))(A B:Nat):aj Tryz.prog G 247 [.c (rC (some (aI 1000000000 A))),.c (rC (some (aI 1000000000 B)))] (.c (.d (.int .i64 (dm A B)))):=by
 have:=nF G A B;rw [eY,eY] at this;exact this
theorem qu (G:List (List DV))(s:Int)(neg:Bool)(P Q L:Nat)(p:Option (List Nat))(hp:dO p=aI 1000000000 P)(hs:P≠0→s=if neg then -1 else 1)(hQ:0<Q)(hP:nl P≤L)(hQl:nl Q≤L)(hL:L≤50000) :
 aj Tryz.prog G 219 [.c (.d (.int .i64 s)),.c (rC p),.c (rC (some (aI 1000000000 Q)))] (cT (mkRat (dg neg P) Q)):=by
 have h1:=I6 hP;have h2:=I6 hQl;have:=FJ G s neg P Q p hp hs hQ (by omega) (by omega);rw [eY,eY] at this;exact this
theorem HU (G:List (List DV))(x:Rat):aj Tryz.prog G 270 [cT x] (cT (-x)):=by
 have hr:=tO x;have hw:=bK (n:=-eo x) (by omega) (by omega);rw [Im];refine aj.bH Tryz.func270 rfl (by rw [Tryz.ntmps270];simp) (fun lv=>eG lv _ _ _) ?_;rintro⟨_,_,w0,F0,W0,_,bq,β0⟩ rfl rfl rfl;refine aac fun K hK=>?_;refine aad rfl ?_;simp;apply hK;clear hK K;refine aac fun K hK=>?_;refine aad rfl ?_;simp [hw,bR];apply hK;clear hK K;refine aag ?_;refine bM.cell (T:=215) (t:=2) (k:=1) (off:=0) (own:=true) (fz:=false) (U:=215) (cs:=[.d (.int .i64 (-eo x)),rC (iK x),rC (kJ x)]) rfl ?_ ?_ ?_
 ·simp
 ·simp [ak]
 ·rw [List.drop_zero,ic]
theorem u7 (G:List (List DV))(x:Rat):aj Tryz.prog G 290 [cT x] (cT (fY x)):=by
 have hr:=tO x;have hw:IntKind.i64.wrap (eo x*eo x)=eo x*eo x:=by rcases hr with h|h|h <;> rw [h] <;> rfl
 rw [IZ];refine aj.bH Tryz.func290 rfl (by rw [Tryz.ntmps290];simp) (fun lv=>eG lv _ _ _) ?_;rintro⟨_,_,w0,F0,W0,_,bq,β0⟩ rfl rfl rfl;refine aac fun K hK=>?_;refine aad rfl ?_;simp;apply hK;clear hK K;refine aac fun K hK=>?_;refine aad rfl ?_;simp [hw,bR];apply hK;clear hK K;refine aag ?_;refine bM.cell (T:=215) (t:=2) (k:=1) (off:=0) (own:=true) (fz:=false) (U:=215) (cs:=[.d (.int .i64 (eo x*eo x)),rC (iK x),rC (kJ x)]) rfl ?_ ?_ ?_
 ·simp
 ·simp [ak]
 ·rw [List.drop_zero,ic]
theorem vh (G:List (List DV))(x:Rat):aj Tryz.prog G 218 [cT x] (.c (.d (.bool (decide (x.den=1))))):=by
 have hb:=jt G x;have ho:=rP G;rw [eY] at ho;have hc:=vW G x.den 1;have e:(dm x.den 1=0)↔x.den=1:=by unfold dm;(repeat' split) <;> omega
 refine aj.aH Tryz.func218 rfl (by rw [Tryz.ntmps218];simp) ?_;rintro⟨_,_,w0,F0,W0,_,bq,β0⟩ rfl rfl rfl;refine aac fun K hK=>?_;refine aad rfl ?_;simp;apply hK;clear hK K;refine aac fun K hK=>?_;refine aad rfl ?_;simp;refine ai.p 1 9 hb ?_;simp;refine ai.p 1 9 ho ?_;simp;refine ai.p 1 9 hc ?_;simp;apply hK;clear hK K;exact aag (κ:=0) (au.t (κ:=0) (t:=2) rfl 9 (by simp [e]))
theorem E9 (x:Rat):rm (decide (x.num<0)) (cG x.num.natAbs)=eo x:=by
 unfold rm eo;rw [kF];simp only [dw (by decide:2≤4294967296),decide_eq_true_eq]
 by_cases h:x.num=0
 ·rw [if_pos (by omega),if_pos h]
 ·rw [if_neg (by omega),if_neg h]
theorem OG (x y:Rat):gG x y=if eo x<eo y then -1 else if eo y<eo x then 1 else eo x*dm (x.num.natAbs*y.den) (y.num.natAbs*x.den):=by
 rw [← Eh];unfold Pb;rw [E9,E9,m4,m4,r9,r9]
 by_cases h:eo x=eo y
 ·rw [if_pos h,if_neg (by omega),if_neg (by omega)]
 ·rw [if_neg h]
  by_cases h2:eo x<eo y
  ·rw [if_pos h2,if_pos h2]
  ·rw [if_neg h2,if_neg h2,if_pos (by omega)]
theorem pU (G:List (List DV))(x y:Rat)(hx:iN x 20000)(hy:iN y 20000):aj Tryz.prog G 169 [cT x,cT y] (.c (.d (.int .i64 (gG x y)))):=by
 have b1:=jt G x;have b2:=jt G y;have m1:=gk G (iK x) (some (aI 1000000000 y.den)) x.num.natAbs y.den 20000 (lB x) rfl hx.1 hy.2 (by decide);have m2:=gk G (iK y) (some (aI 1000000000 x.den)) y.num.natAbs x.den 20000 (lB y) rfl hy.1 hx.2 (by decide);have cc:=vW G (x.num.natAbs*y.den) (y.num.natAbs*x.den);have hr:=OG x y
 have hw:IntKind.i64.wrap (eo x*dm (x.num.natAbs*y.den) (y.num.natAbs*x.den))=eo x*dm (x.num.natAbs*y.den) (y.num.natAbs*x.den):=by
  have h1:=AM (x.num.natAbs*y.den) (y.num.natAbs*x.den);rcases tO x with h|h|h <;> rw [h] <;> exact bK (by omega) (by omega)
 rw [hr];refine aj.aH Tryz.func169 rfl (by rw [Tryz.ntmps169];simp) ?_;rintro⟨_,_,w0,F0,W0,_,bq,β0⟩ rfl rfl rfl;refine aac fun K hK=>?_;refine aad rfl ?_;simp;apply hK;clear hK K;refine aac fun K hK=>?_;refine aak ?_;refine aac fun K1 hK1=>?_;refine aad rfl ?_;simp;apply hK1;clear hK1 K1
 by_cases h1:eo x<eo y
 ·refine aap (by simp [h1] <;> omega) ?_;refine aac fun K1 hK1=>?_;refine aad rfl ?_;simp;apply hK1;clear hK1 K1;exact aag (κ:=0) (au.t (κ:=0) (t:=4) rfl 9 (by simp [h1]))
 ·refine aao (by simp [h1] <;> omega) ?_;refine aac fun K1 hK1=>?_;refine aad rfl ?_;simp;apply hK1;clear hK1 K1
  by_cases h2:eo y<eo x
  ·refine aap (by simp [h2] <;> omega) ?_;refine aac fun K1 hK1=>?_;refine aad rfl ?_;simp;apply hK1;clear hK1 K1;exact aag (κ:=0) (au.t (κ:=0) (t:=4) rfl 9 (by simp [h1,h2]))
  ·refine aao (by simp [h2] <;> omega) ?_;refine aah ?_;simp;apply hK;clear hK K;refine aac fun K hK=>?_;refine aay mixed (by kernel_rfl) rfl ?_;simp;refine ai.p 2 9 b2 ?_;simp;refine ai.p 2 9 m1 ?_;simp;refine ai.p 2 9 b1 ?_;simp;refine ai.p 2 9 m2 ?_;simp;refine ai.p 2 9 cc ?_;simp;simp [hw];refine⟨by kernel_rfl,?_⟩;apply hK;clear hK K;exact aag (κ:=0) (au.t (κ:=0) (t:=4) rfl 9 (by simp [h1,h2]))
end Go.Am

namespace Go.Am
open Go.Am.Ty Go.Proofs N
attribute [local irreducible] bM
theorem jk (lv:Key→LB)(s:Int)(p q:Option (List Nat))(n:Int):gH lv (.tup [rA s p q,.c (.d (.int .i64 n))])=some (.tup [rA s p q,.c (.d (.int .i64 n))],[]):=by
 cases p <;> cases q <;> rfl
theorem bM.ref {c:Ctx}{fn:Func}{z:Rat}{t k:Nat}{s:aG}{κ:Nat}(hr:fn.results=#[.cell t 215]) (ht:s.fr t=.c (.ptr k 0)) (hk:s.lv k=.cells true false 215 [.d (.int .i64 (eo z)),rC (iK z),rC (kJ z)]) (hP:c.P=Tryz.prog):bM c fn (cT z) .ret s κ:=
 bM.cell hr ht hk (by rw [List.drop_zero,hP,ic])
set_option maxHeartbeats 4000000 in
theorem HV (G:List (List DV))(x y:Rat)(hx:iN x 10000)(hy:iN y 10000):aj Tryz.prog G 360 [cT x,cT y] (cT (x+y)):=by
 have b1:=jt G x;have b2:=jt G y;have m1:=gk G (iK x) (some (aI 1000000000 y.den)) x.num.natAbs y.den 10000 (lB x) rfl hx.1 hy.2 (by decide);have m2:=gk G (iK y) (some (aI 1000000000 x.den)) y.num.natAbs x.den 10000 (lB y) rfl hy.1 hx.2 (by decide);have m3:=gk G (some (aI 1000000000 x.den)) (some (aI 1000000000 y.den)) x.den y.den 10000 rfl rfl hx.2 hy.2 (by decide);have l1:=fF x.num.natAbs y.den;have l2:=fF y.num.natAbs x.den;have l3:=fF x.den y.den;have hq0:0<x.den*y.den:=Nat.mul_pos x.den_pos y.den_pos;have hx1:=hx.1;have hx2:=hx.2;have hy1:=hy.1;have hy2:=hy.2;have zx:x.num.natAbs*y.den=0↔x.num=0:=by rw [Nat.mul_eq_zero];have:=y.den_nz;omega
 have zy:y.num.natAbs*x.den=0↔y.num=0:=by rw [Nat.mul_eq_zero];have:=x.den_nz;omega
 rw [C2];generalize x.num.natAbs*y.den=A at *
 generalize y.num.natAbs*x.den=B at *
 generalize x.den*y.den=Q at *
 have ad:=By G A B 20000 (by omega) (by omega) (by decide);have l4:=Dy A B;have cm:=vW G A B;have mk:=fun (s:Int) (neg:Bool) (P:Nat) (hs:P≠0→s=if neg then -1 else 1) (hP:nl P≤20001)=>qu G s neg P Q 20001 (some (aI 1000000000 P)) rfl hs hq0 hP (by omega) (by decide)
 have df1:A<B→_:=fun h=>A3 G B A 20000 (by omega) (by decide) (Nat.le_of_lt h)
 have df2:¬ A<B→_:=fun h=>A3 G A B 20000 (by omega) (by decide) (Nat.not_lt.1 h)
 have nA:∀ n,n≤A→nl n≤20001:=fun n h=>by have:=jV h;omega
 have nB:∀ n,n≤B→nl n≤20001:=fun n h=>by have:=jV h;omega
 refine aj.bH Tryz.func360 rfl (by rw [Tryz.ntmps360];simp) (fun lv=>eG lv _ _ _) ?_;rintro⟨_,_,w0,F0,W0,_,bq,β0⟩ rfl rfl rfl;refine aac fun K hK=>?_;refine aad rfl ?_;simp;apply hK;clear hK K;refine aac fun K hK=>?_;refine aay mixed (by kernel_rfl) rfl ?_;simp;refine ai.p 3 9 b2 ?_;simp;refine ai.p 3 9 m1 ?_;simp;refine ai.p 3 9 b1 ?_;simp;refine ai.p 3 9 m2 ?_;simp;refine⟨by kernel_rfl,?_⟩;apply hK;clear hK K;refine aac fun K hK=>?_;refine aay mixed (by kernel_rfl) rfl ?_;simp;refine ai.p 3 9 b1 ?_;simp;refine ai.p 3 9 b2 ?_;simp;refine ai.p 3 9 m3 ?_;simp;refine⟨by kernel_rfl,?_⟩;apply hK;clear hK K;refine aac fun K hK=>?_;refine aac fun K1 hK1=>?_
 by_cases hs:eo x=0∨eo y=0∨eo x=eo y
 ·obtain⟨s,hse⟩:∃ s,(if eo x=0 then eo y else eo x)=s:=⟨_,rfl⟩
  obtain⟨neg,hn1,hn2⟩:∃ neg:Bool,(A+B≠0→s=if neg then -1 else 1)∧dg (decide (x.num<0)) A+dg (decide (y.num<0)) B=dg neg (A+B):=by
   by_cases hx0:x.num=0
   ·have hA:A=0:=zx.2 hx0;have hs1:s=eo y:=by rw [← hse,if_pos (jo.2 hx0)]
    refine⟨decide (y.num<0),fun h=>?_,?_⟩
    ·rw [hs1];exact m9 (fun e=>h (by rw [hA,zy.2 e]))
    ·rw [hA,Nat.zero_add];have:dg (decide (x.num<0)) 0=0:=by unfold dg;split <;> rfl
     rw [this,Int.zero_add]
   ·have hs1:s=eo x:=by rw [← hse,if_neg (fun e=>hx0 (jo.1 e))]
    refine⟨decide (x.num<0),fun _=>?_,?_⟩
    ·rw [hs1];exact m9 hx0
    ·by_cases hy0:y.num=0
     ·have hB:B=0:=zy.2 hy0;rw [hB,Nat.add_zero];have:dg (decide (y.num<0)) 0=0:=by unfold dg;split <;> rfl
      rw [this,Int.add_zero]
     ·have he:eo x=eo y:=by
       rcases hs with h|h|h
       ·exact absurd (jo.1 h) hx0
       ·exact absurd (jo.1 h) hy0
       ·exact h
      rw [m9 hx0,m9 hy0] at he
      have hd:decide (x.num<0)=decide (y.num<0):=by
       cases h1:decide (x.num<0) <;> cases h2:decide (y.num<0) <;> simp [h1,h2] at he ⊢
      rw [hd,Al]
  have mk1:=mk s neg (A+B) hn1 (by omega);rw [← hn2] at mk1
  by_cases c1:eo x=0
  ·refine aad rfl ?_;simp [c1];apply hK1;clear hK1 K1;refine aaq ?_;refine aac fun K1 hK1=>?_;refine aad rfl ?_;simp [c1];apply hK1;clear hK1 K1;refine aac fun K1 hK1=>?_;refine aac fun K2 hK2=>?_;refine aad rfl ?_;simp;apply hK2;clear hK2 K2;refine aaq ?_;rw [if_pos c1] at hse;refine aad rfl ?_;simp [hse];apply hK1;clear hK1 K1;refine aac fun K1 hK1=>?_;refine aad rfl ?_;simp;refine ai.p 3 9 ad ?_;simp;refine ai.p 3 9 mk1 ?_;simp;simp [ak];apply hK1;clear hK1 K1;exact aag (bM.ref (k:=2) rfl (by simp) (by simp [ak]) rfl)
  ·rw [if_neg c1] at hse
   by_cases c2:eo y=0
   ·refine aad rfl ?_;simp [c1,c2];apply hK1;clear hK1 K1;refine aaq ?_;refine aac fun K1 hK1=>?_;refine aad rfl ?_;simp [hse];apply hK1;clear hK1 K1;refine aac fun K1 hK1=>?_;refine aac fun K2 hK2=>?_;refine aad rfl ?_;simp;apply hK2;clear hK2 K2;have c3:¬ s=0:=by rw [← hse];exact c1
    refine aao (by simp [c3] <;> omega) ?_;refine aah ?_;simp;apply hK1;clear hK1 K1;refine aac fun K1 hK1=>?_;refine aad rfl ?_;simp;refine ai.p 3 9 ad ?_;simp;refine ai.p 3 9 mk1 ?_;simp;simp [ak];apply hK1;clear hK1 K1;exact aag (bM.ref (k:=2) rfl (by simp) (by simp [ak]) rfl)
   ·have c4:eo x=eo y:=hs.elim (fun h=>absurd h c1) fun h=>h.elim (fun h=>absurd h c2) id
    have c5:eo y=s:=by rw [← c4];exact hse
    have c3:¬ s=0:=by rw [← hse];exact c1
    refine aad rfl ?_;simp [c1,c2,hse,c5,c3];apply hK1;clear hK1 K1;refine aaq ?_;refine aac fun K1 hK1=>?_;refine aad rfl ?_;simp [hse];apply hK1;clear hK1 K1;refine aac fun K1 hK1=>?_;refine aac fun K2 hK2=>?_;refine aad rfl ?_;simp;apply hK2;clear hK2 K2;refine aao (by simp [c3] <;> omega) ?_;refine aah ?_;simp;apply hK1;clear hK1 K1;refine aac fun K1 hK1=>?_;refine aad rfl ?_;simp;refine ai.p 3 9 ad ?_;simp;refine ai.p 3 9 mk1 ?_;simp;simp [ak];apply hK1;clear hK1 K1;exact aag (bM.ref (k:=2) rfl (by simp) (by simp [ak]) rfl)
 ·have c1:¬ eo x=0:=fun h=>hs (.inl h)
  have c2:¬ eo y=0:=fun h=>hs (.inr (.inl h))
  have c3:¬ eo x=eo y:=fun h=>hs (.inr (.inr h))
  have hx0:x.num≠0:=fun h=>c1 (jo.2 h)
  have hy0:y.num≠0:=fun h=>c2 (jo.2 h)
  have hne:decide (x.num<0)≠decide (y.num<0):=fun h=>c3 (by rw [m9 hx0,m9 hy0,h])
  refine aad rfl ?_;simp [c1,c2,c3];apply hK1;clear hK1 K1;refine aat ?_;refine aah ?_;simp;apply hK;clear hK K;refine aac fun K hK=>?_;refine aac fun K1 hK1=>?_
  by_cases hlt:A<B
  ·have hc:dm A B<0:=by rw [iI hlt];omega
   have d1:=df1 hlt;have mk1:=mk (eo y) (decide (y.num<0)) (B - A) (fun _=>m9 hy0) (nB _ (Nat.sub_le _ _));rw [← Dn hne hlt] at mk1;refine aad rfl ?_;simp;refine ai.p 3 9 cm ?_;simp [hc];apply hK1;clear hK1 K1;refine aaq ?_;refine aac fun K1 hK1=>?_;refine aay mixed (by kernel_rfl) rfl ?_;simp;refine ai.p 3 9 d1 ?_;simp;refine ai.p 3 9 mk1 ?_;simp;simp [ak];refine⟨by kernel_rfl,?_⟩;apply hK1;clear hK1 K1;exact aag (bM.ref (k:=2) rfl (by simp) (by simp [ak]) rfl)
  ·have hc:¬ dm A B<0:=by
    by_cases e:A=B
    ·rw [lp e];omega
    ·rw [jb (by omega)];omega
   have d1:=df2 hlt;have mk1:=mk (eo x) (decide (x.num<0)) (A - B) (fun _=>m9 hx0) (nA _ (Nat.sub_le _ _));rw [← Eb hne hlt] at mk1;refine aad rfl ?_;simp;refine ai.p 3 9 cm ?_;simp [hc];apply hK1;clear hK1 K1;refine aat ?_;refine aah ?_;simp;apply hK;clear hK K;refine aac fun K hK=>?_;refine aay mixed (by kernel_rfl) rfl ?_;simp;refine ai.p 3 9 d1 ?_;simp;refine ai.p 3 9 mk1 ?_;simp;simp [ak];refine⟨by kernel_rfl,?_⟩;apply hK;clear hK K;exact aag (bM.ref (k:=2) rfl (by simp) (by simp [ak]) rfl)
theorem GL (G:List (List DV))(x y:Rat)(hx:iN x 10000)(hy:iN y 10000):aj Tryz.prog G 336 [cT x,cT y] (cT (x - y)):=by
 have h1:=HU G y;have h2:=HV G x (-y) hx (uc hy);rw [← Rat.sub_eq_add_neg] at h2;refine aj.bH Tryz.func336 rfl (by rw [Tryz.ntmps336];simp) (fun lv=>eG lv _ _ _) ?_;rintro⟨_,_,w0,F0,W0,_,bq,β0⟩ rfl rfl rfl;refine aac fun K hK=>?_;refine aad rfl ?_;simp;apply hK;clear hK K;refine aac fun K hK=>?_;refine aay mixed (by kernel_rfl) rfl ?_;simp;refine ai.p 3 9 h1 ?_;simp;refine ai.p 3 9 h2 ?_;simp;simp [ak];refine⟨by kernel_rfl,?_⟩;apply hK;clear hK K;exact aag (bM.ref (k:=2) rfl (by simp) (by simp [ak]) rfl)
end Go.Am

namespace Go.Am
open Go.Am.Ty Go.Proofs N
attribute [local irreducible] bM
theorem Lz {x:Rat}(h:x.num≠0):iK x=some (aI 1000000000 x.num.natAbs):=if_neg h
theorem y7 {x:Rat}(h:x.num≠0):kJ x=some (aI 1000000000 x.den):=if_neg h
theorem Ih (G:List (List DV))(x y:Rat)(hx:iN x 10000)(hy:iN y 10000)(hy0:0<y.num) :
 aj Tryz.prog G 292 [cT x,cT y] (.tup [cT (mkRat (dg (decide (x.num<0)) (x.num.natAbs*y.den)) (x.den*y.num.natAbs)),.c (.d (.int .i64 0))]):=by
 have hyn:y.num≠0:=by omega
 have b1:=jt G x;have m1:=gk G (iK x) (kJ y) x.num.natAbs y.den 10000 (lB x) (by rw [y7 hyn];rfl) hx.1 hy.2 (by decide);have m2:=gk G (some (aI 1000000000 x.den)) (iK y) x.den y.num.natAbs 10000 rfl (lB y) hx.2 hy.1 (by decide);have l1:=fF x.num.natAbs y.den;have l2:=fF x.den y.num.natAbs;have hx1:=hx.1;have hx2:=hx.2;have hy1:=hy.1;have hy2:=hy.2;have sy:eo y=1:=by unfold eo;rw [if_neg hyn,if_neg (by omega)]
 have sy0:¬ eo y=0:=by rw [sy];decide
 have hw:IntKind.i64.wrap (eo x*eo y)=eo x:=by
  rw [sy,Int.mul_one];rcases tO x with h|h|h <;> rw [h] <;> rfl
 have mk:=qu G (eo x) (decide (x.num<0)) (x.num.natAbs*y.den) (x.den*y.num.natAbs) 20000 (some (aI 1000000000 (x.num.natAbs*y.den))) rfl (fun h=>m9 (fun e=>h (by rw [e];simp))) (Nat.mul_pos x.den_pos (by omega)) (by omega) (by omega) (by decide);generalize mkRat (dg (decide (x.num<0)) (x.num.natAbs*y.den)) (x.den*y.num.natAbs)=z at *
 generalize x.num.natAbs*y.den=A at *
 generalize x.den*y.num.natAbs=B at *
 refine aj.bH Tryz.func292 rfl (by rw [Tryz.ntmps292];simp) (fun lv=>jk lv _ _ _ _) ?_;rintro⟨_,_,w0,F0,W0,_,bq,β0⟩ rfl rfl rfl;refine aac fun K hK=>?_;refine aad rfl ?_;simp;apply hK;clear hK K;refine aac fun K hK=>?_;refine aac fun K1 hK1=>?_;refine aad rfl ?_;simp;apply hK1;clear hK1 K1;refine aao (by simp [sy0] <;> omega) ?_;refine aah ?_;simp;apply hK;clear hK K;refine aac fun K hK=>?_;refine aay mixed (by kernel_rfl) rfl ?_;simp [hw];refine ai.p 3 9 m1 ?_;simp;refine ai.p 3 9 b1 ?_;simp;refine ai.p 3 9 m2 ?_;simp;refine ai.p 3 9 mk ?_;simp [ak];refine⟨by kernel_rfl,?_⟩;apply hK;clear hK K;refine aag ?_;refine bM.kY (x:=cT z) (y:=.c (.d (.int .i64 0))) (T:=215) (t:=4) (u:=5) (k:=2) (off:=0) (own:=true) (fz:=false) (U:=215) (cs:=[.d (.int .i64 (eo z)),rC (iK z),rC (kJ z)]) rfl ?_ ?_ ?_ ?_ rfl rfl
 ·simp
 ·simp [ak]
 ·rw [List.drop_zero,ic]
 ·simp
theorem yB (m:Int):aj Tryz.prog (GG m) 154 [.c (.d (.int .i64 1))] (cT 1):=by
 have h:aj Tryz.prog (GG m) 154 [.c (.d (.int .i64 1))] (.agg [.d (.int .i64 1),.d (.sl [[.int .i64 1]]),.d (.sl [[.int .i64 1]])]):=aj.Cg (zP m 60) (by kernel_rfl)
 have e:cT 1=.agg [.d (.int .i64 1),.d (.sl [[.int .i64 1]]),.d (.sl [[.int .i64 1]])]:=by
  show rA 1 (some (aI 1000000000 1)) (some (aI 1000000000 1))=_;rw [O6];rfl
 rw [e];exact h
theorem vF (G:List (List DV)):∀ (k:Nat),k≤100000→aj Tryz.prog G 361 [.c (.d (.int .i64 (k:Int)))] (.c (rC (some (aI 1000000000 (2 ^ k))))):=by
 intro k
 induction k using Nat.strongRecOn with
 | ind k ih=>
 intro hk;have ho:=rP G;rw [eY] at ho
 by_cases h0:k=0
 ·subst h0;have h0':((0:Nat):Int)=0:=rfl;refine aj.aH Tryz.func361 rfl (by rw [Tryz.ntmps361];simp) ?_;rintro⟨_,_,w0,F0,W0,_,bq,β0⟩ rfl rfl rfl;refine aac fun K hK=>?_;refine aad rfl ?_;simp;apply hK;clear hK K;refine aac fun K hK=>?_;refine aac fun K1 hK1=>?_;refine aad rfl ?_;simp;apply hK1;clear hK1 K1;refine aaq ?_;refine aac fun K1 hK1=>?_;refine aad rfl ?_;simp;refine ai.p 1 9 ho ?_;simp;apply hK1;clear hK1 K1;exact aag (κ:=0) (au.t (κ:=0) (t:=2) rfl 9 (by simp))
 have hk0:¬ (k:Int)=0:=by omega
 have ih2:=ih (k / 2) (by omega) (by omega);have e1:(k:Int).tdiv 2=((k / 2:Nat):Int):=ld k 2;have w1:=bK (n:=((k / 2:Nat):Int)) (by omega) (by omega);have e2:(k:Int).tmod 2=((k % 2:Nat):Int):=rz k 2;have n2:=mz (k / 2);have m1:=gk G (some (aI 1000000000 (2 ^ (k / 2)))) (some (aI 1000000000 (2 ^ (k / 2)))) (2 ^ (k / 2)) (2 ^ (k / 2)) 10000 rfl rfl (by omega) (by omega) (by decide);rw [← Nat.pow_add] at m1;have n3:=mz (k / 2+k / 2);have ad:=By G (2 ^ (k / 2+k / 2)) (2 ^ (k / 2+k / 2)) 10000 (by omega) (by omega) (by decide);have e3:2 ^ (k / 2+k / 2)+2 ^ (k / 2+k / 2)=2 ^ (k / 2+k / 2+1):=by rw [Nat.pow_succ];omega
 rw [e3] at ad;refine aj.aH Tryz.func361 rfl (by rw [Tryz.ntmps361];simp) ?_;rintro⟨_,_,w0,F0,W0,_,bq,β0⟩ rfl rfl rfl;refine aac fun K hK=>?_;refine aad rfl ?_;simp;apply hK;clear hK K;refine aac fun K hK=>?_;refine aac fun K1 hK1=>?_;refine aad rfl ?_;simp;apply hK1;clear hK1 K1;refine aao (by simp [h0,hk0] <;> omega) ?_;refine aah ?_;simp;apply hK;clear hK K;refine aac fun K hK=>?_;refine aad rfl ?_;simp [e1,w1,-Int.natCast_ediv];refine ai.p 1 9 ih2 ?_;simp;apply hK;clear hK K;refine aac fun K hK=>?_;refine aad rfl ?_;simp;refine ai.p 1 9 m1 ?_;simp;apply hK;clear hK K;refine aac fun K hK=>?_;refine aac fun K1 hK1=>?_
 by_cases ho:k % 2=1
 ·have e4:k=k / 2+k / 2+1:=by omega
  have ho':(k:Int) % 2=1:=by omega
  refine aad rfl ?_;simp [e2,ho,ho',-Int.natCast_emod];apply hK1;clear hK1 K1;refine aap (by simp [ho,ho'] <;> omega) ?_;refine aad rfl ?_;simp;refine ai.p 1 9 ad ?_;simp;apply hK;refine aac fun K9 hK9=>?_;refine aad rfl ?_;simp;apply hK9;clear hK9 K9;rw [← e4];exact aag (κ:=0) (au.t (κ:=0) (t:=2) rfl 9 (by simp))
 ·have e4:k=k / 2+k / 2:=by omega
  have ho':¬ (k:Int) % 2=1:=by omega
  refine aad rfl ?_;simp [e2,ho,ho',-Int.natCast_emod];apply hK1;clear hK1 K1;refine aao (by simp [ho,ho'] <;> omega) ?_;refine aah ?_;simp;apply hK;refine aac fun K9 hK9=>?_;refine aad rfl ?_;simp;apply hK9;clear hK9 K9;rw [← e4];exact aag (κ:=0) (au.t (κ:=0) (t:=2) rfl 9 (by simp))
end Go.Am

namespace Go.Am
open Go.Am.Ty Go.Proofs N
attribute [local irreducible] bM
theorem wv (G:List (List DV))(x:Rat)(k:Int)(hx:iN x 10000)(h1:-20000≤k)(h2:k≤20000):aj Tryz.prog G 337 [cT x,.c (.d (.int .i64 k))] (cT (aN x k)):=by
 have b1:=jt G x;have hx1:=hx.1;have hx2:=hx.2
 by_cases hk:k<0
 ·have hsh:=gz (x:=x) hk;obtain⟨j,hj⟩:∃ j:Nat,(-k).toNat=j:=⟨_,rfl⟩
  rw [hj] at hsh;have w1:IntKind.i64.wrap (-k)=(j:Int):=by rw [bK (by omega) (by omega)];omega
  have n1:=mz j;have pw:=vF G j (by omega);have m1:=gk G (some (aI 1000000000 x.den)) (some (aI 1000000000 (2 ^ j))) x.den (2 ^ j) 10000 rfl rfl hx2 (by omega) (by decide);have l1:=fF x.den (2 ^ j);have mk:=qu G (eo x) (decide (x.num<0)) x.num.natAbs (x.den*2 ^ j) 20000 (iK x) (lB x) (fun h=>m9 (by omega)) (Nat.mul_pos x.den_pos (Nat.pow_pos (by decide))) (by omega) (by omega) (by decide);rw [← hsh] at mk;generalize 2 ^ j=T at *
  refine aj.bH Tryz.func337 rfl (by rw [Tryz.ntmps337];simp) (fun lv=>eG lv _ _ _) ?_;rintro⟨_,_,w0,F0,W0,_,bq,β0⟩ rfl rfl rfl;refine aac fun K hK=>?_;refine aad rfl ?_;simp;apply hK;clear hK K;refine aac fun K hK=>?_;refine aac fun K1 hK1=>?_;refine aad rfl ?_;simp;apply hK1;clear hK1 K1;refine aap (by simp [hk] <;> omega) ?_;refine aac fun K1 hK1=>?_;refine aay mixed (by kernel_rfl) rfl ?_;simp;refine ai.p 2 9 b1 ?_;simp;simp [w1];refine ai.p 2 9 pw ?_;simp;refine ai.p 2 9 m1 ?_;simp;refine ai.p 2 9 mk ?_;simp [ak];refine⟨by kernel_rfl,?_⟩;apply hK1;clear hK1 K1;exact aag (bM.ref (k:=1) rfl (by simp) (by simp [ak]) rfl)
 ·have hkn:k=((k.toNat:Nat):Int):=by omega
  have n1:=mz k.toNat;have pw:=vF G k.toNat (by omega);rw [← hkn] at pw;have m1:=gk G (iK x) (some (aI 1000000000 (2 ^ k.toNat))) x.num.natAbs (2 ^ k.toNat) 10000 (lB x) rfl hx1 (by omega) (by decide);have l1:=fF x.num.natAbs (2 ^ k.toNat);have mk:=qu G (eo x) (decide (x.num<0)) (x.num.natAbs*2 ^ k.toNat) x.den 20000 (some (aI 1000000000 (x.num.natAbs*2 ^ k.toNat))) rfl (fun h=>m9 (fun e=>h (by rw [e];simp))) x.den_pos (by omega) (by omega) (by decide);rw [← gx hk] at mk;generalize 2 ^ k.toNat=T at *
  refine aj.bH Tryz.func337 rfl (by rw [Tryz.ntmps337];simp) (fun lv=>eG lv _ _ _) ?_;rintro⟨_,_,w0,F0,W0,_,bq,β0⟩ rfl rfl rfl;refine aac fun K hK=>?_;refine aad rfl ?_;simp;apply hK;clear hK K;refine aac fun K hK=>?_;refine aac fun K1 hK1=>?_;refine aad rfl ?_;simp;apply hK1;clear hK1 K1;refine aao (by simp [hk] <;> omega) ?_;refine aah ?_;simp;apply hK;clear hK K;refine aac fun K hK=>?_;refine aay mixed (by kernel_rfl) rfl ?_;simp;refine ai.p 2 9 pw ?_;simp;refine ai.p 2 9 m1 ?_;simp;refine ai.p 2 9 b1 ?_;simp;refine ai.p 2 9 mk ?_;simp [ak];refine⟨by kernel_rfl,?_⟩;apply hK;clear hK K;exact aag (bM.ref (k:=1) rfl (by simp) (by simp [ak]) rfl)
theorem mK (m:Int)(k:Int)(h1:-20000≤k)(h2:k≤20000):aj Tryz.prog (GG m) 295 [.c (.d (.int .i64 k))] (cT (aN 1 k)):=by
 have i1:=yB m;have sh:=wv (GG m) 1 k (iJ 10000 (by decide)) h1 h2;refine aj.bH Tryz.func295 rfl (by rw [Tryz.ntmps295];simp) (fun lv=>eG lv _ _ _) ?_;rintro⟨_,_,w0,F0,W0,_,bq,β0⟩ rfl rfl rfl;refine aac fun K hK=>?_;refine aad rfl ?_;simp;apply hK;clear hK K;refine aac fun K hK=>?_;refine aad rfl ?_;simp;refine ai.p 1 9 i1 ?_;simp;refine ai.p 1 9 sh ?_;simp [ak];apply hK;clear hK K;exact aag (bM.ref (k:=0) rfl (by simp) (by simp [ak]) rfl)
theorem CL {A k:Nat}:A<2 ^ k↔bf A≤k:=by
 constructor
 ·intro h
  by_cases h0:A=0
  ·subst h0;exact Nat.zero_le _
  ·have h1:=jd h0;have:bf A - 1<k:=(Nat.pow_lt_pow_iff_right (by decide:1<2)).1 (Nat.lt_of_le_of_lt h1 h);omega
 ·intro h;exact Nat.lt_of_lt_of_le (qz A) (Nat.pow_le_pow_right (by decide) h)
theorem zg {A n:Nat}(h:(aI 1000000000 A).length≤n):bf A≤30*n:=by
 rw [← CL,Nat.pow_mul];exact Nat.lt_of_lt_of_le (pn (by decide)) (Nat.le_trans (Nat.pow_le_pow_right (by decide) h) (Nat.pow_le_pow_left (by decide) _))
theorem JV {A:Nat}:29*((aI 1000000000 A).length - 1)≤bf A:=by
 by_cases h0:aI 1000000000 A=[]
 ·rw [h0];exact Nat.zero_le _
 ·have h1:=C8 (bk (B:=1000000000) (by decide) A) h0;rw [bg (by decide)] at h1
  have h2:2 ^ (29*((aI 1000000000 A).length - 1))≤A:=by
   rw [Nat.pow_mul];exact Nat.le_trans (Nat.pow_le_pow_left (by decide) _) h1
  by_cases h3:bf A≤29*((aI 1000000000 A).length - 1)
  ·have:=CL.2 h3;omega
  ·omega
set_option maxHeartbeats 2000000 in
theorem s5 (G:List (List DV))(A:Nat)(hl:(aI 1000000000 A).length≤3000):aj Tryz.prog G 340 [(nK .i64 (some (aI 1000000000 (A))))] (.c (.d (.int .i64 (bf A)))):=by
 have hlo:=JV (A:=A);have hhi:=zg (A:=A) (Nat.le_refl _);obtain⟨n,hn⟩:∃ n,(aI 1000000000 A).length=n:=⟨_,rfl⟩
 have pwG:=fun k (h:k≤100000)=>vF G k h
 have cmG:∀ k:Nat,aj Tryz.prog G 247 [(nK .i64 (some (aI 1000000000 (A)))),.c (rC (some (aI 1000000000 (2 ^ k))))] (.c (.d (.int .i64 (dm A (2 ^ k))))):=fun k=>by
  have:=nF G A (2 ^ k);rw [← eY];exact this
 have hln:∀ lv,fh Tryz.prog 213 lv (nK .i64 (some (aI 1000000000 (A))))=some (.c (.d (.int .i64 n)),[],[],True):=fun lv=>by
  have:=AU (P:=Tryz.prog) (T:=213) (lv:=lv) (k:=.i64) (o:=some (aI 1000000000 A)) (by simp);rw [aV,hn] at this;exact this
 rw [hn] at hlo hhi hl;have e1:=bK (n:=(n:Int) - 1) (by omega) (by omega);have e2:=bK (n:=29*((n:Int) - 1)) (by omega) (by omega);have e3:IntKind.i64.wrap (30*(n:Int))=((30*n:Nat):Int):=by rw [bK (by omega) (by omega)];omega
 obtain⟨z,hz⟩:∃ z:Int,29*((n:Int) - 1)=z:=⟨_,rfl⟩
 rw [hz] at e2;have hmx:(if 0<z then z else 0)=((29*(n - 1):Nat):Int):=by split <;> omega
 have blI:=fun k=>CL (A:=A) (k:=k)
 generalize bf A=L at *
 refine aj.aH Tryz.func340 rfl (by rw [Tryz.ntmps340];simp) ?_;rintro⟨_,_,w0,F0,W0,_,bq,β0⟩ rfl rfl rfl;refine aac fun K hK=>?_;refine aad rfl ?_;simp;apply hK;clear hK K;refine aac fun K hK=>?_;refine aad rfl ?_;simp [cX,hln,e1,hz,e2,e3,hmx,-Int.natCast_mul,-AU];apply hK;clear hK K;refine aac fun K hK=>?_;refine aak ?_
 refine aax (fun (p:Nat × Nat)=>⟨bt [(0,(nK .i64 (some (aI 1000000000 (A))))),(3,.c (.d (.int .i64 (p.1:Int)))),(4,.c (.d (.int .i64 (p.2:Int))))],fun _=>.hole⟩) 0
  (fun p=>p.1≤L∧L≤p.2∧p.2≤90000) (fun p=>p.2 - p.1) (29*(n - 1),30*n) (Le.mk' _ rfl aA (by simp)) ⟨hlo,hhi,by omega⟩ ?_
 rintro⟨lo,hi⟩ ⟨q1,q2,q3⟩;simp only at q1 q2 q3;refine aac fun K2 hK2=>aac fun K3 hK3=>?_;refine aad rfl ?_;simp;apply hK3;clear hK3 K3
 by_cases hlh:lo<hi
 ·have u1:IntKind.i64.wrap ((lo:Int)+hi)=((lo+hi:Nat):Int):=by rw [bK (by omega) (by omega)];omega
  have u3:(((lo+hi:Nat):Int)).tdiv 2=(((lo+hi) / 2:Nat):Int):=ld _ 2;obtain⟨mi,hmi⟩:∃ mi,(lo+hi) / 2=mi:=⟨_,rfl⟩
  rw [hmi] at u3;have u4:=bK (n:=(mi:Int)) (by omega) (by omega);have u5:=bK (n:=(mi:Int)+1) (by omega) (by omega);have pw:=pwG mi (by omega);have cm:=cmG mi;have bi:=blI mi;refine aap (by simp [hlh] <;> omega) ?_;refine aah ?_;simp;apply hK2;refine aak ?_;refine aac fun K4 hK4=>?_;refine aad rfl ?_;simp [u1,u3,u4,-Int.natCast_add];apply hK4;clear hK4 K4;refine aac fun K4 hK4=>?_
  by_cases hc:dm A (2 ^ mi)<0
  ·have hle:L≤mi:=bi.1 (by by_cases h:A<2 ^ mi;exact h;exfalso;by_cases e:A=2 ^ mi;rw [lp e] at hc;omega;rw [jb (by omega)] at hc;omega);refine aad rfl ?_;simp;refine ai.p 0 9 pw ?_;simp;refine ai.p 0 9 cm ?_;simp [hc];apply hK4;clear hK4 K4;refine aaq ?_;refine aad rfl ?_;simp;exact⟨lo,mi,Le.mk' _ rfl aA (by simp),⟨q1,hle,by omega⟩,by omega⟩
  ·have hle:¬ L≤mi:=fun h=>hc (by rw [iI (bi.2 h)];omega)
   have e:(mi:Int)+1=((mi+1:Nat):Int):=by omega
   refine aad rfl ?_;simp;refine ai.p 0 9 pw ?_;simp;refine ai.p 0 9 cm ?_;simp [hc];apply hK4;clear hK4 K4;refine aat ?_;refine aad rfl ?_;simp [u5];exact⟨mi+1,hi,Le.mk' _ rfl aA (by simp),⟨by omega,q2,q3⟩,by omega⟩
 ·obtain rfl:lo=L:=by omega
  refine aao (by simp [hlh] <;> omega) ?_;refine aav ?_;simp;apply hK;refine aac fun K hK=>?_;refine aad rfl ?_;simp;apply hK;clear hK K;exact aag (κ:=0) (au.t (κ:=0) (t:=2) rfl 9 (by simp))
end Go.Am

namespace Go.Am
open Go.Am.Ty Go.Proofs N
attribute [local irreducible] bM
theorem zY (k:Int):(aN 1 k).num=((2 ^ (max k 0).toNat:Nat):Int)∧(aN 1 k).den=2 ^ (max (-k) 0).toNat:=by
 by_cases hk:k<0
 ·rw [gz hk];obtain⟨n1,n2⟩:=gN (decide ((1:Rat).num<0)) (a:=(1:Rat).num.natAbs) (b:=(1:Rat).den*2 ^ (-k).toNat) (by have:=Nat.pow_pos (a:=2) (n:=(-k).toNat) (by decide);show 1*_≠0;omega);rw [n1,n2];have e1:(1:Rat).num.natAbs=1:=rfl;have e2:(1:Rat).den=1:=rfl;have e3:(max k 0).toNat=0:=by omega
  have e4:(max (-k) 0).toNat=(-k).toNat:=by omega
  rw [e1,e2,e3,e4,Nat.gcd_one_left,Nat.one_mul];exact⟨rfl,Nat.div_one _⟩
 ·rw [gx hk];obtain⟨n1,n2⟩:=gN (decide ((1:Rat).num<0)) (a:=(1:Rat).num.natAbs*2 ^ k.toNat) (b:=(1:Rat).den) (by decide);rw [n1,n2];have e1:(1:Rat).num.natAbs=1:=rfl;have e2:(1:Rat).den=1:=rfl;have e3:(max k 0).toNat=k.toNat:=by omega
  have e4:(max (-k) 0).toNat=0:=by omega
  rw [e1,e2,e3,e4,Nat.gcd_one_right,Nat.one_mul,Nat.div_one];exact⟨rfl,rfl⟩
theorem KW {x y:Rat}:gG x y<0↔x<y:=by
 unfold gG
 by_cases h:x<y
 ·rw [if_pos h];simp [h]
 ·rw [if_neg h];constructor
  ·intro h2;exfalso;split at h2 <;> omega
  ·intro h2;exact absurd h2 h
theorem oG (x:Rat)(k:Int):gG (fY x) (aN 1 k)<0↔x.num.natAbs*2 ^ (max (-k) 0).toNat<x.den*2 ^ (max k 0).toNat:=by
 rw [KW,DK];obtain⟨a1,a2⟩:=EY x;obtain⟨b1,b2⟩:=zY k;rw [a1,a2,b1,b2];have e1:((x.num.natAbs:Nat):Int).natAbs=x.num.natAbs:=by omega
 have e2:(((2 ^ (max k 0).toNat:Nat)):Int).natAbs=2 ^ (max k 0).toNat:=Int.natAbs_natCast _;have e3:decide (((x.num.natAbs:Nat):Int)<0)=false:=decide_eq_false (by omega);have e4:decide ((((2 ^ (max k 0).toNat:Nat)):Int)<0)=false:=decide_eq_false (Int.not_lt.2 (Int.natCast_nonneg _));rw [e1,e2,e3,e4,Nat.mul_comm (2 ^ (max k 0).toNat)];show ((x.num.natAbs*2 ^ (max (-k) 0).toNat:Nat):Int)<((x.den*2 ^ (max k 0).toNat:Nat):Int)↔_;exact Int.ofNat_lt
theorem GI (m:Int)(x:Rat)(hx0:x.num≠0)(hs:iN x 300):aj Tryz.prog (GG m) 296 [cT x] (.c (.d (.int .i64 (ff x)))):=by
 have h1:=hs.1;have h2:=hs.2;have s1:=I6 h1;have s2:=I6 h2;have ln1:=s5 (GG m) x.num.natAbs (by omega);have ln2:=s5 (GG m) x.den (by omega);rw [eY,← Lz hx0] at ln1;rw [eY,← y7 hx0] at ln2;have b1:=zg (A:=x.num.natAbs) s1;have b2:=zg (A:=x.den) s2;have ab:=u7 (GG m) x;obtain⟨k,hk⟩:∃ k:Int,(bf x.num.natAbs:Int) - bf x.den=k:=⟨_,rfl⟩
 have hkr:-20000≤k∧k≤20000:=by omega
 have tw:=mK m k hkr.1 hkr.2;have cm:=pU (GG m) (fY x) (aN 1 k) (uh (bQ hs (by decide))) (bQ (iD (iJ 1 (by decide)) k) (by omega));have hlt:=oG x k;have hlog:ff x=if x.num.natAbs*2 ^ (max (-k) 0).toNat<x.den*2 ^ (max k 0).toNat then k - 1 else k:=by unfold ff;rw [hk]
 have w1:=bK (n:=k) (by omega) (by omega);have w2:=bK (n:=k - 1) (by omega) (by omega);rw [← hk] at w1;have sx:¬ eo x=0:=fun h=>hx0 (jo.1 h)
 generalize bf x.num.natAbs=B1 at *
 generalize bf x.den=B2 at *
 generalize aN 1 k=T at *
 generalize x.num.natAbs*2 ^ (max (-k) 0).toNat=U at *
 generalize x.den*2 ^ (max k 0).toNat=W at *
 rw [hk] at w1;refine aj.aH Tryz.func296 rfl (by rw [Tryz.ntmps296];simp) ?_;rintro⟨_,_,w0,F0,W0,_,bq,β0⟩ rfl rfl rfl;refine aac fun K hK=>?_;refine aad rfl ?_;simp;apply hK;clear hK K;refine aac fun K hK=>?_;refine aac fun K1 hK1=>?_;refine aad rfl ?_;simp;apply hK1;clear hK1 K1;refine aao (by simp [sx] <;> omega) ?_;refine aah ?_;simp;apply hK;clear hK K;refine aac fun K hK=>?_;refine aay mixed (by kernel_rfl) rfl ?_;simp;refine ai.p 2 9 ln1 ?_;simp;refine ai.p 2 9 ln2 ?_;simp;simp [hk,w1];refine⟨by kernel_rfl,?_⟩;apply hK;clear hK K;refine aac fun K hK=>?_;refine aac fun K1 hK1=>?_
 by_cases hc:U<W
 ·have hc2:=hlt.2 hc;rw [if_pos hc] at hlog;refine aad rfl ?_;simp;refine ai.p 2 9 ab ?_;simp;refine ai.p 2 9 tw ?_;simp;refine ai.p 2 9 cm ?_;simp [hc2];apply hK1;clear hK1 K1;refine aaq ?_;refine aad rfl ?_;simp [w2];apply hK;refine aac fun K9 hK9=>?_;refine aad rfl ?_;simp;apply hK9;clear hK9 K9;exact aag (κ:=0) (au.t (κ:=0) (t:=2) rfl 9 (by simp [hlog]))
 ·have hc2:¬ gG (fY x) T<0:=fun h=>hc (hlt.1 h)
  rw [if_neg hc] at hlog;refine aad rfl ?_;simp;refine ai.p 2 9 ab ?_;simp;refine ai.p 2 9 tw ?_;simp;refine ai.p 2 9 cm ?_;simp [hc2];apply hK1;clear hK1 K1;refine aat ?_;refine aah ?_;simp;apply hK;refine aac fun K9 hK9=>?_;refine aad rfl ?_;simp;apply hK9;clear hK9 K9;exact aag (κ:=0) (au.t (κ:=0) (t:=2) rfl 9 (by simp [hlog]))
end Go.Am

namespace Go.Am
open Go.Am.Ty Go.Proofs N
attribute [local irreducible] bM
theorem sY (G:List (List DV))(e p:Int):aj Tryz.prog G 90 [.agg [.d (.int .i64 e),.d (.int .i64 p)]] (.c (.d (.int .i64 (fk e p)))):=by
 refine aj.aH Tryz.func90 rfl (by rw [Tryz.ntmps90];simp) ?_;rintro⟨_,_,w0,F0,W0,_,bq,β0⟩ rfl rfl rfl;refine aac fun K hK=>?_;refine aad rfl ?_;simp;apply hK;clear hK K;refine aac fun K hK=>?_;refine aac fun K1 hK1=>?_
 have bad:∀ (fr:Nat→AV) (κ:Nat) (lv:Key→LB),lv 9=.hole→fr 28=.c (.d (.bool true))→fk e p=2→K1 ⟨fr,lv⟩ κ:=by
  intro fr κ lv h9 z hf;apply hK1;refine aap (by simp [z] <;> omega) ?_;refine aac fun K2 hK2=>?_;refine aad rfl ?_;simp;apply hK2;clear hK2 K2;exact aag (κ:=0) (au.tmp (κ:=0) rfl 9 (by simp [hf]) rfl (by simp [h9]) rfl)
 by_cases h1:e<2
 ·refine aad rfl ?_;simp [h1];exact bad _ _ _ (by simp) (by simp) (by unfold fk;rw [if_pos (by omega)])
 by_cases h2:11<e
 ·refine aad rfl ?_;simp [h1,h2];exact bad _ _ _ (by simp) (by simp) (by unfold fk;rw [if_pos (by omega)])
 by_cases h3:p<2
 ·refine aad rfl ?_;simp [h1,h2,h3];exact bad _ _ _ (by simp) (by simp) (by unfold fk;rw [if_pos (by omega)])
 by_cases h4:113<p
 ·refine aad rfl ?_;simp [h1,h2,h3,h4];exact bad _ _ _ (by simp) (by simp) (by unfold fk;rw [if_pos (by omega)])
 have hw:IntKind.i64.wrap (e+p)=e+p:=bK (by omega) (by omega)
 by_cases h5:e+p<5
 ·refine aad rfl ?_;simp [h1,h2,h3,h4,hw,h5];exact bad _ _ _ (by simp) (by simp) (by unfold fk;rw [if_pos (by omega)])
 refine aad rfl ?_;simp [h1,h2,h3,h4,hw,h5];apply hK1;refine aat ?_;refine aah ?_;simp;apply hK;refine aac fun K3 hK3=>?_;refine aad rfl ?_;simp;apply hK3;clear hK3 K3;have hf:fk e p=0:=by unfold fk;rw [if_neg (by omega)]
 exact aag (κ:=0) (au.tmp (κ:=0) rfl 9 (by simp [hf]) rfl (by simp) rfl)
theorem rV (G:List (List DV))(e p:Int)(h1:2≤e)(h2:e≤11):aj Tryz.prog G 338 [fA e p] (.c (.d (.int .i64 (bw e)))):=by
 obtain⟨n,hn⟩:∃ n:Nat,e=(n:Int):=⟨e.toNat,by omega⟩
 have hb:bw e=((2 ^ (n - 1):Nat):Int) - 1:=by
  unfold bw;rw [hn,show ((n:Int) - 1).toNat=n - 1 by omega];simp
 have hp:∀ i,i≤10→2 ^ i≤1024:=fun i h=>Nat.pow_le_pow_right (by decide) h
 rw [hb];refine aj.aH Tryz.func338 rfl (by rw [Tryz.ntmps338];simp) ?_;rintro⟨_,_,w0,F0,W0,_,bq,β0⟩ rfl rfl rfl;refine aac fun K hK=>?_;refine aad rfl ?_;simp;apply hK;clear hK K;refine aac fun K hK=>?_;refine aad rfl ?_;simp;apply hK;clear hK K;refine aac fun K hK=>aac fun K1 hK1=>?_;refine aad rfl ?_;simp;apply hK1;clear hK1 K1;refine aak ?_
 refine aax (fun (i:Nat)=>⟨bt [(1,.c (.ptr 0 0)),(3,.c (.d (.int .i64 ((2 ^ i:Nat):Int)))),(4,.c (.d (.int .i64 ((i+1:Nat):Int))))],aJ (fun _=>.hole) 0 (.cells true false 81 [.d (.int .i64 e),.d (.int .i64 p)])⟩) 1
  (fun i=>i+1≤n) (fun i=>n - i) 0 (Le.mk' _ rfl (by simp) (by simp)) (by omega) ?_
 intro i hi
 try simp only at hi
 have hpi:=hp i (by omega);have hpi1:2*2 ^ i=2 ^ (i+1):=by rw [Nat.pow_succ,Nat.mul_comm]
 obtain⟨T,hT⟩:∃ T,2 ^ i=T:=⟨_,rfl⟩
 rw [hT] at hpi hpi1;simp only [hT];have w1:IntKind.i64.wrap (2*(T:Int))=((2 ^ (i+1):Nat):Int):=by rw [bK (by omega) (by omega),← hpi1];omega
 have w2:IntKind.i64.wrap (((i+1:Nat):Int)+1)=((i+1+1:Nat):Int):=by rw [bK (by omega) (by omega)];omega
 have w3:=bK (n:=(T:Int) - 1) (by omega) (by omega);refine aac fun K3 hK3=>aac fun K4 hK4=>?_;refine aad rfl ?_;simp [-Int.natCast_add];apply hK4;clear hK4 K4
 by_cases hlt:i+1<n
 ·have hlt':((i+1:Nat):Int)<e:=by omega
  refine aap (by simp [hlt',-Int.natCast_add] <;> omega) ?_;refine aah ?_;simp;apply hK3;refine aac fun K5 hK5=>?_;refine aak ?_;refine aad rfl ?_;simp [w1,-Int.natCast_pow,-Int.natCast_add];apply hK5;refine aad rfl ?_;simp [w2,-Int.natCast_pow,-Int.natCast_add];have w2':=bK (n:=(i:Int)+1+1) (by omega) (by omega);exact⟨i+1,Le.mk' _ rfl (by simp) (by simp [w2']),by omega,by omega⟩
 ·have hlt':¬ ((i+1:Nat):Int)<e:=by omega
  have e1:n - 1=i:=by omega
  refine aao (by simp [hlt',-Int.natCast_add] <;> omega) ?_;refine aav ?_;simp;apply hK;refine aac fun K9 hK9=>?_;refine aad rfl ?_;simp [w3];apply hK9;clear hK9 K9;rw [e1,hT];exact aag (κ:=0) (au.t (κ:=0) (t:=2) rfl 9 (by simp))
theorem oR {e p:Int}(h:fk e p=0):1≤bw e∧bw e≤1023:=by
 obtain⟨h1,h2,_⟩:=iH h;obtain⟨a,b,_⟩:=rY h1 h2;exact⟨a,b⟩
theorem De (m:Int)(e p:Int)(hf:fk e p=0):aj Tryz.prog (GG m) 294 [fA e p] (cT (aN 1 (2 - bw e - p))):=by
 obtain⟨h1,h2,h3,h4,_⟩:=iH hf;obtain⟨b1,b2⟩:=oR hf;have bb:=rV (GG m) e p h1 h2;generalize bw e=b at *
 have w1:=bK (n:=2 - b) (by omega) (by omega);have w2:=bK (n:=2 - b - p) (by omega) (by omega);have tw:=mK m (2 - b - p) (by omega) (by omega);refine aj.bH Tryz.func294 rfl (by rw [Tryz.ntmps294];simp) (fun lv=>eG lv _ _ _) ?_;rintro⟨_,_,w0,F0,W0,_,bq,β0⟩ rfl rfl rfl;refine aac fun K hK=>?_;refine aad rfl ?_;simp;apply hK;clear hK K;refine aac fun K hK=>?_;refine aay mixed (by kernel_rfl) rfl ?_;simp;refine ai.p 2 9 bb ?_;simp [w1,w2];refine ai.p 2 9 tw ?_;simp [ak];refine⟨by kernel_rfl,?_⟩;apply hK;clear hK K;exact aag (bM.ref (k:=1) rfl (by simp) (by simp [ak]) rfl)
theorem Ba (m:Int)(e p:Int)(hf:fk e p=0):aj Tryz.prog (GG m) 339 [fA e p] (cT (aN 1 (1 - bw e))):=by
 obtain⟨h1,h2,h3,h4,_⟩:=iH hf;obtain⟨b1,b2⟩:=oR hf;have bb:=rV (GG m) e p h1 h2;generalize bw e=b at *
 have w1:=bK (n:=1 - b) (by omega) (by omega);have tw:=mK m (1 - b) (by omega) (by omega);refine aj.bH Tryz.func339 rfl (by rw [Tryz.ntmps339];simp) (fun lv=>eG lv _ _ _) ?_;rintro⟨_,_,w0,F0,W0,_,bq,β0⟩ rfl rfl rfl;refine aac fun K hK=>?_;refine aad rfl ?_;simp;apply hK;clear hK K;refine aac fun K hK=>?_;refine aad rfl ?_;simp;refine ai.p 2 9 bb ?_;simp [w1];refine ai.p 2 9 tw ?_;simp [ak];apply hK;clear hK K;exact aag (bM.ref (k:=1) rfl (by simp) (by simp [ak]) rfl)
theorem xy (m:Int)(e p:Int)(hf:fk e p=0):aj Tryz.prog (GG m) 291 [fA e p] (cT (en p (bw e))):=by
 obtain⟨h1,h2,h3,h4,_⟩:=iH hf;obtain⟨b1,b2⟩:=oR hf;have bb:=rV (GG m) e p h1 h2;have tw:=mK m p (by omega) (by omega);have i1:=yB m;have sb:=GL (GG m) (aN 1 p) 1 (bQ (iD (iJ 1 (by decide)) p) (by omega)) (iJ _ (by decide));have sg:=oF p (by omega) (by omega);have sh:=wv (GG m) (aN 1 p - 1) (bw e - p+1) (bQ sg (by decide)) (by omega) (by omega);have hgr:aN (aN 1 p - 1) (bw e - p+1)=en p (bw e):=rfl;rw [hgr] at sh;generalize en p (bw e)=g at *
 generalize aN 1 p - 1=g1 at *
 generalize aN 1 p=g2 at *
 generalize bw e=b at *
 have w1:=bK (n:=b - p) (by omega) (by omega);have w2:=bK (n:=b - p+1) (by omega) (by omega);refine aj.bH Tryz.func291 rfl (by rw [Tryz.ntmps291];simp) (fun lv=>eG lv _ _ _) ?_;rintro⟨_,_,w0,F0,W0,_,bq,β0⟩ rfl rfl rfl;refine aac fun K hK=>?_;refine aad rfl ?_;simp;apply hK;clear hK K;refine aac fun K hK=>?_;refine aad rfl ?_;simp;refine ai.p 2 9 tw ?_;simp;refine ai.p 2 9 i1 ?_;simp;refine ai.p 2 9 sb ?_;simp [ak];apply hK;clear hK K;refine aac fun K hK=>?_;refine aay mixed (by kernel_rfl) rfl ?_;simp;refine ai.p 3 9 bb ?_;simp [w1,w2];refine ai.p 3 9 sh ?_;simp [ak];refine⟨by kernel_rfl,?_⟩;apply hK;clear hK K;exact aag (bM.ref (k:=1) rfl (by simp) (by simp [ak]) rfl)
theorem Dc (m:Int)(e p:Int)(hf:fk e p=0)(x:Rat)(hx:iN x 300):aj Tryz.prog (GG m) 293 [fA e p,cT x] (.c (.d (.bool (decide (gG (fY x) (aN 1 (1 - bw e))<0))))):=by
 obtain⟨b1,b2⟩:=oR hf;have ab:=u7 (GG m) x;have nm:=Ba m e p hf;have cm:=pU (GG m) (fY x) (aN 1 (1 - bw e)) (uh (bQ hx (by decide))) (bQ (iD (iJ 1 (by decide)) _) (by omega));generalize aN 1 (1 - bw e)=g at *
 refine aj.aH Tryz.func293 rfl (by rw [Tryz.ntmps293];simp) ?_;rintro⟨_,_,w0,F0,W0,_,bq,β0⟩ rfl rfl rfl;refine aac fun K hK=>?_;refine aad rfl ?_;simp;apply hK;clear hK K;refine aac fun K hK=>?_;refine aay mixed (by kernel_rfl) rfl ?_;simp;refine ai.p 2 9 ab ?_;simp;refine ai.p 2 9 nm ?_;simp;refine ai.p 2 9 cm ?_;simp;refine⟨by kernel_rfl,?_⟩;apply hK;clear hK K;exact aag (κ:=0) (au.t (κ:=0) (t:=4) rfl 9 (by simp))
theorem A8 (m:Int)(e p:Int)(hf:fk e p=0)(x:Rat)(hx:iN x 300):aj Tryz.prog (GG m) 244 [fA e p,cT x] (.c (.d (.bool (decide (0<gG (fY x) (en p (bw e))))))):=by
 obtain⟨h1,h2,h3,h4,_⟩:=iH hf;obtain⟨b1,b2⟩:=oR hf;have ab:=u7 (GG m) x;have nm:=xy m e p hf;have cm:=pU (GG m) (fY x) (en p (bw e)) (uh (bQ hx (by decide))) (bQ (yA p (bw e) (by omega) (by omega) (by omega) (by omega)) (by omega));generalize en p (bw e)=g at *
 refine aj.aH Tryz.func244 rfl (by rw [Tryz.ntmps244];simp) ?_;rintro⟨_,_,w0,F0,W0,_,bq,β0⟩ rfl rfl rfl;refine aac fun K hK=>?_;refine aad rfl ?_;simp;apply hK;clear hK K;refine aac fun K hK=>?_;refine aay mixed (by kernel_rfl) rfl ?_;simp;refine ai.p 2 9 ab ?_;simp;refine ai.p 2 9 nm ?_;simp;refine ai.p 2 9 cm ?_;simp;refine⟨by kernel_rfl,?_⟩;apply hK;clear hK K;exact aag (κ:=0) (au.t (κ:=0) (t:=4) rfl 9 (by simp))
def iZ (e p:Int)(x:Rat):Int:=if gG (fY x) (aN 1 (1 - bw e))<0 then 2 - bw e - p else ff x - p+1
theorem Az {x:Rat}(h:x.num=0) (k:Int):gG (fY x) (aN 1 k)<0:=by
 rw [oG];have:x.num.natAbs=0:=by omega
 rw [this,Nat.zero_mul];exact Nat.mul_pos x.den_pos (Nat.pow_pos (by decide))
theorem Fv {e p:Int}{x:Rat}(hf:fk e p=0) (hx:iN x 300):-15000≤iZ e p x∧iZ e p x≤15000:=by
 obtain⟨h1,h2,h3,h4,_⟩:=iH hf;obtain⟨b1,b2⟩:=oR hf;unfold iZ;split
 ·omega
 ·rename_i h
  have hx0:x≠0:=fun e=>h (Az (Rat.num_eq_zero.2 e) _)
  have:=vG hx0 hx;omega
theorem Gf (m:Int)(e p:Int)(hf:fk e p=0)(x:Rat)(hx:iN x 300):aj Tryz.prog (GG m) 246 [fA e p,cT x] (cT (aN 1 (iZ e p x))):=by
 obtain⟨h1,h2,h3,h4,_⟩:=iH hf;obtain⟨b1,b2⟩:=oR hf;have bl:=Dc m e p hf x hx;have ls:=De m e p hf
 by_cases hb:gG (fY x) (aN 1 (1 - bw e))<0
 ·have hs:iZ e p x=2 - bw e - p:=if_pos hb;rw [hs];generalize aN 1 (2 - bw e - p)=g at *
  refine aj.bH Tryz.func246 rfl (by rw [Tryz.ntmps246];simp) (fun lv=>eG lv _ _ _) ?_;rintro⟨_,_,w0,F0,W0,_,bq,β0⟩ rfl rfl rfl;refine aac fun K hK=>?_;refine aad rfl ?_;simp;apply hK;clear hK K;refine aac fun K hK=>?_;refine aac fun K1 hK1=>?_;refine aad rfl ?_;simp;refine ai.p 3 9 bl ?_;simp [hb];apply hK1;clear hK1 K1;refine aaq ?_;refine aac fun K1 hK1=>?_;refine aad rfl ?_;simp;refine ai.p 3 9 ls ?_;simp [ak];apply hK1;clear hK1 K1;exact aag (bM.ref (k:=2) rfl (by simp) (by simp [ak]) rfl)
 ·have hs:iZ e p x=ff x - p+1:=if_neg hb;have hx0:x.num≠0:=fun h=>hb (Az h _)
  have hl:=vG (fun e=>hx0 (Rat.num_eq_zero.2 e)) hx;have lg:=GI m x hx0 hx;have tw:=mK m (ff x - p+1) (by omega) (by omega);have w1:=bK (n:=ff x - p) (by omega) (by omega);have w2:=bK (n:=ff x - p+1) (by omega) (by omega);rw [hs];generalize aN 1 (ff x - p+1)=g at *
  generalize ff x=l at *
  refine aj.bH Tryz.func246 rfl (by rw [Tryz.ntmps246];simp) (fun lv=>eG lv _ _ _) ?_;rintro⟨_,_,w0,F0,W0,_,bq,β0⟩ rfl rfl rfl;refine aac fun K hK=>?_;refine aad rfl ?_;simp;apply hK;clear hK K;refine aac fun K hK=>?_;refine aac fun K1 hK1=>?_;refine aad rfl ?_;simp;refine ai.p 3 9 bl ?_;simp [hb];apply hK1;clear hK1 K1;refine aat ?_;refine aah ?_;simp;apply hK;clear hK K;refine aac fun K hK=>?_;refine aay mixed (by kernel_rfl) rfl ?_;simp;refine ai.p 3 9 lg ?_;simp [w1,w2];refine ai.p 3 9 tw ?_;simp [ak];refine⟨by kernel_rfl,?_⟩;apply hK;clear hK K;exact aag (bM.ref (k:=2) rfl (by simp) (by simp [ak]) rfl)
theorem KZ (x:Rat)(k:Int):mkRat (dg (decide (x.num<0)) (x.num.natAbs*(aN 1 k).den)) (x.den*(aN 1 k).num.natAbs)=aN x (-k):=by
 obtain⟨b1,b2⟩:=zY k;have e2:(((2 ^ (max k 0).toNat:Nat)):Int).natAbs=2 ^ (max k 0).toNat:=Int.natAbs_natCast _;rw [b1,b2,e2]
 by_cases hk:-k<0
 ·rw [gz hk,show (max (-k) 0).toNat=0 by omega,show (max k 0).toNat=(- -k).toNat by omega,Nat.pow_zero,Nat.mul_one]
 ·rw [gx hk,show (max (-k) 0).toNat=(-k).toNat by omega,show (max k 0).toNat=0 by omega,Nat.pow_zero,Nat.mul_one]
theorem FH (G:List (List DV))(x:Rat)(k:Int)(hx:iN x 300)(h1:-15000≤k)(h2:k≤15000):aj Tryz.prog G 245 [cT x,cT (aN 1 k)] (cT (aN x (-k))):=by
 have q:=Ih G x (aN 1 k) (bQ hx (by decide)) (bQ (iD (iJ 1 (by decide)) k) (by omega)) (by rw [(zY k).1];exact Int.natCast_pos.2 (Nat.pow_pos (by decide)));rw [KZ] at q;generalize aN 1 k=y at *
 generalize aN x (-k)=z at *
 refine aj.bH Tryz.func245 rfl (by rw [Tryz.ntmps245];simp) (fun lv=>eG lv _ _ _) ?_;rintro⟨_,_,w0,F0,W0,_,bq,β0⟩ rfl rfl rfl;refine aac fun K hK=>?_;refine aad rfl ?_;simp;apply hK;clear hK K;refine aac fun K hK=>?_;refine aad rfl ?_;simp;refine ai.p 3 9 q ?_;simp [ak];apply hK;clear hK K;refine aac fun K hK=>?_;refine aad rfl ?_;simp [ak];apply hK;clear hK K;exact aag (bM.ref (k:=2) rfl (by simp) (by simp [ak]) rfl)
end Go.Am

namespace Go.Am
open Go.Am.Ty Go.Proofs N
def DI (n d:Nat)(k:Int):Prop:=n*2 ^ (max (-k) 0).toNat<d*2 ^ (max k 0).toNat
theorem IV {n d:Nat}{k:Int}(h:DI n d k):DI n d (k+1):=by
 unfold DI at *
 by_cases hk:0≤k
 ·obtain⟨j,hj⟩:∃ j:Nat,k=j:=⟨k.toNat,by omega⟩
  subst hj;rw [show (max (-(j:Int)) 0).toNat=0 by omega,show (max (j:Int) 0).toNat=j by omega] at h;rw [show (max (-((j:Int)+1)) 0).toNat=0 by omega,show (max ((j:Int)+1) 0).toNat=j+1 by omega,Nat.pow_succ,← Nat.mul_assoc];have:=Nat.le_mul_of_pos_right (d*2 ^ j) (by decide:0<2);omega
 ·obtain⟨j,hj⟩:∃ j:Nat,k = -((j:Int)+1):=⟨(-k - 1).toNat,by omega⟩
  subst hj;rw [show (max (-(-((j:Int)+1))) 0).toNat=j+1 by omega,show (max (-((j:Int)+1)) 0).toNat=0 by omega,Nat.pow_succ,← Nat.mul_assoc] at h;rw [show (max (-(-((j:Int)+1)+1)) 0).toNat=j by omega,show (max (-((j:Int)+1)+1) 0).toNat=0 by omega];have:=Nat.le_mul_of_pos_right (n*2 ^ j) (by decide:0<2);omega
theorem Ef {n d:Nat}{k:Int}(h:DI n d k):∀ j:Nat,DI n d (k+j)
 | 0=>by simpa using h
 | j+1=>by
  have:=IV (Ef h j)
  rwa [show k+((j+1:Nat):Int)=k+(j:Int)+1 by omega]
theorem qx {n d:Nat}{k l:Int}(h:DI n d k) (hl:k≤l):DI n d l:=by
 have:=Ef h (l - k).toNat
 rwa [show k+((l - k).toNat:Int)=l by omega] at this
theorem LD {n d:Nat}(hd:d≠0):DI n d ((bf n:Int) - bf d+1):=by
 have h1:=qz n;have h2:=jd hd;have h3:1≤bf d:=by unfold bf;rw [if_neg hd];omega
 unfold DI;generalize bf n=a at *
 generalize bf d=b at *
 by_cases hk:b≤a+1
 ·rw [show (max (-((a:Int) - b+1)) 0).toNat=0 by omega,show (max ((a:Int) - b+1) 0).toNat=a+1 - b by omega,Nat.pow_zero,Nat.mul_one];have h4:2 ^ (b - 1)*2 ^ (a+1 - b)≤d*2 ^ (a+1 - b):=Nat.mul_le_mul_right _ h2;rw [← Nat.pow_add,show b - 1+(a+1 - b)=a by omega] at h4;omega
 ·rw [show (max (-((a:Int) - b+1)) 0).toNat=b - a - 1 by omega,show (max ((a:Int) - b+1) 0).toNat=0 by omega,Nat.pow_zero,Nat.mul_one];have h4:n*2 ^ (b - a - 1)<2 ^ a*2 ^ (b - a - 1):=Nat.mul_lt_mul_of_pos_right h1 (Nat.pow_pos (by decide));rw [← Nat.pow_add,show a+(b - a - 1)=b - 1 by omega] at h4;omega
theorem KV {n d:Nat}(hn:n≠0):¬ DI n d ((bf n:Int) - bf d - 1):=by
 have h1:=qz d;have h2:=jd hn;have h3:1≤bf n:=by unfold bf;rw [if_neg hn];omega
 unfold DI;generalize bf n=a at *
 generalize bf d=b at *
 rw [Nat.not_lt]
 by_cases hk:b+1≤a
 ·rw [show (max (-((a:Int) - b - 1)) 0).toNat=0 by omega,show (max ((a:Int) - b - 1) 0).toNat=a - b - 1 by omega,Nat.pow_zero,Nat.mul_one];have h4:d*2 ^ (a - b - 1)≤2 ^ b*2 ^ (a - b - 1):=Nat.mul_le_mul_right _ (Nat.le_of_lt h1);rw [← Nat.pow_add,show b+(a - b - 1)=a - 1 by omega] at h4;omega
 ·rw [show (max (-((a:Int) - b - 1)) 0).toNat=b+1 - a by omega,show (max ((a:Int) - b - 1) 0).toNat=0 by omega,Nat.pow_zero,Nat.mul_one];have h4:2 ^ (a - 1)*2 ^ (b+1 - a)≤n*2 ^ (b+1 - a):=Nat.mul_le_mul_right _ h2;rw [← Nat.pow_add,show a - 1+(b+1 - a)=b by omega] at h4;omega
theorem JM {x:Rat}(hx:x.num≠0) (k:Int):gG (fY x) (aN 1 k)<0↔ff x<k:=by
 rw [oG];show DI x.num.natAbs x.den k↔_;have ht:=LD (n:=x.num.natAbs) x.den_nz;have hb:=KV (n:=x.num.natAbs) (d:=x.den) (by omega)
 have hl:(DI x.num.natAbs x.den ((bf x.num.natAbs:Int) - bf x.den)∧ff x=(bf x.num.natAbs:Int) - bf x.den - 1)∨(¬ DI x.num.natAbs x.den ((bf x.num.natAbs:Int) - bf x.den)∧ff x=(bf x.num.natAbs:Int) - bf x.den):=by
  unfold ff
  by_cases h:DI x.num.natAbs x.den ((bf x.num.natAbs:Int) - bf x.den)
  ·exact .inl ⟨h,if_pos h⟩
  ·exact .inr ⟨h,if_neg h⟩
 generalize (bf x.num.natAbs:Int) - bf x.den=q at *
 rcases hl with ⟨h1,h2⟩|⟨h1,h2⟩ <;> rw [h2]
 ·constructor
  ·intro h;apply Classical.byContradiction;intro hn;exact hb (qx h (by omega))
  ·intro h;exact qx h1 (by omega)
 ·constructor
  ·intro h;apply Classical.byContradiction;intro hn;exact h1 (qx h (by omega))
  ·intro h;exact qx ht (by omega)
theorem FI {x:Rat}(h:0≤x.num) (k:Int):0≤(aN x k).num:=by
 have hd:decide (x.num<0)=false:=decide_eq_false (by omega)
 by_cases hk:k<0
 ·rw [gz hk,hd,(gN false (ox x _)).1];exact Int.natCast_nonneg _
 ·rw [gx hk,hd,(gN false x.den_nz).1];exact Int.natCast_nonneg _
theorem It (p b:Int)(hp:0≤p):0≤(en p b).num:=by
 refine FI ?_ _;rw [Rat.num_nonneg,Rat.sub_eq_add_neg]
 have h1:¬ aN 1 p<1:=by
  rw [DK];obtain⟨b1,b2⟩:=zY p;rw [b1,b2];have e2:(((2 ^ (max p 0).toNat:Nat)):Int).natAbs=2 ^ (max p 0).toNat:=Int.natAbs_natCast _;have e4:decide ((((2 ^ (max p 0).toNat:Nat)):Int)<0)=false:=decide_eq_false (Int.not_lt.2 (Int.natCast_nonneg _));rw [e2,e4,show (max (-p) 0).toNat=0 by omega];show ¬ ((2 ^ (max p 0).toNat*1:Nat):Int)<((1*2 ^ 0:Nat):Int)
  have:=Nat.pow_pos (a:=2) (n:=(max p 0).toNat) (by decide);omega
 have h2:(1:Rat)≤aN 1 p:=Rat.not_lt.1 h1;have h3:=Rat.add_le_add_right (c:=-1) |>.2 h2
 rwa [Rat.add_neg_cancel] at h3
theorem has_eq {e p:Int}(hf:fk e p=0) (x:Rat):hasB e p x=(decide (¬ 0<gG (fY x) (en p (bw e))) && decide ((aN x (-(iZ e p x))).den=1)):=by
 obtain⟨h1,h2,h3,h4,_⟩:=iH hf;unfold hasB;rw [decide_eq_true hf,Bool.true_and]
 by_cases hx:x=0
 ·subst hx
  have e1:aN 0 (-(iZ e p 0))=0:=by
   by_cases hk:-(iZ e p 0)<0
   ·rw [gz hk];exact Rat.zero_mkRat _
   ·rw [gx hk,show (0:Rat).num.natAbs*2 ^ (-(iZ e p 0)).toNat=0 from Nat.zero_mul _];exact Rat.zero_mkRat _
  have e2:¬ 0<gG (fY 0) (en p (bw e)):=by
   have hg:=It p (bw e) (by omega);have:fY 0=0:=by unfold fY;rw [if_neg (by decide)]
   rw [this];intro h;unfold gG at h;have h5:¬ en p (bw e)<0:=Rat.not_lt.2 (Rat.num_nonneg.1 hg);rw [if_neg h5] at h;split at h <;> omega
  rw [e1,decide_eq_true (by rfl:(0:Rat)=0),decide_eq_true e2];rfl
 ·have hx0:x.num≠0:=fun h=>hx (Rat.num_eq_zero.1 h)
  have hs:iZ e p x=iM p (bw e) (ff x):=by
   unfold iZ iM;have:=JM hx0 (1 - bw e)
   by_cases hb:gG (fY x) (aN 1 (1 - bw e))<0
   ·rw [if_pos hb];have:=this.1 hb;omega
   ·rw [if_neg hb];have h6:¬ ff x<1 - bw e:=fun h=>hb (this.2 h);omega
  rw [decide_eq_false hx,Bool.false_or,hs,Bool.and_comm];congr 1;exact decide_eq_decide.2 (by omega)
theorem BV (m:Int)(e p:Int)(x:Rat)(hx:iN x 300):aj Tryz.prog (GG m) 168 [fA e p,cT x] (.c (.d (.bool (hasB e p x)))):=by
 have ck:=sY (GG m) e p
 by_cases hf:fk e p=0
 rotate_left
 ·have hh:hasB e p x=false:=by unfold hasB;rw [decide_eq_false hf];rfl
  rw [hh];refine aj.aH Tryz.func168 rfl (by rw [Tryz.ntmps168];simp) ?_;rintro⟨_,_,w0,F0,W0,_,bq,β0⟩ rfl rfl rfl;refine aac fun K hK=>?_;refine aad rfl ?_;simp;apply hK;clear hK K;refine aac fun K hK=>?_;refine aay mixed (by kernel_rfl) rfl ?_;simp;refine ai.p 2 9 ck ?_;simp [hf];refine⟨by kernel_rfl,?_⟩;apply hK;clear hK K;exact aag (κ:=0) (au.t (κ:=0) (t:=4) rfl 9 (by simp))
 have by':=A8 m e p hf x hx;have st:=Gf m e p hf x hx;have sr:=Fv hf hx;have ov:=FH (GG m) x (iZ e p x) hx (by omega) (by omega);have ii:=vh (GG m) (aN x (-(iZ e p x)));rw [has_eq hf];generalize aN 1 (iZ e p x)=y at *
 generalize aN x (-(iZ e p x))=z at *
 generalize gG (fY x) (en p (bw e))=c at *
 by_cases hc:0<c
 ·refine aj.aH Tryz.func168 rfl (by rw [Tryz.ntmps168];simp) ?_;rintro⟨_,_,w0,F0,W0,_,bq,β0⟩ rfl rfl rfl;refine aac fun K hK=>?_;refine aad rfl ?_;simp;apply hK;clear hK K;refine aac fun K hK=>?_;refine aay mixed (by kernel_rfl) rfl ?_;simp;refine ai.p 2 9 ck ?_;simp [hf];refine ai.p 2 9 by' ?_;simp [hc];refine⟨by kernel_rfl,?_⟩;apply hK;clear hK K;exact aag (κ:=0) (au.t (κ:=0) (t:=4) rfl 9 (by simp [hc]))
 ·refine aj.aH Tryz.func168 rfl (by rw [Tryz.ntmps168];simp) ?_;rintro⟨_,_,w0,F0,W0,_,bq,β0⟩ rfl rfl rfl;refine aac fun K hK=>?_;refine aad rfl ?_;simp;apply hK;clear hK K;refine aac fun K hK=>?_;refine aay mixed (by kernel_rfl) rfl ?_;simp;refine ai.p 2 9 ck ?_;simp [hf];refine ai.p 2 9 by' ?_;simp [hc];refine ai.p 2 9 st ?_;simp;refine ai.p 2 9 ov ?_;simp;refine ai.p 2 9 ii ?_;simp;refine⟨by kernel_rfl,?_⟩;apply hK;clear hK K;exact aag (κ:=0) (au.t (κ:=0) (t:=4) rfl 9 (by simp [hc]))
end Go.Am
