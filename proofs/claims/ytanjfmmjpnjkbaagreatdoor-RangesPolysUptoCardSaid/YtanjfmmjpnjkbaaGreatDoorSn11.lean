/- Helpers: an abstract machine for Go functions, and walks of functions of the program. -/
import Derived.Test.YtanjfmmjpnjkbaaGreatDoorSn10

set_option linter.all false
set_option maxHeartbeats 8000000
set_option maxRecDepth 100000
namespace Go.Am
open Go.Proofs N
variable {x:AV}{us:List AV}{o:Option (List Nat)}{m:Int}{g:FuncId}
def unD:List (List DV)->Option (List Nat)
 |[]=>some []
 |e::l=>match e with
  |[.int .u32 (.ofNat n)]=>(unD l).map (n::·)
  |_=>none
theorem NJ:∀{es:List (List DV)}{l:List Nat},unD es=some l->es=dK .u32 l
 |[],l,h=>by cases h;rfl
 |e::es,l,h=>by
  unfold unD at h;split at h
  ·obtain⟨m,hm,rfl⟩:=Option.map_eq_some_iff.1 h;rw[NJ hm];rfl
  ·cases h
def ZL:AV->Option (Option (List Nat))
 |.c (.d .nilsl)=>some none
 |.c (.d (.sl es))=>(unD es).map some
 |_=>none
theorem Iy(h:ZL x=some o):x=nK .u32 o:=by
 unfold ZL at h;split at h
 ·cases h;rfl
 ·obtain⟨m,hm,rfl⟩:=Option.map_eq_some_iff.1 h;rw[NJ hm];rfl
 ·cases h
def Rz:List Nat->Bool
 |[]=>true
 |d::l=>Nat.blt d 4294967296&&(match l with|[]=>Nat.blt 0 d|_=>true)&&Rz l
theorem Jx:∀{l:List Nat},Rz l=true->can 4294967296 l
 |[],_=>⟨λd h=>by(cases h),λx h=>by(cases h)⟩
 |d::l,h=>by
  simp only[Rz,rP]at h;obtain⟨⟨h1,h2⟩,h3⟩:=h;obtain⟨g1,g2⟩:=Jx h3;refine⟨bD.2 ⟨ad1 h1,g1⟩,λx hx=>?_⟩
  cases l with
  |nil=>
   have:d=x:=by simpa using hx
   have h2':0<d:=ad1 h2;omega
  |cons e l=>exact g2 x (by simpa using hx)
def nOK(o:Option (List Nat)):Bool:=Rz (dO o)&&Nat.ble (dO o).length 1000000
theorem WZ(h:nOK o=true):can 4294967296 (dO o)/\(dO o).length<=1000000:=by
 simp only[nOK,rP]at h;exact⟨Jx h.1,ad1 h.2⟩
def EP(x:AV):Option (Option (List Nat)):=(ZL x).bind λo=>bif nOK o then some o else none
theorem nI(h:EP x=some o):x=nK .u32 o/\can 4294967296 (dO o)/\(dO o).length<=1000000:=by
 obtain⟨o',h1,h2⟩:=Option.bind_eq_some_iff.1 h
 cases hb:nOK o' with
 |false=>rw[hb]at h2;cases h2
 |true=>
  rw[hb]at h2;simp only[cond_true,ah]at h2;subst h2;exact⟨Iy h1,WZ hb⟩
def Vu(f:Option (List Nat)->Option (List Nat)->Option AV):List AV->Option AV
 |[x,y]=>(EP x).bind λa=>(EP y).bind λb=>f a b
 |_=>none
def sp1(f:Option (List Nat)->Option AV):List AV->Option AV
 |[x]=>(EP x).bind λa=>f a
 |_=>none
theorem yU{f:Option (List Nat)->Option (List Nat)->Option AV}(hf:∀a b x,can 4294967296 (dO a)->can 4294967296 (dO b)->(dO a).length<=1000000->(dO b).length<=1000000->f a b=some x->aa Tryz.prog (GG m) g [nK .u32 a,nK .u32 b] x/\x.pure=true)(h:Vu f us=some x)(lv:Key->LB):aW Tryz.prog (GG m) g us lv (.ret x lv):=by
 unfold Vu at h;split at h
 ·obtain⟨a,ha,g1⟩:=Option.bind_eq_some_iff.1 h;obtain⟨b,hb,g2⟩:=Option.bind_eq_some_iff.1 g1;obtain⟨rfl,a1,a2⟩:=nI ha;obtain⟨rfl,b1,b2⟩:=nI hb;obtain⟨h1,h2⟩:=hf a b x a1 b1 a2 b2 g2;exact aW.cU (λu hu=>by simp only[aY,cy,or_false]at hu;rcases hu with rfl|rfl<;>exact kG _ _) h2 h1
 ·cases h
theorem Ng{f:Option (List Nat)->Option AV}(hf:∀a x,can 4294967296 (dO a)->(dO a).length<=1000000->f a=some x->aa Tryz.prog (GG m) g [nK .u32 a] x/\x.pure=true)(h:sp1 f us=some x)(lv:Key->LB):aW Tryz.prog (GG m) g us lv (.ret x lv):=by
 unfold sp1 at h;split at h
 ·obtain⟨a,ha,g1⟩:=Option.bind_eq_some_iff.1 h;obtain⟨rfl,a1,a2⟩:=nI ha;obtain⟨h1,h2⟩:=hf a x a1 a2 g1;exact aW.cU (λu hu=>by simp only[aY,cy,or_false]at hu;rcases hu with rfl;exact kG _ _) h2 h1
 ·cases h
def Xd:=Vu λa b=>some (nK .u32 (some (aG 4294967296 (val 4294967296 (dO a)*val 4294967296 (dO b)))))
def Wi:=Vu λa b=>some (nK .u32 (some (aG 4294967296 (val 4294967296 (dO a)+val 4294967296 (dO b)))))
def Wb:=Vu λa b=>bif Nat.ble (val 4294967296 (dO b)) (val 4294967296 (dO a))then some (nK .u32 (some (aG 4294967296 (val 4294967296 (dO a)-val 4294967296 (dO b)))))else none
def Xh:=Vu λa b=>some (.c (.d (.int .i64 (eC (val 4294967296 (dO a)) (val 4294967296 (dO b))))))
def WQ:=sp1 λa=>some (.c (.d (.bool (Nat.beq (val 4294967296 (dO a)) 1))))
theorem TE(m:Int)(h:Xd us=some x)(lv:Key->LB):aW Tryz.prog (GG m) 36 us lv (.ret x lv):=
 yU (λa b x _ _ h1 h2 h=>by cases h;exact⟨cB _ a b (by omega) (by omega),kG _ _⟩) h lv
theorem R4(m:Int)(h:Wi us=some x)(lv:Key->LB):aW Tryz.prog (GG m) 39 us lv (.ret x lv):=
 yU (λa b x _ _ h1 h2 h=>by cases h;exact⟨kI _ a b (by omega) (by omega),kG _ _⟩) h lv
theorem S0(m:Int)(h:Wb us=some x)(lv:Key->LB):aW Tryz.prog (GG m) 41 us lv (.ret x lv):=
 yU (λa b x _ _ h1 h2 h=>by
  cases hb:Nat.ble (val 4294967296 (dO b)) (val 4294967296 (dO a))with
  |false=>rw[hb]at h;cases h
  |true=>
   rw[hb]at h;cases h;exact⟨nN _ a b (by omega) (ad1 hb),kG _ _⟩) h lv
theorem TR(m:Int)(h:Xh us=some x)(lv:Key->LB):aW Tryz.prog (GG m) 40 us lv (.ret x lv):=
 yU (λa b x h3 h4 h1 h2 h=>by cases h;exact⟨fT h3 h4,rfl⟩) h lv
theorem S7(m:Int)(h:WQ us=some x)(lv:Key->LB):aW Tryz.prog (GG m) 79 us lv (.ret x lv):=
 Ng (λa x h3 h1 h=>by
  cases h
  have:=jw (GG m) a h3;rw[show decide (val 4294967296 (dO a)=1)=Nat.beq (val 4294967296 (dO a)) 1 by cases e:Nat.beq (val 4294967296 (dO a)) 1 with|true=>simp[ae8 e]|false=>simp[Nat.ne_of_beq_eq_false e]]at this;exact⟨this,rfl⟩) h lv
def I5:List AV->Option AV
 |[.c (.d (.bool neg)),x,y]=>(EP x).bind λp=>(EP y).bind λq=>bif Nat.blt 0 (val 4294967296 (dO q))then some (bC (mkRat (dh neg (val 4294967296 (dO p))) (val 4294967296 (dO q))))else none
 |_=>none
theorem OX(m:Int)(h:I5 us=some x)(lv:Key->LB):aW Tryz.prog (GG m) 38 us lv (.ret x lv):=by
 unfold I5 at h;split at h
 ·rename_i neg x' y'
  obtain⟨p,hp,g1⟩:=Option.bind_eq_some_iff.1 h;obtain⟨q,hq,g2⟩:=Option.bind_eq_some_iff.1 g1;clear h g1;obtain⟨rfl,a1,a2⟩:=nI hp;obtain⟨rfl,b1,b2⟩:=nI hq
  cases hb:Nat.blt 0 (val 4294967296 (dO q))with
  |false=>rw[hb]at g2;cases g2
  |true=>
   rw[hb]at g2;cases g2;have hv:0<val 4294967296 (dO q):=ad1 hb;have hq0:dO q≠[]:=λe=>by rw[e]at hv;exact absurd hv (by decide)
   have:=pM (GG m) neg p q a1 b1 hq0 (by omega) (by omega);rw[gy,gy]
   exact aW.cU (λu hu=>by
    simp only[aY,cy,or_false]at hu;rcases hu with rfl|rfl|rfl<;>simp) (by simp) this
 ·cases h
def T6:List AV->Option AV
 |[x,.c (.d (.int .i64 (.ofNat k)))]=>(EP x).bind λa=>bif Nat.ble k 1000000 then some (if dO a=[]then nK .u32 none else nK .u32 (some (aG 4294967296 (val 4294967296 (dO a)*2^k))))else none
 |_=>none
theorem Te(m:Int)(h:T6 us=some x)(lv:Key->LB):aW Tryz.prog (GG m) 83 us lv (.ret x lv):=by
 unfold T6 at h;split at h
 ·rename_i x' k
  obtain⟨a,ha,g1⟩:=Option.bind_eq_some_iff.1 h;clear h;obtain⟨rfl,a1,a2⟩:=nI ha
  cases hb:Nat.ble k 1000000 with
  |false=>rw[hb]at g1;cases g1
  |true=>
   rw[hb]at g1;cases g1;have hk:=ad1 hb
   exact aW.cU (λu hu=>by
    simp only[aY,cy,or_false]at hu;rcases hu with rfl|rfl
    ·exact kG _ _
    ·rfl) (by split<;>exact kG _ _) (fO (GG m) a k (by omega) (by omega))
 ·cases h
def Oe:=sp1 λa=>some (.c (.d (.int .i64 (bF (val 4294967296 (dO a))))))
theorem Qv(m:Int)(h:Oe us=some x)(lv:Key->LB):aW Tryz.prog (GG m) 245 us lv (.ret x lv):=
 Ng (λa x h3 h1 h=>by cases h;exact⟨mH (GG m) a h3 (by omega),rfl⟩) h lv
def Xg:=Vu λa b=>bif Nat.blt 0 (val 4294967296 (dO b))then some (.tup [nK .u32 (sE a b),nK .u32 (kL a b)])else none
theorem Tt(m:Int)(h:Xg us=some x)(lv:Key->LB):aW Tryz.prog (GG m) 82 us lv (.ret x lv):=
 yU (λa b x h3 h4 h1 h2 h=>by
  cases hb:Nat.blt 0 (val 4294967296 (dO b))with
  |false=>rw[hb]at h;cases h
  |true=>
   rw[hb]at h;cases h;have hv:0<val 4294967296 (dO b):=ad1 hb;exact⟨jv _ a b h3 h4 (λe=>by rw[e]at hv;exact absurd hv (by decide)) (by omega),mX _ _⟩) h lv
def gOf:List AV->Option AV
 |[.c (.d (.int .u64 (.ofNat n)))]=>bif Nat.blt n 18446744073709551616 then some (nK .u32 (some (aG 4294967296 n)))else none
 |_=>none
theorem Vv(m:Int)(h:gOf us=some x)(lv:Key->LB):aW Tryz.prog (GG m) 78 us lv (.ret x lv):=by
 unfold gOf at h;split at h
 ·rename_i n
  cases hb:Nat.blt n 18446744073709551616 with
  |false=>rw[hb]at h;cases h
  |true=>
   rw[hb]at h;cases h
   exact aW.cU (λu hu=>by
    simp only[aY,cy,or_false]at hu;rcases hu with rfl;rfl) (kG _ _) (dX (GG m) n (ad1 hb))
 ·cases h
def CO:List AV->Option AV
 |[x,.c (.d (.int .u32 (.ofNat b)))]=>(EP x).bind λa=>bif Nat.blt 0 b then some (.tup [nK .u32 (some (aG 4294967296 (val 4294967296 (dO a)/b))),.c (.d (.int .u32 ((val 4294967296 (dO a)%b:Nat):Int)))])else none
 |_=>none
theorem LQ(m:Int)(h:CO us=some x)(lv:Key->LB):aW Tryz.prog (GG m) 84 us lv (.ret x lv):=by
 unfold CO at h;split at h
 ·rename_i x' b
  obtain⟨a,ha,g1⟩:=Option.bind_eq_some_iff.1 h;clear h;obtain⟨rfl,a1,a2⟩:=nI ha
  cases hb:Nat.blt 0 b with
  |false=>rw[hb]at g1;cases g1
  |true=>
   rw[hb]at g1;cases g1;have hb':0<b:=ad1 hb
   exact aW.cU (λu hu=>by
    simp only[aY,cy,or_false]at hu;rcases hu with rfl|rfl
    ·exact kG _ _
    ·rfl) rfl (lG (GG m) a b (by omega) (by omega))
 ·cases h
end Go.Am
namespace Go.Am
open Go.Proofs
variable {β:Type}
noncomputable def Da(d:DV)(k:DV->β):β:=
 DV.casesOn (motive_1:=λ_=>β) d (λb=>vp b λb=>k (.bool b)) (λq n=>yt n λn=>k (.int q n)) (λs=>jP qx s λs=>k (.str s)) (k .nilp) (λcs=>k (.ptr cs)) (k .nilsl)
  (λes=>jP (jP CM) es λes=>k (.sl es)) (λcs=>k (.agg cs)) (k .nilIface) (λt v=>k (.iface t v)) (k .nilFunc) (λf a b=>k (.func f a b)) (k .nilmap)
theorem Hl(d:DV)(k:DV->β):Da d k=k d:=by
 cases d<;>simp only[Da]<;>first|exact tj _ _|exact vR _ _|exact eH _ uf _ _|exact eH _ (eH _ BD) _ _|rfl
noncomputable def qw(x:CV)(k:CV->β):β:=
 CV.casesOn (motive:=λ_=>β) x (λd=>Da d λd=>k (.d d)) (λa b=>k (.ptr a b)) (λa b c d=>k (.aH a b c d)) (λa=>k (.mapr a)) (λf a b=>k (.func f a b)) (λt r=>k (.ifc t r)) (k .junk) (λa b c d=>k (.lsf a b c d))
theorem n9(x:CV)(k:CV->β):qw x k=k x:=by cases x<;>simp only[qw,Hl]
noncomputable def zF(x:AV)(k:AV->β):β:=
 AV.casesOn (motive_1:=λ_=>β) x (λc=>qw c λc=>k (.c c)) (λl=>jP qw l λl=>k (.agg l)) (λl=>k (.tup l)) (k .undef) (k .junk)
theorem FZ(x:AV)(k:AV->β):zF x k=k x:=by cases x<;>simp only[zF,n9,eH _ n9]
noncomputable def C5(x:AV)(k:AV->β):β:=
 AV.casesOn (motive_1:=λ_=>β) x (λc=>qw c λc=>k (.c c)) (λl=>jP qw l λl=>k (.agg l)) (λl=>jP zF l λl=>k (.tup l)) (k .undef) (k .junk)
theorem H6(x:AV)(k:AV->β):C5 x k=k x:=by cases x<;>simp only[C5,n9,eH _ n9,eH _ FZ]
noncomputable def gF(g:List AV->Option AV)(us:List AV):Option AV:=Option.rec (motive:=λ_=>Option AV) none (λx=>C5 x some) (g us)
theorem Zh(g:List AV->Option AV)(us:List AV):gF g us=g us:=by
 unfold gF;cases g us with
 |none=>rfl
 |some x=>exact H6 _ _
theorem mK.f{P:Program}{G:List (List DV)}{sp:Tb Spec}{ft:TypeId}(h:mK P G sp ft)(f0:Nat)(g0:List AV->Option AV)(hg:∀{us x},g0 us=some x->∀lv,aW P G f0 us lv (.ret x lv)):mK P G (fU f0 (.pure (gF g0)) sp) ft:=
 h.more f0 (gF g0) λus x hx lv _=>hg (by rw[Zh]at hx;exact hx) lv
noncomputable def spW:Tb Spec:=fU 36 (.pure (gF Xd)) (fU 39 (.pure (gF Wi)) (fU 41 (.pure (gF Wb)) (fU 40 (.pure (gF Xh)) (fU 79 (.pure (gF WQ)) (fU 38 (.pure (gF I5)) (fU 83 (.pure (gF T6)) (fU 245 (.pure (gF Oe)) (fU 82 (.pure (gF Xg)) (fU 78 (.pure (gF gOf)) (fU 84 (.pure (gF CO)) (fU 77 (.pure (gF AO)) ZO)))))))))))
theorem WK(m:Int):mK Tryz.prog (GG m) spW 0:=
 ((((((((((((N5 m).f 77 AO (FW m)).f 84 CO (LQ m)).f 78 gOf (Vv m)).f 82 Xg (Tt m)).f 245 Oe (Qv m)).f 83 T6 (Te m)).f 38 I5 (OX m)).f 79 WQ (S7 m)).f 40 Xh (TR m)).f 41 Wb (S0 m)).f 39 Wi (R4 m)).f 36 Xd (TE m)
end Go.Am
namespace Go.Am
open Go.Proofs N
variable {x:Rat}{v:AV}{a:Iv}{L:Nat}{us:List AV}
def TN:List Nat->List Nat->Bool
 |[],[]=>true
 |a::l,b::m=>Nat.beq a b&&TN l m
 |_,_=>false
theorem J4:∀{l m:List Nat},TN l m=true->l=m
 |[],[],_=>rfl
 |a::l,b::m,h=>by
  simp only[TN,rP]at h;rw[ae8 h.1,J4 h.2]
 |[],_::_,h=>by cases h
 |_::_,[],h=>by cases h
def eqO:Option (List Nat)->Option (List Nat)->Bool
 |none,none=>true
 |some l,some m=>TN l m
 |_,_=>false
theorem P9{o p:Option (List Nat)}(h:eqO o p=true):o=p:=by
 cases o<;>cases p<;>first|rfl|cases h|exact congrArg some (J4 h)
def Yd(a b:Bool):Bool:=match a with|true=>b|false=>!b
theorem TS{a b:Bool}(h:Yd a b=true):a=b:=by cases a<;>cases b<;>first|rfl|cases h
def rdQ(neg:Bool)(po qo:Option (List Nat)):Rat:=mkRat (dh neg (val 4294967296 (dO po))) (match qo with|none=>1|some l=>val 4294967296 l)
def okQ(neg:Bool)(po qo:Option (List Nat))(x:Rat):Bool:=Yd neg (decide (x.num<0))&&(eqO po (aL x.num.natAbs)&&(eqO qo (bw x.den)&&(Nat.ble (dO po).length 1000&&Nat.ble (dO qo).length 1000)))
def unQ(a p q:CV):Option Rat:=match a with
 |.d (.bool neg)=>(ZL (.c p)).bind λpo=>(ZL (.c q)).bind λqo=>bif okQ neg po qo (rdQ neg po qo)then some (rdQ neg po qo)else none
 |_=>none
theorem HS{a p q:CV}(h:unQ a p q=some x):a=.d (.bool (decide (x.num<0)))/\p=nC (aL x.num.natAbs)/\q=nC (bw x.den)/\br x 1000:=by
 unfold unQ at h;split at h
 ·rename_i neg
  obtain⟨po,h1,k1⟩:=Option.bind_eq_some_iff.1 h;obtain⟨qo,h2,k2⟩:=Option.bind_eq_some_iff.1 k1;have e1:=Iy h1;have e2:=Iy h2;rw[gy]at e1 e2
  cases hb:okQ neg po qo (rdQ neg po qo)with
  |false=>rw[hb]at k2;cases k2
  |true=>
   rw[hb]at k2;simp only[cond_true,ah]at k2;rw[k2]at hb;simp only[okQ,rP]at hb;obtain⟨b1,b2,b3,b4,b5⟩:=hb;have c1:=TS b1;have c2:=P9 b2;have c3:=P9 b3;have d4:=ad1 b4;have d5:=ad1 b5;injection e1 with e1
   injection e2 with e2
   refine⟨by rw[c1],by rw[e1,c2],by rw[e2,c3],?_,?_⟩
   ·rw[c2,dJ]at d4;exact d4
   ·rw[c3]at d5;unfold bw at d5;split at d5
    ·rename_i hd;rw[hd,eK];decide
    ·exact d5
 ·cases h
def VF:AV->Option Rat
 |.agg [a,p,q]=>unQ a p q
 |_=>none
theorem zj(h:VF v=some x):v=bC x/\br x 1000:=by
 unfold VF at h;split at h
 ·obtain⟨rfl,rfl,rfl,hs⟩:=HS h;exact⟨rfl,hs⟩
 ·cases h
def leQ(x y:Rat):Bool:=decide (x<=y)
def VB:AV->Option Iv
 |.agg [a,p,q,a',p',q']=>(unQ a p q).bind λx=>(unQ a' p' q').bind λy=>bif leQ x y then some (x,y)else none
 |_=>none
theorem CD(h:VB v=some a):v=jC a/\a.sz 1000/\a.1<=a.2:=by
 unfold VB at h;split at h
 ·obtain⟨x,h1,k1⟩:=Option.bind_eq_some_iff.1 h;obtain⟨y,h2,k2⟩:=Option.bind_eq_some_iff.1 k1;obtain⟨rfl,rfl,rfl,hs⟩:=HS h1;obtain⟨rfl,rfl,rfl,hs'⟩:=HS h2
  cases hb:leQ x y with
  |false=>rw[hb]at k2;cases k2
  |true=>rw[hb]at k2;cases k2;exact⟨rfl,⟨hs,hs'⟩,of_decide_eq_true hb⟩
 ·cases h
theorem dD(x:Rat):(bC x).pure=true:=Nw _ _ _
theorem jo(a:Iv):(jC a).pure=true:=S5 _ _ _ _ _ _
def q1(f:Rat->Option AV):List AV->Option AV
 |[x]=>(VF x).bind f
 |_=>none
def q2(f:Rat->Rat->Option AV):List AV->Option AV
 |[x,y]=>(VF x).bind λa=>(VF y).bind λb=>f a b
 |_=>none
def qi(f:Rat->Int->Option AV):List AV->Option AV
 |[x,.c (.d (.int .i64 n))]=>(VF x).bind λa=>f a n
 |_=>none
def v1(f:Iv->Option AV):List AV->Option AV
 |[x]=>(VB x).bind f
 |_=>none
def v2(f:Iv->Iv->Option AV):List AV->Option AV
 |[x,y]=>(VB x).bind λa=>(VB y).bind λb=>f a b
 |_=>none
def vi(f:Iv->Int->Option AV):List AV->Option AV
 |[x,.c (.d (.int .i64 n))]=>(VB x).bind λa=>f a n
 |_=>none
def vq(f:Iv->Rat->Option AV):List AV->Option AV
 |[x,y]=>(VB x).bind λa=>(VF y).bind λb=>f a b
 |_=>none
section
variable {m:Int}{g:FuncId}{us:List AV}{x:AV}
theorem Ud{f:Rat->Option AV}(hf:∀a x,br a 1000->f a=some x->aa Tryz.prog (GG m) g [bC a] x/\x.pure=true)(h:q1 f us=some x)(lv:Key->LB):aW Tryz.prog (GG m) g us lv (.ret x lv):=by
 unfold q1 at h;split at h
 ·obtain⟨a,ha,k1⟩:=Option.bind_eq_some_iff.1 h;obtain⟨rfl,sa⟩:=zj ha;obtain⟨h1,h2⟩:=hf a x sa k1;exact aW.cU (λu hu=>by simp only[aY,cy,or_false]at hu;subst hu;exact dD a) h2 h1
 ·cases h
theorem ye{f:Rat->Rat->Option AV}(hf:∀a b x,br a 1000->br b 1000->f a b=some x->aa Tryz.prog (GG m) g [bC a,bC b] x/\x.pure=true)(h:q2 f us=some x)(lv:Key->LB):aW Tryz.prog (GG m) g us lv (.ret x lv):=by
 unfold q2 at h;split at h
 ·obtain⟨a,ha,k1⟩:=Option.bind_eq_some_iff.1 h;obtain⟨b,hb,k2⟩:=Option.bind_eq_some_iff.1 k1;obtain⟨rfl,sa⟩:=zj ha;obtain⟨rfl,sb⟩:=zj hb;obtain⟨h1,h2⟩:=hf a b x sa sb k2;exact aW.cU (λu hu=>by simp only[aY,cy,or_false]at hu;rcases hu with rfl|rfl;exact dD a;exact dD b) h2 h1
 ·cases h
theorem Ui{f:Rat->Int->Option AV}(hf:∀a n x,br a 1000->f a n=some x->aa Tryz.prog (GG m) g [bC a,.c (.d (.int .i64 n))] x/\x.pure=true)(h:qi f us=some x)(lv:Key->LB):aW Tryz.prog (GG m) g us lv (.ret x lv):=by
 unfold qi at h;split at h
 ·rename_i n
  obtain⟨a,ha,k1⟩:=Option.bind_eq_some_iff.1 h;obtain⟨rfl,sa⟩:=zj ha;obtain⟨h1,h2⟩:=hf a n x sa k1;exact aW.cU (λu hu=>by simp only[aY,cy,or_false]at hu;rcases hu with rfl|rfl;exact dD a;rfl) h2 h1
 ·cases h
theorem Kq{f:Iv->Iv->Option AV}(hf:∀a b x,a.sz 1000->b.sz 1000->a.1<=a.2->b.1<=b.2->f a b=some x->aa Tryz.prog (GG m) g [jC a,jC b] x/\x.pure=true)(h:v2 f us=some x)(lv:Key->LB):aW Tryz.prog (GG m) g us lv (.ret x lv):=by
 unfold v2 at h;split at h
 ·obtain⟨a,ha,k1⟩:=Option.bind_eq_some_iff.1 h;obtain⟨b,hb,k2⟩:=Option.bind_eq_some_iff.1 k1;obtain⟨rfl,sa,la⟩:=CD ha;obtain⟨rfl,sb,lb⟩:=CD hb;obtain⟨h1,h2⟩:=hf a b x sa sb la lb k2;exact aW.cU (λu hu=>by simp only[aY,cy,or_false]at hu;rcases hu with rfl|rfl;exact jo a;exact jo b) h2 h1
 ·cases h
theorem YO{f:Iv->Int->Option AV}(hf:∀a n x,a.sz 1000->a.1<=a.2->f a n=some x->aa Tryz.prog (GG m) g [jC a,.c (.d (.int .i64 n))] x/\x.pure=true)(h:vi f us=some x)(lv:Key->LB):aW Tryz.prog (GG m) g us lv (.ret x lv):=by
 unfold vi at h;split at h
 ·rename_i n
  obtain⟨a,ha,k1⟩:=Option.bind_eq_some_iff.1 h;obtain⟨rfl,sa,la⟩:=CD ha;obtain⟨h1,h2⟩:=hf a n x sa la k1;exact aW.cU (λu hu=>by simp only[aY,cy,or_false]at hu;rcases hu with rfl|rfl;exact jo a;rfl) h2 h1
 ·cases h
theorem Zv{f:Iv->Rat->Option AV}(hf:∀a b x,a.sz 1000->br b 1000->a.1<=a.2->f a b=some x->aa Tryz.prog (GG m) g [jC a,bC b] x/\x.pure=true)(h:vq f us=some x)(lv:Key->LB):aW Tryz.prog (GG m) g us lv (.ret x lv):=by
 unfold vq at h;split at h
 ·obtain⟨a,ha,k1⟩:=Option.bind_eq_some_iff.1 h;obtain⟨b,hb,k2⟩:=Option.bind_eq_some_iff.1 k1;obtain⟨rfl,sa,la⟩:=CD ha;obtain⟨rfl,sb⟩:=zj hb;obtain⟨h1,h2⟩:=hf a b x sa sb la k2;exact aW.cU (λu hu=>by simp only[aY,cy,or_false]at hu;rcases hu with rfl|rfl;exact jo a;exact dD b) h2 h1
 ·cases h
end
theorem Ei(h:br x 1000)(hL:1000<=L:=by decide):br x L:=au h hL
theorem Q7(h:a.sz 1000)(hL:1000<=L:=by decide):a.sz L:=Iv.TP h hL
abbrev iA(n:Int):AV:=.c (.d (.int .i64 n))
theorem Bg(x:Rat)(n:Int):(AV.tup [bC x,iA n]).pure=true:=B5 _ _ _ _
noncomputable def Yk:Tb Spec:=
 fU 10 (.pure (gF (q2 λa b=>some (bC (a+b))))) <|
 fU 149 (.pure (gF (q2 λa b=>some (bC (a-b))))) <|
 fU 50 (.pure (gF (q2 λa b=>some (bC (a*b))))) <|
 fU 27 (.pure (gF (q2 λa b=>some (iA (eN a b))))) <|
 fU 25 (.pure (gF (q2 λa b=>some (bC (iJ a b))))) <|
 fU 24 (.pure (gF (q2 λa b=>some (bC (jz a b))))) <|
 fU 93 (.pure (gF (q2 λa b=>some (.tup [bC (a/b),iA (if b=0 then 8 else 0)])))) <|
 fU 124 (.pure (gF (q1 λa=>some (bC (-a))))) <|
 fU 162 (.pure (gF (q1 λa=>some (bC (EH a))))) <|
 fU 163 (.pure (gF (qi λa n=>some (bC (zG a n))))) <|
 fU 164 (.pure (gF (qi λa n=>some (bC (U6 a n))))) <|
 fU 123 (.pure (gF (v2 λa b=>some (jC (a.add b))))) <|
 fU 204 (.pure (gF (v2 λa b=>some (jC (a.sub b))))) <|
 fU 202 (.pure (gF (v2 λa b=>some (jC (a.mul b))))) <|
 fU 276 (.pure (gF (v2 λa b=>some (jC (a.join b))))) <|
 fU 125 (.pure (gF (vi λa n=>some (jC (zG a.1 n,U6 a.2 n))))) <|
 fU 26 (.pure (gF (vq λa b=>some (.c (.d (.bool (decide (a.has b)))))))) spW
theorem PC(m:Int):mK Tryz.prog (GG m) Yk 0:=
 (((((((((((((((((WK m).f _ _ (Zv λa b x sa sb la h=>by cases h;exact⟨Wt _ a b (Q7 sa) (Ei sb),rfl⟩)).f _ _ (YO λa n x sa la h=>by cases h;exact⟨VZ _ a n (Q7 sa),jo _⟩)).f _ _
  (Kq λa b x sa sb la lb h=>by cases h;exact⟨Rm _ a b (Q7 sa) (Q7 sb),jo _⟩)).f _ _
  (Kq λa b x sa sb la lb h=>by cases h;exact⟨VW _ a b (Q7 sa) (Q7 sb) la lb,jo _⟩)).f _ _
  (Kq λa b x sa sb la lb h=>by cases h;exact⟨Vs _ a b (Q7 sa) (Q7 sb),jo _⟩)).f _ _
  (Kq λa b x sa sb la lb h=>by cases h;exact⟨WG _ a b (Q7 sa) (Q7 sb),jo _⟩)).f _ _
  (Ui λa n x sa h=>by cases h;exact⟨Qm _ a n (Ei sa),dD _⟩)).f _ _
  (Ui λa n x sa h=>by cases h;exact⟨EC _ a n (Ei sa),dD _⟩)).f _ _
  (Ud λa x sa h=>by cases h;exact⟨VE _ a,dD _⟩)).f _ _
  (Ud λa x sa h=>by cases h;exact⟨xN _ a,dD _⟩)).f _ _
  (ye λa b x sa sb h=>by cases h;exact⟨Km _ a b (Ei sa) (Ei sb),Bg _ _⟩)).f _ _
  (ye λa b x sa sb h=>by cases h;exact⟨I2 _ a b (Ei sa) (Ei sb),dD _⟩)).f _ _
  (ye λa b x sa sb h=>by cases h;exact⟨Kh _ a b (Ei sa) (Ei sb),dD _⟩)).f _ _
  (ye λa b x sa sb h=>by cases h;exact⟨mo _ a b (Ei sa) (Ei sb),rfl⟩)).f _ _
  (ye λa b x sa sb h=>by cases h;exact⟨iE _ a b (Ei sa) (Ei sb),dD _⟩)).f _ _
  (ye λa b x sa sb h=>by cases h;exact⟨xO _ a b (Ei sa) (Ei sb),dD _⟩)).f _ _
  (ye λa b x sa sb h=>by cases h;exact⟨lU _ a b (Ei sa) (Ei sb),dD _⟩)
theorem BX(m:Int)(n:Nat):kg Tryz.prog (GG m) (RD Tryz.prog (GG m) Yk 0 n):=CG mixed (PC m) n
abbrev txA(k:Nat):AV:=.c (.d (.sl [[.int .u32 (.ofNat k)]]))
theorem O4(m:Int)(k:Nat)(h1:1<=k)(h2:k<=9):aa Tryz.prog (GG m) 45 [txA k] (.c (.d (.str [UInt8.ofNat (48+k)]))):=by
 have h:k=1\/k=2\/k=3\/k=4\/k=5\/k=6\/k=7\/k=8\/k=9:=by omega
 rcases h with rfl|rfl|rfl|rfl|rfl|rfl|rfl|rfl|rfl<;>exact aa.gM (BX m 40) (by kernel_rfl)
theorem M5(m:Int):aa Tryz.prog (GG m) 45 [.c (.d .nilsl)] (.c (.d (.str [48]))):=aa.gM (BX m 40) (by kernel_rfl)
def OZ:List AV->Option AV
 |[.c (.d .nilsl)]=>some (.c (.d (.str [48])))
 |[.c (.d (.sl [[.int .u32 (.ofNat k)]]))]=>bif Nat.ble 1 k&&Nat.ble k 9 then some (.c (.d (.str [UInt8.ofNat (48+k)])))else none
 |_=>none
theorem M0(m:Int){x:AV}(h:OZ us=some x)(lv:Key->LB):aW Tryz.prog (GG m) 45 us lv (.ret x lv):=by
 unfold OZ at h;split at h
 ·cases h
  exact aW.cU (λu hu=>by simp only[aY,cy,or_false]at hu;subst hu;rfl) rfl (M5 m)
 ·rename_i k
  cases hb:Nat.ble 1 k&&Nat.ble k 9 with
  |false=>rw[hb]at h;cases h
  |true=>
   rw[hb]at h;cases h;simp only[rP]at hb;exact aW.cU (λu hu=>by simp only[aY,cy,or_false]at hu;subst hu;rfl) rfl (O4 m k (ad1 hb.1) (ad1 hb.2))
 ·cases h
def Vf:List AV->Option AV
 |[.c (.d (.str s))]=>some (.tup [bC (cT s),iA (cM s)])
 |_=>none
theorem SG(m:Int){x:AV}(h:Vf us=some x)(lv:Key->LB):aW Tryz.prog (GG m) 34 us lv (.ret x lv):=by
 unfold Vf at h;split at h
 ·rename_i s
  cases h
  exact aW.cU (λu hu=>by simp only[aY,cy,or_false]at hu;subst hu;rfl) (Bg _ _) (kO m s)
 ·cases h
noncomputable def spY:Tb Spec:=fU 45 (.pure (gF OZ)) (fU 34 (.pure (gF Vf)) Yk)
theorem Ve(m:Int)(n:Nat):kg Tryz.prog (GG m) (RD Tryz.prog (GG m) spY 0 n):=CG mixed (((PC m).f _ _ (SG m)).f _ _ (M0 m)) n
end Go.Am
