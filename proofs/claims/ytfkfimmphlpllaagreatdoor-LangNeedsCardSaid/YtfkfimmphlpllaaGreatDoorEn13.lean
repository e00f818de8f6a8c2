/- Helpers: an abstract machine for Go functions, and walks of functions of the program. -/
import Derived.Test.YtfkfimmphlpllaaGreatDoorEn12

set_option linter.all false
set_option maxHeartbeats 8000000
set_option maxRecDepth 100000
namespace Go.Am
open Go.Am.Ty Go.Proofs N
variable {lv:Key→LB}{c:Ctx}{p:PD}{M S:List Bool}{own fz own' fz':Bool}{T T':TypeId}{fr:Nat→AV}{fn:Func}{x:AV}{t u:Nat}{s:aB}
theorem Hl (m:Int)(p:PD)(hp:p.ok):aa Tryz.prog (GG m) 51 [p.A] (.c (.d (.int .i64 (fJ p).2.2))):=by
 have h:=Bk m p hp;generalize fJ p=v at *
 refine aa.en Tryz.func51 rfl fun _=>aab ?_;refine aas 1 h ?_;refine aab ?_;exact aae (aq.rt rfl 2 (by simp))
def Vd (p:PD)(n:Int):Int × Int:=if (fJ p).2.2≠0 then (0,(fJ p).2.2) else if 0≤n∧n<p.nn then (kj p n,0) else (0,7)
abbrev Vc (v:Int × Int):AV:=.tup [.c (.d (.int .i64 v.1)),.c (.d (.int .i64 v.2))]
abbrev Qq (p:PD)(M S:List Bool):Key→LB:=aG (aG (aG (fun _=>.hole) 0 (.cells true false 27 p.cs)) 1 (.cells true false 4 (bK M))) 2 (.cells true false 4 (bK S))
abbrev nM (p:PD)(M S:List Bool):List (Key × Key × LB):=[(0,0,.cells true false 27 p.cs),(1,1,.cells true false 4 (bK M)),(2,2,.cells true false 4 (bK S))]
theorem Pm(hc:c.kB=fun _=>.hole) (l:List (Nat × AV)) (h0:lv 0=.cells true false 27 p.cs) (h1:lv 1=.cells true false 4 (bK M)) (h2:lv 2=.cells true false 4 (bK S)) (h9:lv 9=.hole)
 (hl:∀ x∈l,x.2.bV=true∧fr x.1=x.2.b6 (cK (nM p M S) 9)):Le c ⟨fr,lv⟩ ⟨bh l,Qq p M S⟩:=by
 refine Le.keys (nM p M S) 9 l rfl hc (by simp) (by simp) h9 ?_ hl;intro e he;simp only [List.mem_cons,List.not_mem_nil,or_false] at he;rcases he with rfl|rfl|rfl
 ·show (lv 0).like _ _;rw [h0];exact Bz 27 p _
 ·show (lv 1).like _ _;rw [h1];exact zw _ _
 ·show (lv 2).like _ _;rw [h2];exact zw _ _
theorem M1{n:Nd}(hc:c.kB=fun _=>.hole) (l:List (Nat × AV)) (h0:lv 0=.cells true false 27 p.cs) (h1:lv 1=.cells true false 4 (bK M)) (h2:lv 2=.cells true false 4 (bK S)) (h3:lv 10=bN n) (h9:lv 9=.hole)
 (hl:∀ x∈l,x.2.bV=true∧fr x.1=x.2.b6 (cK (nM p M S++[(10,10,bN n)]) 9)):Le c ⟨fr,lv⟩ ⟨bh l,aG (Qq p M S) 10 (bN n)⟩:=by
 refine Le.keys (nM p M S++[(10,10,bN n)]) 9 l rfl hc (by simp) (by simp) h9 ?_ hl;intro e he;simp only [List.cons_append,List.nil_append,List.mem_cons,List.not_mem_nil,or_false] at he;rcases he with rfl|rfl|rfl|rfl
 ·show (lv 0).like _ _;rw [h0];exact Bz 27 p _
 ·show (lv 1).like _ _;rw [h1];exact zw _ _
 ·show (lv 2).like _ _;rw [h2];exact zw _ _
 ·show (lv 10).like _ _;rw [h3];exact DA n _
theorem nZ.ug{X Y:AV}{κ:Nat}{ks:List Key}(hr:fn.results=#[.tmp t,.tmp u]) (hx:s.fr t=X) (hy:s.fr u=Y) (hn:X.cq=true) (hm:Y.cq=true) (hd:fP s.lv (.tup [X,Y])=some (x,ks)):nZ c fn x .ret s κ:=
 ⟨.tup [X,Y],ks,by rw [hr];simp [dF,kn,mZ,hx,hy,hn,hm],hd⟩
theorem Mi(hM:M.length≤1000) (hS:S.length≤1000)(h1:lv 1=.cells own fz T (bK M)) (h2:lv 2=.cells own' fz' T' (bK S)) :
 fP lv (.tup [.c (.aV 1 0 M.length 1),.c (.aV 2 0 S.length 1)])=some (.tup [.c (bC (some M)),.c (bC (some S))],[1,2]):=by
 simp [fP,jt,FZ h1 hM,FZ h2 hS]
theorem IZ (l:List Bool)(a b:List Nat):kX l (a++b)=kX (kX l a) b:=by unfold kX;rw [List.foldl_append]
theorem G3 (l:List Bool)(ks:List Nat)(k:Nat):kX l (ks++[k])=(kX l ks).set k true:=by unfold kX;rw [List.foldl_append];rfl
theorem EI (m:Int)(p:PD)(hp:p.ok)(hg:p.good):aa Tryz.prog (GG m) 52 [p.A] (.tup [.c (bC (some (wD p).1)),.c (bC (some (wD p).2))]):=by
 obtain⟨hn1,hn2,hn3,-,-,hnn,hns⟩:=ij hg.gen;obtain⟨hr0,hr1,-⟩:=hg.res;have hv:=uz hg;have hrep:∀ n,kA n [CV.d (.bool false)]=bK (List.replicate n false):=fun n=>by rw [AE];simp [kA]
 have hrep':∀ n,List.replicate n (CV.d (.bool false))=bK (List.replicate n false):=fun n=>(AE n).symm
 have hst1:=pR (List.replicate p.nn false) p.res.toNat true (by simpa using hv.res);have hw1:=bM (n:=(p.ns:Int)+2) (by omega) (by omega);have hw2:=bM (n:=(p.nn:Int) - 1) (by omega) (by omega);have hro:=wA hv;refine aa.ed Tryz.func52 rfl fun _=>aab ?_;refine AW.d4 mixed @gW @uq hrep hrep' ?_;refine aaC hr0 hr1 hst1 ?_;refine aaa fun K hK=>aab ?_;refine aaf ?_
 refine aao (fun (r:Nat)=>⟨bh [(1,.c (.ptr 0 0)),(4,.c (.aV 1 0 p.nn 1)),(5,.c (.aV 2 0 p.ns 1)),(6,.c (.d (.int .i64 r)))],Qq p (gR p r (j6 p)).1 (gR p r (j6 p)).2⟩) 10
  (fun r=>r≤p.ns+2) (fun r=>p.ns+2 - r) 0 (Pm rfl _ (by simp) (by simp [gR,j6]) (by simp [gR,j6]) (by simp) (by simp [cK])) (Nat.zero_le _) ?_
 rintro r hr
 try simp only at hr
 have hlr:=(hro r).1.len;obtain⟨S0,hS0⟩:∃ S0,gR p r (j6 p)=S0:=⟨_,rfl⟩
 have hS1:gR p (r+1) (j6 p)=je p p.nn S0:=by rw [← hS0];rfl
 rw [hS0] at hlr;simp only [hS0];refine aaa fun K3 hK3=>aaq @uq hw1 ?_
 by_cases hlt:r<p.ns+2
 ·have hlt':(r:Int)<(p.ns:Int)+2:=by omega
  have f12:=bM (n:=(r:Int)+1) (by omega) (by omega);refine aah (by simp [hlt'] <;> omega) (aac (hK3 _ _ (aaa fun K5 hK5=>aaf (aaq @gW hw2 ?_))));refine aaf ?_
  refine aao (fun (a:Nat × NS)=>⟨bh [(1,.c (.ptr 0 0)),(4,.c (.aV 1 0 p.nn 1)),(5,.c (.aV 2 0 p.ns 1)),(6,.c (.d (.int .i64 r))),(7,.c (.d (.int .i64 ((a.1:Int) - 1))))],Qq p a.2.1 a.2.2⟩) 10
   (fun a=>a.1≤p.nn∧jn p a.2∧je p a.1 a.2=je p p.nn S0) (fun a=>a.1) (p.nn,S0) (Pm rfl _ (by simp) (by simp) (by simp) (by simp) (by simp [cK])) ⟨Nat.le_refl _,hlr,rfl⟩ ?_
  rintro⟨j,M,S⟩ ⟨hj,hl,hsw⟩;simp only at hj hl hsw;have hM:M.length=p.nn:=hl.1;have hS:S.length=p.ns:=hl.2;refine aaa fun K7 hK7=>aab ?_
  cases j with
  | zero=>
   refine aak (aam (hK5 _ _ (aad ?_)));simp [f12];have hsw':(M,S)=je p p.nn S0:=hsw;refine⟨r+1,?_,by omega,by omega⟩;rw [hS1,← hsw'];exact Pm rfl _ (by simp) (by simp) (by simp) (by simp) (by simp [cK])
  | succ i=>
   have hi:i<p.nn:=by omega
   have hi0:((i+1:Nat):Int) - 1=(i:Int):=by omega
   have hi1:0≤(i:Int):=by omega
   have hi2:(i:Int)<(p.nn:Int):=by omega
   have hiM:i<M.length:=by omega
   have hld:=Ay (P:=Tryz.prog) (T:=4) (by simp) hiM;have f13:=bM (n:=(i:Int) - 1) (by omega) (by omega);have hstp:je p (i+1) (M,S)=je p i (fq p i (M,S)):=rfl;have hgd:=CL hiM;rw [hstp] at hsw;rw [hi0];refine aah (by simp [hi1] <;> omega) (aac (hK7 _ _ (aaa fun K9 hK9=>aaf (aaa fun K10 hK10=>aaC hi1 hi2 hld ?_))))
   cases hb:M[i] with
   | false=>
    have e:fq p i (M,S)=(M,S):=if_neg (by rw [hgd,hb];decide);rw [e] at hsw;refine aah (by simp [hb] <;> omega) (aam (hK9 _ _ (aad ?_)));simp [f13];exact⟨i,M,S,Pm rfl _ (by simp) (by simp) (by simp) (by simp) (by simp [cK]),⟨by omega,hl,hsw⟩,by omega⟩
   | true=>
    have e:fq p i (M,S)=CC p i (M,S):=if_pos (by rw [hgd,hb]);have hl2:=(uW hv hi hl (show M.getD i false=true by rw [hgd,hb])).1.len;rw [e] at hsw;obtain⟨-,ha,hkr⟩:=AN hg hi;have hxn:=fun lv=>HU p lv hp i hi
    obtain⟨T,hT⟩:∃ T,CC p i (M,S)=T:=⟨_,rfl⟩
    rw [hT] at hsw hl2;have hTd:T=(kX M (Fl p i),if (p.nd i).op=2 then S.set (p.nd i).a.toNat true else S):=by rw [← hT];rfl
    unfold Fl at hTd;obtain⟨n,hn⟩:∃ n,p.nd i=n:=⟨_,rfl⟩
    rw [hn] at ha hkr hTd;simp only [hn] at hxn;have hkd:=y6 (GG m) n;have hkp:(AV.c (zC (zN (aZ n)))).pure=true:=Aj _;have hkf:(AV.c (zC (zN (aZ n)))).bV=true:=vK _;have hkn:∀ g,(zC (zN (aZ n))).b6 g=zC (zN (aZ n)):=fun g=>J6 _ g
    have lpk:=fun lv=>P9 (T:=30) (by simp) lv (zN (aZ n))
    have ixk:∀ lv (q:Nat) (hq:q<(aZ n).length),ak Tryz.prog 30 lv (.c (zC (zN (aZ n)))) (.c (.d (.int .i64 (q:Int))))=some (.c (.d (.ptr [.int .i64 (aZ n)[q]])),[],[],True):=by
     intro lv q hq;have:=Sq (T:=30) (by simp) lv (zN (aZ n)) (i:=q) (by rw [ye];exact hq);simp only [ye] at this;exact this
    rw [ye] at lpk;have hkl:=lH n;generalize zC (zN (aZ n))=kz at *
    generalize aZ n=kl at *
    refine aag (by simp [hb] <;> omega) (aac (hK10 _ _ ?_));refine aax 10 ?_;refine aaq hxn @aj.eq_1 ?_;refine aai fun K12 hK12=>?_;simp;refine ag.pure 11 9 hkd hkp (by simp) (by first|rfl|simp) ?_;simp;apply hK12;clear hK12 K12;refine aaa fun K12 hK12=>aab ?_;refine aaf ?_
    refine aao (fun (q:Nat)=>⟨bh [(1,.c (.ptr 0 0)),(4,.c (.aV 1 0 p.nn 1)),(5,.c (.aV 2 0 p.ns 1)),(6,.c (.d (.int .i64 r))),(7,.c (.d (.int .i64 (i:Int)))),(8,.c (.ptr 10 0)),(9,.c kz),(10,.c (.d (.int .i64 q)))],aG (Qq p (kX M ((kl.map Int.toNat).take q)) S) 10 (bN n)⟩) 11
     (fun q=>q≤kl.length) (fun q=>kl.length - q) 0 (M1 rfl _ (by simp) (by simp [kX]) (by simp) (by simp) (by simp) (by simp [cK,hkf,hkn])) (Nat.zero_le _) ?_
    rintro q hq
    try simp only at hq
    have hlq:=vg ((kl.map Int.toNat).take q) M
    have hsn:∀ h:q<kl.length,kX M ((kl.map Int.toNat).take (q+1))=(kX M ((kl.map Int.toNat).take q)).set (kl[q]).toNat true:=fun h=>by
     rw [List.take_add_one,List.getElem?_eq_getElem (by simpa using h)];simp only [Option.toList_some,List.getElem_map];exact G3 ..
    obtain⟨Mq,hMq⟩:∃ Mq,kX M ((kl.map Int.toNat).take q)=Mq:=⟨_,rfl⟩
    rw [hMq] at hlq;simp only [hMq] at hsn ⊢;refine aaa fun K14 hK14=>aan lpk ?_
    by_cases hqt:q<kl.length
    ·have hqt':(q:Int)<(kl.length:Int):=by omega
     have hxk:=fun lv=>ixk lv q hqt
     have hk2:=hkr _ (List.getElem_mem hqt);have hsn:=hsn hqt;have f14:=bM (n:=(q:Int)+1) (by omega) (by omega);generalize kl[q]=x at *
     have hx0:0≤x:=hk2.1;have hx1:x<(p.nn:Int):=by omega
     have hbs:=pR Mq x.toNat true (by omega);refine aah (by simp [hqt'] <;> omega) (aac (hK14 _ _ (aaa fun K16 hK16=>aaf (aaB hxk hx0 hx1 hbs (hK16 _ _ ?_)))));refine aad ?_;simp [f14];refine⟨q+1,?_,by omega,by omega⟩;rw [hsn];exact M1 rfl _ (by simp) (by simp) (by simp) (by simp) (by simp) (by simp [cK,hkf,hkn])
    have hqt':¬ (q:Int)<(kl.length:Int):=by omega
    have hqe:q=kl.length:=by omega
    subst hqe;refine aag (by simp [hqt'] <;> omega) (aam ?_);simp;rw [List.take_of_length_le (by simp)] at hMq;rw [IZ,hMq] at hTd;apply hK12;refine aaa fun K12 hK12=>?_
    by_cases ho:n.op=2
    ·have ho':(n.op=2)=True:=eq_true ho;obtain⟨a0,a1⟩:=ha ho;have b1:n.a.toNat<p.ns:=by omega
     obtain⟨c1,c2,c3,c4⟩:=FU hg b1;have hia:(n.a.toNat:Int)=n.a:=by omega
     have hxs:=fun lv=>M9 hp lv n.a.toNat b1
     simp only [hia] at hxs;rw [if_pos ho,if_pos ho] at hTd;generalize p.st n.a.toNat=st at *
     obtain⟨si,sn⟩:=st;simp only at c1 c2 c3 c4 hTd;have ha2:n.a<(p.ns:Int):=a1;have hs1:=pR S n.a.toNat true (by omega);have hs2:=pR Mq si.toNat true (by omega);have hs3:=pR (Mq.set si.toNat true) sn.toNat true (by rw [List.length_set];omega);refine aat ho' (hK12 _ _ ?_);refine aaj (aaC a0 ha2 hs1 ?_);refine aaE hxs c1 c2 hs2 ?_;refine aaB hxs c3 c4 hs3 (hK9 _ _ ?_);refine aad ?_;simp [f13];refine⟨i,T.1,T.2,Pm rfl _ (by simp) (by simp [hTd,kX]) (by simp [hTd]) (by simp) (by simp [cK]),⟨by omega,hl2,hsw⟩,by omega⟩
    ·rw [if_neg ho,if_neg ho] at hTd;refine aat ho (hK12 _ _ ?_);refine aak (aac (hK9 _ _ (aad ?_)));simp [f13];refine⟨i,T.1,T.2,Pm rfl _ (by simp) (by simp [hTd,kX]) (by simp [hTd]) (by simp) (by simp [cK]),⟨by omega,hl2,hsw⟩,by omega⟩
 have hlt':¬ (r:Int)<(p.ns:Int)+2:=by omega
 have hre:r=p.ns+2:=by omega
 subst hre;have hS2:S0=wD p:=hS0.symm;rw [hS2] at hlr ⊢;generalize wD p=V at *
 refine aag (by simp [hlt'] <;> omega) (aam ?_);simp;apply hK;refine aaa fun K hK=>aaA (hK _ _ ?_)
 refine aae (nZ.ug rfl (X:=.c (.aV 1 0 V.1.length 1)) (Y:=.c (.aV 2 0 V.2.length 1)) (ks:=[1,2]) (by simp [hlr.1]) (by simp [hlr.2]) rfl rfl ?_);exact Mi (own:=true) (fz:=false) (T:=4) (own':=true) (fz':=false) (T':=4) (by rw [hlr.1];omega) (by rw [hlr.2];omega) (by simp) (by simp)
theorem FF{k:Key}{l:List Bool}{n:Nat}(h:lv k=.cells own fz T (bK l)) (hl:l.length≤1000):dx lv (n+1) (.aV k 0 l.length 1)=some (.sl (bD l),[k]):=by
 have h1:((bK l).drop 0).take (l.length*1)=(l.map fun x=>DV.bool x).map CV.d:=by rw [List.drop_zero,Nat.mul_one,D3];exact List.take_of_length_le (by simp)
 have h2:0+l.length*1≤(bK l).length∧l.length≤9223372036854775807:=⟨by simp,by omega⟩
 have h3:l.length=(l.map fun x=>DV.bool x).length:=by simp
 simp only [dx,h];rw [if_pos h2,h1,qY];simp only [Option.map_some];rw [h3,lO,List.map_map];rfl
theorem Ls (lv:Key→LB)(n:Nat)(o:Option (List (List DV))):dx lv n (hO o)=some (sD o,[]):=by cases o <;> cases n <;> rfl
theorem aq.t3{y z:AV}{v:Nat}(hr:fn.results=#[.tmp t,.tmp u,.tmp v]) (kh:Key) (hx:s.fr t=x:=by simp) (hy:s.fr u=y:=by simp) (hz:s.fr v=z:=by simp) (hp:x.pure=true:=by first|rfl|simp) (hq:y.pure=true:=by first|rfl|simp) (hw:z.pure=true:=by first|rfl|simp)
 (hh:s.lv kh=.hole:=by first|rfl|simp) (h1:x.cq=true:=by first|rfl|simp) (h2:y.cq=true:=by first|rfl|simp) (h3:z.cq=true:=by first|rfl|simp) (d1:t≠u:=by decide) (d2:t≠v:=by decide) (d3:u≠v:=by decide):aq c fn (.tup [x,y,z]) .ret s 0:=aq.m6 hr kh hx hy hz hp hq hw hh h1 h2 h3 d1 d2 d3
def RY (p:PD)(s:NS):List DV:=p.DP++[.sl (bD s.1),.sl (bD s.2)]
theorem U9 (a b c d e f g h x y:CV):gJ Tryz.prog 84 [0,1,2] [.agg [a,b,c,d,e,f,g,h],.c x,.c y]=some (.agg [a,b,c,d,e,f,g,h,x,y],[],[],True):=by kernel_rfl
theorem N3{s:NS}(h1:s.1.length≤1000) (h2:s.2.length≤1000) {own'' fz'':Bool}{T'':TypeId}(h3:lv 3=.cells own fz T (mC p 1 2 s.1.length s.2.length)) (g1:lv 1=.cells own' fz' T' (bK s.1)) (g2:lv 2=.cells own'' fz'' T'' (bK s.2)) :
 fP lv (.c (.ptr 3 0))=some (.c (.d (.ptr (RY p s))),[3,1,2]):=by
 have e1:=FF (n:=6) g1 h1;have e2:=FF (n:=6) g2 h2
 have e0:dx lv 8 (.ptr 3 0)=(fS (dx lv 7) (mC p 1 2 s.1.length s.2.length)).map fun q=>(.ptr q.1,3::q.2):=by
  simp only [dx,h3];rw [if_pos (Nat.zero_le _),List.drop_zero]
 have ed:∀ x:DV,dx lv 7 (.d x)=some (x,[]):=fun x=>rfl
 show (dx lv 8 (.ptr 3 0)).map _=_;rw [e0];simp [fS,Ls,e1,e2,ed,RY,PD.DP]
theorem Eu (m:Int)(p:PD)(hp:p.ok)(hg:p.good):aa Tryz.prog (GG m) 46 [p.A] (.c (.d (.ptr (RY p (qG p))))):=by
 obtain⟨hn1,hn2,hn3,-,-,hnn,hns⟩:=ij hg.gen;obtain⟨hr0,hr1,-⟩:=hg.res;have hv:=uz hg;have hrep:∀ n,kA n [CV.d (.bool false)]=bK (List.replicate n false):=fun n=>by rw [AE];simp [kA]
 have hrep':∀ n,List.replicate n (CV.d (.bool false))=bK (List.replicate n false):=fun n=>(AE n).symm
 have hl0:jn p (List.replicate p.nn false,List.replicate p.ns false):=⟨by simp,by simp⟩
 have hc:=Hg m p hp hg p.nn p.res.toNat _ hv.res hl0 (by unfold xh;simp);have hl:=(qD hv p.nn p.res.toNat _ hv.res hl0 (by unfold xh;simp)).1.len;change aL _ _ _ _ _ (.ret _ (mS p (qG p)) _) at hc;change jn p (qG p) at hl;rw [show ((p.res.toNat:Nat):Int)=p.res by omega] at hc;generalize qG p=V at *
 refine aa.ed Tryz.func46 rfl fun _=>aab ?_;refine AW.d5 mixed @gW @uq hrep hrep' @U9 ?_;refine aai fun K hK=>?_;simp;refine ag.mk 4 9 3 1 2 true hc ?_;simp;apply hK;clear hK K;refine aab ?_;refine aae (nZ.tmp rfl (X:=.c (.ptr 3 0)) (ks:=[3,1,2]) (by simp) ?_);exact N3 (own:=true) (fz:=false) (T:=84) (own':=true) (fz':=false) (T':=4) (own'':=true) (fz'':=false) (T'':=4) (by rw [hl.1];omega) (by rw [hl.2];omega) (by simp) (by simp) (by simp)
def Uv (s:NS)(e:Int):AV:=.tup [.c (bC (some s.1)),.c (bC (some s.2)),.c (.d (.int .i64 e))]
theorem Ee (m:Int)(p:PD)(hp:p.ok):aa Tryz.prog (GG m) 28 [p.A] (if (fJ p).2.2=0 then .tup [.c (bC (some (qG p).1)),.c (bC (some (qG p).2)),.c (.d (.int .i64 0))] else .tup [.c (bC none),.c (bC none),.c (.d (.int .i64 (fJ p).2.2))]):=by
 have h:=Jp m p hp
 by_cases h0:(fJ p).2.2=0
 ·have hn:=Eu m p hp (wV hp h0);rw [if_pos h0];rw [h0] at h;generalize qG p=V at *
  refine aa.en Tryz.func28 rfl fun _=>aab ?_;refine aaa fun K hK=>aas 1 h ?_;refine aab ?_;refine aak (aac (hK _ _ (aas 2 hn ?_)));refine aaa fun K hK=>?_;refine aap mixed (by kernel_rfl) rfl ?_;simp [RY,PD.DP];refine⟨by kernel_rfl,?_⟩;apply hK;clear hK K;exact aae (aq.t3 rfl 9 (by simp [bC]) (by simp [bC]) (by simp))
 ·rw [if_neg h0];generalize (fJ p).2.2=e at *
  refine aa.en Tryz.func28 rfl fun _=>aab ?_;refine aaa fun K hK=>aav 1 h h0 ?_;refine aab ?_;refine aah (by simp [h0] <;> omega) (aab ?_);exact aae (aq.t3 rfl 9 (by simp [bC]) (by simp [bC]) (by simp))
theorem Ef (m:Int)(p:PD)(hp:p.ok):aa Tryz.prog (GG m) 29 [p.A] (if (fJ p).2.2=0 then .tup [.c (bC (some (wD p).1)),.c (bC (some (wD p).2)),.c (.d (.int .i64 0))] else .tup [.c (bC none),.c (bC none),.c (.d (.int .i64 (fJ p).2.2))]):=by
 have h:=Hl m p hp
 by_cases h0:(fJ p).2.2=0
 ·have hn:=EI m p hp (wV hp h0);rw [if_pos h0];rw [h0] at h;generalize wD p=V at *
  have n1:∀ o:Option (List Bool),(AV.c (bC o)).cq=true:=fun o=>rfl
  refine aa.en Tryz.func29 rfl fun _=>aab ?_;refine aas 1 h ?_;refine aaa fun K hK=>aab ?_;refine aak (aac (hK _ _ (aas 2 hn ?_)));refine aab ?_;exact aae (aq.t3 rfl 9 (by simp [bC]) (by simp [bC]) (by simp))
 ·rw [if_neg h0];generalize (fJ p).2.2=e at *
  refine aa.en Tryz.func29 rfl fun _=>aab ?_;refine aav 1 h h0 ?_;refine aaa fun K hK=>aab ?_;refine aah (by simp [h0] <;> omega) (aab ?_);exact aae (aq.t3 rfl 9 (by simp [bC]) (by simp [bC]) (by simp))
theorem zo (m:Int)(p:PD)(hp:p.ok):aa Tryz.prog (GG m) 7 [p.A] (.c (.d (.bool true))):=by
 have hgr:=J2 (GG m) p hp;have hsh:=JS m
 cases hgb:nL p with
 | true=>
  rw [hgb] at hgr;refine aa.en Tryz.func7 rfl fun _=>aab ?_;refine aaa fun K hK=>aas 1 hgr ?_;refine aaj (aas 1 hsh ?_);exact aae (aq.rt rfl 2 (by simp))
 | false=>
 rw [hgb] at hgr;have c1:=Ee m p hp;have c2:=Ef m p hp
 obtain⟨o1,o2,e,h1,h2,hl1,hl2⟩:∃ (o1 o2:Option (List Bool)) (e:Int),aa Tryz.prog (GG m) 28 [p.A] (.tup [.c (bC o1),.c (bC o2),.c (.d (.int .i64 e))])∧aa Tryz.prog (GG m) 29 [p.A] (.tup [.c (bC o1),.c (bC o2),.c (.d (.int .i64 e))])∧(bL o1).length≤1000∧(bL o2).length≤1000:=by
  by_cases h0:(fJ p).2.2=0
  ·have hg:=wV hp h0;have hv:=uz hg;have hl:=(F9 hv).len;have hr:=ij hg.gen;rw [if_pos h0] at c1 c2;rw [Me hv] at c1;exact⟨_,_,_,c1,c2,by show (wD p).1.length≤_;rw [hl.1];omega,by show (wD p).2.length≤_;rw [hl.2];omega⟩
  ·rw [if_neg h0] at c1 c2;exact⟨_,_,_,c1,c2,by simp [bL],by simp [bL]⟩
 have b1:=BS (GG m) o1 hl1;have b2:=BS (GG m) o2 hl2;have f1:=vZ o1;have f2:=vZ o2;have p1:=A2 o1;have p2:=A2 o2;generalize bC o1=z1 at *
 generalize bC o2=z2 at *
 refine aa.en Tryz.func7 rfl fun _=>aab ?_;refine aaa fun K hK=>aas 1 hgr ?_;refine aak (aac (hK _ _ (aai fun K hK=>?_)));simp;refine ag.pure 1 9 h1 (by simp;exact⟨p1,p2⟩) (by simp) (by first|rfl|simp) ?_;simp;apply hK;clear hK K;refine aai fun K hK=>?_;simp;refine ag.pure 1 9 h2 (by simp;exact⟨p1,p2⟩) (by simp) (by first|rfl|simp) ?_;simp;apply hK;clear hK K;refine aai fun K hK=>?_;simp;refine ag.pure 1 9 b1 (by simp) (by simp;exact p1) (by first|rfl|simp) ?_;simp;refine ag.pure 1 9 b2 (by simp) (by simp;exact p2) (by first|rfl|simp) ?_;simp;refine ag.p 1 9 hsh ?_;simp;apply hK;clear hK K;exact aae (aq.rt rfl 2 (by simp))
end Go.Am
