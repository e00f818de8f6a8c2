/- Helpers. -/
import Derived.Test.YtfkfimmphlpllaaGreatDoorGn09

set_option linter.all false
set_option maxHeartbeats 8000000
set_option maxRecDepth 100000
open Go.IntKind
open Go.Proofs.Tryz
namespace Go.Am
open Go.Am.Ty Go.Proofs N
variable {B vb n V P A X t:Nat}{lv:Key->LB}{k:IntKind}{l:List Nat}
theorem n9(G:List (List DV))(a b:Option (List Nat))(oka:ok 1000000000 (dO a))(okb:ok 1000000000 (dO b))(hal:(dO a).length<=1000000)(hbl:(dO b).length<=1000000)(hv:val 1000000000 (dO b)<=val 1000000000 (dO a)):
 aa prog G 323 [nK .i64 a,nK .i64 b] (nK .i64 (some (aK 1000000000 (val 1000000000 (dO a)-val 1000000000 (dO b))))):=by
 have hbs:∀(lv:Key->LB) (h:lv 1=.hole) (a:CV),ak prog 213 1 [0] lv 1 [.c a]=some (.c (.aD 1 0 1 1),[(1,.cells true false 2 [a])],[],True):=λlv h a=>DS lv 1 h a
 refine aa.Qh func323 rfl λ_=>aab ?_;refine aak λK hK=>?_;simp
 repeat refine ah ?_
 apply hK;refine aab ?_;refine aaa λK hK=>aab ?_;refine aaf ?_
 refine aao (λ(p:List Nat×Nat)=>⟨aU [(0,nK .i64 a),(1,nK .i64 b),(5,.c (.aD 0 0 p.1.length 1)),(6,.c (.d (.int .i64 p.2))),(7,.c (.d (.int .i64 p.1.length)))],
  az (λ_=>.hole) 0 (.cells true false 2 (wK .i64 p.1))⟩) 1
  (λp=>ok 1000000000 p.1/\p.1.length<=(dO a).length/\p.2<=1/\val 1000000000 p.1+val 1000000000 ((dO b).take p.1.length)=val 1000000000 ((dO a).take p.1.length)+1000000000^p.1.length*p.2)
  (λp=>(dO a).length-p.1.length) ([],0) (Le.mk' _ (by simp[wK]) (by simp) (by simp)) (by simp[cC]) ?_
 rintro⟨pre,c⟩ ⟨h2,h1,h3,h4⟩;simp only at h1 h2 h3 h4;have w7:=bF (n:=(pre.length:Int)+1) (by omega) (by omega);refine aaa λK3 hK3=>aab ?_
 by_cases hlt:pre.length<(dO a).length
 ·have hx:(dO a)[pre.length]<1000000000:=oka _ (bh hlt);have hxv:=bA (B:=1000000000) hlt;obtain⟨x,hxe⟩:∃x,(dO a)[pre.length]=x:=⟨_,rfl⟩
  rw[hxe]at hx hxv;have w1:=bF (n:=(x:Int)-c) (by omega) (by omega);refine aag (by simp[hlt]<;>omega) (aad (hK3 _ _ (aaa λK5 hK5=>aaf (aaC hlt hxe w1 ?_))));refine aaa λK6 hK6=>?_
  have g3:∀(y:Nat) (fr:Nat->AV) (κ:Nat),y<1000000000->val 1000000000 ((dO b).take (pre.length+1))=val 1000000000 ((dO b).take pre.length)+1000000000^pre.length*y->fr 0=nK .i64 a->fr 1=nK .i64 b->fr 5=.c (.aD 0 0 pre.length 1)->fr 8=.c (.d (.int .i64 ((x:Int)-c-y)))->fr 7=.c (.d (.int .i64 pre.length)) ->
   K6 ⟨fr,az (λ_=>.hole) 0 (.cells true false 2 (wK .i64 pre))⟩ κ:=by
   intro y fr κ hy hyv z0 z1 z5 z8 z7;apply hK6;refine aaz 1 ?_;refine aab ?_;refine aaa λK7 hK7=>?_
   have g4:∀(v bb:Nat) (fr:Nat->AV) (κ:Nat),v<1000000000->bb<=1->v+c+y=x+1000000000*bb->fr 0=nK .i64 a->fr 1=nK .i64 b->fr 5=.c (.aD 0 0 pre.length 1)->fr 6=.c (.d (.int .i64 (bb:Int)))->fr 8=.c (.d (.int .i64 (v:Int)))->fr 7=.c (.d (.int .i64 pre.length)) ->
    K7 ⟨fr,az (λ_=>.hole) 0 (.cells true false 2 (wK .i64 pre))⟩ κ:=by
    intro v bb fr κ hv0 hb0 hs z0 z1 z5 z6 z8 z7;apply hK7;refine aaz 1 ?_;refine aac ?_;simp[z5,z8,hbs,dY,keyOf,CF,-ak]
    repeat refine ah ?_
    apply hK5;refine aac ?_;simp[z7,w7];refine⟨pre++[v],bb,Le.keys [(0,2,.cells true false 2 (wK .i64 (pre++[v])))] 19 _ rfl rfl (by simp) (by simp) (by simp) ?_ ?_,⟨cA.2 ⟨h2,bJ.2 ⟨hv0,cC _⟩⟩,by simp;omega,hb0,?_⟩,by simp;omega⟩
    ·intro e he;simp only[rP,Zd,or_false]at he;subst he;simpa using lf .i64 2 (pre++[v]) _
    ·simp[bP,z0,z1,z6]
    ·rw[Zg,ZY,eY,hxv,hyv,Zl];have g6:1000000000^pre.length*(v+c+y)=1000000000^pre.length*(x+1000000000*bb):=by rw[hs]
     rw[Zc,Zc,Zc,<-Zn]at g6;omega
   refine aam z8 ?_
   by_cases hn:(x:Int)-c-y<0
   ·have w2:i64.wrap ((x:Int)-c-y+1000000000)=((x+1000000000-c-y:Nat):Int):=by rw[bF (by omega) (by omega)];omega
    refine aag (by simp[hn]<;>omega) (aap z8 w2 ?_);refine aac ?_;simp;exact g4 (x+1000000000-c-y) 1 _ _ (by omega) (by omega) (by omega) (by simp[z0]) (by simp[z1]) (by simp[z5]) (by simp) (by simp) (by simp[z7])
   ·have w2:(x:Int)-c-y=((x-c-y:Nat):Int):=by omega
    refine aaj (by simp[hn]<;>omega) (aad ?_);simp;exact g4 (x-c-y) 0 _ _ (by omega) (by omega) (by omega) (by simp[z0]) (by simp[z1]) (by simp[z5]) (by simp) (by simp[z8,w2]) (by simp[z7])
  refine aab ?_
  by_cases hlb:pre.length<(dO b).length
  ·have hy:(dO b)[pre.length]<1000000000:=okb _ (bh hlb);have hyv:=bA (B:=1000000000) hlb;have w2:=bF (n:=(x:Int)-c-((dO b)[pre.length]:Nat)) (by omega) (by omega);refine aag (by simp[hlb]<;>omega) (aac ?_);simp[hlb,w2];exact g3 _ _ _ hy hyv (by simp) (by simp) (by simp) (by simp) (by simp)
  ·refine aaj (by simp[hlb]<;>omega) (aad ?_);simp;exact g3 0 _ _ (by omega) (by rw[aN (by omega),aN (by omega)];rfl) (by simp) (by simp) (by simp) (by simp) (by simp)
 ·refine aaj (by simp[hlt]<;>omega) (aan ?_);simp;have e2:pre.length=(dO a).length:=by omega
  apply hK;refine aak λK hK=>?_;simp
  have hlb:val 1000000000 ((dO b).take pre.length)=val 1000000000 (dO b):=by
   by_cases hb:(dO b).length<=pre.length
   ·exact aN hb
   ·have g1:=cq (B:=1000000000) (dO b) pre.length (by omega);have g2:=fu oka;rw[<-e2]at g2
    have g3:val 1000000000 ((dO b).drop pre.length)=0:=by
     apply ZG;intro hne;have:1000000000^pre.length*1<=1000000000^pre.length*val 1000000000 ((dO b).drop pre.length):=ZD _ (by omega);omega
    rw[g3]at g1;omega
  have hva:val 1000000000 ((dO a).take pre.length)=val 1000000000 (dO a):=aN (by omega)
  have hc:c=0:=by
   apply ZG;intro hne;have:c=1:=by omega
   subst this;have:=fu h2;rw[hlb,hva]at h4;omega
  subst hc
  have hout:di pre=aK 1000000000 (val 1000000000 (dO a)-val 1000000000 (dO b)):=by
   refine dZ (by decide) h2 ?_;rw[hlb,hva]at h4;omega
  refine gB.qg (k:=.i64) (l:=pre) 0 1 0 (by simp;rfl) (by omega) (jH _ _ (by omega)) (by simp) (by simp) (by simp) ?_;simp;apply hK;exact aae (au.rt rfl 1 (by simp[hout]))
theorem tu(G:List (List DV))(a b:Option (List Nat))(oka:ok 1000000000 (dO a))(okb:ok 1000000000 (dO b))(ha:(dO a).length<=1000000)(hb:(dO b).length<=1000000):
 aa prog G 248 [nK .i64 a,nK .i64 b] (nK .i64 (some (aK 1000000000 (val 1000000000 (dO a)*val 1000000000 (dO b))))):=by
 refine aa.en func248 rfl λ_=>aab ?_;refine aaa λK hK=>?_;have e0:i64.wrap (((dO a).length:Int)+(dO b).length)=(((dO a).length+(dO b).length:Nat):Int):=by rw[bF (by omega) (by omega)];omega
 refine aac ?_;simp[e0,-Int.natCast_add]
 repeat refine ah ?_
 apply hK;refine aaa λK hK=>aab ?_;refine aaf ?_
 refine aao (λ(p:Nat×List Nat)=>⟨aU [(0,nK .i64 a),(1,nK .i64 b),(5,.c (.aD 0 0 ((dO a).length+(dO b).length) 1)),(6,.c (.d (.int .i64 p.1)))],
  az (λ_=>.hole) 0 (.cells true false 2 (wK .i64 (p.2++List.replicate ((dO a).length-p.1) 0)))⟩) 1
  (λp=>p.1<=(dO a).length/\p.2.length=p.1+(dO b).length/\ok 1000000000 p.2/\val 1000000000 p.2=val 1000000000 ((dO a).take p.1)*val 1000000000 (dO b))
  (λp=>(dO a).length-p.1) (0,List.replicate (dO b).length 0) (Le.mk' _ (by simp[gx,Z8]) (by simp) (by simp)) ⟨by simp,by simp,r5 (by omega) _,by simp[p7]⟩ ?_
 rintro⟨i,lo⟩ ⟨h1,h2,h3,h4⟩;simp only at h1 h2 h3 h4;refine aaa λK3 hK3=>aab ?_
 by_cases hlt:i<(dO a).length
 ·refine aag (by simp[hlt]<;>omega) (aad (hK3 _ _ (aaa λK3 hK3=>aaf ?_)));have hx:(dO a)[i]<1000000000:=oka _ (bh hlt);obtain⟨x,hxe⟩:∃x,(dO a)[i]=x:=⟨_,rfl⟩
  rw[hxe]at hx;refine aab ?_;refine aaa λK4 hK4=>aab ?_;refine aaf ?_
  refine aao (λ(p:Nat×List Nat×Nat)=>⟨aU [(0,nK .i64 a),(1,nK .i64 b),(5,.c (.aD 0 0 ((dO a).length+(dO b).length) 1)),(6,.c (.d (.int .i64 i))),(7,.c (.d (.int .i64 p.2.2))),(8,.c (.d (.int .i64 p.1)))],
   az (λ_=>.hole) 0 (.cells true false 2 (wK .i64 (p.2.1++List.replicate ((dO a).length-i) 0)))⟩) 2
   (λp=>p.1<=(dO b).length/\p.2.1.length=i+(dO b).length/\ok 1000000000 p.2.1/\p.2.2<1000000000/\val 1000000000 p.2.1+1000000000^(i+p.1)*p.2.2=val 1000000000 ((dO a).take i)*val 1000000000 (dO b)+1000000000^i*(x*val 1000000000 ((dO b).take p.1)))
   (λp=>(dO b).length-p.1) (0,lo,0) (Le.mk' _ (by simp) (by simp) (by simp)) ⟨by simp,h2,h3,by simp,by simp[h4]⟩ ?_
  rintro⟨j,lo2,c⟩ ⟨g1,g2,g3,g4,g5⟩;simp only at g1 g2 g3 g4 g5;refine aaa λK6 hK6=>aab ?_
  by_cases hlj:j<(dO b).length
  ·refine aag (by simp[hlj]<;>omega) (aad (hK6 _ _ (aaa λK8 hK8=>aaf (aaa λK9 hK9=>?_))));have hy:(dO b)[j]<1000000000:=okb _ (bh hlj);have hij:i+j<lo2.length:=by omega
   have hij2:i+j<(lo2++List.replicate ((dO a).length-i) 0).length:=by simp;omega
   have hij3:i+j<lo2.length+((dO a).length-i):=by omega
   have ho:lo2[i+j]<1000000000:=g3 _ (bh hij);have ho2:(lo2++List.replicate ((dO a).length-i) 0)[i+j]=lo2[i+j]:=ZN hij;have hb2:val 1000000000 ((dO b).take (j+1))=val 1000000000 ((dO b).take j)+1000000000^j*(dO b)[j]:=bA hlj;have hset:=xz (B:=1000000000) hij;generalize hye:(dO b)[j]=y at hy hb2;generalize hoe:lo2[i+j]=o at ho ho2 hset;have hxy:x*y<=999999999*999999999:=aa6 (by omega) (by omega);have e1:i64.wrap ((i:Int)+j)=((i+j:Nat):Int):=by rw[bF (by omega) (by omega)];omega
   have e4:i64.wrap ((x:Int)*y)=((x*y:Nat):Int):=by
    rw[<-Int.natCast_mul];generalize x*y=p at hxy;exact bF (by omega) (by omega)
   have e5:i64.wrap ((c:Int)+o)=((c+o:Nat):Int):=by rw[bF (by omega) (by omega)];omega
   have e6:i64.wrap (((c+o:Nat):Int)+((x*y:Nat):Int))=((c+(x*y+o):Nat):Int):=by
    generalize x*y=p at hxy;rw[bF (by omega) (by omega)];omega
   refine aav mixed (by kernel_rfl) rfl rfl ?_;simp[e1,e4,e5,e6,hij3,ho2,hxe,hye,hlt,hlj,-Int.natCast_add,-Int.natCast_mul]
   repeat refine ah ?_
   apply hK9;have hbd:c+(x*y+o)<1000000000000000000:=by generalize x*y=p at hxy;omega
   generalize hm:c+(x*y+o)=m at hbd;have f1:((m:Nat):Int).tmod 1000000000=((m%1000000000:Nat):Int):=uU _ _
   have f2:aj (wK .i64 (lo2++List.replicate ((dO a).length-i) 0)) (i+j) [CV.d (.int .i64 ((m%1000000000:Nat):Int))]=wK .i64 (lo2.set (i+j) (m%1000000000)++List.replicate ((dO a).length-i) 0):=by
    rw[fS _ hij2,acp _ _ hij]
   have f3:((m:Nat):Int).tdiv 1000000000=((m/1000000000:Nat):Int):=nS _ _;have f3':=bF (n:=((m/1000000000:Nat):Int)) (by omega) (by omega);have f4:(i+j:Int)<(dO a).length+(dO b).length:=by omega
   refine aak λK9 hK9=>?_;simp[e1,f1,f2,hij3,-Int.natCast_add,-Int.natCast_emod]
   repeat refine ah ?_
   apply hK9;refine aac ?_;simp[f3,f3',-Int.natCast_ediv];apply hK8;have f5:=bF (n:=(j:Int)+1) (by omega) (by omega);refine aac ?_;simp[f5];refine⟨j+1,lo2.set (i+j) (m%1000000000),m/1000000000,Le.mk' _ (by simp) (by simp) (by simp),⟨by omega,by simp[g2],GI g3 _ (Zz _ (by omega)),?_,?_⟩,by omega⟩
   ·have hm2:m<1000000000*1000000000:=by generalize x*y=p at hxy hm;omega
    omega
   ·rw[hb2,<-hm,<-aaH i j 1];exact Dk g5 (by rw[hm];exact hset _)
  ·refine aaj (by simp[hlj]<;>omega) (aan (hK4 _ _ ?_));have ej:j=(dO b).length:=by omega
   subst ej;rw[aN (aY _)]at g5;have e1:i64.wrap ((i:Int)+(dO b).length)=((i+(dO b).length:Nat):Int):=by rw[bF (by omega) (by omega)];omega
   have hz:(dO a).length-i=((dO a).length-i-1)+1:=by omega
   have f2:aj (wK .i64 (lo2++List.replicate ((dO a).length-i) 0)) (i+(dO b).length) [CV.d (.int .i64 (c:Int))]=wK .i64 (lo2++[c]++List.replicate ((dO a).length-i-1) 0):=by
    rw[fS _ (by simp;omega),hz,<-g2,kN];simp
   have f6:i+(dO b).length<lo2.length+((dO a).length-i):=by omega
   refine aac ?_;simp[e1,f2,f6,-Int.natCast_add]
   repeat refine ah ?_
   apply hK3;have f5:=bF (n:=(i:Int)+1) (by omega) (by omega);refine aac ?_;simp[f5];have f7:(dO a).length-(i+1)=(dO a).length-i-1:=by omega
   refine⟨i+1,lo2++[c],Le.mk' _ (by simp[f7]) (by simp) (by simp),⟨by omega,by simp;omega,cA.2 ⟨g3,bJ.2 ⟨g4,cC _⟩⟩,?_⟩,by omega⟩;rw[eY,g2,g5,bA hlt,hxe,Zh,Zn]
 ·refine aaj (by simp[hlt]<;>omega) (aan (hK _ _ ?_));have e2:i=(dO a).length:=by omega
  subst e2;refine aak λK hK=>?_;simp;rw[<-h2]
  have hout:di lo=aK 1000000000 (val 1000000000 (dO a)*val 1000000000 (dO b)):=by
   refine dZ (by decide) h3 ?_;rw[h4,aN (aY _)]
  refine gB.qg (k:=.i64) (l:=lo) 0 1 0 (by simp;rfl) (by omega) (jH _ _ (by omega)) (by simp) (by simp) (by simp) ?_;simp;apply hK;exact aae (au.rt rfl 1 (by simp[hout]))
theorem IG(G:List (List DV))(a:Option (List Nat))(oka:ok 1000000000 (dO a))(ha:(dO a).length<=1000000):
 aa prog G 322 [nK .i64 a] (nK .i64 (some (aK 1000000000 (val 1000000000 (dO a)/2)))):=by
 refine aa.en func322 rfl λ_=>aab ?_;refine aak λK hK=>?_;simp
 repeat refine ah ?_
 apply hK;refine aab ?_;have w0:=bF (n:=((dO a).length:Int)-1) (by omega) (by omega);refine aaa λK hK=>aam w0 ?_;refine aaf ?_
 refine aao (λ(p:Nat×List Nat×Nat)=>⟨aU [(0,nK .i64 a),(3,.c (.aD 0 0 (dO a).length 1)),(4,.c (.d (.int .i64 p.2.2))),(5,.c (.d (.int .i64 ((p.1:Int)-1))))],
  az (λ_=>.hole) 0 (.cells true false 2 (wK .i64 (List.replicate p.1 0++p.2.1)))⟩) 1
  (λp=>p.1+p.2.1.length=(dO a).length/\ok 1000000000 p.2.1/\p.2.2<=1/\2*val 1000000000 p.2.1+p.2.2=val 1000000000 ((dO a).drop p.1))
  (λp=>p.1) ((dO a).length,[],0) (Le.mk' _ (by simp[gx]) (by simp) (by simp)) ⟨by simp,cC _,by simp,by simp⟩ ?_
 rintro⟨k,qs,c⟩ ⟨h1,h2,h3,h4⟩;simp only at h1 h2 h3 h4;refine aaa λK3 hK3=>aab ?_
 cases k with
 |zero=>
  refine aah (aan (hK _ _ (aaa λK hK=>?_)));have hl:qs.length=(dO a).length:=by omega
  refine aac ?_;simp;rw[<-hl]
  have hout:di qs=aK 1000000000 (val 1000000000 (dO a)/2):=by
   refine dZ (by decide) h2 ?_;rw[Y9]at h4;omega
  refine gB.qg (k:=.i64) (l:=qs) 0 1 0 (by simp;rfl) (by omega) (jH _ _ (by omega)) (by simp) (by simp) (by simp) ?_;simp;apply hK;exact aae (au.rt rfl 1 (by simp[hout]))
 |succ k=>
  have hk:k<(dO a).length:=by omega
  have e2:((k+1:Nat):Int)-1=k:=by omega
  simp only[e2];have hx:(dO a)[k]<1000000000:=oka _ (bh hk);have hxv:=cL (B:=1000000000) hk;obtain⟨x,hxe⟩:∃x,(dO a)[k]=x:=⟨_,rfl⟩
  rw[hxe]at hx hxv;obtain⟨m,hm⟩:∃m,1000000000*c+x=m:=⟨_,rfl⟩
  have w1:i64.wrap ((c:Int)*1000000000)=(m:Int)-x:=by rw[bF (by omega) (by omega)];omega
  have w2:i64.wrap ((m:Int)-x+x)=(m:Int):=by rw[bF (by omega) (by omega)];omega
  refine aai (aad (hK3 _ _ (aaa λK5 hK5=>aaf (aak λK6 hK6=>?_))));simp[hk,hxe,w1,w2,-Int.sub_add_cancel,-Int.natCast_add,-Int.natCast_mul];apply hK6;clear w1 w2;have f3:((m:Nat):Int).tdiv 2=((m/2:Nat):Int):=nS _ 2;have f3':=bF (n:=((m/2:Nat):Int)) (by omega) (by omega);have f4:((m:Nat):Int).tmod 2=((m%2:Nat):Int):=uU _ 2
  have f5:aj (wK .i64 (List.replicate (k+1) 0++qs)) k [CV.d (.int .i64 ((m/2:Nat):Int))]=wK .i64 (List.replicate k 0++((m/2)::qs)):=by
   rw[fS _ (by simp;omega),pJ]
  have hk2:(k:Int)<((dO a).length:Int):=by omega
  have hk3:k<k+1+qs.length:=by omega
  refine aak λK6 hK6=>?_;simp[f3,f3',f5,hk,hk2,hk3,-Int.natCast_ediv];apply hK6;refine aac ?_;simp[f4,-Int.natCast_emod];apply hK5;have w3:=bF (n:=(k:Int)-1) (by omega) (by omega);refine aac ?_;simp[w3];refine⟨k,(m/2)::qs,m%2,Le.mk' _ (by simp) (by simp) (by simp),⟨by simp;omega,bJ.2 ⟨by omega,h2⟩,by omega,?_⟩,by omega⟩;rw[hxv,bT];omega
def Pb(k:IntKind)(l:List Nat):(dK k l).flatten.map CV.d=wK k l:=by
 have:(dK k l).flatten=l.map λ(x:Nat)=>DV.int k (x:Int):=by
  unfold dK;induction l with
  |nil=>rfl
  |cons a l ih=>simp only[Zm,aa9,ih];rfl
 rw[this,ZC];rfl
theorem QD(o:Option (List Nat)):dY lv 1 (nK k o)=some ((dO o).length,wK k (dO o)):=by
 cases o with
 |none=>rfl
 |some l=>
  have h1:(dK k l).all (λe=>e.length==1)=true:=by rw[Zb];intro e he;obtain⟨x,_,rfl⟩:=List.mem_map.1 he;rfl
  show dY lv 1 (.c (.d (.sl (dK k l))))=_;simp only[dY,h1,if_true,Pb];simp[dK]
def NZ(k:IntKind):nK k none=.c (.d .nilsl):=rfl
def HQ(k:IntKind)(x:Nat)(l:List Nat):CV.d (.int k (x:Int))::wK k l=wK k (x::l):=rfl
def ag.KC{c:Ctx}{f:FuncId}{K:AV->List (Key×LB)->List Key->Nat->Prop}(κ' kh κb:Key){T:TypeId}{x0 x:AV}(hk:lv κb=.cells true false T (wK k l))(hl:l.length<=1000)
 (hc:aa c.P c.G f [x0,nK k (some l)] x) (hx0:x0.pure=true) (hx:x.pure=true) (hh:lv kh=.hole) (hK:K x [(κb,.cells true true T (wK k l))] [kh,κb] κ'):ag c f [x0,.c (.aD κb 0 l.length 1)] lv K:=by
 have e:aQ lv (dS [(κb,T,wK k l)]) κb=.cells true true T (wK k l):=by simp[dS,aQ,az]
 refine ag.Ug (us:=[x0,nK k (some l)]) κ' kh [(κb,T,wK k l)] [kh,κb] hc hx (by simpa using hk) (by simp) hh rfl (λi p' q'=>?_) (λa ha j hj=>?_) (by simp) hK
 ·have hi:i=0\/i=1:=by simp at p';omega
  rcases hi with rfl|rfl
  ·exact .inl ⟨hx0,rfl⟩
  ·exact .inr ⟨[κb],Ct e (by omega),by simp⟩
 ·simp only[rP,Zd,or_false]at ha;rcases ha with rfl|rfl
  ·rw[cj hx0]at hj;cases hj
  ·left;simp only[hO,fK,e,rP]at hj;rcases hj with rfl|hj
   ·simp
   ·simp only[aaK]at hj;obtain⟨y,hy,hj⟩:=hj;simp only[wK,ZX]at hy;obtain⟨z,_,rfl⟩:=hy
    cases hj
def rT(o o':Option (List Nat)):(AV.tup [nK .i64 o,nK .i64 o']).pure=true:=by
 cases o<;>cases o'<;>rfl
def TI(hB:0<B)(h:ok B l)(h1:1<=n)(h2:n<=l.length)(h3:l.length<=n+1):val B l/B^(n-1)=l.getD (n-1) 0+B*l.getD n 0:=by
 have e1:=cq (B:=B) l (n-1) (by omega);have e2:=cL (B:=B) (l:=l) (i:=n-1) (by omega);rw[show n-1+1=n by omega]at e2
 have e3:val B (l.drop n)=l.getD n 0:=by
  by_cases h4:n<l.length
  ·rw[cL h4,fq (by omega),Z7,ZO,Y8,cy h4];rfl
  ·rw[fq (by omega),Y8,aa3 (by omega)];rfl
 have e4:l.getD (n-1) 0=l[n-1]'(by omega):=by rw[Y8,cy (by omega)];rfl
 have e5:=fu (lS h (n-1));rw[Ze,ZS (by omega)]at e5;rw[e1,e2,e3,e4];generalize l[n-1]+B*l.getD n 0=q;exact Nat.div_eq_of_lt_le (by rw[Zk];omega) (by rw[Zh,ZT,Zk q];omega)
def Ui(h1:X*P<=V)(h2:vb<(t+1)*P)(hb:0<vb):X/(t+1)<=V/vb:=by
 rw[abJ hb]
 calc X/(t+1)*vb<=X/(t+1)*((t+1)*P):=ZD _ (aaX h2)
  _=(X/(t+1)*(t+1))*P:=by rw[Zn]
  _<=X*P:=Zq _ (abL _ _)
  _<=V:=h1
def UR(h1:V<(X+1)*P)(h2:t*P<=vb)(ht:0<t):V/vb<=(X+1)/t:=by
 have hP:0<P:=by
  rcases abm P with h|h
  ·subst h;omega
  ·exact h
 have hb:0<vb:=ZE (Z1 ht hP) h2;rw[abJ ht];have h3:V/vb*(t*P)<=V:=Zf (ZD _ h2) (abL _ _);rw[<-Zn]at h3;have h4:=acA (aaT h3 h1);omega
def Pm{k R x qs:Nat}(hV:x+B*R=V)(h:vb*qs+R=k):vb*(V/vb+B*qs)+V%vb=x+B*k:=by
 have h1:=ab3 V vb;rw[<-h,Zc,Zc,<-hV,Nat.mul_left_comm]at*
 omega
def Ln(a b:Option (List Nat)):Option (List Nat):=if dO a=[]then none else some (aK 1000000000 (val 1000000000 (dO a)%val 1000000000 (dO b)))
def Ry:aK 1000000000 0=[]:=(eA (by decide)).2 rfl
theorem tP(G:List (List DV))(a b:Option (List Nat))(oka:ok 1000000000 (dO a))(hb:can 1000000000 (dO b))(hb0:dO b≠[])(hal:(dO a).length<=100000)(hbl:(dO b).length<=100000):
 aa prog G 275 [nK .i64 a,nK .i64 b] (.tup [nK .i64 (some (aK 1000000000 (val 1000000000 (dO a)/val 1000000000 (dO b)))),nK .i64 (Ln a b)]):=by
 have hbs:∀(lv:Key->LB) (h:lv 1=.hole) (a:CV),ak prog 213 1 [0] lv 1 [.c a]=some (.c (.aD 1 0 1 1),[(1,.cells true false 2 [a])],[],True):=λlv h a=>DS lv 1 h a
 obtain⟨n,hn⟩:∃n,(dO b).length=n:=⟨_,rfl⟩
 obtain⟨vb,hvb⟩:∃vb,val 1000000000 (dO b)=vb:=⟨_,rfl⟩
 have hn1:1<=n:=by rw[<-hn];exact List.length_pos_iff.2 hb0
 have hvp:0<vb:=by rw[<-hvb];exact iF hb hb0
 have hdb:dO b=aK 1000000000 vb:=ig (by decide) hb hvb;have hvl:vb<1000000000^n:=by rw[<-hvb,<-hn];exact fu hb.1
 obtain⟨t,ht⟩:∃t,(dO b)[n-1]?=some t:=⟨_,cy (by omega)⟩
 have ht1:(dO b)[n-1]'(by omega)=t:=(List.getElem?_eq_some_iff.1 ht).2;have htB:t<1000000000:=by rw[<-ht1];exact hb.1 _ (bh _)
 have ht0:0<t:=by
  have:=hb.2 t (by rw[acj,hn];exact ht);omega
 have htop:=TI (B:=1000000000) (by decide) hb.1 hn1 (by omega) (by omega);rw[hvb,Y8,ht,Y8,aa3 (by omega)]at htop;simp only[abq,Option.getD_none,Z7,ZO]at htop;have hPp:0<1000000000^(n-1):=Zv (by decide);have hb1:t*1000000000^(n-1)<=vb:=by rw[<-htop];exact abL _ _
 have hb2:vb<(t+1)*1000000000^(n-1):=by rw[<-htop];exact Nat.lt_mul_of_div_lt (Nat.lt_succ_self _) hPp
 have cmpG:∀V,aa prog G 247 [(nK .i64 (some (aK 1000000000 (V)))),nK .i64 b] (.c (.d (.int .i64 (ec V vb)))):=λV=>by
  have hcmp:=nu G (a:=some (aK 1000000000 V)) (b:=b) (bw (by decide) V) hb;simp only[aX,bt (by decide:2<=1000000000),hvb]at hcmp;exact hcmp
 have cmG:∀W V,aa prog G 247 [(nK .i64 (some (aK 1000000000 (W)))),(nK .i64 (some (aK 1000000000 (V))))] (.c (.d (.int .i64 (ec W V)))):=λW V=>by
  have hcm:=nu G (a:=some (aK 1000000000 W)) (b:=some (aK 1000000000 V)) (bw (by decide) _) (bw (by decide) _);simp only[aX,bt (by decide:2<=1000000000)]at hcm;exact hcm
 have prG:∀mi,mi<1000000000->aa prog G 248 [nK .i64 b,nK .i64 (some [mi])] (nK .i64 (some (aK 1000000000 (vb*mi)))):=λmi hmi=>by
  have hpr:=tu G b (some [mi]) hb.1 (bJ.2 ⟨hmi,cC _⟩) (by omega) (by simp);have hval:val 1000000000 (dO (some [mi]))=mi:=by simp
  rwa[hval,hvb]at hpr
 have dfG:∀V W,(aK 1000000000 V).length<=1000000->W<=V->aa prog G 323 [(nK .i64 (some (aK 1000000000 (V)))),(nK .i64 (some (aK 1000000000 (W))))] (nK .i64 (some (aK 1000000000 (V-W)))):=λV W hl hle=>by
  have hdl:(aK 1000000000 W).length<=(aK 1000000000 V).length:=c9 (by decide) hle;have hdf:=n9 G (some (aK 1000000000 V)) (some (aK 1000000000 W)) (bw (by decide) _).1 (bw (by decide) _).1 (by simp;omega) (by simp;omega) (by simp only[aX,bt (by decide:2<=1000000000)];exact hle);simp only[aX,bt (by decide:2<=1000000000)]at hdf;exact hdf
 refine aa.Qh func275 rfl λ_=>aab ?_;refine aak λK hK=>?_;simp
 repeat refine ah ?_
 apply hK;refine aam hn ?_;refine aab ?_;have w0:=bF (n:=((dO a).length:Int)-1) (by omega) (by omega);refine aaa λK hK=>aam w0 ?_;refine aaf ?_
 refine aao (λ(p:Nat×List Nat×Nat)=>⟨aU [(0,nK .i64 a),(1,nK .i64 b),(6,.c (.aD 0 0 (dO a).length 1)),(7,.c (.d (.int .i64 n))),(8,nK .i64 (if p.1=(dO a).length then none else some (aK 1000000000 p.2.2))),(9,.c (.d (.int .i64 ((p.1:Int)-1))))],
  az (λ_=>.hole) 0 (.cells true false 2 (wK .i64 (List.replicate p.1 0++p.2.1)))⟩) 1
  (λp=>p.1+p.2.1.length=(dO a).length/\ok 1000000000 p.2.1/\p.2.2<vb/\(p.1=(dO a).length->p.2.2=0)/\vb*val 1000000000 p.2.1+p.2.2=val 1000000000 ((dO a).drop p.1))
  (λp=>p.1) ((dO a).length,[],0) (Le.mk' _ (by simp[gx]) (by simp) (by simp[NZ])) ⟨by simp,cC _,hvp,λ_=>rfl,by simp⟩ ?_
 rintro⟨k,qs,R⟩ ⟨h1,h2,h3,h5,h4⟩;simp only at h1 h2 h3 h4 h5;obtain⟨ro,hro⟩:∃ro,(if k=(dO a).length then none else some (aK 1000000000 R))=ro:=⟨_,rfl⟩
 have hdr:dO ro=aK 1000000000 R:=by
  rw[<-hro];split
  ·rename_i h;rw[h5 h,Ry];rfl
  ·rfl
 simp only[hro];refine aaa λK3 hK3=>aab ?_
 cases k with
 |zero=>
  refine aah (aan (hK _ _ (aaa λK hK=>?_)));have hl:qs.length=(dO a).length:=by omega
  rw[Y9]at h4
  have hq:val 1000000000 qs=val 1000000000 (dO a)/vb:=by
   rw[<-h4,Nat.mul_add_div hvp,abk h3,ZO]
  have hr:R=val 1000000000 (dO a)%vb:=by
   rw[<-h4,Nat.mul_add_mod,ZI h3]
  have hout:di qs=aK 1000000000 (val 1000000000 (dO a)/vb):=dZ (by decide) h2 hq
  have hrem:Ln a b=ro:=by
   unfold Ln;rw[<-hro,hvb,<-hr]
   by_cases h:dO a=[]
   ·rw[if_pos h,if_pos (by rw[h];rfl)]
   ·rw[if_neg h,if_neg (λe=>h (Z4 e.symm))]
  refine aac ?_;simp;rw[<-hl];refine gB.qg (T:=2) (k:=.i64) (l:=qs) 1 9 0 (by simp) (by omega) (jH _ _ (by omega)) (by simp) (by simp) (by simp) ?_;simp;apply hK;exact aal (κ:=0) (au.TW (κ:=0) (t:=4) (u:=5) rfl 9 (by simp[hout,hvb]) (by simp[hrem]) (by simp) (by simp) (by simp) (by simp) (by simp) (by decide))
 |succ k=>
  have hk:k<(dO a).length:=by omega
  have e2:((k+1:Nat):Int)-1=k:=by omega
  simp only[e2];have hx:(dO a)[k]<1000000000:=oka _ (bh hk);have hxv:=cL (B:=1000000000) hk;obtain⟨x,hxe⟩:∃x,(dO a)[k]=x:=⟨_,rfl⟩
  rw[hxe]at hx hxv;obtain⟨V,hV⟩:∃V,x+1000000000*R=V:=⟨_,rfl⟩
  have hRV:V<1000000000*vb:=by
   have:1000000000*(R+1)<=1000000000*vb:=ZD _ h3;omega
  have hRl:(aK 1000000000 R).length<=n:=by rw[<-hn,hdb];exact c9 (by decide) (aaX h3)
  have htr:di (x::aK 1000000000 R)=aK 1000000000 V:=dZ (by decide) (bJ.2 ⟨hx,(bw (by decide) R).1⟩) (by rw[bT,bt (by decide),hV]);have hsr:∀lv:Key->LB,dY lv 1 (nK .i64 ro)=some ((aK 1000000000 R).length,wK .i64 (aK 1000000000 R)):=λlv=>by rw[QD,hdr]
  have hcmp:=cmpG V;have w9:=bF (n:=(k:Int)-1) (by omega) (by omega);have hkn:¬k=(dO a).length:=by omega
  have hnext:vb*val 1000000000 ((V/vb)::qs)+V%vb=val 1000000000 ((dO a).drop k):=by rw[hxv,bT];exact Pm hV h4
  have hqB:V/vb<1000000000:=by rw[abb hvp];exact hRV
  refine aai (aad (hK3 _ _ (aaa λK5 hK5=>aaf (aak λK6 hK6=>?_))));simp[hk,hxe,hbs,hsr,keyOf,HQ,-ak]
  repeat refine ah ?_
  have hc1:(x::aK 1000000000 R).length=1+(aK 1000000000 R).length:=by simp;omega
  rw[<-hc1];refine gB.qg (k:=.i64) (T:=2) (l:=x::aK 1000000000 R) 3 9 2 (by simp[HQ]) (by simp;omega) (jH _ _ (by simp;omega)) (by simp) (by simp) (by simp) ?_;simp[htr];apply hK6;refine aaa λK6 hK6=>aaa λK7 hK7=>?_
  by_cases hlt:V<vb
  ·have hc:=jO hlt;have hq0:V/vb=0:=abk hlt;rw[hq0,ZI hlt]at hnext;refine aax 3 hcmp hc (hK7 _ _ ?_);refine aai (aan (hK5 _ _ (aac ?_)));simp[w9];refine⟨k,0::qs,V,Le.keys [(0,0,.cells true false 2 (wK .i64 (List.replicate k 0++0::qs)))] 19 _ rfl rfl (by simp) (by simp) (by simp) ?_ ?_,⟨by simp;omega,bJ.2 ⟨by omega,h2⟩,hlt,λh=>absurd h hkn,hnext⟩,by omega⟩
   ·intro e he;simp only[rP,Zd,or_false]at he;subst he;have e:List.replicate k 0++0::qs=List.replicate (k+1) 0++qs:=by rw[List.replicate_succ',Zo];rfl
    rw[e];simpa using lf .i64 2 (List.replicate (k+1) 0++qs) _
   ·simp[bP,hkn]
  ·have hge:vb<=V:=by omega
   have hlen1:n<=(aK 1000000000 V).length:=by rw[<-hn,hdb];exact c9 (by decide) hge
   have hlen2:(aK 1000000000 V).length<=n+1:=by
    refine cN (by decide) ?_;rw[Zl,Zk];exact ZE hRV (ZD _ (aaX hvl))
   have hX:=TI (B:=1000000000) (by decide) (bw (by decide) V).1 hn1 hlen1 hlen2;rw[bt (by decide)]at hX;obtain⟨X,hXe⟩:∃X,V/1000000000^(n-1)=X:=⟨_,rfl⟩
   rw[hXe]at hX;have hX1:X*1000000000^(n-1)<=V:=by rw[<-hXe];exact abL _ _
   have hX2:V<(X+1)*1000000000^(n-1):=by rw[<-hXe];exact Nat.lt_mul_of_div_lt (Nat.lt_succ_self _) hPp
   have hlo:=Ui hX1 hb2 hvp;have hhi:=UR hX2 hb1 ht0;obtain⟨Q,hQ⟩:∃Q,V/vb=Q:=⟨_,rfl⟩
   rw[hQ]at hlo hhi hnext hqB
   have hcne:¬ec V vb<0:=by
    by_cases e:V=vb
    ·rw[nU e];omega
    ·rw[kI (by omega)];omega
   have hokV:=(bw (B:=1000000000) (by decide) V).1;obtain⟨r1,hr1⟩:∃r1,(aK 1000000000 V)[n-1]'(by omega)=r1:=⟨_,rfl⟩
   have hr1B:r1<1000000000:=by rw[<-hr1];exact hokV _ (bh _)
   have hr1g:(aK 1000000000 V).getD (n-1) 0=r1:=by rw[Y8,cy (by omega),hr1];rfl
   rw[hr1g]at hX;have wn:i64.wrap ((n:Int)-1)=((n-1:Nat):Int):=by rw[bF (by omega) (by omega)];omega
   have hix1:∀lv,aq prog 213 lv (nK .i64 (some (aK 1000000000 V))) (.c (.d (.int .i64 ((n-1:Nat):Int))))=some (.c (.d (.ptr [DV.int .i64 (r1:Int)])),[],[],True):=λlv=>by
    have:=gA (P:=prog) (T:=213) (lv:=lv) (k:=.i64) (k':=.i64) (o:=some (aK 1000000000 V)) (i:=n-1) (by simp) (by simp;omega);rw[this];simp only[aX,hr1]
   have hixb:∀lv,aq prog 213 lv (nK .i64 b) (.c (.d (.int .i64 ((n-1:Nat):Int))))=some (.c (.d (.ptr [DV.int .i64 (t:Int)])),[],[],True):=λlv=>by
    have:=gA (P:=prog) (T:=213) (lv:=lv) (k:=.i64) (k':=.i64) (o:=b) (i:=n-1) (by simp) (by omega);rw[this];simp only[ht1]
   refine aax 3 hcmp hcne (hK7 _ _ ?_);refine aaj (by simp[hcne]<;>omega) (aad (hK6 _ _ (aak λK6 hK6=>?_)));simp[wn,hix1,-gA];apply hK6;refine aaa λK6 hK6=>?_
   have g1:∀(fr:Nat->AV) (κ:Nat),fr 0=nK .i64 a->fr 1=nK .i64 b->fr 6=.c (.aD 0 0 (dO a).length 1)->fr 7=.c (.d (.int .i64 n))->fr 8=nK .i64 (some (aK 1000000000 V))->fr 9=.c (.d (.int .i64 (k:Int)))->fr 10=.c (.d (.int .i64 (X:Int)))->∀lv:Key->LB,lv 0=.cells true false 2 (wK .i64 (List.replicate (k+1) 0++qs))->lv 19=.hole ->
    K6 ⟨fr,lv⟩ κ:=by
    intro fr κ z0 z1 z6 z7 z8 z9 z10 lv l0 l19
    have hX3:X<=1000000000000000000:=by
     have:V/1000000000^(n-1)<1000000000*1000000000:=by
      rw[abb hPp]
      have e:1000000000*1000000000*1000000000^(n-1)=1000000000*1000000000^n:=by
       obtain⟨n',rfl⟩:∃n',n=n'+1:=⟨n-1,by omega⟩
       rw[ab6,Zl,Zk (1000000000^n') 1000000000,Zn]
      rw[e];exact ZE hRV (ZD _ (aaX hvl))
     omega
    apply hK6;refine aaa λK7 hK7=>?_;have f1:=bF (n:=(t:Int)+1) (by omega) (by omega);have f2:=bF (n:=(X:Int)+1) (by omega) (by omega)
    have f3:(X:Int).tdiv ((t:Int)+1)=((X/(t+1):Nat):Int):=by
     have:=nS X (t+1);rwa[Int.natCast_add,Int.natCast_one]at this
    have f4:((X:Int)+1).tdiv (t:Int)=(((X+1)/t:Nat):Int):=by
     have:=nS (X+1) t;rwa[Int.natCast_add,Int.natCast_one]at this
    have hle1:X/(t+1)<=X:=abM _ _;have hle2:(X+1)/t<=X+1:=abM _ _;obtain⟨D1,hD1⟩:∃D,X/(t+1)=D:=⟨_,rfl⟩
    obtain⟨D2,hD2⟩:∃D,(X+1)/t=D:=⟨_,rfl⟩
    rw[hD1]at hlo f3 hle1;rw[hD2]at hhi f4 hle2;have f5:=bF (n:=(D1:Int)) (by omega) (by omega);have f6:=bF (n:=(D2:Int)) (by omega) (by omega);have t1:¬(t:Int)+1=0:=by omega
    have t2:¬(t:Int)=0:=by omega
    have t3:¬t=0:=by omega
    have hmin:(if (999999999:Int)<(D2:Int)then(999999999:Int)else(D2:Int))=((min D2 999999999:Nat):Int):=by split<;>omega
    have hmin':(if 999999999<D2 then(999999999:Int)else(D2:Int))=((min D2 999999999:Nat):Int):=by split<;>omega
    have hhi2:Q<=min D2 999999999:=by omega
    have hhB:min D2 999999999<=999999999:=by omega
    obtain⟨H,hH⟩:∃H,min D2 999999999=H:=⟨_,rfl⟩
    rw[hH]at hmin hmin' hhi2 hhB;refine aav mixed (by kernel_rfl) rfl rfl ?_;simp[dL,z0,z1,z7,z10,wn,hixb,f1,f2,f3,f4,f5,f6,t1,t2,t3,hmin,hmin',-gA];apply hK7;refine aaa λK7 hK7=>aaf ?_
    refine aao (λ(p:Nat×Nat)=>⟨aU [(0,nK .i64 a),(1,nK .i64 b),(6,.c (.aD 0 0 (dO a).length 1)),(7,.c (.d (.int .i64 n))),(8,nK .i64 (some (aK 1000000000 V))),(9,.c (.d (.int .i64 (k:Int)))),(11,.c (.d (.int .i64 (p.1:Int)))),(12,.c (.d (.int .i64 (p.2:Int))))],
     az (λ_=>.hole) 0 (.cells true false 2 (wK .i64 (List.replicate (k+1) 0++qs)))⟩) 1
     (λp=>p.1<=Q/\Q<=p.2/\p.2<=999999999) (λp=>p.2-p.1) (D1,H) (Le.keys [(0,0,.cells true false 2 (wK .i64 (List.replicate (k+1) 0++qs)))] 19 _ rfl rfl (by simp) (by simp) (by simp[l19]) ?_ ?_) ⟨hlo,hhi2,hhB⟩ ?_
    ·intro e he;simp only[rP,Zd,or_false]at he;subst he;simpa[l0]using lf .i64 2 (List.replicate (k+1) 0++qs) _
    ·simp[bP,z0,z1,z6,z7,z8,z9]
    rintro⟨lo,hi⟩ ⟨q1,q2,q3⟩;simp only at q1 q2 q3;refine aaa λK8 hK8=>aab ?_
    by_cases hlh:lo<hi
    ·have u1:i64.wrap ((lo:Int)+hi)=((lo+hi:Nat):Int):=by rw[bF (by omega) (by omega)];omega
     have u2:i64.wrap (((lo+hi:Nat):Int)+1)=((lo+hi+1:Nat):Int):=by rw[bF (by omega) (by omega)];omega
     have u3:(((lo+hi+1:Nat):Int)).tdiv 2=(((lo+hi+1)/2:Nat):Int):=nS _ 2;obtain⟨mi,hmi⟩:∃mi,(lo+hi+1)/2=mi:=⟨_,rfl⟩
     rw[hmi]at u3;have u4:=bF (n:=(mi:Int)) (by omega) (by omega);have u5:=bF (n:=(mi:Int)-1) (by omega) (by omega);have hpr:=prG mi (by omega);have hcm:=cmG (vb*mi) V;refine aag (by simp[hlh]<;>omega) (aad (hK8 _ _ (aaf (aak λK9 hK9=>?_))));simp[u1,u2,u3,u4,-Int.natCast_add];apply hK9;refine aaa λK9 hK9=>?_
     by_cases hle:vb*mi<=V
     ·have hc:ec (vb*mi) V<=0:=by
       by_cases e:vb*mi=V
       ·rw[nU e];omega
       ·rw[jO (by omega)];omega
      have hmQ:mi<=Q:=by rw[<-hQ,abJ hvp,Zk];exact hle
      refine aac ?_;simp[hbs,-ak];refine ag.KC (T:=2) (l:=[mi]) 2 9 1 (by simp[wK]) (by simp) hpr (by simp) (by simp) (by simp) ?_;simp;refine ag.p 2 9 hcm ?_;simp[hc];apply hK9;refine aai (aac ?_);simp;refine⟨mi,hi,Le.keys [(0,0,.cells true false 2 (wK .i64 (List.replicate (k+1) 0++qs)))] 19 _ rfl rfl (by simp) (by simp) (by simp) ?_ (by simp[bP]),⟨hmQ,q2,q3⟩,by omega⟩;intro e he;simp only[rP,Zd,or_false]at he;subst he;simpa using lf .i64 2 (List.replicate (k+1) 0++qs) _
     ·have hc:¬ec (vb*mi) V<=0:=by rw[kI (by omega)];omega
      have hmQ:Q<=mi-1:=by
       have:¬mi<=Q:=by rw[<-hQ,abJ hvp,Zk];exact hle
       omega
      have u6:(mi:Int)-1=((mi-1:Nat):Int):=by omega
      refine aac ?_;simp[hbs,-ak];refine ag.KC (T:=2) (l:=[mi]) 2 9 1 (by simp[wK]) (by simp) hpr (by simp) (by simp) (by simp) ?_;simp;refine ag.p 2 9 hcm ?_;simp[hc];apply hK9;refine aah (aac ?_);simp[u5];refine⟨lo,mi-1,Le.keys [(0,0,.cells true false 2 (wK .i64 (List.replicate (k+1) 0++qs)))] 19 _ rfl rfl (by simp) (by simp) (by simp) ?_ (by simp[bP,u6]),⟨q1,hmQ,by omega⟩,by omega⟩;intro e he;simp only[rP,Zd,or_false]at he;subst he;simpa using lf .i64 2 (List.replicate (k+1) 0++qs) _
    ·refine aaj (by simp[hlh]<;>omega) (aan (hK7 _ _ ?_));obtain rfl:lo=Q:=by omega
     have f5:aj (wK .i64 (List.replicate (k+1) 0++qs)) k [CV.d (.int .i64 (lo:Int))]=wK .i64 (List.replicate k 0++(lo::qs)):=by
      rw[fS _ (by simp;omega),pJ]
     have hk2:(k:Int)<((dO a).length:Int):=by omega
     have hk3:k<k+1+qs.length:=by omega
     refine aak λK8 hK8=>?_;simp[f5,hk,hk2,hk3];apply hK8;refine aaz 1 ?_;have hpr:=prG lo (by omega);have hle:vb*lo<=V:=by rw[<-hQ];exact Nat.mul_div_le _ _
     have hdf:=dfG V (vb*lo) (by omega) hle
     have hmod:V-vb*lo=V%vb:=by
      have:=ab3 V vb;rw[hQ]at this;omega
     rw[hmod]at hdf;refine aac ?_;simp[hbs,-ak];refine ag.KC (T:=2) (l:=[lo]) 2 9 1 (by simp[wK]) (by simp) hpr (by simp) (by simp) (by simp) ?_;simp;refine ag.p 2 9 hdf ?_;simp;apply hK5;refine aac ?_;simp[w9];refine⟨k,lo::qs,V%vb,Le.keys [(0,0,.cells true false 2 (wK .i64 (List.replicate k 0++lo::qs)))] 19 _ rfl rfl (by simp) (by simp) (by simp) ?_ ?_,⟨by simp;omega,bJ.2 ⟨by omega,h2⟩,Zz _ hvp,λh=>absurd h hkn,hnext⟩,by omega⟩
     ·intro e he;simp only[rP,Zd,or_false]at he;subst he;simpa using lf .i64 2 (List.replicate k 0++lo::qs) _
     ·simp[bP,hkn]
   refine aab ?_
   by_cases hln:n<(aK 1000000000 V).length
   ·obtain⟨r2,hr2⟩:∃r2,(aK 1000000000 V)[n]=r2:=⟨_,rfl⟩
    have hr2B:r2<1000000000:=by rw[<-hr2];exact hokV _ (bh _)
    have hr2g:(aK 1000000000 V).getD n 0=r2:=by rw[Y8,cy hln,hr2];rfl
    rw[hr2g]at hX
    have hix2:∀lv,aq prog 213 lv (nK .i64 (some (aK 1000000000 V))) (.c (.d (.int .i64 ((n:Nat):Int))))=some (.c (.d (.ptr [DV.int .i64 (r2:Int)])),[],[],True):=λlv=>by
     have:=gA (P:=prog) (T:=213) (lv:=lv) (k:=.i64) (k':=.i64) (o:=some (aK 1000000000 V)) (i:=n) (by simp) (by simpa using hln);rw[this];simp only[aX,hr2]
    have v1:i64.wrap (1000000000*(r2:Int))=((1000000000*r2:Nat):Int):=by rw[bF (by omega) (by omega)];omega
    have v2:i64.wrap ((r1:Int)+((1000000000*r2:Nat):Int))=(X:Int):=by rw[bF (by omega) (by omega)];omega
    refine aag (by simp[hln]<;>omega) (aac ?_);simp[hix2,v1,v2,-gA,-Int.natCast_mul];exact g1 _ _ (by simp) (by simp) (by simp) (by simp) (by simp) (by simp) (by simp) _ (by simp) (by simp)
   ·have hX0:X=r1:=by
     rw[Y8,aa3 (by omega)]at hX;simpa using hX
    refine aaj (by simp[hln]<;>omega) (aad ?_);simp;exact g1 _ _ (by simp) (by simp) (by simp) (by simp) (by simp) (by simp) (by simp[hX0]) _ (by simp) (by simp)
def Du(ha:A%2=0)(hb:B%2=1):Nat.gcd (A/2) B=Nat.gcd A B:=by
 have h:Nat.Coprime 2 B:=by
  have:Nat.gcd 2 B=Nat.gcd (B%2) 2:=Nat.gcd_rec 2 B;unfold Nat.Coprime;rw[this,hb];rfl
 have e:A=2*(A/2):=by omega
 conv=>rhs;rw[e]
 exact(Nat.Coprime.gcd_mul_left_cancel _ h).symm
def Gw(ha:A%2=0)(hb:B%2=0):2*Nat.gcd (A/2) (B/2)=Nat.gcd A B:=by
 rw[<-Nat.gcd_mul_left];congr 1<;>omega
def Kp(h:B<=A):Nat.gcd (A-B) B=Nat.gcd A B:=by
 conv=>rhs;rw[show A=(A-B)+B by omega]
 rw[Nat.gcd_add_self_left]
theorem KZ{tw:Nat}(h:2^tw<=vb)(hl:(aK 1000000000 vb).length<=n):tw<30*n:=by
 have h1:=qM (B:=1000000000) (by decide) (n:=vb);have h2:1000000000^(aK 1000000000 vb).length<=1000000000^n:=ZQ (by decide) hl;have h3:1000000000^n<=(2^30)^n:=abz (by decide) n;rw[<-aaV]at h3;exact(ack (by decide:1<2)).1 (aaT h (ZE h1 (Zf h2 h3)))
def Qp:(aK 1000000000 n).length=0↔n=0:=by
 rw[List.length_eq_zero_iff];exact eA (by decide)
def JQ(G:List (List DV))(A:Nat):aa prog G 321 [(nK .i64 (some (aK 1000000000 (A))))] (.c (.d (.bool (decide (A%2=1))))):=by
 have h:=Nu G (some (aK 1000000000 A))
 rwa[aX,bt (by decide)]at h
def Gs(G:List (List DV))(A:Nat)(h:(aK 1000000000 A).length<=100000):aa prog G 322 [(nK .i64 (some (aK 1000000000 (A))))] (nK .i64 (some (aK 1000000000 (A/2)))):=by
 have h:=IG G (some (aK 1000000000 A)) (bw (by decide) A).1 (by rw[aX];omega)
 rwa[aX,bt (by decide)]at h
def A1(G:List (List DV))(A B:Nat)(h:(aK 1000000000 A).length<=1000000)(h':(aK 1000000000 B).length<=1000000):aa prog G 324 [(nK .i64 (some (aK 1000000000 (A)))),(nK .i64 (some (aK 1000000000 (B))))] (nK .i64 (some (aK 1000000000 (A+B)))):=by
 have h:=Lf G (some (aK 1000000000 A)) (some (aK 1000000000 B)) (bw (by decide) A) (bw (by decide) B) h h'
 rwa[aX,aX,bt (by decide),bt (by decide)]at h
def y6(G:List (List DV))(A B:Nat)(h:(aK 1000000000 A).length<=1000000)(hle:B<=A):aa prog G 323 [(nK .i64 (some (aK 1000000000 (A)))),(nK .i64 (some (aK 1000000000 (B))))] (nK .i64 (some (aK 1000000000 (A-B)))):=by
 have hl:=c9 (B:=1000000000) (by decide) hle;have h:=n9 G (some (aK 1000000000 A)) (some (aK 1000000000 B)) (bw (by decide) A).1 (bw (by decide) B).1 h (by rw[aX];omega) (by rw[aX,aX,bt (by decide),bt (by decide)];exact hle)
 rwa[aX,aX,bt (by decide),bt (by decide)]at h
def p8(G:List (List DV))(A B:Nat):aa prog G 247 [(nK .i64 (some (aK 1000000000 (A)))),(nK .i64 (some (aK 1000000000 (B))))] (.c (.d (.int .i64 (ec A B)))):=by
 have h:=nu G (a:=some (aK 1000000000 A)) (b:=some (aK 1000000000 B)) (bw (by decide) A) (bw (by decide) B)
 rwa[aX,aX,bt (by decide),bt (by decide)]at h
theorem BP(G:List (List DV))(va vb:Nat)(ha0:0<va)(hb0:0<vb)(hal:(aK 1000000000 va).length<=100000)(hbl:(aK 1000000000 vb).length<=100000):
 aa prog G 274 [(nK .i64 (some (aK 1000000000 (va)))),(nK .i64 (some (aK 1000000000 (vb))))] (nK .i64 (some (aK 1000000000 (Nat.gcd va vb)))):=by
 have hdv:=tP G (some (aK 1000000000 va)) (some (aK 1000000000 vb)) (bw (by decide) va).1 (bw (by decide) vb) (by rw[aX];intro h;have:=(eA (by decide)).1 h;omega) hal hbl
 have hrm:Ln (some (aK 1000000000 va)) (some (aK 1000000000 vb))=some (aK 1000000000 (va%vb)):=by
  unfold Ln;rw[aX,aX,if_neg (by intro h;have:=(eA (by decide)).1 h;omega),bt (by decide),bt (by decide)]
 rw[hrm]at hdv;have dle:∀n,n<=vb->(aK 1000000000 n).length<=100000:=λn h=>Zf (c9 (by decide) h) hbl
 have tw_le:∀tw,2^tw<=vb->tw<3000000:=λtw h=>ZE (KZ h hbl) (by decide)
 have hg0:Nat.gcd va vb=Nat.gcd (va%vb) vb:=by rw[aby,Nat.gcd_rec]
 have oddG:∀A,aa prog G 321 [(nK .i64 (some (aK 1000000000 (A))))] (.c (.d (.bool (decide (A%2=1))))):=λA=>JQ G A
 have halfG:∀A,A<=vb->aa prog G 322 [(nK .i64 (some (aK 1000000000 (A))))] (nK .i64 (some (aK 1000000000 (A/2)))):=λA h=>Gs G A (dle A h)
 have sumG:∀A,A<=vb->aa prog G 324 [(nK .i64 (some (aK 1000000000 (A)))),(nK .i64 (some (aK 1000000000 (A))))] (nK .i64 (some (aK 1000000000 (A+A)))):=λA h=>A1 G A A (by have:=dle A h;omega) (by have:=dle A h;omega)
 have diffG:∀A B,A<=vb->B<=A->aa prog G 323 [(nK .i64 (some (aK 1000000000 (A)))),(nK .i64 (some (aK 1000000000 (B))))] (nK .i64 (some (aK 1000000000 (A-B)))):=λA B h h'=>y6 G A B (by have:=dle A h;omega) h'
 have cmpG:∀A B,aa prog G 247 [(nK .i64 (some (aK 1000000000 (A)))),(nK .i64 (some (aK 1000000000 (B))))] (.c (.d (.int .i64 (ec A B)))):=λA B=>p8 G A B
 refine aa.en func274 rfl λ_=>aab ?_;refine aak λK hK=>?_;simp;refine ag.pure 0 9 hdv (rT _ _) (by simp) rfl ?_;simp;apply hK;refine aaa λK hK=>aab ?_
 by_cases hm:va%vb=0
 ·have h1:aK 1000000000 (va%vb)=[]:=(eA (by decide)).2 hm;have hgv:Nat.gcd va vb=vb:=by rw[hg0,hm,acv]
  rw[hgv];refine aag (by simp[h1]<;>omega) (aab ?_);exact aae (au.rt (t:=4) rfl 9 (by simp))
 have h1:¬aK 1000000000 (va%vb)=[]:=λh=>hm ((eA (by decide)).1 h)
 have hmlt:va%vb<vb:=Zz _ hb0;refine aaj (by simp[h1]<;>omega) (aad (hK _ _ (aab ?_)));refine aaa λK hK=>aaf ?_
 refine aao (λ(p:Nat×Nat×Nat)=>⟨aU [(0,(nK .i64 (some (aK 1000000000 (p.1))))),(1,(nK .i64 (some (aK 1000000000 (p.2.1))))),(5,.c (.d (.int .i64 (p.2.2:Int))))],λ_=>.hole⟩) 0
  (λp=>0<p.1/\0<p.2.1/\p.1<=vb/\p.2.1<=vb/\2^p.2.2*Nat.gcd p.1 p.2.1=Nat.gcd va vb/\2^p.2.2*p.2.1<=vb) (λp=>p.1) (va%vb,vb,0) (Le.mk' _ rfl bg (by simp)) ⟨by omega,hb0,by omega,aY _,by simp[hg0],by simp⟩ ?_
 rintro⟨A,B,tw⟩ ⟨hA,hB,hA2,hB2,hg,ht⟩;simp only at hA hB hA2 hB2 hg ht;have htw:tw<3000000:=tw_le tw (Zf (acr _ hB) ht);have wt:=bF (n:=(tw:Int)+1) (by omega) (by omega);have oA:=oddG A;have oB:=oddG B;have hAl:=dle (A) (by omega);have hBl:=dle (B) (by omega)
 have st2:(A%2=1\/B%2=1)->∀(fr:Nat->AV) (κ:Nat),fr 0=(nK .i64 (some (aK 1000000000 (A))))->fr 1=(nK .i64 (some (aK 1000000000 (B))))->fr 5=.c (.d (.int .i64 (tw:Int)))->K ⟨fr,λ_=>.hole⟩ κ:=by
  intro hodd fr κ z0 z1 z5;apply hK;refine aaa λK hK=>aaf ?_
  refine aao (λ(p:Nat×Nat)=>⟨aU [(0,(nK .i64 (some (aK 1000000000 (p.1))))),(1,(nK .i64 (some (aK 1000000000 (p.2))))),(5,.c (.d (.int .i64 (tw:Int))))],λ_=>.hole⟩) 0
   (λp=>0<p.2/\p.1<=vb/\p.2<=vb/\(p.1%2=1\/p.2%2=1)/\2^tw*Nat.gcd p.1 p.2=Nat.gcd va vb) (λp=>p.1+p.2) (A,B) (Le.mk' _ rfl bg (by simp[z0,z1,z5])) ⟨hB,hA2,hB2,hodd,hg⟩ ?_
  rintro⟨C,D⟩ ⟨i1,i2,i3,i4,i5⟩;simp only at i1 i2 i3 i4 i5
  have fin:∀(Z:Nat) (fr:Nat->AV) (κ:Nat),Z<=vb->2^tw*Z=Nat.gcd va vb->fr 1=(nK .i64 (some (aK 1000000000 (Z))))->fr 5=.c (.d (.int .i64 (tw:Int)))->K ⟨fr,λ_=>.hole⟩ κ:=by
   intro Z fr κ hZ0 hZ z1 z5;apply hK;refine aaa λK hK=>aab ?_;refine aaf ?_;refine aao (λ(i:Nat)=>⟨aU [(1,(nK .i64 (some (aK 1000000000 (Z*2^i))))),(5,.c (.d (.int .i64 (tw:Int)))),(6,.c (.d (.int .i64 (i:Int))))],λ_=>.hole⟩) 0 (λi=>i<=tw) (λi=>tw-i) 0 (Le.mk' _ rfl bg (by simp[z1,z5])) (Zi _) ?_;intro i hi
   try simp only at hi
   refine aaa λK2 hK2=>aab ?_
   by_cases hlt:i<tw
   ·have wi:=bF (n:=(i:Int)+1) (by omega) (by omega);have hgv:Nat.gcd va vb<=vb:=Nat.gcd_le_right _ hb0
    have hle:Z*2^i<=vb:=by
     rw[Zk];exact Zf (Zq Z (ZQ (by decide) (aaX hlt))) (by rw[hZ];exact hgv)
    have hll:=dle (Z*2^i) (by omega);have hs:=sumG (Z*2^i) hle;have he:Z*2^i+Z*2^i=Z*2^(i+1):=by rw[Zl,<-Zn];omega
    rw[he]at hs;refine aag (by simp[hlt]<;>omega) (aad (hK2 _ _ (aaa λK5 hK5=>aaf (AW.m0 0 hs (hK5 _ _ ?_)))));refine aac ?_;simp[wi];exact⟨i+1,Le.mk' _ rfl bg (by simp),by omega,by omega⟩
   ·obtain rfl:i=tw:=by omega
    refine aaj (by simp[hlt]<;>omega) (aan (hK _ _ (aab ?_)));rw[<-hZ,Zk];exact aae (au.rt (t:=4) rfl 9 (by simp))
  have hCl:=dle (C) (by omega);refine aaa λK2 hK2=>aab ?_
  by_cases hC0:C=0
  ·have h2:¬0<(aK 1000000000 C).length:=by rw[Nat.pos_iff_ne_zero];exact λh=>h (Qp.2 hC0)
   subst hC0;rw[acv]at i5;refine aaj (by simp[h2]<;>omega) (aan ?_);simp;exact fin D _ _ i3 i5 (by simp) (by simp)
  have h2:0<(aK 1000000000 C).length:=abx λh=>hC0 (Qp.1 h)
  refine aag (by simp[h2]<;>omega) (aad (hK2 _ _ (aaf (aaa λK5 hK5=>aaf ?_))))
  refine aao (λ(C':Nat)=>⟨aU [(0,(nK .i64 (some (aK 1000000000 (C'))))),(1,(nK .i64 (some (aK 1000000000 (D))))),(5,.c (.d (.int .i64 (tw:Int))))],λ_=>.hole⟩) 0
   (λC'=>0<C'/\C'<=C/\(C' % 2=1\/D%2=1)/\Nat.gcd C' D=Nat.gcd C D) (λC'=>C') C (Le.mk' _ rfl bg (by simp)) ⟨by omega,aY _,i4,rfl⟩ ?_
  rintro C' ⟨j1,j2,j3,j4⟩;have oC:=oddG C';have hhC:=halfG C' (by omega);refine aaa λK6 hK6=>aak λK7 hK7=>?_;simp
  by_cases c1:C' % 2=1
  rotate_left
  ·have hd1:D%2=1:=by omega
   refine ag.p 0 9 oC ?_;simp[c1];apply hK7;refine aai (aad (hK6 _ _ (aaf (aac ?_))));simp;refine ag.p 0 9 hhC ?_;simp;exact⟨C' / 2,Le.mk' _ rfl bg (by simp),⟨by omega,by omega,.inr hd1,by rw[Du (by omega) hd1,j4]⟩,by omega⟩
  refine ag.p 0 9 oC ?_;simp[c1];apply hK7;refine aah (aan (hK5 _ _ (aaa λK8 hK8=>aaf ?_)))
  refine aao (λ(D':Nat)=>⟨aU [(0,(nK .i64 (some (aK 1000000000 (C'))))),(1,(nK .i64 (some (aK 1000000000 (D'))))),(5,.c (.d (.int .i64 (tw:Int))))],λ_=>.hole⟩) 0
   (λD'=>0<D'/\D'<=D/\Nat.gcd C' D'=Nat.gcd C D) (λD'=>D') D (Le.mk' _ rfl bg (by simp)) ⟨i1,aY _,j4⟩ ?_
  rintro D' ⟨l1,l2,l3⟩;have oD:=oddG D';have hhD:=halfG D' (by omega);refine aaa λK9 hK9=>aak λK10 hK10=>?_;simp
  by_cases d1:D' % 2=1
  rotate_left
  ·refine ag.p 0 9 oD ?_;simp[d1];apply hK10;refine aai (aad (hK9 _ _ (aaf (aac ?_))));simp;refine ag.p 0 9 hhD ?_;simp;exact⟨D' / 2,Le.mk' _ rfl bg (by simp),⟨by omega,by omega,by rw[aby,Du (by omega) c1,aby,l3]⟩,by omega⟩
  have hDl:=dle (D') (by omega);refine ag.p 0 9 oD ?_;simp[d1];apply hK10;refine aah (aan (hK8 _ _ ?_));rw[<-l3]at i5;refine aaa λK11 hK11=>aaa λK12 hK12=>?_
  by_cases hD1:D'=1
  ·subst hD1;have e1:aK 1000000000 1=[1]:=(ig (by decide:2<=1000000000) (l:=[1]) ⟨by intro d hd;simp at hd;omega,by simp⟩ (by simp)).symm;have e2:=gA (P:=prog) (T:=213) (lv:=λ_=>.hole) (k:=.i64) (k':=.i64) (o:=some [1]) (i:=0) (by simp) (by simp);simp only[abK,aX,ZJ]at e2;rw[e1];rw[abO,Z0]at i5;refine aac ?_;simp[e2,-gA];apply hK12;refine aai (aan ?_);simp;exact fin 1 _ _ (by omega) (by rw[Z0];exact i5) (by simp[e1]) (by simp)
  have one:∀lv:Key->LB,(aK 1000000000 D').length=1->aq prog 213 lv (nK .i64 (some (aK 1000000000 D'))) (.c (.d (.int .i64 0)))=some (.c (.d (.ptr [DV.int .i64 (D':Int)])),[],[],True):=λlv h=>by
   have h0:0<(dO (some (aK 1000000000 D'))).length:=by rw[aX];omega
   have h2:=gA (P:=prog) (T:=213) (lv:=lv) (k:=.i64) (k':=.i64) (o:=some (aK 1000000000 D')) (i:=0) (by simp) h0
   have hx:(aK 1000000000 D')[0]'(by rw[h];decide)=D':=by
    obtain⟨x,hx⟩:∃x,aK 1000000000 D'=[x]:=by match hd:aK 1000000000 D',h with|[x],_=>exact⟨x,rfl⟩
    have hv:=bt (B:=1000000000) (by decide) D';rw[hx]at hv;simp at hv;simp[hx,hv]
   simp only[abK,aX,hx]at h2;exact h2
  have hD1':¬(D':Int)=1:=by omega
  have rest:∀(fr:Nat->AV) (κ:Nat),fr 0=(nK .i64 (some (aK 1000000000 (C'))))->fr 1=(nK .i64 (some (aK 1000000000 (D'))))->fr 5=.c (.d (.int .i64 (tw:Int)))->K11 ⟨fr,λ_=>.hole⟩ κ:=by
   intro fr κ z0 z1 z5;apply hK11;refine aaa λK13 hK13=>?_
   have fin2:∀(X Y:Nat) (fr:Nat->AV) (κ:Nat),Y<=X->X<=vb->0<Y->Y%2=1->X%2=1->X+Y=C'+D'->Nat.gcd X Y=Nat.gcd C' D'->fr 0=(nK .i64 (some (aK 1000000000 (X))))->fr 1=(nK .i64 (some (aK 1000000000 (Y))))->fr 5=.c (.d (.int .i64 (tw:Int)))->K13 ⟨fr,λ_=>.hole⟩ κ:=by
    intro X Y fr κ hXY hXv hY hY1 hX1 hs hgg z0 z1 z5;have hdf:=diffG X Y hXv hXY;apply hK13;refine aac ?_;simp[z0,z1];refine ag.p 0 9 hdf ?_;simp;refine⟨X-Y,Y,Le.mk' _ rfl bg (by simp[z1,z5]),⟨hY,by omega,by omega,.inr hY1,by rw[Kp hXY,hgg];exact i5⟩,by omega⟩
   have hcm:=cmpG C' D';refine aaa λK14 hK14=>?_
   by_cases hlt:C'<D'
   ·have hc:ec C' D'<0:=by rw[jO hlt];omega
    refine aac ?_;simp[z0,z1];refine ag.p 0 9 hcm ?_;simp[hc];apply hK14;refine aai (aac ?_);simp[z0,z1];exact fin2 D' C' _ _ (by omega) (by omega) j1 c1 d1 (by omega) (aby _ _) (by simp) (by simp) (by simp[z5])
   ·have hc:¬ec C' D'<0:=by
     by_cases e:C'=D'
     ·rw[nU e];omega
     ·rw[kI (by omega)];omega
    refine aac ?_;simp[z0,z1];refine ag.p 0 9 hcm ?_;simp[hc];apply hK14;refine aah (aad ?_);simp;exact fin2 C' D' _ _ (by omega) (by omega) l1 d1 c1 rfl rfl (by simp[z0]) (by simp[z1]) (by simp[z5])
  by_cases hl1:(aK 1000000000 D').length=1
  ·have o1:=λlv=>one lv hl1
   refine aac ?_;simp[hl1,o1,hD1',hD1,-gA];apply hK12;refine aah (aad ?_);simp;exact rest _ _ (by simp) (by simp) (by simp)
  ·have hl1':¬((aK 1000000000 D').length:Int)=1:=by omega
   refine aau hl1 hl1' (hK12 _ _ ?_);refine aah (aad ?_);simp;exact rest _ _ (by simp) (by simp) (by simp)
 refine aaa λK2 hK2=>aak λK3 hK3=>?_;simp
 by_cases a1:A%2=1
 ·refine ag.p 0 9 oA ?_;simp[a1];apply hK3;refine aah (aan ?_);simp;exact st2 (.inl a1) _ _ (by simp) (by simp) (by simp)
 by_cases b1:B%2=1
 ·refine ag.p 0 9 oA ?_;simp[a1];refine ag.p 0 9 oB ?_;simp[b1];apply hK3;refine aah (aan ?_);simp;exact st2 (.inr b1) _ _ (by simp) (by simp) (by simp)
 have hhA:=halfG A (by omega);have hhB:=halfG B (by omega);refine ag.p 0 9 oA ?_;simp[a1];refine ag.p 0 9 oB ?_;simp[b1];apply hK3;refine aai (aad (hK2 _ _ (aaf (aak λK5 hK5=>?_))));simp;refine ag.p 0 9 hhA ?_;simp;refine ag.p 0 9 hhB ?_;simp;apply hK5;refine aac ?_;simp[wt];refine⟨A/2,B/2,tw+1,Le.mk' _ rfl bg (by simp),⟨by omega,by omega,by omega,by omega,?_,?_⟩,by omega⟩
 ·rw[Zl,Zn,Gw (by omega) (by omega)];exact hg
 ·have e:2^(tw+1)*(B/2)=2^tw*(2*(B/2)):=by rw[Zl,Zn]
  rw[e,show 2*(B/2)=B by omega];exact ht
def eV(x:Rat):Int:=if x.num=0 then 0 else if x.num<0 then -1 else 1
def jV(x:Rat):Option (List Nat):=if x.num=0 then none else some (aK 1000000000 x.num.natAbs)
def mA(x:Rat):Option (List Nat):=if x.num=0 then none else some (aK 1000000000 x.den)
abbrev dD(x:Rat):AV:=rA (eV x) (jV x) (mA x)
def mT(x:Rat):dO (jV x)=aK 1000000000 x.num.natAbs:=by
 unfold jV;split
 ·rename_i h;rw[h];exact Ry.symm
 ·rfl
def DA{x:Rat}(h:x.num=0):x.den=1:=by
 have:=Rat.num_eq_zero.1 h;subst this;rfl
theorem R2:aK 1000000000 1=[1]:=(ig (by decide:2<=1000000000) (l:=[1]) ⟨by intro d hd;simp at hd;omega,by simp⟩ (by simp)).symm
def RB(x:Rat):LG (eV x) (mA x)=some (aK 1000000000 x.den):=by
 unfold LG eV mA
 by_cases h:x.num=0
 ·rw[if_pos h,if_pos rfl,DA h,R2]
 ·rw[if_neg h,if_neg h,if_neg (by split<;>omega)]
def QZ(n:Nat):(aK 1000000000 n).length<=2*nl n:=by
 refine cN (by decide) ?_;rw[aaV];exact ZE (yC n) (abz (by decide) _)
def uP(G:List (List DV)):aa prog G 221 [] (nK .i64 (some (aK 1000000000 (1)))):=by rw[R2];exact Ei G
def A2(G:List (List DV))(A B:Nat)(hB:0<B)(h:(aK 1000000000 A).length<=100000)(h':(aK 1000000000 B).length<=100000):∃o,aa prog G 275 [(nK .i64 (some (aK 1000000000 (A)))),(nK .i64 (some (aK 1000000000 (B))))] (.tup [(nK .i64 (some (aK 1000000000 (A/B)))),nK .i64 o]):=by
 have h:=tP G (some (aK 1000000000 A)) (some (aK 1000000000 B)) (bw (by decide) A).1 (bw (by decide) B) (by rw[aX];intro e;have:=(eA (by decide)).1 e;omega) h h';rw[aX,aX,bt (by decide),bt (by decide)]at h;exact⟨_,h⟩
def O8(neg:Bool){Q:Nat}(hP:P≠0)(hQ:Q≠0):dD (mkRat (dX neg P) Q)=rA (if neg then -1 else 1) (some (aK 1000000000 (P/Nat.gcd P Q))) (some (aK 1000000000 (Q/Nat.gcd P Q))):=by
 obtain⟨n1,n2⟩:=jc neg (a:=P) hQ;have hg:P/Nat.gcd P Q≠0:=aaW (Nat.div_pos (Nat.le_of_dvd (by omega) (ab7 _ _)) (abN _ (by omega)))
 have h0:(mkRat (dX neg P) Q).num≠0:=by
  rw[n1];unfold dX;split<;>omega
 unfold dD eV jV mA;rw[if_neg h0,if_neg h0,if_neg h0,n1,n2,s5]
 cases neg with
 |true=>
  rw[if_pos (show dX true (P/Nat.gcd P Q)<0 from Int.neg_neg_of_pos (Int.ofNat_lt.2 (abx hg)))];rfl
 |false=>
  rw[if_neg (show ¬dX false (P/Nat.gcd P Q)<0 from Int.not_lt.2 (aaU _))];rfl
def Jw:dD 0=rA 0 none none:=rfl
attribute [local irreducible] bO
theorem Jp(G:List (List DV))(s:Int)(neg:Bool)(P Q:Nat)(p:Option (List Nat))(hp:dO p=aK 1000000000 P)(hs:P≠0->s=if neg then -1 else 1)(hQ:0<Q)(hPl:(aK 1000000000 P).length<=100000)(hQl:(aK 1000000000 Q).length<=100000):
 aa prog G 219 [.c (.d (.int .i64 s)),nK .i64 p,(nK .i64 (some (aK 1000000000 (Q))))] (dD (mkRat (dX neg P) Q)):=by
 have oneG:=uP G;have cmG:=λA B=>p8 G A B
 by_cases hP0:P=0
 ·subst hP0;have e0:dO p=[]:=by rw[hp];exact Ry
  have e2:dX neg 0=0:=by cases neg<;>rfl
  have e1:mkRat (dX neg 0) Q=0:=by rw[e2];exact ab8 Q
  rw[e1,Jw];refine aa.enc func219 rfl (λlv=>fC lv _ _ _) λ_=>aab ?_;refine aaa λK hK=>aam e0 ?_;refine aai (aam @Ub ?_);refine aal ?_;refine bO.cell (T:=215) (t:=6) (k:=0) (off:=0) (own:=true) (fz:=false) (U:=215) (cs:=[.d (.int .i64 0),.d .nilsl,.d .nilsl]) rfl ?_ ?_ ?_
  ·simp
  ·simp[aj]
  ·rw[Y9,js];rfl
 have hp1:p=some (aK 1000000000 P):=by
  cases p with
  |none=>exact absurd ((eA (by decide)).1 hp.symm) hP0
  |some l=>exact congrArg some hp
 subst hp1;have hs1:=hs hP0;have hs0:¬s=0:=by rw[hs1];split<;>omega
 rw[O8 neg hP0 (by omega),<-hs1];have hdv:=BP G P Q (by omega) hQ hPl hQl;obtain⟨g,hg⟩:∃g,Nat.gcd P Q=g:=⟨_,rfl⟩
 have hg0:0<g:=by rw[<-hg];exact abN _ (by omega)
 have hgl:(aK 1000000000 g).length<=100000:=Zf (c9 (by decide) (by rw[<-hg];exact Nat.gcd_le_right _ hQ)) hQl;obtain⟨o1,hd1⟩:=A2 G P g hg0 hPl hgl;obtain⟨o2,hd2⟩:=A2 G Q g hg0 hQl hgl;rw[hg]at hdv⊢;have hne:¬aK 1000000000 P=[]:=λe=>hP0 ((eA (by decide)).1 e)
 have c0:∀A B,(ec A B=0)↔A=B:=λA B=>by unfold ec;(repeat' split)<;>omega
 refine aa.enc func219 rfl (λlv=>fC lv _ _ _) λ_=>aab ?_;refine aaa λK hK=>aap hne hs0 ?_;refine aah (aad (hK _ _ (aaa λK hK=>?_)))
 by_cases h1:P=1
 ·have hc:=(c0 P 1).2 h1;have hg1:g=1:=by rw[<-hg,h1,Nat.gcd_one_left]
  refine aak λK1 hK1=>?_;simp;refine ag.p 1 9 oneG ?_;simp;refine ag.p 1 9 (cmG P 1) ?_;simp[hc];apply hK1;refine aai (aap @bR @fX ?_);refine aal ?_;refine bO.cell (T:=215) (t:=6) (k:=0) (off:=0) (own:=true) (fz:=false) (U:=215) (cs:=[.d (.int .i64 s),rC (some (aK 1000000000 P)),rC (some (aK 1000000000 Q))]) rfl ?_ ?_ ?_
  ·simp
  ·simp[aj]
  ·rw[Y9,js];simp[hg1]
 have hc1:¬ec P 1=0:=λe=>h1 ((c0 P 1).1 e)
 by_cases h2:Q=1
 ·have hc:=(c0 Q 1).2 h2;have hg1:g=1:=by rw[<-hg,h2,abO]
  refine aak λK1 hK1=>?_;simp;refine ag.p 1 9 oneG ?_;simp;refine ag.p 1 9 (cmG P 1) ?_;simp[hc1];refine ag.p 1 9 oneG ?_;simp;refine ag.p 1 9 (cmG Q 1) ?_;simp[hc];apply hK1;refine aai (aap @bR @fX ?_);refine aal ?_;refine bO.cell (T:=215) (t:=6) (k:=0) (off:=0) (own:=true) (fz:=false) (U:=215) (cs:=[.d (.int .i64 s),rC (some (aK 1000000000 P)),rC (some (aK 1000000000 Q))]) rfl ?_ ?_ ?_
  ·simp
  ·simp[aj]
  ·rw[Y9,js];simp[hg1]
 have hc2:¬ec Q 1=0:=λe=>h2 ((c0 Q 1).1 e)
 refine aak λK1 hK1=>?_;simp;refine ag.p 1 9 oneG ?_;simp;refine ag.p 1 9 (cmG P 1) ?_;simp[hc1];refine ag.p 1 9 oneG ?_;simp;refine ag.p 1 9 (cmG Q 1) ?_;simp[hc2];apply hK1;refine aah (aad (hK _ _ (aar 1 hdv ?_)));refine aaa λK hK=>?_
 have fin:∀(fr:Nat->AV) (κ:Nat),fr 0=.c (.d (.int .i64 s))->fr 1=(nK .i64 (some (aK 1000000000 (P/g))))->fr 2=(nK .i64 (some (aK 1000000000 (Q/g))))->fr 6=.c (.ptr 0 0) ->
  K ⟨fr,az (λ_=>.hole) 0 (.cells true false 215 [.d (.int .i64 0),.d .nilsl,.d .nilsl])⟩ κ:=by
  intro fr κ z0 z1 z2 z6;apply hK;refine AW.f6 z0 z1 z2 z6 @fX @bR ?_;refine aal ?_;refine bO.cell (T:=215) (t:=6) (k:=0) (off:=0) (own:=true) (fz:=false) (U:=215) (cs:=[.d (.int .i64 s),rC (some (aK 1000000000 (P/g))),rC (some (aK 1000000000 (Q/g)))]) rfl ?_ ?_ ?_
  ·simp[z6]
  ·simp[aj]
  ·rw[Y9,js]
 by_cases hg1:g=1
 ·have hc:=(c0 g 1).2 hg1;refine aak λK1 hK1=>?_;simp;refine ag.p 1 9 oneG ?_;simp;refine ag.p 1 9 (cmG g 1) ?_;simp[hc];apply hK1;refine aah (aad ?_);simp;exact fin _ _ (by simp) (by simp[hg1]) (by simp[hg1]) (by simp)
 ·have hc:¬ec g 1=0:=λe=>hg1 ((c0 g 1).1 e)
  refine aak λK1 hK1=>?_;simp;refine ag.p 1 9 oneG ?_;simp;refine ag.p 1 9 (cmG g 1) ?_;simp[hc];apply hK1;refine aai (aak λK1 hK1=>?_);simp;refine ag.pure 1 9 hd1 (rT _ _) (by simp) (by simp) ?_;simp;apply hK1;refine aac ?_;simp;refine ag.pure 1 9 hd2 (rT _ _) (by simp) (by simp) ?_;simp;exact fin _ _ (by simp) (by simp) (by simp) (by simp)
end Go.Am
namespace Go.Am
open Go.Am.Ty Go.Proofs N
attribute [local irreducible] bO
def xP(x:Rat):eV x=0\/eV x=1\/eV x = -1:=by unfold eV;split<;>(try split)<;>simp
def kZ{x:Rat}:eV x=0↔x.num=0:=by unfold eV;split<;>(try split)<;>simp_all
def pE{x:Rat}(h:x.num≠0):eV x=if decide (x.num<0)then -1 else 1:=by
 unfold eV;rw[if_neg h];simp
def Ic(x:Rat):(iD x).num=(x.num.natAbs:Int)/\(iD x).den=x.den:=by
 unfold iD;split
 ·rename_i h
  have:x.num<0:=by
   have:=(Rat.lt_iff x 0).1 h;simpa using this
  rw[Rat.neg_num,Rat.neg_den];exact⟨by omega,rfl⟩
 ·rename_i h
  have:¬x.num<0:=λhn=>h ((Rat.lt_iff x 0).2 (by simpa using hn))
  exact⟨by omega,rfl⟩
def MZ(x:Rat):dD (-x)=rA (-eV x) (jV x) (mA x):=by
 unfold dD eV jV mA;rw[Rat.neg_num,Rat.neg_den,Int.natAbs_neg]
 by_cases h:x.num=0
 ·simp[h]
 ·by_cases h2:x.num<0
  ·have h3:¬0<x.num:=by omega
   simp[h,h2,h3]
  ·have h3:0<x.num:=by omega
   simp[h,h2,h3]
def LO(x:Rat):dD (iD x)=rA (eV x*eV x) (jV x) (mA x):=by
 obtain⟨e1,e2⟩:=Ic x;unfold dD eV jV mA;rw[e1,e2]
 by_cases h:x.num=0
 ·rw[if_pos h,if_pos h,if_pos h,if_pos (by omega),if_pos (by omega),if_pos (by omega)];rfl
 ·rw[if_neg h,if_neg h,if_neg h,if_neg (by omega),if_neg (by omega),if_neg (by omega),if_neg (by omega)];have e3:((x.num.natAbs:Int)).natAbs=x.num.natAbs:=by omega
  rw[e3]
  by_cases h2:x.num<0
  ·rw[if_pos h2];rfl
  ·rw[if_neg h2];rfl
def MT{n L:Nat}(h:nl n<=L):(aK 1000000000 n).length<=2*L:=Zf (QZ n) (by omega)
def lp(G:List (List DV))(x:Rat):aa prog G 249 [dD x] (.c (rC (some (aK 1000000000 x.den)))):=by
 have:=E2 G (eV x) (jV x) (mA x)
 rwa[RB]at this
def iw(G:List (List DV))(p q:Option (List Nat))(A B L:Nat)(hp:dO p=aK 1000000000 A)(hq:dO q=aK 1000000000 B)(hA:nl A<=L)(hB:nl B<=L)(hL:L<=400000):aa prog G 248 [.c (rC p),.c (rC q)] (.c (rC (some (aK 1000000000 (A*B))))):=by
 have h1:=MT hA;have h2:=MT hB;have h:=tu G p q (by rw[hp];exact(bw (by decide) _).1) (by rw[hq];exact(bw (by decide) _).1) (by rw[hp];omega) (by rw[hq];omega);rw[hp,hq,bt (by decide),bt (by decide)]at h;rw[<-fX,<-fX,<-fX];exact h
def C6(G:List (List DV))(A B L:Nat)(hA:nl A<=L)(hB:nl B<=L)(hL:L<=400000):aa prog G 324 [.c (rC (some (aK 1000000000 A))),.c (rC (some (aK 1000000000 B)))] (.c (rC (some (aK 1000000000 (A+B))))):=by
 have h1:=MT hA;have h2:=MT hB;have:=A1 G A B (by omega) (by omega);rwa[fX,fX,fX]at this
def D0(G:List (List DV))(A B L:Nat)(hA:nl A<=L)(hL:L<=400000)(h:B<=A):aa prog G 323 [.c (rC (some (aK 1000000000 A))),.c (rC (some (aK 1000000000 B)))] (.c (rC (some (aK 1000000000 (A-B))))):=by
 have h1:=MT hA;have:=y6 G A B (by omega) h;rwa[fX,fX,fX]at this
def zT(G:List (List DV))(A B:Nat):aa prog G 247 [.c (rC (some (aK 1000000000 A))),.c (rC (some (aK 1000000000 B)))] (.c (.d (.int .i64 (ec A B)))):=by
 have:=p8 G A B;rwa[fX,fX]at this
def sA(G:List (List DV))(s:Int)(neg:Bool)(P Q L:Nat)(p:Option (List Nat))(hp:dO p=aK 1000000000 P)(hs:P≠0->s=if neg then -1 else 1)(hQ:0<Q)(hP:nl P<=L)(hQl:nl Q<=L)(hL:L<=50000):
 aa prog G 219 [.c (.d (.int .i64 s)),.c (rC p),.c (rC (some (aK 1000000000 Q)))] (dD (mkRat (dX neg P) Q)):=by
 have h1:=MT hP;have h2:=MT hQl;have:=Jp G s neg P Q p hp hs hQ (by omega) (by omega);rwa[fX,fX]at this
def L6(G:List (List DV))(x:Rat):aa prog G 270 [dD x] (dD (-x)):=by
 have hr:=xP x;have hw:=bF (n:=-eV x) (by omega) (by omega);rw[MZ];refine aa.enc func270 rfl (λlv=>fC lv _ _ _) λ_=>aab ?_;refine aap hw @bR ?_;refine aal ?_;refine bO.cell (T:=215) (t:=2) (k:=1) (off:=0) (own:=true) (fz:=false) (U:=215) (cs:=[.d (.int .i64 (-eV x)),rC (jV x),rC (mA x)]) rfl ?_ ?_ ?_
 ·simp
 ·simp[aj]
 ·rw[Y9,js]
def y4(G:List (List DV))(x:Rat):aa prog G 290 [dD x] (dD (iD x)):=by
 have hr:=xP x;have hw:i64.wrap (eV x*eV x)=eV x*eV x:=by rcases hr with h|h|h<;>rw[h]<;>rfl
 rw[LO];refine aa.enc func290 rfl (λlv=>fC lv _ _ _) λ_=>aab ?_;refine aap hw @bR ?_;refine aal ?_;refine bO.cell (T:=215) (t:=2) (k:=1) (off:=0) (own:=true) (fz:=false) (U:=215) (cs:=[.d (.int .i64 (eV x*eV x)),rC (jV x),rC (mA x)]) rfl ?_ ?_ ?_
 ·simp
 ·simp[aj]
 ·rw[Y9,js]
def zw(G:List (List DV))(x:Rat):aa prog G 218 [dD x] (.c (.d (.bool (decide (x.den=1))))):=by
 have hb:=lp G x;have ho:=uP G;rw[fX]at ho;have hc:=zT G x.den 1;have e:(ec x.den 1=0)↔x.den=1:=by unfold ec;(repeat' split)<;>omega
 refine aa.en func218 rfl λ_=>aab ?_;refine aak λK hK=>?_;simp;refine ag.p 1 9 hb ?_;simp;refine ag.p 1 9 ho ?_;simp;refine ag.p 1 9 hc ?_;simp;apply hK;exact aae (au.rt (t:=2) rfl 9 (by simp[e]))
def HW(x:Rat):uh (decide (x.num<0)) (cV x.num.natAbs)=eV x:=by
 unfold uh eV;rw[mb];simp only[eA (by decide:2<=4294967296),decide_eq_true_eq]
 by_cases h:x.num=0
 ·rw[if_pos (by omega),if_pos h]
 ·rw[if_neg (by omega),if_neg h]
def RL(x y:Rat):iS x y=if eV x<eV y then -1 else if eV y<eV x then 1 else eV x*ec (x.num.natAbs*y.den) (y.num.natAbs*x.den):=by
 rw[<-H6];unfold Rq;rw[HW,HW,pn,pn,uG,uG]
 by_cases h:eV x=eV y
 ·rw[if_pos h,if_neg (by omega),if_neg (by omega)]
 ·rw[if_neg h]
  by_cases h2:eV x<eV y
  ·rw[if_pos h2,if_pos h2]
  ·rw[if_neg h2,if_neg h2,if_pos (by omega)]
def si(G:List (List DV))(x y:Rat)(hx:j6 x 20000)(hy:j6 y 20000):aa prog G 169 [dD x,dD y] (.c (.d (.int .i64 (iS x y)))):=by
 have b1:=lp G x;have b2:=lp G y;have m1:=iw G (jV x) (some (aK 1000000000 y.den)) x.num.natAbs y.den 20000 (mT x) rfl hx.1 hy.2 (by decide);have m2:=iw G (jV y) (some (aK 1000000000 x.den)) y.num.natAbs x.den 20000 (mT y) rfl hy.1 hx.2 (by decide);have cc:=zT G (x.num.natAbs*y.den) (y.num.natAbs*x.den);have hr:=RL x y
 have hw:i64.wrap (eV x*ec (x.num.natAbs*y.den) (y.num.natAbs*x.den))=eV x*ec (x.num.natAbs*y.den) (y.num.natAbs*x.den):=by
  have h1:=EV (x.num.natAbs*y.den) (y.num.natAbs*x.den);rcases xP x with h|h|h<;>rw[h]<;>exact bF (by omega) (by omega)
 rw[hr];refine aa.en func169 rfl λ_=>aab ?_;refine aaa λK hK=>aaf (aab ?_)
 by_cases h1:eV x<eV y
 ·refine aag (by simp[h1]<;>omega) (aab ?_);exact aae (au.rt (t:=4) rfl 9 (by simp[h1]))
 ·refine aaj (by simp[h1]<;>omega) (aab ?_)
  by_cases h2:eV y<eV x
  ·refine aag (by simp[h2]<;>omega) (aab ?_);exact aae (au.rt (t:=4) rfl 9 (by simp[h1,h2]))
  ·refine aaj (by simp[h2]<;>omega) (aad (hK _ _ (aaa λK hK=>?_)));refine aaq mixed (by kernel_rfl) rfl ?_;simp;refine ag.p 2 9 b2 ?_;simp;refine ag.p 2 9 m1 ?_;simp;refine ag.p 2 9 b1 ?_;simp;refine ag.p 2 9 m2 ?_;simp;refine ag.p 2 9 cc ?_;simp;simp[hw];refine⟨by kernel_rfl,?_⟩;apply hK;exact aae (au.rt (t:=4) rfl 9 (by simp[h1,h2]))
end Go.Am
namespace Go.Am
open Go.Am.Ty Go.Proofs N
attribute [local irreducible] bO
def kL(lv:Key->LB)(s:Int)(p q:Option (List Nat))(n:Int):fF lv (.tup [rA s p q,.c (.d (.int .i64 n))])=some (.tup [rA s p q,.c (.d (.int .i64 n))],[]):=by
 cases p<;>cases q<;>rfl
def bO.ref{c:Ctx}{fn:Func}{z:Rat}{t k:Nat}{s:aE}{κ:Nat}(hr:fn.results=#[.cell t 215])(ht:s.fr t=.c (.ptr k 0))(hk:s.lv k=.cells true false 215 [.d (.int .i64 (eV z)),rC (jV z),rC (mA z)])(hP:c.P=prog):bO c fn (dD z) .ret s κ:=
 bO.cell hr ht hk (by rw[Y9,hP,js])
def Nq(G:List (List DV))(x y:Rat)(hx:j6 x 10000)(hy:j6 y 10000):aa prog G 360 [dD x,dD y] (dD (x+y)):=by
 have b1:=lp G x;have b2:=lp G y;have m1:=iw G (jV x) (some (aK 1000000000 y.den)) x.num.natAbs y.den 10000 (mT x) rfl hx.1 hy.2 (by decide);have m2:=iw G (jV y) (some (aK 1000000000 x.den)) y.num.natAbs x.den 10000 (mT y) rfl hy.1 hx.2 (by decide);have m3:=iw G (some (aK 1000000000 x.den)) (some (aK 1000000000 y.den)) x.den y.den 10000 rfl rfl hx.2 hy.2 (by decide);have l1:=gC x.num.natAbs y.den;have l2:=gC y.num.natAbs x.den;have l3:=gC x.den y.den;have hq0:0<x.den*y.den:=Z1 x.den_pos y.den_pos;have hx1:=hx.1;have hx2:=hx.2;have hy1:=hy.1;have hy2:=hy.2;have zx:x.num.natAbs*y.den=0↔x.num=0:=by rw[Nat.mul_eq_zero];have:=y.den_nz;omega
 have zy:y.num.natAbs*x.den=0↔y.num=0:=by rw[Nat.mul_eq_zero];have:=x.den_nz;omega
 rw[Gh];generalize x.num.natAbs*y.den=A at*
 generalize y.num.natAbs*x.den=B at*
 generalize x.den*y.den=Q at*
 have ad:=C6 G A B 20000 (by omega) (by omega) (by decide);have l4:=Gt A B;have cm:=zT G A B;have mk:=λ(s:Int) (neg:Bool) (P:Nat) (hs:P≠0->s=if neg then -1 else 1) (hP:nl P<=20001)=>sA G s neg P Q 20001 (some (aK 1000000000 P)) rfl hs hq0 hP (by omega) (by decide)
 have df1:A<B->_:=λh=>D0 G B A 20000 (by omega) (by decide) (aaX h)
 have df2:¬A<B->_:=λh=>D0 G A B 20000 (by omega) (by decide) (Nat.not_lt.1 h)
 have nA:∀n,n<=A->nl n<=20001:=λn h=>by have:=lY h;omega
 have nB:∀n,n<=B->nl n<=20001:=λn h=>by have:=lY h;omega
 refine aa.enc func360 rfl (λlv=>fC lv _ _ _) λ_=>aab ?_;refine aaa λK hK=>?_;refine aaq mixed (by kernel_rfl) rfl ?_;simp;refine ag.p 3 9 b2 ?_;simp;refine ag.p 3 9 m1 ?_;simp;refine ag.p 3 9 b1 ?_;simp;refine ag.p 3 9 m2 ?_;simp;refine⟨by kernel_rfl,?_⟩;apply hK;refine aaa λK hK=>?_;refine aaq mixed (by kernel_rfl) rfl ?_;simp;refine ag.p 3 9 b1 ?_;simp;refine ag.p 3 9 b2 ?_;simp;refine ag.p 3 9 m3 ?_;simp;refine⟨by kernel_rfl,?_⟩;apply hK;refine aaa λK hK=>aaa λK1 hK1=>?_
 by_cases hs:eV x=0\/eV y=0\/eV x=eV y
 ·obtain⟨s,hse⟩:∃s,(if eV x=0 then eV y else eV x)=s:=⟨_,rfl⟩
  obtain⟨neg,hn1,hn2⟩:∃neg:Bool,(A+B≠0->s=if neg then -1 else 1)/\dX (decide (x.num<0)) A+dX (decide (y.num<0)) B=dX neg (A+B):=by
   by_cases hx0:x.num=0
   ·have hA:A=0:=zx.2 hx0;have hs1:s=eV y:=by rw[<-hse,if_pos (kZ.2 hx0)]
    refine⟨decide (y.num<0),λh=>?_,?_⟩
    ·rw[hs1];exact pE (λe=>h (by rw[hA,zy.2 e]))
    ·rw[hA,Zw];have:dX (decide (x.num<0)) 0=0:=by unfold dX;split<;>rfl
     rw[this,Int.zero_add]
   ·have hs1:s=eV x:=by rw[<-hse,if_neg (λe=>hx0 (kZ.1 e))]
    refine⟨decide (x.num<0),λ_=>?_,?_⟩
    ·rw[hs1];exact pE hx0
    ·by_cases hy0:y.num=0
     ·have hB:B=0:=zy.2 hy0;rw[hB,ZO];have:dX (decide (y.num<0)) 0=0:=by unfold dX;split<;>rfl
      rw[this,Int.add_zero]
     ·have he:eV x=eV y:=by
       rcases hs with h|h|h
       ·exact absurd (kZ.1 h) hx0
       ·exact absurd (kZ.1 h) hy0
       ·exact h
      rw[pE hx0,pE hy0]at he
      have hd:decide (x.num<0)=decide (y.num<0):=by
       cases h1:decide (x.num<0)<;>cases h2:decide (y.num<0)<;>simp[h1,h2]at he ⊢
      rw[hd,BW]
  have mk1:=mk s neg (A+B) hn1 (by omega);rw[<-hn2]at mk1
  by_cases c1:eV x=0
  ·refine aas c1 (hK1 _ _ ?_);refine aai (aam c1 ?_);refine aaa λK1 hK1=>aab ?_;refine aai ?_;rw[if_pos c1]at hse;refine aas hse (hK1 _ _ ?_);refine aak λK1 hK1=>?_;simp;refine ag.p 3 9 ad ?_;simp;refine ag.p 3 9 mk1 ?_;simp;simp[aj];apply hK1;exact aal (bO.ref (k:=2) rfl (by simp) (by simp[aj]) rfl)
  ·rw[if_neg c1]at hse
   by_cases c2:eV y=0
   ·refine aau c1 c2 (hK1 _ _ ?_);refine aai (aam hse ?_);refine aaa λK1 hK1=>aab ?_;have c3:¬s=0:=by rw[<-hse];exact c1
    refine aaj (by simp[c3]<;>omega) (aad (hK1 _ _ (aak λK1 hK1=>?_)));simp;refine ag.p 3 9 ad ?_;simp;refine ag.p 3 9 mk1 ?_;simp;simp[aj];apply hK1;exact aal (bO.ref (k:=2) rfl (by simp) (by simp[aj]) rfl)
   ·have c4:eV x=eV y:=hs.elim (λh=>absurd h c1) λh=>h.elim (λh=>absurd h c2) id
    have c5:eV y=s:=by rw[<-c4];exact hse
    have c3:¬s=0:=by rw[<-hse];exact c1
    refine aac ?_;simp[c1,c2,hse,c5,c3];apply hK1;refine aai (aam hse ?_);refine aaa λK1 hK1=>aab ?_;refine aaj (by simp[c3]<;>omega) (aad (hK1 _ _ (aak λK1 hK1=>?_)));simp;refine ag.p 3 9 ad ?_;simp;refine ag.p 3 9 mk1 ?_;simp;simp[aj];apply hK1;exact aal (bO.ref (k:=2) rfl (by simp) (by simp[aj]) rfl)
 ·have c1:¬eV x=0:=λh=>hs (.inl h)
  have c2:¬eV y=0:=λh=>hs (.inr (.inl h))
  have c3:¬eV x=eV y:=λh=>hs (.inr (.inr h))
  have hx0:x.num≠0:=λh=>c1 (kZ.2 h)
  have hy0:y.num≠0:=λh=>c2 (kZ.2 h)
  have hne:decide (x.num<0)≠decide (y.num<0):=λh=>c3 (by rw[pE hx0,pE hy0,h])
  refine aaA c1 c2 c3 (hK1 _ _ ?_);refine aah (aad (hK _ _ (aaa λK hK=>aaa λK1 hK1=>?_)))
  by_cases hlt:A<B
  ·have hc:ec A B<0:=by rw[jO hlt];omega
   have d1:=df1 hlt;have mk1:=mk (eV y) (decide (y.num<0)) (B-A) (λ_=>pE hy0) (nB _ (Nat.sub_le _ _));rw[<-F9 hne hlt]at mk1;refine aax 3 cm hc (hK1 _ _ ?_);refine aai (aaa λK1 hK1=>?_);refine aaq mixed (by kernel_rfl) rfl ?_;simp;refine ag.p 3 9 d1 ?_;simp;refine ag.p 3 9 mk1 ?_;simp;simp[aj];refine⟨by kernel_rfl,?_⟩;apply hK1;exact aal (bO.ref (k:=2) rfl (by simp) (by simp[aj]) rfl)
  ·have hc:¬ec A B<0:=by
    by_cases e:A=B
    ·rw[nU e];omega
    ·rw[kI (by omega)];omega
   have d1:=df2 hlt;have mk1:=mk (eV x) (decide (x.num<0)) (A-B) (λ_=>pE hx0) (nA _ (Nat.sub_le _ _));rw[<-FH hne hlt]at mk1;refine aax 3 cm hc (hK1 _ _ ?_);refine aah (aad (hK _ _ (aaa λK hK=>?_)));refine aaq mixed (by kernel_rfl) rfl ?_;simp;refine ag.p 3 9 d1 ?_;simp;refine ag.p 3 9 mk1 ?_;simp;simp[aj];refine⟨by kernel_rfl,?_⟩;apply hK;exact aal (bO.ref (k:=2) rfl (by simp) (by simp[aj]) rfl)
def Nf(G:List (List DV))(x y:Rat)(hx:j6 x 10000)(hy:j6 y 10000):aa prog G 336 [dD x,dD y] (dD (x-y)):=by
 have h1:=L6 G y;have h2:=Nq G x (-y) hx (xy hy);rw[<-acu]at h2;refine aa.enc func336 rfl (λlv=>fC lv _ _ _) λ_=>aab ?_;refine aaa λK hK=>?_;refine aaq mixed (by kernel_rfl) rfl ?_;simp;refine ag.p 3 9 h1 ?_;simp;refine ag.p 3 9 h2 ?_;simp;simp[aj];refine⟨by kernel_rfl,?_⟩;apply hK;exact aal (bO.ref (k:=2) rfl (by simp) (by simp[aj]) rfl)
end Go.Am
namespace Go.Am
open Go.Am.Ty Go.Proofs N
attribute [local irreducible] bO
def Pq{x:Rat}(h:x.num≠0):jV x=some (aK 1000000000 x.num.natAbs):=if_neg h
def Bw{x:Rat}(h:x.num≠0):mA x=some (aK 1000000000 x.den):=if_neg h
def Mr(G:List (List DV))(x y:Rat)(hx:j6 x 10000)(hy:j6 y 10000)(hy0:0<y.num):
 aa prog G 292 [dD x,dD y] (.tup [dD (mkRat (dX (decide (x.num<0)) (x.num.natAbs*y.den)) (x.den*y.num.natAbs)),.c (.d (.int .i64 0))]):=by
 have hyn:y.num≠0:=by omega
 have b1:=lp G x;have m1:=iw G (jV x) (mA y) x.num.natAbs y.den 10000 (mT x) (by rw[Bw hyn];rfl) hx.1 hy.2 (by decide);have m2:=iw G (some (aK 1000000000 x.den)) (jV y) x.den y.num.natAbs 10000 rfl (mT y) hx.2 hy.1 (by decide);have l1:=gC x.num.natAbs y.den;have l2:=gC x.den y.num.natAbs;have hx1:=hx.1;have hx2:=hx.2;have hy1:=hy.1;have hy2:=hy.2;have sy:eV y=1:=by unfold eV;rw[if_neg hyn,if_neg (by omega)]
 have sy0:¬eV y=0:=by rw[sy];decide
 have hw:i64.wrap (eV x*eV y)=eV x:=by
  rw[sy,Int.mul_one];rcases xP x with h|h|h<;>rw[h]<;>rfl
 have mk:=sA G (eV x) (decide (x.num<0)) (x.num.natAbs*y.den) (x.den*y.num.natAbs) 20000 (some (aK 1000000000 (x.num.natAbs*y.den))) rfl (λh=>pE (λe=>h (by rw[e];simp))) (Z1 x.den_pos (by omega)) (by omega) (by omega) (by decide);generalize mkRat (dX (decide (x.num<0)) (x.num.natAbs*y.den)) (x.den*y.num.natAbs)=z at*
 generalize x.num.natAbs*y.den=A at*
 generalize x.den*y.num.natAbs=B at*
 refine aa.enc func292 rfl (λlv=>kL lv _ _ _ _) λ_=>aab ?_;refine aaa λK hK=>aab ?_;refine aaj (by simp[sy0]<;>omega) (aad (hK _ _ (aaa λK hK=>?_)));refine aaq mixed (by kernel_rfl) rfl ?_;simp[hw];refine ag.p 3 9 m1 ?_;simp;refine ag.p 3 9 b1 ?_;simp;refine ag.p 3 9 m2 ?_;simp;refine ag.p 3 9 mk ?_;simp[aj];refine⟨by kernel_rfl,?_⟩;apply hK;refine aal ?_;refine bO.jQ (x:=dD z) (y:=.c (.d (.int .i64 0))) (T:=215) (t:=4) (u:=5) (k:=2) (off:=0) (own:=true) (fz:=false) (U:=215) (cs:=[.d (.int .i64 (eV z)),rC (jV z),rC (mA z)]) rfl ?_ ?_ ?_ ?_ rfl rfl
 ·simp
 ·simp[aj]
 ·rw[Y9,js]
 ·simp
def AJ(m:Int):aa prog (GG m) 154 [.c (.d (.int .i64 1))] (dD 1):=by
 have h:aa prog (GG m) 154 [.c (.d (.int .i64 1))] (.agg [.d (.int .i64 1),.d (.sl [[.int .i64 1]]),.d (.sl [[.int .i64 1]])]):=aa.Fi (CK m 60) (by kernel_rfl)
 have e:dD 1=.agg [.d (.int .i64 1),.d (.sl [[.int .i64 1]]),.d (.sl [[.int .i64 1]])]:=by
  show rA 1 (some (aK 1000000000 1)) (some (aK 1000000000 1))=_;rw[R2];rfl
 rw[e];exact h
def yO(G:List (List DV)):∀(k:Nat),k<=100000->aa prog G 361 [.c (.d (.int .i64 (k:Int)))] (.c (rC (some (aK 1000000000 (2^k))))):=by
 intro k
 induction k using Nat.strongRecOn with
 |ind k ih=>
 intro hk;have ho:=uP G;rw[fX]at ho
 by_cases h0:k=0
 ·subst h0;have h0':((0:Nat):Int)=0:=rfl;refine aa.en func361 rfl λ_=>aab ?_;refine aaa λK hK=>aab ?_;refine aai (aar 1 ho ?_);exact aae (au.rt (t:=2) rfl 9 (by simp))
 have hk0:¬(k:Int)=0:=by omega
 have ih2:=ih (k/2) (by omega) (by omega);have e1:(k:Int).tdiv 2=((k/2:Nat):Int):=nS k 2;have w1:=bF (n:=((k/2:Nat):Int)) (by omega) (by omega);have e2:(k:Int).tmod 2=((k%2:Nat):Int):=uU k 2;have n2:=o7 (k/2);have m1:=iw G (some (aK 1000000000 (2^(k/2)))) (some (aK 1000000000 (2^(k/2)))) (2^(k/2)) (2^(k/2)) 10000 rfl rfl (by omega) (by omega) (by decide);rw[<-Z2]at m1;have n3:=o7 (k/2+k/2);have ad:=C6 G (2^(k/2+k/2)) (2^(k/2+k/2)) 10000 (by omega) (by omega) (by decide);have e3:2^(k/2+k/2)+2^(k/2+k/2)=2^(k/2+k/2+1):=by rw[Zl];omega
 rw[e3]at ad;refine aa.en func361 rfl λ_=>aab ?_;refine aaa λK hK=>aab ?_;refine aaj (by simp[h0,hk0]<;>omega) (aad (hK _ _ (aak λK hK=>?_)));simp[e1,w1,-Int.natCast_ediv];refine ag.p 1 9 ih2 ?_;simp;apply hK;refine aar 1 m1 ?_;refine aaa λK hK=>aaa λK1 hK1=>?_
 by_cases ho:k%2=1
 ·have e4:k=k/2+k/2+1:=by omega
  have ho':(k:Int)%2=1:=by omega
  refine aac ?_;simp[e2,ho,ho',-Int.natCast_emod];apply hK1;refine aag (by simp[ho,ho']<;>omega) (AW.m0 1 ad (hK _ _ ?_));refine aab ?_;rw[<-e4];exact aae (au.rt (t:=2) rfl 9 (by simp))
 ·have e4:k=k/2+k/2:=by omega
  have ho':¬(k:Int)%2=1:=by omega
  refine aac ?_;simp[e2,ho,ho',-Int.natCast_emod];apply hK1;refine aaj (by simp[ho,ho']<;>omega) (aad (hK _ _ (aab ?_)));rw[<-e4];exact aae (au.rt (t:=2) rfl 9 (by simp))
end Go.Am
namespace Go.Am
open Go.Am.Ty Go.Proofs N
attribute [local irreducible] bO
def yj(G:List (List DV))(x:Rat)(k:Int)(hx:j6 x 10000)(h1:-20000<=k)(h2:k<=20000):aa prog G 337 [dD x,.c (.d (.int .i64 k))] (dD (aM x k)):=by
 have b1:=lp G x;have hx1:=hx.1;have hx2:=hx.2
 by_cases hk:k<0
 ·have hsh:=iO (x:=x) hk;obtain⟨j,hj⟩:∃j:Nat,(-k).toNat=j:=⟨_,rfl⟩
  rw[hj]at hsh;have w1:i64.wrap (-k)=(j:Int):=by rw[bF (by omega) (by omega)];omega
  have n1:=o7 j;have pw:=yO G j (by omega);have m1:=iw G (some (aK 1000000000 x.den)) (some (aK 1000000000 (2^j))) x.den (2^j) 10000 rfl rfl hx2 (by omega) (by decide);have l1:=gC x.den (2^j);have mk:=sA G (eV x) (decide (x.num<0)) x.num.natAbs (x.den*2^j) 20000 (jV x) (mT x) (λh=>pE (by omega)) (Z1 x.den_pos (Zv (by decide))) (by omega) (by omega) (by decide);rw[<-hsh]at mk;generalize 2^j=T at*
  refine aa.enc func337 rfl (λlv=>fC lv _ _ _) λ_=>aab ?_;refine aaa λK hK=>aab ?_;refine aag (by simp[hk]<;>omega) (aaa λK1 hK1=>?_);refine aaq mixed (by kernel_rfl) rfl ?_;simp;refine ag.p 2 9 b1 ?_;simp;simp[w1];refine ag.p 2 9 pw ?_;simp;refine ag.p 2 9 m1 ?_;simp;refine ag.p 2 9 mk ?_;simp[aj];refine⟨by kernel_rfl,?_⟩;apply hK1;exact aal (bO.ref (k:=1) rfl (by simp) (by simp[aj]) rfl)
 ·have hkn:k=((k.toNat:Nat):Int):=by omega
  have n1:=o7 k.toNat;have pw:=yO G k.toNat (by omega);rw[<-hkn]at pw;have m1:=iw G (jV x) (some (aK 1000000000 (2^k.toNat))) x.num.natAbs (2^k.toNat) 10000 (mT x) rfl hx1 (by omega) (by decide);have l1:=gC x.num.natAbs (2^k.toNat);have mk:=sA G (eV x) (decide (x.num<0)) (x.num.natAbs*2^k.toNat) x.den 20000 (some (aK 1000000000 (x.num.natAbs*2^k.toNat))) rfl (λh=>pE (λe=>h (by rw[e];simp))) x.den_pos (by omega) (by omega) (by decide);rw[<-iM hk]at mk;generalize 2^k.toNat=T at*
  refine aa.enc func337 rfl (λlv=>fC lv _ _ _) λ_=>aab ?_;refine aaa λK hK=>aab ?_;refine aaj (by simp[hk]<;>omega) (aad (hK _ _ (aaa λK hK=>?_)));refine aaq mixed (by kernel_rfl) rfl ?_;simp;refine ag.p 2 9 pw ?_;simp;refine ag.p 2 9 m1 ?_;simp;refine ag.p 2 9 b1 ?_;simp;refine ag.p 2 9 mk ?_;simp[aj];refine⟨by kernel_rfl,?_⟩;apply hK;exact aal (bO.ref (k:=1) rfl (by simp) (by simp[aj]) rfl)
def oE(m:Int)(k:Int)(h1:-20000<=k)(h2:k<=20000):aa prog (GG m) 295 [.c (.d (.int .i64 k))] (dD (aM 1 k)):=by
 have i1:=AJ m;have sh:=yj (GG m) 1 k (jK 10000 (by decide)) h1 h2;refine aa.enc func295 rfl (λlv=>fC lv _ _ _) λ_=>aab ?_;refine aak λK hK=>?_;simp;refine ag.p 1 9 i1 ?_;simp;refine ag.p 1 9 sh ?_;simp[aj];apply hK;exact aal (bO.ref (k:=0) rfl (by simp) (by simp[aj]) rfl)
def GS{A k:Nat}:A<2^k↔br A<=k:=by
 constructor
 ·intro h
  by_cases h0:A=0
  ·subst h0;exact Zi _
  ·have h1:=kF h0;have:br A-1<k:=(ack (by decide:1<2)).1 (aaT h1 h);omega
 ·intro h;exact ZE (tE A) (ZQ (by decide) h)
def Cp{A n:Nat}(h:(aK 1000000000 A).length<=n):br A<=30*n:=by
 rw[<-GS,aaV];exact ZE (qM (by decide)) (Zf (ZQ (by decide) h) (abz (by decide) _))
def NW{A:Nat}:29*((aK 1000000000 A).length-1)<=br A:=by
 by_cases h0:aK 1000000000 A=[]
 ·rw[h0];exact Zi _
 ·have h1:=GB (bw (B:=1000000000) (by decide) A) h0;rw[bt (by decide)]at h1
  have h2:2^(29*((aK 1000000000 A).length-1))<=A:=by
   rw[aaV];exact Zf (abz (by decide) _) h1
  by_cases h3:br A<=29*((aK 1000000000 A).length-1)
  ·have:=GS.2 h3;omega
  ·omega
def vK(G:List (List DV))(A:Nat)(hl:(aK 1000000000 A).length<=3000):aa prog G 340 [(nK .i64 (some (aK 1000000000 (A))))] (.c (.d (.int .i64 (br A)))):=by
 have hlo:=NW (A:=A);have hhi:=Cp (A:=A) (aY _);obtain⟨n,hn⟩:∃n,(aK 1000000000 A).length=n:=⟨_,rfl⟩
 have pwG:=λk (h:k<=100000)=>yO G k h
 have cmG:∀k:Nat,aa prog G 247 [(nK .i64 (some (aK 1000000000 (A)))),.c (rC (some (aK 1000000000 (2^k))))] (.c (.d (.int .i64 (ec A (2^k))))):=λk=>by
  have:=p8 G A (2^k);rw[<-fX];exact this
 have hln:∀lv,eJ prog 213 lv (nK .i64 (some (aK 1000000000 (A))))=some (.c (.d (.int .i64 n)),[],[],True):=λlv=>by
  have:=Dh (P:=prog) (T:=213) (lv:=lv) (k:=.i64) (o:=some (aK 1000000000 A)) (by simp);rwa[aX,hn]at this
 rw[hn]at hlo hhi hl;have e1:=bF (n:=(n:Int)-1) (by omega) (by omega);have e2:=bF (n:=29*((n:Int)-1)) (by omega) (by omega);have e3:i64.wrap (30*(n:Int))=((30*n:Nat):Int):=by rw[bF (by omega) (by omega)];omega
 obtain⟨z,hz⟩:∃z:Int,29*((n:Int)-1)=z:=⟨_,rfl⟩
 rw[hz]at e2;have hmx:(if 0<z then z else 0)=((29*(n-1):Nat):Int):=by split<;>omega
 have blI:=λk=>GS (A:=A) (k:=k)
 generalize br A=L at*
 refine aa.en func340 rfl λ_=>aab ?_;refine aak λK hK=>?_;simp[dL,hln,e1,hz,e2,e3,hmx,-Int.natCast_mul,-Dh];apply hK;refine aaa λK hK=>aaf ?_
 refine aao (λ(p:Nat×Nat)=>⟨aU [(0,(nK .i64 (some (aK 1000000000 (A))))),(3,.c (.d (.int .i64 (p.1:Int)))),(4,.c (.d (.int .i64 (p.2:Int))))],λ_=>.hole⟩) 0
  (λp=>p.1<=L/\L<=p.2/\p.2<=90000) (λp=>p.2-p.1) (29*(n-1),30*n) (Le.mk' _ rfl bg (by simp)) ⟨hlo,hhi,by omega⟩ ?_
 rintro⟨lo,hi⟩ ⟨q1,q2,q3⟩;simp only at q1 q2 q3;refine aaa λK2 hK2=>aab ?_
 by_cases hlh:lo<hi
 ·have u1:i64.wrap ((lo:Int)+hi)=((lo+hi:Nat):Int):=by rw[bF (by omega) (by omega)];omega
  have u3:(((lo+hi:Nat):Int)).tdiv 2=(((lo+hi)/2:Nat):Int):=nS _ 2;obtain⟨mi,hmi⟩:∃mi,(lo+hi)/2=mi:=⟨_,rfl⟩
  rw[hmi]at u3;have u4:=bF (n:=(mi:Int)) (by omega) (by omega);have u5:=bF (n:=(mi:Int)+1) (by omega) (by omega);have pw:=pwG mi (by omega);have cm:=cmG mi;have bi:=blI mi;refine aag (by simp[hlh]<;>omega) (aad (hK2 _ _ (aaf (aak λK4 hK4=>?_))));simp[u1,u3,u4,-Int.natCast_add];apply hK4;refine aaa λK4 hK4=>?_
  by_cases hc:ec A (2^mi)<0
  ·have hle:L<=mi:=bi.1 (by by_cases h:A<2^mi;exact h;exfalso;by_cases e:A=2^mi;rw[nU e]at hc;omega;rw[kI (by omega)]at hc;omega);refine aac ?_;simp;refine ag.p 0 9 pw ?_;simp;refine ag.p 0 9 cm ?_;simp[hc];apply hK4;refine aai (aac ?_);simp;exact⟨lo,mi,Le.mk' _ rfl bg (by simp),⟨q1,hle,by omega⟩,by omega⟩
  ·have hle:¬L<=mi:=λh=>hc (by rw[jO (bi.2 h)];omega)
   have e:(mi:Int)+1=((mi+1:Nat):Int):=by omega
   refine aac ?_;simp;refine ag.p 0 9 pw ?_;simp;refine ag.p 0 9 cm ?_;simp[hc];apply hK4;refine aah (aac ?_);simp[u5];exact⟨mi+1,hi,Le.mk' _ rfl bg (by simp),⟨by omega,q2,q3⟩,by omega⟩
 ·obtain rfl:lo=L:=by omega
  refine aaj (by simp[hlh]<;>omega) (aan (hK _ _ (aab ?_)));exact aae (au.rt (t:=2) rfl 9 (by simp))
end Go.Am
namespace Go.Am
open Go.Am.Ty Go.Proofs N
attribute [local irreducible] bO
def Cq(k:Int):(aM 1 k).num=((2^(max k 0).toNat:Nat):Int)/\(aM 1 k).den=2^(max (-k) 0).toNat:=by
 by_cases hk:k<0
 ·rw[iO hk];obtain⟨n1,n2⟩:=jc (decide ((1:Rat).num<0)) (a:=(1:Rat).num.natAbs) (b:=(1:Rat).den*2^(-k).toNat) (by have:=Zv (a:=2) (n:=(-k).toNat) (by decide);show 1*_≠0;omega);rw[n1,n2];have e1:(1:Rat).num.natAbs=1:=rfl;have e2:(1:Rat).den=1:=rfl;have e3:(max k 0).toNat=0:=by omega
  have e4:(max (-k) 0).toNat=(-k).toNat:=by omega
  rw[e1,e2,e3,e4,Nat.gcd_one_left,ZT];exact⟨rfl,aaZ _⟩
 ·rw[iM hk];obtain⟨n1,n2⟩:=jc (decide ((1:Rat).num<0)) (a:=(1:Rat).num.natAbs*2^k.toNat) (b:=(1:Rat).den) (by decide);rw[n1,n2];have e1:(1:Rat).num.natAbs=1:=rfl;have e2:(1:Rat).den=1:=rfl;have e3:(max k 0).toNat=k.toNat:=by omega
  have e4:(max (-k) 0).toNat=0:=by omega
  rw[e1,e2,e3,e4,abO,ZT,aaZ];exact⟨rfl,rfl⟩
def O0{x y:Rat}:iS x y<0↔x<y:=by
 unfold iS
 by_cases h:x<y
 ·rw[if_pos h];simp[h]
 ·rw[if_neg h];constructor
  ·intro h2;exfalso;split at h2<;>omega
  ·intro h2;exact absurd h2 h
def qV(x:Rat)(k:Int):iS (iD x) (aM 1 k)<0↔x.num.natAbs*2^(max (-k) 0).toNat<x.den*2^(max k 0).toNat:=by
 rw[O0,Fo];obtain⟨a1,a2⟩:=Ic x;obtain⟨b1,b2⟩:=Cq k;rw[a1,a2,b1,b2];have e1:((x.num.natAbs:Nat):Int).natAbs=x.num.natAbs:=by omega
 have e2:(((2^(max k 0).toNat:Nat)):Int).natAbs=2^(max k 0).toNat:=Int.natAbs_natCast _;have e3:decide (((x.num.natAbs:Nat):Int)<0)=false:=decide_eq_false (by omega);have e4:decide ((((2^(max k 0).toNat:Nat)):Int)<0)=false:=decide_eq_false (Int.not_lt.2 (aaU _));rw[e1,e2,e3,e4,Zk (2^(max k 0).toNat)];show((x.num.natAbs*2^(max (-k) 0).toNat:Nat):Int)<((x.den*2^(max k 0).toNat:Nat):Int)↔_;exact Int.ofNat_lt
def LH(m:Int)(x:Rat)(hx0:x.num≠0)(hs:j6 x 300):aa prog (GG m) 296 [dD x] (.c (.d (.int .i64 (gj x)))):=by
 have h1:=hs.1;have h2:=hs.2;have s1:=MT h1;have s2:=MT h2;have ln1:=vK (GG m) x.num.natAbs (by omega);have ln2:=vK (GG m) x.den (by omega);rw[fX,<-Pq hx0]at ln1;rw[fX,<-Bw hx0]at ln2;have b1:=Cp (A:=x.num.natAbs) s1;have b2:=Cp (A:=x.den) s2;have ab:=y4 (GG m) x;obtain⟨k,hk⟩:∃k:Int,(br x.num.natAbs:Int)-br x.den=k:=⟨_,rfl⟩
 have hkr:-20000<=k/\k<=20000:=by omega
 have tw:=oE m k hkr.1 hkr.2;have cm:=si (GG m) (iD x) (aM 1 k) (xG (bY hs (by decide))) (bY (jF (jK 1 (by decide)) k) (by omega));have hlt:=qV x k;have hlog:gj x=if x.num.natAbs*2^(max (-k) 0).toNat<x.den*2^(max k 0).toNat then k-1 else k:=by unfold gj;rw[hk]
 have w1:=bF (n:=k) (by omega) (by omega);have w2:=bF (n:=k-1) (by omega) (by omega);rw[<-hk]at w1;have sx:¬eV x=0:=λh=>hx0 (kZ.1 h)
 generalize br x.num.natAbs=B1 at*
 generalize br x.den=B2 at*
 generalize aM 1 k=T at*
 generalize x.num.natAbs*2^(max (-k) 0).toNat=U at*
 generalize x.den*2^(max k 0).toNat=W at*
 rw[hk]at w1;refine aa.en func296 rfl λ_=>aab ?_;refine aaa λK hK=>aab ?_;refine aaj (by simp[sx]<;>omega) (aad (hK _ _ (aaa λK hK=>?_)));refine aaq mixed (by kernel_rfl) rfl ?_;simp;refine ag.p 2 9 ln1 ?_;simp;refine ag.p 2 9 ln2 ?_;simp;simp[hk,w1];refine⟨by kernel_rfl,?_⟩;apply hK;refine aaa λK hK=>aaa λK1 hK1=>?_
 by_cases hc:U<W
 ·have hc2:=hlt.2 hc;rw[if_pos hc]at hlog;refine aac ?_;simp;refine ag.p 2 9 ab ?_;simp;refine ag.p 2 9 tw ?_;simp;refine ag.p 2 9 cm ?_;simp[hc2];apply hK1;refine aai (aas w2 (hK _ _ ?_));refine aab ?_;exact aae (au.rt (t:=2) rfl 9 (by simp[hlog]))
 ·have hc2:¬iS (iD x) T<0:=λh=>hc (hlt.1 h)
  rw[if_neg hc]at hlog;refine aac ?_;simp;refine ag.p 2 9 ab ?_;simp;refine ag.p 2 9 tw ?_;simp;refine ag.p 2 9 cm ?_;simp[hc2];apply hK1;refine aah (aad (hK _ _ (aab ?_)));exact aae (au.rt (t:=2) rfl 9 (by simp[hlog]))
end Go.Am
namespace Go.Am
open Go.Am.Ty Go.Proofs N
variable {e p:Int}{x:Rat}
attribute [local irreducible] bO
def vY(G:List (List DV))(e p:Int):aa prog G 90 [.agg [.d (.int .i64 e),.d (.int .i64 p)]] (.c (.d (.int .i64 (fT e p)))):=by
 refine aa.en func90 rfl λ_=>aab ?_;refine aaa λK hK=>aaa λK1 hK1=>?_
 have bad:∀(fr:Nat->AV) (κ:Nat) (lv:Key->LB),lv 9=.hole->fr 28=.c (.d (.bool true))->fT e p=2->K1 ⟨fr,lv⟩ κ:=by
  intro fr κ lv h9 z hf;apply hK1;refine aag (by simp[z]<;>omega) (aab ?_);exact aal (κ:=0) (au.tmp (κ:=0) rfl 9 (by simp[hf]) rfl (by simp[h9]) rfl)
 by_cases h1:e<2
 ·refine aac ?_;simp[h1];exact bad _ _ _ (by simp) (by simp) (by unfold fT;rw[if_pos (by omega)])
 by_cases h2:11<e
 ·refine aac ?_;simp[h1,h2];exact bad _ _ _ (by simp) (by simp) (by unfold fT;rw[if_pos (by omega)])
 by_cases h3:p<2
 ·refine aac ?_;simp[h1,h2,h3];exact bad _ _ _ (by simp) (by simp) (by unfold fT;rw[if_pos (by omega)])
 by_cases h4:113<p
 ·refine aac ?_;simp[h1,h2,h3,h4];exact bad _ _ _ (by simp) (by simp) (by unfold fT;rw[if_pos (by omega)])
 have hw:i64.wrap (e+p)=e+p:=bF (by omega) (by omega)
 by_cases h5:e+p<5
 ·refine aac ?_;simp[h1,h2,h3,h4,hw,h5];exact bad _ _ _ (by simp) (by simp) (by unfold fT;rw[if_pos (by omega)])
 refine aac ?_;simp[h1,h2,h3,h4,hw,h5];apply hK1;refine aah (aad (hK _ _ (aab ?_)));have hf:fT e p=0:=by unfold fT;rw[if_neg (by omega)]
 exact aae (au.rt rfl 9 (by simp[hf]))
def uD(G:List (List DV))(e p:Int)(h1:2<=e)(h2:e<=11):aa prog G 338 [fA e p] (.c (.d (.int .i64 (bB e)))):=by
 obtain⟨n,hn⟩:∃n:Nat,e=(n:Int):=⟨e.toNat,by omega⟩
 have hb:bB e=((2^(n-1):Nat):Int)-1:=by
  unfold bB;rw[hn,show((n:Int)-1).toNat=n-1 by omega];simp
 have hp:∀i,i<=10->2^i<=1024:=λi h=>ZQ (by decide) h
 rw[hb];refine aa.en func338 rfl λ_=>aab ?_;refine aab ?_;refine aaa λK hK=>aab ?_;refine aaf ?_
 refine aao (λ(i:Nat)=>⟨aU [(1,.c (.ptr 0 0)),(3,.c (.d (.int .i64 ((2^i:Nat):Int)))),(4,.c (.d (.int .i64 ((i+1:Nat):Int))))],az (λ_=>.hole) 0 (.cells true false 81 [.d (.int .i64 e),.d (.int .i64 p)])⟩) 1
  (λi=>i+1<=n) (λi=>n-i) 0 (Le.mk' _ rfl (by simp) (by simp)) (by omega) ?_
 intro i hi
 try simp only at hi
 have hpi:=hp i (by omega);have hpi1:2*2^i=2^(i+1):=by rw[Zl,Zk]
 obtain⟨T,hT⟩:∃T,2^i=T:=⟨_,rfl⟩
 rw[hT]at hpi hpi1;simp only[hT];have w1:i64.wrap (2*(T:Int))=((2^(i+1):Nat):Int):=by rw[bF (by omega) (by omega),<-hpi1];omega
 have w2:i64.wrap (((i+1:Nat):Int)+1)=((i+1+1:Nat):Int):=by rw[bF (by omega) (by omega)];omega
 have w3:=bF (n:=(T:Int)-1) (by omega) (by omega);refine aaa λK3 hK3=>aak λK4 hK4=>?_;simp[-Int.natCast_add];apply hK4
 by_cases hlt:i+1<n
 ·have hlt':((i+1:Nat):Int)<e:=by omega
  refine aag (by simp[hlt',-Int.natCast_add]<;>omega) (aad (hK3 _ _ (aaa λK5 hK5=>aaf (aac ?_))));simp[w1,-Int.natCast_pow,-Int.natCast_add];apply hK5;refine aac ?_;simp[w2,-Int.natCast_pow,-Int.natCast_add];have w2':=bF (n:=(i:Int)+1+1) (by omega) (by omega);exact⟨i+1,Le.mk' _ rfl (by simp) (by simp[w2']),by omega,by omega⟩
 ·have hlt':¬((i+1:Nat):Int)<e:=by omega
  have e1:n-1=i:=by omega
  refine aaj (by simp[hlt',-Int.natCast_add]<;>omega) (aan (hK _ _ (aam w3 ?_)));rw[e1,hT];exact aae (au.rt (t:=2) rfl 9 (by simp))
def qQ(h:fT e p=0):1<=bB e/\bB e<=1023:=by
 obtain⟨h1,h2,_⟩:=jN h;obtain⟨a,b,_⟩:=uz h1 h2;exact⟨a,b⟩
def FR(m:Int)(e p:Int)(hf:fT e p=0):aa prog (GG m) 294 [fA e p] (dD (aM 1 (2-bB e-p))):=by
 obtain⟨h1,h2,h3,h4,_⟩:=jN hf;obtain⟨b1,b2⟩:=qQ hf;have bb:=uD (GG m) e p h1 h2;generalize bB e=b at*
 have w1:=bF (n:=2-b) (by omega) (by omega);have w2:=bF (n:=2-b-p) (by omega) (by omega);have tw:=oE m (2-b-p) (by omega) (by omega);refine aa.enc func294 rfl (λlv=>fC lv _ _ _) λ_=>aab ?_;refine aaa λK hK=>?_;refine aaq mixed (by kernel_rfl) rfl ?_;simp;refine ag.p 2 9 bb ?_;simp[w1,w2];refine ag.p 2 9 tw ?_;simp[aj];refine⟨by kernel_rfl,?_⟩;apply hK;exact aal (bO.ref (k:=1) rfl (by simp) (by simp[aj]) rfl)
def EW(m:Int)(e p:Int)(hf:fT e p=0):aa prog (GG m) 339 [fA e p] (dD (aM 1 (1-bB e))):=by
 obtain⟨h1,h2,h3,h4,_⟩:=jN hf;obtain⟨b1,b2⟩:=qQ hf;have bb:=uD (GG m) e p h1 h2;generalize bB e=b at*
 have w1:=bF (n:=1-b) (by omega) (by omega);have tw:=oE m (1-b) (by omega) (by omega);refine aa.enc func339 rfl (λlv=>fC lv _ _ _) λ_=>aab ?_;refine aak λK hK=>?_;simp;refine ag.p 2 9 bb ?_;simp[w1];refine ag.p 2 9 tw ?_;simp[aj];apply hK;exact aal (bO.ref (k:=1) rfl (by simp) (by simp[aj]) rfl)
def Ah(m:Int)(e p:Int)(hf:fT e p=0):aa prog (GG m) 291 [fA e p] (dD (eS p (bB e))):=by
 obtain⟨h1,h2,h3,h4,_⟩:=jN hf;obtain⟨b1,b2⟩:=qQ hf;have bb:=uD (GG m) e p h1 h2;have tw:=oE m p (by omega) (by omega);have i1:=AJ m;have sb:=Nf (GG m) (aM 1 p) 1 (bY (jF (jK 1 (by decide)) p) (by omega)) (jK _ (by decide));have sg:=qP p (by omega) (by omega);have sh:=yj (GG m) (aM 1 p-1) (bB e-p+1) (bY sg (by decide)) (by omega) (by omega);have hgr:aM (aM 1 p-1) (bB e-p+1)=eS p (bB e):=rfl;rw[hgr]at sh;generalize eS p (bB e)=g at*
 generalize aM 1 p-1=g1 at*
 generalize aM 1 p=g2 at*
 generalize bB e=b at*
 have w1:=bF (n:=b-p) (by omega) (by omega);have w2:=bF (n:=b-p+1) (by omega) (by omega);refine aa.enc func291 rfl (λlv=>fC lv _ _ _) λ_=>aab ?_;refine aak λK hK=>?_;simp;refine ag.p 2 9 tw ?_;simp;refine ag.p 2 9 i1 ?_;simp;refine ag.p 2 9 sb ?_;simp[aj];apply hK;refine aaa λK hK=>?_;refine aaq mixed (by kernel_rfl) rfl ?_;simp;refine ag.p 3 9 bb ?_;simp[w1,w2];refine ag.p 3 9 sh ?_;simp[aj];refine⟨by kernel_rfl,?_⟩;apply hK;exact aal (bO.ref (k:=1) rfl (by simp) (by simp[aj]) rfl)
def GU(m:Int)(e p:Int)(hf:fT e p=0)(x:Rat)(hx:j6 x 300):aa prog (GG m) 293 [fA e p,dD x] (.c (.d (.bool (decide (iS (iD x) (aM 1 (1-bB e))<0))))):=by
 obtain⟨b1,b2⟩:=qQ hf;have ab:=y4 (GG m) x;have nm:=EW m e p hf;have cm:=si (GG m) (iD x) (aM 1 (1-bB e)) (xG (bY hx (by decide))) (bY (jF (jK 1 (by decide)) _) (by omega));generalize aM 1 (1-bB e)=g at*
 refine aa.en func293 rfl λ_=>aab ?_;refine aaa λK hK=>?_;refine aaq mixed (by kernel_rfl) rfl ?_;simp;refine ag.p 2 9 ab ?_;simp;refine ag.p 2 9 nm ?_;simp;refine ag.p 2 9 cm ?_;simp;refine⟨by kernel_rfl,?_⟩;apply hK;exact aae (au.rt (t:=4) rfl 9 (by simp))
def D3(m:Int)(e p:Int)(hf:fT e p=0)(x:Rat)(hx:j6 x 300):aa prog (GG m) 244 [fA e p,dD x] (.c (.d (.bool (decide (0<iS (iD x) (eS p (bB e))))))):=by
 obtain⟨h1,h2,h3,h4,_⟩:=jN hf;obtain⟨b1,b2⟩:=qQ hf;have ab:=y4 (GG m) x;have nm:=Ah m e p hf;have cm:=si (GG m) (iD x) (eS p (bB e)) (xG (bY hx (by decide))) (bY (AL p (bB e) (by omega) (by omega) (by omega) (by omega)) (by omega));generalize eS p (bB e)=g at*
 refine aa.en func244 rfl λ_=>aab ?_;refine aaa λK hK=>?_;refine aaq mixed (by kernel_rfl) rfl ?_;simp;refine ag.p 2 9 ab ?_;simp;refine ag.p 2 9 nm ?_;simp;refine ag.p 2 9 cm ?_;simp;refine⟨by kernel_rfl,?_⟩;apply hK;exact aae (au.rt (t:=4) rfl 9 (by simp))
def ku(e p:Int)(x:Rat):Int:=if iS (iD x) (aM 1 (1-bB e))<0 then 2-bB e-p else gj x-p+1
def EB(h:x.num=0)(k:Int):iS (iD x) (aM 1 k)<0:=by
 rw[qV];have:x.num.natAbs=0:=by omega
 rw[this,Nat.zero_mul];exact Z1 x.den_pos (Zv (by decide))
def IE(hf:fT e p=0)(hx:j6 x 300):-15000<=ku e p x/\ku e p x<=15000:=by
 obtain⟨h1,h2,h3,h4,_⟩:=jN hf;obtain⟨b1,b2⟩:=qQ hf;unfold ku;split
 ·omega
 ·rename_i h
  have hx0:x≠0:=λe=>h (EB (Rat.num_eq_zero.2 e) _)
  have:=zi hx0 hx;omega
def Jt(m:Int)(e p:Int)(hf:fT e p=0)(x:Rat)(hx:j6 x 300):aa prog (GG m) 246 [fA e p,dD x] (dD (aM 1 (ku e p x))):=by
 obtain⟨h1,h2,h3,h4,_⟩:=jN hf;obtain⟨b1,b2⟩:=qQ hf;have bl:=GU m e p hf x hx;have ls:=FR m e p hf
 by_cases hb:iS (iD x) (aM 1 (1-bB e))<0
 ·have hs:ku e p x=2-bB e-p:=if_pos hb;rw[hs];generalize aM 1 (2-bB e-p)=g at*
  refine aa.enc func246 rfl (λlv=>fC lv _ _ _) λ_=>aab ?_;refine aaa λK hK=>aaw 3 bl hb ?_;refine aai (aaw 3 ls @aj.eq_1 ?_);exact aal (bO.ref (k:=2) rfl (by simp) (by simp[aj]) rfl)
 ·have hs:ku e p x=gj x-p+1:=if_neg hb;have hx0:x.num≠0:=λh=>hb (EB h _)
  have hl:=zi (λe=>hx0 (Rat.num_eq_zero.2 e)) hx;have lg:=LH m x hx0 hx;have tw:=oE m (gj x-p+1) (by omega) (by omega);have w1:=bF (n:=gj x-p) (by omega) (by omega);have w2:=bF (n:=gj x-p+1) (by omega) (by omega);rw[hs];generalize aM 1 (gj x-p+1)=g at*
  generalize gj x=l at*
  refine aa.enc func246 rfl (λlv=>fC lv _ _ _) λ_=>aab ?_;refine aaa λK hK=>aaw 3 bl hb ?_;refine aah (aad (hK _ _ (aaa λK hK=>?_)));refine aaq mixed (by kernel_rfl) rfl ?_;simp;refine ag.p 3 9 lg ?_;simp[w1,w2];refine ag.p 3 9 tw ?_;simp[aj];refine⟨by kernel_rfl,?_⟩;apply hK;exact aal (bO.ref (k:=2) rfl (by simp) (by simp[aj]) rfl)
def P7(x:Rat)(k:Int):mkRat (dX (decide (x.num<0)) (x.num.natAbs*(aM 1 k).den)) (x.den*(aM 1 k).num.natAbs)=aM x (-k):=by
 obtain⟨b1,b2⟩:=Cq k;have e2:(((2^(max k 0).toNat:Nat)):Int).natAbs=2^(max k 0).toNat:=Int.natAbs_natCast _;rw[b1,b2,e2]
 by_cases hk:-k<0
 ·rw[iO hk,show(max (-k) 0).toNat=0 by omega,show(max k 0).toNat=(- -k).toNat by omega,abw,Z0]
 ·rw[iM hk,show(max (-k) 0).toNat=(-k).toNat by omega,show(max k 0).toNat=0 by omega,abw,Z0]
def Jv(G:List (List DV))(x:Rat)(k:Int)(hx:j6 x 300)(h1:-15000<=k)(h2:k<=15000):aa prog G 245 [dD x,dD (aM 1 k)] (dD (aM x (-k))):=by
 have q:=Mr G x (aM 1 k) (bY hx (by decide)) (bY (jF (jK 1 (by decide)) k) (by omega)) (by rw[(Cq k).1];exact Int.natCast_pos.2 (Zv (by decide)));rw[P7]at q;generalize aM 1 k=y at*
 generalize aM x (-k)=z at*
 refine aa.enc func245 rfl (λlv=>fC lv _ _ _) λ_=>aab ?_;refine aaw 3 q @aj.eq_1 ?_;refine aam @aj.eq_1 ?_;exact aal (bO.ref (k:=2) rfl (by simp) (by simp[aj]) rfl)
end Go.Am
namespace Go.Am
open Go.Am.Ty Go.Proofs N
variable {n d κ:Nat}{s l T:List UInt8}{x y z u:AV}{neg:Bool}{k e:Int}{c:Ctx}{fn:Func}
def G6(n d:Nat)(k:Int):Prop:=n*2^(max (-k) 0).toNat<d*2^(max k 0).toNat
def Ni(h:G6 n d k):G6 n d (k+1):=by
 unfold G6 at*
 by_cases hk:0<=k
 ·obtain⟨j,hj⟩:∃j:Nat,k=j:=⟨k.toNat,by omega⟩
  subst hj;rw[show(max (-(j:Int)) 0).toNat=0 by omega,show(max (j:Int) 0).toNat=j by omega]at h;rw[show(max (-((j:Int)+1)) 0).toNat=0 by omega,show(max ((j:Int)+1) 0).toNat=j+1 by omega,Zl,<-Zn];have:=acr (d*2^j) (by decide:0<2);omega
 ·obtain⟨j,hj⟩:∃j:Nat,k = -((j:Int)+1):=⟨(-k-1).toNat,by omega⟩
  subst hj;rw[show(max (-(-((j:Int)+1))) 0).toNat=j+1 by omega,show(max (-((j:Int)+1)) 0).toNat=0 by omega,Zl,<-Zn]at h;rw[show(max (-(-((j:Int)+1)+1)) 0).toNat=j by omega,show(max (-((j:Int)+1)+1) 0).toNat=0 by omega];have:=acr (n*2^j) (by decide:0<2);omega
def HA{n d:Nat}{k:Int}(h:G6 n d k):∀j:Nat,G6 n d (k+j)
 |0=>by simpa using h
 |j+1=>by
  have:=Ni (HA h j)
  rwa[show k+((j+1:Nat):Int)=k+(j:Int)+1 by omega]
def sZ{l:Int}(h:G6 n d k)(hl:k<=l):G6 n d l:=by
 have:=HA h (l-k).toNat
 rwa[show k+((l-k).toNat:Int)=l by omega]at this
def Pv(hd:d≠0):G6 n d ((br n:Int)-br d+1):=by
 have h1:=tE n;have h2:=kF hd;have h3:1<=br d:=by unfold br;rw[if_neg hd];omega
 unfold G6;generalize br n=a at*
 generalize br d=b at*
 by_cases hk:b<=a+1
 ·rw[show(max (-((a:Int)-b+1)) 0).toNat=0 by omega,show(max ((a:Int)-b+1) 0).toNat=a+1-b by omega,abw,Z0];have h4:2^(b-1)*2^(a+1-b)<=d*2^(a+1-b):=Zq _ h2;rw[<-Z2,show b-1+(a+1-b)=a by omega]at h4;omega
 ·rw[show(max (-((a:Int)-b+1)) 0).toNat=b-a-1 by omega,show(max ((a:Int)-b+1) 0).toNat=0 by omega,abw,Z0];have h4:n*2^(b-a-1)<2^a*2^(b-a-1):=acB h1 (Zv (by decide));rw[<-Z2,show a+(b-a-1)=b-1 by omega]at h4;omega
def Ob(hn:n≠0):¬G6 n d ((br n:Int)-br d-1):=by
 have h1:=tE d;have h2:=kF hn;have h3:1<=br n:=by unfold br;rw[if_neg hn];omega
 unfold G6;generalize br n=a at*
 generalize br d=b at*
 rw[Nat.not_lt]
 by_cases hk:b+1<=a
 ·rw[show(max (-((a:Int)-b-1)) 0).toNat=0 by omega,show(max ((a:Int)-b-1) 0).toNat=a-b-1 by omega,abw,Z0];have h4:d*2^(a-b-1)<=2^b*2^(a-b-1):=Zq _ (aaX h1);rw[<-Z2,show b+(a-b-1)=a-1 by omega]at h4;omega
 ·rw[show(max (-((a:Int)-b-1)) 0).toNat=b+1-a by omega,show(max ((a:Int)-b-1) 0).toNat=0 by omega,abw,Z0];have h4:2^(a-1)*2^(b+1-a)<=n*2^(b+1-a):=Zq _ h2;rw[<-Z2,show a-1+(b+1-a)=b by omega]at h4;omega
theorem On{x:Rat}(hx:x.num≠0)(k:Int):iS (iD x) (aM 1 k)<0↔gj x<k:=by
 rw[qV];show G6 x.num.natAbs x.den k↔_;have ht:=Pv (n:=x.num.natAbs) x.den_nz;have hb:=Ob (n:=x.num.natAbs) (d:=x.den) (by omega)
 have hl:(G6 x.num.natAbs x.den ((br x.num.natAbs:Int)-br x.den)/\gj x=(br x.num.natAbs:Int)-br x.den-1)\/(¬G6 x.num.natAbs x.den ((br x.num.natAbs:Int)-br x.den)/\gj x=(br x.num.natAbs:Int)-br x.den):=by
  unfold gj
  by_cases h:G6 x.num.natAbs x.den ((br x.num.natAbs:Int)-br x.den)
  ·exact .inl ⟨h,if_pos h⟩
  ·exact .inr ⟨h,if_neg h⟩
 generalize (br x.num.natAbs:Int)-br x.den=q at*
 rcases hl with⟨h1,h2⟩|⟨h1,h2⟩<;>rw[h2]
 ·constructor
  ·intro h;apply ZG;intro hn;exact hb (sZ h (by omega))
  ·intro h;exact sZ h1 (by omega)
 ·constructor
  ·intro h;apply ZG;intro hn;exact h1 (sZ h (by omega))
  ·intro h;exact sZ ht (by omega)
def I3{x:Rat}(h:0<=x.num)(k:Int):0<=(aM x k).num:=by
 have hd:decide (x.num<0)=false:=decide_eq_false (by omega)
 by_cases hk:k<0
 ·rw[iO hk,hd,(jc false (rQ x _)).1];exact aaU _
 ·rw[iM hk,hd,(jc false x.den_nz).1];exact aaU _
theorem LF(p b:Int)(hp:0<=p):0<=(eS p b).num:=by
 refine I3 ?_ _;rw[Rat.num_nonneg,acu]
 have h1:¬aM 1 p<1:=by
  rw[Fo];obtain⟨b1,b2⟩:=Cq p;rw[b1,b2];have e2:(((2^(max p 0).toNat:Nat)):Int).natAbs=2^(max p 0).toNat:=Int.natAbs_natCast _;have e4:decide ((((2^(max p 0).toNat:Nat)):Int)<0)=false:=decide_eq_false (Int.not_lt.2 (aaU _));rw[e2,e4,show(max (-p) 0).toNat=0 by omega];show ¬((2^(max p 0).toNat*1:Nat):Int)<((1*2^0:Nat):Int)
  have:=Zv (a:=2) (n:=(max p 0).toNat) (by decide);omega
 have h2:(1:Rat)<=aM 1 p:=Rat.not_lt.1 h1;have h3:=Rat.add_le_add_right (c:=-1) |>.2 h2
 rwa[Rat.add_neg_cancel]at h3
def has_eq{p:Int}(hf:fT e p=0)(x:Rat):hasB e p x=(decide (¬0<iS (iD x) (eS p (bB e)))&&decide ((aM x (-(ku e p x))).den=1)):=by
 obtain⟨h1,h2,h3,h4,_⟩:=jN hf;unfold hasB;rw[decide_eq_true hf,Bool.true_and]
 by_cases hx:x=0
 ·subst hx
  have e1:aM 0 (-(ku e p 0))=0:=by
   by_cases hk:-(ku e p 0)<0
   ·rw[iO hk];exact ab8 _
   ·rw[iM hk,show(0:Rat).num.natAbs*2^(-(ku e p 0)).toNat=0 from Nat.zero_mul _];exact ab8 _
  have e2:¬0<iS (iD 0) (eS p (bB e)):=by
   have hg:=LF p (bB e) (by omega);have:iD 0=0:=by unfold iD;rw[if_neg (by decide)]
   rw[this];intro h;unfold iS at h;have h5:¬eS p (bB e)<0:=Rat.not_lt.2 (Rat.num_nonneg.1 hg);rw[if_neg h5]at h;split at h<;>omega
  rw[e1,decide_eq_true (by rfl:(0:Rat)=0),decide_eq_true e2];rfl
 ·have hx0:x.num≠0:=λh=>hx (Rat.num_eq_zero.1 h)
  have hs:ku e p x=jS p (bB e) (gj x):=by
   unfold ku jS;have:=On hx0 (1-bB e)
   by_cases hb:iS (iD x) (aM 1 (1-bB e))<0
   ·rw[if_pos hb];have:=this.1 hb;omega
   ·rw[if_neg hb];have h6:¬gj x<1-bB e:=λh=>hb (this.2 h);omega
  rw[decide_eq_false hx,Bool.false_or,hs,Bool.and_comm];congr 1;exact decide_eq_decide.2 (by omega)
theorem DL(m:Int)(e p:Int)(x:Rat)(hx:j6 x 300):aa prog (GG m) 168 [fA e p,dD x] (.c (.d (.bool (hasB e p x)))):=by
 have ck:=vY (GG m) e p
 by_cases hf:fT e p=0
 rotate_left
 ·have hh:hasB e p x=false:=by unfold hasB;rw[decide_eq_false hf];rfl
  rw[hh];refine aa.en func168 rfl λ_=>aab ?_;refine aaa λK hK=>?_;refine aaq mixed (by kernel_rfl) rfl ?_;simp;refine ag.p 2 9 ck ?_;simp[hf];refine⟨by kernel_rfl,?_⟩;apply hK;exact aae (au.rt (t:=4) rfl 9 (by simp))
 have by':=D3 m e p hf x hx;have st:=Jt m e p hf x hx;have sr:=IE hf hx;have ov:=Jv (GG m) x (ku e p x) hx (by omega) (by omega);have ii:=zw (GG m) (aM x (-(ku e p x)));rw[has_eq hf];generalize aM 1 (ku e p x)=y at*
 generalize aM x (-(ku e p x))=z at*
 generalize iS (iD x) (eS p (bB e))=c at*
 by_cases hc:0<c
 ·refine aa.en func168 rfl λ_=>aab ?_;refine aaa λK hK=>?_;refine aaq mixed (by kernel_rfl) rfl ?_;simp;refine ag.p 2 9 ck ?_;simp[hf];refine ag.p 2 9 by' ?_;simp[hc];refine⟨by kernel_rfl,?_⟩;apply hK;exact aae (au.rt (t:=4) rfl 9 (by simp[hc]))
 ·refine aa.en func168 rfl λ_=>aab ?_;refine aaa λK hK=>?_;refine aaq mixed (by kernel_rfl) rfl ?_;simp;refine ag.p 2 9 ck ?_;simp[hf];refine ag.p 2 9 by' ?_;simp[hc];refine ag.p 2 9 st ?_;simp;refine ag.p 2 9 ov ?_;simp;refine ag.p 2 9 ii ?_;simp;refine⟨by kernel_rfl,?_⟩;apply hK;exact aae (au.rt (t:=4) rfl 9 (by simp[hc]))
def Mq(c:UInt8):kj c=true↔48<=c.toNat/\c.toNat<=57:=by simp[kj]
def RS(h:∀x∈l,kj x=true):l.dropWhile kj=[]:=by
 induction l with
 |nil=>rfl
 |cons a l ih=>rw[List.dropWhile_cons,if_pos (h a (by simp))];exact ih λx hx=>h x (by simp[hx])
theorem DK(h:wk s):sP s=[]:=by
 have h1:s.reverse.dropWhile kj=[]:=RS λx hx=>(Mq x).2 (h x (List.mem_reverse.1 hx))
 unfold sP kf;rw[h1];rfl
def isRow(s:List UInt8):Prop:=wk s/\s≠[]/\(s=[48]\/s.getD 0 0≠48)
def oQ:fc s=true↔isRow s:=by
 constructor
 ·intro h;obtain⟨h1,h2⟩:=oX h;unfold fc at h;simp only[cn,ZK,Zy,decide_eq_true_eq,decide_eq_false_iff_not]at h;exact⟨h1,h2,h.2⟩
 ·rintro⟨h1,h2,h3⟩;unfold fc;rw[decide_eq_false h2,decide_eq_true (DK h1)];rcases h3 with h3|h3
  ·rw[decide_eq_true h3];rfl
  ·rw[decide_eq_false h3];simp
def YV{i:Nat}(h:i<s.length):s.getD i 0=s[i]:=by rw[Y8,cy h];rfl
theorem NA(G:List (List DV))(s:List UInt8):aa prog G 288 [.c (.d (.str s))] (.c (.d (.bool (fc s)))):=by
 refine aA.jR 0 (by simp) (λV v h=>(show s.length<=9223372036854775807 by cases h.1 with|str _ hl=>exact hl)) λhs=>?_;refine aa.en func288 rfl λ_=>aab ?_;refine aaa λK hK=>aab ?_;refine aaf ?_;refine aao (λ(i:Nat)=>⟨aU [(0,.c (.d (.str s))),(3,.c (.d (.int .i64 (i:Int))))],λ_=>.hole⟩) 0 (λi=>i<=s.length/\wk (s.take i)) (λi=>s.length-i) 0 (Le.mk' _ rfl bg (by simp)) ⟨Zi _,λc hc=>by simp at hc⟩ ?_;rintro i ⟨hi,hd⟩;refine aaa λK3 hK3=>aab ?_
 by_cases hlt:i<s.length
 ·have hlt':(i:Int)<(s.length:Int):=by omega
  have wi:=bF (n:=(i:Int)+1) (by omega) (by omega);have hg:=YV hlt;have hg2:s[i]?.getD 0=s[i]:=by rw[cy hlt];rfl
  obtain⟨c,hc⟩:∃c,s[i]=c:=⟨_,rfl⟩
  rw[hc]at hg hg2;have hcm:c∈s:=by rw[<-hc];exact bh hlt
  have bad:¬(48<=c.toNat/\c.toNat<=57)->fc s=false:=λh=>by
   cases hr:fc s with
   |false=>rfl
   |true=>exact absurd ((oQ.1 hr).1 c hcm) h
  refine aag (by simp[hlt]<;>omega) (aad (hK3 _ _ (aaa λK5 hK5=>aaf (aaa λK6 hK6=>?_))))
  by_cases c1:c.toNat<48
  ·have c1':(c.toNat:Int)<48:=by omega
   refine aac ?_;simp[hlt,hlt',hc,c1,c1'];apply hK6;refine aai (aab ?_);exact aae (au.rt (t:=2) rfl 9 (by simp[(bad (by omega))]))
  ·have c1':¬(c.toNat:Int)<48:=by omega
   by_cases c2:57<c.toNat
   ·have c2':(57:Int)<(c.toNat:Int):=by omega
    refine aac ?_;simp[hlt,hlt',hc,c1,c1',c2,c2'];apply hK6;refine aai (aab ?_);exact aae (au.rt (t:=2) rfl 9 (by simp[(bad (by omega))]))
   ·have c2':¬(57:Int)<(c.toNat:Int):=by omega
    refine aac ?_;simp[hlt,hlt',hc,c1,c1',c2,c2'];apply hK6;refine aah (aad (hK5 _ _ (aac ?_)));simp[wi];refine⟨i+1,Le.mk' _ rfl bg (by simp),⟨by omega,?_⟩,by omega⟩;intro x hx;rw[abr,cy hlt,Z5]at hx;rcases hx with hx|hx
    ·exact hd x hx
    ·simp only[Option.toList_some,ZV]at hx;rw[hx,hc];omega
 ·have he:i=s.length:=by omega
  subst he;rw[List.take_length]at hd;refine aaj (by simp[hlt]<;>omega) (aan (hK _ _ (aaa λK hK=>?_)))
  cases s with
  |nil=>
   refine aaD (hK _ _ ?_);exact aae (au.rt (t:=2) rfl 9 (by simp[fc]))
  |cons a l=>
   have hrow:fc (a::l)=(decide (a::l=[48]) || !decide (a=48)):=by
    unfold fc;rw[decide_eq_true (DK hd)];simp
   have ha:((a.toNat:Int)=48)↔a=48:=by
    constructor
    ·intro h;exact UInt8.toNat_inj.1 (by show a.toNat=48;omega)
    ·intro h;subst h;rfl
   have hpos:(0:Int)<((l.length:Int)+1):=by omega
   by_cases h0:a::l=[48]
   ·obtain⟨rfl,rfl⟩:=List.cons.inj h0;refine aas @eqStr (hK _ _ ?_);exact aae (au.rt (t:=2) rfl 9 (by simp[hrow]))
   ·refine aac ?_;simp[eqStr,h0,hpos];apply hK;exact aae (au.rt (t:=2) rfl 9 (by simp[hrow,h0,ha]))
def J9(l:List Nat):LB:=if l=[]then .hole else .cells true false 2 (wK .i64 l)
def NO(l:List Nat):AV:=if l=[]then .c (.d .nilsl)else .c (.aD 0 0 l.length 1)
theorem Q0{lv:Key->LB}{k:Key}(h:lv k=.hole):az lv k .hole=lv:=by
 funext j;unfold az;split
 ·rename_i e;rw[e,h]
 ·rfl
def Xy(j:Nat):10^(9*j)=1000000000^j:=by rw[aaV]
theorem E8(h:wk s)(n:Nat):wk (s.take n):=λc hc=>h c (aa8 hc)
theorem DH(h:wk s)(n:Nat):wk (s.drop n):=λc hc=>h c (aa1 hc)
theorem A0(G:List (List DV))(s:List UInt8)(hd:wk s)(hne:s≠[])(hl:s.length<=100000):aa prog G 243 [.c (.d (.str s))] (nK .i64 (some (aK 1000000000 (aP s 0)))):=by
 have hbs:∀(lv:Key->LB) (h:lv 1=.hole) (a:CV),ak prog 213 1 [0] lv 1 [.c a]=some (.c (.aD 1 0 1 1),[(1,.cells true false 2 [a])],[],True):=λlv h a=>DS lv 1 h a
 refine aa.Qh func243 rfl λ_=>aab ?_;refine aab ?_;refine aaa λK hK=>aab ?_;refine aaf ?_
 refine aao (λ(p:List Nat)=>⟨aU [(0,.c (.d (.str s))),(3,NO p),(4,.c (.d (.int .i64 ((s.length:Int)-9*(p.length:Int)))))],az (λ_=>.hole) 0 (J9 p)⟩) 1
  (λp=>ok 1000000000 p/\val 1000000000 p=aP (s.drop (s.length-9*p.length)) 0/\(9*p.length<s.length+9)) (λp=>s.length+9-9*p.length) [] (Le.mk' _ (Q0 rfl).symm bg (by simp[NO])) ⟨cC _,by simp[aP],by simp⟩ ?_
 rintro p ⟨h1,h2,h3⟩;obtain⟨z,hz⟩:∃z:Int,(s.length:Int)-9*(p.length:Int)=z:=⟨_,rfl⟩
 simp only[hz];refine aaa λK3 hK3=>aab ?_
 by_cases hgo:0<z
 ·obtain⟨i,rfl⟩:∃i:Nat,z=i:=⟨z.toNat,by omega⟩
  have hi:s.length-9*p.length=i:=by omega
  have hil:i<=s.length:=by omega
  rw[hi]at h2;obtain⟨lo,hlo⟩:∃lo,i-9=lo:=⟨_,rfl⟩
  obtain⟨y,hy⟩:∃y:Int,(i:Int)-9=y:=⟨_,rfl⟩
  have w1:i64.wrap ((i:Int)-9)=y:=by rw[bF (by omega) (by omega)];exact hy
  have hmx:(if y<0 then 0 else y)=(lo:Int):=by split<;>omega
  have w9:=bF (n:=(i:Int)-9) (by omega) (by omega);rw[hy]at w9;refine aag (by simp[hgo]<;>omega) (aad (hK3 _ _ (aaa λK5 hK5=>aaf (aab ?_))));refine aaa λK6 hK6=>aak λK7 hK7=>?_;simp[dL,w1,hmx];apply hK7;refine aaf ?_
  refine aao (λ(k:Nat)=>⟨aU [(0,.c (.d (.str s))),(3,NO p),(4,.c (.d (.int .i64 (i:Int)))),(5,.c (.d (.int .i64 ((aP ((s.take k).drop lo) 0:Nat):Int)))),(6,.c (.d (.int .i64 (k:Int))))],az (λ_=>.hole) 0 (J9 p)⟩) 1
   (λk=>lo<=k/\k<=i) (λk=>i-k) lo (Le.keys [(0,0,J9 p)] 19 _ rfl rfl (by simp) (by simp) (by simp) ?_ ?_) ⟨aY _,by omega⟩ ?_
  ·intro e he;simp only[rP,Zd,or_false]at he;subst he;simp only[aC];unfold J9;split
   ·rfl
   ·exact lf .i64 2 p _
  ·have e0:List.drop lo (List.take lo s)=[]:=abj (by rw[Ze];omega);simp[e0,aP,bP];unfold NO;split<;>simp[bP]
  rintro k ⟨k1,k2⟩;refine aaa λK8 hK8=>aab ?_
  by_cases hlk:k<i
  ·have hks:k<s.length:=by omega
   have hks':(k:Int)<(s.length:Int):=by omega
   obtain⟨c,hc⟩:∃c,s[k]=c:=⟨_,rfl⟩
   have hcd:=hd c (by rw[<-hc];exact bh hks);have hlt:=nT (DH (E8 hd k) lo);have hln:(List.drop lo (List.take k s)).length=k-lo:=by rw[aaM,Ze];omega
   have hp9:10^(List.drop lo (List.take k s)).length<=10^8:=ZQ (by decide) (by omega)
   have hnx:aP ((s.take (k+1)).drop lo) 0=10*aP ((s.take k).drop lo) 0+(c.toNat-48):=by
    have e:(s.take (k+1)).drop lo=(s.take k).drop lo++[c]:=by
     rw[abr,cy hks,hc,List.drop_append,show lo-(List.take k s).length=0 by rw[Ze];omega];rfl
    rw[e,kS];rfl
   obtain⟨N0,hN0e⟩:∃N0,aP ((s.take k).drop lo) 0=N0:=⟨_,rfl⟩
   obtain⟨N1,hN1e⟩:∃N1,aP ((s.take (k+1)).drop lo) 0=N1:=⟨_,rfl⟩
   rw[hN0e]at hlt hnx;rw[hN1e]at hnx;simp only[hN0e];have hN0:N0<=100000000:=by omega
   have v1:i64.wrap (10*(N0:Int))=((10*N0:Nat):Int):=by rw[bF (by omega) (by omega)];omega
   have v2:u8.wrap ((c.toNat:Int)-48)=((c.toNat-48:Nat):Int):=by rw[cM ⟨by simp only[Bl];omega,by simp only[qj];omega⟩];omega
   have v3:=bF (n:=((c.toNat-48:Nat):Int)) (by omega) (by omega);have v4:i64.wrap (((10*N0:Nat):Int)+((c.toNat-48:Nat):Int))=(N1:Int):=by rw[bF (by omega) (by omega)];omega
   have v5:=bF (n:=(k:Int)+1) (by omega) (by omega);refine aag (by simp[hlk]<;>omega) (aad (hK8 _ _ (aaa λK9 hK9=>aaf (aac ?_))));simp[hks,hks',hc,v1,v2,v3,v4,-Int.natCast_mul];apply hK9;refine aac ?_;simp[v5];refine⟨k+1,Le.keys [(0,0,J9 p)] 19 _ rfl rfl (by simp) (by simp) (by simp) ?_ ?_,⟨by omega,by omega⟩,by omega⟩
   ·intro e he;simp only[rP,Zd,or_false]at he;subst he;simp only[aC];unfold J9;split
    ·rfl
    ·exact lf .i64 2 p _
   ·simp[bP,hN1e];unfold NO;split<;>simp[bP]
  ·obtain rfl:k=i:=by omega
   refine aaj (by simp[hlk]<;>omega) (aan (hK6 _ _ ?_));refine aaz 1 ?_;have hlt:=nT (DH (E8 hd k) lo);have hln:(List.drop lo (List.take k s)).length=k-lo:=by rw[aaM,Ze];omega
   have hp9:10^(List.drop lo (List.take k s)).length<=10^9:=ZQ (by decide) (by omega)
   have hv:aP (s.drop lo) 0=aP ((s.take k).drop lo) 0*1000000000^p.length+aP (s.drop k) 0:=by
    have e:s.drop lo=(s.take k).drop lo++s.drop k:=by
     conv=>lhs;rw[<-abp k s]
     rw[List.drop_append,show lo-(List.take k s).length=0 by rw[Ze];omega];rfl
    have e2:(s.drop k).length=9*p.length:=by rw[aaM];omega
    rw[e,kS,fB,e2,Xy]
   have hz2:(s.length:Int)-9*(((p.length+1:Nat)):Int)=y:=by omega
   have hz3:s.length-9*(p.length+1)=lo:=by omega
   obtain⟨N,hN⟩:∃N,aP ((s.take k).drop lo) 0=N:=⟨_,rfl⟩
   simp only[hN]at hlt hv⊢;have hok:ok 1000000000 (p++[N]):=cA.2 ⟨h1,bJ.2 ⟨by omega,cC _⟩⟩
   have hvl:val 1000000000 (p++[N])=aP (s.drop (s.length-9*(p++[N]).length)) 0:=by
    rw[Zg,ZY,hz3,eY,h2,hv,Zk];omega
   have hB1:J9 (p++[N])=.cells true false 2 (wK .i64 (p++[N])):=if_neg (by simp);have hV1:NO (p++[N])=.c (.aD 0 0 (p.length+1) 1):=by unfold NO;rw[if_neg (by simp)];simp
   by_cases hp:p=[]
   ·subst hp;refine aac ?_;simp[NO,J9,hbs,dY,keyOf,-ak];apply hK5;refine aac ?_;simp[w1];refine⟨[]++[N],Le.keys [(0,2,J9 ([]++[N]))] 19 _ rfl rfl (by simp) (by simp) (by simp) ?_ ?_,⟨hok,hvl,by simp<;>omega⟩,by simp<;>omega⟩
    ·intro e he;simp only[rP,Zd,or_false]at he;subst he;rw[hB1];simpa[wK]using lf .i64 2 ([]++[N]) _
    ·rw[hV1];have hz2':(s.length:Int)-9=y:=by simpa using hz2
     simp[bP,hz2']
   ·have hB0:J9 p=.cells true false 2 (wK .i64 p):=if_neg hp;have hV0:NO p=.c (.aD 0 0 p.length 1):=if_neg hp;refine aac ?_;simp[hB0,hV0,hbs,dY,keyOf,CF,-ak]
    repeat refine ah ?_
    apply hK5;refine aac ?_;simp[w1];refine⟨p++[N],Le.keys [(0,2,J9 (p++[N]))] 19 _ rfl rfl (by simp) (by simp) (by simp) ?_ ?_,⟨hok,hvl,by simp;omega⟩,by simp;omega⟩
    ·intro e he;simp only[rP,Zd,or_false]at he;subst he;rw[hB1];simpa using lf .i64 2 (p++[N]) _
    ·rw[hV1];have hz2':(s.length:Int)-9*((p.length:Int)+1)=y:=by simpa using hz2
     simp[bP,hz2']
 ·have hp:p≠[]:=by
   intro e;subst e;have:=List.length_pos_iff.2 hne;simp at hz;omega
  have hB0:J9 p=.cells true false 2 (wK .i64 p):=if_neg hp;have hV0:NO p=.c (.aD 0 0 p.length 1):=if_neg hp;have h0:s.length-9*p.length=0:=by omega
  rw[h0,Y9]at h2;have hout:di p=aK 1000000000 (aP s 0):=dZ (by decide) h1 h2;rw[hB0,hV0];refine aaj (by simp[hgo]<;>omega) (aan (hK _ _ (aak λK hK=>?_)));simp;refine gB.qg (T:=2) (k:=.i64) (l:=p) 1 9 0 (by simp) (by omega) (jH _ _ (by omega)) (by simp) (by simp) (by simp) ?_;simp;apply hK;exact aae (au.rt (t:=2) rfl 9 (by simp[hout]))
def JI(d:Nat):UInt8:=UInt8.ofNat (48+d)
def lO(h:d<10):(JI d).toNat=48+d:=by simp[JI];omega
def MM{c:UInt8}(h:48<=c.toNat/\c.toNat<=57):JI (c.toNat-48)=c:=UInt8.toNat_inj.1 (by rw[lO (by omega)];omega)
def DR(n:Nat):Nat->List UInt8
 |0=>[]
 |i+1=>JI (n/10^i%10)::DR n i
def xq(n:Nat):∀i,(DR n i).length=i
 |0=>rfl
 |i+1=>by rw[DR,ZA,xq n i]
theorem Qn(n:Nat):∀i,wk (DR n i)
 |0=>λc hc=>by cases hc
 |i+1=>λc hc=>by
  rw[DR]at hc;rcases List.mem_cons.1 hc with rfl|hc
  ·rw[lO (by omega)];omega
  ·exact Qn n i c hc
theorem Qg(n:Nat):∀i,aP (DR n i) 0=n%10^i
 |0=>by simp[DR,aP,Nat.mod_one]
 |i+1=>by
  have ih:=Qg n i
  have e:aP (DR n (i+1)) 0=(n/10^i%10)*10^i+n%10^i:=by
   rw[DR];show aP (DR n i) (10*0+((JI (n/10^i%10)).toNat-48))=_;rw[fB,ih,xq,lO (by omega),Z7,Zw,aaP]
  rw[e,Zl,Nat.mod_mul,Zk,Z8]
def r8(s t:List UInt8):aI prog .add 9 (.c (.d (.str s))) (.c (.d (.str t)))=some (.c (.d (.str (s++t))),[],[],s.length+t.length<=9223372036854775807):=by
 simp[aI,Ld,qO]
def QJ:fh prog 138=some (5,1):=by simp
def TM(lv:Key->LB)(κ:Key)(h:lv κ=.hole)(a:CV):ak prog 138 1 [0] lv κ [.c a]=some (.c (.aD κ 0 1 1),[(κ,.cells true false 5 [a])],[],True):=by
 unfold ak;rw[h];kernel_rfl
theorem I7(G:List (List DV))(n:Nat)(hn:n<1000000000):aa prog G 273 [.c (.d (.int .i64 (n:Int)))] (.c (.d (.str (DR n 9)))):=by
 have hbs:∀(lv:Key->LB) (h:lv 0=.hole) (a:CV),ak prog 138 1 [0] lv 0 [.c a]=some (.c (.aD 0 0 1 1),[(0,.cells true false 5 [a])],[],True):=λlv h a=>TM lv 0 h a
 refine aa.Qh func273 rfl λ_=>aab ?_;refine aab ?_;refine aaa λK hK=>aab ?_;refine aaf ?_;refine aao (λ(i:Nat)=>⟨aU [(0,.c (.d (.int .i64 ((n/10^i:Nat):Int)))),(3,.c (.d (.str (DR n i)))),(4,.c (.d (.int .i64 (i:Int))))],λ_=>.hole⟩) 0 (λi=>i<=9) (λi=>9-i) 0 (Le.mk' _ rfl bg (by simp[DR])) (by omega) ?_;intro i hi
 try simp only at hi
 have hle:n/10^i<=n:=abM _ _;have hnx:n/10^(i+1)=n/10^i/10:=by rw[Zl,acq]
 have hds:DR n (i+1)=JI (n/10^i%10)::DR n i:=rfl;have hdl:=xq n i;obtain⟨q,hq⟩:∃q,n/10^i=q:=⟨_,rfl⟩
 obtain⟨T,hT⟩:∃T,DR n i=T:=⟨_,rfl⟩
 rw[hq]at hle hnx hds;rw[hT]at hds hdl;simp only[hq,hT];refine aaa λK3 hK3=>aab ?_
 by_cases hlt:i<9
 ·have hlt':(i:Int)<9:=by omega
  have e1:(q:Int).tmod 10=((q%10:Nat):Int):=uU q 10;have e2:i64.wrap (48+((q%10:Nat):Int))=((48+q%10:Nat):Int):=by rw[bF (by omega) (by omega)];omega
  have e3:u8.wrap ((48+q%10:Nat):Int)=((48+q%10:Nat):Int):=cM ⟨by simp only[Bl];omega,by simp only[qj];omega⟩;have e4:(q:Int).tdiv 10=((q/10:Nat):Int):=nS q 10;have w4:=bF (n:=((q/10:Nat):Int)) (by omega) (by omega);have w5:=bF (n:=(i:Int)+1) (by omega) (by omega);refine aag (by simp[hlt,hlt']<;>omega) (aad (hK3 _ _ (aaa λK5 hK5=>aaf (aaa λK6 hK6=>?_))));refine AW.xj ?_;refine oc.run 5 rfl ?_;simp[e1,e2,e3,hbs,-ak,-Int.natCast_add,-Int.natCast_emod];refine oc.KX (κ:=0) (off:=0) (own:=true) (fz:=false) (T':=5) (e:=5) (cs:=[.d (.int .u8 ((48+q%10:Nat):Int))]) (n:=((48+q%10:Nat):Int)) 1 rfl rfl rfl (by simp) (by simp) (by simp) QJ Tryz.underlying5 (by simp) ?_;refine oc.run 3 rfl ?_;simp[r8]
  repeat refine ah ?_
  refine oc.done ?_;apply hK6;refine aac ?_;simp[e4,w4,-Int.natCast_ediv];apply hK5;refine aac ?_;simp[w5];refine⟨i+1,Le.keys [] 19 _ rfl rfl (by simp) (by simp) (by simp) (by simp) ?_,by omega,by omega⟩
  have f0:(q:Int)/10=(n:Int)/10^(i+1):=by
   have:=congrArg (λx:Nat=>(x:Int)) hnx;simpa using this.symm
  have f1:(48+(q:Int)%10).toNat=48+q%10:=by omega
  simp[bP,hds,JI];exact⟨f0,by rw[f1];simp⟩
 ·obtain rfl:i=9:=by omega
  refine aaj (by simp[hlt]<;>omega) (aan (hK _ _ (aab ?_)));exact aae (au.rt (t:=2) rfl 9 (by simp[hT]))
def uy:Nat->Nat->List UInt8
 |0,n=>[JI n]
 |f+1,n=>if n<10 then[JI n]else uy f (n/10)++[JI (n%10)]
def jG(n:Nat):List UInt8:=uy n n
def Cf:∀(f n:Nat),n<=f->uy f n=jG n
 | 0,n,h=>by have:n=0:=by omega
             subst this;rfl
 |f+1,n,h=>by
  unfold jG
  by_cases h10:n<10
  ·cases n with
   |zero=>rfl
   |succ n=>rw[uy,if_pos h10,uy,if_pos h10]
  ·obtain⟨m,rfl⟩:∃m,n=m+1:=⟨n-1,by omega⟩
   rw[uy,if_neg h10,uy,if_neg h10,Cf f ((m+1)/10) (by omega),Cf m ((m+1)/10) (by omega)]
def HN(h:n<10):jG n=[JI n]:=by
 unfold jG
 cases n with
 |zero=>rfl
 |succ n=>rw[uy,if_pos h]
def Hz(h:¬n<10):jG n=jG (n/10)++[JI (n%10)]:=by
 obtain⟨m,rfl⟩:∃m,n=m+1:=⟨n-1,by omega⟩
 conv=>lhs;unfold jG
 rw[uy,if_neg h,Cf m ((m+1)/10) (by omega)]
def AU(l:List UInt8)(c:UInt8):aP (l++[c]) 0=10*aP l 0+(c.toNat-48):=by rw[kS];rfl
theorem Pd(h:wk l)(hne:l≠[])(h0:l.getD 0 0≠48):1<=aP l 0:=by
 cases l with
 |nil=>exact absurd rfl hne
 |cons c l=>
  have hc:=h c (by simp);have hc48:c≠48:=h0;have hcn:c.toNat≠48:=λe=>hc48 (UInt8.toNat_inj.1 (by rw[e];rfl))
  show 1<=aP l (10*0+(c.toNat-48));rw[fB];have:1*1<=(10*0+(c.toNat-48))*10^l.length:=aa6 (by omega) (Zv (by decide));omega
theorem ME:∀(k:Nat) (s:List UInt8),s.length=k->isRow s->s=jG (aP s 0)
 |0,s,hk,h=>absurd (Z4 hk) h.2.1
 |k+1,s,hk,⟨h1,h2,h3⟩=>by
  rcases abu s with rfl|⟨l,c,rfl⟩
  ·exact absurd rfl h2
  ·rw[abv]at*
   have hc:=h1 c (by simp);have hl:wk l:=λx hx=>h1 x (by simp[hx])
   rw[AU]
   by_cases hle:l=[]
   ·subst hle;show [c]=jG (10*aP [] 0+(c.toNat-48));rw[show 10*aP [] 0+(c.toNat-48)=c.toNat-48 by simp[aP],HN (by omega),MM hc]
   ·have h0:l.getD 0 0≠48:=by
     rcases h3 with h3|h3
     ·exfalso;have:=congrArg List.length h3;simp at this;exact hle this
     ·cases l with
      |nil=>exact absurd rfl hle
      |cons a l=>exact h3
    have hp:=Pd hl hle h0;have ih:=ME k l (by simpa using hk) ⟨hl,hle,.inr h0⟩;rw[Hz (by omega),show(10*aP l 0+(c.toNat-48))/10=aP l 0 by omega,show(10*aP l 0+(c.toNat-48))%10=c.toNat-48 by omega,<-ih,MM hc]
def xJ(h:isRow s):s=jG (aP s 0):=ME _ s rfl h
theorem Bf(G:List (List DV))(A:Nat)(o:Option (List Nat))(ho:dO o=aK 1000000000 A)(hl:(aK 1000000000 A).length<=100000):aa prog G 217 [.c (rC o)] (.c (.d (.str (jG A)))):=by
 have hok:=(bw (B:=1000000000) (by decide) A).1;have hval:=bt (B:=1000000000) (by decide) A;obtain⟨D,hD⟩:∃D,aK 1000000000 A=D:=⟨_,rfl⟩
 rw[hD]at hok hval hl ho;have nineG:=λn h=>I7 G n h
 rw[<-fX];have hw0:=bF (n:=(D.length:Int)-1) (by omega) (by omega);refine aa.en func217 rfl λ_=>aab ?_;refine aab ?_;refine aaa λK hK=>aap ho hw0 ?_;refine aaf ?_
 refine aao (λ(p:Nat×List UInt8)=>⟨aU [(0,nK .i64 o),(3,.c (.d (.str p.2))),(4,.c (.d (.int .i64 ((p.1:Int)-1))))],λ_=>.hole⟩) 0
  (λp=>p.1<=D.length/\wk p.2/\aP p.2 0=val 1000000000 (D.drop p.1)/\p.2.length=9*(D.length-p.1)) (λp=>p.1) (D.length,[]) (Le.mk' _ rfl bg (by simp[hw0])) ⟨aY _,λc hc=>(by cases hc),by simp[aP],by simp⟩ ?_
 rintro⟨k,S⟩ ⟨h1,h2,h3,h4⟩;simp only at h1 h2 h3 h4;refine aaa λK3 hK3=>aab ?_
 cases k with
 |succ k=>
  have hk:k<D.length:=by omega
  have hko:k<(dO o).length:=by rw[ho];exact hk
  have e2:((k+1:Nat):Int)-1=k:=by omega
  simp only[e2];obtain⟨x,hx⟩:∃x,(dO o)[k]=x:=⟨_,rfl⟩
  have hxD:D[k]=x:=by rw[<-hx];congr 1;exact ho.symm
  have hxB:x<1000000000:=by rw[<-hxD];exact hok _ (bh hk)
  have hv:=cL (B:=1000000000) hk;rw[hxD]at hv;have nn:=nineG x hxB;have hnd:=Qn x 9;have hnv:=Qg x 9;have hnl:=xq x 9;obtain⟨T,hT⟩:∃T,DR x 9=T:=⟨_,rfl⟩
  rw[hT]at nn hnd hnv hnl;have w9:=bF (n:=(k:Int)-1) (by omega) (by omega);refine aai (aad (hK3 _ _ (aaa λK5 hK5=>aaf (aac ?_))));simp[hko,hx];refine ag.p 0 9 nn ?_;simp[r8]
  repeat refine ah ?_
  apply hK5;refine aac ?_;simp[w9];refine⟨k,S++T,Le.mk' _ rfl bg (by simp),⟨by omega,?_,?_,?_⟩,by omega⟩
  ·intro c hc;rcases List.mem_append.1 hc with hc|hc
   ·exact h2 c hc
   ·exact hnd c hc
  ·rw[kS,fB,hnv,hnl,h3,hv,ZI hxB];omega
  ·rw[Zg,h4,hnl];omega
 |zero=>
  rw[Y9,hval]at h3;refine aah (aan (hK _ _ (aaa λK hK=>aaf ?_)))
  refine aao (λ(S:List UInt8)=>⟨aU [(3,.c (.d (.str S)))],λ_=>.hole⟩) 0
   (λS=>wk S/\aP S 0=A/\S.length<=9*D.length) (λS=>S.length) S (Le.mk' _ rfl bg (by simp)) ⟨h2,h3,by omega⟩ ?_
  rintro S ⟨q1,q2,q3⟩
  have fin:∀(fr:Nat->AV) (κ:Nat),S≠[]->isRow S->fr 3=.c (.d (.str S))->K ⟨fr,λ_=>.hole⟩ κ:=by
   intro fr κ hne hr z3;have hrd:=xJ hr;rw[q2]at hrd;apply hK;refine aaa λK6 hK6=>aaC z3 @xm hne ?_;refine aah (aad (hK6 _ _ (aam z3 ?_)));exact aae (au.rt (t:=2) rfl 9 (by simp[hrd.symm]))
  refine aaa λK4 hK4=>aaa λK5 hK5=>?_
  cases S with
  |nil=>
   have hA:A=0:=q2.symm;refine aaD (hK5 _ _ ?_);refine aah (aan (hK _ _ (aaa λK6 hK6=>aam @xm ?_)));refine aai (aaD (hK6 _ _ ?_));refine aab ?_;have hs:jG A=[48]:=by rw[hA];rfl
   exact aae (au.rt (t:=2) rfl 9 (by simp[hs]))
  |cons c l=>
   have hc:=q1 c (by simp)
   cases l with
   |nil=>
    refine aaD (hK5 _ _ ?_);refine aah (aan ?_);simp;refine fin _ _ (by simp) ⟨q1,by simp,?_⟩ (by simp)
    by_cases h:c=48
    ·exact .inl (by rw[h])
    ·exact .inr h
   |cons d l=>
    have hl2:(1:Int)<((l.length:Int)+1+1):=by omega
    have hl3:(0:Int)<((l.length:Int)+1+1):=by omega
    have ll:l.length<=900000:=by simp at q3;omega
    by_cases h:c=48
    ·subst h;refine aac ?_;simp[hl2,hl3];apply hK5;refine aai (aad (hK4 _ _ (aaf (aac ?_))));simp
     repeat refine ah ?_
     have ht:List.take (((l.length:Int)+1+1).toNat) ((48:UInt8)::d::l)=48::d::l:=aa5 (by simp;omega);exact⟨d::l,Le.mk' _ rfl bg (by simp[ht]),⟨λx hx=>q1 x (aaI _ hx),q2,by simp at q3⊢;omega⟩,by simp⟩
    ·have hcn:¬(c.toNat:Int)=48:=λe=>h (UInt8.toNat_inj.1 (by show c.toNat=48;omega))
     have hcn2:¬c.toNat=48:=by omega
     refine aac ?_;simp[hl2,hl3,hcn,hcn2];apply hK5;refine aah (aan ?_);simp;exact fin _ _ (by simp) ⟨q1,by simp,.inr h⟩ (by simp)
def Al(x:Rat):List UInt8:=(if x.num<0 then[45]else[])++jG x.num.natAbs++(if x.den=1 then[]else[47]++jG x.den)
def JD{L:Nat}(h:n<10^L)(hL:1<=L):(jG n).length<=L:=by
 induction L generalizing n with
 |zero=>omega
 |succ L ih=>
  by_cases h10:n<10
  ·rw[HN h10];simp
  ·rw[Hz h10,Zg,ZY]
   have hL1:1<=L:=by
    rcases abm L with h0|h0
    ·subst h0;simp at h;omega
    ·exact h0
   have:=ih (n:=n/10) (by rw[abb (by decide),<-Zl];exact h) hL1;omega
def HK(n:Nat):(jG n).length<=10*nl n+1:=by
 have h1:=yC n;have h2:4294967296^nl n<=(10^10)^nl n:=abz (by decide) _;rw[<-aaV]at h2;have h3:n<10^(10*nl n+1):=ZE (ZE h1 h2) (ZQ (by decide) (by omega));exact JD h3 (by omega)
def O5{x:Rat}:eV x<0↔x.num<0:=by
 unfold eV
 by_cases h:x.num=0
 ·rw[if_pos h];omega
 ·rw[if_neg h];split<;>omega
theorem IJ(G:List (List DV))(x:Rat)(hx:j6 x 20000):aa prog G 153 [dD x] (.c (.d (.str (Al x)))):=by
 have h1:=MT hx.1;have h2:=MT hx.2;have t1:=Bf G x.num.natAbs (jV x) (mT x) (by omega);have ii:=zw G x;have l1:=HK x.num.natAbs;have l2:=HK x.den;have hx1:=hx.1;have hx2:=hx.2;have hn:=O5 (x:=x)
 have t2:¬x.den=1->aa prog G 217 [.c (rC (mA x))] (.c (.d (.str (jG x.den)))):=λh=>by
  have h0:x.num≠0:=λe=>h (DA e)
  refine Bf G x.den (mA x) (by rw[Bw h0];rfl) (by omega)
 have hS:Al x=(if x.num<0 then[45]else[])++jG x.num.natAbs++(if x.den=1 then[]else[47]++jG x.den):=rfl;generalize Al x=Z at*
 generalize jG x.num.natAbs=P at*
 generalize jG x.den=Q at*
 refine aa.en func153 rfl λ_=>aab ?_;refine aar 1 t1 ?_;refine aaa λK hK=>?_
 have fin:∀(S:List UInt8) (fr:Nat->AV) (κ:Nat),S=(if x.num<0 then[45]else[])++P->fr 1=.c (.ptr 0 0)->fr 3=.c (.d (.str S))->K ⟨fr,az (λ_=>.hole) 0 (.cells true false 215 [.d (.int .i64 (eV x)),rC (jV x),rC (mA x)])⟩ κ:=by
  intro S fr κ hSe z1 z3;have hSl:S.length<=P.length+1:=by rw[hSe];split<;>simp<;>omega
  rw[<-hSe]at hS;apply hK;refine aaa λK1 hK1=>aaa λK2 hK2=>?_
  by_cases hd:x.den=1
  ·rw[if_pos hd,ZL]at hS;refine AW.m2 1 ii z1 hd (hK2 _ _ ?_);refine aah (aad (hK1 _ _ (aam z3 ?_)));exact aae (au.rt (t:=2) rfl 9 (by simp[hS]))
  ·have t2':=t2 hd;rw[if_neg hd]at hS;refine AW.m2 1 ii z1 hd (hK2 _ _ ?_);refine aai (aac ?_);simp[z1,z3,r8]
   repeat refine ah ?_
   refine ag.pure 1 9 t2' (by simp) (by simp) (by simp) ?_;simp[r8]
   repeat refine ah ?_
   apply hK1;refine aab ?_;exact aae (au.rt (t:=2) rfl 9 (by simp[hS]))
 refine aaa λK1 hK1=>?_
 by_cases hneg:x.num<0
 ·have hr:=hn.2 hneg;refine aas hr (hK1 _ _ ?_);refine aai (aac ?_);simp[r8]
  repeat refine ah ?_
  exact fin ([45]++P) _ _ (by rw[if_pos hneg]) (by simp) (by simp)
 ·have hr:¬eV x<0:=λh=>hneg (hn.1 h)
  refine aas hr (hK1 _ _ ?_);refine aah (aad ?_);simp;exact fin P _ _ (by rw[if_neg hneg];rfl) (by simp) (by simp)
def au.UA{t1 t2 t3 t4:Nat}{s:aE}(hr:fn.results=#[.tmp t1,.tmp t2,.tmp t3,.tmp t4])(kh:Key)(hx:s.fr t1=x)(hy:s.fr t2=y)(hz:s.fr t3=z)(hu:s.fr t4=u)(hp:x.pure=true)(hq:y.pure=true)(hw:z.pure=true)(hv:u.pure=true)(hh:s.lv kh=.hole)
 (n1:x.cH=true) (n2:y.cH=true) (n3:z.cH=true) (n4:u.cH=true) (h12:t1≠t2) (h13:t1≠t3) (h14:t1≠t4) (h23:t2≠t3) (h24:t2≠t4) (h34:t3≠t4):au c fn (.tup [x,y,z,u]) .ret s κ:=by
 refine⟨[(t1,x),(t2,y),(t3,z),(t4,u)],kh,by simp[hp,hx,hq,hy,hw,hz,hv,hu],hh,?_⟩;rw[hr];simp[cO,iT,j8,aU,h12.symm,h13.symm,h14.symm,h23.symm,h24.symm,h34.symm,n1,n2,n3,n4]
def y9:∀{s:List UInt8},(∀c∈s,c≠47)->kP s [47] = -1
 |[],_=>rfl
 |a::s,h=>by
  have ha:=h a (by simp);have ih:=y9 (s:=s) λc hc=>h c (by simp[hc])
  unfold kP at ih⊢;rw[Lib.index];have hp:([47]:List UInt8).isPrefixOf (a::s)=false:=by simp[List.isPrefixOf,Ne.symm ha]
  rw[hp,ih];rfl
theorem Gl:∀{a b:List UInt8},(∀c∈a,c≠47)->kP (a++47::b) [47]=a.length
 |[],b,_=>by simp[kP,Lib.index,List.isPrefixOf]
 |x::a,b,h=>by
  have hx:=h x (by simp);have ih:=Gl (a:=a) (b:=b) λc hc=>h c (by simp[hc])
  unfold kP at ih⊢;rw[abF,Lib.index];have hp:([47]:List UInt8).isPrefixOf (x::(a++47::b))=false:=by simp[List.isPrefixOf,Ne.symm hx]
  rw[hp,ih];have h1:((a.length:Int) == -1)=false:=by rw[beq_eq_false_iff_ne];omega
  simp only[Zj,if_false,h1,ZA];omega
def VN(s:List UInt8):List UInt8:=uk s [47]
def SE(s:List UInt8):List UInt8:=if 0<=kP s [47]then s7 s [47]else[49]
def De(neg:Bool):Int:=if neg then -1 else 1
abbrev Qd(neg:Bool)(s:List UInt8):AV:=.tup [.c (.d (.str (VN s))),.c (.d (.str (SE s))),.c (.d (.int .i64 (De neg))),.c (.d (.bool (!jm neg (uk s [47]) (s7 s [47]) (decide (0<=kP s [47])))))]
theorem JJ(G:List (List DV))(r:List UInt8):aa prog G 242 [.c (.d (.str r))] (Qd (tN r [45]) (lF r [45])):=by
 refine aA.jR 0 (by simp) (λV v h=>(show r.length<=9223372036854775807 by cases h.1 with|str _ hl=>exact hl)) λhs=>?_;have rowG:=λs=>NA G s
 have hsl:(lF r [45]).length<=r.length:=by unfold lF;split<;>simp
 have hdec:(tN r [45]=true/\∃l,r=45::l/\lF r [45]=l)\/(tN r [45]=false/\lF r [45]=r/\(r=[]\/∃c l,r=c::l/\c≠45)):=by
  cases r with
  |nil=>exact .inr ⟨rfl,rfl,.inl rfl⟩
  |cons c l=>
   by_cases hc:c=45
   ·subst hc;have:tN (45::l) [45]=true:=by simp[tN]
    exact .inl ⟨this,l,rfl,by unfold lF;rw[if_pos this];rfl⟩
   ·have:tN (c::l) [45]=false:=by simp[tN,hc]
    exact .inr ⟨this,by unfold lF;rw[if_neg (by rw[this];decide)],.inr ⟨c,l,rfl,hc⟩⟩
 generalize lF r [45]=s at*
 generalize tN r [45]=neg at*
 refine aa.en func242 rfl λ_=>aab ?_;refine aab ?_;refine aaa λK hK=>?_
 have main:∀(fr:Nat->AV) (κ:Nat),fr 6=.c (.d (.str s))->fr 7=.c (.d (.int .i64 (De neg)))->K ⟨fr,λ_=>.hole⟩ κ:=by
  intro fr κ z6 z7;apply hK;refine aaa λK hK=>aab ?_;refine aaf ?_;refine aao (λ(i:Nat)=>⟨aU [(6,.c (.d (.str s))),(7,.c (.d (.int .i64 (De neg)))),(8,.c (.d (.int .i64 (i:Int))))],λ_=>.hole⟩) 0 (λi=>i<=s.length/\∀c∈s.take i,c≠47) (λi=>s.length-i) 0 (Le.mk' _ rfl bg (by simp[z6,z7])) ⟨Zi _,λc hc=>by simp at hc⟩ ?_;rintro i ⟨hi,hd⟩;refine aaa λK3 hK3=>aab ?_
  by_cases hlt:i<s.length
  ·have hlt':(i:Int)<(s.length:Int):=by omega
   have wi:=bF (n:=(i:Int)+1) (by omega) (by omega);obtain⟨c,hc⟩:∃c,s[i]=c:=⟨_,rfl⟩
   refine aag (by simp[hlt]<;>omega) (aad (hK3 _ _ (aaa λK5 hK5=>aaf (aak λK6 hK6=>?_))));simp[hlt,hlt',hc];apply hK6
   by_cases h47:c=47
   ·have hcn:(c.toNat:Int)=47:=by rw[h47];rfl
    have hcn2:c.toNat=47:=by rw[h47];rfl
    have hsp:s=s.take i++47::s.drop (i+1):=by
     conv=>lhs;rw[<-abp i s,Z6 hlt,hc,h47]
    have hidx:kP s [47]=i:=by
     have:=Gl (b:=s.drop (i+1)) hd;rwa[<-hsp,Ze,ZS (by omega)]at this
    have hge:0<=kP s [47]:=by rw[hidx];omega
    have hA:uk s [47]=s.take i:=by unfold uk;rw[if_pos hge,hidx,Zp]
    have hB:s7 s [47]=s.drop (i+1):=by unfold s7;rw[if_pos hge,hidx,Zp];rfl
    have hT:VN s=s.take i:=hA;have hB2:SE s=s.drop (i+1):=by unfold SE;rw[if_pos hge,hB]
    have hbad:(!jm neg (uk s [47]) (s7 s [47]) (decide (0<=kP s [47])))=(fc (s.take i)&&fc (s.drop (i+1))&&!decide (s.drop (i+1)=[48])&&!decide (s.drop (i+1)=[49])&&(!decide (s.take i=[48]) ||decide (0<De neg))):=by
     rw[hA,hB,decide_eq_true hge];unfold jm De
     cases fc (s.take i)<;>cases fc (s.drop (i+1))<;>cases neg<;>cases decide (s.take i=[48])<;>cases decide (s.drop (i+1)=[48])<;>cases decide (s.drop (i+1)=[49])<;>rfl
    have e1:∀l:List UInt8,(l.take ((i:Int)).toNat).drop (0:Int).toNat=l.take i:=λl=>rfl
    have hdr:(s.take ((s.length:Int)).toNat).drop ((i+1:Nat):Int).toNat=s.drop (i+1):=by rw[Zp,Zp,List.take_length]
    obtain⟨p,hp⟩:∃p,s.take i=p:=⟨_,rfl⟩
    obtain⟨q,hq⟩:∃q,s.drop (i+1)=q:=⟨_,rfl⟩
    have rp:=rowG p;have rq:=rowG q;rw[hp]at hT;rw[hq]at hB2;rw[hp,hq]at hbad;have hp':List.drop 0 (List.take i s)=p:=hp;refine aag (by simp[hcn,hcn2]<;>omega) (aaa λK6 hK6=>?_);refine aaq mixed (by kernel_rfl) rfl ?_;simp[wi,hp,hq,hlt]
    repeat refine ah ?_
    refine⟨by kernel_rfl,?_⟩;apply hK6;refine aaa λK6 hK6=>?_
    have fin:∀(b:Bool) (fr:Nat->AV) (κ:Nat),fr 2=.c (.d (.str p))->fr 3=.c (.d (.str q))->fr 4=.c (.d (.int .i64 (De neg)))->fr 5=.c (.d (.bool b)) ->
     b=(fc p&&fc q&&!decide (q=[48])&&!decide (q=[49])&&(!decide (p=[48]) ||decide (0<De neg)))->K6 ⟨fr,λ_=>.hole⟩ κ:=by
     intro b fr κ z2 z3 z4 z5 hb;rw[<-hbad]at hb;apply hK6;exact aal (κ:=0) (au.UA (κ:=0) rfl 9 (by simp[z2,hT]) (by simp[z3,hB2]) (by simp[z4]) (by simp[z5,hb]) rfl rfl rfl rfl rfl rfl rfl rfl rfl (by decide) (by decide) (by decide) (by decide) (by decide) (by decide))
    cases r1:fc p with
    |false=>
     refine aac ?_;simp;refine ag.p 0 9 rp ?_;simp[r1];exact fin false _ _ (by simp) (by simp) (by simp) (by simp) (by simp[r1])
    |true=>
    cases r2:fc q with
    |false=>
     refine aac ?_;simp;refine ag.p 0 9 rp ?_;simp[r1];refine ag.p 0 9 rq ?_;simp[r2];exact fin false _ _ (by simp) (by simp) (by simp) (by simp) (by simp[r1,r2])
    |true=>
    by_cases q0:q=[48]
    ·subst q0;refine aac ?_;simp;refine ag.p 0 9 rp ?_;simp[r1];refine ag.p 0 9 rq ?_;simp[r2,vM];exact fin false _ _ (by simp) (by simp) (by simp) (by simp) (by simp[r1,r2])
    by_cases q1:q=[49]
    ·subst q1;refine aac ?_;simp;refine ag.p 0 9 rp ?_;simp[r1];refine ag.p 0 9 rq ?_;simp[r2,vM];exact fin false _ _ (by simp) (by simp) (by simp) (by simp) (by simp[r1,r2])
    by_cases p0:p=[48]
    ·subst p0;refine aac ?_;simp;refine ag.p 0 9 rp ?_;simp[r1];refine ag.p 0 9 rq ?_;simp[r2,vM,q0,q1];exact fin (decide (0<De neg)) _ _ (by simp) (by simp) (by simp) (by simp) (by simp[r1,r2,q0,q1])
    ·refine aac ?_;simp;refine ag.p 0 9 rp ?_;simp[r1];refine ag.p 0 9 rq ?_;simp[r2,vM,q0,q1,p0];exact fin true _ _ (by simp) (by simp) (by simp) (by simp) (by simp[r1,r2,q0,q1,p0])
   ·have hcn:¬(c.toNat:Int)=47:=λe=>h47 (UInt8.toNat_inj.1 (by show c.toNat=47;omega))
    have hcn2:¬c.toNat=47:=by omega
    refine aaj (by simp[hcn,hcn2]<;>omega) (aad (hK5 _ _ (aac ?_)));simp[wi];refine⟨i+1,Le.mk' _ rfl bg (by simp),⟨by omega,?_⟩,by omega⟩;intro x hx;rw[abr,cy hlt,Z5]at hx;rcases hx with hx|hx
    ·exact hd x hx
    ·simp only[Option.toList_some,ZV]at hx;rw[hx,hc];exact h47
  ·have he:i=s.length:=by omega
   subst he;rw[List.take_length]at hd;have hidx:=y9 hd;have hge:¬0<=kP s [47]:=by rw[hidx];decide
   have hA:uk s [47]=s:=if_neg hge;have hT:VN s=s:=hA;have hB2:SE s=[49]:=if_neg hge
   have hbad:(!jm neg (uk s [47]) (s7 s [47]) (decide (0<=kP s [47])))=(fc s&&(!decide (s=[48]) ||decide (0<De neg))):=by
    rw[hA,decide_eq_false hge];unfold jm De
    cases fc s<;>cases neg<;>cases decide (s=[48])<;>rfl
   have rs:=rowG s;refine aaj (by simp[hlt]<;>omega) (aan (hK _ _ (aaa λK6 hK6=>?_)))
   have fin:∀(b:Bool) (fr:Nat->AV) (κ:Nat),fr 2=.c (.d (.str s))->fr 3=.c (.d (.str [49]))->fr 4=.c (.d (.int .i64 (De neg)))->fr 5=.c (.d (.bool b)) ->
    b=(fc s&&(!decide (s=[48]) ||decide (0<De neg)))->K6 ⟨fr,λ_=>.hole⟩ κ:=by
    intro b fr κ z2 z3 z4 z5 hb;rw[<-hbad]at hb;apply hK6;exact aal (κ:=0) (au.UA (κ:=0) rfl 9 (by simp[z2,hT]) (by simp[z3,hB2]) (by simp[z4]) (by simp[z5,hb]) rfl rfl rfl rfl rfl rfl rfl rfl rfl (by decide) (by decide) (by decide) (by decide) (by decide) (by decide))
   cases r1:fc s with
   |false=>
    refine aac ?_;simp;refine ag.p 0 9 rs ?_;simp[r1];exact fin false _ _ (by simp) (by simp) (by simp) (by simp) (by simp[r1])
   |true=>
   by_cases p0:s=[48]
   ·subst p0;refine aac ?_;simp;refine ag.p 0 9 rs ?_;simp[r1,vM];exact fin (decide (0<De neg)) _ _ (by simp) (by simp) (by simp) (by simp) (by simp[r1])
   ·refine aac ?_;simp;refine ag.p 0 9 rs ?_;simp[r1,vM,p0];exact fin true _ _ (by simp) (by simp) (by simp) (by simp) (by simp[r1,p0])
 refine aaa λK1 hK1=>?_;rcases hdec with⟨hn,l,hr,hl⟩|⟨hn,hl,hr|⟨c,l,hr,hc⟩⟩
 ·subst hr;subst hl;have ht:List.take (((s.length:Int)+1).toNat) ((45:UInt8)::s)=45::s:=aa5 (by simp);have hp:(0:Int)<(s.length:Int)+1:=by omega
  have hll:s.length+1<=9223372036854775807:=by simpa using hs
  refine aac ?_;simp[hp];apply hK1;refine aai (aac ?_);simp[ht]
  repeat refine ah ?_
  exact main _ _ (by simp[ht]) (by simp[De,hn])
 ·subst hr;subst hl;refine aaD (hK1 _ _ ?_);refine aah (aad ?_);simp;exact main _ _ (by simp) (by simp[De,hn])
 ·subst hr;subst hl;have hcn:¬(c.toNat:Int)=45:=λe=>hc (UInt8.toNat_inj.1 (by show c.toNat=45;omega))
  have hcn2:¬c.toNat=45:=by omega
  have hp:(0:Int)<(l.length:Int)+1:=by omega
  refine aac ?_;simp[hp,hcn,hcn2];apply hK1;refine aah (aad ?_);simp;exact main _ _ (by simp) (by simp[De,hn])
attribute [local irreducible] bO
theorem AX:∀(s:List UInt8),(∀c∈s,c≠47)\/∃a b,s=a++47::b/\∀c∈a,c≠47
 |[]=>.inl λc hc=>by cases hc
 |x::s=>by
  by_cases hx:x=47
  ·subst hx;exact .inr ⟨[],s,rfl,λc hc=>by cases hc⟩
  ·rcases AX s with h|⟨a,b,h,ha⟩
   ·exact .inl λc hc=>by rcases List.mem_cons.1 hc with rfl|hc;exact hx;exact h c hc
   ·exact .inr ⟨x::a,b,by rw[h];rfl,λc hc=>by rcases List.mem_cons.1 hc with rfl|hc;exact hx;exact ha c hc⟩
theorem yE:∀{a a' b b':List UInt8},(∀c∈a,c≠47)->(∀c∈a',c≠47)->a++47::b=a'++47::b'->b=b'
 |[],[],b,b',_,_,h=>(List.cons.inj h).2
 |[],x::a',b,b',_,h',h=>absurd (List.cons.inj h).1.symm (h' x (by simp))
 |x::a,[],b,b',h',_,h=>absurd (List.cons.inj h).1 (h' x (by simp))
 |x::a,y::a',b,b',h1,h2,h=>yE (λc hc=>h1 c (by simp[hc])) (λc hc=>h2 c (by simp[hc])) (List.cons.inj h).2
theorem FC(h:wk s):∀c∈s,c≠47:=λc hc e=>by
 have:=h c hc;rw[e]at this;have h2:(47:UInt8).toNat=47:=rfl;omega
theorem G5:∀(f n:Nat),n<=f->wk (uy f n)/\aP (uy f n) 0=n
 |0,n,h=>by
  have:n=0:=by omega
  subst this;refine⟨λc hc=>?_,rfl⟩;rw[uy,ZV]at hc;rw[hc,lO (by decide)];omega
 |f+1,n,h=>by
  rw[uy]
  by_cases h10:n<10
  ·rw[if_pos h10];refine⟨λc hc=>?_,?_⟩
   ·rw[ZV]at hc;rw[hc,lO h10];omega
   ·show 10*0+((JI n).toNat-48)=n;rw[lO h10];omega
  ·rw[if_neg h10];obtain⟨h1,h2⟩:=G5 f (n/10) (by omega);refine⟨λc hc=>?_,?_⟩
   ·rcases List.mem_append.1 hc with hc|hc
    ·exact h1 c hc
    ·rw[ZV]at hc;rw[hc,lO (by omega)];omega
   ·rw[AU,h2,lO (by omega)];omega
def Ls(n:Nat):wk (jG n):=(G5 n n (aY _)).1
def Rg(n:Nat):aP (jG n) 0=n:=(G5 n n (aY _)).2
def Nn(r:List UInt8):r=(if tN r [45]then[45]else[])++lF r [45]:=by
 unfold lF
 cases h:tN r [45]with
 |false=>rfl
 |true=>
  unfold tN at h;simp only[ZY,cn,decide_eq_true_eq]at h;show r=[45]++r.drop 1;rw[<-h.2];have:=abp 1 r;rw[h.2]at this⊢;exact this.symm
def CH(neg:Bool){P Q:Nat}(hP:P≠0)(hQ:Q≠0):Al (mkRat (dX neg P) Q)=(if neg then[45]else[])++jG (P/Nat.gcd P Q)++(if Q/Nat.gcd P Q=1 then[]else[47]++jG (Q/Nat.gcd P Q)):=by
 obtain⟨n1,n2⟩:=jc neg (a:=P) hQ;have hg:P/Nat.gcd P Q≠0:=aaW (Nat.div_pos (Nat.le_of_dvd (by omega) (ab7 _ _)) (abN _ (by omega)));unfold Al;rw[n1,n2,s5]
 cases neg with
 |true=>
  rw[if_pos (show dX true (P/Nat.gcd P Q)<0 from Int.neg_neg_of_pos (Int.ofNat_lt.2 (abx hg)))];rfl
 |false=>
  rw[if_neg (show ¬dX false (P/Nat.gcd P Q)<0 from Int.not_lt.2 (aaU _))];rfl
def Bi:Al 0=[48]:=rfl
def HE(neg:Bool)(Q:Nat):mkRat (dX neg 0) Q=0:=by
 have e2:dX neg 0=0:=by cases neg<;>rfl
 rw[e2];exact ab8 Q
def Gq(hT:isRow T)(h0:¬(neg=true/\T=[48])):Al (mkRat (dX neg (aP T 0)) 1)=(if neg then[45]else[])++T:=by
 have hd:=xJ hT
 by_cases hP:aP T 0=0
 ·rw[hP,HE,Bi];have:T=[48]:=by rw[hd,hP];rfl
  have hn:neg=false:=by cases neg with
   |false=>rfl
   |true=>exact absurd ⟨rfl,this⟩ h0
  rw[hn,this];rfl
 ·rw[CH neg hP (by decide),abO,aaZ,aaZ,<-hd,if_pos rfl,ZL]
theorem Jz{B:List UInt8}(hT:isRow T)(hB:isRow B)(hQ:2<=aP B 0):Al (mkRat (dX neg (aP T 0)) (aP B 0))=(if neg then[45]else[])++(T++47::B)↔Nat.gcd (aP T 0) (aP B 0)=1:=by
 have hdT:=xJ hT;have hdB:=xJ hB
 have h45:∀c∈(if neg then[45]else[]:List UInt8),c≠47:=by
  intro c hc;split at hc
  ·rw[ZV]at hc;rw[hc];decide
  ·cases hc
 have hmem:(47:UInt8)∈(if neg then[45]else[]:List UInt8)++(T++47::B):=by simp
 constructor
 ·intro h;apply ZG;intro hg
  by_cases hP:aP T 0=0
  ·rw[hP,HE,Bi]at h;rw[<-h]at hmem;simp at hmem
  ·rw[CH neg hP (by omega)]at h;generalize hgg:Nat.gcd (aP T 0) (aP B 0)=g at*
   have hg0:0<g:=by rw[<-hgg];exact abN _ (by omega)
   by_cases h1:aP B 0/g=1
   ·rw[if_pos h1,ZL]at h;rw[<-h]at hmem;rcases List.mem_append.1 hmem with hm|hm
    ·exact h45 47 hm rfl
    ·exact FC (Ls _) 47 hm rfl
   ·rw[if_neg h1,<-Zo]at h
    have h2:((if neg then[45]else[])++jG (aP T 0/g))++47::jG (aP B 0/g)=((if neg then[45]else[])++T)++47::B:=by
     rw[Zo,Zo]at h⊢;simpa using h
    have h3:=yE (λc hc=>by
     rcases List.mem_append.1 hc with hc|hc
     ·exact h45 c hc
     ·exact FC (Ls _) c hc) (λc hc=>by
     rcases List.mem_append.1 hc with hc|hc
     ·exact h45 c hc
     ·exact FC hT.1 c hc) h2
    have h4:=congrArg (λl=>aP l 0) h3;simp only[Rg]at h4;have:aP B 0/g<aP B 0:=Nat.div_lt_self (by omega) (by omega);omega
 ·intro hg;have hP:aP T 0≠0:=by intro e;rw[e,acv]at hg;omega
  rw[CH neg hP (by omega),hg,aaZ,aaZ,<-hdT,<-hdB,if_neg (show ¬aP B 0=1 by omega),Zo];rfl
theorem PG:isRow [49]:=⟨by intro c hc;rw[ZV]at hc;rw[hc];decide,by decide,.inr (by decide)⟩
def CL(s t:List UInt8):aI prog .neq 53 (.c (.d (.str s))) (.c (.d (.str t)))=some (.c (.d (.bool (!decide (s=t)))),[],[],True):=by
 rw[<-PE];kernel_rfl
def bO.KE{z:Rat}{t u k:Nat}{s:aE}(hr:fn.results=#[.cell t 215,.tmp u])(ht:s.fr t=.c (.ptr k 0))(hk:s.lv k=.cells true false 215 [.d (.int .i64 (eV z)),rC (jV z),rC (mA z)])(hu:s.fr u=.c (.d (.int .i64 e)))(hP:c.P=prog):bO c fn (.tup [dD z,.c (.d (.int .i64 e))]) .ret s κ:=
 bO.jQ hr ht hk (by rw[Y9,hP,js]) hu rfl rfl
theorem NF{top bot:List UInt8}{brk:Bool}(h:jm neg top bot brk=false):isRow top/\¬(neg=true/\top=[48])/\(brk=true->isRow bot/\bot≠[48]/\bot≠[49]):=by
 obtain⟨h1,h2⟩:=Gy h;refine⟨oQ.1 h1,?_,λhb=>?_⟩
 ·rintro⟨rfl,rfl⟩;unfold jm at h;simp at h
 ·obtain⟨a,b,c⟩:=h2 hb;exact⟨oQ.1 a,b,c⟩
def Mz{r:List UInt8}(h:eE r≠0):fL r=0:=if_neg h
@[simp]def Vq(h:x.cH=true):uF 0 (.tup [x,y,z,u])=some (x,[],[],True):=by
 cases x<;>first|rfl|cases h
@[simp]def Vg(h:y.cH=true):uF 1 (.tup [x,y,z,u])=some (y,[],[],True):=by
 cases y<;>first|rfl|cases h
@[simp]def V1(h:z.cH=true):uF 2 (.tup [x,y,z,u])=some (z,[],[],True):=by
 cases z<;>first|rfl|cases h
@[simp]def Vz(h:u.cH=true):uF 3 (.tup [x,y,z,u])=some (u,[],[],True):=by
 cases u<;>first|rfl|cases h
theorem rG(G:List (List DV))(r:List UInt8):aa prog G 167 [.c (.d (.str r))] (.tup [dD (fL r),.c (.d (.int .i64 (eE r)))]):=by
 have rw0:=JJ G r;have hE:eE r=dJ (tN r [45]) (uk (lF r [45]) [47]) (s7 (lF r [45]) [47]) (decide (0<=kP (lF r [45]) [47])):=rfl;have hP:fL r=og (tN r [45]) (uk (lF r [45]) [47]) (s7 (lF r [45]) [47]) (decide (0<=kP (lF r [45]) [47])):=rfl;have hsp:=Nn r;obtain⟨s,hs⟩:∃s,lF r [45]=s:=⟨_,rfl⟩
 obtain⟨neg,hn⟩:∃n,tN r [45]=n:=⟨_,rfl⟩
 rw[hs,hn]at rw0 hE hP hsp;unfold Qd at rw0;have hbad0:=Mz (r:=r);have dz:∀e:Int,fF (λ_=>LB.hole) (.tup [dD 0,.c (.d (.int .i64 e))])=some (.tup [dD 0,.c (.d (.int .i64 e))],[]):=λe=>kL _ _ _ _ _
 cases hb:jm neg (uk s [47]) (s7 s [47]) (decide (0<=kP s [47]))with
 |true=>
  have e6:eE r=6:=by rw[hE];unfold dJ;rw[if_pos hb]
  rw[hbad0 (by rw[e6];decide),e6];rw[hb]at rw0;refine aa.enc func167 rfl (λlv=>kL lv _ _ _ _) λ_=>aab ?_;refine aar 1 rw0 ?_;refine aaa λK hK=>aab ?_;refine aai (aap @Ub @aj.eq_1 ?_);exact aal (bO.KE (k:=0) rfl (by simp) (by simp<;>exact⟨rfl,rfl,rfl⟩) (by simp) rfl)
 |false=>
 rw[hb]at rw0;obtain⟨hT,hT0,hB⟩:=NF hb;obtain⟨T,hTe⟩:∃T,uk s [47]=T:=⟨_,rfl⟩
 have hrT:VN s=T:=hTe;obtain⟨B,hBe⟩:∃B,SE s=B:=⟨_,rfl⟩
 rw[hTe]at hT hT0
 have hsame:(2000<max (uk s [47]).length (s7 s [47]).length)↔(2000<T.length\/2000<B.length):=by
  rw[hTe]
  by_cases hk:0<=kP s [47]
  ·have:B=s7 s [47]:=by rw[<-hBe];exact if_pos hk
   rw[this];omega
  ·have h1:B=[49]:=by rw[<-hBe];exact if_neg hk
   have h2:s7 s [47]=[]:=if_neg hk;rw[h1,h2];simp<;>omega
 have hBrow:isRow B/\1<=aP B 0:=by
  by_cases hk:0<=kP s [47]
  ·have h1:B=s7 s [47]:=by rw[<-hBe];exact if_pos hk
   obtain⟨a,b,c⟩:=hB (decide_eq_true hk);rw[h1];exact⟨a,by have:=xQ (oQ.2 a) b c;omega⟩
  ·have h1:B=[49]:=by rw[<-hBe];exact if_neg hk
   rw[h1];exact⟨PG,by decide⟩
 rw[hrT,hBe]at rw0
 by_cases hlong:2000<T.length\/2000<B.length
 ·have e3:eE r=3:=by rw[hE];unfold dJ;rw[if_neg (by rw[hb];decide),if_pos (hsame.2 hlong)]
  rw[hbad0 (by rw[e3];decide),e3];refine aa.enc func167 rfl (λlv=>kL lv _ _ _ _) λ_=>aab ?_;refine aar 1 rw0 ?_;refine aaa λK hK=>aab ?_;refine aah (aad (hK _ _ (aaa λK hK=>aaa λK1 hK1=>?_)))
  by_cases l1:2000<T.length
  ·have l1':(2000:Int)<(T.length:Int):=by omega
   refine aau l1 l1' (hK1 _ _ ?_);refine aai (aap @Ub @aj.eq_1 ?_);exact aal (bO.KE (k:=0) rfl (by simp) (by simp<;>exact⟨rfl,rfl,rfl⟩) (by simp) rfl)
  ·have l1':¬(2000:Int)<(T.length:Int):=by omega
   have l2:2000<B.length:=by omega
   have l2':(2000:Int)<(B.length:Int):=by omega
   refine aay l1 l1' l2 l2' (hK1 _ _ ?_);refine aai (aap @Ub @aj.eq_1 ?_);exact aal (bO.KE (k:=0) rfl (by simp) (by simp<;>exact⟨rfl,rfl,rfl⟩) (by simp) rfl)
 have l1:¬2000<T.length:=λh=>hlong (.inl h)
 have l2:¬2000<B.length:=λh=>hlong (.inr h)
 have l1':¬(2000:Int)<(T.length:Int):=by omega
 have l2':¬(2000:Int)<(B.length:Int):=by omega
 have rd1:=A0 G T hT.1 hT.2.1 (by omega);have rd2:=A0 G B hBrow.1.1 hBrow.1.2.1 (by omega);rw[fX]at rd1 rd2;have n1:=sJ hT.1 (by omega:T.length<=2000);have n2:=sJ hBrow.1.1 (by omega:B.length<=2000);have mk:=sA G (De neg) neg (aP T 0) (aP B 0) 300 (some (aK 1000000000 (aP T 0))) rfl (λ_=>rfl) hBrow.2 n1 n2 (by decide);have hsz:j6 (mkRat (dX neg (aP T 0)) (aP B 0)) 300:=oH _ (by omega) n1 n2;have tx:=IJ G _ (bY hsz (by decide:300<=20000))
 have hres:(Al (mkRat (dX neg (aP T 0)) (aP B 0))=r/\eE r=0/\fL r=mkRat (dX neg (aP T 0)) (aP B 0))\/(Al (mkRat (dX neg (aP T 0)) (aP B 0))≠r/\eE r=6/\fL r=0):=by
  rcases AX s with h47|⟨a,b,hab,ha⟩
  ·have hk:¬0<=kP s [47]:=by rw[y9 h47];decide
   have hTs:T=s:=by rw[<-hTe];exact if_neg hk
   have hB1:B=[49]:=by rw[<-hBe];exact if_neg hk
   have hd1:aP B 0=1:=by rw[hB1];rfl
   left;have e0:eE r=0:=by rw[hE];unfold dJ;rw[if_neg (by rw[hb];decide),if_neg (λh=>hlong (hsame.1 h)),if_pos (decide_eq_false hk)]
   refine⟨?_,e0,?_⟩
   ·rw[hd1,Gq hT hT0,hTs];exact hsp.symm
   ·rw[hP];unfold og;rw[<-hE,if_pos e0,hTe,decide_eq_false hk,hd1];rfl
  ·have hidx:=Gl (b:=b) ha;rw[<-hab]at hidx;have hk:0<=kP s [47]:=by rw[hidx];omega
   have hA:uk s [47]=a:=by unfold uk;rw[if_pos hk,hidx,Zp,hab,List.take_left]
   have hBb:s7 s [47]=b:=by
    unfold s7;rw[if_pos hk,hidx,Zp,hab];rw[show a++47::b=(a++[47])++b by simp];exact List.drop_left' (by simp)
   have hTa:T=a:=by rw[<-hTe];exact hA
   have hBb2:B=b:=by rw[<-hBe];unfold SE;rw[if_pos hk,hBb]
   obtain⟨c1,c2,c3⟩:=hB (decide_eq_true hk);have hge:=xQ (oQ.2 c1) c2 c3;rw[hBb,<-hBb2]at hge c1;have htf:=Jz (neg:=neg) hT c1 hge;have hsr:r=(if neg then[45]else[])++(T++47::B):=by rw[hTa,hBb2,<-hab];exact hsp
   rw[<-hsr]at htf
   have hpe:eE r=if Nat.gcd (aP T 0) (aP B 0)=1 then 0 else 6:=by
    rw[hE];unfold dJ;rw[if_neg (by rw[hb];decide),if_neg (λh=>hlong (hsame.1 h)),if_neg (by rw[decide_eq_true hk];decide),TG,hTe,hBb,<-hBb2]
   by_cases hg:Nat.gcd (aP T 0) (aP B 0)=1
   ·left;rw[if_pos hg]at hpe;refine⟨htf.2 hg,hpe,?_⟩;rw[hP];unfold og;rw[<-hE,if_pos hpe,hTe,hBb,<-hBb2,decide_eq_true hk];rfl
   ·right;rw[if_neg hg]at hpe;exact⟨λh=>hg (htf.1 h),hpe,hbad0 (by rw[hpe];decide)⟩
 generalize mkRat (dX neg (aP T 0)) (aP B 0)=z at*
 rcases hres with⟨q1,q2,q3⟩|⟨q1,q2,q3⟩
 ·rw[q2,q3];refine aa.enc func167 rfl (λlv=>kL lv _ _ _ _) λ_=>aab ?_;refine aar 1 rw0 ?_;refine aaa λK hK=>aab ?_;refine aah (aad (hK _ _ (aaa λK hK=>aaE l1 l1' l2 l2' ?_)));refine aah (aad (hK _ _ (aak λK hK=>?_)));simp;refine ag.p 1 9 rd1 ?_;simp;refine ag.p 1 9 rd2 ?_;simp;refine ag.p 1 9 mk ?_;simp[aj];apply hK;refine aaa λK hK=>AW.c2 2 tx @CL q1 ?_;refine aah (aad (hK _ _ (aam @aj.eq_1 ?_)));exact aal (bO.KE (k:=0) rfl (by simp) (by simp) (by simp) rfl)
 ·rw[q2,q3];refine aa.enc func167 rfl (λlv=>kL lv _ _ _ _) λ_=>aab ?_;refine aar 1 rw0 ?_;refine aaa λK hK=>aab ?_;refine aah (aad (hK _ _ (aaa λK hK=>aaE l1 l1' l2 l2' ?_)));refine aah (aad (hK _ _ (aak λK hK=>?_)));simp;refine ag.p 1 9 rd1 ?_;simp;refine ag.p 1 9 rd2 ?_;simp;refine ag.p 1 9 mk ?_;simp[aj];apply hK;refine aaa λK hK=>AW.c2 2 tx @CL q1 ?_;refine aai (aap @Ub @aj.eq_1 ?_);exact aal (bO.KE (k:=0) rfl (by simp) (by simp<;>exact⟨rfl,rfl,rfl⟩) (by simp) rfl)
theorem Db(G:List (List DV))(r:List UInt8):aa prog G 171 [.c (.d (.str r))] (.c (.d (.int .i64 (eE r)))):=by
 have h:=rG G r;generalize fL r=z at*
 generalize eE r=e at*
 refine aa.en func171 rfl λ_=>aab ?_;refine aaw 1 h @aj.eq_1 ?_;refine aab ?_;exact aae (au.rt (t:=2) rfl 9 (by simp))
end Go.Am
namespace Go.Am
open Go.Am.Ty Go.Proofs N
variable {p:PD}{lv:Key->LB}{c:Ctx}{fr:Nat->AV}{now av l:List Int}{L L0:List Nd}{z:LB}{i κ b:Nat}{k:Key}{es:List (List DV)}{a:Int}
def nN(G:List (List DV))(n m:Int):aa prog G 94 [.c (.d (.int .i64 n)),.c (.d (.int .i64 m))] (.c (.d (.bool (decide (0<=n/\n<m))))):=by
 refine aa.en func94 rfl λ_=>aab ?_;refine aaa λK hK=>?_
 by_cases h:0<=n
 ·refine aas h (hK _ _ ?_);exact aae (au.rt rfl 4 (by simp[h]))
 ·refine aas h (hK _ _ ?_);exact aae (au.rt rfl 4 (by simp[h]))
def vf(G:List (List DV))(p:PD)(i:Int):aa prog G 95 [p.A,.c (.d (.int .i64 i))] (.c (.d (.int .i64 (jZ p i)))):=by
 refine aa.en func95 rfl λ_=>aab ?_;refine aaa λK hK=>aab ?_
 by_cases h:i<p.head
 ·refine aag (by simp[h]<;>omega) (aab ?_);exact aae (au.rt rfl 4 (by simp[jZ,h]))
 ·refine aaj (by simp[h]<;>omega) (aad (hK _ _ (aaa λK hK=>aab ?_)))
  by_cases h2:i<p.tail
  ·refine aag (by simp[h2]<;>omega) (aab ?_);exact aae (au.rt rfl 4 (by simp[jZ,h,h2]))
  ·refine aaj (by simp[h2]<;>omega) (aad (hK _ _ (aab ?_)));exact aae (au.rt rfl 4 (by simp[jZ,h,h2]))
def JX(G:List (List DV))(p:PD)(i k:Int):aa prog G 172 [p.A,.c (.d (.int .i64 i)),.c (.d (.int .i64 k))] (.c (.d (.bool (de p i k)))):=by
 have c1:=vf G p k;have c2:=vf G p i
 by_cases h1:0<=k
 rotate_left
 ·refine aa.en func172 rfl λ_=>aab ?_;refine AW.d1 mixed h1 ?_;exact aae (au.rt rfl 6 (by simp[de,h1]))
 by_cases h2:k<i
 rotate_left
 ·refine aa.en func172 rfl λ_=>aab ?_;refine AW.d2 mixed h1 h2 ?_;exact aae (au.rt rfl 6 (by simp[de,h1,h2]))
 by_cases h3:jZ p k=0
 ·rw[h3]at c1;refine aa.en func172 rfl λ_=>aab ?_;refine aaa λK hK=>?_;refine aaq mixed (by kernel_rfl) rfl ?_;simp[h1,h2];refine ag.p 3 9 c1 ?_;simp;refine⟨by kernel_rfl,?_⟩;apply hK;exact aae (au.rt rfl 6 (by simp[de,h1,h2,h3]))
 ·refine aa.en func172 rfl λ_=>aab ?_;refine aaa λK hK=>?_;refine aaq mixed (by kernel_rfl) rfl ?_;simp[h1,h2];refine ag.p 3 9 c1 ?_;simp[h3];refine ag.p 3 9 c1 ?_;simp[h3];refine ag.p 3 9 c2 ?_;simp[h3];refine⟨by kernel_rfl,?_⟩;apply hK;exact aae (au.rt rfl 6 (by simp[de,h1,h2,h3]))
def eM(op:Int):Int:=if 1<=op/\op<=15 then bS op else -1
def Ol{op:Int}(h1:1<=op)(h2:op<=15):eM op=if op<=3 then 0 else if op<=7 then 1 else if op<=13 then 2 else if op=14 then 3 else 4:=by
 unfold eM bS;rw[if_pos ⟨h1,h2⟩];(repeat' split)<;>rfl
def mS(G:List (List DV))(op:Int):aa prog G 99 [.c (.d (.int .i64 op))] (.c (.d (.int .i64 (eM op)))):=by
 by_cases h1:op<1
 ·have hr:eM op = -1:=if_neg (by omega);refine aa.en func99 rfl λ_=>aab ?_;refine aaa λK hK=>aaf (aam h1 ?_)
  refine aai (aab ?_);exact aae (au.rt rfl 2 (by simp[hr]))
 by_cases h2:15<op
 ·have hr:eM op = -1:=if_neg (by omega);refine aa.en func99 rfl λ_=>aab ?_;refine aaa λK hK=>aaf (aap h1 h2 ?_)
  refine aai (aab ?_);exact aae (au.rt rfl 2 (by simp[hr]))
 have hv:=Ol (op:=op) (by omega) (by omega);refine aa.en func99 rfl λ_=>aab ?_;refine aaa λK hK=>aaf (aap h1 h2 ?_)
 refine aah ?_;refine aab ?_
 by_cases h3:op<=3
 ·have hr:eM op=0:=by rw[hv];rw[if_pos h3]
  refine aag (by simp[h3]<;>omega) (aab ?_);exact aae (au.rt rfl 2 (by simp[hr]))
 refine aaj (by simp[h3]<;>omega) (aab ?_)
 by_cases h4:op<=7
 ·have hr:eM op=1:=by rw[hv];rw[if_neg h3];rw[if_pos h4]
  refine aag (by simp[h4]<;>omega) (aab ?_);exact aae (au.rt rfl 2 (by simp[hr]))
 refine aaj (by simp[h4]<;>omega) (aab ?_)
 by_cases h5:op<=13
 ·have hr:eM op=2:=by rw[hv];rw[if_neg h3];rw[if_neg h4];rw[if_pos h5]
  refine aag (by simp[h5]<;>omega) (aab ?_);exact aae (au.rt rfl 2 (by simp[hr]))
 refine aaj (by simp[h5]<;>omega) (aab ?_)
 by_cases h6:op=14
 ·have hr:eM op=3:=by rw[hv];rw[if_neg h3];rw[if_neg h4];rw[if_neg h5];rw[if_pos h6]
  refine aag (by simp[h6]<;>omega) (aab ?_);exact aae (au.rt rfl 2 (by simp[hr]))
 refine aaj (by simp[h6]<;>omega) (aad (hK _ _ (aab ?_)));have hr:eM op=4:=by rw[hv,if_neg h3,if_neg h4,if_neg h5,if_neg h6]
 exact aae (au.rt rfl 2 (by simp[hr]))
abbrev XP(n:Nd):AV:=.agg [.d (.int .i64 n.a),.d (.int .i64 n.b),.d (.int .i64 n.c),.d (.int .i64 n.d)]
def OU(lv:Key->LB)(n:Nd):fF lv (XP n)=some (XP n,[]):=rfl
def QF(a b c d:CV):eW prog 85 [a,b,c,d]=some (.agg [a,b,c,d]):=by kernel_rfl
theorem vG(G:List (List DV))(n:Nd):aa prog G 98 [n.A] (XP n):=by
 refine aa.enc func98 rfl (λlv=>OU lv n) λ_=>aab ?_;refine aap @WU @aj.eq_1 ?_;refine aal ?_;refine bO.cell (κ:=0) (T:=85) (t:=2) (k:=1) (off:=0) (own:=true) (fz:=false) (U:=85) (cs:=[.d (.int .i64 n.a),.d (.int .i64 n.b),.d (.int .i64 n.c),.d (.int .i64 n.d)]) rfl ?_ ?_ ?_
 ·simp
 ·simp[aj]
 ·rw[Y9];exact QF ..
def zN(l:List Int):Option (List Int):=if l=[]then none else some l
def MD(l:List Int):zL (zN l)=l:=by unfold zN;split<;>simp_all [zL]
def Od(n:Nd)(i:Nat):((i:Int)<eM n.op)↔i<(bf n).length:=by
 unfold eM bf;have:=jW n.op;split
 ·rw[Ze,Nd.fI];omega
 ·simp<;>omega
def NX(n:Nd)(h:i<(bf n).length):∃h4:i<n.l4.length,(bf n).take (i+1)=(bf n).take i++[n.l4[i]]:=by
 have h0:bf n=n.l4.take (bS n.op):=by
  unfold bf at h⊢;split
  ·rfl
  ·rename_i hh;rw[if_neg hh]at h;cases h
 have h4:i<n.l4.length:=by rw[h0,Ze]at h;omega
 refine⟨h4,?_⟩;rw[abr,cy h];have:(bf n)[i]=n.l4[i]:=by simp only[h0,aaN]
 rw[this];rfl
def Mi(n:Nd)(g:Key->Key):(LB.cells true false 55 [.d (.int .i64 n.op),.d (.int .i64 n.a),.d (.int .i64 n.b),.d (.int .i64 n.c),.d (.int .i64 n.d),.d (.int .i64 n.f),.d (.str n.v)]).like (.cells true false 55 [.d (.int .i64 n.op),.d (.int .i64 n.a),.d (.int .i64 n.b),.d (.int .i64 n.c),.d (.int .i64 n.d),.d (.int .i64 n.f),.d (.str n.v)]) g:=LB.m9.2 ⟨rfl,rfl,rfl,id⟩
def DZ(l:List Int)(g:Key->Key):(LB.cells true false 85 (zK l)).like (.cells true false 85 (zK l)) g:=by
 rw[uw];exact HS ..
abbrev bN(n:Nd):LB:=.cells true false 55 [.d (.int .i64 n.op),.d (.int .i64 n.a),.d (.int .i64 n.b),.d (.int .i64 n.c),.d (.int .i64 n.d),.d (.int .i64 n.f),.d (.str n.v)]
def PZ(hl:l.length<=1000)(h:lv k=zB l):∃ks,fF lv (Qz k l)=some (.c (zC (zN l)),ks):=by
 unfold Qz zN
 by_cases hn:l=[]
 ·rw[if_pos hn,if_pos hn];exact⟨[],rfl⟩
 ·rw[if_neg hn,if_neg hn];refine⟨[k],Pn (by rw[h];exact if_neg hn) hl⟩
theorem JR(G:List (List DV))(n:Nd):aa prog G 36 [n.A] (.c (zC (zN (bf n)))):=by
 have hf:=vG G n;have ha:=mS G n.op;have hka:=Od n;have hkl:=vk n;have hzk:[CV.d (.int .i64 n.a),.d (.int .i64 n.b),.d (.int .i64 n.c),.d (.int .i64 n.d)]=zK n.l4:=rfl;refine aa.ed func36 rfl λ_=>aab ?_;refine aak λK hK=>?_;simp[aj];refine ag.p 1 9 hf ?_;simp;simp[aj];apply hK;refine aab ?_;refine aaa λK hK=>aab ?_;refine aaf ?_
 refine aao (λ(i:Nat)=>⟨aU [(1,.c (.ptr 0 0)),(3,.c (.ptr 1 0)),(4,Qz 2 ((bf n).take i)),(5,.c (.d (.int .i64 i)))],az (az (az (λ_=>.hole) 0 (bN n)) 1 (.cells true false 85 (zK n.l4))) 2 (zB ((bf n).take i))⟩) 10
  (λi=>i<=(bf n).length) (λi=>(bf n).length-i) 0 (Le.mX _ (by rw[List.take_zero];exact(iq (k:=2) rfl).symm) (by simp[Qz])) (Zi _) ?_
 rintro i hi
 try simp only at hi
 refine aaa λK3 hK3=>aar 3 ha ?_
 by_cases hlt:i<(bf n).length
 ·have hlt':(i:Int)<eM n.op:=(hka i).2 hlt;obtain⟨h4,hnx⟩:=NX n hlt;have hld:=ez (P:=prog) (T:=3) (by simp) h4;have hbs:∀(lv:Key->LB) (h:lv 10=.hole) (a:CV),ak prog 30 1 [0] lv 10 [.c a]=some (.c (.aD 10 0 1 1),[(10,.cells true false 3 [a])],[],True):=λlv h a=>Wp lv 10 h a
  have hle:((bf n).take i).length<=1000:=by rw[Ze];omega
  have hli:((bf n).take i).length=i:=by rw[Ze];omega
  have f12:=bF (n:=(i:Int)+1) (by omega) (by omega);generalize (bf n).take i=l at*
  generalize n.l4[i]=x at*
  have h44:i<4:=by omega
  refine aag (by simp[hlt']<;>omega) (aad (hK3 _ _ (aaa λK5 hK5=>aaf ?_)));refine aaz 10 ?_
  by_cases hl:l=[]
  ·subst hl;refine aac ?_;simp[hld,h44,Je,zB,Qz,hbs,dY,keyOf,-ak]
   repeat refine ah ?_
   apply hK5;refine aac ?_;simp[f12];refine⟨i+1,Le.keys [(0,0,bN n),(1,1,.cells true false 85 (zK n.l4)),(2,11,zB ([]++[x]))] 19 _ (by rw[hnx];rfl) rfl (by simp) (by simp) (by simp) ?_ ?_,by omega,by omega⟩
   ·intro e he;simp only[rP,Zd,or_false]at he;rcases he with rfl|rfl|rfl
    ·exact Mi n _
    ·exact DZ _ _
    ·rw[HR];exact LI [x] _
   ·rw[hnx,IB];simp[bP]
  ·have hzb:zB l=.cells true false 3 (zK l):=if_neg hl;have hzs:Qz 2 l=.c (.aD 2 0 l.length 1):=if_neg hl;have hzl:(zK l).length=l.length:=MV l;refine aac ?_;simp[hld,h44,Je,hzb,hzs,hbs,dY,keyOf,hzl,-ak]
   repeat refine ah ?_
   apply hK5;refine aac ?_;simp[f12];refine⟨i+1,Le.keys [(0,0,bN n),(1,1,.cells true false 85 (zK n.l4)),(2,11,zB (l++[x]))] 19 _ (by rw[hnx];rfl) rfl (by simp) (by simp) (by simp) ?_ ?_,by omega,by omega⟩
   ·intro e he;simp only[rP,Zd,or_false]at he;rcases he with rfl|rfl|rfl
    ·exact Mi n _
    ·exact DZ _ _
    ·rw[HR,show zK l++[CV.d (.int .i64 x)]=zK (l++[x]) by simp[zK]];exact LI (l++[x]) _
   ·rw[hnx,IB];simp[bP]
 have hlt':¬(i:Int)<eM n.op:=λh=>hlt ((hka i).1 h)
 refine aaj (by simp[hlt']<;>omega) (aan ?_);simp;have hie:i=(bf n).length:=by omega
 subst hie;rw[List.take_length];apply hK;refine aab ?_;obtain⟨ks,hd⟩:=PZ (k:=2) (lv:=az (az (az (λ_=>.hole) 0 (bN n)) 1 (.cells true false 85 (zK n.l4))) 2 (zB (bf n))) (l:=bf n) (by omega) (by simp);exact aal (κ:=0) (jU.tmp (κ:=0) (ks:=ks) rfl (by simp) hd)
theorem Tx{n:Nd}(hP:c.P=prog)(hl0:c.iV=az (λ_=>.hole) 0 (bZ l))(h0:lv 0=bZ l)(h9:lv 9=.hole)(z4:fr 4=.c (.ptr 1001 0))(h1:lv 1001=.cells true false 55 (n.e.map CV.d)):
 Mm c Tryz.f55 n.A [bZ l] [] .ret ⟨fr,lv⟩ κ:=by
 refine⟨[(0,0,bZ l)],9,?_,by simp,by simp,h9,?_,?_,rfl,?_⟩
 ·rw[tJ];rfl
 ·intro k hk;simp only[hl0,az]at hk;split at hk
  ·rename_i h0;subst h0;exact .inr (by simp[bP])
  ·exact absurd rfl hk
 ·intro e he;simp only[rP,Zd,or_false]at he;subst he;show(lv 0).like (.cells false false 3 (zK l)) _;rw[h0];exact⟨false,_,rfl,(bp _ _).symm,id⟩
 ·rw[hP];simp[Tryz.f55,cO,iT,j8,KV,z4,h1]
theorem MO(m:Int)(n:Nd)(h1:1<=n.op)(h2:n.op<=15)(l:List Int)(hl:l.length<=1000)(hk:∀x∈bf n,0<=x/\x<l.length):
 aA prog (GG m) 55 [n.A,.c (.aD 0 0 l.length 1)] [bZ l] (.ret (n.gZ l).A [bZ l] []):=by
 have har:=mS (GG m) n.op;rw[show eM n.op=bS n.op from if_pos ⟨h1,h2⟩]at har;have hkl:bf n=n.l4.take (bS n.op):=by unfold bf;rw[if_pos ⟨h1,h2⟩]
 rw[hkl]at hk;have hle:=jW n.op;have hdef:n.gZ l=⟨n.op,nv l (bS n.op) 4 0 n.a,nv l (bS n.op) 4 1 n.b,nv l (bS n.op) 4 2 n.c,nv l (bS n.op) 4 3 n.d,n.f,n.v⟩:=rfl;rw[hdef];clear hdef;generalize bS n.op=kk at*
 obtain⟨r0,hr0⟩:∃r,nv l kk 4 0 n.a=r:=⟨_,rfl⟩
 have y0:kk<=0->r0=n.a:=λh=>by rw[<-hr0];unfold nv;rw[if_neg (by omega)]
 have w0:0<kk->∃q,∃h:q<l.length,n.a=(q:Int)/\r0=l[q]:=λh=>by
  have hm:=hk n.a (by rw[abl];exact⟨0,by rw[Nd.fI];omega,rfl⟩);have hql:n.a.toNat<l.length:=by omega
  refine⟨n.a.toNat,hql,by omega,?_⟩;rw[<-hr0];unfold nv;rw[if_pos (by omega),Y8,cy hql];rfl
 obtain⟨r1,hr1⟩:∃r,nv l kk 4 1 n.b=r:=⟨_,rfl⟩
 have y1:kk<=1->r1=n.b:=λh=>by rw[<-hr1];unfold nv;rw[if_neg (by omega)]
 have w1:1<kk->∃q,∃h:q<l.length,n.b=(q:Int)/\r1=l[q]:=λh=>by
  have hm:=hk n.b (by rw[abl];exact⟨1,by rw[Nd.fI];omega,rfl⟩);have hql:n.b.toNat<l.length:=by omega
  refine⟨n.b.toNat,hql,by omega,?_⟩;rw[<-hr1];unfold nv;rw[if_pos (by omega),Y8,cy hql];rfl
 obtain⟨r2,hr2⟩:∃r,nv l kk 4 2 n.c=r:=⟨_,rfl⟩
 have y2:kk<=2->r2=n.c:=λh=>by rw[<-hr2];unfold nv;rw[if_neg (by omega)]
 have w2:2<kk->∃q,∃h:q<l.length,n.c=(q:Int)/\r2=l[q]:=λh=>by
  have hm:=hk n.c (by rw[abl];exact⟨2,by rw[Nd.fI];omega,rfl⟩);have hql:n.c.toNat<l.length:=by omega
  refine⟨n.c.toNat,hql,by omega,?_⟩;rw[<-hr2];unfold nv;rw[if_pos (by omega),Y8,cy hql];rfl
 obtain⟨r3,hr3⟩:∃r,nv l kk 4 3 n.d=r:=⟨_,rfl⟩
 have y3:kk<=3->r3=n.d:=λh=>by rw[<-hr3];unfold nv;rw[if_neg (by omega)]
 have w3:3<kk->∃q,∃h:q<l.length,n.d=(q:Int)/\r3=l[q]:=λh=>by
  have hm:=hk n.d (by rw[abl];exact⟨3,by rw[Nd.fI];omega,rfl⟩);have hql:n.d.toNat<l.length:=by omega
  refine⟨n.d.toNat,hql,by omega,?_⟩;rw[<-hr3];unfold nv;rw[if_pos (by omega),Y8,cy hql];rfl
 rw[hr0,hr1,hr2,hr3];refine aA.Ya func55 rfl (tJ _) λ_=>aab ?_;refine aar 1005 har ?_;refine aaa λK hK=>?_
 have k1:∀(fr:Nat->AV) (κ:Nat) (lv:Key->LB),fr 1=.c (.aD 0 0 l.length 1)->fr 2=.c (.ptr 1000 0)->fr 4=.c (.ptr 1001 0)->fr 5=.c (.d (.int .i64 kk))->lv 0=bZ l->lv 9=.hole->lv 1000=.cells true false 55 [.d (.int .i64 n.op),.d (.int .i64 r0),.d (.int .i64 n.b),.d (.int .i64 n.c),.d (.int .i64 n.d),.d (.int .i64 n.f),.d (.str n.v)]->lv 1001=.cells true false 55 [.d (.int .i64 0),.d (.int .i64 0),.d (.int .i64 0),.d (.int .i64 0),.d (.int .i64 0),.d (.int .i64 0),.d (.str [])]->K ⟨fr,lv⟩ κ:=by
  intro fr κ lv z1 z2 z4 z5 l0 l9 la lb;apply hK;refine aaa λK hK=>?_
  have k2:∀(fr:Nat->AV) (κ:Nat) (lv:Key->LB),fr 1=.c (.aD 0 0 l.length 1)->fr 2=.c (.ptr 1000 0)->fr 4=.c (.ptr 1001 0)->fr 5=.c (.d (.int .i64 kk))->lv 0=bZ l->lv 9=.hole->lv 1000=.cells true false 55 [.d (.int .i64 n.op),.d (.int .i64 r0),.d (.int .i64 r1),.d (.int .i64 n.c),.d (.int .i64 n.d),.d (.int .i64 n.f),.d (.str n.v)]->lv 1001=.cells true false 55 [.d (.int .i64 0),.d (.int .i64 0),.d (.int .i64 0),.d (.int .i64 0),.d (.int .i64 0),.d (.int .i64 0),.d (.str [])]->K ⟨fr,lv⟩ κ:=by
   intro fr κ lv z1 z2 z4 z5 l0 l9 la lb;apply hK;refine aaa λK hK=>?_
   have k3:∀(fr:Nat->AV) (κ:Nat) (lv:Key->LB),fr 1=.c (.aD 0 0 l.length 1)->fr 2=.c (.ptr 1000 0)->fr 4=.c (.ptr 1001 0)->fr 5=.c (.d (.int .i64 kk))->lv 0=bZ l->lv 9=.hole->lv 1000=.cells true false 55 [.d (.int .i64 n.op),.d (.int .i64 r0),.d (.int .i64 r1),.d (.int .i64 r2),.d (.int .i64 n.d),.d (.int .i64 n.f),.d (.str n.v)]->lv 1001=.cells true false 55 [.d (.int .i64 0),.d (.int .i64 0),.d (.int .i64 0),.d (.int .i64 0),.d (.int .i64 0),.d (.int .i64 0),.d (.str [])]->K ⟨fr,lv⟩ κ:=by
    intro fr κ lv z1 z2 z4 z5 l0 l9 la lb;apply hK;refine aaa λK hK=>?_
    have k4:∀(fr:Nat->AV) (κ:Nat) (lv:Key->LB),fr 1=.c (.aD 0 0 l.length 1)->fr 2=.c (.ptr 1000 0)->fr 4=.c (.ptr 1001 0)->fr 5=.c (.d (.int .i64 kk))->lv 0=bZ l->lv 9=.hole->lv 1000=.cells true false 55 [.d (.int .i64 n.op),.d (.int .i64 r0),.d (.int .i64 r1),.d (.int .i64 r2),.d (.int .i64 r3),.d (.int .i64 n.f),.d (.str n.v)]->lv 1001=.cells true false 55 [.d (.int .i64 0),.d (.int .i64 0),.d (.int .i64 0),.d (.int .i64 0),.d (.int .i64 0),.d (.int .i64 0),.d (.str [])]->K ⟨fr,lv⟩ κ:=by
     intro fr κ lv z1 z2 z4 z5 l0 l9 la lb;apply hK;refine aak λK hK=>?_;simp[z1,z2,z4,z5,l0,l9,la,lb,aj];apply hK;exact aae (Tx rfl rfl (by simp[z1,z2,z4,z5,l0,l9,la,lb]) (by simp[z1,z2,z4,z5,l0,l9,la,lb]) (by simp[z1,z2,z4,z5,l0,l9,la,lb]) (by simp))
    refine aaa λK1 hK1=>?_
    by_cases hj:3<kk
    ·obtain⟨q,hq,e1,e2⟩:=w3 hj;have hj':(3:Int)<(kk:Int):=by omega
     have hq':(q:Int)<(l.length:Int):=by omega
     have hld:=ez (P:=prog) (T:=3) (by simp) hq;refine aac ?_;simp[z1,z2,z4,z5,l0,l9,la,lb,hj'];apply hK1;refine aai (aac ?_);simp[z1,z2,z4,z5,l0,l9,la,lb,e1,hq',hld,aj];exact k4 _ _ _ (by simp[z1,z2,z4,z5,l0,l9,la,lb]) (by simp[z1,z2,z4,z5,l0,l9,la,lb]) (by simp[z1,z2,z4,z5,l0,l9,la,lb]) (by simp[z1,z2,z4,z5,l0,l9,la,lb]) (by simp[z1,z2,z4,z5,l0,l9,la,lb]) (by simp[z1,z2,z4,z5,l0,l9,la,lb]) (by simp[z1,z2,z4,z5,l0,l9,la,lb,e2]) (by simp[z1,z2,z4,z5,l0,l9,la,lb])
    ·have hj':¬(3:Int)<(kk:Int):=by omega
     have ey:=y3 (by omega);refine aac ?_;simp[z1,z2,z4,z5,l0,l9,la,lb,hj'];apply hK1;refine aah (aad ?_);simp;exact k4 _ _ _ (by simp[z1,z2,z4,z5,l0,l9,la,lb]) (by simp[z1,z2,z4,z5,l0,l9,la,lb]) (by simp[z1,z2,z4,z5,l0,l9,la,lb]) (by simp[z1,z2,z4,z5,l0,l9,la,lb]) (by simp[z1,z2,z4,z5,l0,l9,la,lb]) (by simp[z1,z2,z4,z5,l0,l9,la,lb]) (by simp[z1,z2,z4,z5,l0,l9,la,lb,ey]) (by simp[z1,z2,z4,z5,l0,l9,la,lb])
   refine aaa λK1 hK1=>?_
   by_cases hj:2<kk
   ·obtain⟨q,hq,e1,e2⟩:=w2 hj;have hj':(2:Int)<(kk:Int):=by omega
    have hq':(q:Int)<(l.length:Int):=by omega
    have hld:=ez (P:=prog) (T:=3) (by simp) hq;refine aac ?_;simp[z1,z2,z4,z5,l0,l9,la,lb,hj'];apply hK1;refine aai (aac ?_);simp[z1,z2,z4,z5,l0,l9,la,lb,e1,hq',hld,aj];exact k3 _ _ _ (by simp[z1,z2,z4,z5,l0,l9,la,lb]) (by simp[z1,z2,z4,z5,l0,l9,la,lb]) (by simp[z1,z2,z4,z5,l0,l9,la,lb]) (by simp[z1,z2,z4,z5,l0,l9,la,lb]) (by simp[z1,z2,z4,z5,l0,l9,la,lb]) (by simp[z1,z2,z4,z5,l0,l9,la,lb]) (by simp[z1,z2,z4,z5,l0,l9,la,lb,e2]) (by simp[z1,z2,z4,z5,l0,l9,la,lb])
   ·have hj':¬(2:Int)<(kk:Int):=by omega
    have ey:=y2 (by omega);refine aac ?_;simp[z1,z2,z4,z5,l0,l9,la,lb,hj'];apply hK1;refine aah (aad ?_);simp;exact k3 _ _ _ (by simp[z1,z2,z4,z5,l0,l9,la,lb]) (by simp[z1,z2,z4,z5,l0,l9,la,lb]) (by simp[z1,z2,z4,z5,l0,l9,la,lb]) (by simp[z1,z2,z4,z5,l0,l9,la,lb]) (by simp[z1,z2,z4,z5,l0,l9,la,lb]) (by simp[z1,z2,z4,z5,l0,l9,la,lb]) (by simp[z1,z2,z4,z5,l0,l9,la,lb,ey]) (by simp[z1,z2,z4,z5,l0,l9,la,lb])
  refine aaa λK1 hK1=>?_
  by_cases hj:1<kk
  ·obtain⟨q,hq,e1,e2⟩:=w1 hj;have hj':(1:Int)<(kk:Int):=by omega
   have hq':(q:Int)<(l.length:Int):=by omega
   have hld:=ez (P:=prog) (T:=3) (by simp) hq;refine aac ?_;simp[z1,z2,z4,z5,l0,l9,la,lb,hj'];apply hK1;refine aai (aac ?_);simp[z1,z2,z4,z5,l0,l9,la,lb,e1,hq',hld,aj];exact k2 _ _ _ (by simp[z1,z2,z4,z5,l0,l9,la,lb]) (by simp[z1,z2,z4,z5,l0,l9,la,lb]) (by simp[z1,z2,z4,z5,l0,l9,la,lb]) (by simp[z1,z2,z4,z5,l0,l9,la,lb]) (by simp[z1,z2,z4,z5,l0,l9,la,lb]) (by simp[z1,z2,z4,z5,l0,l9,la,lb]) (by simp[z1,z2,z4,z5,l0,l9,la,lb,e2]) (by simp[z1,z2,z4,z5,l0,l9,la,lb])
  ·have hj':¬(1:Int)<(kk:Int):=by omega
   have ey:=y1 (by omega);refine aac ?_;simp[z1,z2,z4,z5,l0,l9,la,lb,hj'];apply hK1;refine aah (aad ?_);simp;exact k2 _ _ _ (by simp[z1,z2,z4,z5,l0,l9,la,lb]) (by simp[z1,z2,z4,z5,l0,l9,la,lb]) (by simp[z1,z2,z4,z5,l0,l9,la,lb]) (by simp[z1,z2,z4,z5,l0,l9,la,lb]) (by simp[z1,z2,z4,z5,l0,l9,la,lb]) (by simp[z1,z2,z4,z5,l0,l9,la,lb]) (by simp[z1,z2,z4,z5,l0,l9,la,lb,ey]) (by simp[z1,z2,z4,z5,l0,l9,la,lb])
 refine aaa λK1 hK1=>?_
 by_cases hj:0<kk
 ·obtain⟨q,hq,e1,e2⟩:=w0 hj;have hj':(0:Int)<(kk:Int):=by omega
  have hq':(q:Int)<(l.length:Int):=by omega
  have hld:=ez (P:=prog) (T:=3) (by simp) hq;refine aas hj' (hK1 _ _ ?_);refine aai (aac ?_);simp[e1,hq',hld,aj];exact k1 _ _ _ (by simp) (by simp) (by simp) (by simp) (by simp) (by simp) (by simp[e2]) (by simp)
 ·have hj':¬(0:Int)<(kk:Int):=by omega
  have ey:=y0 (by omega);refine aas hj' (hK1 _ _ ?_);refine aah (aad ?_);simp;exact k1 _ _ _ (by simp) (by simp) (by simp) (by simp) (by simp) (by simp) (by simp[ey]) (by simp)
def rS(p:PD)(now at':List Int)(v:CV)(o:Option LB):List LB:=[.cells false false 27 p.cs,.cells false false 30 [.aD 4 0 now.length 1],.cells false false 30 [.aD 5 0 at'.length 1],.cells false false 27 (qC p v),bZ now,bZ at']++o.toList
def rN(L0 L:List Nd):List LB:=if L.length=L0.length then[]else[.cells false false 55 (gm L)]
def oB(L0:List Nd)(b:LB):Option LB:=if L0=[]then none else some b
def Qk(p:PD)(now at':List Int)(v:CV)(L0:List Nd)(b:LB)(h:L0=[]->b=.hole):bq (rS p now at' v (oB L0 b)) []=az (az (az (az (az (az (az (λ_=>.hole) 0 (.cells false false 27 p.cs)) 1 (.cells false false 30 [.aD 4 0 now.length 1])) 2 (.cells false false 30 [.aD 5 0 at'.length 1])) 3 (.cells false false 27 (qC p v))) 4 (bZ now)) 5 (bZ at')) 6 b:=by
 by_cases h0:L0=[]
 ·rw[h h0];have e:oB L0 .hole=none:=if_pos h0;rw[e];refine Eq.trans (Ij _ _ _ _ _ _) ?_;exact(iq rfl).symm
 ·have e:oB L0 b=some b:=if_neg h0;rw[e];exact NU _ _ _ _ _ _ _
def NI(h:L0=[]):r6 L0 L=.hole:=by
 subst h;unfold r6;split
 ·rename_i h;rw[Z4 h];rfl
 ·rfl
def Qa(σ:List LB)(L0 L:List Nd):bq σ (rN L0 L)=az (bq σ []) 1000 (r7 L0 L):=by
 unfold rN r7
 by_cases h:L.length=L0.length
 ·rw[if_pos h,if_pos h];exact(iq rfl).symm
 ·rw[if_neg h,if_neg h];exact DB σ [] _
def GR(m:Int)(p:PD)(hp:p.ok)(now dm:List Int)(L0:List Nd)(i0 e:Nat)(hi0:i0<=e)(hi:e<=p.nn)(hn:p.nn<=1000)(hL:L0.length<=20000)(hat:dm.length=p.nn)(hnow:now.length<=1000)
 (hop:∀i,i<p.nn->1<=(p.nd i).op/\(p.nd i).op<=15) (hst:∀i,i<p.nn->(p.nd i).op=2->0<=(p.nd i).a/\(p.nd i).a<now.length) (hkd:∀i,i<p.nn->∀x∈bf (p.nd i),0<=x/\x<p.nn)
 (av:List Int) (L:List Nd) (hs:cZ p now (dm,L0) i0 (e-i0)=(av,L)) :
 aA prog (GG m) 79 [.c (.d (.int .i64 i0)),.c (.d (.int .i64 e)),.c (.ptr 0 0),.c (.ptr 1 0),.c (.ptr 2 0),.c (.ptr 3 0)] (rS p now dm (qS 6 L0) (oB L0 (qB L0))) (.ret (.tup []) (rS p now av (rO L0 L) (oB L0 (r6 L0 L))) (rN L0 L)):=by
 refine Lj m p hp now dm L0 i0 e hi0 hi hn hL hat hnow hop hst hkd _ _ _ ?_ ?_
 ·rw[Qk _ _ _ _ _ _ (λh=>by rw[h];rfl)];exact(iq rfl).symm
 ·rw[hs,Qa,Qk _ _ _ _ _ _ (λh=>NI h)]
def B8(a b:LB):bq [] [a,b]=az (az (λ_=>.hole) 1000 a) 1001 b:=by
 have h:=DB [] [a] b;rw[show [a]++[b]=[a,b] from rfl,mV]at h;exact h
def PD.nz(p:PD):PD:=⟨some (sO p.f),p.mode,some (sO p.ins),some (sO p.nodes),p.head,p.tail,some (sO p.states),p.res⟩
def Ng(o:Option (List (List DV))):keyOf (.c (dc o))=[]:=by cases o<;>rfl
theorem Is{o:Option (List (List DV))}{sz:Nat}(h:∀e∈sO o,e.length=sz):dY lv sz (.c (dc o))=some ((sO o).length,(sO o).flatten.map CV.d):=by
 cases o with
 |none=>rfl
 |some es=>exact jM h
theorem PV(G:List (List DV))(p:PD)(hp:p.ok)(ht:p.Cx):aA prog G 53 [p.A] [] (.ret (.agg [.aD 1000 0 p.nf 2,.d (.int .i64 p.mode),.aD 1001 0 p.ni 3,.d .nilsl,.d (.int .i64 0),.d (.int .i64 0),.d .nilsl,.d (.int .i64 0)]) [] [j7 81 p.nz.f,j7 67 p.nz.ins]):=by
 have s1:∀lv,dY lv 2 (.c (dc p.f))=some (p.nf,(sO p.f).flatten.map CV.d):=λlv=>Is λe he=>iI (hp.f e he)
 have s2:∀lv,dY lv 3 (.c (dc p.ins))=some (p.ni,(sO p.ins).flatten.map CV.d):=λlv=>Is λe he=>mW (hp.ins e he)
 have t1:=ht.f;have t2:=ht.i;have b27':∀a b c:CV,ia prog 27 [0,1,2] [.c a,.c b,.c c]=some (.agg [a,b,c,.d .nilsl,.d (.int .i64 0),.d (.int .i64 0),.d .nilsl,.d (.int .i64 0)],[],[],True):=λa b c=>by kernel_rfl
 refine aA.Sv func53 rfl λ_=>aab ?_;refine aaa λK hK=>?_;refine aaq mixed (by kernel_rfl) rfl ?_;simp[s1,s2,b27',jz,fM,Ng,aj,-List.map_flatten]
 repeat refine ah ?_
 refine⟨by kernel_rfl,?_⟩;apply hK;refine aal (κ:=0) ⟨[(1000,3,j7 81 p.nz.f),(1001,5,j7 67 p.nz.ins)],19,B8 _ _,by simp,by simp,by simp,?_,rfl,?_⟩
 ·simp[j7,PD.nz,kM,-List.map_flatten]
 ·show cO _ _ [.cell 2 27]=_;simp[cO,iT,j8,bP]
abbrev qD(p:PD)(v:CV):List CV:=[dc p.nz.f,.d (.int .i64 p.mode),dc p.nz.ins,v,.d (.int .i64 0),.d (.int .i64 0),.d .nilsl,.d (.int .i64 0)]
def sV(L0 L:List Nd):CV:=if L.length=L0.length then qS 2 L else .aD 7 0 L.length 7
def NS(L0 L:List Nd):CV:=if L.length=L0.length then qS 2 L else .aD 1000 0 L.length 7
abbrev Yx(p:PD)(at' now:List Int)(v:CV)(b2 b7:LB):Key->LB:=
 az (az (az (az (az (az (az (λ_=>.hole) 0 (bZ at')) 1 (bZ now)) 2 b2) 1000 (.cells true false 27 (qD p v))) 1001 (.cells true false 27 p.cs)) 1002 (.cells true false 27 iU.cs)) 7 b7
abbrev sM(p:PD)(at' now:List Int)(v:CV)(b2 b7:LB)(k7:Key):List (Key×Key×LB):=[(0,0,bZ at'),(1,1,bZ now),(2,2,b2),(1000,1000,.cells true false 27 (qD p v)),(1001,1001,.cells true false 27 p.cs),(1002,1002,.cells true false 27 iU.cs),(7,k7,b7)]
def Uc(v v':CV)(b2 b7:LB)(k7:Key)(l:List (Nat×AV))(hl0:∀k,c.iV k≠.hole->k=0\/k=1\/k=2)(hk7:([0,1,2,1000,1001,1002,k7]:List Key).Nodup)
 (h0:lv 0=bZ av) (h1:lv 1=bZ now) (h2:∀g,(lv 2).like b2 g) (h3:lv 1000=.cells true false 27 (qD p v')) (h4:lv 1001=.cells true false 27 p.cs) (h5:lv 1002=.cells true false 27 iU.cs) (h7:∀g,(lv k7).like b7 g) (h9:lv 9=.hole)
 (hv:v'=v.bM (bP (sM p av now v b2 b7 k7) 9)) (hl:∀x∈l,x.2.bC=true/\fr x.1=x.2.bM (bP (sM p av now v b2 b7 k7) 9)):Le c ⟨fr,lv⟩ ⟨aU l,Yx p av now v b2 b7⟩:=by
 refine⟨_,ei.keys (s:=⟨fr,lv⟩) (sM p av now v b2 b7 k7) 9 l rfl ?_ (by simp) hk7 h9 ?_ hl⟩
 ·intro k hk;rcases hl0 k hk with rfl|rfl|rfl<;>exact .inr rfl
 ·intro e he;simp only[rP,Zd,or_false]at he;rcases he with rfl|rfl|rfl|rfl|rfl|rfl|rfl
  ·show(lv 0).like _ _;rw[h0];exact⟨false,_,rfl,(bp _ _).symm,id⟩
  ·show(lv 1).like _ _;rw[h1];exact⟨false,_,rfl,(bp _ _).symm,id⟩
  ·exact h2 _
  ·show(lv 1000).like _ _;rw[h3];exact⟨true,_,rfl,by rw[hv];simp[qD],id⟩
  ·show(lv 1001).like _ _;rw[h4];exact⟨true,_,rfl,(fR p _).symm,id⟩
  ·show(lv 1002).like _ _;rw[h5];exact⟨true,_,rfl,(fR iU _).symm,id⟩
  ·exact h7 _
def sS(at' now:List Int)(o:Option LB):List LB:=[bZ at',bZ now]++o.toList
def Qu(at' now:List Int)(L0:List Nd)(b:LB)(h:L0=[]->b=.hole):bq (sS at' now (oB L0 b)) []=az (az (az (λ_=>.hole) 0 (bZ at')) 1 (bZ now)) 2 b:=by
 by_cases h0:L0=[]
 ·rw[h h0];have e:oB L0 .hole=none:=if_pos h0;rw[e];have h1:=iP [bZ at'] (bZ now) (by simp);rw[show [bZ at']++[bZ now]=[bZ at',bZ now] from rfl,tJ]at h1;refine Eq.trans (show bq [bZ at',bZ now] []=_ from h1) ?_;exact(iq rfl).symm
 ·have e:oB L0 b=some b:=if_neg h0;rw[e];exact OC _ _ _
def QW(h:L0=[]):sV L0 []=.d .nilsl:=by subst h;rfl
def GO(h:L0.length<=L.length)(n:Nd):sV L0 (L++[n])=.aD 7 0 (L.length+1) 7:=by
 unfold sV;rw[if_neg (by simp;omega)];simp
def Wx(hP:c.P=prog)(hl0:∀k,c.iV k≠.hole->k=0\/k=1\/k=2)(z:fr 12=.c (.ptr 1002 0))
 (h0:lv 0=bZ av) (h1:lv 1=bZ now) (h2:lv 2=r6 L0 L) (h5:lv 1002=.cells true false 27 (qD p (sV L0 L))) (h7:lv 7=r7 L0 L) (h9:lv 9=.hole) :
 Mm c Tryz.f81 (.agg (qD p (NS L0 L))) (sS av now (oB L0 (r6 L0 L))) (rN L0 L) .ret ⟨fr,lv⟩ κ:=by
 refine⟨[(0,0,bZ av),(1,1,bZ now),(2,2,r6 L0 L),(1000,7,r7 L0 L)],9,?_,by simp,by simp,h9,?_,?_,?_,?_⟩
 ·rw[Qa,Qu _ _ _ _ (λh=>NI h)];rfl
 ·intro k hk;rcases hl0 k hk with rfl|rfl|rfl<;>exact .inr rfl
 ·intro e he;simp only[rP,Zd,or_false]at he;rcases he with rfl|rfl|rfl|rfl
  ·show(lv 0).like _ _;rw[h0];exact⟨false,_,rfl,(bp _ _).symm,id⟩
  ·show(lv 1).like _ _;rw[h1];exact⟨false,_,rfl,(bp _ _).symm,id⟩
  ·show(lv 2).like _ _;rw[h2];exact m4 _ _ _
  ·show(lv 7).like _ _;rw[h7];exact xI _ _ _
 ·unfold NS qS;split<;>(try split)<;>simp[AV.bC]
 ·rw[hP]
  have e:(NS L0 L).bM (bP [(0,0,bZ av),(1,1,bZ now),(2,2,r6 L0 L),(1000,7,r7 L0 L)] 9)=sV L0 L:=by
   unfold NS sV qS;split<;>(try split)<;>rfl
  simp[Tryz.f81,cO,iT,j8,yN,z,h5,e]
theorem Gv(m:Int)(p:PD)(hp:p.ok)(now:List Int)(dm:List Int)(L0:List Nd)(i0 e:Nat)(hi0:i0<=e)(hi:e<=p.nn)(hn:p.nn<=1000)(hL:L0.length<=20000)(hat:dm.length=p.nn)
 (hop:∀i,i<p.nn->1<=(p.nd i).op/\(p.nd i).op<=15) (hst:∀i,i<p.nn->(p.nd i).op=2->0<=(p.nd i).a/\(p.nd i).a<now.length) (hkd:∀i,i<p.nn->∀x∈bf (p.nd i),0<=x/\x<p.nn)
 (av':List Int) (L':List Nd) (hs:cZ p now (dm,L0) i0 (e-i0)=(av',L')) :
 aA prog (GG m) 81 [.agg (qD p (qS 2 L0)),p.A,.c (.d (.int .i64 i0)),.c (.d (.int .i64 e)),.c (.aD 0 0 dm.length 1),.c (.aD 1 0 now.length 1)] (sS dm now (oB L0 (qB L0))) (.ret (.agg (qD p (NS L0 L'))) (sS av' now (oB L0 (r6 L0 L'))) (rN L0 L')):=by
 have hlv:bq (sS dm now (oB L0 (qB L0))) []=az (az (az (λ_=>.hole) 0 (bZ dm)) 1 (bZ now)) 2 (qB L0):=Qu _ _ _ _ (λh=>by rw[h];rfl)
 have hl0:∀k,az (az (az (λ_=>LB.hole) 0 (bZ dm)) 1 (bZ now)) 2 (qB L0) k≠.hole->k=0\/k=1\/k=2:=λk hk=>by
  by_cases q0:k=0
  ·exact .inl q0
  by_cases q1:k=1
  ·exact .inr (.inl q1)
  by_cases q2:k=2
  ·exact .inr (.inr q2)
  exact absurd (by unfold az;rw[if_neg q2,if_neg q1,if_neg q0]) hk
 have hq0:qS 2 L0=sV L0 L0:=(if_pos rfl).symm;have hb0:qB L0=r6 L0 L0:=(if_pos rfl).symm;refine aA.Ya func81 rfl hlv λ_=>aab ?_;refine aaa λK hK=>aab ?_;refine aaf ?_
 refine aao (λ(i:Nat)=>⟨aU [(3,.c (.d (.int .i64 e))),(4,.c (.aD 0 0 p.nn 1)),(5,.c (.aD 1 0 now.length 1)),(6,.c (.ptr 1000 0)),(7,.c (.ptr 1001 0)),(12,.c (.ptr 1002 0)),(13,.c (.d (.int .i64 i)))],
  Yx p (cZ p now (dm,L0) i0 (i-i0)).1 now (sV L0 (cZ p now (dm,L0) i0 (i-i0)).2) (r6 L0 (cZ p now (dm,L0) i0 (i-i0)).2) (r7 L0 (cZ p now (dm,L0) i0 (i-i0)).2)⟩) 1003
  (λi=>i0<=i/\i<=e) (λi=>e-i) i0 (Uc _ (qS 2 L0) _ _ 7 _ hl0 (by decide) (by simp[cZ]) (by simp) (λg=>by simp[cZ];rw[hb0];exact m4 _ _ _) (by simp[qD]) (by simp) (by simp[iU,dc]) (λg=>by simp[cZ,r7];rfl) (by simp) (by simp[cZ];unfold sV qS;rw[if_pos rfl];split<;>rfl) (by simp[bP,hat])) ⟨aY _,hi0⟩ ?_
 rintro i ⟨hj,hj2⟩
 try simp only at hj hj2
 have e1:=je p now (dm,L0) i0 (i-i0);have e2:=jP p now (dm,L0) i0 (i-i0);have e3:=fO p now (dm,L0) i0 (i-i0);rw[show i-i0+1=i+1-i0 by omega,show i0+(i-i0)=i by omega]at e3;obtain⟨⟨av,L⟩,hgs⟩:∃s,cZ p now (dm,L0) i0 (i-i0)=s:=⟨_,rfl⟩
 rw[hgs]at e1 e2 e3;simp only[hgs];simp only at e1 e2 e3;refine aaa λK3 hK3=>aab ?_
 by_cases hlt:i<e
 ·have hlt':(i:Int)<(e:Int):=by omega
  have hin:i<p.nn:=by omega
  have hin':(i:Int)<(p.nn:Int):=by omega
  have hx:=λlv=>J4 p lv hp i hin
  have hw:=bF (n:=(i:Int)+1) (by omega) (by omega);refine aag (by simp[hlt']<;>omega) (aad (hK3 _ _ (aaa λK5 hK5=>aaf (aap hx @aj.eq_1 ?_))));refine aaa λK7 hK7=>aab ?_
  by_cases h2:(p.nd i).op=2
  ·have h2':((p.nd i).op=2)=True:=by simp[h2]
   obtain⟨ha0,ha1⟩:=hst i hin h2;obtain⟨q,hq⟩:∃q:Nat,(p.nd i).a=q:=⟨(p.nd i).a.toNat,by omega⟩
   have hql:q<now.length:=by rw[hq]at ha1;omega
   have hql':(q:Int)<(now.length:Int):=by omega
   have hle1:i+1<=av.length:=by omega
   have hld:=ez (P:=prog) (T:=3) (by simp) hql;refine aag (by simp[h2']<;>omega) (AW.f5 hq hql' hin' hld hle1 ?_);refine aan (hK5 _ _ (aac ?_));simp[hw]
   have hs1:iC p now (av,L) i=(av.set i now[q],L):=by
    unfold iC;rw[if_pos h2,hq,Zp,Y8,cy hql];rfl
   refine⟨i+1,?_,⟨by omega,by omega⟩,by omega⟩;simp only[e3,hs1];exact Uc _ (sV L0 L) _ _ 7 _ hl0 (by decide) (by simp[l7 av i now[q] (by omega)]) (by simp) (λg=>by simp;exact m4 _ _ _) (by simp) (by simp) (by simp) (λg=>by simp;exact xI _ _ _) (by simp) (by unfold sV qS;split<;>(try split)<;>rfl) (by simp[bP])
  have h2':((p.nd i).op=2)=False:=by simp[h2]
  have hra:aA prog (GG m) 55 [(p.nd i).A,.c (.aD 0 0 p.nn 1)] [bZ (av.set i L.length)] (.ret ((p.nd i).gZ (av.set i L.length)).A [bZ (av.set i L.length)] []):=by
   have:=MO m (p.nd i) (hop i hin).1 (hop i hin).2 (av.set i L.length) (by simp;omega) (by intro x hx;have:=hkd i hin x hx;simp;omega);rwa[List.length_set,e1,hat]at this
  have hle1:i+1<=av.length:=by omega
  have hs1:iC p now (av,L) i=(av.set i L.length,L++[(p.nd i).gZ (av.set i L.length)]):=by
   unfold iC;rw[if_neg h2]
  have hbs:∀(lv:Key->LB) (h:lv 1004=.hole) (n:Nd),ak prog 24 1 [0] lv 1004 [n.A]=some (.c (.aD 1004 0 1 7),[(1004,.cells true false 55 (gm [n]))],[],True):=λlv h n=>Rm lv 1004 h n
  refine aaj (by simp[h2']<;>omega) (aad (hK7 _ _ (aaa λK8 hK8=>?_)))
  by_cases hA:L=[]
  ·subst hA;have hz:([]:List Nd).length=L0.length:=(Nat.le_zero.1 e2.1).symm;have hL0:L0=[]:=Z4 hz.symm;have hr:sV L0 []=.d .nilsl:=QW hL0;have h6:r6 L0 []=.hole:=by unfold r6;rw[if_pos hz];rfl
   have h7:r7 L0 []=.hole:=by unfold r7;rw[if_pos hz]
   have lp0:∀lv,eJ prog 24 lv (.c (.d .nilsl))=some (.c (.d (.int .i64 0)),[],[],True):=λlv=>cE (o:=none) (by simp)
   have hz2:=l7 av i 0 (by omega);refine aac ?_;simp[hr,hin',lp0,hz2,hle1];apply hK8;refine aaq mixed (by kernel_rfl) rfl ?_;simp[hr,hin'];refine ag.AM 1004 9 0 (by simpa using hra) (by rfl) (by rfl) rfl rfl (by decide) ?_;simp[hbs,dY,keyOf,nq,uo,aj,-ak];refine⟨by kernel_rfl,?_⟩;apply hK5;refine aac ?_;simp[hw];refine⟨i+1,?_,⟨by omega,by omega⟩,by omega⟩;simp only[e3,hs1];rw[GO e2.1,vn e2.1,uR e2.1];exact Uc (.aD 7 0 1 7) (.aD 1005 0 1 7) _ _ 1005 _ hl0 (by decide) (by simp) (by simp) (λg=>by rw[if_pos hL0];simp;show(r6 L0 []).like _ g;rw[h6];rfl) (by simp[qD]) (by simp) (by simp) (λg=>⟨true,_,by simp,(ct _ g).symm,λh=>by cases h⟩) (by simp) rfl (by simp[bP])
  have hLp:0<L.length:=List.length_pos_iff.2 hA;have hLb:(L.length:Int)<=9223372036854775807:=by omega
  have hz2:=l7 av i L.length (by omega)
  by_cases hB:L.length=L0.length
  ·have hL0:L0≠[]:=λh=>by rw[h]at hB;simp at hB;exact hA hB
   have hr:sV L0 L=.aD 2 0 L.length 7:=by unfold sV;rw[if_pos hB];unfold qS;rw[if_neg hA]
   have h6:r6 L0 L=.cells false false 55 (gm L):=by unfold r6;rw[if_pos hB];unfold qB;rw[if_neg hA]
   have h7:r7 L0 L=.hole:=by unfold r7;rw[if_pos hB]
   refine aac ?_;simp[hr,h6,hin',hz2,gN,hLb,hle1];apply hK8;refine aaq mixed (by kernel_rfl) rfl ?_;simp[hr,h6,hin'];refine ag.AM 1004 9 0 (by simpa using hra) (by rfl) (by rfl) rfl rfl (by decide) ?_;simp[hbs,dY,keyOf,nq,uo,aj,hr,h6,gN,-ak]
   repeat refine ah ?_
   refine⟨by kernel_rfl,?_⟩;apply hK5;refine aac ?_;simp[hw];refine⟨i+1,?_,⟨by omega,by omega⟩,by omega⟩;simp only[e3,hs1];rw[GO e2.1,vn e2.1,uR e2.1,xO];exact Uc (.aD 7 0 (L.length+1) 7) (.aD 1005 0 (L.length+1) 7) _ _ 1005 _ hl0 (by decide) (by simp) (by simp) (λg=>by rw[if_neg hL0];exact λh=>by cases h) (by simp[qD]) (by simp) (by simp) (λg=>⟨false,gm L++gm [(p.nd i).gZ (av.set i L.length)],by simp,by rw[aaR,ct,ct],id⟩) (by simp) rfl (by simp[bP])
  have hr:sV L0 L=.aD 7 0 L.length 7:=by unfold sV;rw[if_neg hB]
  have h6:r6 L0 L=if L0=[]then .hole else .dead:=by unfold r6;rw[if_neg hB]
  have h7:r7 L0 L=.cells false false 55 (gm L):=by unfold r7;rw[if_neg hB]
  refine aac ?_;simp[hr,h7,hin',hz2,gN,hLb,hle1];apply hK8;refine aaq mixed (by kernel_rfl) rfl ?_;simp[hr,h7,hin'];refine ag.AM 1004 9 0 (by simpa using hra) (by rfl) (by rfl) rfl rfl (by decide) ?_;simp[hbs,dY,keyOf,nq,uo,aj,hr,h7,gN,-ak]
  repeat refine ah ?_
  refine⟨by kernel_rfl,?_⟩;apply hK5;refine aac ?_;simp[hw];refine⟨i+1,?_,⟨by omega,by omega⟩,by omega⟩;simp only[e3,hs1];rw[GO e2.1,vn e2.1,uR e2.1,xO];exact Uc (.aD 7 0 (L.length+1) 7) (.aD 1005 0 (L.length+1) 7) _ _ 1005 _ hl0 (by decide) (by simp) (by simp) (λg=>by simp;show(r6 L0 L).like _ g;rw[<-h6];exact m4 L0 L g) (by simp[qD]) (by simp) (by simp) (λg=>⟨false,gm L++gm [(p.nd i).gZ (av.set i L.length)],by simp,by rw[aaR,ct,ct],id⟩) (by simp) rfl (by simp[bP])
 have hie:i=e:=by omega
 subst hie;rw[hs]at hgs;injection hgs with g1 g2
 subst g1 g2;refine aah (aan (hK _ _ (aam @aj.eq_1 ?_)));exact aae (Wx rfl hl0 (by simp) (by simp) (by simp) (by simp) (by simp) (by simp) (by simp))
def uS(L:List Nd):CV:=if L=[]then .d .nilsl else .aD 7 0 L.length 7
def uB(L:List Nd):LB:=if L=[]then .hole else .cells true false 55 (gm L)
abbrev sI(p:PD)(z:LB)(now at':List Int)(v:CV)(b7 b8:LB):Key->LB:=
 az (az (az (az (az (az (az (az (az (λ_=>.hole) 0 (.cells true false 27 p.cs)) 1 z) 2 (.cells true false 27 (qC p v))) 3 (.cells true false 3 (zK at'))) 4 (.cells true false 30 [.aD 3 0 at'.length 1])) 5 (.cells true false 3 (zK now))) 6 (.cells true false 30 [.aD 5 0 now.length 1])) 7 b7) 8 b8
def uV(L0 L:List Nd):CV:=if L.length=L0.length then uS L else .aD 8 0 L.length 7
def u7(L0 L:List Nd):LB:=if L.length=L0.length then uB L else if L0=[]then .hole else .dead
def u8(L0 L:List Nd):LB:=if L.length=L0.length then .hole else .cells true false 55 (gm L)
def dg(lv:Key->LB)(n:Nat)(x:DV):fK lv n (.d x)=[]:=by cases n<;>rfl
def cB(lv:Key->LB)(n:Nat)(o:Option (List (List DV))):fK lv n (dc o)=[]:=by cases o<;>exact dg _ _ _
def dN(lv:Key->LB)(n:Nat)(l:List Int):(zK l).flatMap (fK lv n)=[]:=by
 unfold zK;rw[List.flatMap_map,List.flatMap_eq_nil_iff];intro x _;exact dg _ _ _
def dQ(lv:Key->LB)(n:Nat)(l:List Nd):(gm l).flatMap (fK lv n)=[]:=by
 unfold gm;rw[List.flatMap_map,List.flatMap_eq_nil_iff];intro x _;exact dg _ _ _
theorem ag.run{K:AV->List (Key×LB)->List Key->Nat->Prop}(κ':Nat)(p:PD)(z:LB)(now dm av:List Int)(L0 L:List Nd){a b:CV}(ha:(AV.c a).pure=true)(hb:(AV.c b).pure=true)(hlen:av.length=dm.length)(hL:L.length=L0.length->L=L0)
 (hc:aA c.P c.G 79 [.c a,.c b,.c (.ptr 0 0),.c (.ptr 1 0),.c (.ptr 2 0),.c (.ptr 3 0)] (rS p now dm (qS 6 L0) (oB L0 (qB L0))) (.ret (.tup []) (rS p now av (rO L0 L) (oB L0 (r6 L0 L))) (rN L0 L)))
 (hK:∀Fj rds,aQ (sI p z now dm (uS L0) (uB L0) .hole) Fj=sI p z now av (uV L0 L) (u7 L0 L) (u8 L0 L)->K (.tup []) Fj rds κ') :
 ag c 79 [.c a,.c b,.c (.ptr 0 0),.c (.ptr 6 0),.c (.ptr 4 0),.c (.ptr 2 0)] (sI p z now dm (uS L0) (uB L0) .hole) K:=by
 by_cases h0:L0=[]
 ·by_cases h1:L.length=L0.length
  ·obtain rfl:L0=L:=(hL h1).symm;have hne:True:=trivial;have h1:True:=trivial
   have hc2:aA c.P c.G 79 [.c a,.c b,.c (.ptr 0 0),.c (.ptr 1 0),.c (.ptr 2 0),.c (.ptr 3 0)] [.cells false false 27 p.cs,.cells false false 30 [.aD 4 0 now.length 1],.cells false false 30 [.aD 5 0 dm.length 1],.cells false false 27 (qC p (.d .nilsl)),bZ now,bZ dm] (.ret (.tup []) [.cells false false 27 p.cs,.cells false false 30 [.aD 4 0 now.length 1],.cells false false 30 [.aD 5 0 av.length 1],.cells false false 27 (qC p (.d .nilsl)),bZ now,bZ av] []):=by
    have f1:rS p now dm (qS 6 L0) (oB L0 (qB L0))=[.cells false false 27 p.cs,.cells false false 30 [.aD 4 0 now.length 1],.cells false false 30 [.aD 5 0 dm.length 1],.cells false false 27 (qC p (.d .nilsl)),bZ now,bZ dm]:=by simp[rS,qS,oB,qB,h0]
    have f2:rS p now av (rO L0 L0) (oB L0 (r6 L0 L0))=[.cells false false 27 p.cs,.cells false false 30 [.aD 4 0 now.length 1],.cells false false 30 [.aD 5 0 av.length 1],.cells false false 27 (qC p (.d .nilsl)),bZ now,bZ av]:=by simp[rS,rO,qS,oB,qB,r6,h0,h1,hne]
    have f3:rN L0 L0=[]:=by simp[rN,h1,hne]
    rwa[f1,f2,f3]at hc
   have g0:sI p z now dm (uS L0) (uB L0) .hole=sI p z now dm (.d .nilsl) (.hole) .hole:=by simp[uS,uB,h0]
   have g1:sI p z now av (uV L0 L0) (u7 L0 L0) (u8 L0 L0)=sI p z now av (.d .nilsl) (.hole) (.hole):=by simp[uV,u7,u8,uS,uB,h0,h1,hne]
   rw[g0,g1]at hK;rw[g0];refine ag.wh κ' 9 true [0,6,4,2,5,3] [] _ _ _ [0,6,4,2,5,3,7,8,9] hc2 (by simp) (by simp) rfl rfl rfl (by simp) ?_ (by simp) rfl ?_ ?_ ?_ rfl ?_ ?_ (by simp) ?_
   ·intro i q1 q2;have hi:i=0\/i=1\/i=2\/i=3\/i=4\/i=5:=by simp at q1;omega
    rcases hi with rfl|rfl|rfl|rfl|rfl|rfl
    ·exact⟨true,p.cs,rfl,(fR p _).symm,λ_=>rfl⟩
    ·exact⟨true,_,rfl,rfl,λ_=>rfl⟩
    ·exact⟨true,_,rfl,rfl,λ_=>rfl⟩
    ·refine⟨true,_,rfl,?_,λ_=>rfl⟩;simp[qC,aG]
    ·exact⟨true,_,rfl,(bp now _).symm,λ_=>rfl⟩
    ·exact⟨true,_,rfl,(bp dm _).symm,λ_=>rfl⟩
   ·simp[LB.pass]
   ·simp
   ·simp[LB.qh]
   ·intro i q1 q2;have hi:i=0\/i=1\/i=2\/i=3\/i=4\/i=5:=by simp at q1;omega
    rcases hi with rfl|rfl|rfl|rfl|rfl|rfl
    ·exact⟨AV.bx ha,(AV.aT ha _).symm⟩
    ·exact⟨AV.bx hb,(AV.aT hb _).symm⟩
    ·exact⟨rfl,rfl⟩
    ·exact⟨rfl,rfl⟩
    ·exact⟨rfl,rfl⟩
    ·exact⟨rfl,rfl⟩
   ·intro x hx k hk;simp only[rP,Zd,or_false]at hx;rcases hx with rfl|rfl|rfl|rfl|rfl|rfl
    ·rw[cj ha]at hk;cases hk
    ·rw[cj hb]at hk;cases hk
    ·simp[hO,fK,cB,dg,dN,dQ]at hk;simp[hk]
    ·simp[hO,fK,cB,dg,dN,dQ]at hk;rcases hk with rfl|rfl<;>simp
    ·simp[hO,fK,cB,dg,dN,dQ]at hk;rcases hk with rfl|rfl<;>simp
    ·simp[hO,fK,cB,dg,dN,dQ]at hk;simp[hk]
   ·refine hK _ _ ?_;funext k
    by_cases q0:k=0
    ·subst q0;exact congrArg (LB.cells true false 27) (fR p _)
    by_cases q1:k=1
    ·subst q1;rfl
    by_cases q2:k=2
    ·subst q2;refine congrArg (LB.cells true false 27) ?_;simp[qC,aG]
    by_cases q3:k=3
    ·subst q3;exact congrArg (LB.cells true false 3) (bp av _)
    by_cases q4:k=4
    ·subst q4;rfl
    by_cases q5:k=5
    ·subst q5;exact congrArg (LB.cells true false 3) (bp now _)
    by_cases q6:k=6
    ·subst q6;rfl
    by_cases q7:k=7
    ·subst q7;rfl
    by_cases q8:k=8
    ·subst q8;rfl
    simp[aQ,bD,az,q0,q1,q2,q3,q4,q5,q6,q7,q8]
  ·have hne:L≠[]:=λh=>h1 (by rw[h,h0])
   have hc2:aA c.P c.G 79 [.c a,.c b,.c (.ptr 0 0),.c (.ptr 1 0),.c (.ptr 2 0),.c (.ptr 3 0)] [.cells false false 27 p.cs,.cells false false 30 [.aD 4 0 now.length 1],.cells false false 30 [.aD 5 0 dm.length 1],.cells false false 27 (qC p (.d .nilsl)),bZ now,bZ dm] (.ret (.tup []) [.cells false false 27 p.cs,.cells false false 30 [.aD 4 0 now.length 1],.cells false false 30 [.aD 5 0 av.length 1],.cells false false 27 (qC p (.aD 1000 0 L.length 7)),bZ now,bZ av] [.cells false false 55 (gm L)]):=by
    have f1:rS p now dm (qS 6 L0) (oB L0 (qB L0))=[.cells false false 27 p.cs,.cells false false 30 [.aD 4 0 now.length 1],.cells false false 30 [.aD 5 0 dm.length 1],.cells false false 27 (qC p (.d .nilsl)),bZ now,bZ dm]:=by simp[rS,qS,oB,qB,h0]
    have f2:rS p now av (rO L0 L) (oB L0 (r6 L0 L))=[.cells false false 27 p.cs,.cells false false 30 [.aD 4 0 now.length 1],.cells false false 30 [.aD 5 0 av.length 1],.cells false false 27 (qC p (.aD 1000 0 L.length 7)),bZ now,bZ av]:=by simp[rS,rO,qS,oB,qB,r6,h0,h1,hne]
    have f3:rN L0 L=[.cells false false 55 (gm L)]:=by simp[rN,h1,hne]
    rwa[f1,f2,f3]at hc
   have g0:sI p z now dm (uS L0) (uB L0) .hole=sI p z now dm (.d .nilsl) (.hole) .hole:=by simp[uS,uB,h0]
   have g1:sI p z now av (uV L0 L) (u7 L0 L) (u8 L0 L)=sI p z now av (.aD 8 0 L.length 7) (.hole) (.cells true false 55 (gm L)):=by simp[uV,u7,u8,uS,uB,h0,h1,hne]
   rw[g0,g1]at hK;rw[g0];refine ag.wh κ' 9 true [0,6,4,2,5,3] [8] _ _ _ [0,6,4,2,5,3,7,8,9] hc2 (by simp) (by simp) rfl rfl rfl (by simp) ?_ (by simp) rfl ?_ ?_ ?_ rfl ?_ ?_ (by simp) ?_
   ·intro i q1 q2;have hi:i=0\/i=1\/i=2\/i=3\/i=4\/i=5:=by simp at q1;omega
    rcases hi with rfl|rfl|rfl|rfl|rfl|rfl
    ·exact⟨true,p.cs,rfl,(fR p _).symm,λ_=>rfl⟩
    ·exact⟨true,_,rfl,rfl,λ_=>rfl⟩
    ·exact⟨true,_,rfl,rfl,λ_=>rfl⟩
    ·refine⟨true,_,rfl,?_,λ_=>rfl⟩;simp[qC,aG]
    ·exact⟨true,_,rfl,(bp now _).symm,λ_=>rfl⟩
    ·exact⟨true,_,rfl,(bp dm _).symm,λ_=>rfl⟩
   ·simp[LB.pass]
   ·simp
   ·simp[LB.qh]
   ·intro i q1 q2;have hi:i=0\/i=1\/i=2\/i=3\/i=4\/i=5:=by simp at q1;omega
    rcases hi with rfl|rfl|rfl|rfl|rfl|rfl
    ·exact⟨AV.bx ha,(AV.aT ha _).symm⟩
    ·exact⟨AV.bx hb,(AV.aT hb _).symm⟩
    ·exact⟨rfl,rfl⟩
    ·exact⟨rfl,rfl⟩
    ·exact⟨rfl,rfl⟩
    ·exact⟨rfl,rfl⟩
   ·intro x hx k hk;simp only[rP,Zd,or_false]at hx;rcases hx with rfl|rfl|rfl|rfl|rfl|rfl
    ·rw[cj ha]at hk;cases hk
    ·rw[cj hb]at hk;cases hk
    ·simp[hO,fK,cB,dg,dN,dQ]at hk;simp[hk]
    ·simp[hO,fK,cB,dg,dN,dQ]at hk;rcases hk with rfl|rfl<;>simp
    ·simp[hO,fK,cB,dg,dN,dQ]at hk;rcases hk with rfl|rfl<;>simp
    ·simp[hO,fK,cB,dg,dN,dQ]at hk;simp[hk]
   ·refine hK _ _ ?_;funext k
    by_cases q0:k=0
    ·subst q0;exact congrArg (LB.cells true false 27) (fR p _)
    by_cases q1:k=1
    ·subst q1;rfl
    by_cases q2:k=2
    ·subst q2;refine congrArg (LB.cells true false 27) ?_;simp[qC,aG]
    by_cases q3:k=3
    ·subst q3;exact congrArg (LB.cells true false 3) (bp av _)
    by_cases q4:k=4
    ·subst q4;rfl
    by_cases q5:k=5
    ·subst q5;exact congrArg (LB.cells true false 3) (bp now _)
    by_cases q6:k=6
    ·subst q6;rfl
    by_cases q7:k=7
    ·subst q7;rfl
    by_cases q8:k=8
    ·subst q8;exact congrArg (LB.cells true false 55) (ct _ _)
    simp[aQ,bD,az,q0,q1,q2,q3,q4,q5,q6,q7,q8]
 ·by_cases h1:L.length=L0.length
  ·obtain rfl:L0=L:=(hL h1).symm;have hne:True:=trivial;have h1:True:=trivial
   have hc2:aA c.P c.G 79 [.c a,.c b,.c (.ptr 0 0),.c (.ptr 1 0),.c (.ptr 2 0),.c (.ptr 3 0)] [.cells false false 27 p.cs,.cells false false 30 [.aD 4 0 now.length 1],.cells false false 30 [.aD 5 0 dm.length 1],.cells false false 27 (qC p (.aD 6 0 L0.length 7)),bZ now,bZ dm,.cells false false 55 (gm L0)] (.ret (.tup []) [.cells false false 27 p.cs,.cells false false 30 [.aD 4 0 now.length 1],.cells false false 30 [.aD 5 0 av.length 1],.cells false false 27 (qC p (.aD 6 0 L0.length 7)),bZ now,bZ av,.cells false false 55 (gm L0)] []):=by
    have f1:rS p now dm (qS 6 L0) (oB L0 (qB L0))=[.cells false false 27 p.cs,.cells false false 30 [.aD 4 0 now.length 1],.cells false false 30 [.aD 5 0 dm.length 1],.cells false false 27 (qC p (.aD 6 0 L0.length 7)),bZ now,bZ dm,.cells false false 55 (gm L0)]:=by simp[rS,qS,oB,qB,h0]
    have f2:rS p now av (rO L0 L0) (oB L0 (r6 L0 L0))=[.cells false false 27 p.cs,.cells false false 30 [.aD 4 0 now.length 1],.cells false false 30 [.aD 5 0 av.length 1],.cells false false 27 (qC p (.aD 6 0 L0.length 7)),bZ now,bZ av,.cells false false 55 (gm L0)]:=by simp[rS,rO,qS,oB,qB,r6,h0,h1,hne]
    have f3:rN L0 L0=[]:=by simp[rN,h1,hne]
    rwa[f1,f2,f3]at hc
   have g0:sI p z now dm (uS L0) (uB L0) .hole=sI p z now dm (.aD 7 0 L0.length 7) (.cells true false 55 (gm L0)) .hole:=by simp[uS,uB,h0]
   have g1:sI p z now av (uV L0 L0) (u7 L0 L0) (u8 L0 L0)=sI p z now av (.aD 7 0 L0.length 7) (.cells true false 55 (gm L0)) (.hole):=by simp[uV,u7,u8,uS,uB,h0,h1,hne]
   rw[g0,g1]at hK;rw[g0];refine ag.wh κ' 9 true [0,6,4,2,5,3,7] [] _ _ _ [0,6,4,2,5,3,7,8,9] hc2 (by simp) (by simp) rfl rfl rfl (by simp) ?_ (by simp) rfl ?_ ?_ ?_ rfl ?_ ?_ (by simp) ?_
   ·intro i q1 q2;have hi:i=0\/i=1\/i=2\/i=3\/i=4\/i=5\/i=6:=by simp at q1;omega
    rcases hi with rfl|rfl|rfl|rfl|rfl|rfl|rfl
    ·exact⟨true,p.cs,rfl,(fR p _).symm,λ_=>rfl⟩
    ·exact⟨true,_,rfl,rfl,λ_=>rfl⟩
    ·exact⟨true,_,rfl,rfl,λ_=>rfl⟩
    ·refine⟨true,_,rfl,?_,λ_=>rfl⟩;simp[qC,aG]
    ·exact⟨true,_,rfl,(bp now _).symm,λ_=>rfl⟩
    ·exact⟨true,_,rfl,(bp dm _).symm,λ_=>rfl⟩
    ·exact⟨true,_,rfl,(ct L0 _).symm,λ_=>rfl⟩
   ·simp[LB.pass]
   ·simp
   ·simp[LB.qh]
   ·intro i q1 q2;have hi:i=0\/i=1\/i=2\/i=3\/i=4\/i=5:=by simp at q1;omega
    rcases hi with rfl|rfl|rfl|rfl|rfl|rfl
    ·exact⟨AV.bx ha,(AV.aT ha _).symm⟩
    ·exact⟨AV.bx hb,(AV.aT hb _).symm⟩
    ·exact⟨rfl,rfl⟩
    ·exact⟨rfl,rfl⟩
    ·exact⟨rfl,rfl⟩
    ·exact⟨rfl,rfl⟩
   ·intro x hx k hk;simp only[rP,Zd,or_false]at hx;rcases hx with rfl|rfl|rfl|rfl|rfl|rfl
    ·rw[cj ha]at hk;cases hk
    ·rw[cj hb]at hk;cases hk
    ·simp[hO,fK,cB,dg,dN,dQ]at hk;simp[hk]
    ·simp[hO,fK,cB,dg,dN,dQ]at hk;rcases hk with rfl|rfl<;>simp
    ·simp[hO,fK,cB,dg,dN,dQ]at hk;rcases hk with rfl|rfl<;>simp
    ·simp[hO,fK,cB,dg,dN,dQ]at hk;rcases hk with rfl|rfl<;>simp
   ·refine hK _ _ ?_;funext k
    by_cases q0:k=0
    ·subst q0;exact congrArg (LB.cells true false 27) (fR p _)
    by_cases q1:k=1
    ·subst q1;rfl
    by_cases q2:k=2
    ·subst q2;refine congrArg (LB.cells true false 27) ?_;simp[qC,aG]
    by_cases q3:k=3
    ·subst q3;exact congrArg (LB.cells true false 3) (bp av _)
    by_cases q4:k=4
    ·subst q4;rfl
    by_cases q5:k=5
    ·subst q5;exact congrArg (LB.cells true false 3) (bp now _)
    by_cases q6:k=6
    ·subst q6;rfl
    by_cases q7:k=7
    ·subst q7;exact congrArg (LB.cells true false 55) (ct _ _)
    by_cases q8:k=8
    ·subst q8;rfl
    simp[aQ,bD,az,q0,q1,q2,q3,q4,q5,q6,q7,q8]
  ·have hne:True:=trivial
   have hc2:aA c.P c.G 79 [.c a,.c b,.c (.ptr 0 0),.c (.ptr 1 0),.c (.ptr 2 0),.c (.ptr 3 0)] [.cells false false 27 p.cs,.cells false false 30 [.aD 4 0 now.length 1],.cells false false 30 [.aD 5 0 dm.length 1],.cells false false 27 (qC p (.aD 6 0 L0.length 7)),bZ now,bZ dm,.cells false false 55 (gm L0)] (.ret (.tup []) [.cells false false 27 p.cs,.cells false false 30 [.aD 4 0 now.length 1],.cells false false 30 [.aD 5 0 av.length 1],.cells false false 27 (qC p (.aD 1000 0 L.length 7)),bZ now,bZ av,.dead] [.cells false false 55 (gm L)]):=by
    have f1:rS p now dm (qS 6 L0) (oB L0 (qB L0))=[.cells false false 27 p.cs,.cells false false 30 [.aD 4 0 now.length 1],.cells false false 30 [.aD 5 0 dm.length 1],.cells false false 27 (qC p (.aD 6 0 L0.length 7)),bZ now,bZ dm,.cells false false 55 (gm L0)]:=by simp[rS,qS,oB,qB,h0]
    have f2:rS p now av (rO L0 L) (oB L0 (r6 L0 L))=[.cells false false 27 p.cs,.cells false false 30 [.aD 4 0 now.length 1],.cells false false 30 [.aD 5 0 av.length 1],.cells false false 27 (qC p (.aD 1000 0 L.length 7)),bZ now,bZ av,.dead]:=by simp[rS,rO,qS,oB,qB,r6,h0,h1,hne]
    have f3:rN L0 L=[.cells false false 55 (gm L)]:=by simp[rN,h1,hne]
    rwa[f1,f2,f3]at hc
   have g0:sI p z now dm (uS L0) (uB L0) .hole=sI p z now dm (.aD 7 0 L0.length 7) (.cells true false 55 (gm L0)) .hole:=by simp[uS,uB,h0]
   have g1:sI p z now av (uV L0 L) (u7 L0 L) (u8 L0 L)=sI p z now av (.aD 8 0 L.length 7) (.dead) (.cells true false 55 (gm L)):=by simp[uV,u7,u8,uS,uB,h0,h1,hne]
   rw[g0,g1]at hK;rw[g0];refine ag.wh κ' 9 true [0,6,4,2,5,3,7] [8] _ _ _ [0,6,4,2,5,3,7,8,9] hc2 (by simp) (by simp) rfl rfl rfl (by simp) ?_ (by simp) rfl ?_ ?_ ?_ rfl ?_ ?_ (by simp) ?_
   ·intro i q1 q2;have hi:i=0\/i=1\/i=2\/i=3\/i=4\/i=5\/i=6:=by simp at q1;omega
    rcases hi with rfl|rfl|rfl|rfl|rfl|rfl|rfl
    ·exact⟨true,p.cs,rfl,(fR p _).symm,λ_=>rfl⟩
    ·exact⟨true,_,rfl,rfl,λ_=>rfl⟩
    ·exact⟨true,_,rfl,rfl,λ_=>rfl⟩
    ·refine⟨true,_,rfl,?_,λ_=>rfl⟩;simp[qC,aG]
    ·exact⟨true,_,rfl,(bp now _).symm,λ_=>rfl⟩
    ·exact⟨true,_,rfl,(bp dm _).symm,λ_=>rfl⟩
    ·exact⟨true,_,rfl,(ct L0 _).symm,λ_=>rfl⟩
   ·simp[LB.pass]
   ·simp
   ·simp[LB.qh]
   ·intro i q1 q2;have hi:i=0\/i=1\/i=2\/i=3\/i=4\/i=5:=by simp at q1;omega
    rcases hi with rfl|rfl|rfl|rfl|rfl|rfl
    ·exact⟨AV.bx ha,(AV.aT ha _).symm⟩
    ·exact⟨AV.bx hb,(AV.aT hb _).symm⟩
    ·exact⟨rfl,rfl⟩
    ·exact⟨rfl,rfl⟩
    ·exact⟨rfl,rfl⟩
    ·exact⟨rfl,rfl⟩
   ·intro x hx k hk;simp only[rP,Zd,or_false]at hx;rcases hx with rfl|rfl|rfl|rfl|rfl|rfl
    ·rw[cj ha]at hk;cases hk
    ·rw[cj hb]at hk;cases hk
    ·simp[hO,fK,cB,dg,dN,dQ]at hk;simp[hk]
    ·simp[hO,fK,cB,dg,dN,dQ]at hk;rcases hk with rfl|rfl<;>simp
    ·simp[hO,fK,cB,dg,dN,dQ]at hk;rcases hk with rfl|rfl<;>simp
    ·simp[hO,fK,cB,dg,dN,dQ]at hk;rcases hk with rfl|rfl<;>simp
   ·refine hK _ _ ?_;funext k
    by_cases q0:k=0
    ·subst q0;exact congrArg (LB.cells true false 27) (fR p _)
    by_cases q1:k=1
    ·subst q1;rfl
    by_cases q2:k=2
    ·subst q2;refine congrArg (LB.cells true false 27) ?_;simp[qC,aG]
    by_cases q3:k=3
    ·subst q3;exact congrArg (LB.cells true false 3) (bp av _)
    by_cases q4:k=4
    ·subst q4;rfl
    by_cases q5:k=5
    ·subst q5;exact congrArg (LB.cells true false 3) (bp now _)
    by_cases q6:k=6
    ·subst q6;rfl
    by_cases q7:k=7
    ·subst q7;rfl
    by_cases q8:k=8
    ·subst q8;exact congrArg (LB.cells true false 55) (ct _ _)
    simp[aQ,bD,az,q0,q1,q2,q3,q4,q5,q6,q7,q8]
def pZ(p:PD)(i k:Nat):Nat:=((List.range' i k).filter λj=>decide ((p.nd j).op=2)).length
def jh(p:PD):Int:=p.tail-p.head-pZ p p.head.toNat (p.tail.toNat-p.head.toNat)
def yp(p:PD)(s:Int):Int:=p.head+s*jh p+(((p.nn-p.tail.toNat:Nat):Int)-pZ p p.tail.toNat (p.nn-p.tail.toNat))
def th(p:PD)(a b:Nat):Option (List (List DV)):=some (((sO p.nodes).take b).drop a)
def EI(p:PD)(a b:Nat)(hb:b<=p.nn):(sO (th p a b)).length=b-a:=by
 have:b<=(sO p.nodes).length:=hb;show((((sO p.nodes).take b).drop a)).length=b-a;rw[aaM,Ze];omega
def Yy(lv:Key->LB)(hp:p.ok)(hes:p.nodes=some es){b:Int}(ha:0<=a)(hab:a<=b)(hb:b<=p.nn):
 bn prog 24 lv (.c (dc p.nodes)) (some (.c (.d (.int .i64 a)))) (some (.c (.d (.int .i64 b))))=some (.c (dc (th p a.toNat b.toNat)),[],[],True):=by
 have hs:fh prog 24=some (55,7):=by kernel_rfl
 have hl:∀e∈es,e.length=7:=λe he=>mO (hp.nodes e (by rw[hes];exact he))
 have hb':b<=(es.length:Int):=by have h1:=hb;unfold PD.nn at h1;rwa[hes]at h1
 unfold bn th;rw[hes,hs];simp only[dc,sO,abq,cU];rw[eq_true (show 0<=a/\a<=b/\b<=(es.length:Int)/\∀e∈es,e.length=7 from⟨ha,hab,hb',hl⟩)]
def UN(lv:Key->LB)(hp:p.ok)(hes:p.nodes=some es)(ha:0<=a)(hb:a<=p.nn):
 bn prog 24 lv (.c (dc p.nodes)) (some (.c (.d (.int .i64 a)))) none=some (.c (dc (th p a.toNat p.nn)),[],[],True):=by
 have hs:fh prog 24=some (55,7):=by kernel_rfl
 have hl:∀e∈es,e.length=7:=λe he=>mO (hp.nodes e (by rw[hes];exact he))
 have hn:p.nn=es.length:=by unfold PD.nn;rw[hes];rfl
 have hb':a<=(es.length:Int):=by rw[<-hn];exact hb
 unfold bn th;rw[hes,hs,hn];simp only[dc,sO,abq,cU,Zp];rw[eq_true (show 0<=a/\a<=(es.length:Int)/\(es.length:Int)<=(es.length:Int)/\∀e∈es,e.length=7 from⟨ha,hb',Int.le_refl _,hl⟩)]
def Ie(hp:p.ok)(lv:Key->LB){a j:Nat}(hj:j<b-a)(hb:b<=p.nn):aq prog 24 lv (.c (dc (th p a b))) (.c (.d (.int .i64 (j:Int))))=some (.c (.d (.ptr (p.nd (a+j)).e)),[],[],True):=by
 have hbl:b<=(sO p.nodes).length:=hb;refine UE (o:=th p a b) (sz:=7) (by simp) (by omega) (by rw[EI p a b hb];omega) ?_ rfl
 have h1:(sO (th p a b)).getD j []=(sO p.nodes).getD (a+j) []:=by
  show((((sO p.nodes).take b).drop a)).getD j []=_;rw[Y8,Y8,aaL,abf,if_pos (by omega)]
 rw[Zp,h1];exact LS (gD hp.nodes (by omega))
def BO(lv:Key->LB){a:Nat}(hb:b<=p.nn):eJ prog 24 lv (.c (dc (th p a b)))=some (.c (.d (.int .i64 ((b-a:Nat):Int))),[],[],True):=by
 have h:=cE (P:=prog) (T:=24) (lv:=lv) (o:=th p a b) (by simp);rwa[EI p a b hb]at h
theorem FZ(h:dB p=0):0<=p.head/\p.head<=p.tail/\p.tail<=p.nn/\p.nn<=64/\p.ns<=1000:=by
 obtain⟨a,b,c,_,_,d,e⟩:=kC h;exact⟨a,b,c,d,by omega⟩
def mJ(p:PD)(i k:Nat):pZ p i (k+1)=pZ p i k+if (p.nd (i+k)).op=2 then 1 else 0:=by
 unfold pZ;rw[List.range'_concat,List.filter_append,Zg]
 by_cases h:(p.nd (i+k)).op=2<;>simp[h]
def oN(p:PD)(i k:Nat):pZ p i k<=k:=by
 induction k with
 |zero=>exact aY _
 |succ k ih=>rw[mJ];split<;>omega
theorem Oz(m:Int)(p:PD)(hp:p.ok)(s:Int)(h0:(dA p).2.2=0)(hs:0<=s/\s<=200)(hbig:64<yp p s):aa prog (GG m) 26 [p.A,.c (.d (.int .i64 s))] (.tup [iU.A,.c (.d (.int .i64 3))]):=by
 have h:=so m p hp;have hg:=ou hp h0;rw[h0]at h;have s1:¬s<0:=by omega
 have s2:¬200<s:=by omega
 obtain⟨es,hes⟩:=CI hg.gen;obtain⟨g1,g2,g3,g4,g5⟩:=FZ hg.gen;have hb:p.tail.toNat<=p.nn:=by omega
 have hsn:=oN p p.head.toNat (p.tail.toNat-p.head.toNat);have hX:0<=jh p/\jh p<=64:=by unfold jh;omega
 have hX1:0<=s*jh p:=Int.mul_nonneg hs.1 hX.1;have hX2:s*jh p<=200*64:=Int.mul_le_mul hs.2 hX.2 hX.1 (by omega);obtain⟨M0,hM0⟩:∃M0,M0=p.head+s*jh p:=⟨_,rfl⟩
 have k1:=bF (n:=p.tail-p.head) (by omega) (by omega);have k2:i64.wrap (p.tail-p.head-(pZ p p.head.toNat (p.tail.toNat-p.head.toNat):Int))=jh p:=bF (n:=jh p) (by omega) (by omega);have k3:=bF (n:=s*jh p) (by omega) (by omega);have k4:=bF (n:=p.head+s*jh p) (by omega) (by omega);have hsl1:=λlv=>UN lv hp hes (a:=p.tail) (by omega) g3
 have hln1:=λlv=>BO (p:=p) lv (a:=p.tail.toNat) (aY p.nn)
 have hsl:=λlv=>Yy lv hp hes g1 g2 g3
 have hln:=λlv=>BO (p:=p) lv (a:=p.head.toNat) hb
 refine aa.JY func26 rfl (λlv=>nR lv _ _) λ_=>aab ?_;refine aaa λK hK=>aar 2 h ?_;refine aab ?_;refine aah (aad (hK _ _ (aaa λK hK=>aap s1 s2 ?_)));refine aah (aad (hK _ _ (aab ?_)));refine aaa λK hK=>aap hsl hln ?_;refine aaf ?_
 refine aao (λ(j:Nat)=>⟨aU [(1,.c (.d (.int .i64 s))),(2,.c (.ptr 0 0)),(4,.c (.ptr 1 0)),(7,.c (.d (.int .i64 (pZ p p.head.toNat j)))),(41,.c (dc (th p p.head.toNat p.tail.toNat))),(42,.c (.d (.int .i64 ((p.tail.toNat-p.head.toNat:Nat):Int)))),(43,.c (.d (.int .i64 j)))],
  az (az (λ_=>.hole) 0 (.cells true false 27 p.cs)) 1 (.cells true false 27 iU.cs)⟩) 2
  (λj=>j<=p.tail.toNat-p.head.toNat) (λj=>p.tail.toNat-p.head.toNat-j) 0 (Le.mX _ (by simp[iU,dc]) (by simp[pZ])) (Zi _) ?_
 rintro j hj
 try simp only at hj
 refine aab ?_;refine aaa λK2 hK2=>?_
 by_cases hlt:j<p.tail.toNat-p.head.toNat
 ·have hlt':(j:Int)<((p.tail.toNat-p.head.toNat:Nat):Int):=by omega
  have hx:=λlv=>Ie hp lv hlt hb
  have f12:=bF (n:=(j:Int)+1) (by omega) (by omega);have hsle:=oN p p.head.toNat j;have hss:=mJ p p.head.toNat j;have f13:=bF (n:=(pZ p p.head.toNat j:Int)+1) (by omega) (by omega);refine aag (by simp[hlt']<;>omega) (aad (hK2 _ _ (aaa λK3 hK3=>aaf (aap hx @aj.eq_1 ?_))));refine aab ?_
  by_cases h2:(p.nd (p.head.toNat+j)).op=2
  ·have h2':((p.nd (p.head.toNat+j)).op=2)=True:=by simp[h2]
   refine aag (by simp[h2']<;>omega) (aas f13 (hK3 _ _ ?_));refine aac ?_;simp[f12];rw[if_pos h2]at hss;refine⟨j+1,?_,by omega,by omega⟩;simp only[hss];exact(Le.l5 [2] 9)
  ·have h2':((p.nd (p.head.toNat+j)).op=2)=False:=by simp[h2]
   refine aaj (by simp[h2']<;>omega) (aad (hK3 _ _ (aac ?_)));simp[f12];rw[if_neg h2]at hss;refine⟨j+1,?_,by omega,by omega⟩;simp only[hss];exact(Le.l5 [2] 9)
 have hje:j=p.tail.toNat-p.head.toNat:=by omega
 subst hje;refine aah (aan (hK _ _ (AW.f5 k1 k2 k3 k4 hM0 ?_)));refine aaa λK9 hK9=>aap hsl1 hln1 ?_;refine aaf ?_
 refine aao (λ(j:Nat)=>⟨aU [(1,.c (.d (.int .i64 s))),(2,.c (.ptr 0 0)),(4,.c (.ptr 1 0)),(10,.c (.d (.int .i64 (M0+((j:Int)-pZ p p.tail.toNat j))))),(69,.c (dc (th p p.tail.toNat p.nn))),(70,.c (.d (.int .i64 ((p.nn-p.tail.toNat:Nat):Int)))),(71,.c (.d (.int .i64 j)))],
  az (az (λ_=>.hole) 0 (.cells true false 27 p.cs)) 1 (.cells true false 27 iU.cs)⟩) 2
  (λj=>j<=p.nn-p.tail.toNat) (λj=>p.nn-p.tail.toNat-j) 0 (Le.mX _ (by simp[iU,dc]) (by simp[pZ,hM0])) (Zi _) ?_
 rintro j hj
 try simp only at hj
 refine aab ?_;refine aaa λK2 hK2=>?_
 by_cases hlt:j<p.nn-p.tail.toNat
 ·have hlt':(j:Int)<((p.nn-p.tail.toNat:Nat):Int):=by omega
  have hx:=λlv=>Ie hp lv hlt (aY p.nn)
  have f12:=bF (n:=(j:Int)+1) (by omega) (by omega);have hsle:=oN p p.tail.toNat j;have hss:=mJ p p.tail.toNat j;have f13:=bF (n:=M0+((j:Int)-pZ p p.tail.toNat j)+1) (by omega) (by omega);refine aag (by simp[hlt']<;>omega) (aad (hK2 _ _ (aaa λK3 hK3=>aaf (aap hx @aj.eq_1 ?_))));refine aab ?_
  by_cases h2:(p.nd (p.tail.toNat+j)).op=2
  ·have h2':((p.nd (p.tail.toNat+j)).op=2)=True:=by simp[h2]
   refine aaj (by simp[h2']<;>omega) (aad (hK3 _ _ (aac ?_)));simp[f12];rw[if_pos h2]at hss;refine⟨j+1,?_,by omega,by omega⟩;have hv:M0+(((j+1:Nat):Int)-((pZ p p.tail.toNat (j+1):Nat):Int))=M0+((j:Int)-pZ p p.tail.toNat j):=by rw[hss];omega
   simp only[hv];exact(Le.l5 [2] 9)
  ·have h2':((p.nd (p.tail.toNat+j)).op=2)=False:=by simp[h2]
   refine aag (by simp[h2']<;>omega) (aas f13 (hK3 _ _ ?_));refine aac ?_;simp[f12];rw[if_neg h2]at hss;refine⟨j+1,?_,by omega,by omega⟩;have hv:M0+(((j+1:Nat):Int)-((pZ p p.tail.toNat (j+1):Nat):Int))=M0+((j:Int)-pZ p p.tail.toNat j)+1:=by rw[hss];omega
   simp only[hv];exact(Le.l5 [2] 9)
 have hje:j=p.nn-p.tail.toNat:=by omega
 subst hje;refine aah (aan (hK9 _ _ ?_));have hmm:M0+(((p.nn-p.tail.toNat:Nat):Int)-pZ p p.tail.toNat (p.nn-p.tail.toNat))=yp p s:=by rw[hM0];rfl
 generalize M0+(((p.nn-p.tail.toNat:Nat):Int)-pZ p p.tail.toNat (p.nn-p.tail.toNat))=mm at*
 subst hmm;refine aaa λK4 hK4=>aam hbig ?_;refine aai (aam @Q7 ?_);exact aae (A7 rfl rfl 1)
def mg(hg:p.good)(hi:i<p.nn):(1<=(p.nd i).op/\(p.nd i).op<=15)/\((p.nd i).op=2->0<=(p.nd i).a/\(p.nd i).a<p.ns)/\∀x∈bf (p.nd i),0<=x/\x<i:=by
 have h:=hg.nodes i hi;unfold kB at h
 by_cases c1:1<=(p.nd i).op/\(p.nd i).op<=15
 rotate_left
 ·rw[if_pos c1]at h;cases h
 rw[if_neg (not_not_intro c1)]at h;refine⟨c1,λh2=>?_,?_⟩
 ·(repeat' split at h)<;>first|omega|cases h
 ·by_cases h3:(p.nd i).op=3
  ·intro x hx;unfold bf at hx;rw[if_pos c1,h3]at hx
   cases hx
  ·rw[if_neg h3]at h
   have hk:(bf (p.nd i)).all (de p i)=true:=by
    cases hkk:(bf (p.nd i)).all (de p i)with
    |true=>rfl
    |false=>rw[hkk]at h;(repeat' split at h)<;>first|contradiction|(cases h;done)|(exfalso;simp_all)
   intro x hx;have:=List.all_eq_true.1 hk x hx;unfold de at this;simp at this;omega
def aaF{r:Option Nat}{x:Code}{s s2:aE}{κ2:Nat}{Q:Ex->aE->Nat->Prop}(h:Le c s s2)(k:AW c r x s2 κ2 Q):AW c r x s κ Q:=by
 obtain⟨g,hg⟩:=h;exact AW.coarse hg k
def uI(n:Nat):zK (List.replicate n 0)=List.replicate n (CV.d (.int .i64 0)):=by unfold zK;rw[List.map_replicate]
def g8(k5 k7 kh:Key):Key->Key:=λk=>if k=0 then 0 else if k=1 then 1 else if k=2 then 2 else if k=3 then 3 else if k=4 then 4 else if k=5 then k5 else if k=6 then 6 else if k=7 then k7 else kh
theorem Hx(k5 k7 kh:Key)(a b d e f g h i:LB):bP [(0,0,a),(1,1,b),(2,2,d),(3,3,e),(4,4,f),(5,k5,g),(6,6,h),(7,k7,i)] kh=g8 k5 k7 kh:=by
 funext k;unfold g8
 by_cases h0:k=0
 ·subst h0;rfl
 by_cases h1:k=1
 ·subst h1;rfl
 by_cases h2:k=2
 ·subst h2;rfl
 by_cases h3:k=3
 ·subst h3;rfl
 by_cases h4:k=4
 ·subst h4;rfl
 by_cases h5:k=5
 ·subst h5;rfl
 by_cases h6:k=6
 ·subst h6;rfl
 by_cases h7:k=7
 ·subst h7;rfl
 rw[if_neg h0,if_neg h1,if_neg h2,if_neg h3,if_neg h4,if_neg h5,if_neg h6,if_neg h7];have e:∀j:Key,k≠j->(j==k)=false:=λj hj=>by simpa using λh=>hj h.symm
 simp[bP,List.find?,e _ h0,e _ h1,e _ h2,e _ h3,e _ h4,e _ h5,e _ h6,e _ h7]
def g9:Key->Key:=λk=>if k=9 then 9 else g8 5 7 19 k
theorem NT(a b d e f g h i j:LB):bP [(0,0,a),(1,1,b),(2,2,d),(3,3,e),(4,4,f),(5,5,g),(6,6,h),(7,7,i),(9,9,j)] 19=g9:=by
 funext k;unfold g9
 by_cases h9:k=9
 ·subst h9;rfl
 rw[if_neg h9,<-Hx 5 7 19 a b d e f g h i];have e:(9==k)=false:=by simpa using λh:(9:Nat)=k=>h9 h.symm
 simp[bP,List.find?,e]
def Re(L:List Nd)(k5 k7 kh:Key):(uS L).bM (g8 k5 k7 kh)=if L=[]then .d .nilsl else .aD k7 0 L.length 7:=by
 unfold uS;split<;>rfl
def ga(L:List Nd)(g:Key->Key):(uB L).like (uB L) g:=by
 unfold uB;split
 ·rfl
 ·exact⟨true,_,rfl,(ct L g).symm,id⟩
theorem UU(hc:c.iV=λ_=>.hole)(L:List Nd)(k5 k7 kh:Key)(l:List (Nat×AV))(hn:([0,1,2,3,4,k5,6,k7]:List Key).Nodup)(hz:∀g,z.like z g)
 (h0:lv 0=.cells true false 27 p.cs) (h1:lv 1=z) (h2:lv 2=.cells true false 27 (qC p (if L=[]then .d .nilsl else .aD k7 0 L.length 7))) (h3:lv 3=.cells true false 3 (zK av)) (h4:lv 4=.cells true false 30 [.aD 3 0 av.length 1]) (h5:lv k5=.cells true false 3 (zK now)) (h6:lv 6=.cells true false 30 [.aD k5 0 now.length 1]) (h7:∀g,(lv k7).like (uB L) g) (h9:lv kh=.hole)
 (hl:∀x∈l,x.2.bC=true/\fr x.1=x.2.bM (g8 k5 k7 kh)):Le c ⟨fr,lv⟩ ⟨aU l,sI p z now av (uS L) (uB L) .hole⟩:=by
 have hk:=Hx k5 k7 kh (.cells true false 27 p.cs) z (.cells true false 27 (qC p (uS L))) (.cells true false 3 (zK av)) (.cells true false 30 [.aD 3 0 av.length 1]) (.cells true false 3 (zK now)) (.cells true false 30 [.aD 5 0 now.length 1]) (uB L);refine Le.keys [(0,0,.cells true false 27 p.cs),(1,1,z),(2,2,.cells true false 27 (qC p (uS L))),(3,3,.cells true false 3 (zK av)),(4,4,.cells true false 30 [.aD 3 0 av.length 1]),(5,k5,.cells true false 3 (zK now)),(6,6,.cells true false 30 [.aD 5 0 now.length 1]),(7,k7,uB L)] kh l ?_ hc (by simp) hn h9 ?_ (by rw[hk];exact hl)
 ·exact iq (k:=8) rfl
 ·rw[hk];intro x hx;simp only[rP,Zd,or_false]at hx;rcases hx with rfl|rfl|rfl|rfl|rfl|rfl|rfl|rfl
  ·exact⟨true,p.cs,h0,(fR p _).symm,id⟩
  ·show(lv 1).like z _;rw[h1];exact hz _
  ·refine⟨true,_,h2,?_,id⟩;rw[<-Re L k5 k7 kh];simp[qC]
  ·exact⟨true,_,h3,(bp _ _).symm,id⟩
  ·exact⟨true,_,h4,rfl,id⟩
  ·exact⟨true,_,h5,(bp _ _).symm,id⟩
  ·exact⟨true,_,h6,rfl,id⟩
  ·exact h7 _
def Wr(hc:c.iV=λ_=>.hole)(l:List (Nat×AV))(hz:∀g,z.like z g)(hlv:lv=sI p z now av (uS L) (uB L) .hole)
 (hl:∀x∈l,x.2.bC=true/\fr x.1=x.2.bM (g8 5 7 19)):Le c ⟨fr,lv⟩ ⟨aU l,sI p z now av (uS L) (uB L) .hole⟩:=by
 subst hlv;exact UU hc L 5 7 19 l (by decide) hz rfl rfl rfl rfl rfl rfl rfl (λg=>ga L g) rfl hl
def Mc(hc:c.iV=λ_=>.hole)(hLL:L0.length<=L.length)(l:List (Nat×AV))(hz:∀g,z.like z g)(hlv:lv=sI p z now av (uV L0 L) (u7 L0 L) (u8 L0 L))
 (hl:∀k7,∀x∈l,x.2.bC=true/\fr x.1=x.2.bM (g8 5 k7 19)):Le c ⟨fr,lv⟩ ⟨aU l,sI p z now av (uS L) (uB L) .hole⟩:=by
 by_cases h:L.length=L0.length
 ·refine Wr hc l hz ?_ (hl 7);rw[hlv,show uV L0 L=uS L from if_pos h,show u7 L0 L=uB L from if_pos h,show u8 L0 L=.hole from if_pos h]
 ·have hne:L≠[]:=λe=>h (by rw[e]at hLL⊢;simp only[aaG]at hLL⊢;omega)
  subst hlv;refine UU hc L 5 8 19 l (by decide) hz rfl rfl ?_ rfl rfl rfl rfl (λg=>?_) rfl (hl 8)
  ·rw[if_neg hne];show LB.cells true false 27 (qC p (uV L0 L))=_;rw[show uV L0 L=.aD 8 0 L.length 7 from if_neg h]
  ·show(u8 L0 L).like (uB L) g;rw[show u8 L0 L=.cells true false 55 (gm L) from if_neg h,<-show uB L=.cells true false 55 (gm L) from if_neg hne];exact ga L g
theorem UI(hc:c.iV=λ_=>.hole){nx:List Int}(L:List Nd)(l:List (Nat×AV))(hz:∀g,z.like z g)
 (h0:lv 0=.cells true false 27 p.cs) (h1:lv 1=z) (h2:lv 2=.cells true false 27 (qC p (uS L))) (h3:lv 3=.cells true false 3 (zK av)) (h4:lv 4=.cells true false 30 [.aD 3 0 av.length 1]) (h5:lv 5=.cells true false 3 (zK now)) (h6:lv 6=.cells true false 30 [.aD 5 0 now.length 1]) (h7:lv 7=uB L) (h9:lv 9=.cells true false 3 (zK nx)) (hh:lv 19=.hole)
 (hl:∀x∈l,x.2.bC=true/\fr x.1=x.2.bM g9):Le c ⟨fr,lv⟩ ⟨aU l,az (sI p z now av (uS L) (uB L) .hole) 9 (.cells true false 3 (zK nx))⟩:=by
 have hk:=NT (.cells true false 27 p.cs) z (.cells true false 27 (qC p (uS L))) (.cells true false 3 (zK av)) (.cells true false 30 [.aD 3 0 av.length 1]) (.cells true false 3 (zK now)) (.cells true false 30 [.aD 5 0 now.length 1]) (uB L) (.cells true false 3 (zK nx));refine Le.keys [(0,0,.cells true false 27 p.cs),(1,1,z),(2,2,.cells true false 27 (qC p (uS L))),(3,3,.cells true false 3 (zK av)),(4,4,.cells true false 30 [.aD 3 0 av.length 1]),(5,5,.cells true false 3 (zK now)),(6,6,.cells true false 30 [.aD 5 0 now.length 1]),(7,7,uB L),(9,9,.cells true false 3 (zK nx))] 19 l ?_ hc (by simp) (by simp) hh ?_ (by rw[hk];exact hl)
 ·exact congrArg (λf=>az f 9 (LB.cells true false 3 (zK nx))) (iq (k:=8) rfl)
 ·rw[hk];intro x hx;simp only[rP,Zd,or_false]at hx;rcases hx with rfl|rfl|rfl|rfl|rfl|rfl|rfl|rfl|rfl
  ·exact⟨true,p.cs,h0,(fR p _).symm,id⟩
  ·show(lv 1).like z _;rw[h1];exact hz _
  ·refine⟨true,_,h2,?_,id⟩;have:(uS L).bM g9=uS L:=by unfold uS;split<;>rfl
   simp[qC,this]
  ·exact⟨true,_,h3,(bp _ _).symm,id⟩
  ·exact⟨true,_,h4,rfl,id⟩
  ·exact⟨true,_,h5,(bp _ _).symm,id⟩
  ·exact⟨true,_,h6,rfl,id⟩
  ·show(lv 7).like (uB L) _;rw[h7];exact ga L _
  ·exact⟨true,_,h9,(bp _ _).symm,id⟩
def od(p:PD)(av:List Int)(sel:Int×Int->Int):Nat->List Int->List Int
 |0,l=>l
 |j+1,l=>(od p av sel j l).set j (av.getD (sel (p.st j)).toNat 0)
def pW(p:PD)(av:List Int)(sel:Int×Int->Int)(l:List Int):∀j,(od p av sel j l).length=l.length
 |0=>rfl
 |j+1=>by rw[od,List.length_set,pW p av sel l j]
def oF(p:PD)(s:List Int×List Int×List Nd):List Int×List Int×List Nd:=
 (od p (cZ p s.1 (s.2.1,s.2.2) p.head.toNat (p.tail.toNat-p.head.toNat)).1 Prod.snd p.ns (List.replicate s.1.length 0),(cZ p s.1 (s.2.1,s.2.2) p.head.toNat (p.tail.toNat-p.head.toNat)).1,(cZ p s.1 (s.2.1,s.2.2) p.head.toNat (p.tail.toNat-p.head.toNat)).2)
def nY(p:PD)(s:List Int×List Int×List Nd):Nat->List Int×List Int×List Nd
 |0=>s
 |j+1=>oF p (nY p s j)
def LN(p:PD)(now:List Int)(s:List Int×List Nd)(i k:Nat):∃M,(cZ p now s i k).2=s.2++M:=by
 induction k with
 |zero=>exact⟨[],by simp[cZ]⟩
 |succ k ih=>
  obtain⟨M,hM⟩:=ih;rw[fO];unfold iC;split
  ·exact⟨M,hM⟩
  ·exact⟨M++[(p.nd (i+k)).gZ ((cZ p now s i k).1.set (i+k) (cZ p now s i k).2.length)],by simp[hM]⟩
def xp{s:List Int×List Nd}{k:Nat}(h:(cZ p now s i k).2.length=s.2.length):(cZ p now s i k).2=s.2:=by
 obtain⟨M,hM⟩:=LN p now s i k;rw[hM,Zg]at h;rw[hM,Z4 (by omega:M.length=0),ZL]
def Cm(p:PD)(s:List Int×List Int×List Nd)(hb:p.tail.toNat-p.head.toNat<=64):∀j,(nY p s j).1.length=s.1.length/\(nY p s j).2.1.length=s.2.1.length/\s.2.2.length<=(nY p s j).2.2.length/\(nY p s j).2.2.length<=s.2.2.length+j*64
 |0=>⟨rfl,rfl,aY _,by simp[nY]⟩
 |j+1=>by
  obtain⟨h1,h2,h3,h4⟩:=Cm p s hb j;have h5:=jP p (nY p s j).1 ((nY p s j).2.1,(nY p s j).2.2) p.head.toNat (p.tail.toNat-p.head.toNat);simp only[nY,oF,pW,je,aaY];simp only at h5;exact⟨h1,h2,by omega,by omega⟩
def mD(p:PD):List Int×List Nd:=cZ p (List.replicate p.ns 0) (List.replicate p.nn 0,[]) 0 (p.head.toNat-0)
def jE(p:PD)(n:Nat):List Int×List Int×List Nd:=nY p (od p (mD p).1 Prod.fst p.ns (List.replicate p.ns 0),(mD p).1,(mD p).2) n
def hU(p:PD)(n:Nat):List Int×List Nd:=cZ p (jE p n).1 ((jE p n).2.1,(jE p n).2.2) p.tail.toNat (p.nn-p.tail.toNat)
def jy(p:PD)(n:Nat):PD:=⟨p.f,p.mode,p.ins,some ((hU p n).2.map Nd.e),(hU p n).2.length,(hU p n).2.length,none,(hU p n).1.getD p.res.toNat 0⟩
def Iu(hp:p.ok)(lv:Key->LB)(i:Nat)(hi:i<p.ns):aq prog 25 lv (.c (dc p.states)) (.c (.d (.int .i64 (i:Int))))=some (.c (.d (.ptr (US (p.st i)))),[],[],True):=by
 have:=W8 hp lv (i:Int) (by omega) (by omega)
 rwa[Zp]at this
def Rw(L:List Nd):(L.map Nd.e).flatten.map CV.d=gm L:=by unfold gm;rw[List.flatMap_def]
theorem Ed{own fz:Bool}{h t r n:Int}(hl:L.length<=1000000)(h7:lv k=.cells own fz 55 (gm L)):
 fF lv (.tup [.agg [dc p.f,.d (.int .i64 p.mode),dc p.ins,.aD k 0 L.length 7,.d (.int .i64 h),.d (.int .i64 t),.d .nilsl,.d (.int .i64 r)],.c (.d (.int .i64 n))]) =
  some (.tup [(⟨p.f,p.mode,p.ins,some (L.map Nd.e),h,t,none,r⟩:PD).A,.c (.d (.int .i64 n))],[k]):=by
 have e1:=mL (lv:=lv) (k:=k) (own:=own) (fz:=fz) (T:=55) (es:=L.map Nd.e) (sz:=7) (by rw[Rw];exact h7) (λe he=>by obtain⟨n,_,rfl⟩:=List.mem_map.1 he;rfl) (by rw[Zt];omega);rw[Zt]at e1
 have e2:cR lv 8 (.aD k 0 L.length 7)=some (.sl (L.map Nd.e),[k]):=by
  simp only[fF,eP,Zx]at e1;obtain⟨⟨a,b⟩,h1,h2⟩:=e1;rw[h1];simp only[fy,AV.c.injEq,CV.d.injEq]at h2;rw[h2.1,h2.2]
 have f1:∀x:DV,cR lv 8 (.d x)=some (x,[]):=λx=>rfl
 simp only[fF,kA,eP,NK,fN,f1,e2,Zs,ZL,aaS,Zm,ZW,PD.A,PD.cs];rfl
end Go.Am
