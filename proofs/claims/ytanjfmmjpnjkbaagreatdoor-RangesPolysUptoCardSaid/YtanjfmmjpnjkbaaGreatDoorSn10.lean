/- Helpers: an abstract machine for Go functions, and walks of functions of the program. -/
import Derived.Test.YtanjfmmjpnjkbaaGreatDoorSn09
import Derived.ChangeMaps5
import Derived.Deep.DeepHandedRow

set_option linter.all false
set_option maxHeartbeats 8000000
set_option maxRecDepth 100000
namespace Go.Am
variable {B vb n V P A X t:Nat}{l:List Nat}{lv:Key->LB}{k:IntKind}{T:TypeId}
abbrev agY:=@Nat.exists_eq_succ_of_ne_zero
open Go.Am.Ty Go.Proofs N
theorem Sv(h:ok B l)(ht:l=[]\/B^(l.length-1)<=val B l):can B l:=by
 refine⟨h,λx hx=>?_⟩;rcases afW l with rfl|⟨xs,y,rfl⟩
 ·cases hx
 ·rw[afX]at *
  simp only[List.getLast?_append,List.getLast?_singleton,Option.some_or,ah]at hx;subst hx;intro h0;subst h0;rcases ht with e|ht
  ·simp at e
  ·rw[fB]at ht;simp only[ad6,aeU,agj,afb,aeI]at ht;have:=fL (cH.1 h).1;omega
theorem Qj(h:can B l)(h0:l≠[]):B^(l.length-1)<=val B l:=by
 rcases afW l with rfl|⟨xs,y,rfl⟩
 ·grind
 ·rw[afX]at *
  have hy:y≠0:=h.2 y (by simp);rw[fB];simp only[ad6,aeU,agj];have:B^xs.length*1<=B^xs.length*y:=ad9 _ (by omega);omega
def rC:Option (List Nat)->CV
 |none=>.d .nilsl
 |some l=>.d (.sl (dK .i64 l))
theorem iV(o:Option (List Nat)):nK .i64 o=.c (rC o):=by cases o<;>rfl
@[simp]theorem dR(lv:Key->LB)(s:Int)(p q:Option (List Nat)):dI lv (.agg [.d (.int .i64 s),rC p,rC q])=some (.agg [.d (.int .i64 s),rC p,rC q],[]):=by
 cases p<;>cases q<;>rfl
@[simp]theorem aaY(o:Option (List Nat)):(rC o).pure=true:=by cases o<;>rfl
@[simp]theorem Yx(o:Option (List Nat)):(AV.c (rC o)).bX=true:=by cases o<;>rfl
@[simp]theorem Zj(o:Option (List Nat)):(AV.c (rC o)).pure=true:=by cases o<;>rfl
@[simp]theorem ac5(o:Option (List Nat))(g:Key->Key):(rC o).bY g=rC o:=by cases o<;>rfl
abbrev rA(s:Int)(p q:Option (List Nat)):AV:=.agg [.d (.int .i64 s),rC p,rC q]
@[simp]theorem abc(s:Int)(p q:Option (List Nat)):(AV.agg [.d (.int .i64 s),rC p,rC q]).pure=true:=by cases p<;>cases q<;>rfl
theorem R8:eS Tryz.prog 55 [] []=some (.agg [.d (.int .i64 0),.d .nilsl,.d .nilsl],[],[],True):=by kernel_rfl
theorem bR(b p q:CV):eS Tryz.prog 55 [0,1,2] [.c b,.c p,.c q]=some (.agg [b,p,q],[],[],True):=by kernel_rfl
theorem Gv(lv:Key->LB)(κ:Key)(h:lv κ=.hole)(a:CV):ak Tryz.prog 53 1 [0] lv κ [.c a]=some (.c (.aH κ 0 1 1),[(κ,.cells true false 2 [a])],[],True):=by
 unfold ak;rw[h];rfl
theorem zD(x k:Nat):(x:Int).tmod (k:Int)=((x%k:Nat):Int):=by rfl
theorem sQ(x k:Nat):(x:Int).tdiv (k:Int)=((x/k:Nat):Int):=by rfl
theorem Td{κ:Key}{own fz:Bool}(h:lv κ=.cells own fz T (wK k l))(hl:l.length<=9223372036854775807):dI lv (.c (.aH κ 0 l.length 1))=some (nK k (some l),[κ]):=Cv h hl
theorem EM(G:List (List DV)):aa Tryz.prog G 143 [] (nK .i64 (some [1])):=by
 refine aa.ed Tryz.func143 rfl λ_=>aah ?_;refine aaF λK hK=>?_;simp[Gv,-ak];apply hK;refine aaH (κ:=0) (gG.tmp (κ:=0) (X:=.c (.aH 0 0 1 1)) (ks:=[0]) rfl (by simp) ?_);rfl
def NZ(s:Int)(q:Option (List Nat)):Option (List Nat):=if s=0 then some [1]else q
theorem Gf(G:List (List DV))(s:Int)(p q:Option (List Nat)):aa Tryz.prog G 96 [rA s p q] (.c (rC (NZ s q))):=by
 have h1:=EM G;rw[iV]at h1;refine aa.en Tryz.func96 rfl λ_=>aah ?_;refine aaa λK hK=>aah ?_
 by_cases hs:s=0
 ·refine aaX (by simp_all) (acH 1 h1 ?_);exact abe (aN.rt (t:=2) rfl 9 (by simp[NZ,hs]))
 ·refine abd (by simp_all) (aav (hK _ _ (aah ?_)));exact abe (aN.rt (t:=2) rfl 9 (by simp[NZ,hs]))
theorem jI(G:List (List DV))(l:List Nat)(hl:l.length<=1000000000000):aa Tryz.prog G 146 [nK .i64 (some l)] (nK .i64 (some (dg l))):=by
 have dKl:∀(l:List Nat),∀e∈dK .i64 l,e.length=1:=by
  intro l e he;obtain⟨x,_,rfl⟩:=List.mem_map.1 he;rfl
 refine aa.en Tryz.func146 rfl λ_=>aah ?_;refine aaa λK hK=>aaE ?_;refine abr (λl'=>⟨aU [(0,nK .i64 (some l'))],λ_=>.hole⟩) 0 (λl'=>l'.length<=l.length/\N.dg l'=N.dg l) (λl'=>l'.length) l (Le.slots _ (by simp) (by simp)) (by simp) ?_;rintro l' ⟨h0,h1⟩
 have fin:∀(fr:Nat->AV) (κ:Nat),fr 0=nK .i64 (some (N.dg l))->K ⟨fr,λ_=>.hole⟩ κ:=by
  intro fr κ h;apply hK;refine aah ?_;exact aaH (aN.tmp rfl 0 (by simp[h]) rfl rfl (by simp))
 refine aaa λK2 hK2=>aaa λK3 hK3=>?_;refine acB rfl ?_;rcases afW l' with rfl|⟨xs,x,rfl⟩
 ·simp;apply hK3;refine aba (abn ?_)
  simp_all
 ·rw[afX]at *
  have h3:xs.length+1<=1000000000000:=by simp at h0;omega
  have h4:IntKind.i64.wrap ((xs.length:Int))=xs.length:=bB (by omega) (by omega);have h2:(0:Int)<(xs.length:Int)+1:=by omega
  by_cases hx:x=0
  ·subst hx;simp[nK,dK,fX,jA,Hv,Oa,h2,h4]
   repeat refine aj ?_
   apply hK3;refine abl (aav (hK2 _ _ (aaE (aar ?_))));simp[nK,dK,fX,jA,Hv,h4];refine⟨⟨by omega,λe he=>?_⟩,?_⟩
   ·rcases he with⟨y,_,rfl⟩|rfl<;>rfl
   refine⟨xs,Le.slots [(0,nK .i64 (some xs))] (by simp[nK,dK]) (by simp),⟨by grind,by rw[<-h1,iZ]⟩,by omega⟩
  ·have hx':¬((x:Int)=0):=by omega
   simp[nK,dK,fX,jA,Hv,Oa,h2,h4]
   repeat refine aj ?_
   apply hK3;refine abd (by simp_all) (abn ?_);simp;apply fin;simp[nK,dK,<-h1,jV hx]
theorem nM(G:List (List DV)){a b:Option (List Nat)}(ha:can 1000000000 (dO a))(hb:can 1000000000 (dO b)):aa Tryz.prog G 99 [nK .i64 a,nK .i64 b] (.c (.d (.int .i64 (eC (val 1000000000 (dO a)) (val 1000000000 (dO b)))))):=by
 refine aI.lJ 0 (by simp) (λV v h=>iH h) λhra=>?_;refine aI.lJ 1 (by simp) (λV v h=>iH h) λhrb=>?_;refine aa.en Tryz.func99 rfl λ_=>aah ?_;refine aaa λK hK=>aah ?_
 by_cases hl:(dO a).length=(dO b).length
 ·refine abd (by simp_all) (aav (hK _ _ (aaa λK hK=>aaF λK1 hK1=>?_)));simp;have e1:=bB (n:=((dO a).length:Int)-1) (by omega) (by omega);simp only[e1];apply hK1;refine aaE ?_;refine abr (λ(k:Nat)=>⟨aU [(0,nK .i64 a),(1,nK .i64 b),(5,.c (.d (.int .i64 ((k:Int)-1))))],λ_=>.hole⟩) 0 (λk=>k<=(dO a).length/\(dO a).drop k=(dO b).drop k) (λk=>k) (dO a).length (Le.mk' _ rfl bu (by simp)) ⟨bh _,by grind⟩ ?_;rintro k ⟨h1,h2⟩;refine aaa λK3 hK3=>aah ?_
  cases k with
  |zero=>
   refine aba (abn (hK _ _ (aah ?_)));simp only[aeu]at h2;exact abe (aN.rt rfl 0 (by simp[qu (congrArg (val 1000000000) h2)]))
  |succ k=>
   have h3:k<(dO b).length:=by omega
   have h4:k<(dO a).length:=by omega
   have e2:((k+1:Nat):Int)-1=k:=by omega
   simp only[e2];refine abl (aav (hK3 _ _ (aaa λK5 hK5=>aaE (aaa λK6 hK6=>aaa λK7 hK7=>?_))));refine acX mixed (by kernel_rfl) rfl rfl ?_;simp[h3,h4];apply hK7
   by_cases hlt:(dO a)[k]<(dO b)[k]
   ·refine aaX (by simp_all) (aaa λK7 hK7=>adl (hK7 _ _ ?_));have:=pR ha.1 h4 h3 h2 hlt;exact abe (aN.rt rfl 0 (by simp[kH this]))
   ·refine abd (by simp_all) (aav (hK6 _ _ (aaa λK7 hK7=>?_)));refine acX mixed (by kernel_rfl) rfl rfl ?_;simp[h3,h4];apply hK7
    by_cases hgt:(dO b)[k]<(dO a)[k]
    ·refine aaX (by simp_all) (aaa λK7 hK7=>adl (hK7 _ _ ?_));have:=pR hb.1 h3 h4 h2.symm hgt;exact abe (aN.rt rfl 0 (by simp[mh this]))
    ·refine abd (by simp_all) (aav (hK5 _ _ (aar ?_)));simp;have e3:=bB (n:=(k:Int)-1) (by omega) (by omega);simp[e3];have he:(dO a)[k]=(dO b)[k]:=by omega
     refine⟨k,Le.mk' _ (by simp) (by simp) (by simp),⟨by omega,?_⟩,by omega⟩;rw[adT h4,adT h3,he,h2]
 ·refine aaX (by simp<;>omega) (aaa λK2 hK2=>aah ?_)
  by_cases hlt:(dO a).length<(dO b).length
  ·refine aaX (by simp_all) (aah ?_);exact abe (aN.rt rfl 0 (by simp[kH (lH (by omega) ha hb hlt)]))
  ·refine abd (by simp_all) (aav (hK2 _ _ (aah ?_)));exact abe (aN.rt rfl 0 (by simp[mh (lH (by omega) hb ha (by omega))]))
theorem MX(G:List (List DV))(a:Option (List Nat)):aa Tryz.prog G 187 [nK .i64 a] (.c (.d (.bool (decide (val 1000000000 (dO a)%2=1))))):=by
 refine aa.en Tryz.func187 rfl λ_=>aah ?_;refine aaa λK hK=>?_
 cases hd:dO a with
 |nil=>
  have h1:(dO a).length=0:=by rw[hd];rfl
  refine acK h1 (hK _ _ ?_);exact abe (aN.rt rfl 0 (by simp[hd]))
 |cons x l=>
  have h1:0<(dO a).length:=by rw[hd];simp
  have h1':(0:Int)<((dO a).length:Int):=by omega
  have h2:(dO a)[0]=x:=by simp[hd]
  have h4:=gL (P:=Tryz.prog) (T:=53) (lv:=λ_=>.hole) (k:=.i64) (k':=.i64) (o:=a) (i:=0) (by simp) h1;simp only[agD,h2]at h4;have h5:(x:Int).tmod 2=((x%2:Nat):Int):=zD x 2;have h6:val 1000000000 (dO a)%2=x%2:=by rw[hd,bP];omega
  refine adH h1 h1' h4 h5 (hK _ _ ?_);rw[h6];have h7:(x:Int)%2=1↔x%2=1:=by omega
  exact abe (aN.rt rfl 0 (by simp[h7]))
theorem Df(k:IntKind)(l:List Nat)(x:Nat):wK k l++[CV.d (.int k (x:Int))]=wK k (l++[x]):=by simp[wK]
theorem Xj(k:IntKind)(l:List Nat)(g:Key->Key):(wK k l).map (CV.bY g)=wK k l:=by unfold wK;simp
theorem lz(k:IntKind)(T:TypeId)(l:List Nat)(g:Key->Key):(LB.cells true false T (wK k l)).like (.cells true false T (wK k l)) g:=LB.aC.2 ⟨rfl,rfl,(Xj k l g).symm,id⟩
theorem PX(G:List (List DV))(a b:Option (List Nat))(ha:can 1000000000 (dO a))(hb:can 1000000000 (dO b))(hal:(dO a).length<=400000000000)(hbl:(dO b).length<=400000000000):
 aa Tryz.prog G 98 [nK .i64 a,nK .i64 b] (nK .i64 (some (aG 1000000000 (val 1000000000 (dO a)+val 1000000000 (dO b))))):=by
 have hbs:∀(lv:Key->LB) (h:lv 1=.hole) (a:CV),ak Tryz.prog 53 1 [0] lv 1 [.c a]=some (.c (.aH 1 0 1 1),[(1,.cells true false 2 [a])],[],True):=λlv h a=>Gv lv 1 h a
 obtain⟨M,hM⟩:∃M,M=max (dO a).length (dO b).length:=⟨_,rfl⟩
 have hmx:(if ((dO a).length:Int)<((dO b).length:Int)then((dO b).length:Int)else((dO a).length:Int))=(M:Int):=by split<;>omega
 have hmx':(if (dO a).length<(dO b).length then((dO b).length:Int)else((dO a).length:Int))=(M:Int):=by split<;>omega
 have hM6:M<=400000000000:=by omega
 have e0:=bB (n:=(M:Int)+1) (by omega) (by omega);refine aa.ed Tryz.func98 rfl λ_=>aah ?_;refine aaF λK hK=>?_;simp[dF,hmx',e0]
 repeat refine aj ?_
 apply hK;refine aah ?_;refine aaa λK hK=>aah ?_;refine aaE ?_
 refine abr (λ(p:List Nat×Nat)=>⟨aU [(0,nK .i64 a),(1,nK .i64 b),(5,.c (.aH 0 0 p.1.length 1)),(6,.c (.d (.int .i64 p.2))),(7,.c (.d (.int .i64 p.1.length)))],
  az (λ_=>.hole) 0 (.cells true false 2 (wK .i64 p.1))⟩) 1
  (λp=>ok 1000000000 p.1/\p.2<=1/\val 1000000000 p.1+1000000000^p.1.length*p.2=val 1000000000 ((dO a).take p.1.length)+val 1000000000 ((dO b).take p.1.length)/\(p.1.length<=M\/(p.1.length=M+1/\p.2=0/\1000000000^M<=val 1000000000 (dO a)+val 1000000000 (dO b))))
  (λp=>M+2-p.1.length) ([],0) (Le.mk' _ (by simp[wK]) (by simp) (by simp)) (by simp[cJ]) ?_
 rintro⟨pre,c⟩ ⟨h1,h2,h3,h4⟩;simp only at h1 h2 h3 h4;have w7:=bB (n:=(pre.length:Int)+1) (by omega) (by omega);refine aaa λK3 hK3=>aaa λK4 hK4=>?_
 have body:(pre.length<(dO a).length\/pre.length<(dO b).length\/0<c)->∀(fr:Nat->AV) (κ:Nat),fr 0=nK .i64 a->fr 1=nK .i64 b->fr 5=.c (.aH 0 0 pre.length 1)->fr 6=.c (.d (.int .i64 c))->fr 7=.c (.d (.int .i64 pre.length)) ->
  K3 ⟨fr,az (λ_=>.hole) 0 (.cells true false 2 (wK .i64 pre))⟩ κ:=by
  intro hgo fr κ z0 z1 z5 z6 z7;apply hK3;refine aaa λK5 hK5=>aaE (aaa λK6 hK6=>?_)
  have g2:∀(x:Nat) (fr:Nat->AV) (κ:Nat),x<1000000000->val 1000000000 ((dO a).take (pre.length+1))=val 1000000000 ((dO a).take pre.length)+1000000000^pre.length*x->fr 0=nK .i64 a->fr 1=nK .i64 b->fr 5=.c (.aH 0 0 pre.length 1)->fr 6=.c (.d (.int .i64 ((c+x:Nat):Int)))->fr 7=.c (.d (.int .i64 pre.length)) ->
   K6 ⟨fr,az (λ_=>.hole) 0 (.cells true false 2 (wK .i64 pre))⟩ κ:=by
   intro x fr κ hx hxv z0 z1 z5 z6 z7;apply hK6;refine aaa λK8 hK8=>?_
   have g3:∀(y:Nat) (fr:Nat->AV) (κ:Nat),y<1000000000->val 1000000000 ((dO b).take (pre.length+1))=val 1000000000 ((dO b).take pre.length)+1000000000^pre.length*y->fr 0=nK .i64 a->fr 1=nK .i64 b->fr 5=.c (.aH 0 0 pre.length 1)->fr 6=.c (.d (.int .i64 ((c+x+y:Nat):Int)))->fr 7=.c (.d (.int .i64 pre.length)) ->
    K8 ⟨fr,az (λ_=>.hole) 0 (.cells true false 2 (wK .i64 pre))⟩ κ:=by
    intro y fr κ hy hyv z0 z1 z5 z6 z7;apply hK8;refine acO 1 ?_;have e1:(((c+x+y:Nat):Int)).tmod 1000000000=(((c+x+y)%1000000000:Nat):Int):=zD _ _;have e2:(((c+x+y:Nat):Int)).tdiv 1000000000=(((c+x+y)/1000000000:Nat):Int):=sQ _ _;have e3:=bB (n:=(((c+x+y)/1000000000:Nat):Int)) (by omega) (by omega);generalize hm:c+x+y=m at *
    have hlen:pre.length+1<=9223372036854775807/\(pre.length+1)*8<=140737488355328:=by omega
    refine aaF λK9 hK9=>?_;simp[z5,z6,hbs,fc,keyOf,e1,Df,-ak,-Int.natCast_emod,-Int.natCast_ediv,-Int.natCast_add]
    repeat refine aj ?_
    apply hK9;refine aar ?_;simp[z6,e2,e3,-Int.natCast_emod,-Int.natCast_ediv];apply hK5;refine aar ?_;simp[z7,w7]
    have hM2:pre.length<=M:=by
     rcases h4 with h4|⟨h4,h5,_⟩
     ·exact h4
     ·omega
    refine⟨pre++[m%1000000000],m/1000000000,Le.keys [(0,2,.cells true false 2 (wK .i64 (pre++[m%1000000000])))] 19 _ rfl rfl (by simp) (by simp) (by simp) ?_ ?_,⟨cH.2 ⟨h1,bD.2 ⟨by omega,cJ _⟩⟩,by omega,?_,?_⟩,by simp;omega⟩
    ·intro e he;simp only[aY,cy,or_false]at he;subst he;simpa using lz .i64 2 (pre++[m%1000000000]) _
    ·simp[b6,z0,z1]
    ·have:=nV 1000000000 pre m
     grind
    ·simp only[ad6,aeU]
     by_cases hlt:pre.length<M
     ·omega
     ·right;have hx0:pre.length=M:=by omega
      have c1:c=1:=by omega
      have ea:val 1000000000 ((dO a).take pre.length)=val 1000000000 (dO a):=aP (by omega);have eb:val 1000000000 ((dO b).take pre.length)=val 1000000000 (dO b):=aP (by omega);have ea2:val 1000000000 ((dO a).take (pre.length+1))=val 1000000000 (dO a):=aP (by omega);have eb2:val 1000000000 ((dO b).take (pre.length+1))=val 1000000000 (dO b):=aP (by omega);have hp:0<1000000000^pre.length:=aeb (by decide);rw[ea,ea2]at hxv;rw[eb,eb2]at hyv
      have hx00:x=0:=by
       rcases ago x with h|h
       ·exact h
       ·have:=aeh hp h;omega
      grind
   refine ace z1 z7 ?_
   by_cases hlb:pre.length<(dO b).length
   ·have hy:(dO b)[pre.length]<1000000000:=hb.1 _ (aT hlb);have hyv:=bA (B:=1000000000) hlb;have e5:IntKind.i64.wrap (((c+x:Nat):Int)+((dO b)[pre.length]:Nat))=((c+x+(dO b)[pre.length]:Nat):Int):=by rw[bB (by omega) (by omega)];omega
    refine aaX (by simp[hlb]<;>omega) (aar ?_);simp[z1,z6,z7,hlb,e5,-Int.natCast_add];exact g3 _ _ _ hy hyv (by simp[z0]) (by simp[z1]) (by simp[z5]) (by simp) (by simp[z7])
   ·refine abd (by simp[hlb]<;>omega) (aav ?_);simp;exact g3 0 _ _ (by omega) (by rw[aP (by omega),aP (by omega)];rfl) (by simp[z0]) (by simp[z1]) (by simp[z5]) (by simp[z6]) (by simp[z7])
  refine ace z0 z7 ?_
  by_cases hla:pre.length<(dO a).length
  ·have hx:(dO a)[pre.length]<1000000000:=ha.1 _ (aT hla);have hxv:=bA (B:=1000000000) hla;have e5:IntKind.i64.wrap ((c:Int)+((dO a)[pre.length]:Nat))=((c+(dO a)[pre.length]:Nat):Int):=by rw[bB (by omega) (by omega)];omega
   refine aaX (by simp[hla]<;>omega) (aar ?_);simp[z0,z6,z7,hla,e5,-Int.natCast_add];exact g2 _ _ _ hx hxv (by simp[z0]) (by simp[z1]) (by simp[z5]) (by simp) (by simp[z7])
  ·refine abd (by simp[hla]<;>omega) (aav ?_);simp;exact g2 0 _ _ (by omega) (by rw[aP (by omega),aP (by omega)];rfl) (by simp[z0]) (by simp[z1]) (by simp[z5]) (by simp[z6]) (by simp[z7])
 by_cases c1:pre.length<(dO a).length
 ·refine acK c1 (hK4 _ _ ?_);refine aaX (by rfl) (aav ?_)
  simp_all
 by_cases c2:pre.length<(dO b).length
 ·refine acT c1 c2 (hK4 _ _ ?_);refine aaX (by rfl) (aav ?_)
  simp_all
 by_cases c3:0<c
 ·have c3':(0:Int)<(c:Int):=by omega
  refine adH c1 c2 c3 c3' (hK4 _ _ ?_);refine abl (aav ?_)
  simp_all
 obtain rfl:c=0:=by omega
 refine acT c1 c2 (hK4 _ _ ?_);refine aba (abn (hK _ _ (aah ?_)));rw[afb,aeI,aP (by omega),aP (by omega)]at h3
 have hc:can 1000000000 pre:=by
  refine Sv h1 ?_;rcases h4 with h4|⟨h4,_,h5⟩
  ·by_cases hM0:M=0
   ·grind
   ·right;have hpm:pre.length=M:=by omega
    rw[h3,hpm]
    by_cases hq:(dO a).length=M
    ·have:=Qj ha (λe=>hM0 (by grind))
     grind
    ·have hq2:(dO b).length=M:=by omega
     have:=Qj hb (λe=>hM0 (by grind))
     grind
  ·grind
 have hout:=gK (by decide:2<=1000000000) hc h3;refine aaH (κ:=0) (gG.tmp (κ:=0) (X:=.c (.aH 0 0 pre.length 1)) (ks:=[0]) rfl (by simp) ?_);rw[<-hout];exact Td (own:=true) (fz:=false) (T:=2) (l:=pre) (by simp) (by omega)
theorem ot(G:List (List DV))(a b:Option (List Nat))(oka:ok 1000000000 (dO a))(okb:ok 1000000000 (dO b))(hal:(dO a).length<=400000000000)(hbl:(dO b).length<=400000000000)(hv:val 1000000000 (dO b)<=val 1000000000 (dO a)):
 aa Tryz.prog G 100 [nK .i64 a,nK .i64 b] (nK .i64 (some (aG 1000000000 (val 1000000000 (dO a)-val 1000000000 (dO b))))):=by
 have hbs:∀(lv:Key->LB) (h:lv 1=.hole) (a:CV),ak Tryz.prog 53 1 [0] lv 1 [.c a]=some (.c (.aH 1 0 1 1),[(1,.cells true false 2 [a])],[],True):=λlv h a=>Gv lv 1 h a
 refine aa.Uk Tryz.func100 rfl λ_=>aah ?_;refine aaF λK hK=>?_;simp
 repeat refine aj ?_
 apply hK;refine aah ?_;refine aaa λK hK=>aah ?_;refine aaE ?_
 refine abr (λ(p:List Nat×Nat)=>⟨aU [(0,nK .i64 a),(1,nK .i64 b),(5,.c (.aH 0 0 p.1.length 1)),(6,.c (.d (.int .i64 p.2))),(7,.c (.d (.int .i64 p.1.length)))],
  az (λ_=>.hole) 0 (.cells true false 2 (wK .i64 p.1))⟩) 1
  (λp=>ok 1000000000 p.1/\p.1.length<=(dO a).length/\p.2<=1/\val 1000000000 p.1+val 1000000000 ((dO b).take p.1.length)=val 1000000000 ((dO a).take p.1.length)+1000000000^p.1.length*p.2)
  (λp=>(dO a).length-p.1.length) ([],0) (Le.mk' _ (by simp[wK]) (by simp) (by simp)) (by simp[cJ]) ?_
 rintro⟨pre,c⟩ ⟨h2,h1,h3,h4⟩;simp only at h1 h2 h3 h4;have w7:=bB (n:=(pre.length:Int)+1) (by omega) (by omega);refine aaa λK3 hK3=>aah ?_
 by_cases hlt:pre.length<(dO a).length
 ·have hx:(dO a)[pre.length]<1000000000:=oka _ (aT hlt);have hxv:=bA (B:=1000000000) hlt;obtain⟨x,hxe⟩:∃x,(dO a)[pre.length]=x:=⟨_,rfl⟩
  rw[hxe]at hx hxv;have w1:=bB (n:=(x:Int)-c) (by omega) (by omega);refine aaX (by simp_all) (aav (hK3 _ _ (aaa λK5 hK5=>aaE (adG hlt hxe w1 ?_))));refine aaa λK6 hK6=>?_
  have g3:∀(y:Nat) (fr:Nat->AV) (κ:Nat),y<1000000000->val 1000000000 ((dO b).take (pre.length+1))=val 1000000000 ((dO b).take pre.length)+1000000000^pre.length*y->fr 0=nK .i64 a->fr 1=nK .i64 b->fr 5=.c (.aH 0 0 pre.length 1)->fr 8=.c (.d (.int .i64 ((x:Int)-c-y)))->fr 7=.c (.d (.int .i64 pre.length)) ->
   K6 ⟨fr,az (λ_=>.hole) 0 (.cells true false 2 (wK .i64 pre))⟩ κ:=by
   intro y fr κ hy hyv z0 z1 z5 z8 z7;apply hK6;refine acO 1 ?_;refine aah ?_;refine aaa λK7 hK7=>?_
   have g4:∀(v bb:Nat) (fr:Nat->AV) (κ:Nat),v<1000000000->bb<=1->v+c+y=x+1000000000*bb->fr 0=nK .i64 a->fr 1=nK .i64 b->fr 5=.c (.aH 0 0 pre.length 1)->fr 6=.c (.d (.int .i64 (bb:Int)))->fr 8=.c (.d (.int .i64 (v:Int)))->fr 7=.c (.d (.int .i64 pre.length)) ->
    K7 ⟨fr,az (λ_=>.hole) 0 (.cells true false 2 (wK .i64 pre))⟩ κ:=by
    intro v bb fr κ hv0 hb0 hs z0 z1 z5 z6 z8 z7;apply hK7;refine acO 1 ?_;refine aar ?_;simp[z5,z8,hbs,fc,keyOf,Df,-ak]
    repeat refine aj ?_
    apply hK5;refine aar ?_;simp[z7,w7];refine⟨pre++[v],bb,Le.keys [(0,2,.cells true false 2 (wK .i64 (pre++[v])))] 19 _ rfl rfl (by simp) (by simp) (by simp) ?_ ?_,⟨cH.2 ⟨h2,bD.2 ⟨hv0,cJ _⟩⟩,by simp;omega,hb0,?_⟩,by simp;omega⟩
    ·intro e he;simp only[aY,cy,or_false]at he;subst he;simpa using lz .i64 2 (pre++[v]) _
    ·simp[b6,z0,z1,z6]
    ·rw[ad6,aeU,fB,hxv,hyv,adR]
     grind
   refine abf z8 ?_
   by_cases hn:(x:Int)-c-y<0
   ·have w2:IntKind.i64.wrap ((x:Int)-c-y+1000000000)=((x+1000000000-c-y:Nat):Int):=by rw[bB (by omega) (by omega)];omega
    refine aaX (by simp_all) (ace z8 w2 ?_);refine aar ?_;simp;exact g4 (x+1000000000-c-y) 1 _ _ (by omega) (by omega) (by omega) (by simp[z0]) (by simp[z1]) (by simp[z5]) (by simp) (by simp) (by simp[z7])
   ·have w2:(x:Int)-c-y=((x-c-y:Nat):Int):=by omega
    refine abd (by simp_all) (aav ?_);simp;exact g4 (x-c-y) 0 _ _ (by omega) (by omega) (by omega) (by simp[z0]) (by simp[z1]) (by simp[z5]) (by simp) (by simp_all) (by simp[z7])
  refine aah ?_
  by_cases hlb:pre.length<(dO b).length
  ·have hy:(dO b)[pre.length]<1000000000:=okb _ (aT hlb);have hyv:=bA (B:=1000000000) hlb;have w2:=bB (n:=(x:Int)-c-((dO b)[pre.length]:Nat)) (by omega) (by omega);refine aaX (by simp_all) (aar ?_);simp[hlb,w2];exact g3 _ _ _ hy hyv (by simp) (by simp) (by simp) (by simp) (by simp)
  ·refine abd (by simp_all) (aav ?_);simp;exact g3 0 _ _ (by omega) (by rw[aP (by omega),aP (by omega)];rfl) (by simp) (by simp) (by simp) (by simp) (by simp)
 ·refine abd (by simp_all) (abn ?_);simp;have e2:pre.length=(dO a).length:=by omega
  apply hK;refine aaF λK hK=>?_;simp
  have hlb:val 1000000000 ((dO b).take pre.length)=val 1000000000 (dO b):=by
   by_cases hb:(dO b).length<=pre.length
   ·exact aP hb
   ·have g1:=cA (B:=1000000000) (dO b) pre.length (by omega);have g2:=fL oka;rw[<-e2]at g2
    have g3:val 1000000000 ((dO b).drop pre.length)=0:=by
     apply aeL;intro hne;have:1000000000^pre.length*1<=1000000000^pre.length*val 1000000000 ((dO b).drop pre.length):=ad9 _ (by omega);omega
    grind
  have hva:val 1000000000 ((dO a).take pre.length)=val 1000000000 (dO a):=aP (by omega)
  have hc:c=0:=by
   apply aeL;intro hne;have:c=1:=by omega
   subst this;have:=fL h2;rw[hlb,hva]at h4;omega
  subst hc
  have hout:dg pre=aG 1000000000 (val 1000000000 (dO a)-val 1000000000 (dO b)):=by
   refine ei (by decide) h2 ?_;rw[hlb,hva]at h4;omega
  refine gH.qG (k:=.i64) (l:=pre) 0 1 0 (by simp;rfl) (by omega) (jI _ _ (by omega)) (by simp) (by simp) (by simp) ?_;simp;apply hK;exact abe (aN.rt rfl 1 (by simp[hout]))
theorem uz(G:List (List DV))(a b:Option (List Nat))(oka:ok 1000000000 (dO a))(okb:ok 1000000000 (dO b))(ha:(dO a).length<=400000000000)(hb:(dO b).length<=400000000000):
 aa Tryz.prog G 95 [nK .i64 a,nK .i64 b] (nK .i64 (some (aG 1000000000 (val 1000000000 (dO a)*val 1000000000 (dO b))))):=by
 refine aa.en Tryz.func95 rfl λ_=>aah ?_;refine aaa λK hK=>?_;have e0:IntKind.i64.wrap (((dO a).length:Int)+(dO b).length)=(((dO a).length+(dO b).length:Nat):Int):=by rw[bB (by omega) (by omega)];omega
 refine aar ?_;simp[e0,-Int.natCast_add]
 repeat refine aj ?_
 apply hK;refine aaa λK hK=>aah ?_;refine aaE ?_
 refine abr (λ(p:Nat×List Nat)=>⟨aU [(0,nK .i64 a),(1,nK .i64 b),(5,.c (.aH 0 0 ((dO a).length+(dO b).length) 1)),(6,.c (.d (.int .i64 p.1)))],
  az (λ_=>.hole) 0 (.cells true false 2 (wK .i64 (p.2++List.replicate ((dO a).length-p.1) 0)))⟩) 1
  (λp=>p.1<=(dO a).length/\p.2.length=p.1+(dO b).length/\ok 1000000000 p.2/\val 1000000000 p.2=val 1000000000 ((dO a).take p.1)*val 1000000000 (dO b))
  (λp=>(dO a).length-p.1) (0,List.replicate (dO b).length 0) (Le.mk' _ (by simp[gI,afP]) (by simp) (by simp)) ⟨by simp,by simp,tW (by omega) _,by simp[qk]⟩ ?_
 rintro⟨i,lo⟩ ⟨h1,h2,h3,h4⟩;simp only at h1 h2 h3 h4;refine aaa λK3 hK3=>aah ?_
 by_cases hlt:i<(dO a).length
 ·refine aaX (by simp_all) (aav (hK3 _ _ (aaa λK3 hK3=>aaE ?_)));have hx:(dO a)[i]<1000000000:=oka _ (aT hlt);obtain⟨x,hxe⟩:∃x,(dO a)[i]=x:=⟨_,rfl⟩
  rw[hxe]at hx;refine aah ?_;refine aaa λK4 hK4=>aah ?_;refine aaE ?_
  refine abr (λ(p:Nat×List Nat×Nat)=>⟨aU [(0,nK .i64 a),(1,nK .i64 b),(5,.c (.aH 0 0 ((dO a).length+(dO b).length) 1)),(6,.c (.d (.int .i64 i))),(7,.c (.d (.int .i64 p.2.2))),(8,.c (.d (.int .i64 p.1)))],
   az (λ_=>.hole) 0 (.cells true false 2 (wK .i64 (p.2.1++List.replicate ((dO a).length-i) 0)))⟩) 2
   (λp=>p.1<=(dO b).length/\p.2.1.length=i+(dO b).length/\ok 1000000000 p.2.1/\p.2.2<1000000000/\val 1000000000 p.2.1+1000000000^(i+p.1)*p.2.2=val 1000000000 ((dO a).take i)*val 1000000000 (dO b)+1000000000^i*(x*val 1000000000 ((dO b).take p.1)))
   (λp=>(dO b).length-p.1) (0,lo,0) (Le.mk' _ (by simp) (by simp) (by simp)) ⟨by simp,h2,h3,by simp,by simp[h4]⟩ ?_
  rintro⟨j,lo2,c⟩ ⟨g1,g2,g3,g4,g5⟩;simp only at g1 g2 g3 g4 g5;refine aaa λK6 hK6=>aah ?_
  by_cases hlj:j<(dO b).length
  ·refine aaX (by simp_all) (aav (hK6 _ _ (aaa λK8 hK8=>aaE (aaa λK9 hK9=>?_))));have hy:(dO b)[j]<1000000000:=okb _ (aT hlj);have hij:i+j<lo2.length:=by omega
   have hij2:i+j<(lo2++List.replicate ((dO a).length-i) 0).length:=by simp;omega
   have hij3:i+j<lo2.length+((dO a).length-i):=by omega
   have ho:lo2[i+j]<1000000000:=g3 _ (aT hij);have ho2:(lo2++List.replicate ((dO a).length-i) 0)[i+j]=lo2[i+j]:=ae5 hij;have hb2:val 1000000000 ((dO b).take (j+1))=val 1000000000 ((dO b).take j)+1000000000^j*(dO b)[j]:=bA hlj;have hset:=xP (B:=1000000000) hij;generalize hye:(dO b)[j]=y at hy hb2;generalize hoe:lo2[i+j]=o at ho ho2 hset;have hxy:x*y<=999999999*999999999:=aeK (by omega) (by omega);have e1:IntKind.i64.wrap ((i:Int)+j)=((i+j:Nat):Int):=by rw[bB (by omega) (by omega)];omega
   have e4:IntKind.i64.wrap ((x:Int)*y)=((x*y:Nat):Int):=by
    rw[<-afG];generalize x*y=p at hxy;exact bB (by omega) (by omega)
   have e5:IntKind.i64.wrap ((c:Int)+o)=((c+o:Nat):Int):=by rw[bB (by omega) (by omega)];omega
   have e6:IntKind.i64.wrap (((c+o:Nat):Int)+((x*y:Nat):Int))=((c+(x*y+o):Nat):Int):=by
    generalize x*y=p at hxy;rw[bB (by omega) (by omega)];omega
   refine acX mixed (by kernel_rfl) rfl rfl ?_;simp[e1,e4,e5,e6,hij3,ho2,hxe,hye,hlt,hlj,-Int.natCast_add,-Int.natCast_mul]
   repeat refine aj ?_
   apply hK9;have hbd:c+(x*y+o)<1000000000000000000:=by generalize x*y=p at hxy;omega
   generalize hm:c+(x*y+o)=m at hbd;have f1:((m:Nat):Int).tmod 1000000000=((m%1000000000:Nat):Int):=zD _ _
   have f2:ai (wK .i64 (lo2++List.replicate ((dO a).length-i) 0)) (i+j) [CV.d (.int .i64 ((m%1000000000:Nat):Int))]=wK .i64 (lo2.set (i+j) (m%1000000000)++List.replicate ((dO a).length-i) 0):=by
    rw[gw _ hij2,agQ _ _ hij]
   have f3:((m:Nat):Int).tdiv 1000000000=((m/1000000000:Nat):Int):=sQ _ _;have f3':=bB (n:=((m/1000000000:Nat):Int)) (by omega) (by omega);have f4:(i+j:Int)<(dO a).length+(dO b).length:=by omega
   refine aaF λK9 hK9=>?_;simp[e1,f1,f2,-Int.natCast_add,-Int.natCast_emod]
   repeat refine aj ?_
   apply hK9;refine aar ?_;simp[f3,f3',-Int.natCast_ediv];apply hK8;have f5:=bB (n:=(j:Int)+1) (by omega) (by omega);refine aar ?_;simp[f5];refine⟨j+1,lo2.set (i+j) (m%1000000000),m/1000000000,Le.mk' _ (by simp) (by simp) (by simp),⟨by omega,by simp[g2],GS g3 _ (adZ _ (by omega)),?_,?_⟩,by omega⟩
   ·omega
   ·rw[hb2,<-hm,<-afl i j 1];exact EL g5 (by grind)
  ·refine abd (by simp_all) (abn (hK4 _ _ ?_));have ej:j=(dO b).length:=by omega
   subst ej;rw[aP (bh _)]at g5;have e1:IntKind.i64.wrap ((i:Int)+(dO b).length)=((i+(dO b).length:Nat):Int):=by rw[bB (by omega) (by omega)];omega
   have hz:(dO a).length-i=((dO a).length-i-1)+1:=by omega
   have f2:ai (wK .i64 (lo2++List.replicate ((dO a).length-i) 0)) (i+(dO b).length) [CV.d (.int .i64 (c:Int))]=wK .i64 (lo2++[c]++List.replicate ((dO a).length-i-1) 0):=by
    rw[gw _ (by simp;omega),hz,<-g2,kN];simp
   have f6:i+(dO b).length<lo2.length+((dO a).length-i):=by omega
   refine aar ?_;simp[e1,f2,-Int.natCast_add]
   repeat refine aj ?_
   apply hK3;have f5:=bB (n:=(i:Int)+1) (by omega) (by omega);refine aar ?_;simp[f5];have f7:(dO a).length-(i+1)=(dO a).length-i-1:=by omega
   refine⟨i+1,lo2++[c],Le.mk' _ (by simp[f7]) (by simp) (by simp),⟨by omega,by simp;omega,cH.2 ⟨g3,bD.2 ⟨g4,cJ _⟩⟩,?_⟩,by omega⟩;rw[fB,g2,g5,bA hlt,hxe,ad7,ad5]
 ·refine abd (by simp_all) (abn (hK _ _ ?_));have e2:i=(dO a).length:=by omega
  subst e2;refine aaF λK hK=>?_;simp;rw[<-h2]
  have hout:dg lo=aG 1000000000 (val 1000000000 (dO a)*val 1000000000 (dO b)):=by
   refine ei (by decide) h3 ?_;rw[h4,aP (bh _)]
  refine gH.qG (k:=.i64) (l:=lo) 0 1 0 (by simp;rfl) (by omega) (jI _ _ (by omega)) (by simp) (by simp) (by simp) ?_;simp;apply hK;exact abe (aN.rt rfl 1 (by simp[hout]))
theorem Lw(G:List (List DV))(a:Option (List Nat))(oka:ok 1000000000 (dO a))(ha:(dO a).length<=400000000000):
 aa Tryz.prog G 188 [nK .i64 a] (nK .i64 (some (aG 1000000000 (val 1000000000 (dO a)/2)))):=by
 refine aa.en Tryz.func188 rfl λ_=>aah ?_;refine aaF λK hK=>?_;simp
 repeat refine aj ?_
 apply hK;refine aah ?_;have w0:=bB (n:=((dO a).length:Int)-1) (by omega) (by omega);refine aaa λK hK=>abf w0 ?_;refine aaE ?_
 refine abr (λ(p:Nat×List Nat×Nat)=>⟨aU [(0,nK .i64 a),(3,.c (.aH 0 0 (dO a).length 1)),(4,.c (.d (.int .i64 p.2.2))),(5,.c (.d (.int .i64 ((p.1:Int)-1))))],
  az (λ_=>.hole) 0 (.cells true false 2 (wK .i64 (List.replicate p.1 0++p.2.1)))⟩) 1
  (λp=>p.1+p.2.1.length=(dO a).length/\ok 1000000000 p.2.1/\p.2.2<=1/\2*val 1000000000 p.2.1+p.2.2=val 1000000000 ((dO a).drop p.1))
  (λp=>p.1) ((dO a).length,[],0) (Le.mk' _ (by simp[gI]) (by simp) (by simp)) ⟨by simp,cJ _,by simp,by simp⟩ ?_
 rintro⟨k,qs,c⟩ ⟨h1,h2,h3,h4⟩;simp only at h1 h2 h3 h4;refine aaa λK3 hK3=>aah ?_
 cases k with
 |zero=>
  refine aba (abn (hK _ _ (aaa λK hK=>?_)));have hl:qs.length=(dO a).length:=by omega
  refine aar ?_;simp;rw[<-hl]
  have hout:dg qs=aG 1000000000 (val 1000000000 (dO a)/2):=by
   refine ei (by decide) h2 ?_;rw[aeu]at h4;omega
  refine gH.qG (k:=.i64) (l:=qs) 0 1 0 (by simp;rfl) (by omega) (jI _ _ (by omega)) (by simp) (by simp) (by simp) ?_;simp;apply hK;exact abe (aN.rt rfl 1 (by simp[hout]))
 |succ k=>
  have hk:k<(dO a).length:=by omega
  have e2:((k+1:Nat):Int)-1=k:=by omega
  simp only[e2];have hx:(dO a)[k]<1000000000:=oka _ (aT hk);have hxv:=cR (B:=1000000000) hk;obtain⟨x,hxe⟩:∃x,(dO a)[k]=x:=⟨_,rfl⟩
  rw[hxe]at hx hxv;obtain⟨m,hm⟩:∃m,1000000000*c+x=m:=⟨_,rfl⟩
  have w1:IntKind.i64.wrap ((c:Int)*1000000000)=(m:Int)-x:=by rw[bB (by omega) (by omega)];omega
  have w2:IntKind.i64.wrap ((m:Int)-x+x)=(m:Int):=by rw[bB (by omega) (by omega)];omega
  refine abl (aav (hK3 _ _ (aaa λK5 hK5=>aaE (aaF λK6 hK6=>?_))));simp[hk,hxe,w1,w2,-Int.sub_add_cancel,-Int.natCast_add,-Int.natCast_mul];apply hK6;clear w1 w2;have f3:((m:Nat):Int).tdiv 2=((m/2:Nat):Int):=sQ _ 2;have f3':=bB (n:=((m/2:Nat):Int)) (by omega) (by omega);have f4:((m:Nat):Int).tmod 2=((m%2:Nat):Int):=zD _ 2
  have f5:ai (wK .i64 (List.replicate (k+1) 0++qs)) k [CV.d (.int .i64 ((m/2:Nat):Int))]=wK .i64 (List.replicate k 0++((m/2)::qs)):=by
   rw[gw _ (by simp;omega),pU]
  have hk2:(k:Int)<((dO a).length:Int):=by omega
  have hk3:k<k+1+qs.length:=by omega
  refine aaF λK6 hK6=>?_;simp[f3,f3',f5,hk2,-Int.natCast_ediv];apply hK6;refine aar ?_;simp[f4,-Int.natCast_emod];apply hK5;have w3:=bB (n:=(k:Int)-1) (by omega) (by omega);refine aar ?_;simp[w3];refine⟨k,(m/2)::qs,m%2,Le.mk' _ (by simp) (by simp) (by simp),⟨by simp;omega,bD.2 ⟨by omega,h2⟩,by omega,?_⟩,by omega⟩;rw[hxv,bP];omega
theorem Sm(k:IntKind)(l:List Nat):(dK k l).flatten.map CV.d=wK k l:=by
 have:(dK k l).flatten=l.map λ(x:Nat)=>DV.int k (x:Int):=by
  unfold dK;induction l with
  |nil=>rfl
  |cons a l ih=>grind
 rw[this,aed];rfl
theorem Vn(o:Option (List Nat)):fc lv 1 (nK k o)=some ((dO o).length,wK k (dO o)):=by
 cases o with
 |none=>rfl
 |some l=>
  have h1:(dK k l).all (λe=>e.length == 1)=true:=by rw[adV];intro e he;obtain⟨x,_,rfl⟩:=List.mem_map.1 he;rfl
  show fc lv 1 (.c (.d (.sl (dK k l))))=_;simp only[fc,h1,if_true,Sm];simp[dK]
theorem Sk(k:IntKind):nK k none=.c (.d .nilsl):=rfl
theorem TO(k:IntKind)(x:Nat)(l:List Nat):CV.d (.int k (x:Int))::wK k l=wK k (x::l):=rfl
theorem ag.Ql{c:Ctx}{f:FuncId}{K:AV->List (Key×LB)->List Key->Nat->Prop}(κ' kh κb:Key){x0 x:AV}(hk:lv κb=.cells true false T (wK k l))(hl:l.length<=1000)
 (hc:aa c.P c.G f [x0,nK k (some l)] x) (hx0:x0.pure=true) (hx:x.pure=true) (hh:lv kh=.hole) (hK:K x [(κb,.cells true true T (wK k l))] [kh,κb] κ'):ag c f [x0,.c (.aH κb 0 l.length 1)] lv K:=by
 have e:bg lv (fM [(κb,T,wK k l)]) κb=.cells true true T (wK k l):=by simp[fM,bg,az]
 refine ag.abD (us:=[x0,nK k (some l)]) κ' kh [(κb,T,wK k l)] [kh,κb] hc hx (by grind) (by simp) hh rfl (λi p' q'=>?_) (λa ha j hj=>?_) (by simp) hK
 ·have hi:i=0\/i=1:=by simp at p';omega
  rcases hi with rfl|rfl
  ·grind
  ·exact .inr ⟨[κb],Cv e (by omega),by simp⟩
 ·simp only[aY,cy,or_false]at ha;rcases ha with rfl|rfl
  ·rw[kW hx0]at hj;cases hj
  ·left;simp only[wm,jb,e,aY]at hj;rcases hj with rfl|hj
   ·simp
   ·simp only[afn]at hj;obtain⟨y,hy,hj⟩:=hj;simp only[wK,ae7]at hy;obtain⟨z,_,rfl⟩:=hy
    cases hj
theorem so(o o':Option (List Nat)):(AV.tup [nK .i64 o,nK .i64 o']).pure=true:=by
 cases o<;>cases o'<;>rfl
theorem ZM(hB:0<B)(h:ok B l)(h1:1<=n)(h2:n<=l.length)(h3:l.length<=n+1):val B l/B^(n-1)=l.getD (n-1) 0+B*l.getD n 0:=by
 have e1:=cA (B:=B) l (n-1) (by omega);have e2:=cR (B:=B) (l:=l) (i:=n-1) (by omega);rw[show n-1+1=n by omega]at e2
 have e3:val B (l.drop n)=l.getD n 0:=by
  by_cases h4:n<l.length
  ·rw[cR h4,fJ (by omega),afb,aeI,adS,fy h4];rfl
  ·rw[fJ (by omega),adS,agn (by omega)];rfl
 have e4:l.getD (n-1) 0=l[n-1]'(by omega):=by rw[adS,fy (by omega)];rfl
 have e5:=fL (lT h (n-1));rw[aej,aeM (by omega)]at e5;rw[e1,e2,e3,e4];generalize l[n-1]+B*l.getD n 0=q;exact Nat.div_eq_of_lt_le (by grind) (by grind)
theorem Y0(h1:X*P<=V)(h2:vb<(t+1)*P)(hb:0<vb):X/(t+1)<=V/vb:=by
 rw[agb hb]
 calc X/(t+1)*vb<=X/(t+1)*((t+1)*P):=ad9 _ (afr h2)
  _=(X/(t+1)*(t+1))*P:=by grind
  _<=X*P:=adJ _ (afF _ _)
  _<=V:=h1
theorem Ym(h1:V<(X+1)*P)(h2:t*P<=vb)(ht:0<t):V/vb<=(X+1)/t:=by
 have hP:0<P:=by
  rcases ago P with h|h
  ·subst h;omega
  ·exact h
 have hb:0<vb:=aeB (aeh ht hP) h2;rw[agb ht];have h3:V/vb*(t*P)<=V:=Ju (ad9 _ h2) (afF _ _);rw[<-ad5]at h3;have h4:=agS (ae9 h3 h1);omega
theorem Ry{k R x qs:Nat}(hV:x+B*R=V)(h:vb*qs+R=k):vb*(V/vb+B*qs)+V%vb=x+B*k:=by
 have h1:=afy V vb
 grind
def Pw(a b:Option (List Nat)):Option (List Nat):=if dO a=[]then none else some (aG 1000000000 (val 1000000000 (dO a)%val 1000000000 (dO b)))
theorem Yb:aG 1000000000 0=[]:=(cL (by decide)).2 rfl
theorem uj(G:List (List DV))(a b:Option (List Nat))(oka:ok 1000000000 (dO a))(hb:can 1000000000 (dO b))(hb0:dO b≠[])(hal:(dO a).length<=100000000000)(hbl:(dO b).length<=100000000000):
 aa Tryz.prog G 145 [nK .i64 a,nK .i64 b] (.tup [nK .i64 (some (aG 1000000000 (val 1000000000 (dO a)/val 1000000000 (dO b)))),nK .i64 (Pw a b)]):=by
 have hbs:∀(lv:Key->LB) (h:lv 1=.hole) (a:CV),ak Tryz.prog 53 1 [0] lv 1 [.c a]=some (.c (.aH 1 0 1 1),[(1,.cells true false 2 [a])],[],True):=λlv h a=>Gv lv 1 h a
 obtain⟨n,hn⟩:∃n,(dO b).length=n:=⟨_,rfl⟩
 obtain⟨vb,hvb⟩:∃vb,val 1000000000 (dO b)=vb:=⟨_,rfl⟩
 have hn1:1<=n:=by rw[<-hn];exact List.length_pos_iff.2 hb0
 have hvp:0<vb:=by rw[<-hvb];exact iC hb hb0
 have hdb:dO b=aG 1000000000 vb:=gK (by decide) hb hvb;have hvl:vb<1000000000^n:=by rw[<-hvb,<-hn];exact fL hb.1
 obtain⟨t,ht⟩:∃t,(dO b)[n-1]?=some t:=⟨_,fy (by omega)⟩
 have ht1:(dO b)[n-1]'(by omega)=t:=(List.getElem?_eq_some_iff.1 ht).2;have htB:t<1000000000:=by rw[<-ht1];exact hb.1 _ (aT _)
 have ht0:0<t:=by
  have:=hb.2 t (by grind);omega
 have htop:=ZM (B:=1000000000) (by decide) hb.1 hn1 (by omega) (by omega);rw[hvb,adS,ht,adS,agn (by omega)]at htop;simp only[af9,Option.getD_none,afb,aeI]at htop;have hPp:0<1000000000^(n-1):=aeb (by decide);have hb1:t*1000000000^(n-1)<=vb:=by rw[<-htop];exact afF _ _
 have hb2:vb<(t+1)*1000000000^(n-1):=by rw[<-htop];exact Nat.lt_mul_of_div_lt (Nat.lt_succ_self _) hPp
 have cmpG:∀V,aa Tryz.prog G 99 [(nK .i64 (some (aG 1000000000 (V)))),nK .i64 b] (.c (.d (.int .i64 (eC V vb)))):=λV=>by
  have hcmp:=nM G (a:=some (aG 1000000000 V)) (b:=b) (bx (by decide) V) hb;simp only[aR,bn (by decide:2<=1000000000),hvb]at hcmp;omega
 have cmG:∀W V,aa Tryz.prog G 99 [(nK .i64 (some (aG 1000000000 (W)))),(nK .i64 (some (aG 1000000000 (V))))] (.c (.d (.int .i64 (eC W V)))):=λW V=>by
  have hcm:=nM G (a:=some (aG 1000000000 W)) (b:=some (aG 1000000000 V)) (bx (by decide) _) (bx (by decide) _);simp only[aR,bn (by decide:2<=1000000000)]at hcm;exact hcm
 have prG:∀mi,mi<1000000000->aa Tryz.prog G 95 [nK .i64 b,nK .i64 (some [mi])] (nK .i64 (some (aG 1000000000 (vb*mi)))):=λmi hmi=>by
  have hpr:=uz G b (some [mi]) hb.1 (bD.2 ⟨hmi,cJ _⟩) (by omega) (by simp)
  simp_all
 have dfG:∀V W,(aG 1000000000 V).length<=400000000000->W<=V->aa Tryz.prog G 100 [(nK .i64 (some (aG 1000000000 (V)))),(nK .i64 (some (aG 1000000000 (W))))] (nK .i64 (some (aG 1000000000 (V-W)))):=λV W hl hle=>by
  have hdl:(aG 1000000000 W).length<=(aG 1000000000 V).length:=cS (by decide) hle;have hdf:=ot G (some (aG 1000000000 V)) (some (aG 1000000000 W)) (bx (by decide) _).1 (bx (by decide) _).1 (by simp;omega) (by simp;omega) (by simp only[aR,bn (by decide:2<=1000000000)];exact hle);simp only[aR,bn (by decide:2<=1000000000)]at hdf;exact hdf
 refine aa.Uk Tryz.func145 rfl λ_=>aah ?_;refine aaF λK hK=>?_;simp
 repeat refine aj ?_
 apply hK;refine abf hn ?_;refine aah ?_;have w0:=bB (n:=((dO a).length:Int)-1) (by omega) (by omega);refine aaa λK hK=>abf w0 ?_;refine aaE ?_
 refine abr (λ(p:Nat×List Nat×Nat)=>⟨aU [(0,nK .i64 a),(1,nK .i64 b),(6,.c (.aH 0 0 (dO a).length 1)),(7,.c (.d (.int .i64 n))),(8,nK .i64 (if p.1=(dO a).length then none else some (aG 1000000000 p.2.2))),(9,.c (.d (.int .i64 ((p.1:Int)-1))))],
  az (λ_=>.hole) 0 (.cells true false 2 (wK .i64 (List.replicate p.1 0++p.2.1)))⟩) 1
  (λp=>p.1+p.2.1.length=(dO a).length/\ok 1000000000 p.2.1/\p.2.2<vb/\(p.1=(dO a).length->p.2.2=0)/\vb*val 1000000000 p.2.1+p.2.2=val 1000000000 ((dO a).drop p.1))
  (λp=>p.1) ((dO a).length,[],0) (Le.mk' _ (by simp[gI]) (by simp) (by simp[Sk])) ⟨by simp,cJ _,hvp,λ_=>rfl,by simp⟩ ?_
 rintro⟨k,qs,R⟩ ⟨h1,h2,h3,h5,h4⟩;simp only at h1 h2 h3 h4 h5;obtain⟨ro,hro⟩:∃ro,(if k=(dO a).length then none else some (aG 1000000000 R))=ro:=⟨_,rfl⟩
 have hdr:dO ro=aG 1000000000 R:=by
  rw[<-hro];split
  ·rename_i h;rw[h5 h,Yb];rfl
  ·rfl
 simp only[hro];refine aaa λK3 hK3=>aah ?_
 cases k with
 |zero=>
  refine aba (abn (hK _ _ (aaa λK hK=>?_)));have hl:qs.length=(dO a).length:=by omega
  rw[aeu]at h4
  have hq:val 1000000000 qs=val 1000000000 (dO a)/vb:=by
   rw[<-h4,age hvp,aeY h3,aeI]
  have hr:R=val 1000000000 (dO a)%vb:=by
   rw[<-h4,Nat.mul_add_mod,aem h3]
  have hout:dg qs=aG 1000000000 (val 1000000000 (dO a)/vb):=ei (by decide) h2 hq
  have hrem:Pw a b=ro:=by
   unfold Pw;rw[<-hro,hvb,<-hr]
   by_cases h:dO a=[]
   ·grind
   ·rw[if_neg h,if_neg (λe=>h (afM e.symm))]
  refine aar ?_;simp;rw[<-hl];refine gH.qG (T:=2) (k:=.i64) (l:=qs) 1 9 0 (by simp) (by omega) (jI _ _ (by omega)) (by simp) (by simp) (by simp) ?_;simp;apply hK;exact aaH (κ:=0) (aN.YL (κ:=0) (t:=4) (u:=5) rfl 9 (by simp_all) (by simp[hrem]) (by simp) (by simp) (by simp) (by simp) (by simp) (by decide))
 |succ k=>
  have hk:k<(dO a).length:=by omega
  have e2:((k+1:Nat):Int)-1=k:=by omega
  simp only[e2];have hx:(dO a)[k]<1000000000:=oka _ (aT hk);have hxv:=cR (B:=1000000000) hk;obtain⟨x,hxe⟩:∃x,(dO a)[k]=x:=⟨_,rfl⟩
  rw[hxe]at hx hxv;obtain⟨V,hV⟩:∃V,x+1000000000*R=V:=⟨_,rfl⟩
  have hRV:V<1000000000*vb:=by
   have:1000000000*(R+1)<=1000000000*vb:=ad9 _ h3;omega
  have hRl:(aG 1000000000 R).length<=n:=by rw[<-hn,hdb];exact cS (by decide) (afr h3)
  have htr:dg (x::aG 1000000000 R)=aG 1000000000 V:=ei (by decide) (bD.2 ⟨hx,(bx (by decide) R).1⟩) (by rw[bP,bn (by decide),hV]);have hsr:∀lv:Key->LB,fc lv 1 (nK .i64 ro)=some ((aG 1000000000 R).length,wK .i64 (aG 1000000000 R)):=λlv=>by rw[Vn,hdr]
  have hcmp:=cmpG V;have w9:=bB (n:=(k:Int)-1) (by omega) (by omega);have hkn:¬k=(dO a).length:=by omega
  have hnext:vb*val 1000000000 ((V/vb)::qs)+V%vb=val 1000000000 ((dO a).drop k):=by rw[hxv,bP];exact Ry hV h4
  have hqB:V/vb<1000000000:=by rw[afD hvp];exact hRV
  refine abl (aav (hK3 _ _ (aaa λK5 hK5=>aaE (aaF λK6 hK6=>?_))));simp[hk,hxe,hbs,hsr,keyOf,TO,-ak]
  repeat refine aj ?_
  have hc1:(x::aG 1000000000 R).length=1+(aG 1000000000 R).length:=by simp;omega
  rw[<-hc1];refine gH.qG (k:=.i64) (T:=2) (l:=x::aG 1000000000 R) 3 9 2 (by simp) (by simp;omega) (jI _ _ (by simp;omega)) (by simp) (by simp) (by simp) ?_;simp[htr];apply hK6;refine aaa λK6 hK6=>aaa λK7 hK7=>?_
  by_cases hlt:V<vb
  ·have hc:=kH hlt;have hq0:V/vb=0:=aeY hlt;rw[hq0,aem hlt]at hnext;refine adq 3 hcmp hc (hK7 _ _ ?_);refine abl (abn (hK5 _ _ (aar ?_)));simp[w9];refine⟨k,0::qs,V,Le.keys [(0,0,.cells true false 2 (wK .i64 (List.replicate k 0++0::qs)))] 19 _ rfl rfl (by simp) (by simp) (by simp) ?_ ?_,⟨by simp;omega,bD.2 ⟨by omega,h2⟩,hlt,λh=>absurd h hkn,hnext⟩,by omega⟩
   ·intro e he;simp only[aY,cy,or_false]at he;subst he;have e:List.replicate k 0++0::qs=List.replicate (k+1) 0++qs:=by rw[agR,adX];rfl
    rw[e];simpa using lz .i64 2 (List.replicate (k+1) 0++qs) _
   ·simp[b6,hkn]
  ·have hge:vb<=V:=by omega
   have hlen1:n<=(aG 1000000000 V).length:=by rw[<-hn,hdb];exact cS (by decide) hge
   have hlen2:(aG 1000000000 V).length<=n+1:=by
    refine bS (by decide) ?_;rw[adR,aea];exact aeB hRV (ad9 _ (afr hvl))
   have hX:=ZM (B:=1000000000) (by decide) (bx (by decide) V).1 hn1 hlen1 hlen2;rw[bn (by decide)]at hX;obtain⟨X,hXe⟩:∃X,V/1000000000^(n-1)=X:=⟨_,rfl⟩
   rw[hXe]at hX;have hX1:X*1000000000^(n-1)<=V:=by rw[<-hXe];exact afF _ _
   have hX2:V<(X+1)*1000000000^(n-1):=by rw[<-hXe];exact Nat.lt_mul_of_div_lt (Nat.lt_succ_self _) hPp
   have hlo:=Y0 hX1 hb2 hvp;have hhi:=Ym hX2 hb1 ht0;obtain⟨Q,hQ⟩:∃Q,V/vb=Q:=⟨_,rfl⟩
   rw[hQ]at hlo hhi hnext hqB
   have hcne:¬eC V vb<0:=by
    by_cases e:V=vb
    ·rw[qu e];omega
    ·rw[mh (by omega)];omega
   have hokV:=(bx (B:=1000000000) (by decide) V).1;obtain⟨r1,hr1⟩:∃r1,(aG 1000000000 V)[n-1]'(by omega)=r1:=⟨_,rfl⟩
   have hr1B:r1<1000000000:=by rw[<-hr1];exact hokV _ (aT _)
   have hr1g:(aG 1000000000 V).getD (n-1) 0=r1:=by rw[adS,fy (by omega),hr1];rfl
   rw[hr1g]at hX;have wn:IntKind.i64.wrap ((n:Int)-1)=((n-1:Nat):Int):=by rw[bB (by omega) (by omega)];omega
   have hix1:∀lv,aq Tryz.prog 53 lv (nK .i64 (some (aG 1000000000 V))) (.c (.d (.int .i64 ((n-1:Nat):Int))))=some (.c (.d (.ptr [DV.int .i64 (r1:Int)])),[],[],True):=λlv=>by
    have:=gL (P:=Tryz.prog) (T:=53) (lv:=lv) (k:=.i64) (k':=.i64) (o:=some (aG 1000000000 V)) (i:=n-1) (by simp) (by simp;omega);rw[this];simp only[aR,hr1]
   have hixb:∀lv,aq Tryz.prog 53 lv (nK .i64 b) (.c (.d (.int .i64 ((n-1:Nat):Int))))=some (.c (.d (.ptr [DV.int .i64 (t:Int)])),[],[],True):=λlv=>by
    have:=gL (P:=Tryz.prog) (T:=53) (lv:=lv) (k:=.i64) (k':=.i64) (o:=b) (i:=n-1) (by simp) (by omega)
    grind
   refine adq 3 hcmp hcne (hK7 _ _ ?_);refine abd (by rfl) (aav (hK6 _ _ (aaF λK6 hK6=>?_)));simp[wn,hix1,-gL];apply hK6;refine aaa λK6 hK6=>?_
   have g1:∀(fr:Nat->AV) (κ:Nat),fr 0=nK .i64 a->fr 1=nK .i64 b->fr 6=.c (.aH 0 0 (dO a).length 1)->fr 7=.c (.d (.int .i64 n))->fr 8=nK .i64 (some (aG 1000000000 V))->fr 9=.c (.d (.int .i64 (k:Int)))->fr 10=.c (.d (.int .i64 (X:Int)))->∀lv:Key->LB,lv 0=.cells true false 2 (wK .i64 (List.replicate (k+1) 0++qs))->lv 19=.hole ->
    K6 ⟨fr,lv⟩ κ:=by
    intro fr κ z0 z1 z6 z7 z8 z9 z10 lv l0 l19
    have hX3:X<=1000000000000000000:=by
     have:V/1000000000^(n-1)<1000000000*1000000000:=by
      rw[afD hPp]
      have e:1000000000*1000000000*1000000000^(n-1)=1000000000*1000000000^n:=by
       obtain⟨n',rfl⟩:∃n',n=n'+1:=⟨n-1,by omega⟩
       rw[agj,adR,aea (1000000000^n') 1000000000,ad5]
      rw[e];exact aeB hRV (ad9 _ (afr hvl))
     omega
    apply hK6;refine aaa λK7 hK7=>?_;have f1:=bB (n:=(t:Int)+1) (by omega) (by omega);have f2:=bB (n:=(X:Int)+1) (by omega) (by omega)
    have f3:(X:Int).tdiv ((t:Int)+1)=((X/(t+1):Nat):Int):=by
     have:=sQ X (t+1);rwa[Int.natCast_add,Int.natCast_one]at this
    have f4:((X:Int)+1).tdiv (t:Int)=(((X+1)/t:Nat):Int):=by
     have:=sQ (X+1) t;rwa[Int.natCast_add,Int.natCast_one]at this
    have hle1:X/(t+1)<=X:=afq _ _;have hle2:(X+1)/t<=X+1:=afq _ _;obtain⟨D1,hD1⟩:∃D,X/(t+1)=D:=⟨_,rfl⟩
    obtain⟨D2,hD2⟩:∃D,(X+1)/t=D:=⟨_,rfl⟩
    rw[hD1]at hlo f3 hle1;rw[hD2]at hhi f4 hle2;have f5:=bB (n:=(D1:Int)) (by omega) (by omega);have f6:=bB (n:=(D2:Int)) (by omega) (by omega);have t1:¬(t:Int)+1=0:=by omega
    have t2:¬(t:Int)=0:=by omega
    have t3:¬t=0:=by omega
    have hmin:(if (999999999:Int)<(D2:Int)then(999999999:Int)else(D2:Int))=((min D2 999999999:Nat):Int):=by split<;>omega
    have hmin':(if 999999999<D2 then(999999999:Int)else(D2:Int))=((min D2 999999999:Nat):Int):=by split<;>omega
    have hhi2:Q<=min D2 999999999:=by omega
    have hhB:min D2 999999999<=999999999:=by omega
    obtain⟨H,hH⟩:∃H,min D2 999999999=H:=⟨_,rfl⟩
    rw[hH]at hmin hmin' hhi2 hhB;refine acX mixed (by kernel_rfl) rfl rfl ?_;simp[dF,z1,z7,z10,wn,hixb,f1,f2,f3,f4,f5,f6,t1,t3,hmin,-gL];apply hK7;refine aaa λK7 hK7=>aaE ?_
    refine abr (λ(p:Nat×Nat)=>⟨aU [(0,nK .i64 a),(1,nK .i64 b),(6,.c (.aH 0 0 (dO a).length 1)),(7,.c (.d (.int .i64 n))),(8,nK .i64 (some (aG 1000000000 V))),(9,.c (.d (.int .i64 (k:Int)))),(11,.c (.d (.int .i64 (p.1:Int)))),(12,.c (.d (.int .i64 (p.2:Int))))],
     az (λ_=>.hole) 0 (.cells true false 2 (wK .i64 (List.replicate (k+1) 0++qs)))⟩) 1
     (λp=>p.1<=Q/\Q<=p.2/\p.2<=999999999) (λp=>p.2-p.1) (D1,H) (Le.keys [(0,0,.cells true false 2 (wK .i64 (List.replicate (k+1) 0++qs)))] 19 _ rfl rfl (by simp) (by simp) (by simp[l19]) ?_ ?_) ⟨hlo,hhi2,hhB⟩ ?_
    ·intro e he;simp only[aY,cy,or_false]at he;subst he;simpa[l0]using lz .i64 2 (List.replicate (k+1) 0++qs) _
    ·simp[b6,z0,z1,z6,z7,z8,z9]
    rintro⟨lo,hi⟩ ⟨q1,q2,q3⟩;simp only at q1 q2 q3;refine aaa λK8 hK8=>aah ?_
    by_cases hlh:lo<hi
    ·have u1:IntKind.i64.wrap ((lo:Int)+hi)=((lo+hi:Nat):Int):=by rw[bB (by omega) (by omega)];omega
     have u2:IntKind.i64.wrap (((lo+hi:Nat):Int)+1)=((lo+hi+1:Nat):Int):=by rw[bB (by omega) (by omega)];omega
     have u3:(((lo+hi+1:Nat):Int)).tdiv 2=(((lo+hi+1)/2:Nat):Int):=sQ _ 2;obtain⟨mi,hmi⟩:∃mi,(lo+hi+1)/2=mi:=⟨_,rfl⟩
     rw[hmi]at u3;have u4:=bB (n:=(mi:Int)) (by omega) (by omega);have u5:=bB (n:=(mi:Int)-1) (by omega) (by omega);have hpr:=prG mi (by omega);have hcm:=cmG (vb*mi) V;refine aaX (by simp[hlh]<;>omega) (aav (hK8 _ _ (aaE (aaF λK9 hK9=>?_))));simp[u1,u2,u3,u4,-Int.natCast_add];apply hK9;refine aaa λK9 hK9=>?_
     by_cases hle:vb*mi<=V
     ·have hc:eC (vb*mi) V<=0:=by
       by_cases e:vb*mi=V
       ·rw[qu e];omega
       ·rw[kH (by omega)];omega
      have hmQ:mi<=Q:=by rw[<-hQ,agb hvp,aea];exact hle
      refine aar ?_;simp[hbs,-ak];refine ag.Ql (T:=2) (l:=[mi]) 2 9 1 (by simp[wK]) (by simp) hpr (by simp) (by simp) (by simp) ?_;simp;refine ag.p 2 9 hcm ?_;simp[hc];apply hK9;refine abl (aar ?_);simp;refine⟨mi,hi,Le.keys [(0,0,.cells true false 2 (wK .i64 (List.replicate (k+1) 0++qs)))] 19 _ rfl rfl (by simp) (by simp) (by simp) ?_ (by simp[b6]),⟨hmQ,q2,q3⟩,by omega⟩;intro e he;simp only[aY,cy,or_false]at he;subst he;simpa using lz .i64 2 (List.replicate (k+1) 0++qs) _
     ·have hc:¬eC (vb*mi) V<=0:=by rw[mh (by omega)];omega
      have hmQ:Q<=mi-1:=by
       have:¬mi<=Q:=by rw[<-hQ,agb hvp,aea];exact hle
       omega
      have u6:(mi:Int)-1=((mi-1:Nat):Int):=by omega
      refine aar ?_;simp[hbs,-ak];refine ag.Ql (T:=2) (l:=[mi]) 2 9 1 (by simp[wK]) (by simp) hpr (by simp) (by simp) (by simp) ?_;simp;refine ag.p 2 9 hcm ?_;simp[hc];apply hK9;refine aba (aar ?_);simp[u5];refine⟨lo,mi-1,Le.keys [(0,0,.cells true false 2 (wK .i64 (List.replicate (k+1) 0++qs)))] 19 _ rfl rfl (by simp) (by simp) (by simp) ?_ (by simp[b6,u6]),⟨q1,hmQ,by omega⟩,by omega⟩;intro e he;simp only[aY,cy,or_false]at he;subst he;simpa using lz .i64 2 (List.replicate (k+1) 0++qs) _
    ·refine abd (by simp[hlh]<;>omega) (abn (hK7 _ _ ?_));obtain rfl:lo=Q:=by omega
     have f5:ai (wK .i64 (List.replicate (k+1) 0++qs)) k [CV.d (.int .i64 (lo:Int))]=wK .i64 (List.replicate k 0++(lo::qs)):=by
      rw[gw _ (by simp;omega),pU]
     have hk2:(k:Int)<((dO a).length:Int):=by omega
     have hk3:k<k+1+qs.length:=by omega
     refine aaF λK8 hK8=>?_;simp[f5,hk2];apply hK8;refine acO 1 ?_;have hpr:=prG lo (by omega);have hle:vb*lo<=V:=by rw[<-hQ];exact Nat.mul_div_le _ _
     have hdf:=dfG V (vb*lo) (by omega) hle
     have hmod:V-vb*lo=V%vb:=by
      have:=afy V vb;rw[hQ]at this;omega
     rw[hmod]at hdf;refine aar ?_;simp[hbs,-ak];refine ag.Ql (T:=2) (l:=[lo]) 2 9 1 (by simp[wK]) (by simp) hpr (by simp) (by simp) (by simp) ?_;simp;refine ag.p 2 9 hdf ?_;simp;apply hK5;refine aar ?_;simp[w9];refine⟨k,lo::qs,V%vb,Le.keys [(0,0,.cells true false 2 (wK .i64 (List.replicate k 0++lo::qs)))] 19 _ rfl rfl (by simp) (by simp) (by simp) ?_ ?_,⟨by simp;omega,bD.2 ⟨by omega,h2⟩,adZ _ hvp,λh=>absurd h hkn,hnext⟩,by omega⟩
     ·intro e he;simp only[aY,cy,or_false]at he;subst he;simpa using lz .i64 2 (List.replicate k 0++lo::qs) _
     ·simp[b6,hkn]
   refine aah ?_
   by_cases hln:n<(aG 1000000000 V).length
   ·obtain⟨r2,hr2⟩:∃r2,(aG 1000000000 V)[n]=r2:=⟨_,rfl⟩
    have hr2B:r2<1000000000:=by rw[<-hr2];exact hokV _ (aT _)
    have hr2g:(aG 1000000000 V).getD n 0=r2:=by rw[adS,fy hln,hr2];rfl
    rw[hr2g]at hX
    have hix2:∀lv,aq Tryz.prog 53 lv (nK .i64 (some (aG 1000000000 V))) (.c (.d (.int .i64 ((n:Nat):Int))))=some (.c (.d (.ptr [DV.int .i64 (r2:Int)])),[],[],True):=λlv=>by
     have:=gL (P:=Tryz.prog) (T:=53) (lv:=lv) (k:=.i64) (k':=.i64) (o:=some (aG 1000000000 V)) (i:=n) (by simp) (by simpa using hln);rw[this];simp only[aR,hr2]
    have v1:IntKind.i64.wrap (1000000000*(r2:Int))=((1000000000*r2:Nat):Int):=by rw[bB (by omega) (by omega)];omega
    have v2:IntKind.i64.wrap ((r1:Int)+((1000000000*r2:Nat):Int))=(X:Int):=by rw[bB (by omega) (by omega)];omega
    refine aaX (by simp[hln]<;>omega) (aar ?_);simp[hix2,v1,v2,-gL,-Int.natCast_mul];exact g1 _ _ (by simp) (by simp) (by simp) (by simp) (by simp) (by simp) (by simp) _ (by simp) (by simp)
   ·have hX0:X=r1:=by
     rw[adS,agn (by omega)]at hX;simpa using hX
    refine abd (by simp[hln]<;>omega) (aav ?_);simp;exact g1 _ _ (by simp) (by simp) (by simp) (by simp) (by simp) (by simp) (by simp[hX0]) _ (by simp) (by simp)
theorem E7(ha:A%2=0)(hb:B%2=1):Nat.gcd (A/2) B=Nat.gcd A B:=by
 have h:Nat.Coprime 2 B:=by
  have:Nat.gcd 2 B=Nat.gcd (B%2) 2:=Nat.gcd_rec 2 B;unfold Nat.Coprime;rw[this,hb];rfl
 have e:A=2*(A/2):=by omega
 conv=>rhs;rw[e]
 exact(Nat.Coprime.gcd_mul_left_cancel _ h).symm
theorem Hq(ha:A%2=0)(hb:B%2=0):2*Nat.gcd (A/2) (B/2)=Nat.gcd A B:=by
 rw[<-Nat.gcd_mul_left]
 grind
theorem Nb(h:B<=A):Nat.gcd (A-B) B=Nat.gcd A B:=by
 simp_all
theorem QD{tw:Nat}(h:2^tw<=vb)(hl:(aG 1000000000 vb).length<=n):tw<30*n:=by
 have h1:=nU (B:=1000000000) (by decide) (n:=vb);have h2:1000000000^(aG 1000000000 vb).length<=1000000000^n:=ael (by decide) hl;have h3:1000000000^n<=(2^30)^n:=af2 (by decide) n;rw[<-afp]at h3;exact(agz (by decide:1<2)).1 (ae9 h (aeB h1 (Ju h2 h3)))
theorem Us:(aG 1000000000 n).length=0↔n=0:=by
 rw[List.length_eq_zero_iff];exact cL (by decide)
theorem Lv(G:List (List DV))(A:Nat):aa Tryz.prog G 187 [(nK .i64 (some (aG 1000000000 (A))))] (.c (.d (.bool (decide (A%2=1))))):=by
 have h:=MX G (some (aG 1000000000 A))
 rwa[aR,bn (by decide)]at h
theorem Hp(G:List (List DV))(A:Nat)(h:(aG 1000000000 A).length<=100000000000):aa Tryz.prog G 188 [(nK .i64 (some (aG 1000000000 (A))))] (nK .i64 (some (aG 1000000000 (A/2)))):=by
 have h:=Lw G (some (aG 1000000000 A)) (bx (by decide) A).1 (by rw[aR];omega)
 rwa[aR,bn (by decide)]at h
theorem Bh(G:List (List DV))(A B:Nat)(h:(aG 1000000000 A).length<=400000000000)(h':(aG 1000000000 B).length<=400000000000):aa Tryz.prog G 98 [(nK .i64 (some (aG 1000000000 (A)))),(nK .i64 (some (aG 1000000000 (B))))] (nK .i64 (some (aG 1000000000 (A+B)))):=by
 have h:=PX G (some (aG 1000000000 A)) (some (aG 1000000000 B)) (bx (by decide) A) (bx (by decide) B) h h'
 rwa[aR,aR,bn (by decide),bn (by decide)]at h
theorem zi(G:List (List DV))(A B:Nat)(h:(aG 1000000000 A).length<=400000000000)(hle:B<=A):aa Tryz.prog G 100 [(nK .i64 (some (aG 1000000000 (A)))),(nK .i64 (some (aG 1000000000 (B))))] (nK .i64 (some (aG 1000000000 (A-B)))):=by
 have hl:=cS (B:=1000000000) (by decide) hle;have h:=ot G (some (aG 1000000000 A)) (some (aG 1000000000 B)) (bx (by decide) A).1 (bx (by decide) B).1 h (by rw[aR];omega) (by rw[aR,aR,bn (by decide),bn (by decide)];exact hle)
 rwa[aR,aR,bn (by decide),bn (by decide)]at h
theorem vj(G:List (List DV))(A B:Nat):aa Tryz.prog G 99 [(nK .i64 (some (aG 1000000000 (A)))),(nK .i64 (some (aG 1000000000 (B))))] (.c (.d (.int .i64 (eC A B)))):=by
 have h:=nM G (a:=some (aG 1000000000 A)) (b:=some (aG 1000000000 B)) (bx (by decide) A) (bx (by decide) B)
 rwa[aR,aR,bn (by decide),bn (by decide)]at h
theorem Cs(G:List (List DV))(va vb:Nat)(ha0:0<va)(hb0:0<vb)(hal:(aG 1000000000 va).length<=100000000000)(hbl:(aG 1000000000 vb).length<=100000000000):
 aa Tryz.prog G 144 [(nK .i64 (some (aG 1000000000 (va)))),(nK .i64 (some (aG 1000000000 (vb))))] (nK .i64 (some (aG 1000000000 (Nat.gcd va vb)))):=by
 have hdv:=uj G (some (aG 1000000000 va)) (some (aG 1000000000 vb)) (bx (by decide) va).1 (bx (by decide) vb) (by rw[aR];intro h;have:=(cL (by decide)).1 h;omega) hal hbl
 have hrm:Pw (some (aG 1000000000 va)) (some (aG 1000000000 vb))=some (aG 1000000000 (va%vb)):=by
  unfold Pw;rw[aR,aR,if_neg (by intro h;have:=(cL (by decide)).1 h;omega),bn (by decide),bn (by decide)]
 rw[hrm]at hdv;have dle:∀n,n<=vb->(aG 1000000000 n).length<=100000000000:=λn h=>Ju (cS (by decide) h) hbl
 have tw_le:∀tw,2^tw<=vb->tw<3000000000000:=λtw h=>aeB (QD h hbl) (by decide)
 have hg0:Nat.gcd va vb=Nat.gcd (va%vb) vb:=by rw[af1,Nat.gcd_rec]
 have oddG:∀A,aa Tryz.prog G 187 [(nK .i64 (some (aG 1000000000 (A))))] (.c (.d (.bool (decide (A%2=1))))):=λA=>Lv G A
 have halfG:∀A,A<=vb->aa Tryz.prog G 188 [(nK .i64 (some (aG 1000000000 (A))))] (nK .i64 (some (aG 1000000000 (A/2)))):=λA h=>Hp G A (dle A h)
 have sumG:∀A,A<=vb->aa Tryz.prog G 98 [(nK .i64 (some (aG 1000000000 (A)))),(nK .i64 (some (aG 1000000000 (A))))] (nK .i64 (some (aG 1000000000 (A+A)))):=λA h=>Bh G A A (by grind) (by grind)
 have diffG:∀A B,A<=vb->B<=A->aa Tryz.prog G 100 [(nK .i64 (some (aG 1000000000 (A)))),(nK .i64 (some (aG 1000000000 (B))))] (nK .i64 (some (aG 1000000000 (A-B)))):=λA B h h'=>zi G A B (by grind) h'
 have cmpG:∀A B,aa Tryz.prog G 99 [(nK .i64 (some (aG 1000000000 (A)))),(nK .i64 (some (aG 1000000000 (B))))] (.c (.d (.int .i64 (eC A B)))):=λA B=>vj G A B
 refine aa.en Tryz.func144 rfl λ_=>aah ?_;refine aaF λK hK=>?_;simp;refine ag.pure 0 9 hdv (so _ _) (by simp) rfl ?_;simp;apply hK;refine aaa λK hK=>aah ?_
 by_cases hm:va%vb=0
 ·have h1:aG 1000000000 (va%vb)=[]:=(cL (by decide)).2 hm;have hgv:Nat.gcd va vb=vb:=by rw[hg0,hm,agX]
  rw[hgv];refine aaX (by simp_all) (aah ?_);exact abe (aN.rt (t:=4) rfl 9 (by simp))
 have h1:¬aG 1000000000 (va%vb)=[]:=λh=>hm ((cL (by decide)).1 h)
 have hmlt:va%vb<vb:=adZ _ hb0;refine abd (by simp_all) (aav (hK _ _ (aah ?_)));refine aaa λK hK=>aaE ?_
 refine abr (λ(p:Nat×Nat×Nat)=>⟨aU [(0,(nK .i64 (some (aG 1000000000 (p.1))))),(1,(nK .i64 (some (aG 1000000000 (p.2.1))))),(5,.c (.d (.int .i64 (p.2.2:Int))))],λ_=>.hole⟩) 0
  (λp=>0<p.1/\0<p.2.1/\p.1<=vb/\p.2.1<=vb/\2^p.2.2*Nat.gcd p.1 p.2.1=Nat.gcd va vb/\2^p.2.2*p.2.1<=vb) (λp=>p.1) (va%vb,vb,0) (Le.mk' _ rfl bu (by simp)) ⟨by omega,hb0,by omega,bh _,by simp[hg0],by simp⟩ ?_
 rintro⟨A,B,tw⟩ ⟨hA,hB,hA2,hB2,hg,ht⟩;simp only at hA hB hA2 hB2 hg ht;have htw:tw<3000000000000:=tw_le tw (Ju (ae1 _ hB) ht);have wt:=bB (n:=(tw:Int)+1) (by omega) (by omega);have oA:=oddG A;have oB:=oddG B;have hAl:=dle (A) (by omega);have hBl:=dle (B) (by omega)
 have st2:(A%2=1\/B%2=1)->∀(fr:Nat->AV) (κ:Nat),fr 0=(nK .i64 (some (aG 1000000000 (A))))->fr 1=(nK .i64 (some (aG 1000000000 (B))))->fr 5=.c (.d (.int .i64 (tw:Int)))->K ⟨fr,λ_=>.hole⟩ κ:=by
  intro hodd fr κ z0 z1 z5;apply hK;refine aaa λK hK=>aaE ?_
  refine abr (λ(p:Nat×Nat)=>⟨aU [(0,(nK .i64 (some (aG 1000000000 (p.1))))),(1,(nK .i64 (some (aG 1000000000 (p.2))))),(5,.c (.d (.int .i64 (tw:Int))))],λ_=>.hole⟩) 0
   (λp=>0<p.2/\p.1<=vb/\p.2<=vb/\(p.1%2=1\/p.2%2=1)/\2^tw*Nat.gcd p.1 p.2=Nat.gcd va vb) (λp=>p.1+p.2) (A,B) (Le.mk' _ rfl bu (by simp_all)) ⟨hB,hA2,hB2,hodd,hg⟩ ?_
  rintro⟨C,D⟩ ⟨i1,i2,i3,i4,i5⟩;simp only at i1 i2 i3 i4 i5
  have fin:∀(Z:Nat) (fr:Nat->AV) (κ:Nat),Z<=vb->2^tw*Z=Nat.gcd va vb->fr 1=(nK .i64 (some (aG 1000000000 (Z))))->fr 5=.c (.d (.int .i64 (tw:Int)))->K ⟨fr,λ_=>.hole⟩ κ:=by
   intro Z fr κ hZ0 hZ z1 z5;apply hK;refine aaa λK hK=>aah ?_;refine aaE ?_;refine abr (λ(i:Nat)=>⟨aU [(1,(nK .i64 (some (aG 1000000000 (Z*2^i))))),(5,.c (.d (.int .i64 (tw:Int)))),(6,.c (.d (.int .i64 (i:Int))))],λ_=>.hole⟩) 0 (λi=>i<=tw) (λi=>tw-i) 0 (Le.mk' _ rfl bu (by simp_all)) (aa2 _) ?_;intro i hi
   try simp only at hi
   refine aaa λK2 hK2=>aah ?_
   by_cases hlt:i<tw
   ·have wi:=bB (n:=(i:Int)+1) (by omega) (by omega);have hgv:Nat.gcd va vb<=vb:=Nat.gcd_le_right _ hb0
    have hle:Z*2^i<=vb:=by
     rw[aea];exact Ju (adJ Z (ael (by decide) (afr hlt))) (by omega)
    have hll:=dle (Z*2^i) (by omega);have hs:=sumG (Z*2^i) hle;have he:Z*2^i+Z*2^i=Z*2^(i+1):=by rw[adR,<-ad5];omega
    rw[he]at hs;refine aaX (by simp_all) (aav (hK2 _ _ (aaa λK5 hK5=>aaE (AW.m0 0 hs (hK5 _ _ ?_)))));refine aar ?_;simp[wi];exact⟨i+1,Le.mk' _ rfl bu (by simp),by omega,by omega⟩
   ·obtain rfl:i=tw:=by omega
    refine abd (by simp) (abn (hK _ _ (aah ?_)));rw[<-hZ,aea];exact abe (aN.rt (t:=4) rfl 9 (by simp))
  have hCl:=dle (C) (by omega);refine aaa λK2 hK2=>aah ?_
  by_cases hC0:C=0
  ·have h2:¬0<(aG 1000000000 C).length:=by rw[Nat.pos_iff_ne_zero];exact λh=>h (Us.2 hC0)
   subst hC0;rw[agX]at i5;refine abd (by rfl) (abn ?_);simp;exact fin D _ _ i3 i5 (by simp) (by simp)
  have h2:0<(aG 1000000000 C).length:=aeZ λh=>hC0 (Us.1 h)
  refine aaX (by simp_all) (aav (hK2 _ _ (aaE (aaa λK5 hK5=>aaE ?_))))
  refine abr (λ(C':Nat)=>⟨aU [(0,(nK .i64 (some (aG 1000000000 (C'))))),(1,(nK .i64 (some (aG 1000000000 (D))))),(5,.c (.d (.int .i64 (tw:Int))))],λ_=>.hole⟩) 0
   (λC'=>0<C'/\C'<=C/\(C' % 2=1\/D%2=1)/\Nat.gcd C' D=Nat.gcd C D) (λC'=>C') C (Le.mk' _ rfl bu (by simp)) ⟨by omega,bh _,i4,rfl⟩ ?_
  rintro C' ⟨j1,j2,j3,j4⟩;have oC:=oddG C';have hhC:=halfG C' (by omega);refine aaa λK6 hK6=>aaF λK7 hK7=>?_;simp
  by_cases c1:C' % 2=1
  rotate_left
  ·have hd1:D%2=1:=by omega
   refine ag.p 0 9 oC ?_;simp[c1];apply hK7;refine abl (aav (hK6 _ _ (aaE (aar ?_))));simp;refine ag.p 0 9 hhC ?_;simp;exact⟨C' / 2,Le.mk' _ rfl bu (by simp),⟨by omega,by omega,.inr hd1,by rw[E7 (by omega) hd1,j4]⟩,by omega⟩
  refine ag.p 0 9 oC ?_;simp[c1];apply hK7;refine aba (abn (hK5 _ _ (aaa λK8 hK8=>aaE ?_)))
  refine abr (λ(D':Nat)=>⟨aU [(0,(nK .i64 (some (aG 1000000000 (C'))))),(1,(nK .i64 (some (aG 1000000000 (D'))))),(5,.c (.d (.int .i64 (tw:Int))))],λ_=>.hole⟩) 0
   (λD'=>0<D'/\D'<=D/\Nat.gcd C' D'=Nat.gcd C D) (λD'=>D') D (Le.mk' _ rfl bu (by simp)) ⟨i1,bh _,j4⟩ ?_
  rintro D' ⟨l1,l2,l3⟩;have oD:=oddG D';have hhD:=halfG D' (by omega);refine aaa λK9 hK9=>aaF λK10 hK10=>?_;simp
  by_cases d1:D' % 2=1
  rotate_left
  ·refine ag.p 0 9 oD ?_;simp[d1];apply hK10;refine abl (aav (hK9 _ _ (aaE (aar ?_))));simp;refine ag.p 0 9 hhD ?_;simp;exact⟨D' / 2,Le.mk' _ rfl bu (by simp),⟨by omega,by omega,by rw[af1,E7 (by omega) c1,af1,l3]⟩,by omega⟩
  have hDl:=dle (D') (by omega);refine ag.p 0 9 oD ?_;simp[d1];apply hK10;refine aba (abn (hK8 _ _ ?_));rw[<-l3]at i5;refine aaa λK11 hK11=>aaa λK12 hK12=>?_
  by_cases hD1:D'=1
  ·subst hD1;have e1:aG 1000000000 1=[1]:=(gK (by decide:2<=1000000000) (l:=[1]) ⟨by intro d hd;simp at hd;omega,by simp⟩ (by simp)).symm;have e2:=gL (P:=Tryz.prog) (T:=53) (lv:=λ_=>.hole) (k:=.i64) (k':=.i64) (o:=some [1]) (i:=0) (by simp) (by simp);simp only[agD,aR,aeQ]at e2;rw[e1];rw[agF,afC]at i5;refine aar ?_;simp[e2,-gL];apply hK12;refine abl (abn ?_);simp;exact fin 1 _ _ (by omega) (by omega) (by simp[e1]) (by simp)
  have one:∀lv:Key->LB,(aG 1000000000 D').length=1->aq Tryz.prog 53 lv (nK .i64 (some (aG 1000000000 D'))) (.c (.d (.int .i64 0)))=some (.c (.d (.ptr [DV.int .i64 (D':Int)])),[],[],True):=λlv h=>by
   have h0:0<(dO (some (aG 1000000000 D'))).length:=by rw[aR];omega
   have h2:=gL (P:=Tryz.prog) (T:=53) (lv:=lv) (k:=.i64) (k':=.i64) (o:=some (aG 1000000000 D')) (i:=0) (by simp) h0
   have hx:(aG 1000000000 D')[0]'(by omega)=D':=by
    obtain⟨x,hx⟩:∃x,aG 1000000000 D'=[x]:=by match hd:aG 1000000000 D',h with|[x],_=>exact⟨x,rfl⟩
    have hv:=bn (B:=1000000000) (by decide) D';rw[hx]at hv;simp at hv;simp[hx,hv]
   simp only[agD,aR,hx]at h2;exact h2
  have hD1':¬(D':Int)=1:=by omega
  have rest:∀(fr:Nat->AV) (κ:Nat),fr 0=(nK .i64 (some (aG 1000000000 (C'))))->fr 1=(nK .i64 (some (aG 1000000000 (D'))))->fr 5=.c (.d (.int .i64 (tw:Int)))->K11 ⟨fr,λ_=>.hole⟩ κ:=by
   intro fr κ z0 z1 z5;apply hK11;refine aaa λK13 hK13=>?_
   have fin2:∀(X Y:Nat) (fr:Nat->AV) (κ:Nat),Y<=X->X<=vb->0<Y->Y%2=1->X%2=1->X+Y=C'+D'->Nat.gcd X Y=Nat.gcd C' D'->fr 0=(nK .i64 (some (aG 1000000000 (X))))->fr 1=(nK .i64 (some (aG 1000000000 (Y))))->fr 5=.c (.d (.int .i64 (tw:Int)))->K13 ⟨fr,λ_=>.hole⟩ κ:=by
    intro X Y fr κ hXY hXv hY hY1 hX1 hs hgg z0 z1 z5;have hdf:=diffG X Y hXv hXY;apply hK13;refine aar ?_;simp[z0,z1];refine ag.p 0 9 hdf ?_;simp;refine⟨X-Y,Y,Le.mk' _ rfl bu (by simp[z1,z5]),⟨hY,by omega,by omega,.inr hY1,by rw[Nb hXY,hgg];exact i5⟩,by omega⟩
   have hcm:=cmpG C' D';refine aaa λK14 hK14=>?_
   by_cases hlt:C'<D'
   ·have hc:eC C' D'<0:=by rw[kH hlt];omega
    refine aar ?_;simp[z0,z1];refine ag.p 0 9 hcm ?_;simp[hc];apply hK14;refine abl (aar ?_);simp[z0,z1];exact fin2 D' C' _ _ (by omega) (by omega) j1 c1 d1 (by omega) (af1 _ _) (by simp) (by simp) (by simp[z5])
   ·have hc:¬eC C' D'<0:=by
     by_cases e:C'=D'
     ·rw[qu e];omega
     ·rw[mh (by omega)];omega
    refine aar ?_;simp[z0,z1];refine ag.p 0 9 hcm ?_;simp[hc];apply hK14;refine aba (aav ?_);simp;exact fin2 C' D' _ _ (by omega) (by omega) l1 d1 c1 rfl rfl (by simp[z0]) (by simp[z1]) (by simp[z5])
  by_cases hl1:(aG 1000000000 D').length=1
  ·have o1:=λlv=>one lv hl1
   refine aar ?_;simp[hl1,o1,hD1',-gL];apply hK12;refine aba (aav ?_);simp;exact rest _ _ (by simp) (by simp) (by simp)
  ·have hl1':¬((aG 1000000000 D').length:Int)=1:=by omega
   refine acT hl1 hl1' (hK12 _ _ ?_);refine aba (aav ?_);simp;exact rest _ _ (by simp) (by simp) (by simp)
 refine aaa λK2 hK2=>aaF λK3 hK3=>?_;simp
 by_cases a1:A%2=1
 ·refine ag.p 0 9 oA ?_;simp[a1];apply hK3;refine aba (abn ?_)
  simp_all
 by_cases b1:B%2=1
 ·refine ag.p 0 9 oA ?_;simp[a1];refine ag.p 0 9 oB ?_;simp[b1];apply hK3;refine aba (abn ?_)
  simp_all
 have hhA:=halfG A (by omega);have hhB:=halfG B (by omega);refine ag.p 0 9 oA ?_;simp[a1];refine ag.p 0 9 oB ?_;simp[b1];apply hK3;refine abl (aav (hK2 _ _ (aaE (aaF λK5 hK5=>?_))));simp;refine ag.p 0 9 hhA ?_;simp;refine ag.p 0 9 hhB ?_;simp;apply hK5;refine aar ?_;simp[wt];refine⟨A/2,B/2,tw+1,Le.mk' _ rfl bu (by simp),⟨by omega,by omega,by omega,by omega,?_,?_⟩,by omega⟩
 ·rw[adR,ad5,Hq (by omega) (by omega)];exact hg
 ·have e:2^(tw+1)*(B/2)=2^tw*(2*(B/2)):=by rw[adR,ad5]
  rw[e,show 2*(B/2)=B by omega];exact ht
@[simp]theorem Z9(cs:List CV):(AV.agg cs).pure=cs.all CV.pure:=rfl
@[simp]theorem abw(x:DV):(CV.d x).pure=true:=rfl
@[simp]theorem XF(o:Option (List (List DV))):(bV o).pure=true:=by cases o<;>rfl
@[simp]theorem Zx(l:List AV):(AV.tup l).pure=l.all AV.kX:=rfl
@[simp]theorem aa4(x:CV):(AV.c x).kX=x.pure:=rfl
@[simp]theorem Xp(cs:List CV):(AV.agg cs).kX=cs.all CV.pure:=rfl
theorem TL(L:Nat)(h:1<=L):br 1 L:=⟨by show nl 1<=_;rw[eK];exact h,by show nl 1<=_;rw[eK];exact h⟩
def dY(x:Rat):Int:=if x.num=0 then 0 else if x.num<0 then -1 else 1
def dZ(x:Rat):Option (List Nat):=if x.num=0 then none else some (aG 1000000000 x.num.natAbs)
def eL(x:Rat):Option (List Nat):=if x.num=0 then none else some (aG 1000000000 x.den)
abbrev cC(x:Rat):AV:=rA (dY x) (dZ x) (eL x)
theorem n8(x:Rat):dO (dZ x)=aG 1000000000 x.num.natAbs:=by
 unfold dZ;split
 ·simp_all
 ·rfl
theorem FG{x:Rat}(h:x.num=0):x.den=1:=by
 simp_all
theorem WE:aG 1000000000 1=[1]:=(gK (by decide:2<=1000000000) (l:=[1]) ⟨by intro d hd;grind,by simp⟩ (by simp)).symm
theorem WI(x:Rat):NZ (dY x) (eL x)=some (aG 1000000000 x.den):=by
 unfold NZ dY eL
 by_cases h:x.num=0
 ·rw[if_pos h,if_pos rfl,FG h,WE]
 grind
theorem V9(n:Nat):(aG 1000000000 n).length<=2*nl n:=by
 refine bS (by decide) ?_;rw[afp];exact aeB (zJ n) (af2 (by decide) _)
theorem Bp(G:List (List DV)):aa Tryz.prog G 143 [] (nK .i64 (some (aG 1000000000 (1)))):=by rw[WE];exact EM G
theorem Bc(G:List (List DV))(A B:Nat)(hB:0<B)(h:(aG 1000000000 A).length<=100000000000)(h':(aG 1000000000 B).length<=100000000000):∃o,aa Tryz.prog G 145 [(nK .i64 (some (aG 1000000000 (A)))),(nK .i64 (some (aG 1000000000 (B))))] (.tup [(nK .i64 (some (aG 1000000000 (A/B)))),nK .i64 o]):=by
 have h:=uj G (some (aG 1000000000 A)) (some (aG 1000000000 B)) (bx (by decide) A).1 (bx (by decide) B) (by rw[aR];intro e;have:=(cL (by decide)).1 e;omega) h h';rw[aR,aR,bn (by decide),bn (by decide)]at h
 grind
theorem Rt(neg:Bool){Q:Nat}(hP:P≠0)(hQ:Q≠0):cC (mkRat (dh neg P) Q)=rA (if neg then -1 else 1) (some (aG 1000000000 (P/Nat.gcd P Q))) (some (aG 1000000000 (Q/Nat.gcd P Q))):=by
 obtain⟨n1,n2⟩:=o5 neg (a:=P) hQ;have hg:P/Nat.gcd P Q≠0:=aeE (Nat.div_pos (agl (by omega) (agE _ _)) (agk _ (by omega)))
 have h0:(mkRat (dh neg P) Q).num≠0:=by
  rw[n1];unfold dh;split<;>omega
 unfold cC dY dZ eL;rw[if_neg h0,if_neg h0,if_neg h0,n1,n2,qe]
 cases neg with
 |true=>
  rw[if_pos (show dh true (P/Nat.gcd P Q)<0 from Int.neg_neg_of_pos (Int.ofNat_lt.2 (aeZ hg)))];rfl
 |false=>
  rfl
theorem LX:cC 0=rA 0 none none:=rfl
attribute [local irreducible] aM
theorem LP(G:List (List DV))(s:Int)(neg:Bool)(P Q:Nat)(p:Option (List Nat))(hp:dO p=aG 1000000000 P)(hs:P≠0->s=if neg then -1 else 1)(hQ:0<Q)(hPl:(aG 1000000000 P).length<=100000000000)(hQl:(aG 1000000000 Q).length<=100000000000):
 aa Tryz.prog G 90 [.c (.d (.int .i64 s)),nK .i64 p,(nK .i64 (some (aG 1000000000 (Q))))] (cC (mkRat (dh neg P) Q)):=by
 have oneG:=Bp G;have cmG:=λA B=>vj G A B
 by_cases hP0:P=0
 ·subst hP0;have e0:dO p=[]:=by rw[hp];exact Yb
  have e2:dh neg 0=0:=by cases neg<;>rfl
  have e1:mkRat (dh neg 0) Q=0:=by rw[e2];exact Rat.zero_mkRat Q
  rw[e1,LX];refine aa.enc Tryz.func90 rfl (λlv=>dR lv _ _ _) λ_=>aah ?_;refine aaa λK hK=>abf e0 ?_;refine abl (abf @R8 ?_);refine aaH ?_;refine aM.cell (T:=55) (t:=6) (k:=0) (off:=0) (own:=true) (fz:=false) (U:=55) (cs:=[.d (.int .i64 0),.d .nilsl,.d .nilsl]) rfl ?_ ?_ ?_
  ·simp
  ·rfl
  rfl
 have hp1:p=some (aG 1000000000 P):=by
  cases p with
  |none=>exact absurd ((cL (by decide)).1 hp.symm) hP0
  |some l=>simp_all
 subst hp1;have hs1:=hs hP0;have hs0:¬s=0:=by rw[hs1];split<;>omega
 rw[Rt neg hP0 (by omega),<-hs1];have hdv:=Cs G P Q (by omega) hQ hPl hQl;obtain⟨g,hg⟩:∃g,Nat.gcd P Q=g:=⟨_,rfl⟩
 have hg0:0<g:=by rw[<-hg];exact agk _ (by omega)
 have hgl:(aG 1000000000 g).length<=100000000000:=Ju (cS (by decide) (by rw[<-hg];exact Nat.gcd_le_right _ hQ)) hQl;obtain⟨o1,hd1⟩:=Bc G P g hg0 hPl hgl;obtain⟨o2,hd2⟩:=Bc G Q g hg0 hQl hgl;rw[hg]at hdv ⊢;have hne:¬aG 1000000000 P=[]:=λe=>hP0 ((cL (by decide)).1 e)
 have c0:∀A B,(eC A B=0)↔A=B:=λA B=>by unfold eC;omega
 refine aa.enc Tryz.func90 rfl (λlv=>dR lv _ _ _) λ_=>aah ?_;refine aaa λK hK=>ace hne hs0 ?_;refine aba (aav (hK _ _ (aaa λK hK=>?_)))
 by_cases h1:P=1
 ·have hc:=(c0 P 1).2 h1;have hg1:g=1:=by rw[<-hg,h1,Nat.gcd_one_left]
  refine aaF λK1 hK1=>?_;simp;refine ag.p 1 9 oneG ?_;simp;refine ag.p 1 9 (cmG P 1) ?_;simp[hc];apply hK1;refine abl (ace @bR @iV ?_);refine aaH ?_;refine aM.cell (T:=55) (t:=6) (k:=0) (off:=0) (own:=true) (fz:=false) (U:=55) (cs:=[.d (.int .i64 s),rC (some (aG 1000000000 P)),rC (some (aG 1000000000 Q))]) rfl ?_ ?_ ?_
  ·simp
  ·rfl
  simp_all
 have hc1:¬eC P 1=0:=λe=>h1 ((c0 P 1).1 e)
 by_cases h2:Q=1
 ·have hc:=(c0 Q 1).2 h2;have hg1:g=1:=by rw[<-hg,h2,agF]
  refine aaF λK1 hK1=>?_;simp;refine ag.p 1 9 oneG ?_;simp;refine ag.p 1 9 (cmG P 1) ?_;simp[hc1];refine ag.p 1 9 oneG ?_;simp;refine ag.p 1 9 (cmG Q 1) ?_;simp[hc];apply hK1;refine abl (ace @bR @iV ?_);refine aaH ?_;refine aM.cell (T:=55) (t:=6) (k:=0) (off:=0) (own:=true) (fz:=false) (U:=55) (cs:=[.d (.int .i64 s),rC (some (aG 1000000000 P)),rC (some (aG 1000000000 Q))]) rfl ?_ ?_ ?_
  ·simp
  ·rfl
  simp_all
 have hc2:¬eC Q 1=0:=λe=>h2 ((c0 Q 1).1 e)
 refine aaF λK1 hK1=>?_;simp;refine ag.p 1 9 oneG ?_;simp;refine ag.p 1 9 (cmG P 1) ?_;simp[hc1];refine ag.p 1 9 oneG ?_;simp;refine ag.p 1 9 (cmG Q 1) ?_;simp[hc2];apply hK1;refine aba (aav (hK _ _ (acH 1 hdv ?_)));refine aaa λK hK=>?_
 have fin:∀(fr:Nat->AV) (κ:Nat),fr 0=.c (.d (.int .i64 s))->fr 1=(nK .i64 (some (aG 1000000000 (P/g))))->fr 2=(nK .i64 (some (aG 1000000000 (Q/g))))->fr 6=.c (.ptr 0 0) ->
  K ⟨fr,az (λ_=>.hole) 0 (.cells true false 55 [.d (.int .i64 0),.d .nilsl,.d .nilsl])⟩ κ:=by
  intro fr κ z0 z1 z2 z6;apply hK;refine AW.f6 z0 z1 z2 z6 @iV @bR ?_;refine aaH ?_;refine aM.cell (T:=55) (t:=6) (k:=0) (off:=0) (own:=true) (fz:=false) (U:=55) (cs:=[.d (.int .i64 s),rC (some (aG 1000000000 (P/g))),rC (some (aG 1000000000 (Q/g)))]) rfl ?_ ?_ ?_
  ·simp[z6]
  ·rfl
  ·rfl
 by_cases hg1:g=1
 ·have hc:=(c0 g 1).2 hg1;refine aaF λK1 hK1=>?_;simp;refine ag.p 1 9 oneG ?_;simp;refine ag.p 1 9 (cmG g 1) ?_;simp[hc];apply hK1;refine aba (aav ?_)
  simp_all
 ·have hc:¬eC g 1=0:=λe=>hg1 ((c0 g 1).1 e)
  refine aaF λK1 hK1=>?_;simp;refine ag.p 1 9 oneG ?_;simp;refine ag.p 1 9 (cmG g 1) ?_;simp[hc];apply hK1;refine abl (aaF λK1 hK1=>?_);simp;refine ag.pure 1 9 hd1 (so _ _) (by simp) (by simp) ?_;simp;apply hK1;refine aar ?_;simp;refine ag.pure 1 9 hd2 (so _ _) (by simp) (by simp) ?_;simp
  simp_all
end Go.Am
namespace Go.Am
open Go.Am.Ty Go.Proofs N
attribute [local irreducible] aM
theorem xS(x:Rat):dY x=0\/dY x=1\/dY x = -1:=by unfold dY;omega
theorem nq{x:Rat}:dY x=0↔x.num=0:=by unfold dY;omega
theorem rL{x:Rat}(h:x.num≠0):dY x=if decide (x.num<0)then -1 else 1:=by
 unfold dY;grind
theorem NY(x:Rat):cC (-x)=rA (-dY x) (dZ x) (eL x):=by
 unfold cC dY dZ eL;rw[Rat.neg_num,Rat.neg_den,Int.natAbs_neg]
 grind
theorem R7{n L:Nat}(h:nl n<=L):(aG 1000000000 n).length<=2*L:=Ju (V9 n) (by omega)
theorem j7(G:List (List DV))(x:Rat):aa Tryz.prog G 96 [cC x] (.c (rC (some (aG 1000000000 x.den)))):=by
 have:=Gf G (dY x) (dZ x) (eL x)
 rwa[WI]at this
theorem jr(G:List (List DV))(p q:Option (List Nat))(A B L:Nat)(hp:dO p=aG 1000000000 A)(hq:dO q=aG 1000000000 B)(hA:nl A<=L)(hB:nl B<=L)(hL:L<=200000000000):aa Tryz.prog G 95 [.c (rC p),.c (rC q)] (.c (rC (some (aG 1000000000 (A*B))))):=by
 have h1:=R7 hA;have h2:=R7 hB;have h:=uz G p q (by rw[hp];exact(bx (by decide) _).1) (by rw[hq];exact(bx (by decide) _).1) (by grind) (by grind);rw[hp,hq,bn (by decide),bn (by decide)]at h;rw[<-iV,<-iV,<-iV];exact h
theorem OQ(G:List (List DV))(A B L:Nat)(hA:nl A<=L)(hB:nl B<=L)(hL:L<=200000000000):aa Tryz.prog G 98 [.c (rC (some (aG 1000000000 A))),.c (rC (some (aG 1000000000 B)))] (.c (rC (some (aG 1000000000 (A+B))))):=by
 have h1:=R7 hA;have h2:=R7 hB;have:=Bh G A B (by omega) (by omega);rw[iV,iV,iV]at this;omega
theorem En(G:List (List DV))(A B L:Nat)(hA:nl A<=L)(hL:L<=200000000000)(h:B<=A):aa Tryz.prog G 100 [.c (rC (some (aG 1000000000 A))),.c (rC (some (aG 1000000000 B)))] (.c (rC (some (aG 1000000000 (A-B))))):=by
 have h1:=R7 hA;have:=zi G A B (by omega) h;rw[iV,iV,iV]at this;omega
theorem yY(G:List (List DV))(A B:Nat):aa Tryz.prog G 99 [.c (rC (some (aG 1000000000 A))),.c (rC (some (aG 1000000000 B)))] (.c (.d (.int .i64 (eC A B)))):=by
 have:=vj G A B;rw[iV,iV]at this;omega
theorem xG(G:List (List DV))(s:Int)(neg:Bool)(P Q L:Nat)(p:Option (List Nat))(hp:dO p=aG 1000000000 P)(hs:P≠0->s=if neg then -1 else 1)(hQ:0<Q)(hP:nl P<=L)(hQl:nl Q<=L)(hL:L<=50000000000):
 aa Tryz.prog G 90 [.c (.d (.int .i64 s)),.c (rC p),.c (rC (some (aG 1000000000 Q)))] (cC (mkRat (dh neg P) Q)):=by
 have h1:=R7 hP;have h2:=R7 hQl;have:=LP G s neg P Q p hp hs hQ (by omega) (by omega);rw[iV,iV]at this;omega
theorem MT(G:List (List DV))(x:Rat):aa Tryz.prog G 189 [cC x] (cC (-x)):=by
 have hr:=xS x;have hw:=bB (n:=-dY x) (by omega) (by omega);rw[NY];refine aa.enc Tryz.func189 rfl (λlv=>dR lv _ _ _) λ_=>aah ?_;refine ace hw @bR ?_;refine aaH ?_;refine aM.cell (T:=55) (t:=2) (k:=1) (off:=0) (own:=true) (fz:=false) (U:=55) (cs:=[.d (.int .i64 (-dY x)),rC (dZ x),rC (eL x)]) rfl ?_ ?_ ?_
 ·simp
 ·rfl
 rfl
theorem Ig(G:List (List DV))(x:Rat):aa Tryz.prog G 102 [cC x] (.c (.d (.bool (decide (x.den=1))))):=by
 have hb:=j7 G x;have ho:=Bp G;rw[iV]at ho;have hc:=yY G x.den 1;have e:(eC x.den 1=0)↔x.den=1:=by unfold eC;(repeat' split)<;>omega
 refine aa.en Tryz.func102 rfl λ_=>aah ?_;refine aaF λK hK=>?_;simp;refine ag.p 1 9 hb ?_;simp;refine ag.p 1 9 ho ?_;simp;refine ag.p 1 9 hc ?_;simp;apply hK;exact abe (aN.rt (t:=2) rfl 9 (by simp[e]))
theorem IU(x:Rat):gP (decide (x.num<0)) (aL x.num.natAbs)=dY x:=by
 unfold gP dY;rw[jO];simp only[cL (by decide:2<=4294967296),decide_eq_true_eq];simp
theorem Vx(x y:Rat):eN x y=if dY x<dY y then -1 else if dY y<dY x then 1 else dY x*eC (x.num.natAbs*y.den) (y.num.natAbs*x.den):=by
 rw[<-Jb];unfold Xa;rw[IU,IU,jN,jN,vl,vl];omega
theorem Ac(G:List (List DV))(x y:Rat)(hx:br x 20000000000)(hy:br y 20000000000):aa Tryz.prog G 153 [cC x,cC y] (.c (.d (.int .i64 (eN x y)))):=by
 have b1:=j7 G x;have b2:=j7 G y;have m1:=jr G (dZ x) (some (aG 1000000000 y.den)) x.num.natAbs y.den 20000000000 (n8 x) rfl hx.1 hy.2 (by decide);have m2:=jr G (dZ y) (some (aG 1000000000 x.den)) y.num.natAbs x.den 20000000000 (n8 y) rfl hy.1 hx.2 (by decide);have cc:=yY G (x.num.natAbs*y.den) (y.num.natAbs*x.den);have hr:=Vx x y
 have hw:IntKind.i64.wrap (dY x*eC (x.num.natAbs*y.den) (y.num.natAbs*x.den))=dY x*eC (x.num.natAbs*y.den) (y.num.natAbs*x.den):=by
  have h1:=Ff (x.num.natAbs*y.den) (y.num.natAbs*x.den);rcases xS x with h|h|h<;>rw[h]<;>exact bB (by omega) (by omega)
 rw[hr];refine aa.en Tryz.func153 rfl λ_=>aah ?_;refine aaa λK hK=>aaE (aah ?_)
 by_cases h1:dY x<dY y
 ·refine aaX (by simp_all) (aah ?_);exact abe (aN.rt (t:=4) rfl 9 (by simp[h1]))
 ·refine abd (by simp_all) (aah ?_)
  by_cases h2:dY y<dY x
  ·refine aaX (by simp_all) (aah ?_);exact abe (aN.rt (t:=4) rfl 9 (by simp_all))
  ·refine abd (by simp_all) (aav (hK _ _ (aaa λK hK=>?_)));refine abx mixed (by kernel_rfl) rfl ?_;simp;refine ag.p 2 9 b2 ?_;simp;refine ag.p 2 9 m1 ?_;simp;refine ag.p 2 9 b1 ?_;simp;refine ag.p 2 9 m2 ?_;simp;refine ag.p 2 9 cc ?_;simp;simp[hw];refine⟨by kernel_rfl,?_⟩;apply hK;exact abe (aN.rt (t:=4) rfl 9 (by simp[h1,h2]))
end Go.Am
namespace Go.Am
open Go.Am.Ty Go.Proofs N
attribute [local irreducible] aM
theorem gW(lv:Key->LB)(s:Int)(p q:Option (List Nat))(n:Int):dI lv (.tup [rA s p q,.c (.d (.int .i64 n))])=some (.tup [rA s p q,.c (.d (.int .i64 n))],[]):=by
 cases p<;>cases q<;>rfl
theorem aM.ref{c:Ctx}{fn:Func}{z:Rat}{t k:Nat}{s:aB}{κ:Nat}(hr:fn.results=#[.cell t 55])(ht:s.fr t=.c (.ptr k 0))(hk:s.lv k=.cells true false 55 [.d (.int .i64 (dY z)),rC (dZ z),rC (eL z)])(hP:c.P=Tryz.prog):aM c fn (cC z) .ret s κ:=
 aM.cell hr ht hk (by simp_all)
theorem uk(G:List (List DV))(x y:Rat)(hx:br x 10000000000)(hy:br y 10000000000):aa Tryz.prog G 55 [cC x,cC y] (cC (x+y)):=by
 have b1:=j7 G x;have b2:=j7 G y;have m1:=jr G (dZ x) (some (aG 1000000000 y.den)) x.num.natAbs y.den 10000000000 (n8 x) rfl hx.1 hy.2 (by decide);have m2:=jr G (dZ y) (some (aG 1000000000 x.den)) y.num.natAbs x.den 10000000000 (n8 y) rfl hy.1 hx.2 (by decide);have m3:=jr G (some (aG 1000000000 x.den)) (some (aG 1000000000 y.den)) x.den y.den 10000000000 rfl rfl hx.2 hy.2 (by decide);have l1:=bO x.num.natAbs y.den;have l2:=bO y.num.natAbs x.den;have l3:=bO x.den y.den;have hq0:0<x.den*y.den:=aeh x.den_pos y.den_pos;have hx1:=hx.1;have hx2:=hx.2;have hy1:=hy.1;have hy2:=hy.2;have zx:x.num.natAbs*y.den=0↔x.num=0:=by rw[Nat.mul_eq_zero];have:=y.den_nz;omega
 have zy:y.num.natAbs*x.den=0↔y.num=0:=by rw[Nat.mul_eq_zero];have:=x.den_nz;omega
 rw[BY];generalize x.num.natAbs*y.den=A at *
 generalize y.num.natAbs*x.den=B at *
 generalize x.den*y.den=Q at *
 have ad:=OQ G A B 20000000000 (by omega) (by omega) (by decide);have l4:=mB A B;have cm:=yY G A B;have mk:=λ(s:Int) (neg:Bool) (P:Nat) (hs:P≠0->s=if neg then -1 else 1) (hP:nl P<=20000000001)=>xG G s neg P Q 20000000001 (some (aG 1000000000 P)) rfl hs hq0 hP (by omega) (by decide)
 have df1:A<B->_:=λh=>En G B A 20000000000 (by omega) (by decide) (afr h)
 have df2:¬A<B->_:=λh=>En G A B 20000000000 (by omega) (by decide) (Nat.not_lt.1 h)
 have nA:∀n,n<=A->nl n<=20000000001:=λn h=>by have:=dc h;omega
 have nB:∀n,n<=B->nl n<=20000000001:=λn h=>by have:=dc h;omega
 refine aa.enc Tryz.func55 rfl (λlv=>dR lv _ _ _) λ_=>aah ?_;refine aaa λK hK=>?_;refine abx mixed (by kernel_rfl) rfl ?_;simp;refine ag.p 3 9 b2 ?_;simp;refine ag.p 3 9 m1 ?_;simp;refine ag.p 3 9 b1 ?_;simp;refine ag.p 3 9 m2 ?_;simp;refine⟨by kernel_rfl,?_⟩;apply hK;refine aaa λK hK=>?_;refine abx mixed (by kernel_rfl) rfl ?_;simp;refine ag.p 3 9 b1 ?_;simp;refine ag.p 3 9 b2 ?_;simp;refine ag.p 3 9 m3 ?_;simp;refine⟨by kernel_rfl,?_⟩;apply hK;refine aaa λK hK=>aaa λK1 hK1=>?_
 by_cases hs:dY x=0\/dY y=0\/dY x=dY y
 ·obtain⟨s,hse⟩:∃s,(if dY x=0 then dY y else dY x)=s:=⟨_,rfl⟩
  obtain⟨neg,hn1,hn2⟩:∃neg:Bool,(A+B≠0->s=if neg then -1 else 1)/\dh (decide (x.num<0)) A+dh (decide (y.num<0)) B=dh neg (A+B):=by
   by_cases hx0:x.num=0
   ·have hA:A=0:=zx.2 hx0;have hs1:s=dY y:=by rw[<-hse,if_pos (nq.2 hx0)]
    refine⟨decide (y.num<0),λh=>?_,?_⟩
    ·rw[hs1];exact rL (λe=>h (by omega))
    ·rw[hA,aeC];have:dh (decide (x.num<0)) 0=0:=by unfold dh;split<;>rfl
     omega
   ·have hs1:s=dY x:=by rw[<-hse,if_neg (λe=>hx0 (nq.1 e))]
    refine⟨decide (x.num<0),λ_=>?_,?_⟩
    ·rw[hs1];exact rL hx0
    ·by_cases hy0:y.num=0
     ·have hB:B=0:=zy.2 hy0;rw[hB,aeI];have:dh (decide (y.num<0)) 0=0:=by unfold dh;split<;>rfl
      omega
     ·have he:dY x=dY y:=by
       rcases hs with h|h|h
       ·omega
       ·exact absurd (nq.1 h) hy0
       ·exact h
      rw[rL hx0,rL hy0]at he
      have hd:decide (x.num<0)=decide (y.num<0):=by
       cases h1:decide (x.num<0)<;>cases h2:decide (y.num<0)<;>simp[h1,h2]at he ⊢
      rw[hd,xB]
  have mk1:=mk s neg (A+B) hn1 (by omega);rw[<-hn2]at mk1
  by_cases c1:dY x=0
  ·refine acK c1 (hK1 _ _ ?_);refine abl (abf c1 ?_);refine aaa λK1 hK1=>aah ?_;refine abl ?_;rw[if_pos c1]at hse;refine acK hse (hK1 _ _ ?_);refine aaF λK1 hK1=>?_;simp;refine ag.p 3 9 ad ?_;simp;refine ag.p 3 9 mk1 ?_;simp;simp[ai];apply hK1;exact aaH (aM.ref (k:=2) rfl (by simp) (by simp) rfl)
  ·rw[if_neg c1]at hse
   by_cases c2:dY y=0
   ·refine acT c1 c2 (hK1 _ _ ?_);refine abl (abf hse ?_);refine aaa λK1 hK1=>aah ?_;have c3:¬s=0:=by rw[<-hse];exact c1
    refine abd (by simp_all) (aav (hK1 _ _ (aaF λK1 hK1=>?_)));simp;refine ag.p 3 9 ad ?_;simp;refine ag.p 3 9 mk1 ?_;simp;simp[ai];apply hK1;exact aaH (aM.ref (k:=2) rfl (by simp) (by simp) rfl)
   ·have c4:dY x=dY y:=hs.elim (λh=>absurd h c1) λh=>h.elim (λh=>absurd h c2) id
    have c5:dY y=s:=by rw[<-c4];exact hse
    have c3:¬s=0:=by rw[<-hse];exact c1
    refine aar ?_;simp[hse,c5,c3];apply hK1;refine abl (abf hse ?_);refine aaa λK1 hK1=>aah ?_;refine abd (by simp_all) (aav (hK1 _ _ (aaF λK1 hK1=>?_)));simp;refine ag.p 3 9 ad ?_;simp;refine ag.p 3 9 mk1 ?_;simp;simp[ai];apply hK1;exact aaH (aM.ref (k:=2) rfl (by simp) (by simp) rfl)
 ·have c1:¬dY x=0:=λh=>hs (.inl h)
  have c2:¬dY y=0:=λh=>hs (.inr (.inl h))
  have c3:¬dY x=dY y:=λh=>hs (.inr (.inr h))
  have hx0:x.num≠0:=λh=>c1 (nq.2 h)
  have hy0:y.num≠0:=λh=>c2 (nq.2 h)
  have hne:decide (x.num<0)≠decide (y.num<0):=λh=>c3 (by rw[rL hx0,rL hy0,h])
  refine AW.l3 c1 c2 c3 (hK1 _ _ ?_);refine aba (aav (hK _ _ (aaa λK hK=>aaa λK1 hK1=>?_)))
  by_cases hlt:A<B
  ·have hc:eC A B<0:=by rw[kH hlt];omega
   have d1:=df1 hlt;have mk1:=mk (dY y) (decide (y.num<0)) (B-A) (λ_=>rL hy0) (nB _ (afI _ _));rw[<-Dp hne hlt]at mk1;refine adq 3 cm hc (hK1 _ _ ?_);refine abl (aaa λK1 hK1=>?_);refine abx mixed (by kernel_rfl) rfl ?_;simp;refine ag.p 3 9 d1 ?_;simp;refine ag.p 3 9 mk1 ?_;simp;simp[ai];refine⟨by kernel_rfl,?_⟩;apply hK1;exact aaH (aM.ref (k:=2) rfl (by simp) (by simp) rfl)
  ·have hc:¬eC A B<0:=by
    by_cases e:A=B
    ·rw[qu e];omega
    ·rw[mh (by omega)];omega
   have d1:=df2 hlt;have mk1:=mk (dY x) (decide (x.num<0)) (A-B) (λ_=>rL hx0) (nA _ (afI _ _));rw[<-Dj hne hlt]at mk1;refine adq 3 cm hc (hK1 _ _ ?_);refine aba (aav (hK _ _ (aaa λK hK=>?_)));refine abx mixed (by kernel_rfl) rfl ?_;simp;refine ag.p 3 9 d1 ?_;simp;refine ag.p 3 9 mk1 ?_;simp;simp[ai];refine⟨by kernel_rfl,?_⟩;apply hK;exact aaH (aM.ref (k:=2) rfl (by simp) (by simp) rfl)
theorem Ov(G:List (List DV))(x y:Rat)(hx:br x 10000000000)(hy:br y 10000000000):aa Tryz.prog G 151 [cC x,cC y] (cC (x-y)):=by
 have h1:=MT G y;have h2:=uk G x (-y) hx (uC hy);rw[<-Rat.sub_eq_add_neg]at h2;refine aa.enc Tryz.func151 rfl (λlv=>dR lv _ _ _) λ_=>aah ?_;refine aaa λK hK=>?_;refine abx mixed (by kernel_rfl) rfl ?_;simp;refine ag.p 3 9 h1 ?_;simp;refine ag.p 3 9 h2 ?_;simp;simp[ai];refine⟨by kernel_rfl,?_⟩;apply hK;exact aaH (aM.ref (k:=2) rfl (by simp) (by simp) rfl)
end Go.Am
namespace Go.Am
open Go.Am.Ty Go.Proofs N
attribute [local irreducible] aM
theorem I7{x:Rat}(h:x.num≠0):eL x=some (aG 1000000000 x.den):=if_neg h
end Go.Am
namespace Go.Am
open Go.Am.Ty Go.Proofs N
attribute [local irreducible] aM
end Go.Am
namespace Go.Am
open Go.Am.Ty Go.Proofs N
variable {s l T:List UInt8}{x y z u:AV}{n κ:Nat}{neg:Bool}{c:Ctx}{fn:Func}
theorem NS(c:UInt8):ki c=true↔48<=c.toNat/\c.toNat<=57:=by simp[ki]
theorem Vh(h:∀x∈l,ki x=true):l.dropWhile ki=[]:=by
 induction l with
 |nil=>rfl
 |cons a l ih=>simp_all
theorem DR(h:wL s):wD s=[]:=by
 have h1:s.reverse.dropWhile ki=[]:=Vh λx hx=>(NS x).2 (h x (List.mem_reverse.1 hx))
 unfold wD kA
 simp_all
def isRow(s:List UInt8):Prop:=wL s/\s≠[]/\(s=[48]\/s.getD 0 0≠48)
theorem oX:fC s=true↔isRow s:=by
 constructor
 ·intro h;obtain⟨h1,h2⟩:=pE h;unfold fC at h;simp only[rP,aeV,aee,decide_eq_true_eq,decide_eq_false_iff_not]at h;exact⟨h1,h2,h.2⟩
 ·rintro⟨h1,h2,h3⟩;unfold fC;rw[decide_eq_false h2,decide_eq_true (DR h1)]
  grind
theorem gD8{i:Nat}(h:i<s.length):s.getD i 0=s[i]:=by grind
theorem Pr(G:List (List DV))(s:List UInt8):aa Tryz.prog G 142 [.c (.d (.str s))] (.c (.d (.bool (fC s)))):=by
 refine aI.lJ 0 (by simp) (λV v h=>(show s.length<=9223372036854775807 by cases h.1 with|str _ hl=>exact hl)) λhs=>?_;refine aa.en Tryz.func142 rfl λ_=>aah ?_;refine aaa λK hK=>aah ?_;refine aaE ?_;refine abr (λ(i:Nat)=>⟨aU [(0,.c (.d (.str s))),(3,.c (.d (.int .i64 (i:Int))))],λ_=>.hole⟩) 0 (λi=>i<=s.length/\wL (s.take i)) (λi=>s.length-i) 0 (Le.mk' _ rfl bu (by simp)) ⟨aa2 _,λc hc=>by simp at hc⟩ ?_;rintro i ⟨hi,hd⟩;refine aaa λK3 hK3=>aah ?_
 by_cases hlt:i<s.length
 ·have hlt':(i:Int)<(s.length:Int):=by omega
  have wi:=bB (n:=(i:Int)+1) (by omega) (by omega);have hg:=gD8 hlt;have hg2:s[i]?.getD 0=s[i]:=by rw[fy hlt];rfl
  obtain⟨c,hc⟩:∃c,s[i]=c:=⟨_,rfl⟩
  rw[hc]at hg hg2;have hcm:c∈s:=by rw[<-hc];exact aT hlt
  have bad:¬(48<=c.toNat/\c.toNat<=57)->fC s=false:=λh=>by
   cases hr:fC s with
   |false=>rfl
   |true=>exact absurd ((oX.1 hr).1 c hcm) h
  refine aaX (by simp_all) (aav (hK3 _ _ (aaa λK5 hK5=>aaE (aaa λK6 hK6=>?_))))
  by_cases c1:c.toNat<48
  ·have c1':(c.toNat:Int)<48:=by omega
   refine aar ?_;simp[hlt,hlt',hc,c1'];apply hK6;refine abl (aah ?_);exact abe (aN.rt (t:=2) rfl 9 (by simp[(bad (by omega))]))
  ·have c1':¬(c.toNat:Int)<48:=by omega
   by_cases c2:57<c.toNat
   ·have c2':(57:Int)<(c.toNat:Int):=by omega
    refine aar ?_;simp[hlt,hlt',hc,c1',c2'];apply hK6;refine abl (aah ?_);exact abe (aN.rt (t:=2) rfl 9 (by simp_all))
   ·have c2':¬(57:Int)<(c.toNat:Int):=by omega
    refine aar ?_;simp[hlt,hlt',hc,c1',c2'];apply hK6;refine aba (aav (hK5 _ _ (aar ?_)));simp[wi];refine⟨i+1,Le.mk' _ rfl bu (by simp),⟨by omega,?_⟩,by omega⟩;intro x hx;rw[afi,fy hlt,afo]at hx;rcases hx with hx|hx
    ·exact hd x hx
    grind
 ·have he:i=s.length:=by omega
  subst he;rw[afs]at hd;refine abd (by simp) (abn (hK _ _ (aaa λK hK=>?_)))
  cases s with
  |nil=>
   refine adl (hK _ _ ?_);exact abe (aN.rt (t:=2) rfl 9 (by simp[fC]))
  |cons a l=>
   have hrow:fC (a::l)=(decide (a::l=[48]) || !decide (a=48)):=by
    unfold fC;rw[decide_eq_true (DR hd)];simp
   have ha:((a.toNat:Int)=48)↔a=48:=by
    constructor
    ·intro h;exact UInt8.toNat_inj.1 (by grind)
    ·simp_all
   have hpos:(0:Int)<((l.length:Int)+1):=by omega
   by_cases h0:a::l=[48]
   ·obtain⟨rfl,rfl⟩:=List.cons.inj h0;refine acK @eqStr (hK _ _ ?_);exact abe (aN.rt (t:=2) rfl 9 (by simp[hrow]))
   ·refine aar ?_;simp[eqStr,h0,hpos];apply hK;exact abe (aN.rt (t:=2) rfl 9 (by simp_all))
def Mj(l:List Nat):LB:=if l=[]then .hole else .cells true false 2 (wK .i64 l)
def Q2(l:List Nat):AV:=if l=[]then .c (.d .nilsl)else .c (.aH 0 0 l.length 1)
theorem W5{lv:Key->LB}{k:Key}(h:lv k=.hole):az lv k .hole=lv:=by
 funext j
 simp_all
theorem abS(j:Nat):10^(9*j)=1000000000^j:=by rw[afp]
theorem DP(h:wL s)(n:Nat):wL (s.take n):=λc hc=>h c (afK hc)
theorem Gq(h:wL s)(n:Nat):wL (s.drop n):=λc hc=>h c (afv hc)
theorem A9(G:List (List DV))(s:List UInt8)(hd:wL s)(hne:s≠[])(hl:s.length<=100000):aa Tryz.prog G 91 [.c (.d (.str s))] (nK .i64 (some (aG 1000000000 (aS s 0)))):=by
 have hbs:∀(lv:Key->LB) (h:lv 1=.hole) (a:CV),ak Tryz.prog 53 1 [0] lv 1 [.c a]=some (.c (.aH 1 0 1 1),[(1,.cells true false 2 [a])],[],True):=λlv h a=>Gv lv 1 h a
 refine aa.Uk Tryz.func91 rfl λ_=>aah ?_;refine aah ?_;refine aaa λK hK=>aah ?_;refine aaE ?_
 refine abr (λ(p:List Nat)=>⟨aU [(0,.c (.d (.str s))),(3,Q2 p),(4,.c (.d (.int .i64 ((s.length:Int)-9*(p.length:Int)))))],az (λ_=>.hole) 0 (Mj p)⟩) 1
  (λp=>ok 1000000000 p/\val 1000000000 p=aS (s.drop (s.length-9*p.length)) 0/\(9*p.length<s.length+9)) (λp=>s.length+9-9*p.length) [] (Le.mk' _ (W5 rfl).symm bu (by simp[Q2])) ⟨cJ _,by simp[aS],by simp⟩ ?_
 rintro p ⟨h1,h2,h3⟩;obtain⟨z,hz⟩:∃z:Int,(s.length:Int)-9*(p.length:Int)=z:=⟨_,rfl⟩
 simp only[hz];refine aaa λK3 hK3=>aah ?_
 by_cases hgo:0<z
 ·obtain⟨i,rfl⟩:∃i:Nat,z=i:=⟨z.toNat,by omega⟩
  have hi:s.length-9*p.length=i:=by omega
  have hil:i<=s.length:=by omega
  rw[hi]at h2;obtain⟨lo,hlo⟩:∃lo,i-9=lo:=⟨_,rfl⟩
  obtain⟨y,hy⟩:∃y:Int,(i:Int)-9=y:=⟨_,rfl⟩
  have w1:IntKind.i64.wrap ((i:Int)-9)=y:=by rw[bB (by omega) (by omega)];exact hy
  have hmx:(if y<0 then 0 else y)=(lo:Int):=by split<;>omega
  have w9:=bB (n:=(i:Int)-9) (by omega) (by omega);rw[hy]at w9;refine aaX (by simp<;>omega) (aav (hK3 _ _ (aaa λK5 hK5=>aaE (aah ?_))));refine aaa λK6 hK6=>aaF λK7 hK7=>?_;simp[dF,w1,hmx];apply hK7;refine aaE ?_
  refine abr (λ(k:Nat)=>⟨aU [(0,.c (.d (.str s))),(3,Q2 p),(4,.c (.d (.int .i64 (i:Int)))),(5,.c (.d (.int .i64 ((aS ((s.take k).drop lo) 0:Nat):Int)))),(6,.c (.d (.int .i64 (k:Int))))],az (λ_=>.hole) 0 (Mj p)⟩) 1
   (λk=>lo<=k/\k<=i) (λk=>i-k) lo (Le.keys [(0,0,Mj p)] 19 _ rfl rfl (by simp) (by simp) (by simp) ?_ ?_) ⟨bh _,by omega⟩ ?_
  ·intro e he;simp only[aY,cy,or_false]at he;subst he;simp only[aA];unfold Mj;split
   ·rfl
   ·exact lz .i64 2 p _
  ·have e0:List.drop lo (List.take lo s)=[]:=aeH (by grind);simp[e0,aS];unfold Q2;split<;>simp[b6]
  rintro k ⟨k1,k2⟩;refine aaa λK8 hK8=>aah ?_
  by_cases hlk:k<i
  ·have hks:k<s.length:=by omega
   have hks':(k:Int)<(s.length:Int):=by omega
   obtain⟨c,hc⟩:∃c,s[k]=c:=⟨_,rfl⟩
   have hcd:=hd c (by grind);have hlt:=oe (Gq (DP hd k) lo);have hln:(List.drop lo (List.take k s)).length=k-lo:=by rw[afm,aej];omega
   have hp9:10^(List.drop lo (List.take k s)).length<=10^8:=ael (by decide) (by omega)
   have hnx:aS ((s.take (k+1)).drop lo) 0=10*aS ((s.take k).drop lo) 0+(c.toNat-48):=by
    have e:(s.take (k+1)).drop lo=(s.take k).drop lo++[c]:=by
     rw[afi,fy hks,hc,List.drop_append,show lo-(List.take k s).length=0 by grind];rfl
    rw[e,k5];rfl
   obtain⟨N0,hN0e⟩:∃N0,aS ((s.take k).drop lo) 0=N0:=⟨_,rfl⟩
   obtain⟨N1,hN1e⟩:∃N1,aS ((s.take (k+1)).drop lo) 0=N1:=⟨_,rfl⟩
   rw[hN0e]at hlt hnx;rw[hN1e]at hnx;simp only[hN0e];have hN0:N0<=100000000:=by omega
   have v1:IntKind.i64.wrap (10*(N0:Int))=((10*N0:Nat):Int):=by rw[bB (by omega) (by omega)];omega
   have v2:IntKind.u8.wrap ((c.toNat:Int)-48)=((c.toNat-48:Nat):Int):=by rw[cj ⟨by simp only[wG];omega,by simp only[og];omega⟩];omega
   have v3:=bB (n:=((c.toNat-48:Nat):Int)) (by omega) (by omega);have v4:IntKind.i64.wrap (((10*N0:Nat):Int)+((c.toNat-48:Nat):Int))=(N1:Int):=by rw[bB (by omega) (by omega)];omega
   have v5:=bB (n:=(k:Int)+1) (by omega) (by omega);refine aaX (by simp_all) (aav (hK8 _ _ (aaa λK9 hK9=>aaE (aar ?_))));simp[hks,hks',hc,v1,v2,v3,v4,-Int.natCast_mul];apply hK9;refine aar ?_;simp[v5];refine⟨k+1,Le.keys [(0,0,Mj p)] 19 _ rfl rfl (by simp) (by simp) (by simp) ?_ ?_,⟨by omega,by omega⟩,by omega⟩
   ·intro e he;simp only[aY,cy,or_false]at he;subst he;simp only[aA];unfold Mj;split
    ·rfl
    ·exact lz .i64 2 p _
   ·simp[hN1e];unfold Q2;split<;>simp[b6]
  ·obtain rfl:k=i:=by omega
   refine abd (by simp) (abn (hK6 _ _ ?_));refine acO 1 ?_;have hlt:=oe (Gq (DP hd k) lo);have hln:(List.drop lo (List.take k s)).length=k-lo:=by rw[afm,aej];omega
   have hp9:10^(List.drop lo (List.take k s)).length<=10^9:=ael (by decide) (by omega)
   have hv:aS (s.drop lo) 0=aS ((s.take k).drop lo) 0*1000000000^p.length+aS (s.drop k) 0:=by
    have e:s.drop lo=(s.take k).drop lo++s.drop k:=by
     conv=>lhs;rw[<-afh k s]
     rw[List.drop_append,show lo-(List.take k s).length=0 by grind];rfl
    have e2:(s.drop k).length=9*p.length:=by rw[afm];omega
    rw[e,k5,fR,e2,abS]
   have hz2:(s.length:Int)-9*(((p.length+1:Nat)):Int)=y:=by omega
   have hz3:s.length-9*(p.length+1)=lo:=by omega
   obtain⟨N,hN⟩:∃N,aS ((s.take k).drop lo) 0=N:=⟨_,rfl⟩
   simp only[hN]at hlt hv ⊢;have hok:ok 1000000000 (p++[N]):=cH.2 ⟨h1,bD.2 ⟨by omega,cJ _⟩⟩
   have hvl:val 1000000000 (p++[N])=aS (s.drop (s.length-9*(p++[N]).length)) 0:=by
    rw[ad6,aeU,hz3,fB,h2,hv,aea];omega
   have hB1:Mj (p++[N])=.cells true false 2 (wK .i64 (p++[N])):=if_neg (by simp);have hV1:Q2 (p++[N])=.c (.aH 0 0 (p.length+1) 1):=by unfold Q2;rw[if_neg (by simp)];simp
   by_cases hp:p=[]
   ·subst hp;refine aar ?_;simp[Q2,Mj,hbs,fc,keyOf,-ak];apply hK5;refine aar ?_;simp[w1];refine⟨[]++[N],Le.keys [(0,2,Mj ([]++[N]))] 19 _ rfl rfl (by simp) (by simp) (by simp) ?_ ?_,⟨hok,hvl,by simp<;>omega⟩,by simp⟩
    ·intro e he;simp only[aY,cy,or_false]at he;subst he;rw[hB1];simpa[wK]using lz .i64 2 ([]++[N]) _
    ·rw[hV1];have hz2':(s.length:Int)-9=y:=by simpa using hz2
     simp[b6,hz2']
   ·have hB0:Mj p=.cells true false 2 (wK .i64 p):=if_neg hp;have hV0:Q2 p=.c (.aH 0 0 p.length 1):=if_neg hp;refine aar ?_;simp[hB0,hV0,hbs,fc,keyOf,Df,-ak]
    repeat refine aj ?_
    apply hK5;refine aar ?_;simp[w1];refine⟨p++[N],Le.keys [(0,2,Mj (p++[N]))] 19 _ rfl rfl (by simp) (by simp) (by simp) ?_ ?_,⟨hok,hvl,by simp;omega⟩,by simp;omega⟩
    ·intro e he;simp only[aY,cy,or_false]at he;subst he;rw[hB1];simpa using lz .i64 2 (p++[N]) _
    ·rw[hV1];have hz2':(s.length:Int)-9*((p.length:Int)+1)=y:=by simpa using hz2
     simp[b6,hz2']
 ·have hp:p≠[]:=by
   intro e;subst e;have:=List.length_pos_iff.2 hne;simp at hz;omega
  have hB0:Mj p=.cells true false 2 (wK .i64 p):=if_neg hp;have hV0:Q2 p=.c (.aH 0 0 p.length 1):=if_neg hp;have h0:s.length-9*p.length=0:=by omega
  rw[h0,aeu]at h2;have hout:dg p=aG 1000000000 (aS s 0):=ei (by decide) h1 h2;rw[hB0,hV0];refine abd (by simp_all) (abn (hK _ _ (aaF λK hK=>?_)));simp;refine gH.qG (T:=2) (k:=.i64) (l:=p) 1 9 0 (by simp) (by omega) (jI _ _ (by omega)) (by simp) (by simp) (by simp) ?_;simp;apply hK;exact abe (aN.rt (t:=2) rfl 9 (by simp[hout]))
def KB(d:Nat):UInt8:=UInt8.ofNat (48+d)
theorem mA{d:Nat}(h:d<10):(KB d).toNat=48+d:=by simp[KB];omega
theorem QO{c:UInt8}(h:48<=c.toNat/\c.toNat<=57):KB (c.toNat-48)=c:=UInt8.toNat_inj.1 (by rw[mA (by omega)];omega)
def D9(n:Nat):Nat->List UInt8
 |0=>[]
 |i+1=>KB (n/10^i%10)::D9 n i
theorem w8(n:Nat):∀i,(D9 n i).length=i
 |0=>rfl
 |i+1=>by rw[D9,aef,w8 n i]
theorem UD(n:Nat):∀i,wL (D9 n i)
 |0=>λc hc=>by cases hc
 |i+1=>λc hc=>by
  rw[D9]at hc;rcases List.mem_cons.1 hc with rfl|hc
  ·rw[mA (by omega)];omega
  ·exact UD n i c hc
theorem Um(n:Nat):∀i,aS (D9 n i) 0=n%10^i
 |0=>by simp[D9,aS,Nat.mod_one]
 |i+1=>by
  have ih:=Um n i
  have e:aS (D9 n (i+1)) 0=(n/10^i%10)*10^i+n%10^i:=by
   rw[D9];show aS (D9 n i) (10*0+((KB (n/10^i%10)).toNat-48))=_;rw[fR,ih,w8,mA (by omega),afb,aeC,aff]
  rw[e,adR,Nat.mod_mul,aea,afP]
theorem tP(s t:List UInt8):aO Tryz.prog .add 9 (.c (.d (.str s))) (.c (.d (.str t)))=some (.c (.d (.str (s++t))),[],[],s.length+t.length<=9223372036854775807):=by
 rfl
theorem Wx:eW Tryz.prog 149=some (5,1):=by simp
theorem Z2(lv:Key->LB)(κ:Key)(h:lv κ=.hole)(a:CV):ak Tryz.prog 149 1 [0] lv κ [.c a]=some (.c (.aH κ 0 1 1),[(κ,.cells true false 5 [a])],[],True):=by
 unfold ak;rw[h];rfl
theorem Lq(G:List (List DV))(n:Nat)(hn:n<1000000000):aa Tryz.prog G 148 [.c (.d (.int .i64 (n:Int)))] (.c (.d (.str (D9 n 9)))):=by
 have hbs:∀(lv:Key->LB) (h:lv 0=.hole) (a:CV),ak Tryz.prog 149 1 [0] lv 0 [.c a]=some (.c (.aH 0 0 1 1),[(0,.cells true false 5 [a])],[],True):=λlv h a=>Z2 lv 0 h a
 refine aa.Uk Tryz.func148 rfl λ_=>aah ?_;refine aah ?_;refine aaa λK hK=>aah ?_;refine aaE ?_;refine abr (λ(i:Nat)=>⟨aU [(0,.c (.d (.int .i64 ((n/10^i:Nat):Int)))),(3,.c (.d (.str (D9 n i)))),(4,.c (.d (.int .i64 (i:Int))))],λ_=>.hole⟩) 0 (λi=>i<=9) (λi=>9-i) 0 (Le.mk' _ rfl bu (by simp[D9])) (by omega) ?_;intro i hi
 try simp only at hi
 have hle:n/10^i<=n:=afq _ _;have hnx:n/10^(i+1)=n/10^i/10:=by rw[adR,afY]
 have hds:D9 n (i+1)=KB (n/10^i%10)::D9 n i:=rfl;have hdl:=w8 n i;obtain⟨q,hq⟩:∃q,n/10^i=q:=⟨_,rfl⟩
 obtain⟨T,hT⟩:∃T,D9 n i=T:=⟨_,rfl⟩
 rw[hq]at hle hnx hds;rw[hT]at hds hdl;simp only[hq,hT];refine aaa λK3 hK3=>aah ?_
 by_cases hlt:i<9
 ·have hlt':(i:Int)<9:=by omega
  have e1:(q:Int).tmod 10=((q%10:Nat):Int):=zD q 10;have e2:IntKind.i64.wrap (48+((q%10:Nat):Int))=((48+q%10:Nat):Int):=by rw[bB (by omega) (by omega)];omega
  have e3:IntKind.u8.wrap ((48+q%10:Nat):Int)=((48+q%10:Nat):Int):=cj ⟨by simp only[wG];omega,by simp only[og];omega⟩;have e4:(q:Int).tdiv 10=((q/10:Nat):Int):=sQ q 10;have w4:=bB (n:=((q/10:Nat):Int)) (by omega) (by omega);have w5:=bB (n:=(i:Int)+1) (by omega) (by omega);refine aaX (by simp_all) (aav (hK3 _ _ (aaa λK5 hK5=>aaE (aaa λK6 hK6=>?_))));refine AW.tK ?_;refine mO.run 5 rfl ?_;simp[e1,e2,e3,hbs,-ak,-Int.natCast_add,-Int.natCast_emod];refine mO.P7 (κ:=0) (off:=0) (own:=true) (fz:=false) (T':=5) (e:=5) (cs:=[.d (.int .u8 ((48+q%10:Nat):Int))]) (n:=((48+q%10:Nat):Int)) 1 rfl rfl rfl (by simp) (by simp) (by simp) Wx Tryz.underlying5 (by simp) ?_;refine mO.run 3 rfl ?_;simp[tP]
  repeat refine aj ?_
  refine mO.done ?_;apply hK6;refine aar ?_;simp[e4,w4,-Int.natCast_ediv];apply hK5;refine aar ?_;simp[w5];refine⟨i+1,Le.keys [] 19 _ rfl rfl (by simp) (by simp) (by simp) (by simp) ?_,by omega,by omega⟩
  have f0:(q:Int)/10=(n:Int)/10^(i+1):=by
   have:=congrArg (λx:Nat=>(x:Int)) hnx;simpa using this.symm
  have f1:(48+(q:Int)%10).toNat=48+q%10:=by omega
  simp[hds,KB]
  simp_all
 ·obtain rfl:i=9:=by omega
  refine abd (by rfl) (abn (hK _ _ (aah ?_)));exact abe (aN.rt (t:=2) rfl 9 (by simp[hT]))
def vB:Nat->Nat->List UInt8
 |0,n=>[KB n]
 |f+1,n=>if n<10 then[KB n]else vB f (n/10)++[KB (n%10)]
def jy(n:Nat):List UInt8:=vB n n
theorem Cn:∀(f n:Nat),n<=f->vB f n=jy n
 | 0,n,h=>by have:n=0:=by omega
             subst this;rfl
 |f+1,n,h=>by
  unfold jy
  by_cases h10:n<10
  ·cases n with
   |zero=>rfl
   |succ n=>rw[vB,if_pos h10,vB,if_pos h10]
  ·obtain⟨m,rfl⟩:∃m,n=m+1:=⟨n-1,by omega⟩
   rw[vB,if_neg h10,vB,if_neg h10,Cn f ((m+1)/10) (by omega),Cn m ((m+1)/10) (by omega)]
theorem Ds(h:n<10):jy n=[KB n]:=by
 unfold jy
 cases n with
 |zero=>rfl
 |succ n=>rw[vB,if_pos h]
theorem B7(h:¬n<10):jy n=jy (n/10)++[KB (n%10)]:=by
 obtain⟨m,rfl⟩:∃m,n=m+1:=⟨n-1,by omega⟩
 conv=>lhs;unfold jy
 rw[vB,if_neg h,Cn m ((m+1)/10) (by omega)]
theorem Bf(l:List UInt8)(c:UInt8):aS (l++[c]) 0=10*aS l 0+(c.toNat-48):=by rw[k5];rfl
theorem R1(h:wL l)(hne:l≠[])(h0:l.getD 0 0≠48):1<=aS l 0:=by
 cases l with
 |nil=>grind
 |cons c l=>
  have hc:=h c (by simp);have hc48:c≠48:=h0;have hcn:c.toNat≠48:=λe=>hc48 (UInt8.toNat_inj.1 (by rw[e];rfl))
  show 1<=aS l (10*0+(c.toNat-48));rw[fR];have:1*1<=(10*0+(c.toNat-48))*10^l.length:=aeK (by omega) (aeb (by decide));omega
theorem Ob:∀(k:Nat) (s:List UInt8),s.length=k->isRow s->s=jy (aS s 0)
 |0,s,hk,h=>absurd (afM hk) h.2.1
 |k+1,s,hk,⟨h1,h2,h3⟩=>by
  rcases afW s with rfl|⟨l,c,rfl⟩
  ·grind
  ·rw[afX]at *
   have hc:=h1 c (by simp);have hl:wL l:=λx hx=>h1 x (by simp[hx])
   rw[Bf]
   by_cases hle:l=[]
   ·subst hle;show [c]=jy (10*aS [] 0+(c.toNat-48));rw[show 10*aS [] 0+(c.toNat-48)=c.toNat-48 by simp[aS],Ds (by omega),QO hc]
   ·have h0:l.getD 0 0≠48:=by
     rcases h3 with h3|h3
     ·exfalso;have:=congrArg List.length h3;simp at this;exact hle this
     ·cases l with
      |nil=>exact absurd rfl hle
      |cons a l=>exact h3
    have hp:=R1 hl hle h0;have ih:=Ob k l (by grind) ⟨hl,hle,.inr h0⟩;rw[B7 (by omega),show(10*aS l 0+(c.toNat-48))/10=aS l 0 by omega,show(10*aS l 0+(c.toNat-48))%10=c.toNat-48 by omega,<-ih,QO hc]
theorem xe(h:isRow s):s=jy (aS s 0):=Ob _ s rfl h
theorem AN(G:List (List DV))(A:Nat)(o:Option (List Nat))(ho:dO o=aG 1000000000 A)(hl:(aG 1000000000 A).length<=100000000000):aa Tryz.prog G 101 [.c (rC o)] (.c (.d (.str (jy A)))):=by
 have hok:=(bx (B:=1000000000) (by decide) A).1;have hval:=bn (B:=1000000000) (by decide) A;obtain⟨D,hD⟩:∃D,aG 1000000000 A=D:=⟨_,rfl⟩
 rw[hD]at hok hval hl ho;have nineG:=λn h=>Lq G n h
 rw[<-iV];have hw0:=bB (n:=(D.length:Int)-1) (by omega) (by omega);refine aa.en Tryz.func101 rfl λ_=>aah ?_;refine aah ?_;refine aaa λK hK=>ace ho hw0 ?_;refine aaE ?_
 refine abr (λ(p:Nat×List UInt8)=>⟨aU [(0,nK .i64 o),(3,.c (.d (.str p.2))),(4,.c (.d (.int .i64 ((p.1:Int)-1))))],λ_=>.hole⟩) 0
  (λp=>p.1<=D.length/\wL p.2/\aS p.2 0=val 1000000000 (D.drop p.1)/\p.2.length=9*(D.length-p.1)) (λp=>p.1) (D.length,[]) (Le.mk' _ rfl bu (by simp[])) ⟨bh _,λc hc=>(by cases hc),by simp[aS],by simp⟩ ?_
 rintro⟨k,S⟩ ⟨h1,h2,h3,h4⟩;simp only at h1 h2 h3 h4;refine aaa λK3 hK3=>aah ?_
 cases k with
 |succ k=>
  have hk:k<D.length:=by omega
  have hko:k<(dO o).length:=by rw[ho];exact hk
  have e2:((k+1:Nat):Int)-1=k:=by omega
  simp only[e2];obtain⟨x,hx⟩:∃x,(dO o)[k]=x:=⟨_,rfl⟩
  have hxD:D[k]=x:=by rw[<-hx];congr 1;exact ho.symm
  have hxB:x<1000000000:=by rw[<-hxD];exact hok _ (aT hk)
  have hv:=cR (B:=1000000000) hk;rw[hxD]at hv;have nn:=nineG x hxB;have hnd:=UD x 9;have hnv:=Um x 9;have hnl:=w8 x 9;obtain⟨T,hT⟩:∃T,D9 x 9=T:=⟨_,rfl⟩
  rw[hT]at nn hnd hnv hnl;have w9:=bB (n:=(k:Int)-1) (by omega) (by omega);refine abl (aav (hK3 _ _ (aaa λK5 hK5=>aaE (aar ?_))));simp[hko,hx];refine ag.p 0 9 nn ?_;simp[tP]
  repeat refine aj ?_
  apply hK5;refine aar ?_;simp[w9];refine⟨k,S++T,Le.mk' _ rfl bu (by simp),⟨by omega,?_,?_,?_⟩,by omega⟩
  ·intro c hc;rcases List.mem_append.1 hc with hc|hc
   ·exact h2 c hc
   ·exact hnd c hc
  ·rw[k5,fR,hnv,hnl,h3,hv,aem hxB];omega
  grind
 |zero=>
  rw[aeu,hval]at h3;refine aba (abn (hK _ _ (aaa λK hK=>aaE ?_)))
  refine abr (λ(S:List UInt8)=>⟨aU [(3,.c (.d (.str S)))],λ_=>.hole⟩) 0
   (λS=>wL S/\aS S 0=A/\S.length<=9*D.length) (λS=>S.length) S (Le.mk' _ rfl bu (by simp)) ⟨h2,h3,by omega⟩ ?_
  rintro S ⟨q1,q2,q3⟩
  have fin:∀(fr:Nat->AV) (κ:Nat),S≠[]->isRow S->fr 3=.c (.d (.str S))->K ⟨fr,λ_=>.hole⟩ κ:=by
   intro fr κ hne hr z3;have hrd:=xe hr;rw[q2]at hrd;apply hK;refine aaa λK6 hK6=>adG z3 @xM hne ?_;refine aba (aav (hK6 _ _ (abf z3 ?_)));exact abe (aN.rt (t:=2) rfl 9 (by simp_all))
  refine aaa λK4 hK4=>aaa λK5 hK5=>?_
  cases S with
  |nil=>
   have hA:A=0:=q2.symm;refine adl (hK5 _ _ ?_);refine aba (abn (hK _ _ (aaa λK6 hK6=>abf @xM ?_)));refine abl (adl (hK6 _ _ ?_));refine aah ?_;have hs:jy A=[48]:=by rw[hA];rfl
   exact abe (aN.rt (t:=2) rfl 9 (by simp[hs]))
  |cons c l=>
   have hc:=q1 c (by simp)
   cases l with
   |nil=>
    refine adl (hK5 _ _ ?_);refine aba (abn ?_);simp;refine fin _ _ (by simp) ⟨q1,by simp,?_⟩ (by simp)
    grind
   |cons d l=>
    have hl2:(1:Int)<((l.length:Int)+1+1):=by omega
    have hl3:(0:Int)<((l.length:Int)+1+1):=by omega
    have ll:l.length<=900000000000:=by simp at q3;omega
    by_cases h:c=48
    ·subst h;refine aar ?_;simp[hl2,hl3];apply hK5;refine abl (aav (hK4 _ _ (aaE (aar ?_))));simp
     repeat refine aj ?_
     have ht:List.take (((l.length:Int)+1+1).toNat) ((48:UInt8)::d::l)=48::d::l:=ae6 (by simp;omega);exact⟨d::l,Le.mk' _ rfl bu (by simp[ht]),⟨λx hx=>q1 x (aew _ hx),q2,by grind⟩,by simp⟩
    ·have hcn:¬(c.toNat:Int)=48:=λe=>h (UInt8.toNat_inj.1 (by grind))
     have hcn2:¬c.toNat=48:=by omega
     refine aar ?_;simp[hl2,hl3,hcn];apply hK5;refine aba (abn ?_);simp;exact fin _ _ (by simp) ⟨q1,by simp,.inr h⟩ (by simp)
def wH(x:Rat):List UInt8:=(if x.num<0 then[45]else[])++jy x.num.natAbs++(if x.den=1 then[]else[47]++jy x.den)
theorem KH{L:Nat}(h:n<10^L)(hL:1<=L):(jy n).length<=L:=by
 induction L generalizing n with
 |zero=>omega
 |succ L ih=>
  by_cases h10:n<10
  ·rw[Ds h10];simp
  ·rw[B7 h10,ad6,aeU]
   grind
theorem JC(n:Nat):(jy n).length<=10*nl n+1:=by
 have h1:=zJ n;have h2:4294967296^nl n<=(10^10)^nl n:=af2 (by decide) _;rw[<-afp]at h2;have h3:n<10^(10*nl n+1):=aeB (aeB h1 h2) (ael (by decide) (by omega));exact KH h3 (by omega)
theorem Ts{x:Rat}:dY x<0↔x.num<0:=by
 unfold dY;omega
theorem AM(G:List (List DV))(x:Rat)(hx:br x 20000000000):aa Tryz.prog G 56 [cC x] (.c (.d (.str (wH x)))):=by
 have h1:=R7 hx.1;have h2:=R7 hx.2;have t1:=AN G x.num.natAbs (dZ x) (n8 x) (by omega);have ii:=Ig G x;have l1:=JC x.num.natAbs;have l2:=JC x.den;have hx1:=hx.1;have hx2:=hx.2;have hn:=Ts (x:=x)
 have t2:¬x.den=1->aa Tryz.prog G 101 [.c (rC (eL x))] (.c (.d (.str (jy x.den)))):=λh=>by
  have h0:x.num≠0:=λe=>h (FG e)
  refine AN G x.den (eL x) (by rw[I7 h0];rfl) (by omega)
 have hS:wH x=(if x.num<0 then[45]else[])++jy x.num.natAbs++(if x.den=1 then[]else[47]++jy x.den):=rfl;generalize wH x=Z at *
 generalize jy x.num.natAbs=P at *
 generalize jy x.den=Q at *
 refine aa.en Tryz.func56 rfl λ_=>aah ?_;refine acH 1 t1 ?_;refine aaa λK hK=>?_
 have fin:∀(S:List UInt8) (fr:Nat->AV) (κ:Nat),S=(if x.num<0 then[45]else[])++P->fr 1=.c (.ptr 0 0)->fr 3=.c (.d (.str S))->K ⟨fr,az (λ_=>.hole) 0 (.cells true false 55 [.d (.int .i64 (dY x)),rC (dZ x),rC (eL x)])⟩ κ:=by
  intro S fr κ hSe z1 z3;have hSl:S.length<=P.length+1:=by rw[hSe];split<;>simp<;>omega
  rw[<-hSe]at hS;apply hK;refine aaa λK1 hK1=>aaa λK2 hK2=>?_
  by_cases hd:x.den=1
  ·rw[if_pos hd,aei]at hS;refine AW.m2 1 ii z1 hd (hK2 _ _ ?_);refine aba (aav (hK1 _ _ (abf z3 ?_)));exact abe (aN.rt (t:=2) rfl 9 (by simp[hS]))
  ·have t2':=t2 hd;rw[if_neg hd]at hS;refine AW.m2 1 ii z1 hd (hK2 _ _ ?_);refine abl (aar ?_);simp[z1,z3,tP]
   repeat refine aj ?_
   refine ag.pure 1 9 t2' (by simp) (by simp) (by simp) ?_;simp[tP]
   repeat refine aj ?_
   apply hK1;refine aah ?_;exact abe (aN.rt (t:=2) rfl 9 (by simp[hS]))
 refine aaa λK1 hK1=>?_
 by_cases hneg:x.num<0
 ·have hr:=hn.2 hneg;refine acK hr (hK1 _ _ ?_);refine abl (aar ?_);simp[tP]
  repeat refine aj ?_
  simp_all
 ·have hr:¬dY x<0:=λh=>hneg (hn.1 h)
  refine acK hr (hK1 _ _ ?_);refine aba (aav ?_)
  simp_all
theorem aN.ZZ{t1 t2 t3 t4:Nat}{s:aB}(hr:fn.results=#[.tmp t1,.tmp t2,.tmp t3,.tmp t4])(kh:Key)(hx:s.fr t1=x)(hy:s.fr t2=y)(hz:s.fr t3=z)(hu:s.fr t4=u)(hp:x.pure=true)(hq:y.pure=true)(hw:z.pure=true)(hv:u.pure=true)(hh:s.lv kh=.hole)
 (n1:x.bZ=true) (n2:y.bZ=true) (n3:z.bZ=true) (n4:u.bZ=true) (h12:t1≠t2) (h13:t1≠t3) (h14:t1≠t4) (h23:t2≠t3) (h24:t2≠t4) (h34:t3≠t4):aN c fn (.tup [x,y,z,u]) .ret s κ:=by
 refine⟨[(t1,x),(t2,y),(t3,z),(t4,u)],kh,by grind,hh,?_⟩;rw[hr];simp[eE,kZ,mN,aU,h12.symm,h13.symm,h14.symm,h23.symm,h24.symm,h34.symm,n1,n2,n3,n4]
theorem yA:∀{s:List UInt8},(∀c∈s,c≠47)->lN s [47] = -1
 |[],_=>rfl
 |a::s,h=>by
  have ha:=h a (by simp);have ih:=yA (s:=s) λc hc=>h c (by simp[hc])
  unfold lN at ih ⊢;rw[Lib.index]
  grind
theorem Ho:∀{a b:List UInt8},(∀c∈a,c≠47)->lN (a++47::b) [47]=a.length
 |[],b,_=>by rfl
 |x::a,b,h=>by
  have hx:=h x (by simp);have ih:=Ho (a:=a) (b:=b) λc hc=>h c (by simp[hc])
  unfold lN at ih ⊢;rw[aeX,Lib.index]
  grind
def rwT(s:List UInt8):List UInt8:=uO s [47]
def XQ(s:List UInt8):List UInt8:=if 0<=lN s [47]then tC s [47]else[49]
def DX(neg:Bool):Int:=if neg then -1 else 1
abbrev Ux(neg:Bool)(s:List UInt8):AV:=.tup [.c (.d (.str (rwT s))),.c (.d (.str (XQ s))),.c (.d (.int .i64 (DX neg))),.c (.d (.bool (!jj neg (uO s [47]) (tC s [47]) (decide (0<=lN s [47])))))]
theorem Ma(G:List (List DV))(r:List UInt8):aa Tryz.prog G 89 [.c (.d (.str r))] (Ux (uH r [45]) (lX r [45])):=by
 refine aI.lJ 0 (by simp) (λV v h=>(show r.length<=9223372036854775807 by cases h.1 with|str _ hl=>exact hl)) λhs=>?_;have rowG:=λs=>Pr G s
 have hsl:(lX r [45]).length<=r.length:=by unfold lX;split<;>simp
 have hdec:(uH r [45]=true/\∃l,r=45::l/\lX r [45]=l)\/(uH r [45]=false/\lX r [45]=r/\(r=[]\/∃c l,r=c::l/\c≠45)):=by
  cases r with
  |nil=>exact .inr ⟨rfl,rfl,.inl rfl⟩
  |cons c l=>
   by_cases hc:c=45
   ·subst hc;have:uH (45::l) [45]=true:=by simp[uH]
    exact .inl ⟨this,l,rfl,by rfl⟩
   ·have:uH (c::l) [45]=false:=by simp[uH,hc]
    exact .inr ⟨this,by unfold lX;grind,.inr ⟨c,l,rfl,hc⟩⟩
 generalize lX r [45]=s at *
 generalize uH r [45]=neg at *
 refine aa.en Tryz.func89 rfl λ_=>aah ?_;refine aah ?_;refine aaa λK hK=>?_
 have main:∀(fr:Nat->AV) (κ:Nat),fr 6=.c (.d (.str s))->fr 7=.c (.d (.int .i64 (DX neg)))->K ⟨fr,λ_=>.hole⟩ κ:=by
  intro fr κ z6 z7;apply hK;refine aaa λK hK=>aah ?_;refine aaE ?_;refine abr (λ(i:Nat)=>⟨aU [(6,.c (.d (.str s))),(7,.c (.d (.int .i64 (DX neg)))),(8,.c (.d (.int .i64 (i:Int))))],λ_=>.hole⟩) 0 (λi=>i<=s.length/\∀c∈s.take i,c≠47) (λi=>s.length-i) 0 (Le.mk' _ rfl bu (by simp_all)) ⟨aa2 _,λc hc=>by simp at hc⟩ ?_;rintro i ⟨hi,hd⟩;refine aaa λK3 hK3=>aah ?_
  by_cases hlt:i<s.length
  ·have hlt':(i:Int)<(s.length:Int):=by omega
   have wi:=bB (n:=(i:Int)+1) (by omega) (by omega);obtain⟨c,hc⟩:∃c,s[i]=c:=⟨_,rfl⟩
   refine aaX (by simp_all) (aav (hK3 _ _ (aaa λK5 hK5=>aaE (aaF λK6 hK6=>?_))));simp[hlt,hlt',hc];apply hK6
   by_cases h47:c=47
   ·have hcn:(c.toNat:Int)=47:=by rw[h47];rfl
    have hcn2:c.toNat=47:=by rw[h47];rfl
    have hsp:s=s.take i++47::s.drop (i+1):=by
     conv=>lhs;rw[<-afh i s,adT hlt,hc,h47]
    have hidx:lN s [47]=i:=by
     have:=Ho (b:=s.drop (i+1)) hd;rw[<-hsp,aej,aeM (by omega)]at this;exact this
    have hge:0<=lN s [47]:=by rw[hidx];omega
    have hA:uO s [47]=s.take i:=by unfold uO;rw[if_pos hge,hidx,aeA]
    have hB:tC s [47]=s.drop (i+1):=by unfold tC;rw[if_pos hge,hidx,aeA];rfl
    have hT:rwT s=s.take i:=hA;have hB2:XQ s=s.drop (i+1):=by unfold XQ;rw[if_pos hge,hB]
    have hbad:(!jj neg (uO s [47]) (tC s [47]) (decide (0<=lN s [47])))=(fC (s.take i)&&fC (s.drop (i+1))&&!decide (s.drop (i+1)=[48])&&!decide (s.drop (i+1)=[49])&&(!decide (s.take i=[48]) ||decide (0<DX neg))):=by
     rw[hA,hB,decide_eq_true hge];unfold jj DX
     cases fC (s.take i)<;>cases fC (s.drop (i+1))<;>cases neg<;>cases decide (s.take i=[48])<;>cases decide (s.drop (i+1)=[48])<;>cases decide (s.drop (i+1)=[49])<;>rfl
    have e1:∀l:List UInt8,(l.take ((i:Int)).toNat).drop (0:Int).toNat=l.take i:=λl=>rfl
    have hdr:(s.take ((s.length:Int)).toNat).drop ((i+1:Nat):Int).toNat=s.drop (i+1):=by rw[aeA,aeA,afs]
    obtain⟨p,hp⟩:∃p,s.take i=p:=⟨_,rfl⟩
    obtain⟨q,hq⟩:∃q,s.drop (i+1)=q:=⟨_,rfl⟩
    have rp:=rowG p;have rq:=rowG q;rw[hp]at hT;rw[hq]at hB2;rw[hp,hq]at hbad;have hp':List.drop 0 (List.take i s)=p:=hp;refine aaX (by simp[hcn2]<;>omega) (aaa λK6 hK6=>?_);refine abx mixed (by kernel_rfl) rfl ?_;simp[wi,hp,hq]
    repeat refine aj ?_
    refine⟨by kernel_rfl,?_⟩;apply hK6;refine aaa λK6 hK6=>?_
    have fin:∀(b:Bool) (fr:Nat->AV) (κ:Nat),fr 2=.c (.d (.str p))->fr 3=.c (.d (.str q))->fr 4=.c (.d (.int .i64 (DX neg)))->fr 5=.c (.d (.bool b)) ->
     b=(fC p&&fC q&&!decide (q=[48])&&!decide (q=[49])&&(!decide (p=[48]) ||decide (0<DX neg)))->K6 ⟨fr,λ_=>.hole⟩ κ:=by
     intro b fr κ z2 z3 z4 z5 hb;rw[<-hbad]at hb;apply hK6;exact aaH (κ:=0) (aN.ZZ (κ:=0) rfl 9 (by grind) (by grind) (by simp[z4]) (by grind) rfl rfl rfl rfl rfl rfl rfl rfl rfl (by decide) (by decide) (by decide) (by decide) (by decide) (by decide))
    cases r1:fC p with
    |false=>
     refine aar ?_;simp;refine ag.p 0 9 rp ?_;simp[r1];exact fin false _ _ (by simp) (by simp) (by simp) (by simp) (by simp[r1])
    |true=>
    cases r2:fC q with
    |false=>
     refine aar ?_;simp;refine ag.p 0 9 rp ?_;simp[r1];refine ag.p 0 9 rq ?_;simp[r2];exact fin false _ _ (by simp) (by simp) (by simp) (by simp) (by grind)
    |true=>
    by_cases q0:q=[48]
    ·subst q0;refine aar ?_;simp;refine ag.p 0 9 rp ?_;simp[r1];refine ag.p 0 9 rq ?_;simp[r2,v8];exact fin false _ _ (by simp) (by simp) (by simp) (by simp) (by simp)
    by_cases q1:q=[49]
    ·subst q1;refine aar ?_;simp;refine ag.p 0 9 rp ?_;simp[r1];refine ag.p 0 9 rq ?_;simp[r2,v8];exact fin false _ _ (by simp) (by simp) (by simp) (by simp) (by simp)
    by_cases p0:p=[48]
    ·subst p0;refine aar ?_;simp;refine ag.p 0 9 rp ?_;simp[r1];refine ag.p 0 9 rq ?_;simp[r2,v8,q0,q1];exact fin (decide (0<DX neg)) _ _ (by simp) (by simp) (by simp) (by simp) (by simp[r1,r2,q0,q1])
    ·refine aar ?_;simp;refine ag.p 0 9 rp ?_;simp[r1];refine ag.p 0 9 rq ?_;simp[r2,v8,q0,q1,p0];exact fin true _ _ (by simp) (by simp) (by simp) (by simp) (by grind)
   ·have hcn:¬(c.toNat:Int)=47:=λe=>h47 (UInt8.toNat_inj.1 (by grind))
    have hcn2:¬c.toNat=47:=by omega
    refine abd (by simp_all) (aav (hK5 _ _ (aar ?_)));simp[wi];refine⟨i+1,Le.mk' _ rfl bu (by simp),⟨by omega,?_⟩,by omega⟩;intro x hx;rw[afi,fy hlt,afo]at hx
    grind
  ·have he:i=s.length:=by omega
   subst he;rw[afs]at hd;have hidx:=yA hd;have hge:¬0<=lN s [47]:=by rw[hidx];decide
   have hA:uO s [47]=s:=if_neg hge;have hT:rwT s=s:=hA;have hB2:XQ s=[49]:=if_neg hge
   have hbad:(!jj neg (uO s [47]) (tC s [47]) (decide (0<=lN s [47])))=(fC s&&(!decide (s=[48]) ||decide (0<DX neg))):=by
    rw[hA,decide_eq_false hge];unfold jj DX
    cases fC s<;>cases neg<;>cases decide (s=[48])<;>rfl
   have rs:=rowG s;refine abd (by simp) (abn (hK _ _ (aaa λK6 hK6=>?_)))
   have fin:∀(b:Bool) (fr:Nat->AV) (κ:Nat),fr 2=.c (.d (.str s))->fr 3=.c (.d (.str [49]))->fr 4=.c (.d (.int .i64 (DX neg)))->fr 5=.c (.d (.bool b)) ->
    b=(fC s&&(!decide (s=[48]) ||decide (0<DX neg)))->K6 ⟨fr,λ_=>.hole⟩ κ:=by
    intro b fr κ z2 z3 z4 z5 hb;rw[<-hbad]at hb;apply hK6;exact aaH (κ:=0) (aN.ZZ (κ:=0) rfl 9 (by grind) (by grind) (by simp[z4]) (by grind) rfl rfl rfl rfl rfl rfl rfl rfl rfl (by decide) (by decide) (by decide) (by decide) (by decide) (by decide))
   cases r1:fC s with
   |false=>
    refine aar ?_;simp;refine ag.p 0 9 rs ?_;simp[r1]
    simp_all
   |true=>
   by_cases p0:s=[48]
   ·subst p0;refine aar ?_;simp;refine ag.p 0 9 rs ?_;simp[r1,v8];exact fin (decide (0<DX neg)) _ _ (by simp) (by simp) (by simp) (by simp) (by simp[r1])
   ·refine aar ?_;simp;refine ag.p 0 9 rs ?_;simp[r1,v8,p0]
    simp_all
 refine aaa λK1 hK1=>?_;rcases hdec with⟨hn,l,hr,hl⟩|⟨hn,hl,hr|⟨c,l,hr,hc⟩⟩
 ·subst hr;subst hl;have ht:List.take (((s.length:Int)+1).toNat) ((45:UInt8)::s)=45::s:=ae6 (by simp);have hp:(0:Int)<(s.length:Int)+1:=by omega
  have hll:s.length+1<=9223372036854775807:=by simpa using hs
  refine aar ?_;simp[hp];apply hK1;refine abl (aar ?_);simp
  repeat refine aj ?_
  exact main _ _ (by simp) (by simp[DX,hn])
 ·subst hr;subst hl;refine adl (hK1 _ _ ?_);refine aba (aav ?_);simp;exact main _ _ (by simp) (by simp[DX,hn])
 ·subst hr;subst hl;have hcn:¬(c.toNat:Int)=45:=λe=>hc (UInt8.toNat_inj.1 (by grind))
  have hcn2:¬c.toNat=45:=by omega
  have hp:(0:Int)<(l.length:Int)+1:=by omega
  refine aar ?_;simp[hp,hcn];apply hK1;refine aba (aav ?_);simp;exact main _ _ (by simp) (by simp[DX,hn])
attribute [local irreducible] aM
theorem BE:∀(s:List UInt8),(∀c∈s,c≠47)\/∃a b,s=a++47::b/\∀c∈a,c≠47
 |[]=>.inl λc hc=>by cases hc
 |x::s=>by
  by_cases hx:x=47
  ·subst hx;exact .inr ⟨[],s,rfl,λc hc=>by cases hc⟩
  ·rcases BE s with h|⟨a,b,h,ha⟩
   ·grind
   grind
theorem yZ:∀{a a' b b':List UInt8},(∀c∈a,c≠47)->(∀c∈a',c≠47)->a++47::b=a'++47::b'->b=b'
 |[],[],b,b',_,_,h=>(List.cons.inj h).2
 |[],x::a',b,b',_,h',h=>absurd (List.cons.inj h).1.symm (h' x (by simp))
 |x::a,[],b,b',h',_,h=>absurd (List.cons.inj h).1 (h' x (by simp))
 |x::a,y::a',b,b',h1,h2,h=>yZ (λc hc=>h1 c (by simp[hc])) (λc hc=>h2 c (by simp[hc])) (List.cons.inj h).2
theorem Iq(h:wL s):∀c∈s,c≠47:=λc hc e=>by
 have:=h c hc
 simp_all
theorem G6:∀(f n:Nat),n<=f->wL (vB f n)/\aS (vB f n) 0=n
 |0,n,h=>by
  have:n=0:=by omega
  subst this;refine⟨λc hc=>?_,rfl⟩;rw[vB,afe]at hc;rw[hc,mA (by decide)];omega
 |f+1,n,h=>by
  rw[vB]
  by_cases h10:n<10
  ·rw[if_pos h10];refine⟨λc hc=>?_,?_⟩
   ·rw[afe]at hc;rw[hc,mA h10];omega
   ·show 10*0+((KB n).toNat-48)=n;rw[mA h10];omega
  ·rw[if_neg h10];obtain⟨h1,h2⟩:=G6 f (n/10) (by omega);refine⟨λc hc=>?_,?_⟩
   ·rcases List.mem_append.1 hc with hc|hc
    ·exact h1 c hc
    ·rw[afe]at hc;rw[hc,mA (by omega)];omega
   ·rw[Bf,h2,mA (by omega)];omega
theorem MS(n:Nat):wL (jy n):=(G6 n n (bh _)).1
theorem VG(n:Nat):aS (jy n) 0=n:=(G6 n n (bh _)).2
theorem PT(r:List UInt8):r=(if uH r [45]then[45]else[])++lX r [45]:=by
 unfold lX
 cases h:uH r [45]with
 |false=>rfl
 |true=>
  unfold uH at h;simp only[aeU,rP,decide_eq_true_eq]at h;show r=[45]++r.drop 1;rw[<-h.2];have:=afh 1 r
  grind
theorem Dh(neg:Bool){P Q:Nat}(hP:P≠0)(hQ:Q≠0):wH (mkRat (dh neg P) Q)=(if neg then[45]else[])++jy (P/Nat.gcd P Q)++(if Q/Nat.gcd P Q=1 then[]else[47]++jy (Q/Nat.gcd P Q)):=by
 obtain⟨n1,n2⟩:=o5 neg (a:=P) hQ;have hg:P/Nat.gcd P Q≠0:=aeE (Nat.div_pos (agl (by omega) (agE _ _)) (agk _ (by omega)));unfold wH;rw[n1,n2,qe]
 cases neg with
 |true=>
  rw[if_pos (show dh true (P/Nat.gcd P Q)<0 from Int.neg_neg_of_pos (Int.ofNat_lt.2 (aeZ hg)))];rfl
 |false=>
  rfl
theorem A7:wH 0=[48]:=rfl
theorem Ka(neg:Bool)(Q:Nat):mkRat (dh neg 0) Q=0:=by
 have e2:dh neg 0=0:=by cases neg<;>rfl
 simp_all
theorem HK(hT:isRow T)(h0:¬(neg=true/\T=[48])):wH (mkRat (dh neg (aS T 0)) 1)=(if neg then[45]else[])++T:=by
 have hd:=xe hT
 by_cases hP:aS T 0=0
 ·rw[hP,Ka,A7];have:T=[48]:=by rw[hd,hP];rfl
  grind
 ·rw[Dh neg hP (by decide),agF,afH,afH,<-hd,if_pos rfl,aei]
theorem Ls{B:List UInt8}(hT:isRow T)(hB:isRow B)(hQ:2<=aS B 0):wH (mkRat (dh neg (aS T 0)) (aS B 0))=(if neg then[45]else[])++(T++47::B)↔Nat.gcd (aS T 0) (aS B 0)=1:=by
 have hdT:=xe hT;have hdB:=xe hB
 have h45:∀c∈(if neg then[45]else[]:List UInt8),c≠47:=by
  intro c hc;split at hc
  ·rw[afe]at hc;rw[hc];decide
  ·cases hc
 have hmem:(47:UInt8)∈(if neg then[45]else[]:List UInt8)++(T++47::B):=by simp
 constructor
 ·intro h;apply aeL;intro hg
  by_cases hP:aS T 0=0
  ·rw[hP,Ka,A7]at h
   grind
  ·rw[Dh neg hP (by omega)]at h;generalize hgg:Nat.gcd (aS T 0) (aS B 0)=g at *
   have hg0:0<g:=by rw[<-hgg];exact agk _ (by omega)
   by_cases h1:aS B 0/g=1
   ·rw[if_pos h1,aei]at h;rw[<-h]at hmem;rcases List.mem_append.1 hmem with hm|hm
    ·grind
    ·exact Iq (MS _) 47 hm rfl
   ·rw[if_neg h1,<-adX]at h
    have h2:((if neg then[45]else[])++jy (aS T 0/g))++47::jy (aS B 0/g)=((if neg then[45]else[])++T)++47::B:=by
     rw[adX,adX]at h ⊢;simpa using h
    have h3:=yZ (λc hc=>by
     rcases List.mem_append.1 hc with hc|hc
     ·grind
     ·exact Iq (MS _) c hc) (λc hc=>by
     rcases List.mem_append.1 hc with hc|hc
     ·grind
     ·exact Iq hT.1 c hc) h2
    have h4:=congrArg (λl=>aS l 0) h3;simp only[VG]at h4;have:aS B 0/g<aS B 0:=afS (by omega) (by omega);omega
 ·intro hg;have hP:aS T 0≠0:=by intro e;rw[e,agX]at hg;omega
  rw[Dh neg hP (by omega),hg,afH,afH,<-hdT,<-hdB,if_neg (show ¬aS B 0=1 by omega),adX];rfl
theorem Ra:isRow [49]:=⟨by intro c hc;simp_all,by decide,.inr (by decide)⟩
theorem Kz(s t:List UInt8):aO Tryz.prog .neq 35 (.c (.d (.str s))) (.c (.d (.str t)))=some (.c (.d (.bool (!decide (s=t)))),[],[],True):=by
 rw[<-Vy];rfl
theorem aM.C8{z:Rat}{e:Int}{t u k:Nat}{s:aB}(hr:fn.results=#[.cell t 55,.tmp u])(ht:s.fr t=.c (.ptr k 0))(hk:s.lv k=.cells true false 55 [.d (.int .i64 (dY z)),rC (dZ z),rC (eL z)])(hu:s.fr u=.c (.d (.int .i64 e)))(hP:c.P=Tryz.prog):aM c fn (.tup [cC z,.c (.d (.int .i64 e))]) .ret s κ:=
 aM.rN hr ht hk (by simp_all) hu rfl rfl
theorem QU{top bot:List UInt8}{brk:Bool}(h:jj neg top bot brk=false):isRow top/\¬(neg=true/\top=[48])/\(brk=true->isRow bot/\bot≠[48]/\bot≠[49]):=by
 obtain⟨h1,h2⟩:=IA h;refine⟨oX.1 h1,?_,λhb=>?_⟩
 ·rintro⟨rfl,rfl⟩;unfold jj at h;simp at h
 ·obtain⟨a,b,c⟩:=h2 hb;exact⟨oX.1 a,b,c⟩
theorem Pz{r:List UInt8}(h:cM r≠0):cT r=0:=if_neg h
@[simp]theorem abi(h:x.bZ=true):ux 0 (.tup [x,y,z,u])=some (x,[],[],True):=by
 cases x<;>first|rfl|cases h
@[simp]theorem aaZ(h:y.bZ=true):ux 1 (.tup [x,y,z,u])=some (y,[],[],True):=by
 cases y<;>first|rfl|cases h
@[simp]theorem aaA(h:z.bZ=true):ux 2 (.tup [x,y,z,u])=some (z,[],[],True):=by
 cases z<;>first|rfl|cases h
@[simp]theorem aaO(h:u.bZ=true):ux 3 (.tup [x,y,z,u])=some (u,[],[],True):=by
 cases u<;>first|rfl|cases h
theorem lf(G:List (List DV))(r:List UInt8):aa Tryz.prog G 46 [.c (.d (.str r))] (.tup [cC (cT r),.c (.d (.int .i64 (cM r)))]):=by
 have rw0:=Ma G r;have hE:cM r=dG (uH r [45]) (uO (lX r [45]) [47]) (tC (lX r [45]) [47]) (decide (0<=lN (lX r [45]) [47])):=rfl;have hP:cT r=pO (uH r [45]) (uO (lX r [45]) [47]) (tC (lX r [45]) [47]) (decide (0<=lN (lX r [45]) [47])):=rfl;have hsp:=PT r;obtain⟨s,hs⟩:∃s,lX r [45]=s:=⟨_,rfl⟩
 obtain⟨neg,hn⟩:∃n,uH r [45]=n:=⟨_,rfl⟩
 rw[hs,hn]at rw0 hE hP hsp;unfold Ux at rw0;have hbad0:=Pz (r:=r);have dz:∀e:Int,dI (λ_=>LB.hole) (.tup [cC 0,.c (.d (.int .i64 e))])=some (.tup [cC 0,.c (.d (.int .i64 e))],[]):=λe=>gW _ _ _ _ _
 cases hb:jj neg (uO s [47]) (tC s [47]) (decide (0<=lN s [47]))with
 |true=>
  have e6:cM r=6:=by rw[hE];unfold dG;rw[if_pos hb]
  rw[hbad0 (by omega),e6];rw[hb]at rw0;refine aa.enc Tryz.func46 rfl (λlv=>gW lv _ _ _ _) λ_=>aah ?_;refine acH 1 rw0 ?_;refine aaa λK hK=>aah ?_;refine abl (ace @R8 @ai.eq_1 ?_);exact aaH (aM.C8 (k:=0) rfl (by simp) (by simp<;>exact⟨rfl,rfl,rfl⟩) (by simp) rfl)
 |false=>
 rw[hb]at rw0;obtain⟨hT,hT0,hB⟩:=QU hb;obtain⟨T,hTe⟩:∃T,uO s [47]=T:=⟨_,rfl⟩
 have hrT:rwT s=T:=hTe;obtain⟨B,hBe⟩:∃B,XQ s=B:=⟨_,rfl⟩
 rw[hTe]at hT hT0
 have hsame:(2000<max (uO s [47]).length (tC s [47]).length)↔(2000<T.length\/2000<B.length):=by
  rw[hTe]
  by_cases hk:0<=lN s [47]
  ·have:B=tC s [47]:=by rw[<-hBe];exact if_pos hk
   grind
  ·have h1:B=[49]:=by rw[<-hBe];exact if_neg hk
   have h2:tC s [47]=[]:=if_neg hk
   grind
 have hBrow:isRow B/\1<=aS B 0:=by
  by_cases hk:0<=lN s [47]
  ·have h1:B=tC s [47]:=by rw[<-hBe];exact if_pos hk
   obtain⟨a,b,c⟩:=hB (decide_eq_true hk);rw[h1];exact⟨a,by have:=xh (oX.2 a) b c;omega⟩
  ·have h1:B=[49]:=by rw[<-hBe];exact if_neg hk
   rw[h1];exact⟨Ra,by decide⟩
 rw[hrT,hBe]at rw0
 by_cases hlong:2000<T.length\/2000<B.length
 ·have e3:cM r=3:=by rw[hE];unfold dG;rw[if_neg (by rw[hb];decide),if_pos (hsame.2 hlong)]
  rw[hbad0 (by omega),e3];refine aa.enc Tryz.func46 rfl (λlv=>gW lv _ _ _ _) λ_=>aah ?_;refine acH 1 rw0 ?_;refine aaa λK hK=>aah ?_;refine aba (aav (hK _ _ (aaa λK hK=>aaa λK1 hK1=>?_)))
  by_cases l1:2000<T.length
  ·have l1':(2000:Int)<(T.length:Int):=by omega
   refine acT l1 l1' (hK1 _ _ ?_);refine abl (ace @R8 @ai.eq_1 ?_);exact aaH (aM.C8 (k:=0) rfl (by simp) (by simp<;>exact⟨rfl,rfl,rfl⟩) (by simp) rfl)
  ·have l1':¬(2000:Int)<(T.length:Int):=by omega
   have l2:2000<B.length:=by omega
   have l2':(2000:Int)<(B.length:Int):=by omega
   refine adH l1 l1' l2 l2' (hK1 _ _ ?_);refine abl (ace @R8 @ai.eq_1 ?_);exact aaH (aM.C8 (k:=0) rfl (by simp) (by simp<;>exact⟨rfl,rfl,rfl⟩) (by simp) rfl)
 have l1:¬2000<T.length:=λh=>hlong (.inl h)
 have l2:¬2000<B.length:=λh=>hlong (.inr h)
 have l1':¬(2000:Int)<(T.length:Int):=by omega
 have l2':¬(2000:Int)<(B.length:Int):=by omega
 have rd1:=A9 G T hT.1 hT.2.1 (by omega);have rd2:=A9 G B hBrow.1.1 hBrow.1.2.1 (by omega);rw[iV]at rd1 rd2;have n1:=s7 hT.1 (by omega:T.length<=2000);have n2:=s7 hBrow.1.1 (by omega:B.length<=2000);have mk:=xG G (DX neg) neg (aS T 0) (aS B 0) 300 (some (aG 1000000000 (aS T 0))) rfl (λ_=>rfl) hBrow.2 n1 n2 (by decide);have hsz:br (mkRat (dh neg (aS T 0)) (aS B 0)) 300:=hJ _ (by omega) n1 n2;have tx:=AM G _ (au hsz (by decide:300<=20000000000))
 have hres:(wH (mkRat (dh neg (aS T 0)) (aS B 0))=r/\cM r=0/\cT r=mkRat (dh neg (aS T 0)) (aS B 0))\/(wH (mkRat (dh neg (aS T 0)) (aS B 0))≠r/\cM r=6/\cT r=0):=by
  rcases BE s with h47|⟨a,b,hab,ha⟩
  ·have hk:¬0<=lN s [47]:=by rw[yA h47];decide
   have hTs:T=s:=by rw[<-hTe];exact if_neg hk
   have hB1:B=[49]:=by rw[<-hBe];exact if_neg hk
   have hd1:aS B 0=1:=by rw[hB1];rfl
   left;have e0:cM r=0:=by rw[hE];unfold dG;rw[if_neg (by rw[hb];decide),if_neg (λh=>hlong (hsame.1 h)),if_pos (decide_eq_false hk)]
   refine⟨?_,e0,?_⟩
   ·rw[hd1,HK hT hT0,hTs];grind
   ·rw[hP];unfold pO
    grind
  ·have hidx:=Ho (b:=b) ha;rw[<-hab]at hidx;have hk:0<=lN s [47]:=by rw[hidx];omega
   have hA:uO s [47]=a:=by unfold uO;rw[if_pos hk,hidx,aeA,hab,List.take_left]
   have hBb:tC s [47]=b:=by
    unfold tC;rw[if_pos hk,hidx,aeA,hab];rw[show a++47::b=(a++[47])++b by simp];exact afQ (by simp)
   have hTa:T=a:=by rw[<-hTe];exact hA
   have hBb2:B=b:=by rw[<-hBe];unfold XQ;rw[if_pos hk,hBb]
   obtain⟨c1,c2,c3⟩:=hB (decide_eq_true hk);have hge:=xh (oX.2 c1) c2 c3;rw[hBb,<-hBb2]at hge c1;have htf:=Ls (neg:=neg) hT c1 hge;have hsr:r=(if neg then[45]else[])++(T++47::B):=by rw[hTa,hBb2,<-hab];exact hsp
   rw[<-hsr]at htf
   have hpe:cM r=if Nat.gcd (aS T 0) (aS B 0)=1 then 0 else 6:=by
    rw[hE];unfold dG;rw[if_neg (by rw[hb];decide),if_neg (λh=>hlong (hsame.1 h)),if_neg (by rw[decide_eq_true hk];decide),aab,hTe,hBb,<-hBb2]
   by_cases hg:Nat.gcd (aS T 0) (aS B 0)=1
   ·left;rw[if_pos hg]at hpe;refine⟨htf.2 hg,hpe,?_⟩;rw[hP];unfold pO
    grind
   grind
 generalize mkRat (dh neg (aS T 0)) (aS B 0)=z at *
 rcases hres with⟨q1,q2,q3⟩|⟨q1,q2,q3⟩
 ·rw[q2,q3];refine aa.enc Tryz.func46 rfl (λlv=>gW lv _ _ _ _) λ_=>aah ?_;refine acH 1 rw0 ?_;refine aaa λK hK=>aah ?_;refine aba (aav (hK _ _ (aaa λK hK=>adw l1 l1' l2 l2' ?_)));refine aba (aav (hK _ _ (aaF λK hK=>?_)));simp;refine ag.p 1 9 rd1 ?_;simp;refine ag.p 1 9 rd2 ?_;simp;refine ag.p 1 9 mk ?_;simp[ai];apply hK;refine aaa λK hK=>adF 2 tx @Kz q1 ?_;refine aba (aav (hK _ _ (abf @ai.eq_1 ?_)));exact aaH (aM.C8 (k:=0) rfl (by simp) (by simp) (by simp) rfl)
 ·rw[q2,q3];refine aa.enc Tryz.func46 rfl (λlv=>gW lv _ _ _ _) λ_=>aah ?_;refine acH 1 rw0 ?_;refine aaa λK hK=>aah ?_;refine aba (aav (hK _ _ (aaa λK hK=>adw l1 l1' l2 l2' ?_)));refine aba (aav (hK _ _ (aaF λK hK=>?_)));simp;refine ag.p 1 9 rd1 ?_;simp;refine ag.p 1 9 rd2 ?_;simp;refine ag.p 1 9 mk ?_;simp[ai];apply hK;refine aaa λK hK=>adF 2 tx @Kz q1 ?_;refine abl (ace @R8 @ai.eq_1 ?_);exact aaH (aM.C8 (k:=0) rfl (by simp) (by simp<;>exact⟨rfl,rfl,rfl⟩) (by simp) rfl)
theorem oR(G:List (List DV))(r:List UInt8):aa Tryz.prog G 94 [.c (.d (.str r))] (.c (.d (.int .i64 (cM r)))):=by
 have h:=lf G r;generalize cT r=z at *
 generalize cM r=e at *
 refine aa.en Tryz.func94 rfl λ_=>aah ?_;refine acA 1 h @ai.eq_1 ?_;refine aah ?_;exact abe (aN.rt (t:=2) rfl 9 (by simp))
end Go.Am
namespace Go.Am
open Go.Am.Ty Go.Proofs N
variable {n i:Nat}{x:Rat}
abbrev tO(a:Iv):AV:=.agg [.d (.int .i64 (dY a.1)),rC (dZ a.1),rC (eL a.1),.d (.int .i64 (dY a.2)),rC (dZ a.2),rC (eL a.2)]
def rD:Option (List Nat)->DV
 |none=>.nilsl
 |some l=>.sl (dK .i64 l)
theorem mj(o:Option (List Nat)):rC o=.d (rD o):=by cases o<;>rfl
theorem bRI(b p q b' p' q':CV):eS Tryz.prog 65 [0,1] [.agg [b,p,q],.agg [b',p',q']]=some (.agg [b,p,q,b',p',q'],[],[],True):=by kernel_rfl
theorem RF:eS Tryz.prog 65 [] []=some (tO (0,0),[],[],True):=by kernel_rfl
theorem NF(b p q b' p' q':CV):gA Tryz.prog 65 [b,p,q,b',p',q']=some (.agg [b,p,q,b',p',q']):=by kernel_rfl
@[simp]theorem jS(lv:Key->LB)(s s':Int)(p q p' q':Option (List Nat))(n:DV)(hn:n.pK=true):dI lv (.tup [.agg [.d (.int .i64 s),rC p,rC q,.d (.int .i64 s'),rC p',rC q'],.c (.d n)])=some (.tup [.agg [.d (.int .i64 s),rC p,rC q,.d (.int .i64 s'),rC p',rC q'],.c (.d n)],[]):=by
 simp only[mj];rfl
@[simp]theorem Y4(s s':Int)(p q p' q':Option (List Nat)):(AV.agg [.d (.int .i64 s),rC p,rC q,.d (.int .i64 s'),rC p',rC q']).pure=true:=by
 simp only[mj];rfl
@[simp]theorem XL(s s':Int)(p q p' q':Option (List Nat))(n:DV):(AV.tup [.agg [.d (.int .i64 s),rC p,rC q,.d (.int .i64 s'),rC p',rC q'],.c (.d n)]).pure=true:=by
 simp only[mj];rfl
theorem aM.IE{c:Ctx}{fn:Func}{t k u:Nat}{s:aB}{κ:Nat}{a:Iv}{y:CV}(hr:c.P=Tryz.prog/\fn.results=#[.cell t 65,.tmp u])(ht:s.fr t=.c (.ptr k 0))
 (hk:s.lv k=.cells true false 65 [.d (.int .i64 (dY a.1)),rC (dZ a.1),rC (eL a.1),.d (.int .i64 (dY a.2)),rC (dZ a.2),rC (eL a.2)]) (hy:s.fr u=.c y):aM c fn (.tup [tO a,.c y]) .ret s κ:=
 aM.rN hr.2 ht hk (by rw[hr.1,aeu,NF]) hy rfl rfl
theorem szC(h:br x 300):br x 20000000000:=au h (by decide)
theorem szD(h:br x 300):br x 10000000000:=au h (by decide)
theorem Nh(G:List (List DV))(x y:Rat)(hx:br x 20000000000)(hy:br y 20000000000):aa Tryz.prog G 150 [cC x,cC y] (.tup [tO (ov x y),.c (.d (.int .i64 (if x<=y then 0 else 7)))]):=by
 have c1:=Ac G x y hx hy
 by_cases h:x<=y
 ·have h':¬0<eN x y:=by have:=xL.2 h;omega
  rw[if_pos h,show ov x y=(x,y) from if_pos h];generalize eN x y=n at *
  refine aa.enc Tryz.func150 rfl (λlv=>jS lv _ _ _ _ _ _ _ rfl) λ_=>aah ?_;refine aaa λK hK=>acA 3 c1 h' ?_;refine abd (by simp[h']<;>omega) (aav (hK _ _ (abf @bRI ?_)));exact aaH (aM.IE (κ:=0) (t:=4) (k:=2) (u:=5) ⟨rfl,rfl⟩ (by simp) (by simp[ai]) (by simp))
 ·have h':0<eN x y:=mZ.2 (Rat.not_le.1 h);rw[if_neg h,show ov x y=(0,0) from if_neg h];generalize eN x y=n at *
  refine aa.enc Tryz.func150 rfl (λlv=>jS lv _ _ _ _ _ _ _ rfl) λ_=>aah ?_;refine aaa λK hK=>acA 3 c1 h' ?_;refine aaX (by simp[h']<;>omega) (abf RF ?_);exact aaH (aM.IE (κ:=0) (t:=4) (k:=2) (u:=5) ⟨rfl,rfl⟩ (by simp) (by simp[ai]) (by simp))
theorem Vt(G:List (List DV))(lo hi:List UInt8):aa Tryz.prog G 105 [.agg [.d (.str lo),.d (.str hi)]] (.tup [tO (xy lo hi),.c (.d (.int .i64 (oF lo hi)))]):=by
 have c1:=lf G lo;have c2:=lf G hi;have c3:=Nh G (cT lo) (cT hi) (szC (fS lo)) (szC (fS hi))
 by_cases h1:cM lo=0
 rotate_left
 ·have e:oF lo hi=cM lo:=if_pos h1;have e2:xy lo hi=(0,0):=by unfold xy;rw[e,if_neg h1]
  rw[e2,e];generalize cM lo=n at *
  generalize cT lo=r at *
  refine aa.enc Tryz.func105 rfl (λlv=>jS lv _ _ _ _ _ _ _ rfl) λ_=>aah ?_;refine acH 2 c1 ?_;refine aaa λK hK=>abf h1 ?_;refine aaX (by simp[h1]<;>omega) (abf RF ?_);exact aaH (aM.IE (κ:=0) (t:=2) (k:=1) (u:=3) ⟨rfl,rfl⟩ (by simp) (by simp[ai]) (by simp))
 by_cases h2:cM hi=0
 rotate_left
 ·have e:oF lo hi=cM hi:=by unfold oF;rw[if_neg (not_not_intro h1),if_pos h2]
  have e2:xy lo hi=(0,0):=by unfold xy;rw[e,if_neg h2]
  rw[e2,e];rw[h1]at c1;generalize cM hi=n at *
  generalize cT lo=r at *
  generalize cT hi=r2 at *
  refine aa.enc Tryz.func105 rfl (λlv=>jS lv _ _ _ _ _ _ _ rfl) λ_=>aah ?_;refine acH 2 c1 ?_;refine aaa λK hK=>aah ?_;refine aba (aav (hK _ _ (acH 3 c2 ?_)));refine aaa λK hK=>abf h2 ?_;refine aaX (by simp[h2]<;>omega) (abf RF ?_);exact aaH (aM.IE (κ:=0) (t:=2) (k:=1) (u:=3) ⟨rfl,rfl⟩ (by simp) (by simp[ai]) (by simp))
 have e:oF lo hi=if cT lo<=cT hi then 0 else 7:=by unfold oF;rw[if_neg (not_not_intro h1),if_neg (not_not_intro h2)]
 have e2:xy lo hi=ov (cT lo) (cT hi):=by
  unfold xy ov;rw[e];split<;>simp_all
 rw[e2,e];rw[h1]at c1;rw[h2]at c2;generalize (if cT lo<=cT hi then(0:Int)else 7)=n at *
 generalize ov (cT lo) (cT hi)=v at *
 generalize cT lo=r at *
 generalize cT hi=r2 at *
 refine aa.enc Tryz.func105 rfl (λlv=>jS lv _ _ _ _ _ _ _ rfl) λ_=>aah ?_;refine acH 2 c1 ?_;refine aaa λK hK=>aah ?_;refine aba (aav (hK _ _ (acH 3 c2 ?_)));refine aaa λK hK=>aaa λK1 hK1=>aar ?_;simp
 repeat refine aj ?_
 apply hK1;refine aba (aav ?_);simp
 repeat refine aj ?_
 apply hK;refine acA 4 c3 @ai.eq_1 ?_;exact aaH (aM.IE (κ:=0) (t:=2) (k:=1) (u:=3) ⟨rfl,rfl⟩ (by simp) (by simp[ai]) (by simp))
abbrev Gz:=List UInt8
def Sl(b:Option (List Gz)):Option (List (List DV)):=b.map (·.map λs=>[.str s])
def mY(b:Option (List Gz)):List Gz:=b.getD []
theorem Ks(b:Option (List Gz)):(sO (Sl b)).length=(mY b).length:=by cases b<;>simp[Sl,mY,sO]
theorem ab3(lv:Key->LB)(b:Option (List Gz)):fX Tryz.prog 47 lv (.c (bV (Sl b)))=some (.c (.d (.int .i64 (mY b).length)),[],[],True):=by
 rw[<-Ks];exact k7 (by simp)
theorem acn(lv:Key->LB)(b:Option (List Gz))(hi:i<(mY b).length):aq Tryz.prog 47 lv (.c (bV (Sl b))) (.c (.d (.int .i64 (i:Int))))=some (.c (.d (.ptr [.str (mY b)[i]])),[],[],True):=by
 refine Fj (sz:=1) (by simp) (by omega) (by rw[Ks];omega) ?_ rfl
 cases b with
 |none=>cases hi
 |some l=>
  have hi':i<l.length:=hi;rw[aeA];show(l.map λs=>[DV.str s]).getD i []=[DV.str l[i]]
  rw[adS,aeP,fy hi'];rfl
def qS(k:Key):Nat->AV
 |0=>.c (.d .nilsl)
 |n+1=>.c (.aH k 0 (n+1) 3)
def qB(f:Sq):Nat->LB
 |0=>.hole
 |n+1=>.cells true false 27 (qK f (n+1))
def Mc(x:Rat):List CV:=[.d (.int .i64 (dY x)),rC (dZ x),rC (eL x)]
def iT(f:Sq):Nat->List CV
 |0=>[]
 |m+1=>iT f m++Mc (f m)
theorem xp(f:Sq)(m:Nat):(iT f m).length=m*3:=by
 induction m with
 |zero=>rfl
 |succ m ih=>simp only[iT,ad6,ih];show _+3=_;omega
theorem uN(f:Sq)(m:Nat)(g:Key->Key):(iT f m).map (CV.bY g)=iT f m:=by
 induction m with
 |zero=>rfl
 |succ m ih=>
  simp only[iT,aeR,ih];congr 1;unfold Mc;rw[mj,mj];rfl
def Ez(k:Key):Nat->AV
 |0=>.c (.d .nilsl)
 |n+1=>.c (.aH k 0 (n+1) 3)
def RJ(f:Sq):Nat->LB
 |0=>.hole
 |n+1=>.cells true false 55 (iT f (n+1))
def nB2(f:Sq):Nat->List LB
 |0=>[]
 |n+1=>[.cells true false 27 (qK f (n+1)),.cells true false 55 (iT f (n+1))]
theorem WA(k:Key)(h:n≠0):qS k n=.c (.aH k 0 n 3):=by obtain⟨j,rfl⟩:=agY h;rfl
theorem WL(f:Sq)(h:n≠0):qB f n=.cells true false 27 (qK f n):=by obtain⟨j,rfl⟩:=agY h;rfl
theorem Re(k:Key)(h:n≠0):Ez k n=.c (.aH k 0 n 3):=by obtain⟨j,rfl⟩:=agY h;rfl
theorem RZ(f:Sq)(h:n≠0):RJ f n=.cells true false 55 (iT f n):=by obtain⟨j,rfl⟩:=agY h;rfl
theorem bsQ(lv:Key->LB)(κ:Key)(h:lv κ=.hole)(a b c:CV):ak Tryz.prog 48 1 [0] lv κ [.agg [a,b,c]]=some (.c (.aH κ 0 1 3),[(κ,.cells true false 27 [a,b,c])],[],True):=by
 unfold ak;rw[h];kernel_rfl
theorem bsR(lv:Key->LB)(κ:Key)(h:lv κ=.hole)(a b c:CV):ak Tryz.prog 49 1 [0] lv κ [.agg [a,b,c]]=some (.c (.aH κ 0 1 3),[(κ,.cells true false 55 [a,b,c])],[],True):=by
 unfold ak;rw[h];kernel_rfl
theorem SA(a b:LB):bL [] [a,b]=az (az (λ_=>.hole) 1000 a) 1001 b:=by
 refine funext λ(k:Nat)=>?_;unfold az
 by_cases h1:k=1001
 ·subst h1;rfl
 ·by_cases h:k=1000
  ·subst h;rfl
  ·rw[if_neg h1,if_neg h];refine QB _ k λj hj=>?_;have:j<2:=by simpa using hj
   omega
def nmO(l:List Gz):Prop:=∀s∈l,cM s=0
def L7(l:List Gz):Sq:=λi=>cT (l.getD i [])
theorem VX{l:List Gz}(h:i<l.length):L7 l i=cT l[i]:=by unfold L7;rw[adS,fy h];rfl
open Classical in
theorem Bs(m:Int)(p:Option (List Gz))(hp:(mY p).length<=1048576){R:AV}{ν:List LB}(hbad:(∃s∈mY p,cM s≠0)->R=.tup [.c (.d .nilsl),.c (.d .nilsl),.c (.d (.bool false))]/\ν=[])
 (hgood:nmO (mY p)->R=.tup [qS 1000 (mY p).length,Ez 1001 (mY p).length,.c (.d (.bool true))]/\ν=nB2 (L7 (mY p)) (mY p).length) :
 aI Tryz.prog (GG m) 16 [.c (bV (Sl p))] [] (.ret R [] ν):=by
 have hlp:=λlv=>ab3 lv p
 have hix:=λlv {i:Nat}(hi:i<(mY p).length)=>acn lv p hi
 have hat:=λ{i:Nat}(hi:i<(mY p).length)=>VX hi
 refine aI.enn Tryz.func16 rfl λ_=>aah ?_;refine aah ?_;refine aah ?_;refine aaa λK hK=>aah ?_;refine aaE ?_
 refine abr (λ(i:Nat)=>⟨aU [(0,.c (bV (Sl p))),(5,qS 0 i),(6,Ez 1 i),(7,.c (.d (.int .i64 i)))],az (az (λ_=>.hole) 0 (qB (L7 (mY p)) i)) 1 (RJ (L7 (mY p)) i)⟩) 10
  (λi=>i<=(mY p).length/\∀s∈(mY p).take i,cM s=0) (λi=>(mY p).length-i) 0 (Le.eY _ (by rw[show qB (L7 (mY p)) 0=.hole from rfl,show RJ (L7 (mY p)) 0=.hole from rfl,mF rfl,mF rfl]) (by simp[qS,Ez])) ⟨aa2 _,by simp⟩ ?_
 rintro i ⟨hi,hall⟩
 try simp only at hi hall ⊢
 refine aaa λK2 hK2=>abf hlp ?_
 by_cases hlt:i<(mY p).length
 ·have hlt':(i:Int)<((mY p).length:Int):=by omega
  have hx:=λlv=>hix lv hlt
  have f17:=bB (n:=(i:Int)+1) (by omega) (by omega);have hn:=hat hlt
  have hall2:cM (mY p)[i]=0->∀s∈(mY p).take (i+1),cM s=0:=λhe s hs=>by
   rw[afi,fy hlt]at hs;rcases List.mem_append.1 hs with hs|hs
   ·exact hall s hs
   ·rw[List.mem_singleton.1 hs];exact he
  have hbad2:cM (mY p)[i]≠0->_:=λhe=>hbad ⟨_,aT hlt,he⟩
  generalize (mY p)[i]=s at *
  have c1:=kO m s;have c2:=lf (GG m) s;rw[<-hn]at c1 c2
  by_cases he:cM s=0
  rotate_left
  ·obtain⟨rfl,rfl⟩:=hbad2 he;generalize cM s=e at *
   refine aaX (by simp[hlt']<;>omega) (aav (hK2 _ _ (aaa λK5 hK5=>aaE (adF 20 c1 hx @ai.eq_1 ?_))));refine adF 30 c2 hx @ai.eq_1 ?_;refine aaa λK6 hK6=>abf he ?_;refine aaX (by simp[he]<;>omega) (aah ?_);refine aaH (κ:=0) ?_;refine⟨[],9,gU.trans rfl,by simp,by simp,rfl,by simp,rfl,?_⟩;show eE _ _ [.tmp 2,.tmp 3,.tmp 4]=_;simp[eE,kZ,mN,AV.bZ];rfl
  rw[he]at c1 c2;have hall3:=hall2 he;refine aaX (by simp[hlt']<;>omega) (aav (hK2 _ _ (aaa λK5 hK5=>aaE (adF 20 c1 hx @ai.eq_1 ?_))));refine adF 30 c2 hx @ai.eq_1 ?_;refine aaa λK6 hK6=>aah ?_;refine aba (aav (hK6 _ _ ?_));generalize L7 (mY p)=f at *
  by_cases h0:i=0
  ·have hS:qS 0 i=.c (.d .nilsl):=by subst h0;rfl
   have hB:qB f i=.hole:=by subst h0;rfl
   have hrS:Ez 1 i=.c (.d .nilsl):=by subst h0;rfl
   have hrB:RJ f i=.hole:=by subst h0;rfl
   rw[hS,hB,hrS,hrB];refine abx mixed (by kernel_rfl) rfl ?_;simp[bsQ,bsR,fc,keyOf,ai,-ak];refine⟨by kernel_rfl,?_⟩
   repeat refine aj ?_
   apply hK5;refine aar ?_;simp[f17]
   exact⟨i+1,Le.keys [(0,33,qB f (i+1)),(1,35,RJ f (i+1))] 19 _ rfl rfl (by simp) (by simp) (by simp) (by
    intro e he;simp only[aY,cy,or_false]at he;rcases he with rfl|rfl
    ·exact LB.aC.2 ⟨rfl,rfl,((fm f (i+1) _).trans (by subst h0;rfl)).symm,id⟩
    ·exact LB.aC.2 ⟨rfl,rfl,((uN f (i+1) _).trans (by subst h0;rfl)).symm,id⟩) (by rw[show qS 0 (i+1)=.c (.aH 0 0 (i+1) 3) from rfl,show Ez 1 (i+1)=.c (.aH 1 0 (i+1) 3) from rfl];simp[b6,h0]),⟨by omega,hall3⟩,by omega⟩
  ·have hS:=WA 0 h0;have hB:=WL f h0;have hrS:=Re 1 h0;have hrB:=RZ f h0;have hl1:=Dg f i;have hl2:=xp f i;rw[hS,hB,hrS,hrB];refine abx mixed (by kernel_rfl) rfl ?_;simp[bsQ,bsR,fc,keyOf,ai,hl1,hl2,-ak]
   repeat refine aj ?_
   refine⟨by kernel_rfl,?_⟩
   repeat refine aj ?_
   apply hK5;refine aar ?_;simp[f17]
   exact⟨i+1,Le.keys [(0,33,qB f (i+1)),(1,35,RJ f (i+1))] 19 _ rfl rfl (by simp) (by simp) (by simp) (by
    intro e he;simp only[aY,cy,or_false]at he;rcases he with rfl|rfl
    ·exact LB.aC.2 ⟨rfl,rfl,((fm f (i+1) _).trans (rfl)).symm,id⟩
    ·exact LB.aC.2 ⟨rfl,rfl,((uN f (i+1) _).trans (rfl)).symm,id⟩) (by rw[show qS 0 (i+1)=.c (.aH 0 0 (i+1) 3) from rfl,show Ez 1 (i+1)=.c (.aH 1 0 (i+1) 3) from rfl];simp[b6,h0]),⟨by omega,hall3⟩,by omega⟩
 ·have hie:i=(mY p).length:=by omega
  subst hie;rw[afs]at hall;obtain⟨rfl,rfl⟩:=hgood hall;clear hix hat hi hall hgood hbad;generalize L7 (mY p)=f at *
  refine abd (by simp[hlt]<;>omega) (abn ?_);simp
  repeat refine aj ?_
  apply hK;refine aaa λK hK=>aar ?_;simp
  repeat refine aj ?_
  apply hK;generalize (mY p).length=n at *
  refine aaH (κ:=0) ?_
  cases n with
  |zero=>
   refine⟨[],9,gU.trans rfl,by simp,by simp,rfl,by simp,rfl,?_⟩;show eE _ _ [.tmp 2,.tmp 3,.tmp 4]=_;simp[eE,kZ,mN,qS,Ez,AV.bZ];rfl
  |succ n=>
   refine⟨[(1000,0,.cells true false 27 (qK f (n+1))),(1001,1,.cells true false 55 (iT f (n+1)))],9,(SA _ _).trans rfl,by simp,by simp,rfl,?_,rfl,?_⟩
   ·intro e he;simp only[aY,cy,or_false]at he;rcases he with rfl|rfl
    ·exact LB.aC.2 ⟨rfl,rfl,(fm f (n+1) _).symm,id⟩
    ·exact LB.aC.2 ⟨rfl,rfl,(uN f (n+1) _).symm,id⟩
   ·show eE _ _ [.tmp 2,.tmp 3,.tmp 4]=_;simp[eE,kZ,mN,qS,Ez,AV.bZ,b6];rfl
end Go.Am
namespace Go.Proofs.YtanjfmmjpnjkbaaGreatDoor
open Go.Am Go.RowKit Go.ChangeShapes Go.WideShapes
variable {v:Value}{base n:Nat}{H:Type}{l:List DV}{W:World}{p:List MemPlace}
theorem WN(h:mR Tryz.prog (n+2) 37 l):∃s:Sp,l=PW s:=by
 obtain⟨ls,hl,rfl,h3⟩:=yM Tryz.underlying37 h
 match ls,hl,h3 with
 |[a,b],_,h3=>
  obtain⟨s,rfl⟩:=xX Tryz.underlying35 (h3 0 (by decide) (by simp));obtain⟨t,rfl⟩:=xX Tryz.underlying35 (h3 1 (by decide) (by simp));exact⟨(s,t),rfl⟩
theorem UR:∀(l:List (List DV)),(∀x∈l,mR Tryz.prog 7 37 x)->∃b:List Sp,l=b.map PW
 |[],_=>⟨[],rfl⟩
 |x::r,h=>by
  obtain⟨s,rfl⟩:=WN (n:=5) (h x (by simp));obtain⟨b,rfl⟩:=UR r (λy hy=>h y (by simp[hy]));exact⟨s::b,rfl⟩
theorem n7{P:Program}{w:World}{r:Reach}{t e:TypeId}(ht:P.underlying t=some (.slice e))(h:Value.okWide P w r base t v):v.cells.toList=[v]/\Cell.okWide P w r base t v:=by
 unfold Value.okWide at h;rw[ht]at h;refine⟨?_,h⟩;have h':=h;unfold Cell.okWide at h';rw[ht]at h';unfold Cell.ok at h';rw[ht]at h'
 cases v<;>first|rfl|(exfalso;exact h')
theorem FM(l:List (DataW H)):l.length<=Rows.uptoBulkAll l:=by
 induction l with
 |nil=>simp[Rows.uptoBulkAll]
 |cons x r ih=>
  have:1<=Rows.uptoBulk x:=by
   cases x with
   |lit l=>cases l<;>simp[Rows.uptoBulk]
   |_=>simp[Rows.uptoBulk]
  simp only[Rows.uptoBulkAll,aef];omega
theorem TJ{enc:TypeId×Value->H}{d:DataW H}(hok:Value.okWide Tryz.prog W .any base 23 v)(h:DataW.Trod enc Tryz.prog W 0 (λ_=>true) true 23 v d p):
 ∃b:Option (List Sp),(Vw.mk (λb=>b<W.heap.size) (λ_=>0) (bL [] []) W).av v (.c (bV (wh b)))/\(bp b).length<=Rows.uptoBulk d:=by
 obtain⟨hc,hok⟩:=n7 Tryz.underlying23 hok;obtain⟨fuel,h⟩:=h;rw[hc]at h
 obtain⟨l,h1,h2,_⟩:=pX kids 8 true 23 fuel [v] _ (by show 23<_;rw[ug];decide) (by kernel_rfl) (λ_ i a len cap hi=>by
  match i,hi with
  |0,hi=>obtain rfl:=aeW hi;exact wB hok) h
 unfold mR at h1;rw[Tryz.underlying23]at h1;rcases h1 with rfl|⟨es,rfl,h1⟩
 ·exact⟨none,h2.2 0 (by simp) (by simp),aa2 _⟩
 ·obtain⟨b,rfl⟩:=UR es h1;have hr:=h2.2 0 (by simp) (by simp);refine⟨some b,hr,?_⟩;rcases DataW.trod_slice Tryz.underlying23 h with⟨e,_⟩|⟨a,len,cap,elems,rest,m,_,e,hx,_,_,_,hl,_⟩
  ·obtain rfl:v=.slice none 0 0:=by simpa using e
   have:=hr.1
   cases this
  ·obtain rfl:v=.slice (some a) len cap:=by simpa using e
   have h3:len=(b.map PW).length:=by
    have:=hr.1;simp only[aeQ]at this;exact Rd.MG this
   obtain⟨rfl,_⟩:=Prod.mk.inj hx;have h4:=FM (elems.map (·.1));simp only[Rows.uptoBulk];rw[ab0]at h3 h4;show b.length<=_;omega
theorem WW(h:mR Tryz.prog (n+2) 59 l):∃o:Option (List Int),l=[GA o]:=by
 unfold mR at h;rw[Tryz.underlying59]at h;rcases h with rfl|⟨es,rfl,h⟩
 ·exact⟨none,rfl⟩
 ·have key:∀es:List (List DV),(∀x∈es,mR Tryz.prog (n+1) 3 x)->∃l:List Int,es=l.map λk=>[.int .i64 k]:=by
   intro es
   induction es with
   |nil=>intro _;exact⟨[],rfl⟩
   |cons x r ih=>
    intro h;obtain⟨i,rfl⟩:=RI (k:=.i64) Tryz.underlying3 (h x (by simp));obtain⟨l,rfl⟩:=ih λy hy=>h y (by simp[hy])
    exact⟨i::l,rfl⟩
  obtain⟨l,rfl⟩:=key es h;exact⟨some l,rfl⟩
theorem Vg(h:mR Tryz.prog (n+3) 98 l):∃t:Tm,l=wo t:=by
 obtain⟨ls,hl,rfl,h3⟩:=yM Tryz.underlying98 h
 match ls,hl,h3 with
 |[a,b],_,h3=>
  obtain⟨s,rfl⟩:=xX Tryz.underlying35 (h3 0 (by decide) (by simp));obtain⟨o,rfl⟩:=WW (n:=n) (h3 1 (by decide) (by simp));exact⟨(s,o),rfl⟩
theorem J0:∀(l:List (List DV)),(∀x∈l,mR Tryz.prog 7 98 x)->∃b:List Tm,l=b.map wo
 |[],_=>⟨[],rfl⟩
 |x::r,h=>by
  obtain⟨s,rfl⟩:=Vg (n:=4) (h x (by simp));obtain⟨b,rfl⟩:=J0 r (λy hy=>h y (by simp[hy]));exact⟨s::b,rfl⟩
theorem KY{V:Vw}{bt:Option (List Tm)}(h:V.av v (.c (bV (lB bt)))):(aV bt).length<=9223372036854775807/\∀t∈aV bt,(jx t.2).length<=9223372036854775807:=by
 cases bt with
 |none=>exact⟨by simp[aV],λt ht=>by cases ht⟩
 |some l=>
  obtain⟨h,_⟩:=h;generalize hd:DV.sl (l.map wo)=d at h
  cases h with
  |sl b off cap sz es vs hl hc hb hm ho hr=>
   obtain rfl:=DV.sl.inj hd;refine⟨by show l.length<=_;simpa using hb,λt ht=>?_⟩;obtain⟨i,hi,rfl⟩:=afw ht;have hi':i<l.length:=hi;have h1:=hr i (by simpa using hi') 1 (by simp[wo]);have e:(l.map wo)[i]'(by simpa using hi')=wo l[i]:=by simp
   have h2:Rd V.mem (vs i 1) (GA (l[i]).2):=by
    have e2:((l.map wo)[i]'(by simpa using hi'))[1]'(by simp[wo])=GA (l[i]).2:=by simp[wo]
    rw[e2]at h1;exact h1
   show(jx (l[i]).2).length<=_
   cases hp:(l[i]).2 with
   |none=>simp[jx]
   |some q=>
    rw[hp]at h2;generalize hd2:GA (some q)=d at h2;generalize vs i 1=w at h2
    cases h2 with
    |sl b off cap sz es vs hl hc hb hm ho hr=>
     have e3:=DV.sl.inj hd2;rw[<-e3]at hb;simpa[jx]using hb
    |sl0 a=>
     have e3:=DV.sl.inj hd2;have e3:q=[]:=by simpa using e3
     subst e3;simp[jx]
    |_=>cases hd2
  |sl0 a=>
   have e:=DV.sl.inj hd;have e:l=[]:=by simpa using e
   subst e;exact⟨by simp[aV],λt ht=>by cases ht⟩
  |_=>cases hd
theorem L6{enc:TypeId×Value->H}{d:DataW H}(hok:Value.okWide Tryz.prog W .any base 22 v)(h:DataW.Trod enc Tryz.prog W 0 (λ_=>true) true 22 v d p):
 ∃b:Option (List Tm),(Vw.mk (λb=>b<W.heap.size) (λ_=>0) (bL [] []) W).av v (.c (bV (lB b))):=by
 obtain⟨hc,hok⟩:=n7 Tryz.underlying22 hok;obtain⟨fuel,h⟩:=h;rw[hc]at h;obtain⟨l,h1,h2⟩:=yK kids (λ_=>rfl) 8 22 fuel [v] _ (by show 22<_;rw[ug];decide) (by kernel_rfl) h;unfold mR at h1;rw[Tryz.underlying22]at h1;rcases h1 with rfl|⟨es,rfl,h1⟩
 ·exact⟨none,h2.2 0 (by simp) (by simp)⟩
 ·obtain⟨b,rfl⟩:=J0 es h1;exact⟨some b,h2.2 0 (by simp) (by simp)⟩
theorem UU:∀(l:List (List DV)),(∀x∈l,mR Tryz.prog 7 9 x)->∃b:List Gz,l=b.map λs=>[.str s]
 |[],_=>⟨[],rfl⟩
 |x::r,h=>by
  obtain⟨s,rfl⟩:=xX Tryz.underlying9 (h x (by simp));obtain⟨b,rfl⟩:=UU r (λy hy=>h y (by simp[hy]));exact⟨s::b,rfl⟩
theorem PK{enc:TypeId×Value->H}{d:DataW H}(hok:Value.okWide Tryz.prog W .any base 47 v)(h:DataW.Trod enc Tryz.prog W 0 (λ_=>true) true 47 v d p):
 ∃b:Option (List Gz),(Vw.mk (λb=>b<W.heap.size) (λ_=>0) (bL [] []) W).av v (.c (bV (Sl b)))/\(mY b).length<=Rows.uptoBulk d:=by
 obtain⟨hc,hok⟩:=n7 Tryz.underlying47 hok;obtain⟨fuel,h⟩:=h;rw[hc]at h
 obtain⟨l,h1,h2,_⟩:=pX kids 8 true 47 fuel [v] _ (by show 47<_;rw[ug];decide) (by kernel_rfl) (λ_ i a len cap hi=>by
  match i,hi with
  |0,hi=>obtain rfl:=aeW hi;exact wB hok) h
 unfold mR at h1;rw[Tryz.underlying47]at h1;rcases h1 with rfl|⟨es,rfl,h1⟩
 ·exact⟨none,h2.2 0 (by simp) (by simp),aa2 _⟩
 ·obtain⟨b,rfl⟩:=UU es h1;have hr:=h2.2 0 (by simp) (by simp);refine⟨some b,hr,?_⟩;rcases DataW.trod_slice Tryz.underlying47 h with⟨e,_⟩|⟨a,len,cap,elems,rest,m,_,e,hx,_,_,_,hl,_⟩
  ·obtain rfl:v=.slice none 0 0:=by simpa using e
   have:=hr.1
   cases this
  ·obtain rfl:v=.slice (some a) len cap:=by simpa using e
   have h3:len=(b.map (λs:Gz=>[DV.str s])).length:=by
    have:=hr.1;simp only[aeQ]at this;exact Rd.MG this
   obtain⟨rfl,_⟩:=Prod.mk.inj hx;have h4:=FM (elems.map (·.1));simp only[Rows.uptoBulk];rw[ab0]at h3 h4;show b.length<=_;omega
end Go.Proofs.YtanjfmmjpnjkbaaGreatDoor
namespace Go.Am
open Go.Am.Ty Go.Proofs N
attribute [local irreducible] aM
end Go.Am
namespace Go.Am
open Go.Am.Ty Go.Proofs N
attribute [local irreducible] aM
theorem IJ{x y:Rat}(h:x.num≠0)(h':y.num≠0):dY x*dY y=if (decide (x.num<0) != decide (y.num<0))=true then -1 else 1:=by
 rw[rL h,rL h']
 by_cases a:x.num<0<;>by_cases b:y.num<0<;>simp[a,b]
theorem E4(x y:Rat):IntKind.i64.wrap (dY x*dY y)=dY x*dY y:=by
 rcases xS x with h|h|h<;>rcases xS y with h'|h'|h'<;>rw[h,h']<;>rfl
theorem j6(G:List (List DV))(x y:Rat)(hx:br x 10000000000)(hy:br y 10000000000):aa Tryz.prog G 53 [cC x,cC y] (cC (x*y)):=by
 have b1:=j7 G x;have b2:=j7 G y;have hx1:=hx.1;have hx2:=hx.2;have hy1:=hy.1;have hy2:=hy.2;have m1:=jr G (dZ x) (dZ y) x.num.natAbs y.num.natAbs 10000000000 (n8 x) (n8 y) hx1 hy1 (by decide);have m2:=jr G (some (aG 1000000000 x.den)) (some (aG 1000000000 y.den)) x.den y.den 10000000000 rfl rfl hx2 hy2 (by decide);have l1:=bO x.num.natAbs y.num.natAbs;have l2:=bO x.den y.den;have hw:=E4 x y
 have mk:=xG G (dY x*dY y) (decide (x.num<0) != decide (y.num<0)) (x.num.natAbs*y.num.natAbs) (x.den*y.den) 20000000000 (some (aG 1000000000 (x.num.natAbs*y.num.natAbs))) rfl
  (λh=>IJ (λe=>h (by rw[e];exact Nat.zero_mul _)) (λe=>h (by rw[e];exact afb _))) (aeh x.den_pos y.den_pos) (by omega) (by omega) (by decide)
 rw[<-C4]at mk;generalize x*y=z at *
 generalize x.num.natAbs*y.num.natAbs=A at *
 generalize x.den*y.den=B at *
 refine aa.enc Tryz.func53 rfl (λlv=>dR lv _ _ _) λ_=>aah ?_;refine aaa λK hK=>?_;refine abx mixed (by kernel_rfl) rfl ?_;simp[hw];refine ag.p 3 9 m1 ?_;simp;refine ag.p 3 9 b1 ?_;simp;refine ag.p 3 9 b2 ?_;simp;refine ag.p 3 9 m2 ?_;simp;refine ag.p 3 9 mk ?_;simp[ai];refine⟨by kernel_rfl,?_⟩
 repeat refine aj ?_
 apply hK;exact aaH (aM.ref (k:=2) rfl (by simp) (by simp) rfl)
theorem LI(G:List (List DV))(x y:Rat)(hx:br x 10000000000)(hy:br y 10000000000):aa Tryz.prog G 147 [cC x,cC y] (.tup [cC (x/y),.c (.d (.int .i64 (if y=0 then 8 else 0)))]):=by
 by_cases hy0:y=0
 ·subst hy0;have e:x/0=0:=by rw[Rat.div_def,Rat.inv_zero,afV]
  rw[e,if_pos rfl];have s0:dY 0=0:=rfl;have bz:eS Tryz.prog 55 [] []=some (cC 0,[],[],True):=R8;refine aa.enc Tryz.func147 rfl (λlv=>gW lv _ _ _ _) λ_=>aah ?_;refine aaa λK hK=>abf s0 ?_;refine aaX (by simp[s0]<;>omega) (abf bz ?_);exact aaH (aM.C8 (t:=4) (u:=5) (k:=2) rfl (by simp) (by simp[ai]) (by simp) rfl)
 rw[if_neg hy0];have hyn:y.num≠0:=λe=>hy0 (Rat.num_eq_zero.1 e)
 have hx1:=hx.1;have hx2:=hx.2;have hy1:=hy.1;have hy2:=hy.2;have b1:=j7 G x;have m1:=jr G (dZ x) (eL y) x.num.natAbs y.den 10000000000 (n8 x) (by rw[I7 hyn];rfl) hx1 hy2 (by decide);have m2:=jr G (some (aG 1000000000 x.den)) (dZ y) x.den y.num.natAbs 10000000000 rfl (n8 y) hx2 hy1 (by decide);have l1:=bO x.num.natAbs y.den;have l2:=bO x.den y.num.natAbs;have sy0:¬dY y=0:=λh=>hyn (nq.1 h)
 have hw:=E4 x y
 have mk:=xG G (dY x*dY y) (decide (x.num<0) != decide (y.num<0)) (x.num.natAbs*y.den) (x.den*y.num.natAbs) 20000000000 (some (aG 1000000000 (x.num.natAbs*y.den))) rfl
  (λh=>IJ (λe=>h (by rw[e];exact Nat.zero_mul _)) hyn) (aeh x.den_pos (by omega)) (by omega) (by omega) (by decide)
 rw[<-Hi hy0]at mk;generalize x/y=z at *
 generalize x.num.natAbs*y.den=A at *
 generalize x.den*y.num.natAbs=B at *
 refine aa.enc Tryz.func147 rfl (λlv=>gW lv _ _ _ _) λ_=>aah ?_;refine aaa λK hK=>abf sy0 ?_;refine abd (by simp[sy0]<;>omega) (aav (hK _ _ (aaa λK hK=>?_)));refine abx mixed (by kernel_rfl) rfl ?_;simp[hw];refine ag.p 3 9 m1 ?_;simp;refine ag.p 3 9 b1 ?_;simp;refine ag.p 3 9 m2 ?_;simp;refine ag.p 3 9 mk ?_;simp[ai];refine⟨by kernel_rfl,?_⟩
 repeat refine aj ?_
 apply hK;exact aaH (aM.C8 (t:=4) (u:=5) (k:=2) rfl (by simp) (by simp) (by simp) rfl)
theorem Qh(G:List (List DV))(x y:Rat)(hx:br x 20000000000)(hy:br y 20000000000):aa Tryz.prog G 112 [cC x,cC y] (cC (jz x y)):=by
 have c1:=Ac G x y hx hy
 by_cases h:0<=eN x y
 ·have e:jz x y=x:=by unfold jz;have:=JF.1 h;split<;>grind
  rw[e];generalize eN x y=n at *
  refine aa.enc Tryz.func112 rfl (λlv=>dR lv _ _ _) λ_=>aah ?_;refine aaa λK hK=>acA 3 c1 h ?_;refine aaX (by simp[h]<;>omega) (aah ?_);exact aaH (aM.ref (k:=2) rfl (by simp) (by simp[ai]) rfl)
 ·have e:jz x y=y:=by unfold jz;have:=j8.1 (Int.not_le.1 h);rw[if_pos this]
  rw[e];generalize eN x y=n at *
  refine aa.enc Tryz.func112 rfl (λlv=>dR lv _ _ _) λ_=>aah ?_;refine aaa λK hK=>acA 3 c1 h ?_;refine abd (by simp[h]<;>omega) (aav (hK _ _ (aah ?_)));exact aaH (aM.ref (k:=2) rfl (by simp) (by simp[ai]) rfl)
theorem NX(G:List (List DV))(x y:Rat)(hx:br x 20000000000)(hy:br y 20000000000):aa Tryz.prog G 111 [cC x,cC y] (cC (iJ x y)):=by
 have c1:=Ac G x y hx hy
 by_cases h:eN x y<=0
 ·have e:iJ x y=x:=by unfold iJ;have:=xL.1 h;split<;>grind
  rw[e];generalize eN x y=n at *
  refine aa.enc Tryz.func111 rfl (λlv=>dR lv _ _ _) λ_=>aah ?_;refine aaa λK hK=>acA 3 c1 h ?_;refine aaX (by simp[h]<;>omega) (aah ?_);exact aaH (aM.ref (k:=2) rfl (by simp) (by simp[ai]) rfl)
 ·have e:iJ x y=y:=by unfold iJ;have:=mZ.1 (Int.not_le.1 h);split<;>grind
  rw[e];generalize eN x y=n at *
  refine aa.enc Tryz.func111 rfl (λlv=>dR lv _ _ _) λ_=>aah ?_;refine aaa λK hK=>acA 3 c1 h ?_;refine abd (by simp[h]<;>omega) (aav (hK _ _ (aah ?_)));exact aaH (aM.ref (k:=2) rfl (by simp) (by simp[ai]) rfl)
end Go.Am
namespace Go.Am
open Go.Am.Ty Go.Proofs N
attribute [local irreducible] aM
end Go.Am
namespace Go.Am
open Go.Am.Ty Go.Proofs N
attribute [local irreducible] aM
end Go.Am
namespace Go.Am
open Go.Am.Ty Go.Proofs N
theorem aM.riv{c:Ctx}{fn:Func}{t k:Nat}{s:aB}{κ:Nat}{a:Iv}(hr:c.P=Tryz.prog/\fn.results=#[.cell t 65])(ht:s.fr t=.c (.ptr k 0))
 (hk:s.lv k=.cells true false 65 [.d (.int .i64 (dY a.1)),rC (dZ a.1),rC (eL a.1),.d (.int .i64 (dY a.2)),rC (dZ a.2),rC (eL a.2)]):aM c fn (tO a) .ret s κ:=
 aM.cell hr.2 ht hk (by rw[hr.1,aeu,NF])
@[simp]theorem FU(lv:Key->LB)(s s':Int)(p q p' q':Option (List Nat)):dI lv (.agg [.d (.int .i64 s),rC p,rC q,.d (.int .i64 s'),rC p',rC q'])=some (.agg [.d (.int .i64 s),rC p,rC q,.d (.int .i64 s'),rC p',rC q'],[]):=by
 simp only[mj];rfl
theorem E6(G:List (List DV))(x y:Rat)(hx:br x 10000000000)(hy:br y 10000000000):aa Tryz.prog G 109 [cC x,cC y] (cC (x/y)):=by
 have c1:=LI G x y hx hy;generalize x/y=z at *
 generalize (if y=0 then(8:Int)else 0)=e at *
 refine aa.enc Tryz.func109 rfl (λlv=>dR lv _ _ _) λ_=>aah ?_;refine aaa λK hK=>adq 3 c1 @ai.eq_1 (hK _ _ ?_)
 refine aaa λK hK=>acK @ai.eq_1 (hK _ _ ?_)
 exact aaH (aM.ref (κ:=0) (k:=2) rfl (by simp) (by simp[ai]) rfl)
theorem Hx(G:List (List DV))(x:Rat):aa Tryz.prog G 110 [cC x] (tO (x,x)):=by
 refine aa.enc Tryz.func110 rfl (λlv=>FU lv _ _ _ _ _ _) λ_=>aah ?_;refine aaa λK hK=>acT @bRI @ai.eq_1 (hK _ _ ?_)
 exact aaH (aM.riv (κ:=0) (t:=2) (k:=1) ⟨rfl,rfl⟩ (by simp) (by simp[ai]))
def jk(x:Rat):List DV:=[.int .i64 (dY x),rD (dZ x),rD (eL x)]
abbrev fG(l:List Rat):AV:=.c (.d (.sl (l.map jk)))
theorem YK(l:List Rat)(lv:Key->LB):fX Tryz.prog 49 lv (fG l)=some (.c (.d (.int .i64 l.length)),[],[],True):=by
 simp[fX,jA,keyOf]
theorem Rr(l:List Rat)(lv:Key->LB)(i:Nat)(x:Rat)(h:l[i]?=some x):aq Tryz.prog 49 lv (fG l) (.c (.d (.int .i64 (i:Int))))=some (.c (.d (.ptr (jk x))),[],[],True):=by
 obtain⟨hi,e⟩:=List.getElem?_eq_some_iff.1 h;have hi':(i:Int)<(l.length:Int):=by omega
 simp[hi,e,jk]
theorem KN(G:List (List DV))(l:List Rat)(x0:Rat)(h0:l[0]?=some x0)(hn:l.length<=1000)(hs:∀x∈l,br x 20000000000):
 aa Tryz.prog G 64 [fG l] (tO (lP (l.drop 1) x0,lO (l.drop 1) x0)):=by
 have hl:0<l.length:=(List.getElem?_eq_some_iff.1 h0).1;have c0:=Hx G x0;have hix0:∀lv,aq Tryz.prog 49 lv (fG l) (.c (.d (.int .i64 0)))=some (.c (.d (.ptr (jk x0))),[],[],True):=λlv=>Rr l lv 0 x0 h0
 generalize hR:lP (l.drop 1) x0=R;generalize hS:lO (l.drop 1) x0=S;refine aa.enc Tryz.func64 rfl (λlv=>FU lv _ _ _ _ _ _) λ_=>aah ?_;refine aaa λK hK=>aar ?_;simp[hix0,jk,<-mj];refine ag.p 1 9 c0 ?_;simp[ai]
 repeat refine aj ?_
 apply hK;refine aaa λK hK=>aaa λK1 hK1=>aar ?_;simp
 repeat refine aj ?_
 apply hK1;refine aaE ?_
 refine abr (λ(p:Nat×Rat×Rat)=>⟨aU [(0,fG l),(2,.c (.ptr 0 0)),(3,.c (.ptr 1 0)),(4,.c (.d (.int .i64 (p.1:Int))))],
  az (az (λ_=>.hole) 0 (.cells true false 65 [.d (.int .i64 0),.d .nilsl,.d .nilsl,.d (.int .i64 0),.d .nilsl,.d .nilsl])) 1 (.cells true false 65 [.d (.int .i64 (dY p.2.1)),rC (dZ p.2.1),rC (eL p.2.1),.d (.int .i64 (dY p.2.2)),rC (dZ p.2.2),rC (eL p.2.2)])⟩) 2
  (λp=>1<=p.1/\p.1<=l.length/\br p.2.1 20000000000/\br p.2.2 20000000000/\lP (l.drop p.1) p.2.1=R/\lO (l.drop p.1) p.2.2=S) (λp=>l.length-p.1) (1,x0,x0) (Le.eY _) ⟨bh _,hl,hs _ (afg h0),hs _ (afg h0),hR,hS⟩ ?_
 rintro⟨i,u,v⟩ ⟨h1,h2,h3,h4,h5,h6⟩;simp only at h1 h2 h3 h4 h5 h6;refine aaa λK2 hK2=>abf @YK ?_
 by_cases hlt:i<l.length
 ·have hlt':(i:Int)<(l.length:Int):=by omega
  obtain⟨x,hx⟩:∃x,l[i]?=some x:=⟨_,fy hlt⟩
  have hxs:=hs _ (afg hx);have hix:=λlv=>Rr l lv i x hx
  have k1:=NX G u x h3 hxs;have k2:=Qh G v x h4 hxs;have f12:=bB (n:=(i:Int)+1) (by omega) (by omega);have z1:=IK h3 hxs;have z2:=JO h4 hxs;have e1:lP (l.drop (i+1)) (iJ u x)=R:=by rw[pZ,<-uT hx];exact h5
  have e2:lO (l.drop (i+1)) (jz v x)=S:=by rw[<-uZ hx];exact h6
  generalize iJ u x=u1 at *
  generalize jz v x=v1 at *
  refine aaX (by simp[hlt']<;>omega) (aav (hK2 _ _ (aaa λK4 hK4=>aaE ?_)));refine abx mixed (by kernel_rfl) rfl ?_;simp[hix,jk,<-mj];refine ag.p 2 9 k1 ?_;simp[hix,jk,<-mj];refine ag.p 2 9 k2 ?_;simp[bRI,ai];refine⟨by kernel_rfl,?_⟩
  repeat refine aj ?_
  apply hK4;refine aar ?_;simp[f12];exact⟨i+1,u1,v1,Le.eY _ (by simp[ai]),⟨by omega,by omega,z1,z2,e1,e2⟩,by omega⟩
 ·have hlt':¬(i:Int)<(l.length:Int):=by omega
  have hd:l.drop i=[]:=aeH (by omega);rw[hd]at h5 h6;have h5:u=R:=h5;have h6:v=S:=h6;refine abd (by simp[hlt']<;>omega) (abn (hK _ _ (aaa λK hK=>acK @ai.eq_1 (hK _ _ ?_))));subst h5;subst h6;exact aaH (aM.riv (κ:=0) (t:=2) (k:=0) ⟨rfl,rfl⟩ (by simp) (by simp[ai]))
attribute [local irreducible] aM
theorem NM{n:Nat}(h0:n≠0)(h:n<1000000000):cC (n:Rat)=.agg [.d (.int .i64 1),.d (.sl [[.int .i64 (n:Int)]]),.d (.sl [[.int .i64 1]])]:=by
 have e1:((n:Rat)).num=(n:Int):=rfl;have e2:((n:Rat)).den=1:=rfl;have e3:¬(n:Int)=0:=by omega
 have e4:¬(n:Int)<0:=by omega
 show rA (dY n) (dZ n) (eL n)=_;unfold dY dZ eL;rw[e1,e2,if_neg e3,if_neg e3,if_neg e3,if_neg e4,WE,agT,KM (by decide) h0 h];rfl
theorem hU(m:Int)(n:Nat)(h0:n≠0)(h:n<1000000000)(hc:aa Tryz.prog (GG m) 108 [.c (.d (.int .i64 (n:Int)))] (.agg [.d (.int .i64 1),.d (.sl [[.int .i64 (n:Int)]]),.d (.sl [[.int .i64 1]])])):
 aa Tryz.prog (GG m) 108 [.c (.d (.int .i64 (n:Int)))] (cC (n:Rat)):=by
 rw[NM h0 h];exact hc
theorem uy(m:Int):∀n:Nat,n<=16->aa Tryz.prog (GG m) 108 [.c (.d (.int .i64 (n:Int)))] (cC (n:Rat))
 |0,_=>by
  have h:aa Tryz.prog (GG m) 108 [.c (.d (.int .i64 0))] (.agg [.d (.int .i64 0),.d .nilsl,.d .nilsl]):=aa.gM (gx m 60) (by kernel_rfl);exact h
 |1,_=>hU m 1 (by decide) (by decide) (aa.gM (gx m 60) (by kernel_rfl))
 |2,_=>hU m 2 (by decide) (by decide) (aa.gM (gx m 60) (by kernel_rfl))
 |3,_=>hU m 3 (by decide) (by decide) (aa.gM (gx m 60) (by kernel_rfl))
 |4,_=>hU m 4 (by decide) (by decide) (aa.gM (gx m 60) (by kernel_rfl))
 |5,_=>hU m 5 (by decide) (by decide) (aa.gM (gx m 60) (by kernel_rfl))
 |6,_=>hU m 6 (by decide) (by decide) (aa.gM (gx m 60) (by kernel_rfl))
 |7,_=>hU m 7 (by decide) (by decide) (aa.gM (gx m 60) (by kernel_rfl))
 |8,_=>hU m 8 (by decide) (by decide) (aa.gM (gx m 60) (by kernel_rfl))
 |9,_=>hU m 9 (by decide) (by decide) (aa.gM (gx m 60) (by kernel_rfl))
 |10,_=>hU m 10 (by decide) (by decide) (aa.gM (gx m 60) (by kernel_rfl))
 |11,_=>hU m 11 (by decide) (by decide) (aa.gM (gx m 60) (by kernel_rfl))
 |12,_=>hU m 12 (by decide) (by decide) (aa.gM (gx m 60) (by kernel_rfl))
 |13,_=>hU m 13 (by decide) (by decide) (aa.gM (gx m 60) (by kernel_rfl))
 |14,_=>hU m 14 (by decide) (by decide) (aa.gM (gx m 60) (by kernel_rfl))
 |15,_=>hU m 15 (by decide) (by decide) (aa.gM (gx m 60) (by kernel_rfl))
 |16,_=>hU m 16 (by decide) (by decide) (aa.gM (gx m 60) (by kernel_rfl))
 |n+17,h=>absurd h (by omega)
theorem ZW{i L:Nat}(h:i<=16):i*L<=16*L:=adJ _ h
theorem vC{x:Rat}{L M:Nat}(h:br x L)(hM:16*L+1<=M)(i:Nat)(hi:i<=16):br (x^i) M:=au (qm h i) (Ju (Nat.add_le_add_right (ZW hi) 1) hM)
theorem HD(m:Int)(x:Rat)(n:Nat)(hn:n<=16)(hx:br x 1000000):aa Tryz.prog (GG m) 97 [cC x,.c (.d (.int .i64 n))] (cC (x^n)):=by
 have c1:aa Tryz.prog (GG m) 108 [.c (.d (.int .i64 1))] (cC 1):=uy m 1 (by decide);have hp:∀i,i<=16->br (x^i) 100000000:=vC hx (by decide);have cm:=λi (hi:i<=16)=>j6 (GG m) (x^i) x (au (hp i hi) (by decide)) (au hx (by decide))
 simp only[<-afE]at cm;have e1:IntKind.i64.wrap (-(n:Int)) = -(n:Int):=bB (by omega) (by omega);refine aa.enc Tryz.func97 rfl (λlv=>dR lv _ _ _) λ_=>aah ?_;refine aaa λK hK=>aar ?_;simp;refine ag.p 3 9 c1 ?_;simp[ai]
 repeat refine aj ?_
 apply hK;refine aaa λK hK=>aaa λK1 hK1=>aar ?_;simp
 repeat refine aj ?_
 apply hK1;refine aaE ?_
 refine abr (λ(i:Nat)=>⟨aU [(1,.c (.d (.int .i64 n))),(2,.c (.ptr 0 0)),(4,.c (.ptr 1 0)),(5,.c (.ptr 3 0)),(6,.c (.d (.int .i64 (i:Int))))],
  az (az (az (λ_=>.hole) 0 (.cells true false 55 [.d (.int .i64 (dY x)),rC (dZ x),rC (eL x)])) 1 (.cells true false 55 [.d (.int .i64 0),.d .nilsl,.d .nilsl])) 3 (.cells true false 55 [.d (.int .i64 (dY (x^i))),rC (dZ (x^i)),rC (eL (x^i))])⟩) 5
  (λi=>i<=n) (λi=>n-i) 0 (Le.eY _) (aa2 _) ?_
 rintro i hi
 try simp only at hi ⊢
 by_cases hlt:i<n
 ·have hlt':(i:Int)<(n:Int):=by omega
  have f:=bB (n:=(i:Int)+1) (by omega) (by omega);have c2:=cm i (by omega);obtain⟨y,hy⟩:∃y,x^(i+1)=y:=⟨_,rfl⟩
  rw[hy]at c2;refine aaa λK2 hK2=>abf hlt' ?_;refine abl (aav (hK2 _ _ (aaa λK4 hK4=>aaE (adq 20 c2 @ai.eq_1 (hK4 _ _ ?_)))));refine aar ?_;simp[f];subst hy;exact⟨i+1,Le.eY _ (by simp[ai]),by omega,by omega⟩
 ·have e:i=n:=by omega
  subst e;have h2:¬(i:Int) < -(i:Int):=by omega
  have h3:¬(i:Int)<0:=by omega
  refine aaa λK2 hK2=>ace e1 h2 ?_;refine aba (abn (hK _ _ (aaa λK hK=>abf h3 ?_)));refine aba (aav (hK _ _ (abf @ai.eq_1 ?_)));exact aaH (aM.ref (k:=1) rfl (by simp) (by simp[ai]) rfl)
end Go.Am
namespace Go.Am
open Go.Am.Ty Go.Proofs N
variable {n k N j:Nat}
def ED(a:Iv):List DV:=[.int .i64 (dY a.1),rD (dZ a.1),rD (eL a.1),.int .i64 (dY a.2),rD (dZ a.2),rD (eL a.2)]
theorem DK(a:Iv):(ED a).map CV.d=[.d (.int .i64 (dY a.1)),rC (dZ a.1),rC (eL a.1),.d (.int .i64 (dY a.2)),rC (dZ a.2),rC (eL a.2)]:=by simp only[mj];rfl
def Jc(l:List Iv):List CV:=(l.map ED).flatten.map CV.d
def SN(l:List Iv):LB:=if l=[]then .hole else .cells true false 65 (Jc l)
def UN(l:List Iv):AV:=if l=[]then .c (.d .nilsl)else .c (.aH 0 0 l.length 6)
def El(l:List Iv):Option (List (List DV)):=if l=[]then none else some (l.map ED)
theorem T3(l:List Iv):(Jc l).length=l.length*6:=by
 unfold Jc;rw[ab0,Bq (z:=6) (by intro e he;obtain⟨a,_,rfl⟩:=List.mem_map.1 he;rfl),ab0]
theorem Nd(l:List Iv)(a:Iv):Jc l++[.d (.int .i64 (dY a.1)),rC (dZ a.1),rC (eL a.1),.d (.int .i64 (dY a.2)),rC (dZ a.2),rC (eL a.2)]=Jc (l++[a]):=by
 unfold Jc;rw[<-DK];simp
theorem FJ(l:List Iv)(a:Iv):SN (l++[a])=.cells true false 65 (Jc (l++[a])):=by
 unfold SN;rw[if_neg (by simp)]
theorem DF(l:List Iv)(a:Iv):UN (l++[a])=.c (.aH 0 0 (l.length+1) 6):=by
 unfold UN;rw[if_neg (by simp)];simp
theorem Sa(l:List Iv)(g:Key->Key):(Jc l).map (CV.bY g)=Jc l:=by
 unfold Jc;rw[aed];rfl
theorem Zb(lv:Key->LB)(κ:Key)(h:lv κ=.hole)(a b c d e f:CV):ak Tryz.prog 108 1 [0] lv κ [.agg [a,b,c,d,e,f]]=some (.c (.aH κ 0 1 6),[(κ,.cells true false 65 [a,b,c,d,e,f])],[],True):=by
 unfold ak;rw[h];kernel_rfl
theorem QI{lv:Key->LB}{k:Key}{own fz:Bool}{T:TypeId}{l:List Iv}(h:lv k=.cells own fz T (Jc l))(hl:l.length<=9223372036854775807)(h0:l≠[]):dI lv (.c (.aH k 0 l.length 6))=some (.c (bV (El l)),[k]):=by
 have:=th (es:=l.map ED) (sz:=6) h (by intro e he;obtain⟨a,_,rfl⟩:=List.mem_map.1 he;rfl) (by rw[ab0];exact hl);rw[ab0]at this;rw[this];unfold El;rw[if_neg h0];rfl
def Mi(s:Sp):Int:=if cM s.1=0 then cM s.2 else cM s.1
def fE:List Sp->Int
 |[]=>0
 |s::l=>if Mi s≠0 then Mi s else fE l
def gE:List Sp->Int
 |[]=>0
 |s::l=>if oF s.1 s.2≠0 then oF s.1 s.2 else gE l
def Rq(l:List Sp):Int:=if fE l≠0 then fE l else gE l
theorem KL(G:List (List DV))(b:Option (List Sp))(hb:(bp b).length<=1048576):aa Tryz.prog G 60 [.c (bV (wh b))] (.tup [.c (bV (if Rq (bp b)=0 then El (eD (bp b))else none)),.c (.d (.int .i64 (Rq (bp b))))]):=by
 have hlp:=λlv=>S3 lv b
 have hix:=λlv {i:Nat}(hi:i<(bp b).length)=>Y1 lv b hi
 refine aa.ed Tryz.func60 rfl λ_=>aah ?_;refine aaa λK hK=>aah ?_;refine aaE ?_
 refine abr (λ(i:Nat)=>⟨aU [(0,.c (bV (wh b))),(4,.c (.d (.int .i64 i)))],λ_=>.hole⟩) 0
  (λi=>i<=(bp b).length/\fE ((bp b).drop i)=fE (bp b)) (λi=>(bp b).length-i) 0 (Le.eY _) ⟨aa2 _,rfl⟩ ?_
 rintro i ⟨hi,hb2⟩
 try simp only at hi hb2 ⊢
 refine aaa λK3 hK3=>abf hlp ?_
 by_cases hlt:i<(bp b).length
 ·have hlt':(i:Int)<((bp b).length:Int):=by omega
  have hx:=λlv=>hix lv hlt
  have f12:=bB (n:=(i:Int)+1) (by omega) (by omega);have hd:(bp b).drop i=(bp b)[i]::(bp b).drop (i+1):=adT hlt;rw[hd]at hb2;have c1:=oR G (bp b)[i].1;have c2:=oR G (bp b)[i].2;generalize (bp b)[i]=s at *
  refine aaX (by simp[hlt']<;>omega) (aav (hK3 _ _ (aaa λK5 hK5=>aaE (aaF λK6 hK6=>?_))));simp[hx,PW];refine ag.p 3 9 c1 ?_;simp
  repeat refine aj ?_
  apply hK6;refine aaa λK6 hK6=>aah ?_
  by_cases h1:cM s.1=0
  ·refine aaX (by simp[h1]<;>omega) (aar ?_);simp[hx,PW];refine ag.p 3 9 c2 ?_;simp
   repeat refine aj ?_
   apply hK6;refine aah ?_
   by_cases h2:cM s.2=0
   ·refine abd (by simp[h2]<;>omega) (aav (hK5 _ _ (aar ?_)));simp[f12];have hc:Mi s=0:=by unfold Mi;rw[if_pos h1];exact h2
    exact⟨i+1,Le.eY _,⟨by omega,by rw[<-hb2,fE,if_neg (not_not_intro hc)]⟩,by omega⟩
   ·have hc:Mi s=cM s.2:=by unfold Mi;rw[if_pos h1]
    have hbe:fE (bp b)=cM s.2:=by rw[<-hb2,fE,if_pos (by rw[hc];exact h2),hc]
    have hre0:Rq (bp b)=cM s.2:=by unfold Rq;rw[hbe,if_pos h2]
    refine aaX (by simp[h2]<;>omega) (aah ?_);rw[hre0,if_neg h2];exact aaH (κ:=0) (gG.tB (κ:=0) (X:=.c (.d .nilsl)) (Y:=.c (.d (.int .i64 (cM s.2)))) (ks:=[]) rfl (by simp) (by simp) rfl rfl rfl)
  ·refine abd (by simp[h1]<;>omega) (aav (hK6 _ _ (aah ?_)));have hc:Mi s=cM s.1:=by unfold Mi;rw[if_neg h1]
   have hbe:fE (bp b)=cM s.1:=by rw[<-hb2,fE,if_pos (by rw[hc];exact h1),hc]
   have hre0:Rq (bp b)=cM s.1:=by unfold Rq;rw[hbe,if_pos h1]
   refine aaX (by simp[h1]<;>omega) (aah ?_);rw[hre0,if_neg h1];exact aaH (κ:=0) (gG.tB (κ:=0) (X:=.c (.d .nilsl)) (Y:=.c (.d (.int .i64 (cM s.1)))) (ks:=[]) rfl (by simp) (by simp) rfl rfl rfl)
 have hlt':¬(i:Int)<((bp b).length:Int):=by omega
 have hie:i=(bp b).length:=by omega
 subst hie;have hf0:fE (bp b)=0:=by rw[<-hb2,List.drop_length];rfl
 have hre:Rq (bp b)=gE (bp b):=by unfold Rq;rw[hf0];rfl
 refine abd (by simp[hlt']<;>omega) (abn (hK _ _ (aah ?_)));refine aaa λK hK=>aah ?_;refine aaE ?_
 refine abr (λ(i:Nat)=>⟨aU [(0,.c (bV (wh b))),(6,UN (eD ((bp b).take i))),(7,.c (.d (.int .i64 i)))],az (λ_=>.hole) 0 (SN (eD ((bp b).take i)))⟩) 1
  (λi=>i<=(bp b).length/\gE ((bp b).drop i)=gE (bp b)) (λi=>(bp b).length-i) 0 (Le.eY _ (by simp only[List.take_zero,eD,aeD,SN,if_true];exact(mF rfl).symm) (by simp[UN,eD])) ⟨aa2 _,rfl⟩ ?_
 rintro i ⟨hi,hb2⟩
 try simp only at hi hb2 ⊢
 refine aaa λK4 hK4=>abf hlp ?_
 by_cases hlt:i<(bp b).length
 ·have hlt':(i:Int)<((bp b).length:Int):=by omega
  have hx:=λlv=>hix lv hlt
  have hnx:=FO hlt;have hll:(eD ((bp b).take i)).length=i:=by unfold eD;rw[ab0,aej];omega
  have f12:=bB (n:=(i:Int)+1) (by omega) (by omega);have hd:(bp b).drop i=(bp b)[i]::(bp b).drop (i+1):=adT hlt;rw[hd]at hb2;have hof:=Vt G (bp b)[i].1 (bp b)[i].2;generalize (bp b)[i]=s at *
  generalize eD ((bp b).take i)=l at *
  refine aaX (by simp[hlt']<;>omega) (aav (hK4 _ _ (aaa λK6 hK6=>aaE (aaF λK7 hK7=>?_))));simp[hx,PW];refine ag.p 10 9 hof ?_;simp[ai]
  repeat refine aj ?_
  apply hK7;refine aaa λK7 hK7=>aah ?_
  by_cases h0:oF s.1 s.2=0
  ·refine abd (by simp[h0]<;>omega) (aav (hK7 _ _ ?_));have hg:gE ((bp b).drop (i+1))=gE (bp b):=by rw[<-hb2,gE,if_neg (not_not_intro h0)]
   by_cases hl:l=[]
   ·subst hl;refine aar ?_;simp[SN,UN,Zb,fc,keyOf,ai,-ak]
    repeat refine aj ?_
    apply hK6;refine aar ?_;simp[f12]
    exact⟨i+1,Le.keys [(0,13,SN ([]++[xy s.1 s.2]))] 19 _ (by rw[hnx];rfl) rfl (by simp) (by simp) (by simp) (by
     intro e he;simp only[aY,cy,or_false]at he;subst he;rw[FJ];simp[Jc,DK]) (by rw[hnx,DF];simp[b6]),⟨by omega,hg⟩,by omega⟩
   ·have hzb:SN l=.cells true false 65 (Jc l):=if_neg hl;have hzs:UN l=.c (.aH 0 0 l.length 6):=if_neg hl;have hzl:=T3 l;refine aar ?_;simp[hzb,hzs,Zb,fc,keyOf,hzl,ai,-ak]
    repeat refine aj ?_
    apply hK6;refine aar ?_;simp[f12]
    exact⟨i+1,Le.keys [(0,13,SN (l++[xy s.1 s.2]))] 19 _ (by rw[hnx];rfl) rfl (by simp) (by simp) (by simp) (by
     intro e he;simp only[aY,cy,or_false]at he;subst he;rw[FJ,<-Nd];simp[Sa]) (by rw[hnx,DF];simp[b6]),⟨by omega,hg⟩,by omega⟩
  ·have hbe:gE (bp b)=oF s.1 s.2:=by rw[<-hb2,gE,if_pos h0]
   refine aaX (by simp[h0]<;>omega) (aah ?_);rw[hre,hbe,if_neg h0];exact aaH (κ:=0) (gG.tB (κ:=0) (X:=.c (.d .nilsl)) (Y:=.c (.d (.int .i64 (oF s.1 s.2)))) (ks:=[]) rfl (by simp) (by simp) rfl rfl rfl)
 have hlt':¬(i:Int)<((bp b).length:Int):=by omega
 have hie:i=(bp b).length:=by omega
 subst hie;have hg0:gE (bp b)=0:=by rw[<-hb2,List.drop_length];rfl
 rw[afs];refine abd (by simp[hlt']<;>omega) (abn (hK _ _ (aah ?_)));rw[hre,hg0,if_pos rfl]
 by_cases hl:eD (bp b)=[]
 ·rw[hl];exact aaH (κ:=0) (gG.tB (κ:=0) (X:=.c (.d .nilsl)) (Y:=.c (.d (.int .i64 0))) (ks:=[]) rfl (by simp[UN,hl]) (by simp) rfl rfl rfl)
 ·have hzb:SN (eD (bp b))=.cells true false 65 (Jc (eD (bp b))):=if_neg hl;have hzs:UN (eD (bp b))=.c (.aH 0 0 (eD (bp b)).length 6):=if_neg hl;exact aaH (κ:=0) (gG.tB (κ:=0) (Y:=.c (.d (.int .i64 0))) rfl (by simp[hzs]) (by simp) rfl rfl (Un (e:=0) (QI (k:=0) (own:=true) (fz:=false) (T:=65) (by simp[hzb]) (by simp[eD];omega) hl)))
theorem Kb(l:List Iv):(sO (El l)).length=l.length:=by unfold El;split<;>simp_all [sO]
theorem abM(lv:Key->LB)(l:List Iv):fX Tryz.prog 108 lv (.c (bV (El l)))=some (.c (.d (.int .i64 l.length)),[],[],True):=by
 rw[<-Kb l];exact k7 (by simp)
theorem ab1(lv:Key->LB)(l:List Iv){i:Nat}(hi:i<l.length):aq Tryz.prog 108 lv (.c (bV (El l))) (.c (.d (.int .i64 (i:Int))))=some (.c (.d (.ptr (ED l[i]))),[],[],True):=by
 refine Fj (sz:=6) (by simp) (by omega) (by rw[Kb];omega) ?_ rfl;have hl:l≠[]:=by intro e;subst e;cases hi
 rw[aeA];unfold El;rw[if_neg hl];show(l.map ED).getD i []=ED l[i];rw[adS,aeP,fy hi];rfl
theorem VU(o:Option (List Nat)):CV.d (rD o)=rC o:=(mj o).symm
theorem KV(G:List (List DV))(a:Iv)(h:a.z):aa Tryz.prog G 107 [tO a] (cC (a.2-a.1)):=by
 have c1:=Ov G a.2 a.1 (szD h.2) (szD h.1);obtain⟨a1,a2⟩:=a;simp only at c1;refine aa.enc Tryz.func107 rfl (λlv=>dR lv _ _ _) λ_=>aah ?_;refine acA 4 c1 @ai.eq_1 ?_;exact aaH (aM.ref (k:=1) rfl (by simp) (by simp[ai]) rfl)
attribute [local irreducible] aM
theorem sI(m:Int)(x:Rat)(n:Nat)(hn:n<=16)(hx:br x 1000000):aa Tryz.prog (GG m) 54 [cC x,.c (.d (.int .i64 n))] (cC (x^n)):=by
 have c1:=HD m x n hn hx;generalize x^n=y at *
 refine aa.enc Tryz.func54 rfl (λlv=>dR lv _ _ _) λ_=>aaa λK hK=>aar ?_;simp
 repeat refine aj ?_
 apply hK;refine acA 3 c1 @ai.eq_1 ?_;exact aaH (aM.ref (k:=1) rfl (by simp) (by simp[ai]) rfl)
theorem vW(G:List (List DV))(r:List UInt8):aa Tryz.prog G 52 [.c (.d (.str r))] (cC (cT r)):=by
 have c1:=lf G r;generalize cT r=y at *
 generalize cM r=e at *
 refine aa.enc Tryz.func52 rfl (λlv=>dR lv _ _ _) λ_=>aah ?_;refine acA 3 c1 @ai.eq_1 ?_;refine abf @ai.eq_1 ?_;exact aaH (aM.ref (k:=0) rfl (by simp) (by simp[ai]) rfl)
theorem J8(h:n<=2^k)(hk:k<=64):br (n:Rat) 8:=by
 have h1:=dc h;have h2:=o9 k;have h3:=eK;exact⟨by show nl n<=8;omega,by show nl 1<=8;omega⟩
theorem W1(h:j<=N):(N+1)*ch N j=(j+1)*ch (N+1) (j+1):=by
 have h1:=I9 N j h;have h2:ch (N+1) (j+1)=ch N j+ch N (j+1):=rfl;rw[h2,aey,h1,<-ad7];congr 1;omega
theorem S1(h:j<=N):(ch N j:Rat)*((N+1:Nat):Rat)/((j+1:Nat):Rat)=(ch (N+1) (j+1):Rat):=by
 have h1:=W1 h;have h2:((N+1:Nat):Rat)*(ch N j:Rat)=((j+1:Nat):Rat)*(ch (N+1) (j+1):Rat):=by rw[<-afT,<-afT,h1]
 have h3:((j+1:Nat):Rat)≠0:=by
  intro e;have:j+1=0:=by exact_mod_cast e
  omega
 rw[afU,h2,afU,Rat.div_def,Rat.mul_assoc,Rat.mul_inv_cancel _ h3,afz]
theorem AL(h:n<=16):br (ch n k:Rat) 8:=J8 (Jh n k) (by omega)
theorem H7(h:n<=16):br (n:Rat) 8:=J8 (k:=16) (by omega) (by decide)
theorem nP(m:Int)(n k:Nat)(hk:k<=n)(hn:n<=16):aa Tryz.prog (GG m) 106 [.c (.d (.int .i64 n)),.c (.d (.int .i64 k))] (cC (ch n k:Rat)):=by
 have c1:aa Tryz.prog (GG m) 108 [.c (.d (.int .i64 1))] (cC 1):=uy m 1 (by decide);have ci:=λi (hi:i<=16)=>uy m i hi
 have e1:IntKind.i64.wrap ((n:Int)-(k:Int))=((n-k:Nat):Int):=by rw[bB (by omega) (by omega)];omega
 refine aa.enc Tryz.func106 rfl (λlv=>dR lv _ _ _) λ_=>aah ?_;refine acA 3 c1 @ai.eq_1 ?_;refine aaa λK hK=>aaa λK1 hK1=>aar ?_;simp
 repeat refine aj ?_
 apply hK1;refine aaE ?_
 refine abr (λ(i:Nat)=>⟨aU [(0,.c (.d (.int .i64 n))),(1,.c (.d (.int .i64 k))),(4,.c (.ptr 0 0)),(5,.c (.ptr 3 0)),(6,.c (.d (.int .i64 ((i:Int)+1))))],
  az (az (λ_=>.hole) 0 (.cells true false 55 [.d (.int .i64 0),.d .nilsl,.d .nilsl])) 3 (.cells true false 55 [.d (.int .i64 (dY (ch (n-k+i) i:Rat))),rC (dZ (ch (n-k+i) i:Rat)),rC (eL (ch (n-k+i) i:Rat))])⟩) 5
  (λi=>i<=k) (λi=>k-i) 0 (Le.eY _ (by simp[ch])) (aa2 _) ?_
 rintro i hi
 try simp only at hi ⊢
 by_cases hlt:i<k
 ·have hlt':(i:Int)+1<=(k:Int):=by omega
  have f:=bB (n:=(i:Int)+1+1) (by omega) (by omega);obtain⟨q,hq⟩:∃q:Int,((n-k+i+1:Nat):Int)=q:=⟨_,rfl⟩
  have e2:IntKind.i64.wrap (((n-k:Nat):Int)+((i:Int)+1))=q:=by rw[bB (by omega) (by omega)];omega
  have c2:=ci (n-k+i+1) (by omega);have c3:=ci (i+1) (by omega);rw[hq]at c2;rw[show((i+1:Nat):Int)=(i:Int)+1 from rfl]at c3;have c4:=j6 (GG m) (ch (n-k+i) i:Rat) ((n-k+i+1:Nat):Rat) (au (AL (by omega)) (by decide)) (au (H7 (by omega)) (by decide));have z4:=ke (AL (n:=n-k+i) (k:=i) (by omega)) (H7 (n:=n-k+i+1) (by omega));have c5:=E6 (GG m) ((ch (n-k+i) i:Rat)*((n-k+i+1:Nat):Rat)) ((i+1:Nat):Rat) (au z4 (by decide)) (au (H7 (by omega)) (by decide));rw[S1 (by omega)]at c5;generalize (ch (n-k+i) i:Rat)*((n-k+i+1:Nat):Rat)=y1 at *
  generalize hy2:(ch (n-k+i+1) (i+1):Rat)=y2 at *
  generalize (ch (n-k+i) i:Rat)=y0 at *
  generalize ((n-k+i+1:Nat):Rat)=y3 at *
  generalize ((i+1:Nat):Rat)=y4 at *
  refine aaa λK2 hK2=>abf hlt' ?_;refine abl (aav ?_);simp
  repeat refine aj ?_
  apply hK2;refine aaa λK4 hK4=>aaE ?_;refine abx mixed (by kernel_rfl) rfl ?_;simp[e1,e2];refine ag.p 20 9 c2 ?_;simp;refine ag.p 20 9 c4 ?_;simp;refine ag.p 20 9 c3 ?_;simp;refine ag.p 20 9 c5 ?_;simp[ai];refine⟨by kernel_rfl,?_⟩
  repeat refine aj ?_
  apply hK4;refine aar ?_;simp[f];exact⟨i+1,Le.eY _ (by simp[ai,hy2,show n-k+(i+1)=n-k+i+1 by omega]),by omega,by omega⟩
 ·have e:i=k:=by omega
  subst e;have h2:¬(i:Int)+1<=(i:Int):=by omega
  rw[show n-i+i=n by omega];refine aaa λK2 hK2=>abf h2 ?_;refine aba (abn (hK _ _ (abf @ai.eq_1 ?_)));exact aaH (aM.ref (k:=0) rfl (by simp) (by simp[ai]) rfl)
theorem GP(m:Int)(a:Iv)(n k:Nat)(hn:n<=16)(hz:a.z):aa Tryz.prog (GG m) 62 [tO a,.c (.d (.int .i64 n)),.c (.d (.int .i64 k))] (cC (shr n a.1 (a.2-a.1) k)):=by
 by_cases h:n<k
 ·have h':(n:Int)<(k:Int):=by omega
  rw[show shr n a.1 (a.2-a.1) k=0 from if_pos h];have bz:eS Tryz.prog 55 [] []=some (cC 0,[],[],True):=R8;refine aa.enc Tryz.func62 rfl (λlv=>dR lv _ _ _) λ_=>aah ?_;refine aaa λK hK=>abf h' ?_;refine abl (ace bz @ai.eq_1 ?_);exact aaH (aM.ref (k:=1) rfl (by simp) (by simp[ai]) rfl)
 ·have h':¬(n:Int)<(k:Int):=by omega
  rw[show shr n a.1 (a.2-a.1) k=(ch n k:Rat)*(a.1^(n-k)*(a.2-a.1)^k) from if_neg h];have c1:=nP m n k (by omega) hn;have e1:IntKind.i64.wrap ((n:Int)-(k:Int))=((n-k:Nat):Int):=by rw[bB (by omega) (by omega)];omega
  have c2:=sI m a.1 (n-k) (by omega) (au hz.1 (by decide));have z2:=vC hz.1 (M:=5000) (by decide) (n-k) (by omega);have cw:=KV (GG m) a hz;have zw:=Iv.BI hz;have c3:=sI m (a.2-a.1) k (by omega) (au zw (by decide));have z3:=vC zw (M:=10000) (by decide) k (by omega);have c4:=j6 (GG m) (a.1^(n-k)) ((a.2-a.1)^k) (au z2 (by decide)) (au z3 (by decide));have z4:=ke z2 z3;have c5:=j6 (GG m) (ch n k:Rat) (a.1^(n-k)*(a.2-a.1)^k) (au (AL hn) (by decide)) (au z4 (by decide));generalize (ch n k:Rat)*(a.1^(n-k)*(a.2-a.1)^k)=y5 at *
  generalize a.1^(n-k)*(a.2-a.1)^k=y4 at *
  generalize (a.2-a.1)^k=y3 at *
  generalize a.1^(n-k)=y2 at *
  generalize (ch n k:Rat)=y1 at *
  generalize a.2-a.1=w at *
  obtain⟨a1,a2⟩:=a;simp only at *
  refine aa.enc Tryz.func62 rfl (λlv=>dR lv _ _ _) λ_=>aah ?_;refine aaa λK hK=>abf h' ?_;refine aba (aav ?_);simp
  repeat refine aj ?_
  apply hK;refine aaa λK hK=>?_;refine abx mixed (by kernel_rfl) rfl ?_;simp[e1];refine ag.p 20 9 c1 ?_;simp[e1];refine ag.p 20 9 c2 ?_;simp;refine ag.p 20 9 cw ?_;simp;refine ag.p 20 9 c3 ?_;simp;refine ag.p 20 9 c4 ?_;simp;refine ag.p 20 9 c5 ?_;simp[ai];refine⟨by kernel_rfl,?_⟩
  repeat refine aj ?_
  apply hK;exact aaH (aM.ref (k:=1) rfl (by simp) (by simp[ai]) rfl)
end Go.Am
namespace Go.Am
open Go.Am.Ty Go.Proofs N
theorem AW.sink{c:Ctx}{r:Option Nat}{x:Code}{s:aB}{κ:Nat}{Q:Ex->aB->Nat->Prop}(k t:Nat){T:TypeId}{cs:List CV}{y:AV}(hk:s.lv k=.cells true false T cs)
 (hd:eZ (az s.lv k (.cells true true T cs)) (s.fr t)=some (y,[k])) (h:AW c r x ⟨az s.fr t y,az s.lv k (.cells true true T cs)⟩ κ Q):AW c r x s κ Q:=λF β a w hS=>by
 have h1:=hS.freeze hk;refine h _ β a w (h1.uD.with h1.size h1.defers λu=>?_)
 by_cases e:u=t
 ·subst e;show(Vw.mk _ _ _ _).av _ (az s.fr u y u);rw[aA];exact h1.uD.eZ (λ_ h=>h) hd (λk' hk'=>by rw[List.mem_singleton.1 hk'];exact .inr rfl) (h1.fr u)
 ·show(Vw.mk _ _ _ _).av _ (az s.fr t y u);rw[aE _ _ e];exact h1.fr u
theorem Lj(f:Nat->Nat)(N:Nat)(lv:Key->LB){j:Nat}(h:j<N):aq Tryz.prog 59 lv (bQ f N) (.c (.d (.int .i64 (j:Int))))=some (.c (.d (.ptr [.int .i64 (f j:Int)])),[],[],True):=by
 have hi':(j:Int)<(N:Int):=by omega
 unfold bQ;simp[h,hi']
theorem WX(f:Nat->Nat)(N:Nat)(lv:Key->LB):fX Tryz.prog 59 lv (bQ f N)=some (.c (.d (.int .i64 (N:Int))),[],[],True):=by
 unfold bQ;simp[fX,jA,keyOf]
theorem KP{l:List Nat}{j:Nat}(h:j<l.length):bH (l.drop j)=bH (l.drop (j+1))*(l.getD j 0+1):=by
 rw[adT h,adS,fy h];show(_+1)*_=_;rw[aea];rfl
theorem wA(G:List (List DV))(f:Nat->Nat)(N i:Nat)(hN:N<=1048576)(hf:∀j,j<N->f j<=16)(hi:i<bH ((List.range N).map f))(hi2:i<=1000):
 aa Tryz.prog G 61 [bQ f N,.c (.d (.int .i64 (i:Int)))] (bQ (λj=>(s5 ((List.range N).map f) i).getD j 0) N):=by
 obtain⟨L,hL⟩:∃L,(List.range N).map f=L:=⟨_,rfl⟩
 have hLl:L.length=N:=by rw[<-hL];simp
 have hLg:∀j,j<N->L.getD j 0=f j:=λj hj=>by rw[<-hL];simp[hj]
 rw[hL]at hi;have hlp:=λlv=>WX f N lv
 have hix:=λlv {j:Nat}(hj:j<N)=>Lj f N lv hj
 have w1:=bB (n:=(N:Int)-1) (by omega) (by omega);have hmg:=λj (hj:j<N)=>IX L i hi j (by omega)
 have hmg2:(λj=>(s5 ((List.range N).map f) i).getD j 0)=λj=>(s5 L i).getD j 0:=by rw[hL]
 rw[hmg2];generalize hg:(λj=>(s5 L i).getD j 0)=g;have hgj:∀j,j<N->g j=i/bH (L.drop (j+1))%(f j+1):=λj hj=>by rw[<-hg];show(s5 L i).getD j 0=_;rw[hmg j hj,hLg j hj]
 have hfst:i/bH (L.drop N)=i:=by rw[aeH (by omega)];exact afH i
 have hA1:(bQ f N).bX=true:=rfl;obtain⟨A,hA⟩:∃A,bQ f N=A:=⟨_,rfl⟩
 rw[hA]at hA1;obtain⟨cu,hcu⟩:∃cu:Nat->Nat,∀q,i/bH (L.drop q)=cu q:=⟨_,λ_=>rfl⟩
 rw[hcu]at hfst;have hstep:∀j,j<N->cu j=cu (j+1)/(f j+1):=λj hj=>by rw[<-hcu,<-hcu,KP (by omega),hLg j hj,afY]
 have hgj:∀j,j<N->g j=cu (j+1)%(f j+1):=λj hj=>by rw[<-hcu];exact hgj j hj
 have hcl:∀q,cu q<=1000:=λq=>by rw[<-hcu];exact Ju (afq _ _) hi2
 simp only[hA]at hlp hix ⊢;refine aa.ed Tryz.func61 rfl λ_=>aah ?_;refine aaa λK hK=>aar ?_;simp[hlp]
 repeat refine aj ?_
 apply hK;have hz:jK (λ_=>0) N=jK (λp=>if N<=p then g p else 0) N:=Ci λp hp=>(if_neg (by omega)).symm
 rw[Ie,hz];refine aaa λK hK=>aaa λK1 hK1=>aar ?_;simp[hlp,w1]
 repeat refine aj ?_
 apply hK1;refine aaE ?_
 refine abr (λ(q:Nat)=>⟨aU [(0,A),(1,.c (.d (.int .i64 (cu q:Int)))),(5,.c (.aH 0 0 N 1)),(6,.c (.d (.int .i64 ((q:Int)-1))))],
  az (λ_=>.hole) 0 (.cells true false 3 (jK (λp=>if q<=p then g p else 0) N))⟩) 1
  (λq=>q<=N) (λq=>q) N (Le.eY _ (by simp) (by simp[hfst,hA1])) (bh _) ?_
 rintro q hq
 try simp only at hq ⊢
 cases q with
 |zero=>
  have hn:¬(0:Int)<=((0:Nat):Int)-1:=by decide
  refine aaa λK2 hK2=>aaa λK3 hK3=>aar ?_;simp[hn]
  repeat refine aj ?_
  apply hK3;refine abd (by simp[hn]<;>omega) (abn (hK _ _ (aah ?_)));exact aaH (gG.tmp (κ:=0) (X:=.c (.aH 0 0 N 1)) (t:=4) rfl (by simp) (Cu (f:=g) rfl (by omega)))
 |succ j=>
  have hj:j<N:=hq;have e6:((j+1:Nat):Int)-1=(j:Int):=by omega
  have hx:=λlv=>hix lv hj
  have hfj:=hf j hj;have w2:=bB (n:=(f j:Int)+1) (by omega) (by omega);have w3:=bB (n:=(j:Int)-1) (by omega) (by omega);have hp:(0:Int)<=(j:Int):=by omega
  have hne:¬(f j:Int)+1=0:=by omega
  have hrem:Int.tmod (cu (j+1):Int) ((f j:Int)+1)=(g j:Int):=by
   rw[aep (by omega),hgj j hj];rfl
  have htd:Int.tdiv (cu (j+1):Int) ((f j:Int)+1)=(cu j:Int):=by
   rw[aev (by omega),hstep j hj];rfl
  have hset:ai (jK (λp=>if j+1<=p then g p else 0) N) j [.d (.int .i64 (g j:Int))]=jK (λp=>if j<=p then g p else 0) N:=by
   rw[G0 _ hj];refine Ci λp hp=>?_
   by_cases e:p=j
   ·subst e;rw[if_pos rfl,if_pos (bh _)]
   ·rw[if_neg e]
    by_cases h:j+1<=p
    ·rw[if_pos h,if_pos (by omega)]
    ·rw[if_neg h,if_neg (by omega)]
  have hlen:j+1<=N:=hj;have w4:=bB (n:=(cu j:Int)) (by omega) (by have:=hcl j;omega);simp only[e6];refine aaa λK2 hK2=>aaa λK3 hK3=>aar ?_;simp[hp]
  repeat refine aj ?_
  apply hK3;refine abl (aav ?_);simp
  repeat refine aj ?_
  apply hK2;refine aaa λK4 hK4=>aaE (AW.f7 hx w2 hne hrem hset @zI hlen ?_)
  refine aar ?_;simp[hx,w2,hne,htd,w4]
  repeat refine aj ?_
  apply hK4;refine aar ?_;simp[w3];exact⟨j,Le.eY _ (by simp) (by simp[hA1]),by omega,by omega⟩
attribute [local irreducible] aM
theorem MJ{N:Nat}{f:Sq}{i:Nat}(h:i<N)(h0:f i=0):uP N f=0:=by
 induction N with
 |zero=>omega
 |succ N ih=>
  simp only[uP]
  by_cases e:i=N
  ·subst e;rw[h0,afV]
  ·rw[ih (by omega),Rat.zero_mul]
theorem Er(m:Int)(f k j:Nat->Nat)(N:Nat)(hN:N<=1048576)(hf:∀p,p<N->f p<=16)(hk:∀p,p<N->k p<=f p)(hj:∀p,p<N->j p<=f p)(hs:∀i,i<=N->br (uP i λp=>Bz (f p) (k p) (j p)) 1000):
 aa Tryz.prog (GG m) 63 [bQ f N,bQ k N,bQ j N] (cC (uP N λp=>Bz (f p) (k p) (j p))):=by
 have c0:aa Tryz.prog (GG m) 108 [.c (.d (.int .i64 1))] (cC 1):=uy m 1 (by decide);have bz:eS Tryz.prog 55 [] []=some (cC 0,[],[],True):=R8;have hlp:=λlv=>WX f N lv
 have hixf:=λlv {p:Nat}(hp:p<N)=>Lj f N lv hp
 have hixk:=λlv {p:Nat}(hp:p<N)=>Lj k N lv hp
 have hixj:=λlv {p:Nat}(hp:p<N)=>Lj j N lv hp
 have hA1:(bQ f N).bX=true:=rfl;have hB1:(bQ k N).bX=true:=rfl;have hC1:(bQ j N).bX=true:=rfl;have hz:∀i,i<N->k i<j i->uP N (λp=>Bz (f p) (k p) (j p))=0:=λi hi h=>MJ hi (by show Bz _ _ _=0;unfold Bz;rw[if_pos h])
 have hst:∀i,i<N->¬k i<j i->(uP i λp=>Bz (f p) (k p) (j p))*((ch (k i) (j i):Rat)/(ch (f i) (j i):Rat))=uP (i+1) λp=>Bz (f p) (k p) (j p):=λi hi h=>by
  show _=_*Bz _ _ _;unfold Bz;rw[if_neg h]
 obtain⟨R,hR⟩:∃R:Nat->Rat,∀i,(uP i λp=>Bz (f p) (k p) (j p))=R i:=⟨_,λ_=>rfl⟩
 simp only[hR]at hz hst hs ⊢;have hR0:R 0=1:=(hR 0).symm;clear hR;obtain⟨A,hA⟩:∃A,bQ f N=A:=⟨_,rfl⟩
 obtain⟨B,hB⟩:∃B,bQ k N=B:=⟨_,rfl⟩
 obtain⟨C,hC⟩:∃C,bQ j N=C:=⟨_,rfl⟩
 simp only[hA]at hlp hixf hA1 ⊢;simp only[hB]at hixk hB1 ⊢;simp only[hC]at hixj hC1 ⊢;refine aa.enc Tryz.func63 rfl (λlv=>dR lv _ _ _) λ_=>aah ?_;refine acA 3 c0 @ai.eq_1 ?_;refine aaa λK hK=>aah ?_;refine aaE ?_
 refine abr (λ(i:Nat)=>⟨aU [(0,A),(1,B),(2,C),(6,.c (.ptr 0 0)),(7,.c (.ptr 3 0)),(8,.c (.d (.int .i64 (i:Int))))],
  az (az (λ_=>.hole) 0 (.cells true false 55 [.d (.int .i64 0),.d .nilsl,.d .nilsl])) 3 (.cells true false 55 [.d (.int .i64 (dY (R i))),rC (dZ (R i)),rC (eL (R i))])⟩) 5
  (λi=>i<=N) (λi=>N-i) 0 (Le.eY _ (by simp[hR0]) (by simp[hA1,hB1,hC1])) (aa2 _) ?_
 rintro i hi
 try simp only at hi ⊢
 by_cases hlt:i<N
 ·have hlt':(i:Int)<(N:Int):=by omega
  have w1:=bB (n:=(i:Int)+1) (by omega) (by omega);have xf:=λlv=>hixf lv hlt
  have xk:=λlv=>hixk lv hlt
  have xj:=λlv=>hixj lv hlt
  have gf:=hf i hlt;have gk:=hk i hlt;have gj:=hj i hlt
  by_cases hkj:k i<j i
  ·have hkj':(k i:Int)<(j i:Int):=by omega
   rw[hz i hlt hkj];refine aaa λK2 hK2=>ace hlp hlt' ?_;refine abl (aav (hK2 _ _ (aaa λK4 hK4=>aaE (aaa λK5 hK5=>AW.d3 mixed xj xk hkj' ?_))));refine abl (ace bz @ai.eq_1 ?_);exact aaH (aM.ref (k:=0) rfl (by simp) (by simp[ai]) rfl)
  ·have hkj':¬(k i:Int)<(j i:Int):=by omega
   have c1:=nP m (k i) (j i) (by omega) (by omega);have c2:=nP m (f i) (j i) (by omega) (by omega);have z1:=AL (n:=k i) (k:=j i) (by omega);have z2:=AL (n:=f i) (k:=j i) (by omega);have c3:=E6 (GG m) (ch (k i) (j i):Rat) (ch (f i) (j i):Rat) (au z1 (by decide)) (au z2 (by decide));have z3:br ((ch (k i) (j i):Rat)/(ch (f i) (j i):Rat)) 100:=au (T5 z1 z2) (by decide);have c4:=j6 (GG m) (R i) ((ch (k i) (j i):Rat)/(ch (f i) (j i):Rat)) (au (hs i hi) (by decide)) (au z3 (by decide));rw[hst i hlt hkj]at c4;generalize (ch (k i) (j i):Rat)/(ch (f i) (j i):Rat)=y3 at *
   generalize (ch (k i) (j i):Rat)=y1 at *
   generalize (ch (f i) (j i):Rat)=y2 at *
   refine aaa λK2 hK2=>ace hlp hlt' ?_;refine abl (aav (hK2 _ _ (aaa λK4 hK4=>aaE (aaa λK5 hK5=>AW.d3 mixed xj xk hkj' ?_))));refine aba (aav (hK5 _ _ ?_));refine abx mixed (by kernel_rfl) rfl ?_;simp[xk,xj,xf];refine ag.p 20 9 c1 ?_;simp[xf,xj];refine ag.p 20 9 c2 ?_;simp;refine ag.p 20 9 c3 ?_;simp;refine ag.p 20 9 c4 ?_;simp[ai];refine⟨by kernel_rfl,?_⟩
   repeat refine aj ?_
   apply hK4;refine aar ?_;simp[w1];exact⟨i+1,Le.eY _ (by simp[ai]) (by simp[hA1,hB1,hC1]),by omega,by omega⟩
 ·have e:i=N:=by omega
  subst e;refine aaa λK2 hK2=>abf hlp ?_;refine aba (abn (hK _ _ (abf @ai.eq_1 ?_)));exact aaH (aM.ref (k:=0) rfl (by simp) (by simp[ai]) rfl)
end Go.Am
namespace Go.Am
open Go.Am.Ty Go.Proofs N
theorem By(G:List (List DV))(b:Option (List Tm))(n:Nat)(hl:(aV b).length<=9223372036854775807)(hp:∀t∈aV b,(jx t.2).length<=9223372036854775807):aa Tryz.prog G 51 [.c (bV (lB b)),.c (.d (.int .i64 n))] (.c (.d (.int .i64 (we (aV b) n)))):=by
 have hlp:=λlv=>Fg lv b
 have hix:=λlv {i:Nat}(hi:i<(aV b).length)=>FR lv b hi
 generalize hR:we (aV b) n=R;refine aa.Uk Tryz.func51 rfl λ_=>aah ?_;refine aaa λK hK=>abf hlp ?_
 by_cases h200:200<(aV b).length
 ·have h200':(200:Int)<((aV b).length:Int):=by omega
  have e:R=3:=hR▸if_pos h200;refine aaX (by simp[h200']<;>omega) (aah ?_);exact abe (aN.rt rfl 4 (by simp[e]))
 have h200':¬(200:Int)<((aV b).length:Int):=by omega
 have e:rm n (aV b)=R:=hR▸(if_neg h200).symm;refine abd (by simp[h200']<;>omega) (aav (hK _ _ (aaa λK hK=>aah ?_)));refine aaE ?_
 refine abr (λ(i:Nat)=>⟨aU [(0,.c (bV (lB b))),(1,.c (.d (.int .i64 n))),(5,.c (.d (.int .i64 i)))],λ_=>.hole⟩) 1
  (λi=>i<=(aV b).length/\rm n ((aV b).drop i)=R) (λi=>(aV b).length-i) 0 (Le.eY _) ⟨aa2 _,e⟩ ?_
 rintro i ⟨hi,hE⟩
 try simp only at hi hE ⊢
 by_cases hlt:i<(aV b).length
 ·have hlt':(i:Int)<((aV b).length:Int):=by omega
  have hx:=λlv=>hix lv hlt
  have f16:=bB (n:=(i:Int)+1) (by omega) (by omega);have hd:(aV b).drop i=(aV b)[i]::(aV b).drop (i+1):=adT hlt;have hpl:=hp _ (aT hlt);rw[hd]at hE;generalize (aV b)[i]=t at *
  have c1:=oR G t.1;obtain⟨ce,hce⟩:∃x,cM t.1=x:=⟨_,rfl⟩
  rw[hce]at c1;have hlp2:=λlv=>KO lv t.2
  have hip:=λlv {j:Nat}(hj:j<(jx t.2).length)=>F9 lv t.2 hj
  have hB1:(AV.c (CV.d (GA t.2))).bX=true:=rfl;obtain⟨pl,hpw⟩:∃pl,jx t.2=pl:=⟨_,rfl⟩
  have hE0:ce=0->rj n t=if DA 16 pl=false then 7 else if (pl.length:Int)≠n then 7 else 0:=λhc=>by unfold rj;rw[hce,if_neg (not_not_intro hc),hpw]
  have hEc:ce≠0->rj n t=ce:=λhc=>by unfold rj;rw[hce,if_pos hc]
  simp only[hpw]at hip hpl hlp2;obtain⟨t1,t2⟩:=t;simp only at *
  refine aaa λK2 hK2=>ace hlp hlt' ?_;refine abl (aav ?_);simp
  repeat refine aj ?_
  apply hK2;refine aaa λK5 hK5=>aaE (aaa λK6 hK6=>aar ?_)
  simp[hx,wo];refine ag.p 2 9 c1 ?_;simp[ai]
  repeat refine aj ?_
  apply hK6
  by_cases hc:ce=0
  rotate_left
  ·have hE2:R=ce:=by rw[<-hE];unfold rm;rw[hEc hc,if_pos hc]
   refine aaa λK6 hK6=>abf hc ?_;refine aaX (by simp[hc]<;>omega) (aah ?_);exact abe (aN.rt rfl 4 (by simp[hE2]))
  have hE1:=hE0 hc;have hfail:rj n (t1,t2)=7->R=7:=λh=>by rw[<-hE];unfold rm;rw[h];rfl
  by_cases hn:pl.length=n
  rotate_left
  ·have hn':¬(pl.length:Int)=(n:Int):=by omega
   have h7:R=7:=hfail (by rw[hE1,if_pos hn'];split<;>rfl);refine aaa λK6 hK6=>abf hc ?_;refine abd (by simp[hc]<;>omega) (aav (hK6 _ _ (aaa λK6 hK6=>aaF λK7 hK7=>?_)));simp[hx,wo,hlp2,hn']
   repeat refine aj ?_
   apply hK7;refine abl (aah ?_);exact abe (aN.rt rfl 4 (by simp[h7]))
  subst hn;rw[if_neg (not_not_intro rfl)]at hE1;refine aaa λK6 hK6=>abf hc ?_;refine abd (by simp[hc]<;>omega) (aav (hK6 _ _ (aaa λK6 hK6=>aaF λK7 hK7=>?_)));simp[hx,wo,hlp2]
  repeat refine aj ?_
  apply hK7;refine aba (aav (hK6 _ _ (aah ?_)));refine aah ?_;refine aaE ?_
  refine abr (λ(q:Nat×Int)=>⟨aU [(0,.c (bV (lB b))),(1,.c (.d (.int .i64 pl.length))),(5,.c (.d (.int .i64 i))),(7,.c (.d (.int .i64 q.2))),(8,.c (.d (.int .i64 q.1)))],λ_=>.hole⟩) 10
   (λq=>q.1<=pl.length/\0<=q.2/\q.2<=16/\DA (16-q.2) (pl.drop q.1)=DA 16 pl) (λq=>pl.length-q.1) (0,0) (Le.eY _) ⟨aa2 _,by decide,by decide,rfl⟩ ?_
  rintro⟨j,sum⟩ ⟨hj,hl0,hl1,hB⟩
  try simp only at hj hl0 hl1 hB ⊢
  by_cases hjl:j<pl.length
  ·have hjl':(j:Int)<(pl.length:Int):=by omega
   have hxp:=λlv=>hip lv hjl
   have hdp:pl.drop j=pl[j]::pl.drop (j+1):=adT hjl;have f29:=bB (n:=(j:Int)+1) (by omega) (by omega);rw[hdp]at hB;generalize pl[j]=k at *
   have hkey:k<0\/16<k\/16<sum+k->R=7:=λh=>hfail (by rw[hE1,<-hB,mV,if_pos (show k<0\/16-sum<k by omega),if_pos rfl])
   have fl:=λ(h1:¬k<0) (h2:¬16<k)=>bB (n:=sum+k) (by omega) (by omega)
   refine aaa λK8 hK8=>abf hjl' ?_;refine abl (aav (hK8 _ _ (aaa λK11 hK11=>aaE (aaF λK12 hK12=>?_))));simp[hx,wo,hxp]
   repeat refine aj ?_
   apply hK12
   by_cases hk0:k<0
   ·have h7:=hkey (.inl hk0);refine aaa λK12 hK12=>abf hk0 ?_;refine abl (aah ?_);exact abe (aN.rt rfl 4 (by simp[h7]))
   by_cases hk1:16<k
   ·have h7:=hkey (.inr (.inl hk1));refine aaa λK12 hK12=>ace hk0 hk1 ?_;refine abl (aah ?_);exact abe (aN.rt rfl 4 (by simp[h7]))
   have f1:=fl hk0 hk1
   by_cases hk2:16<sum+k
   ·have h7:=hkey (.inr (.inr hk2));refine aaa λK12 hK12=>adw hk0 hk1 f1 hk2 ?_;refine abl (aah ?_);exact abe (aN.rt rfl 4 (by simp[h7]))
   have hB2:DA (16-(sum+k)) (pl.drop (j+1))=DA 16 pl:=by rw[<-hB,mV,if_neg (show ¬(k<0\/16-sum<k) by omega)];congr 1;omega
   refine aaa λK12 hK12=>adw hk0 hk1 f1 hk2 ?_;refine aba (aav (hK12 _ _ (acK f1 (hK11 _ _ ?_))));refine aar ?_;simp[f29];exact⟨j+1,sum+k,Le.eY _,⟨by omega,by omega,by omega,hB2⟩,by omega⟩
  ·have hdn:pl.drop j=[]:=aeH (by omega);rw[hdn]at hB;have hB:true=DA 16 pl:=hB;rw[<-hB,if_neg (by decide)]at hE1;have hjl':¬(j:Int)<(pl.length:Int):=by omega
   have h0:rm pl.length ((aV b).drop (i+1))=R:=by rw[<-hE];unfold rm;rw[hE1,if_neg (not_not_intro rfl)];cases(aV b).drop (i+1)<;>rfl
   refine aaa λK8 hK8=>abf hjl' ?_;refine aba (abn (hK5 _ _ (aar ?_)));simp[f16];exact⟨i+1,Le.eY _,⟨by omega,h0⟩,by omega⟩
 ·have hnil:(aV b).drop i=[]:=aeH (by omega);rw[hnil]at hE;have hE2:R=0:=hE.symm;have hlt':¬(i:Int)<((aV b).length:Int):=by omega
  refine aaa λK2 hK2=>ace hlp hlt' ?_;refine aba (abn (hK _ _ (aah ?_)));exact abe (aN.rt rfl 4 (by simp[hE2]))
attribute [local irreducible] aM
def zl(l:List Rat):Option (List (List DV)):=if l=[]then none else some (l.map jk)
theorem Ee(l:List Rat):(sO (zl l)).length=l.length:=by unfold zl;split<;>simp_all [sO]
theorem ZA(lv:Key->LB)(l:List Rat):fX Tryz.prog 49 lv (.c (bV (zl l)))=some (.c (.d (.int .i64 l.length)),[],[],True):=by
 rw[<-Ee l];exact k7 (by simp)
theorem Z8(lv:Key->LB)(l:List Rat){i:Nat}(hi:i<l.length):aq Tryz.prog 49 lv (.c (bV (zl l))) (.c (.d (.int .i64 (i:Int))))=some (.c (.d (.ptr (jk l[i]))),[],[],True):=by
 refine Fj (sz:=3) (by simp) (by omega) (by rw[Ee];omega) ?_ rfl;have hl:l≠[]:=by intro e;subst e;cases hi
 rw[aeA];unfold zl;rw[if_neg hl];show(l.map jk).getD i []=jk l[i];rw[adS,aeP,fy hi];rfl
theorem Vc(m:Int)(b:Option (List Tm))(xs:List Rat)(hl:(aV b).length<=9223372036854775807)(hp:∀t∈aV b,(jx t.2).length<=9223372036854775807)(hz:∀x∈xs,br x 300):
 aa Tryz.prog (GG m) 18 [.c (bV (lB b)),.c (bV (zl xs))] (.tup [cC (atR (aV b) xs),.c (.d (.int .i64 (we (aV b) xs.length)))]):=by
 have ct:=By (GG m) b xs.length hl hp;have hlx:=λlv=>ZA lv xs
 have bz:eS Tryz.prog 55 [] []=some (cC 0,[],[],True):=R8
 by_cases h0:we (aV b) xs.length=0
 rotate_left
 ·rw[show atR (aV b) xs=0 from if_neg h0];generalize we (aV b) xs.length=e at *
  refine aa.Tg Tryz.func18 rfl (λlv=>gW lv _ _ _ _) λ_=>aah ?_;refine acA 2 ct hlx ?_;refine aaa λK hK=>aaa λK1 hK1=>aar ?_;simp
  repeat refine aj ?_
  apply hK1;refine aaX (by simp[h0]<;>omega) (aaa λK1 hK1=>aar ?_);simp[bz,ai]
  repeat refine aj ?_
  apply hK1;exact aaH (aM.C8 (t:=4) (k:=0) (u:=5) rfl (by simp) (by simp[ai]) (by simp) rfl)
 rw[show atR (aV b) xs=UK xs ((aV b).map cE) from if_pos h0];rw[h0]at ct ⊢;obtain⟨h200,hok⟩:=vJ h0;have hlp:=λlv=>Fg lv b
 have hix:=λlv {i:Nat}(hi:i<(aV b).length)=>FR lv b hi
 have htk:=λ{i:Nat}(hi:i<(aV b).length)=>zn xs hi
 have ha0:=zX xs (aV b);rw[<-B0];refine aa.Tg Tryz.func18 rfl (λlv=>gW lv _ _ _ _) λ_=>aah ?_;refine acA 2 ct hlx ?_;refine aaa λK hK=>aah ?_;refine aba (aav (hK _ _ (aaa λK hK=>aar ?_)));simp[bz,ai]
 repeat refine aj ?_
 apply hK;refine aaa λK hK=>aaa λK1 hK1=>aar ?_;simp
 repeat refine aj ?_
 apply hK1;refine aaE ?_
 refine abr (λ(i:Nat)=>⟨aU [(0,.c (bV (lB b))),(1,.c (bV (zl xs))),(4,.c (.ptr 0 0)),(7,.c (.ptr 2 0)),(8,.c (.d (.int .i64 i)))],
  az (az (λ_=>.hole) 0 (.cells true false 55 [.d (.int .i64 0),.d .nilsl,.d .nilsl])) 2 (.cells true false 55 [.d (.int .i64 (dY (Du xs (aV b) i))),rC (dZ (Du xs (aV b) i)),rC (eL (Du xs (aV b) i))])⟩) 20
  (λi=>i<=(aV b).length/\br (Du xs (aV b) i) (1+5201*i)) (λi=>(aV b).length-i) 0 (Le.eY _ (by rw[ha0])) ⟨aa2 _,by rw[ha0];exact gS _ (by decide)⟩ ?_
 rintro i ⟨hi,hS⟩
 try simp only at hi hS ⊢
 by_cases hlt:i<(aV b).length
 ·have hlt':(i:Int)<((aV b).length:Int):=by omega
  have hx:=λlv=>hix lv hlt
  have f27:=bB (n:=(i:Int)+1) (by omega) (by omega);have hpl:=hp _ (aT hlt);have hto:=hok _ (aT hlt);have hnx:=htk hlt;generalize (aV b)[i]=t at *
  generalize Du xs (aV b) i=S at *
  have cp:=vW (GG m) t.1;have hc0:br (cT t.1) (300+301*0):=fS t.1;have hlen:=hto.len;have hsum:=hto.sum;have hpos:=hto.pos;have hip:=λlv {j:Nat}(hj:j<(jx t.2).length)=>F9 lv t.2 hj
  obtain⟨V,hV⟩:∃V,Mk (cE t).1 xs (cE t).2=V:=⟨_,rfl⟩
  rw[hV]at hnx;have hVs:br V 5200:=by rw[<-hV];exact au (xq (s:=0) hz hc0) (by omega)
  have e2:(cE t).2=(jx t.2).map Int.toNat:=rfl;have e1:(cE t).1=cT t.1:=rfl;rw[e2]at hsum hV;rw[e1]at hV;clear e1 e2;refine aaa λK2 hK2=>ace hlp hlt' ?_;refine abl (aav (hK2 _ _ (aaa λK5 hK5=>aaE (aaF λK6 hK6=>?_))));simp[hx,wo];refine ag.p 30 9 cp ?_;simp[ai]
  repeat refine aj ?_
  apply hK6;refine aaa λK6 hK6=>aah ?_;generalize jx t.2=pl at *
  generalize cT t.1=c at *
  refine aaE ?_
  refine abr (λ(q:Nat×Rat)=>⟨aU [(0,.c (bV (lB b))),(1,.c (bV (zl xs))),(4,.c (.ptr 0 0)),(7,.c (.ptr 2 0)),(8,.c (.d (.int .i64 i))),(9,.c (.ptr 30 0)),(10,.c (.d (.int .i64 q.1)))],
   az (az (az (λ_=>.hole) 0 (.cells true false 55 [.d (.int .i64 0),.d .nilsl,.d .nilsl])) 2 (.cells true false 55 [.d (.int .i64 (dY S)),rC (dZ S),rC (eL S)])) 30 (.cells true false 55 [.d (.int .i64 (dY q.2)),rC (dZ q.2),rC (eL q.2)])⟩) 40
   (λq=>q.1<=pl.length/\br q.2 (300+301*((pl.map Int.toNat).take q.1).sum)/\Mk q.2 (xs.drop q.1) ((pl.map Int.toNat).drop q.1)=V) (λq=>pl.length-q.1) (0,c) (Le.eY _) ⟨aa2 _,by simpa using hc0,hV⟩ ?_
  rintro⟨j,v⟩ ⟨hj,hv,hE⟩
  try simp only at hj hv hE ⊢
  by_cases hjl:j<pl.length
  ·have hxp:=λlv=>hip lv hjl
   have hjx:j<xs.length:=by omega
   have hjl':(j:Int)<(xs.length:Int):=by omega
   have hxx:=λlv=>Z8 lv xs hjx
   have hxz:=hz _ (aT hjx);have f40:=bB (n:=(j:Int)+1) (by omega) (by omega);have hk0:=hpos _ (aT hjl);have hjl2:j<(pl.map Int.toNat).length:=by rw[ab0];exact hjl
   rw[adT hjx,adT hjl2,ab5]at hE
   have hsj:((pl.map Int.toNat).take (j+1)).sum=((pl.map Int.toNat).take j).sum+pl[j].toNat:=by
    rw[afi,fy hjl2,agm,ab5];simp
   have hst:((pl.map Int.toNat).take (j+1)).sum<=(pl.map Int.toNat).sum:=by
    have h:=congrArg List.sum (afh (j+1) (pl.map Int.toNat));rw[agm]at h;omega
   generalize ((pl.map Int.toNat).take j).sum=sj at *
   obtain⟨sj1,hq⟩:∃x,((pl.map Int.toNat).take (j+1)).sum=x:=⟨_,rfl⟩
   rw[hq]at hsj hst;generalize pl[j]=k at *
   obtain⟨k,rfl⟩:∃n:Nat,k=n:=⟨k.toNat,by omega⟩
   rw[aeA]at hE hsj;generalize xs[j]=x at *
   have cw:=sI m x k (by omega) (au hxz (by decide));have hvk:=yd (k:=k) hv hxz;have cm:=j6 (GG m) v (x^k) (au hv (by omega)) (au (qm hxz k) (by omega));have hE:Mk (v*x^k) (xs.drop (j+1)) ((pl.map Int.toNat).drop (j+1))=V:=hE;rw[<-hsj]at hvk;generalize x^k=y at *
   generalize v*y=v2 at *
   refine aaa λK8 hK8=>ace hlx hjl' ?_;refine abl (aav (hK8 _ _ (aaa λK11 hK11=>aaE ?_)));refine abx mixed (by kernel_rfl) rfl ?_;simp[hxx,jk,<-mj,hx,wo,hxp];refine ag.p 50 9 cw ?_;simp[ai];refine ag.p 60 9 cm ?_;simp[ai];refine⟨by kernel_rfl,?_⟩
   repeat refine aj ?_
   apply hK11;refine aar ?_;simp[f40];exact⟨j+1,v2,Le.eY _ (by simp[ai]),⟨by omega,by rw[hq];exact hvk,hE⟩,by omega⟩
  ·have hje:j=pl.length:=by omega
   have hjl':¬(j:Int)<(xs.length:Int):=by omega
   have hn1:(pl.map Int.toNat).drop j=[]:=aeH (by rw[ab0];omega);rw[hn1]at hE;have hE:v=V:=by rw[<-hE];cases xs.drop j<;>rfl
   subst hE;have ca:=uk (GG m) S v (au hS (by omega)) (au hVs (by decide));have hS2:=o3 hS hVs;rw[<-hnx]at ca hS2;refine aaa λK8 hK8=>ace hlx hjl' ?_;refine aba (abn (hK6 _ _ (aar ?_)));simp;refine ag.p 60 9 ca ?_;simp[ai]
   repeat refine aj ?_
   apply hK5;refine aar ?_;simp[f27];exact⟨i+1,Le.Bt [30] 9,⟨by omega,au hS2 (by omega)⟩,by omega⟩
 ·have hie:i=(aV b).length:=by omega
  have hlt':¬(i:Int)<((aV b).length:Int):=by omega
  rw[hie];generalize Du xs (aV b) (aV b).length=S at *
  refine aaa λK2 hK2=>abf hlp ?_;refine aba (abn (hK _ _ (abf @ai.eq_1 ?_)));exact aaH (aM.C8 (t:=4) (k:=0) (u:=5) rfl (by simp) (by simp[ai]) (by simp) rfl)
end Go.Am
namespace Go.Am
open Go.Am.Ty Go.Proofs N
variable {i m j:Nat}{k:Key}{f:Sq}
theorem J2(x:Rat):(Mc x).length=3:=rfl
theorem Ca{g:Sq}(h:∀i,i<m->f i=g i):iT f m=iT g m:=by
 induction m with
 |zero=>rfl
 |succ m ih=>simp only[iT];rw[ih λi hi=>h i (by omega),h m (by omega)]
theorem BA(f:Sq)(h:i<m):∃r,iT f m=iT f i++Mc (f i)++r/\∀g:Sq,(∀j,j<m->j≠i->g j=f j)->iT g m=iT f i++Mc (g i)++r:=by
 induction m with
 |zero=>omega
 |succ m ih=>
  by_cases e:i=m
  ·subst e;exact⟨[],by simp[iT],λg hg=>by simp only[iT,aei];rw[Ca λj hj=>hg j (by omega) (by omega)]⟩
  ·obtain⟨r,h1,h2⟩:=ih (by omega);refine⟨r++Mc (f m),by simp only[iT,h1,adX],λg hg=>?_⟩;simp only[iT];rw[h2 g λj hj hne=>hg j (by omega) hne,hg m (by omega) (by omega)];simp only[adX]
theorem N3(f:Sq)(h:i<m):∃r,(iT f m).drop (i*3)=Mc (f i)++r:=by
 obtain⟨r,h1,_⟩:=BA f h;refine⟨r,?_⟩;rw[h1,adX,afQ (by rw[xp])]
theorem R6(f:Sq)(h:i<m)(v:Rat):ai (iT f m) (i*3) (Mc v)=iT (λj=>if j=i then v else f j) m:=by
 obtain⟨r,h1,h2⟩:=BA f h;rw[h2 (λj=>if j=i then v else f j) λj _ hne=>if_neg hne,h1];unfold ai;have hl:(iT f i).length=i*3:=xp f i;have e:=adX (iT f i) (Mc (f i)) r;rw[e,List.take_left' hl,<-e,afQ (by rw[ad6,hl,J2,J2])];simp only[if_true]
theorem EE(M:Nat):ja M [CV.d (.int .i64 0),CV.d .nilsl,CV.d .nilsl]=iT (λ_=>0) M:=by
 have h:∀M,ja M [CV.d (.int .i64 0),CV.d .nilsl,CV.d .nilsl]++[CV.d (.int .i64 0),CV.d .nilsl,CV.d .nilsl]=[CV.d (.int .i64 0),CV.d .nilsl,CV.d .nilsl]++ja M [CV.d (.int .i64 0),CV.d .nilsl,CV.d .nilsl]:=by
  intro M
  induction M with
  |zero=>rfl
  |succ M ih=>
   show([CV.d (.int .i64 0),CV.d .nilsl,CV.d .nilsl]++ja M _)++_=_++([CV.d (.int .i64 0),CV.d .nilsl,CV.d .nilsl]++ja M _)
   rw[adX,ih]
 induction M with
 |zero=>rfl
 |succ M ih=>
  show [CV.d (.int .i64 0),CV.d .nilsl,CV.d .nilsl]++ja M _=iT _ M++_;rw[<-h,ih];rfl
section
variable {lv:Key->LB}{own fz:Bool}{T:TypeId}
theorem ixR{cs:List CV}{n:Nat}(h:lv k=.cells own fz T cs):aq Tryz.prog 49 lv (.c (.aH k 0 n 3)) (.c (.d (.int .i64 (i:Int))))=some (.c (.ptr k (i*3)),[],[k],i<n):=by
 simp[aq,h]
theorem ldR(h:lv k=.cells own fz T (iT f m))(hi:i<m):aF Tryz.prog 55 lv (.c (.ptr k (i*3)))=some (cC (f i),[],[k],True):=by
 obtain⟨r,hr⟩:=N3 f hi;simp[aF,h,hr,Mc]
theorem stR(h:lv k=.cells own false T (iT f m))(hi:i<m)(v:Rat):aK Tryz.prog 55 lv (.c (.ptr k (i*3))) (cC v)=some (.undef,[(k,.cells own false T (iT (λj=>if j=i then v else f j) m))],[],True):=by
 have e:=R6 f hi v;have hl:i*3+3<=(iT f m).length:=by rw[xp];omega
 unfold Mc at e;simp[aK,h,AV.cells,e,hl]
end
theorem aad(c:Sq)(M:Nat):iT c M=(((List.range M).map c).map jk).flatten.map CV.d:=by
 induction M with
 |zero=>rfl
 |succ M ih=>
  rw[agG];simp only[iT,ih,aeR,agI,adK,aeD,afZ,List.flatten_nil,aei];congr 1;simp only[Mc,mj];rfl
theorem ym{lv:Key->LB}{own fz:Bool}{T:TypeId}{c:Sq}{M:Nat}(h:lv k=.cells own fz T (iT c M))(hl:M<=9223372036854775807):dI lv (.c (.aH k 0 M 3))=some (fG ((List.range M).map c),[k]):=by
 have:=th (es:=((List.range M).map c).map jk) (lv:=lv) (k:=k) (own:=own) (fz:=fz) (T:=T) (sz:=3) (h.trans (congrArg _ (aad c M))) (by intro e he;obtain⟨a,_,rfl⟩:=List.mem_map.1 he;rfl) (by simpa using hl);rw[ab0,ab0,List.length_range]at this;exact this
theorem abz(c:Sq)(M:Nat)(lv:Key->LB)(h:i<M):aq Tryz.prog 49 lv (fG ((List.range M).map c)) (.c (.d (.int .i64 (i:Int))))=some (.c (.d (.ptr (jk (c i)))),[],[],True):=
 Rr _ lv i (c i) (by simp[h])
def qj(L:List Nat)(i:Nat):Nat->Nat:=λj=>(s5 L i).getD j 0
def Mn(f:Nat->Nat)(N:Nat)(i k:Nat):Rat:=uP N λp=>Bz (f p) (qj ((List.range N).map f) i p) (qj ((List.range N).map f) k p)
def uW(f:Nat->Nat)(N M:Nat)(pl:Sq)(i:Nat):Rat:=sm M λk=>pl k*Mn f N i k
theorem F7:∀n,n<=16->2^n<=(n+1)^4:=by decide
theorem Nr(f:Nat->Nat)(q:Nat):bH ((List.range (q+1)).map f)=bH ((List.range q).map f)*(f q+1):=by
 rw[agG,aeR];exact BC _ _
theorem EJ(f:Nat->Nat){q N:Nat}(h:q<=N):bH ((List.range q).map f)<=bH ((List.range N).map f):=by
 have h1:=kJ ((List.range N).map f) q;rw[<-List.map_take,List.take_range,aeM h]at h1;exact h1
theorem Y5(f k j:Nat->Nat)(q:Nat)(hf:∀p,p<q->f p<=16)(hk:∀p,p<q->k p<=f p)(hj:∀p,p<q->j p<=f p):
 ∃a b:Nat,b≠0/\a<=bH ((List.range q).map f)^4/\b<=bH ((List.range q).map f)^4/\uP q (λp=>Bz (f p) (k p) (j p))=mkRat a b:=by
 induction q with
 |zero=>exact⟨1,1,by decide,bh _,bh _,rfl⟩
 |succ q ih=>
  obtain⟨a,b,h0,h1,h2,h3⟩:=ih (λp hp=>hf p (by omega)) (λp hp=>hk p (by omega)) λp hp=>hj p (by omega)
  simp only[uP,h3,Nr];have gf:=hf q (by omega);have gk:=hk q (by omega);have gj:=hj q (by omega);have c1:=Ju (Jh (k q) (j q)) (Ju (ael (by decide) gk) (F7 (f q) gf));have c2:=Ju (Jh (f q) (j q)) (F7 (f q) gf);unfold Bz;rw[Nat.mul_pow]
  by_cases h:k q<j q
  ·rw[if_pos h];refine⟨0,1,by decide,aa2 _,aeh (aeb (iz _)) (aeb (Nat.succ_pos _)),?_⟩;rw[afV];rfl
  ·rw[if_neg h];have hp:ch (f q) (j q)≠0:=aeE (BJ gj);refine⟨a*ch (k q) (j q),b*ch (f q) (j q),aeN h0 hp,aeK h1 c1,aeK h2 c2,?_⟩;have e:((ch (k q) (j q):Nat):Rat)/((ch (f q) (j q):Nat):Rat)=mkRat (ch (k q) (j q):Int) (ch (f q) (j q)):=(Rat.mkRat_eq_div _ _).symm;rw[e,Rat.mkRat_mul_mkRat];rw[afG]
theorem Z7(f k j:Nat->Nat)(q N:Nat)(hq:q<=N)(h6:bH ((List.range N).map f)<=600)(hf:∀p,p<N->f p<=16)(hk:∀p,p<N->k p<=f p)(hj:∀p,p<N->j p<=f p):br (uP q λp=>Bz (f p) (k p) (j p)) 1000:=by
 obtain⟨a,b,h0,h1,h2,h3⟩:=Y5 f k j q (λp hp=>hf p (by omega)) (λp hp=>hk p (by omega)) λp hp=>hj p (by omega)
 rw[h3];have hS:bH ((List.range q).map f)^4<=2^64:=Ju (af2 (Ju (EJ f hq) h6) 4) (by decide);have n1:=dc (Ju h1 hS);have n2:=dc (Ju h2 hS);have n3:=o9 64;have:=hJ false (a:=a) (b:=b) (L:=1000) h0 (by omega) (by omega);exact this
def plF(is:List Iv)(ps:List Nat)(k:Nat->Nat):Sq:=λq=>shr (ps.getD q 0) (is.getD q (0,0)).1 ((is.getD q (0,0)).2-(is.getD q (0,0)).1) (k q)
def Mm(is:List Iv)(t:hO)(k:Nat->Nat)(j:Nat):Rat:=t.1*uP j (plF is t.2 k)
def CX(ts:List hO)(is:List Iv)(N:Nat)(k:Nat->Nat)(i:Nat):Rat:=sm i λq=>Mm is (ts.getD q (0,[])) k N
theorem EU(is:List Iv)(t:hO)(k:Nat->Nat):Mm is t k 0=t.1:=afz _
theorem EA(is:List Iv)(t:hO)(k:Nat->Nat)(h1:j<is.length)(h2:j<t.2.length):Mm is t k j*shr t.2[j] is[j].1 (is[j].2-is[j].1) (k j)=Mm is t k (j+1):=by
 unfold Mm;simp only[uP,plF,adS,fy h1,fy h2,af9];rw[Rat.mul_assoc]
theorem Oo(ts:List hO)(is:List Iv)(N:Nat)(k:Nat->Nat):CX ts is N k 0=0:=rfl
theorem D5(ts:List hO)(is:List Iv)(N:Nat)(k:Nat->Nat)(h:i<ts.length):CX ts is N k i+Mm is ts[i] k N=CX ts is N k (i+1):=by
 unfold CX;simp only[sm,adS,fy h,af9]
theorem Jw{c:Rat}{a:Iv}{p k L:Nat}(hc:br c L)(hL:1<=L)(hp:p<=16)(hz:a.z):br (c*shr p a.1 (a.2-a.1) k) (L+620*p):=by
 unfold shr
 by_cases h:p<k
 ·rw[if_pos h,afV];exact gS _ (by omega)
 rw[if_neg h]
 by_cases h0:p=0
 ·subst h0;have hk:k=0:=by omega
  subst hk;have e:((ch 0 0:Nat):Rat)=1:=rfl;rw[e,agc,Rat.pow_zero,Rat.pow_zero,afz,afz,afz];exact hc
 ·exact au (ke hc (ke (AL hp) (ke (qm hz.1 (p-k)) (qm (Iv.BI hz) k)))) (by omega)
theorem lS(l:List Nat)(j:Nat):(l.take j).sum<=l.sum:=by
 have h:=congrArg List.sum (afh j l);rw[agm]at h;omega
theorem mJ{l:List Nat}(h:j<l.length):(l.take (j+1)).sum=(l.take j).sum+l[j]:=by
 rw[afi,fy h,agm];simp
theorem Wy(is:List Iv)(t:hO)(k:Nat->Nat)(hl:t.2.length=is.length)(hiz:∀a∈is,a.z)(ht:br t.1 300)(hs:t.2.sum<=16)(j:Nat)(hj:j<=is.length):br (Mm is t k j) (300+620*(t.2.take j).sum):=by
 induction j with
 |zero=>rw[EU];exact au ht (by omega)
 |succ j ih=>
  have h1:j<is.length:=hj;have h2:j<t.2.length:=by omega
  have h3:=mJ h2;have h4:=lS t.2 (j+1);rw[<-EA is t k h1 h2];exact au (Jw (ih (by omega)) (by omega) (by omega) (hiz _ (aT h1))) (by omega)
theorem KA(is:List Iv)(t:hO)(k:Nat->Nat)(hl:t.2.length=is.length)(hiz:∀a∈is,a.z)(ht:br t.1 300)(hs:t.2.sum<=16)(j:Nat)(hj:j<=is.length):br (Mm is t k j) 10220:=by
 have:=lS t.2 j;exact au (Wy is t k hl hiz ht hs j hj) (by omega)
theorem U4(ts:List hO)(is:List Iv)(N:Nat)(k:Nat->Nat)(hN:is.length=N)(hiz:∀a∈is,a.z)(ht:∀t∈ts,br t.1 300/\t.2.sum<=16/\t.2.length=N)(i:Nat)(hi:i<=ts.length):br (CX ts is N k i) (1+10300*i):=by
 induction i with
 |zero=>rw[Oo];exact gS _ (by omega)
 |succ i ih=>
  have h1:i<ts.length:=hi;obtain⟨t1,t2,t3⟩:=ht _ (aT h1);rw[<-D5 ts is N k h1];exact au (o3 (ih (by omega)) (KA is ts[i] k (by omega) hiz t1 t2 N (by omega))) (by omega)
theorem U3(ts:List hO)(is:List Iv)(N:Nat)(hN:is.length=N)(hl:∀t∈ts,t.2.length=N)(m:Nat)(hm:m<xg ts N):
 uW (gX ts) N (xg ts N) (λk=>CX ts is N (qj (jZ ts N) k) ts.length) m=Af ts is m:=by
 subst hN;have e1:=UT ts is;have e2:ia (xF ts is)=xg ts is.length:=by rw[Dy,e1];rfl
 have h:=RA (xF ts is) ts (λt ht=>by rw[e1];exact Jl ht (hl t ht)) m (by rw[e2];exact hm);rw[e2]at h;unfold Af XT;rw[e1]at h;rw[<-h];unfold uW;refine mM λq hq=>?_;congr 1
 ·unfold CX;refine mM λi hi=>?_;unfold Mm;congr 1
  have hti:ts.getD i (0,[])∈ts:=by
   rw[adS,fy hi];exact aT hi
  rw[Uf _ _ _ (by rw[iG];exact hl _ hti) (by rw[xU,kK,iG]),iG];refine IW λj hj=>?_;have hja:j<(xF ts is).length:=by rw[iG];exact hj
  have ea:(xF ts is).getD j ⟨0,0,0⟩=⟨gX ts j,is[j].1,is[j].2-is[j].1⟩:=by
   rw[adS,fy hja];exact C3 ts is hja
  rw[ea];unfold plF qj;rw[adS (l:=is),fy hj];rfl
 ·unfold Mn;rw[Ur _ _ _ (by rw[xU]) (by rw[xU]),kK];refine IW λj hj=>?_
  have ed:(jZ ts is.length).getD j 0=gX ts j:=by
   have:j<(jZ ts is.length).length:=by rw[kK];exact hj
   rw[adS,fy this];exact nt ts _ this
  rw[ed];rfl
section
variable {ts:List hO}{is:List Iv}
end
end Go.Am
namespace Go.Am
open Go.Proofs
theorem mK.more{P:Program}{G:List (List DV)}{sp:Tb Spec}{ft:TypeId}(h:mK P G sp ft)(f0:Nat)(g0:List AV->Option AV)(hg:∀us x,g0 us=some x->∀lv,cD lv->aW P G f0 us lv (.ret x lv)):mK P G (fU f0 (.pure g0) sp) ft where
 pure:=by
  intro f g us x hf hx lv ho;rw[k8]at hf;split at hf
  ·rename_i e;subst e;cases hf;exact hg us x hx lv ho
  ·exact h.pure f g us x hf hx lv ho
 xm:=by
  intro f hf;rw[k8]at hf;split at hf
  ·cases hf
  ·exact h.xm f hf
 xx:=by
  intro f hf;rw[k8]at hf;split at hf
  ·cases hf
  ·exact h.xx f hf
 JK:=by
  intro f T hf;rw[k8]at hf;split at hf
  ·cases hf
  ·exact h.JK f T hf
 live:=by
  intro f g us lv x hf;rw[k8]at hf;split at hf
  ·cases hf
  ·exact h.live f g us lv x hf
 JZ:=by
  intro f T hf;rw[k8]at hf;split at hf
  ·cases hf
  ·exact h.JZ f T hf
end Go.Am
