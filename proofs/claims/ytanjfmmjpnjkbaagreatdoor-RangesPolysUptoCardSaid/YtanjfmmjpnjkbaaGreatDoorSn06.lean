/- Helpers: an abstract machine for Go functions, and walks of functions of the program. -/
import Derived.Test.YtanjfmmjpnjkbaaGreatDoorSn05

set_option linter.all false
set_option maxHeartbeats 8000000
set_option maxRecDepth 100000
namespace Go.Am
abbrev afW:=@List.eq_nil_or_concat
abbrev afX:=@List.concat_eq_append
open Go.Am.Ty Go.Proofs N
theorem AH(G:List (List DV))(l:List Nat):aa Tryz.prog G 131 [uM l] (uM (N.dg l)):=by
 refine aI.lJ 0 (by simp) (λV v h=>MY h) λhl=>?_;refine aa.mw Tryz.func131 rfl (by simp) ?_;rintro⟨_,_,w0,F0,W0,_,iN,β0⟩ rfl rfl rfl;refine aaa λK hK=>?_;refine acB rfl ?_;simp;apply hK;clear hK K;refine aaa λK hK=>aaE ?_;refine abr (λl'=>⟨aU [(0,uM l')],λ_=>.hole⟩) 0 (λl'=>l'.length<=l.length/\N.dg l'=N.dg l) (λl'=>l'.length) l (Le.slots _ (by simp[uM,AV.bX]) (by simp)) (by simp) ?_;rintro l' ⟨h0,h1⟩
 have fin:∀(fr:Nat->AV) (κ:Nat),fr 0=uM (N.dg l)->K ⟨fr,λ_=>.hole⟩ κ:=by
  intro fr κ h;apply hK;clear hK;refine aaa λK hK=>?_;refine acB rfl ?_;simp;apply hK;clear hK;exact aaH (aN.tmp rfl 0 (by simp[h]) rfl rfl rfl)
 refine aaa λK2 hK2=>aaa λK3 hK3=>?_;refine acB rfl ?_;rcases afW l' with rfl|⟨xs,x,rfl⟩
 ·simp[uM,fX,jA,Cd];apply hK3;refine adi (b:=false) (by simp) (abn ?_);simp;apply fin;simp[uM,<-h1]
 ·rw[afX]at *
  have h3:xs.length+1<=9223372036854775807:=by have:=hl.1;simp at h0;omega
  have h4:IntKind.i64.wrap ((xs.length:Int))=xs.length:=cj ⟨by simp only[wG];omega,by simp only[og];omega⟩;have h2:(0:Int)<(xs.length:Int)+1:=by omega
  by_cases hx:x=0
  ·subst hx;simp[uM,fX,jA,Cd,tv,h2,h4];refine⟨by omega,?_⟩;apply hK3;clear hK3 K3;refine adi (b:=true) (by simp) (aav ?_);simp;apply hK2;clear hK2 K2;refine aaE ?_;refine acB rfl ?_;simp[uM,fX,jA,Cd,h4];refine⟨⟨by omega,λe he=>?_⟩,?_⟩
   ·rcases he with he|rfl
    ·exact Yc _ _ he
    ·rfl
   refine⟨xs,Le.slots [(0,uM xs)] (by simp[uM,AV.bX]) (by simp),⟨by grind,by rw[<-h1,iZ]⟩,by omega⟩
  ·have hx':¬((x:Int)=0):=by omega
   simp[uM,fX,jA,Cd,tv,h2,h4];refine⟨by omega,?_⟩;apply hK3;clear hK3 K3;refine adi (b:=false) (by simp[hx]) (abn ?_);simp;apply fin;simp[uM,<-h1,jV hx]
end Go.Am
namespace Go.Am
open Go.Am.Ty Go.Proofs
variable {T:TypeId}{P:Program}{lv:Key->LB}{o:Option (List (List DV))}
def bV:Option (List (List DV))->CV
 |none=>.d .nilsl
 |some es=>.d (.sl es)
abbrev slA(o:Option (List (List DV))):AV:=.c (bV o)
def sO(o:Option (List (List DV))):List (List DV):=o.getD []
@[simp]theorem Z1(o:Option (List (List DV))):(AV.c (bV o)).pure=true:=by cases o<;>rfl
@[simp]theorem XV(o:Option (List (List DV))):(AV.c (bV o)).bX=true:=by cases o<;>rfl
theorem k7(h:(eW P T).isSome=true):fX P T lv (slA o)=some (.c (.d (.int .i64 (sO o).length)),[],[],True):=by
 obtain⟨⟨e,z⟩,h⟩:=Option.isSome_iff_exists.1 h
 cases o<;>simp[fX,slA,bV,sO,jA,h,keyOf]
theorem Vr{k':IntKind}{i sz:Nat}(h:(eW P T).map (·.2)=some sz)(hi:i<(sO o).length)(hs:(sO o)[i].length=sz):
 aq P T lv (slA o) (.c (.d (.int k' (i:Int))))=some (.c (.d (.ptr (sO o)[i])),[],[],True):=by
 obtain⟨⟨e,z⟩,h0,rfl⟩:=Option.map_eq_some_iff.1 h
 cases o with
 |none=>cases hi
 |some es=>
  have hi':i<es.length:=hi;have hs':(es[i]'hi').length=z:=hs;have e1:es.getD i []=es[i]'hi':=by rw[adS,fy hi'];rfl
  have e2:((0:Int)<=(i:Int)/\(i:Int)<(es.length:Int)/\(es.getD i []).length=z)=True:=by
   rw[e1,eq_iff_iff];exact⟨λ_=>trivial,λ_=>⟨by omega,by omega,hs'⟩⟩
  show aq P T lv (.c (.d (.sl es))) (.c (.d (.int k' (i:Int))))=some (.c (.d (.ptr (es[i]'hi'))),[],[],True)
  simp_all
theorem nb{x y:AV}{b:Bool}(hg:Tryz.prog.eqGuardType Tryz.prog.depth T=false)(hx:∃cs,x=.agg cs)(h:KI Tryz.prog 20 T x y=some b):aO Tryz.prog .neq T x y=some (.c (.d (.bool (!b))),[],[],True):=by
 obtain⟨cs,rfl⟩:=hx;unfold aO;simp[hg,nw,h]
end Go.Am
