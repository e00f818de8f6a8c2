/- Helpers. -/
import Derived.Test.YtfkfimmphlpllaaGreatDoorGn06
import Derived.Test.YtfkfimmphlpllaaGreatDoorCards
import Derived.Test.YtfkfimmphlpllaaGreatDoorTie
import Derived.Lay
import Derived.ProofKit
import Derived.Stop.Joined
import Derived.SevenTiedAt

set_option linter.all false
set_option maxHeartbeats 8000000
set_option maxRecDepth 100000
open Go.Proofs.Tryz
namespace Go.Proofs.YtfkfimmphlpllaaGreatDoor
open Go.Am Go.RowKit Go.ChangeShapes
variable {l:List DV}{t:TypeId}{n g:Nat}{P:Program}{W:World}
def qG:prog.types.size=404:=by kernel_rfl
def UL:prog.globals.size=10:=by kernel_rfl
def own:ownKnob prog.godebug=none:=by kernel_rfl
def kids:Kids prog (·<prog.types.size):=kids_rows (by kernel_rfl) (by kernel_rfl)
def PI:((List.range prog.types.size).all λt=>match prog.underlying t with|some (.slice e)=>decide (0<prog.cellsOf e)|_=>true)=true:=by kernel_rfl
def hz:∀t e,t<prog.types.size->prog.underlying t=some (.slice e)->0<prog.cellsOf e:=by
 intro t e ht hu;have:=List.all_eq_true.1 PI t (List.mem_range.2 ht);rw[hu]at this;simpa using this
def Qb{l:List (String×DataW Unit)}{ps:List MemPlace}(hl:DataW.LaidVars prog W l ps){n:String}{d:DataW Unit}{cs:List DV}(hm:(n,d)∈l)(hg:prog.globalNamed n=some g)
 (ht:(prog.globals[g]?).map (·.type)=some t) (hp:pG prog false 8 t=true) (hlt:t<prog.types.size) (hd:Qc d=cs):Rd (allM W) (.pointer (some ⟨g,0,none⟩)) (.ptr cs):=by
 obtain⟨g',t',vs,fuel,p,h1,h2,h3,h4⟩:=tA hl _ hm;obtain rfl:=ZU (hg.symm.trans h1);obtain rfl:=ZU (ht.symm.trans h2);obtain⟨l',_,h5,h6⟩:=tM kids 8 false t fuel _ _ hlt hp (λh=>by cases h) h4;rw[h6 rfl,hd]at h5;exact KG hg h3 h5
def NJ:Rd (allM W) (.pointer (some ⟨g,0,none⟩)) (.ptr []):=.ptr g 0 (λ_=>undef) [] (λi h=>by cases h) (λi h=>by cases h) (λi h=>by cases h)
theorem TB(hsh:W.ShapedOpen prog)(hL:laidMetH prog Rows.langSamesRow.laid W):∃m,∀g cs,(GG m)[g]?=some cs->Rd (allM W) (.pointer (some ⟨g,0,none⟩)) (.ptr cs):=by
 obtain⟨m,hm,hw⟩:=FK hsh (g:=4) (zero:=#[.int .i64 0]) (t:=3) (k:=.i64) (by rw[UL];decide) (by kernel_rfl) rfl (by kernel_rfl) (by kernel_rfl) (by kernel_rfl);rw[MakeChecks.laidMetH_plain _ _ _ (by kernel_rfl)]at hL;obtain⟨ps,hV,_⟩:=hL
 have hM:Rd (allM W) (.pointer (some ⟨4,0,none⟩)) (.ptr [.int .i64 m]):=by
  refine .ptr 4 0 (λ_=>.int .i64 m) [.int .i64 m] (λi hi=>?_) (λi hi=>rfl) (λi hi=>?_)
  ·obtain rfl:i=0:=by simp at hi;exact hi
   exact⟨Cn hm,hm⟩
  ·obtain rfl:i=0:=by simp at hi;exact hi
   exact .int .i64 m hw
 have h0:=Qb hV (n := "vernier/lang.modes") (g:=0) (t:=144) (.tail _ (.tail _ (.tail _ (.tail _ (.tail _ (.tail _ (.head _))))))) (by kernel_rfl) (by kernel_rfl) (by kernel_rfl) (by rw[qG];decide) rfl;have h1:=Qb hV (n := "vernier/lang.shapes") (g:=1) (t:=169) (.tail _ (.tail _ (.tail _ (.tail _ (.tail _ (.head _)))))) (by kernel_rfl) (by kernel_rfl) (by kernel_rfl) (by rw[qG];decide) rfl;have h2:=Qb hV (n := "vernier/lang.forms") (g:=2) (t:=210) (.tail _ (.tail _ (.tail _ (.tail _ (.tail _ (.tail _ (.tail _ (.head _)))))))) (by kernel_rfl) (by kernel_rfl) (by kernel_rfl) (by rw[qG];decide) rfl;have h3:=Qb hV (n := "vernier/lang.after") (g:=3) (t:=250) (.tail _ (.tail _ (.tail _ (.tail _ (.head _))))) (by kernel_rfl) (by kernel_rfl) (by kernel_rfl) (by rw[qG];decide) rfl;have h6:=Qb hV (n := "unicode/utf8.acceptRanges") (g:=6) (t:=370) (.tail _ (.tail _ (.tail _ (.head _)))) (by kernel_rfl) (by kernel_rfl) (by kernel_rfl) (by rw[qG];decide) rfl;have h7:=Qb hV (n := "internal/strconv.uint64pow10") (g:=7) (t:=379) (.tail _ (.tail _ (.head _))) (by kernel_rfl) (by kernel_rfl) (by kernel_rfl) (by rw[qG];decide) rfl;have h8:=Qb hV (n := "math/bits.deBruijn32tab") (g:=8) (t:=389) (.head _) (by kernel_rfl) (by kernel_rfl) (by kernel_rfl) (by rw[qG];decide) rfl;have h9:=Qb hV (n := "math/bits.deBruijn64tab") (g:=9) (t:=390) (.tail _ (.head _)) (by kernel_rfl) (by kernel_rfl) (by kernel_rfl) (by rw[qG];decide) rfl;refine⟨m,λg cs h=>?_⟩
 match g,h with
 |0,h=>obtain rfl:=ZU h;exact h0
 |1,h=>obtain rfl:=ZU h;exact h1
 |2,h=>obtain rfl:=ZU h;exact h2
 |3,h=>obtain rfl:=ZU h;exact h3
 |4,h=>obtain rfl:=ZU h;exact hM
 |5,h=>obtain rfl:=ZU h;exact NJ
 |6,h=>obtain rfl:=ZU h;exact h6
 |7,h=>obtain rfl:=ZU h;exact h7
 |8,h=>obtain rfl:=ZU h;exact h8
 |9,h=>obtain rfl:=ZU h;exact h9
 |n+10,h=>exact absurd h (by intro h;cases h)
def nt{fs:Array Field}(hu:P.underlying t=some (.struct fs))(h:qR P (n+1) t l):
 ∃ls:List (List DV),ls.length=fs.size/\l=ls.flatten/\∀i (h:i<fs.size) (h':i<ls.length),qR P n fs[i].type ls[i]:=by
 unfold qR at h;rwa[hu]at h
def gK{k:IntKind}(hu:P.underlying t=some (.int k))(h:qR P (n+1) t l):∃i,l=[.int k i]:=by
 unfold qR at h;rwa[hu]at h
def BU(hu:P.underlying t=some .string)(h:qR P (n+1) t l):∃s,l=[.str s]:=by
 unfold qR at h;rwa[hu]at h
def pM{e:TypeId}(hu:P.underlying t=some (.slice e))(h:qR P (n+1) t l):∃o,l.map CV.d=[dc o]/\∀x∈sO o,qR P n e x:=by
 unfold qR at h;rw[hu]at h;rcases h with rfl|⟨es,rfl,h⟩
 ·exact⟨none,rfl,λx hx=>by cases hx⟩
 ·exact⟨some es,rfl,h⟩
def Yt{f0 f1:Field}(hu:prog.underlying t=some (.struct #[f0,f1]))(h0:f0.type=3)(h1:f1.type=3)(h:qR prog (n+2) t l):J8 l:=by
 obtain⟨ls,hl,rfl,h3⟩:=nt hu h
 match ls,hl,h3 with
 |[a,b],_,h3=>
  have g0:qR prog (n+1) f0.type a:=h3 0 (by simp) (by simp);have g1:qR prog (n+1) f1.type b:=h3 1 (by simp) (by simp);rw[h0]at g0;rw[h1]at g1;obtain⟨x,rfl⟩:=gK Tryz.underlying3 g0;obtain⟨y,rfl⟩:=gK Tryz.underlying3 g1;exact⟨x,y,rfl⟩
def W3(h:qR prog 6 67 l):Qx l:=by
 obtain⟨ls,hl,rfl,h3⟩:=nt Tryz.underlying67 h
 match ls,hl,h3 with
 |[a,b,c],_,h3=>
  obtain⟨x,rfl⟩:=gK Tryz.underlying3 (h3 0 (by decide) (by simp));obtain⟨y,rfl⟩:=BU Tryz.underlying53 (h3 1 (by decide) (by simp));obtain⟨z,rfl⟩:=BU Tryz.underlying53 (h3 2 (by decide) (by simp));exact⟨x,y,z,rfl⟩
def WX(h:qR prog 6 55 l):P3 l:=by
 obtain⟨ls,hl,rfl,h3⟩:=nt Tryz.underlying55 h
 match ls,hl,h3 with
 |[a1,a2,a3,a4,a5,a6,a7],_,h3=>
  obtain⟨x1,rfl⟩:=gK Tryz.underlying3 (h3 0 (by decide) (by simp));obtain⟨x2,rfl⟩:=gK Tryz.underlying3 (h3 1 (by decide) (by simp));obtain⟨x3,rfl⟩:=gK Tryz.underlying3 (h3 2 (by decide) (by simp));obtain⟨x4,rfl⟩:=gK Tryz.underlying3 (h3 3 (by decide) (by simp));obtain⟨x5,rfl⟩:=gK Tryz.underlying3 (h3 4 (by decide) (by simp));obtain⟨x6,rfl⟩:=gK Tryz.underlying3 (h3 5 (by decide) (by simp));obtain⟨x7,rfl⟩:=BU Tryz.underlying53 (h3 6 (by decide) (by simp));exact⟨x1,x2,x3,x4,x5,x6,x7,rfl⟩
def Xq(h:qR prog 8 27 l):∃p:PD,p.ok/\l.map CV.d=p.cs:=by
 obtain⟨ls,hl,rfl,h3⟩:=nt Tryz.underlying27 h
 match ls,hl,h3 with
 |[a0,a1,a2,a3,a4,a5,a6,a7],_,h3=>
  obtain⟨o0,e0,k0⟩:=pM Tryz.underlying22 (h3 0 (by decide) (by simp));obtain⟨x1,rfl⟩:=gK Tryz.underlying3 (h3 1 (by decide) (by simp));obtain⟨o2,e2,k2⟩:=pM Tryz.underlying23 (h3 2 (by decide) (by simp));obtain⟨o3,e3,k3⟩:=pM Tryz.underlying24 (h3 3 (by decide) (by simp));obtain⟨x4,rfl⟩:=gK Tryz.underlying3 (h3 4 (by decide) (by simp));obtain⟨x5,rfl⟩:=gK Tryz.underlying3 (h3 5 (by decide) (by simp));obtain⟨o6,e6,k6⟩:=pM Tryz.underlying25 (h3 6 (by decide) (by simp));obtain⟨x7,rfl⟩:=gK Tryz.underlying3 (h3 7 (by decide) (by simp));refine⟨⟨o0,x1,o2,o3,x4,x5,o6,x7⟩,⟨λe he=>Yt Tryz.underlying81 rfl rfl (k0 e he),λe he=>W3 (k2 e he),λe he=>WX (k3 e he),λe he=>Yt Tryz.underlying69 rfl rfl (k6 e he)⟩,?_⟩;have e0:a0.map CV.d=[dc o0]:=e0;have e2:a2.map CV.d=[dc o2]:=e2;have e3:a3.map CV.d=[dc o3]:=e3;have e6:a6.map CV.d=[dc o6]:=e6;simp[e0,e2,e3,e6]
end Go.Proofs.YtfkfimmphlpllaaGreatDoor
