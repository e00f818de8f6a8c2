/- Helpers: an abstract machine for Go functions, and walks of functions of the program. -/
import Derived.Test.YtfkfimmphlpllaaGreatDoorEn05
import Derived.Test.YtfkfimmphlpllaaGreatDoorCards
import Derived.Test.YtfkfimmphlpllaaGreatDoorTie
import Derived.Lay
import Derived.ProofKit
import Derived.Stop.Joined
import Derived.SevenTiedAt

set_option linter.all false
set_option maxHeartbeats 8000000
set_option maxRecDepth 100000
namespace Go.Proofs.YtfkfimmphlpllaaGreatDoor
open Go.Am Go.RowKit Go.ChangeShapes
variable {l:List DV}{t:TypeId}{n g:Nat}{P:Program}{W:World}
theorem oX:Tryz.prog.types.size=404:=by kernel_rfl
theorem QF:Tryz.prog.globals.size=10:=by kernel_rfl
theorem own:ownKnob Tryz.prog.godebug=none:=by kernel_rfl
theorem kids:Kids Tryz.prog (·<Tryz.prog.types.size):=kids_rows (by kernel_rfl) (by kernel_rfl)
theorem MN:((List.range Tryz.prog.types.size).all fun t=>match Tryz.prog.underlying t with|some (.slice e)=>decide (0<Tryz.prog.cellsOf e)|_=>true)=true:=by kernel_rfl
theorem hz:∀ t e,t<Tryz.prog.types.size→Tryz.prog.underlying t=some (.slice e)→0<Tryz.prog.cellsOf e:=by
 intro t e ht hu;have:=List.all_eq_true.1 MN t (List.mem_range.2 ht);rw [hu] at this;simpa using this
theorem M4{l:List (String × DataW Unit)}{ps:List MemPlace}(hl:DataW.LaidVars Tryz.prog W l ps) {n:String}{d:DataW Unit}{cs:List DV}(hm:(n,d)∈l) (hg:Tryz.prog.globalNamed n=some g)
 (ht:(Tryz.prog.globals[g]?).map (·.type)=some t) (hp:m5 Tryz.prog false 8 t=true) (hlt:t<Tryz.prog.types.size) (hd:Nq d=cs):Rd (allM W) (.pointer (some ⟨g,0,none⟩)) (.ptr cs):=by
 obtain⟨g',t',vs,fuel,p,h1,h2,h3,h4⟩:=qk hl _ hm;obtain rfl:=Option.some.inj (hg.symm.trans h1);obtain rfl:=Option.some.inj (ht.symm.trans h2);obtain⟨l',_,h5,h6⟩:=qn kids 8 false t fuel _ _ hlt hp (fun h=>by cases h) h4;rw [h6 rfl,hd] at h5;exact JZ hg h3 h5
theorem J3:Rd (allM W) (.pointer (some ⟨g,0,none⟩)) (.ptr []):=.ptr g 0 (fun _=>undef) [] (fun i h=>by cases h) (fun i h=>by cases h) (fun i h=>by cases h)
theorem Qe(hsh:W.ShapedOpen Tryz.prog) (hL:laidMetH Tryz.prog Rows.langSamesRow.laid W):∃ m,∀ g cs,(GG m)[g]?=some cs→Rd (allM W) (.pointer (some ⟨g,0,none⟩)) (.ptr cs):=by
 obtain⟨m,hm,hw⟩:=Ei hsh (g:=4) (zero:=#[.int .i64 0]) (t:=3) (k:=.i64) (by rw [QF];decide) (by kernel_rfl) rfl (by kernel_rfl) (by kernel_rfl) (by kernel_rfl);rw [MakeChecks.laidMetH_plain _ _ _ (by kernel_rfl)] at hL;obtain⟨ps,hV,_⟩:=hL
 have hM:Rd (allM W) (.pointer (some ⟨4,0,none⟩)) (.ptr [.int .i64 m]):=by
  refine .ptr 4 0 (fun _=>.int .i64 m) [.int .i64 m] (fun i hi=>?_) (fun i hi=>rfl) (fun i hi=>?_)
  ·obtain rfl:i=0:=by simp at hi;exact hi
   exact⟨zO hm,hm⟩
  ·obtain rfl:i=0:=by simp at hi;exact hi
   exact .int .i64 m hw
 have h0:=M4 hV (n := "vernier/lang.modes") (g:=0) (t:=144) (.tail _ (.tail _ (.tail _ (.tail _ (.tail _ (.tail _ (.head _))))))) (by kernel_rfl) (by kernel_rfl) (by kernel_rfl) (by rw [oX];decide) rfl;have h1:=M4 hV (n := "vernier/lang.shapes") (g:=1) (t:=169) (.tail _ (.tail _ (.tail _ (.tail _ (.tail _ (.head _)))))) (by kernel_rfl) (by kernel_rfl) (by kernel_rfl) (by rw [oX];decide) rfl;have h2:=M4 hV (n := "vernier/lang.forms") (g:=2) (t:=210) (.tail _ (.tail _ (.tail _ (.tail _ (.tail _ (.tail _ (.tail _ (.head _)))))))) (by kernel_rfl) (by kernel_rfl) (by kernel_rfl) (by rw [oX];decide) rfl;have h3:=M4 hV (n := "vernier/lang.after") (g:=3) (t:=250) (.tail _ (.tail _ (.tail _ (.tail _ (.head _))))) (by kernel_rfl) (by kernel_rfl) (by kernel_rfl) (by rw [oX];decide) rfl;have h6:=M4 hV (n := "unicode/utf8.acceptRanges") (g:=6) (t:=370) (.tail _ (.tail _ (.tail _ (.head _)))) (by kernel_rfl) (by kernel_rfl) (by kernel_rfl) (by rw [oX];decide) rfl;have h7:=M4 hV (n := "internal/strconv.uint64pow10") (g:=7) (t:=379) (.tail _ (.tail _ (.head _))) (by kernel_rfl) (by kernel_rfl) (by kernel_rfl) (by rw [oX];decide) rfl;have h8:=M4 hV (n := "math/bits.deBruijn32tab") (g:=8) (t:=389) (.head _) (by kernel_rfl) (by kernel_rfl) (by kernel_rfl) (by rw [oX];decide) rfl;have h9:=M4 hV (n := "math/bits.deBruijn64tab") (g:=9) (t:=390) (.tail _ (.head _)) (by kernel_rfl) (by kernel_rfl) (by kernel_rfl) (by rw [oX];decide) rfl;refine⟨m,fun g cs h=>?_⟩
 match g,h with
 | 0,h=>obtain rfl:=Option.some.inj h;exact h0
 | 1,h=>obtain rfl:=Option.some.inj h;exact h1
 | 2,h=>obtain rfl:=Option.some.inj h;exact h2
 | 3,h=>obtain rfl:=Option.some.inj h;exact h3
 | 4,h=>obtain rfl:=Option.some.inj h;exact hM
 | 5,h=>obtain rfl:=Option.some.inj h;exact J3
 | 6,h=>obtain rfl:=Option.some.inj h;exact h6
 | 7,h=>obtain rfl:=Option.some.inj h;exact h7
 | 8,h=>obtain rfl:=Option.some.inj h;exact h8
 | 9,h=>obtain rfl:=Option.some.inj h;exact h9
 | n+10,h=>exact absurd h (by intro h;cases h)
theorem mc{fs:Array Field}(hu:P.underlying t=some (.struct fs)) (h:pF P (n+1) t l) :
 ∃ ls:List (List DV),ls.length=fs.size∧l=ls.flatten∧∀ i (h:i<fs.size) (h':i<ls.length),pF P n fs[i].type ls[i]:=by
 unfold pF at h;rw [hu] at h;exact h
theorem gh{k:IntKind}(hu:P.underlying t=some (.int k)) (h:pF P (n+1) t l):∃ i,l=[.int k i]:=by
 unfold pF at h;rw [hu] at h;exact h
theorem zX(hu:P.underlying t=some .string) (h:pF P (n+1) t l):∃ s,l=[.str s]:=by
 unfold pF at h;rw [hu] at h;exact h
theorem oe{e:TypeId}(hu:P.underlying t=some (.slice e)) (h:pF P (n+1) t l):∃ o,l.map CV.d=[hO o]∧∀ x∈sO o,pF P n e x:=by
 unfold pF at h;rw [hu] at h;rcases h with rfl|⟨es,rfl,h⟩
 ·exact⟨none,rfl,fun x hx=>by cases hx⟩
 ·exact⟨some es,rfl,h⟩
theorem UK{f0 f1:Field}(hu:Tryz.prog.underlying t=some (.struct #[f0,f1])) (h0:f0.type=3) (h1:f1.type=3) (h:pF Tryz.prog (n+2) t l):R3 l:=by
 obtain⟨ls,hl,rfl,h3⟩:=mc hu h
 match ls,hl,h3 with
 | [a,b],_,h3=>
  have g0:pF Tryz.prog (n+1) f0.type a:=h3 0 (by simp) (by simp);have g1:pF Tryz.prog (n+1) f1.type b:=h3 1 (by simp) (by simp);rw [h0] at g0;rw [h1] at g1;obtain⟨x,rfl⟩:=gh Tryz.underlying3 g0;obtain⟨y,rfl⟩:=gh Tryz.underlying3 g1;exact⟨x,y,rfl⟩
theorem S6(h:pF Tryz.prog 6 67 l):TP l:=by
 obtain⟨ls,hl,rfl,h3⟩:=mc Tryz.underlying67 h
 match ls,hl,h3 with
 | [a,b,c],_,h3=>
  obtain⟨x,rfl⟩:=gh Tryz.underlying3 (h3 0 (by decide) (by simp));obtain⟨y,rfl⟩:=zX Tryz.underlying53 (h3 1 (by decide) (by simp));obtain⟨z,rfl⟩:=zX Tryz.underlying53 (h3 2 (by decide) (by simp));exact⟨x,y,z,rfl⟩
theorem Ud(h:pF Tryz.prog 6 55 l):S4 l:=by
 obtain⟨ls,hl,rfl,h3⟩:=mc Tryz.underlying55 h
 match ls,hl,h3 with
 | [a1,a2,a3,a4,a5,a6,a7],_,h3=>
  obtain⟨x1,rfl⟩:=gh Tryz.underlying3 (h3 0 (by decide) (by simp));obtain⟨x2,rfl⟩:=gh Tryz.underlying3 (h3 1 (by decide) (by simp));obtain⟨x3,rfl⟩:=gh Tryz.underlying3 (h3 2 (by decide) (by simp));obtain⟨x4,rfl⟩:=gh Tryz.underlying3 (h3 3 (by decide) (by simp));obtain⟨x5,rfl⟩:=gh Tryz.underlying3 (h3 4 (by decide) (by simp));obtain⟨x6,rfl⟩:=gh Tryz.underlying3 (h3 5 (by decide) (by simp));obtain⟨x7,rfl⟩:=zX Tryz.underlying53 (h3 6 (by decide) (by simp));exact⟨x1,x2,x3,x4,x5,x6,x7,rfl⟩
theorem Tg(h:pF Tryz.prog 8 27 l):∃ p:PD,p.ok∧l.map CV.d=p.cs:=by
 obtain⟨ls,hl,rfl,h3⟩:=mc Tryz.underlying27 h
 match ls,hl,h3 with
 | [a0,a1,a2,a3,a4,a5,a6,a7],_,h3=>
  obtain⟨o0,e0,k0⟩:=oe Tryz.underlying22 (h3 0 (by decide) (by simp));obtain⟨x1,rfl⟩:=gh Tryz.underlying3 (h3 1 (by decide) (by simp));obtain⟨o2,e2,k2⟩:=oe Tryz.underlying23 (h3 2 (by decide) (by simp));obtain⟨o3,e3,k3⟩:=oe Tryz.underlying24 (h3 3 (by decide) (by simp));obtain⟨x4,rfl⟩:=gh Tryz.underlying3 (h3 4 (by decide) (by simp));obtain⟨x5,rfl⟩:=gh Tryz.underlying3 (h3 5 (by decide) (by simp));obtain⟨o6,e6,k6⟩:=oe Tryz.underlying25 (h3 6 (by decide) (by simp));obtain⟨x7,rfl⟩:=gh Tryz.underlying3 (h3 7 (by decide) (by simp));refine⟨⟨o0,x1,o2,o3,x4,x5,o6,x7⟩,⟨fun e he=>UK Tryz.underlying81 rfl rfl (k0 e he),fun e he=>S6 (k2 e he),fun e he=>Ud (k3 e he),fun e he=>UK Tryz.underlying69 rfl rfl (k6 e he)⟩,?_⟩;have e0:a0.map CV.d=[hO o0]:=e0;have e2:a2.map CV.d=[hO o2]:=e2;have e3:a3.map CV.d=[hO o3]:=e3;have e6:a6.map CV.d=[hO o6]:=e6;simp [e0,e2,e3,e6]
end Go.Proofs.YtfkfimmphlpllaaGreatDoor
