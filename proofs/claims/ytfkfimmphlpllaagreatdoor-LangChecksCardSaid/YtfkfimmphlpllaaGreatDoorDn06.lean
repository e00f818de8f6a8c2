/- Helpers: an abstract machine for Go functions, and walks of functions of the program. -/
import Derived.Test.YtfkfimmphlpllaaGreatDoorDn05
import Derived.Test.YtfkfimmphlpllaaGreatDoorCards
import Derived.Test.YtfkfimmphlpllaaGreatDoorTie
import Derived.Lay
import Derived.ProofKit
import Derived.Stop.Joined
import Derived.SevenTiedAt

set_option linter.all false

namespace Go.Proofs.YtfkfimmphlpllaaGreatDoor
open Go.Am Go.RowKit Go.ChangeShapes
set_option maxRecDepth 100000
theorem om:Tryz.prog.types.size=404:=by kernel_rfl
theorem UE:Tryz.prog.globals.size=10:=by kernel_rfl
theorem own:ownKnob Tryz.prog.godebug=none:=by kernel_rfl
theorem kids:Kids Tryz.prog (·<Tryz.prog.types.size):=kids_rows (by kernel_rfl) (by kernel_rfl)
theorem KQ:((List.range Tryz.prog.types.size).all fun t=>match Tryz.prog.underlying t with|some (.slice e)=>decide (0<Tryz.prog.cellsOf e)|_=>true)=true:=by kernel_rfl
theorem hz:∀ t e,t<Tryz.prog.types.size→Tryz.prog.underlying t=some (.slice e)→0<Tryz.prog.cellsOf e:=by
 intro t e ht hu;have:=List.all_eq_true.1 KQ t (List.mem_range.2 ht);rw [hu] at this;simpa using this
theorem Mc {W:World}{l:List (String × DataW Unit)}{ps:List MemPlace}(hl:DataW.LaidVars Tryz.prog W l ps) {n:String}{d:DataW Unit}{g:Nat}{t:TypeId}{cs:List DV}(hm:(n,d)∈l) (hg:Tryz.prog.globalNamed n=some g)
 (ht:(Tryz.prog.globals[g]?).map (·.type)=some t) (hp:m5 Tryz.prog false 8 t=true) (hlt:t<Tryz.prog.types.size) (hd:MI d=cs):Rd (allM W) (.pointer (some ⟨g,0,none⟩)) (.ptr cs):=by
 obtain⟨g',t',vs,fuel,p,h1,h2,h3,h4⟩:=pN hl _ hm;obtain rfl:=Option.some.inj (hg.symm.trans h1);obtain rfl:=Option.some.inj (ht.symm.trans h2);obtain⟨l',_,h5,h6⟩:=qG kids 8 false t fuel _ _ hlt hp (fun h=>by cases h) h4;rw [h6 rfl,hd] at h5;exact I2 hg h3 h5
theorem Hy {W:World}{g:Nat}:Rd (allM W) (.pointer (some ⟨g,0,none⟩)) (.ptr []):=.ptr g 0 (fun _=>undef) [] (fun i h=>by cases h) (fun i h=>by cases h) (fun i h=>by cases h)
theorem Rz {W:World}(hsh:W.ShapedOpen Tryz.prog) (hL:laidMetH Tryz.prog Rows.langSamesRow.laid W):∃ m,∀ g cs,(GG m)[g]?=some cs→Rd (allM W) (.pointer (some ⟨g,0,none⟩)) (.ptr cs):=by
 obtain⟨m,hm,hw⟩:=DQ hsh (g:=4) (zero:=#[.int .i64 0]) (t:=3) (k:=.i64) (by rw [UE];decide) (by kernel_rfl) rfl (by kernel_rfl) (by kernel_rfl) (by kernel_rfl);rw [MakeChecks.laidMetH_plain _ _ _ (by kernel_rfl)] at hL;obtain⟨ps,hV,_⟩:=hL
 have hM:Rd (allM W) (.pointer (some ⟨4,0,none⟩)) (.ptr [.int .i64 m]):=by
  refine .ptr 4 0 (fun _=>.int .i64 m) [.int .i64 m] (fun i hi=>?_) (fun i hi=>rfl) (fun i hi=>?_)
  ·obtain rfl:i=0:=by simp at hi;exact hi
   exact⟨zO hm,hm⟩
  ·obtain rfl:i=0:=by simp at hi;exact hi
   exact .int .i64 m hw
 have h0:=Mc hV (n := "vernier/lang.modes") (g:=0) (t:=144) (.tail _ (.tail _ (.tail _ (.tail _ (.tail _ (.tail _ (.head _))))))) (by kernel_rfl) (by kernel_rfl) (by kernel_rfl) (by rw [om];decide) rfl;have h1:=Mc hV (n := "vernier/lang.shapes") (g:=1) (t:=169) (.tail _ (.tail _ (.tail _ (.tail _ (.tail _ (.head _)))))) (by kernel_rfl) (by kernel_rfl) (by kernel_rfl) (by rw [om];decide) rfl;have h2:=Mc hV (n := "vernier/lang.forms") (g:=2) (t:=210) (.tail _ (.tail _ (.tail _ (.tail _ (.tail _ (.tail _ (.tail _ (.head _)))))))) (by kernel_rfl) (by kernel_rfl) (by kernel_rfl) (by rw [om];decide) rfl;have h3:=Mc hV (n := "vernier/lang.after") (g:=3) (t:=250) (.tail _ (.tail _ (.tail _ (.tail _ (.head _))))) (by kernel_rfl) (by kernel_rfl) (by kernel_rfl) (by rw [om];decide) rfl;have h6:=Mc hV (n := "unicode/utf8.acceptRanges") (g:=6) (t:=370) (.tail _ (.tail _ (.tail _ (.head _)))) (by kernel_rfl) (by kernel_rfl) (by kernel_rfl) (by rw [om];decide) rfl;have h7:=Mc hV (n := "internal/strconv.uint64pow10") (g:=7) (t:=379) (.tail _ (.tail _ (.head _))) (by kernel_rfl) (by kernel_rfl) (by kernel_rfl) (by rw [om];decide) rfl;have h8:=Mc hV (n := "math/bits.deBruijn32tab") (g:=8) (t:=389) (.head _) (by kernel_rfl) (by kernel_rfl) (by kernel_rfl) (by rw [om];decide) rfl;have h9:=Mc hV (n := "math/bits.deBruijn64tab") (g:=9) (t:=390) (.tail _ (.head _)) (by kernel_rfl) (by kernel_rfl) (by kernel_rfl) (by rw [om];decide) rfl;refine⟨m,fun g cs h=>?_⟩
 match g,h with
 | 0,h=>obtain rfl:=Option.some.inj h;exact h0
 | 1,h=>obtain rfl:=Option.some.inj h;exact h1
 | 2,h=>obtain rfl:=Option.some.inj h;exact h2
 | 3,h=>obtain rfl:=Option.some.inj h;exact h3
 | 4,h=>obtain rfl:=Option.some.inj h;exact hM
 | 5,h=>obtain rfl:=Option.some.inj h;exact Hy
 | 6,h=>obtain rfl:=Option.some.inj h;exact h6
 | 7,h=>obtain rfl:=Option.some.inj h;exact h7
 | 8,h=>obtain rfl:=Option.some.inj h;exact h8
 | 9,h=>obtain rfl:=Option.some.inj h;exact h9
 | n+10,h=>exact absurd h (by intro h;cases h)
theorem lJ {P:Program}{n:Nat}{t:TypeId}{fs:Array Field}{l:List DV}(hu:P.underlying t=some (.struct fs)) (h:pz P (n+1) t l) :
 ∃ ls:List (List DV),ls.length=fs.size∧l=ls.flatten∧∀ i (h:i<fs.size) (h':i<ls.length),pz P n fs[i].type ls[i]:=by
 unfold pz at h;rw [hu] at h;exact h
theorem fO {P:Program}{n:Nat}{t:TypeId}{k:IntKind}{l:List DV}(hu:P.underlying t=some (.int k)) (h:pz P (n+1) t l):∃ i,l=[.int k i]:=by
 unfold pz at h;rw [hu] at h;exact h
theorem yT {P:Program}{n:Nat}{t:TypeId}{l:List DV}(hu:P.underlying t=some .string) (h:pz P (n+1) t l):∃ s,l=[.str s]:=by
 unfold pz at h;rw [hu] at h;exact h
theorem nT {P:Program}{n:Nat}{t e:TypeId}{l:List DV}(hu:P.underlying t=some (.slice e)) (h:pz P (n+1) t l):∃ o,l.map CV.d=[iU o]∧∀ x∈sO o,pz P n e x:=by
 unfold pz at h;rw [hu] at h;rcases h with rfl|⟨es,rfl,h⟩
 ·exact⟨none,rfl,fun x hx=>by cases hx⟩
 ·exact⟨some es,rfl,h⟩
theorem in2 {t:TypeId}{f0 f1:Field}{l:List DV}{n:Nat}(hu:Tryz.prog.underlying t=some (.struct #[f0,f1])) (h0:f0.type=3) (h1:f1.type=3) (h:pz Tryz.prog (n+2) t l):Wg l:=by
 obtain⟨ls,hl,rfl,h3⟩:=lJ hu h
 match ls,hl,h3 with
 | [a,b],_,h3=>
  have g0:pz Tryz.prog (n+1) f0.type a:=h3 0 (by simp) (by simp);have g1:pz Tryz.prog (n+1) f1.type b:=h3 1 (by simp) (by simp);rw [h0] at g0;rw [h1] at g1;obtain⟨x,rfl⟩:=fO Tryz.underlying3 g0;obtain⟨y,rfl⟩:=fO Tryz.underlying3 g1;exact⟨x,y,rfl⟩
theorem YW {l:List DV}(h:pz Tryz.prog 6 67 l):YV l:=by
 obtain⟨ls,hl,rfl,h3⟩:=lJ Tryz.underlying67 h
 match ls,hl,h3 with
 | [a,b,c],_,h3=>
  obtain⟨x,rfl⟩:=fO Tryz.underlying3 (h3 0 (by decide) (by simp));obtain⟨y,rfl⟩:=yT Tryz.underlying53 (h3 1 (by decide) (by simp));obtain⟨z,rfl⟩:=yT Tryz.underlying53 (h3 2 (by decide) (by simp));exact⟨x,y,z,rfl⟩
theorem ZX {l:List DV}(h:pz Tryz.prog 6 55 l):Zq l:=by
 obtain⟨ls,hl,rfl,h3⟩:=lJ Tryz.underlying55 h
 match ls,hl,h3 with
 | [a1,a2,a3,a4,a5,a6,a7],_,h3=>
  obtain⟨x1,rfl⟩:=fO Tryz.underlying3 (h3 0 (by decide) (by simp));obtain⟨x2,rfl⟩:=fO Tryz.underlying3 (h3 1 (by decide) (by simp));obtain⟨x3,rfl⟩:=fO Tryz.underlying3 (h3 2 (by decide) (by simp));obtain⟨x4,rfl⟩:=fO Tryz.underlying3 (h3 3 (by decide) (by simp));obtain⟨x5,rfl⟩:=fO Tryz.underlying3 (h3 4 (by decide) (by simp));obtain⟨x6,rfl⟩:=fO Tryz.underlying3 (h3 5 (by decide) (by simp));obtain⟨x7,rfl⟩:=yT Tryz.underlying53 (h3 6 (by decide) (by simp));exact⟨x1,x2,x3,x4,x5,x6,x7,rfl⟩
theorem ZQ {l:List DV}(h:pz Tryz.prog 8 27 l):∃ p:PD,p.ok∧l.map CV.d=p.cs:=by
 obtain⟨ls,hl,rfl,h3⟩:=lJ Tryz.underlying27 h
 match ls,hl,h3 with
 | [a0,a1,a2,a3,a4,a5,a6,a7],_,h3=>
  obtain⟨o0,e0,k0⟩:=nT Tryz.underlying22 (h3 0 (by decide) (by simp));obtain⟨x1,rfl⟩:=fO Tryz.underlying3 (h3 1 (by decide) (by simp));obtain⟨o2,e2,k2⟩:=nT Tryz.underlying23 (h3 2 (by decide) (by simp));obtain⟨o3,e3,k3⟩:=nT Tryz.underlying24 (h3 3 (by decide) (by simp));obtain⟨x4,rfl⟩:=fO Tryz.underlying3 (h3 4 (by decide) (by simp));obtain⟨x5,rfl⟩:=fO Tryz.underlying3 (h3 5 (by decide) (by simp));obtain⟨o6,e6,k6⟩:=nT Tryz.underlying25 (h3 6 (by decide) (by simp));obtain⟨x7,rfl⟩:=fO Tryz.underlying3 (h3 7 (by decide) (by simp));refine⟨⟨o0,x1,o2,o3,x4,x5,o6,x7⟩,⟨fun e he=>in2 Tryz.underlying81 rfl rfl (k0 e he),fun e he=>YW (k2 e he),fun e he=>ZX (k3 e he),fun e he=>in2 Tryz.underlying69 rfl rfl (k6 e he)⟩,?_⟩;have e0:a0.map CV.d=[iU o0]:=e0;have e2:a2.map CV.d=[iU o2]:=e2;have e3:a3.map CV.d=[iU o3]:=e3;have e6:a6.map CV.d=[iU o6]:=e6;simp [e0,e2,e3,e6]
end Go.Proofs.YtfkfimmphlpllaaGreatDoor
