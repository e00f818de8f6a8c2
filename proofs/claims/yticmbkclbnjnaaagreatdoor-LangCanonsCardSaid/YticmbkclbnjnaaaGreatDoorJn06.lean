/- Helpers. -/
import Derived.Test.YticmbkclbnjnaaaGreatDoorJn05
import Derived.Test.YticmbkclbnjnaaaGreatDoorCards
import Derived.Test.YticmbkclbnjnaaaGreatDoorTie
import Derived.Lay
import Derived.ProofKit
import Derived.Stop.Joined
import Derived.SevenTiedAt

set_option linter.all false
set_option maxHeartbeats 8000000
set_option maxRecDepth 100000
namespace Go.Proofs.YticmbkclbnjnaaaGreatDoor
open Go.Am Go.RowKit Go.ChangeShapes
variable {l:List DV}{t:TypeId}{n g:Nat}{P:Program}{W:World}
theorem acM:Tryz.prog.types.size=341:=by kernel_rfl
theorem acL:Tryz.prog.globals.size=10:=by kernel_rfl
theorem own:ownKnob Tryz.prog.godebug=none:=by kernel_rfl
theorem kids:Kids Tryz.prog (·<Tryz.prog.types.size):=kids_rows (by kernel_rfl) (by kernel_rfl)
theorem RE:((List.range Tryz.prog.types.size).all λt=>match Tryz.prog.underlying t with|some (.slice e)=>decide (0<Tryz.prog.cellsOf e)|_=>true)=true:=by kernel_rfl
theorem hz:∀t e,t<Tryz.prog.types.size->Tryz.prog.underlying t=some (.slice e)->0<Tryz.prog.cellsOf e:=by
 intro t e ht hu;have:=List.all_eq_true.1 RE t (List.mem_range.2 ht)
 grind
theorem Tc{l:List (String×DataW Unit)}{ps:List MemPlace}(hl:DataW.LaidVars Tryz.prog W l ps){n:String}{d:DataW Unit}{cs:List DV}(hm:(n,d)∈l)(hg:Tryz.prog.globalNamed n=some g)
 (ht:(Tryz.prog.globals[g]?).map (·.type)=some t) (hp:pL Tryz.prog false 8 t=true) (hlt:t<Tryz.prog.types.size) (hd:Th d=cs):Rd (allM W) (.pointer (some ⟨g,0,none⟩)) (.ptr cs):=by
 obtain⟨g',t',vs,fuel,p,h1,h2,h3,h4⟩:=vn hl _ hm;obtain rfl:=adU (hg.symm.trans h1);obtain rfl:=adU (ht.symm.trans h2);obtain⟨l',_,h5,h6⟩:=uP kids 8 false t fuel _ _ hlt hp (λh=>by cases h) h4;rw[h6 rfl,hd]at h5;exact Ot hg h3 h5
theorem N2:Rd (allM W) (.pointer (some ⟨g,0,none⟩)) (.ptr []):=.ptr g 0 (λ_=>undef) [] (λi h=>by cases h) (λi h=>by cases h) (λi h=>by cases h)
theorem YC(hsh:W.ShapedOpen Tryz.prog)(hL:laidMetH Tryz.prog Rows.langCanonsRow.laid W):∃m,∀g cs,(GG m)[g]?=some cs->Rd (allM W) (.pointer (some ⟨g,0,none⟩)) (.ptr cs):=by
 obtain⟨m,hm,hw⟩:=I4 hsh (g:=4) (zero:=#[.int .i64 0]) (t:=3) (k:=.i64) (by simp) (by kernel_rfl) rfl (by kernel_rfl) (by kernel_rfl) (by kernel_rfl);rw[MakeChecks.laidMetH_plain _ _ _ (by kernel_rfl)]at hL;obtain⟨ps,hV,_⟩:=hL
 have hM:Rd (allM W) (.pointer (some ⟨4,0,none⟩)) (.ptr [.int .i64 m]):=by
  refine .ptr 4 0 (λ_=>.int .i64 m) [.int .i64 m] (λi hi=>?_) (λi hi=>rfl) (λi hi=>?_)
  ·obtain rfl:i=0:=by grind
   exact⟨DG hm,hm⟩
  ·obtain rfl:i=0:=by grind
   exact .int .i64 m hw
 have h0:=Tc hV (n := "vernier/lang.modes") (g:=0) (t:=105) (.tail _ (.tail _ (.tail _ (.tail _ (.tail _ (.tail _ (.head _))))))) (by kernel_rfl) (by kernel_rfl) (by kernel_rfl) (by simp) rfl;have h1:=Tc hV (n := "vernier/lang.forms") (g:=1) (t:=135) (.tail _ (.tail _ (.tail _ (.tail _ (.tail _ (.tail _ (.tail _ (.head _)))))))) (by kernel_rfl) (by kernel_rfl) (by kernel_rfl) (by simp) rfl;have h2:=Tc hV (n := "vernier/lang.shapes") (g:=2) (t:=143) (.tail _ (.tail _ (.tail _ (.tail _ (.tail _ (.head _)))))) (by kernel_rfl) (by kernel_rfl) (by kernel_rfl) (by simp) rfl;have h3:=Tc hV (n := "vernier/lang.after") (g:=3) (t:=169) (.tail _ (.tail _ (.tail _ (.tail _ (.head _))))) (by kernel_rfl) (by kernel_rfl) (by kernel_rfl) (by simp) rfl;have h6:=Tc hV (n := "unicode/utf8.acceptRanges") (g:=6) (t:=295) (.tail _ (.tail _ (.tail _ (.head _)))) (by kernel_rfl) (by kernel_rfl) (by kernel_rfl) (by simp) rfl;have h7:=Tc hV (n := "internal/strconv.uint64pow10") (g:=7) (t:=305) (.tail _ (.tail _ (.head _))) (by kernel_rfl) (by kernel_rfl) (by kernel_rfl) (by simp) rfl;have h8:=Tc hV (n := "math/bits.deBruijn32tab") (g:=8) (t:=326) (.head _) (by kernel_rfl) (by kernel_rfl) (by kernel_rfl) (by simp) rfl;have h9:=Tc hV (n := "math/bits.deBruijn64tab") (g:=9) (t:=327) (.tail _ (.head _)) (by kernel_rfl) (by kernel_rfl) (by kernel_rfl) (by simp) rfl;refine⟨m,λg cs h=>?_⟩
 match g,h with
 |0,h=>obtain rfl:=adU h;exact h0
 |1,h=>obtain rfl:=adU h;exact h1
 |2,h=>obtain rfl:=adU h;exact h2
 |3,h=>obtain rfl:=adU h;exact h3
 |4,h=>obtain rfl:=adU h;exact hM
 |5,h=>obtain rfl:=adU h;exact N2
 |6,h=>obtain rfl:=adU h;exact h6
 |7,h=>obtain rfl:=adU h;exact h7
 |8,h=>obtain rfl:=adU h;exact h8
 |9,h=>obtain rfl:=adU h;exact h9
 |n+10,h=>exact absurd h (by intro h;cases h)
theorem ot{fs:Array Field}(hu:P.underlying t=some (.struct fs))(h:sE P (n+1) t l):
 ∃ls:List (List DV),ls.length=fs.size/\l=ls.flatten/\∀i (h:i<fs.size) (h':i<ls.length),sE P n fs[i].type ls[i]:=by
 unfold sE at h;grind
theorem ij{k:IntKind}(hu:P.underlying t=some (.int k))(h:sE P (n+1) t l):∃i,l=[.int k i]:=by
 unfold sE at h;grind
theorem Df(hu:P.underlying t=some .string)(h:sE P (n+1) t l):∃s,l=[.str s]:=by
 unfold sE at h;grind
theorem qQ{e:TypeId}(hu:P.underlying t=some (.slice e))(h:sE P (n+1) t l):∃o,l.map CV.d=[eG o]/\∀x∈sO o,sE P n e x:=by
 unfold sE at h;rw[hu]at h;rcases h with rfl|⟨es,rfl,h⟩
 ·exact⟨none,rfl,λx hx=>by cases hx⟩
 ·exact⟨some es,rfl,h⟩
theorem in2{f0 f1:Field}(hu:Tryz.prog.underlying t=some (.struct #[f0,f1]))(h0:f0.type=3)(h1:f1.type=3)(h:sE Tryz.prog (n+2) t l):LZ l:=by
 obtain⟨ls,hl,rfl,h3⟩:=ot hu h
 match ls,hl,h3 with
 |[a,b],_,h3=>
  have g0:sE Tryz.prog (n+1) f0.type a:=h3 0 (by simp) (by simp);have g1:sE Tryz.prog (n+1) f1.type b:=h3 1 (by simp) (by simp);rw[h0]at g0;rw[h1]at g1;obtain⟨x,rfl⟩:=ij Tryz.underlying3 g0;obtain⟨y,rfl⟩:=ij Tryz.underlying3 g1;exact⟨x,y,rfl⟩
theorem abr(h:sE Tryz.prog 6 38 l):TL l:=by
 obtain⟨ls,hl,rfl,h3⟩:=ot Tryz.underlying38 h
 match ls,hl,h3 with
 |[a,b,c],_,h3=>
  obtain⟨x,rfl⟩:=ij Tryz.underlying3 (h3 0 (by decide) (by simp));obtain⟨y,rfl⟩:=Df Tryz.underlying36 (h3 1 (by decide) (by simp));obtain⟨z,rfl⟩:=Df Tryz.underlying36 (h3 2 (by decide) (by simp));exact⟨x,y,z,rfl⟩
theorem aaF(h:sE Tryz.prog 6 40 l):Sc l:=by
 obtain⟨ls,hl,rfl,h3⟩:=ot Tryz.underlying40 h
 match ls,hl,h3 with
 |[a1,a2,a3,a4,a5,a6,a7],_,h3=>
  obtain⟨x1,rfl⟩:=ij Tryz.underlying3 (h3 0 (by decide) (by simp));obtain⟨x2,rfl⟩:=ij Tryz.underlying3 (h3 1 (by decide) (by simp));obtain⟨x3,rfl⟩:=ij Tryz.underlying3 (h3 2 (by decide) (by simp));obtain⟨x4,rfl⟩:=ij Tryz.underlying3 (h3 3 (by decide) (by simp));obtain⟨x5,rfl⟩:=ij Tryz.underlying3 (h3 4 (by decide) (by simp));obtain⟨x6,rfl⟩:=ij Tryz.underlying3 (h3 5 (by decide) (by simp));obtain⟨x7,rfl⟩:=Df Tryz.underlying36 (h3 6 (by decide) (by simp));exact⟨x1,x2,x3,x4,x5,x6,x7,rfl⟩
theorem abB(h:sE Tryz.prog 8 27 l):∃p:PD,p.ok/\l.map CV.d=p.cs:=by
 obtain⟨ls,hl,rfl,h3⟩:=ot Tryz.underlying27 h
 match ls,hl,h3 with
 |[a0,a1,a2,a3,a4,a5,a6,a7],_,h3=>
  obtain⟨o0,e0,k0⟩:=qQ Tryz.underlying22 (h3 0 (by decide) (by simp));obtain⟨x1,rfl⟩:=ij Tryz.underlying3 (h3 1 (by decide) (by simp));obtain⟨o2,e2,k2⟩:=qQ Tryz.underlying23 (h3 2 (by decide) (by simp));obtain⟨o3,e3,k3⟩:=qQ Tryz.underlying24 (h3 3 (by decide) (by simp));obtain⟨x4,rfl⟩:=ij Tryz.underlying3 (h3 4 (by decide) (by simp));obtain⟨x5,rfl⟩:=ij Tryz.underlying3 (h3 5 (by decide) (by simp));obtain⟨o6,e6,k6⟩:=qQ Tryz.underlying25 (h3 6 (by decide) (by simp));obtain⟨x7,rfl⟩:=ij Tryz.underlying3 (h3 7 (by decide) (by simp));refine⟨⟨o0,x1,o2,o3,x4,x5,o6,x7⟩,⟨λe he=>in2 Tryz.underlying60 rfl rfl (k0 e he),λe he=>abr (k2 e he),λe he=>aaF (k3 e he),λe he=>in2 Tryz.underlying44 rfl rfl (k6 e he)⟩,?_⟩;have e0:a0.map CV.d=[eG o0]:=e0;have e2:a2.map CV.d=[eG o2]:=e2;have e3:a3.map CV.d=[eG o3]:=e3;have e6:a6.map CV.d=[eG o6]:=e6;simp[e0,e2,e3,e6]
end Go.Proofs.YticmbkclbnjnaaaGreatDoor
