/- Helpers: an abstract machine for Go functions, and walks of functions of the program. -/
import Derived.Test.YtfkfimmphlpllaaGreatDoorHn06
import Derived.Test.YtfkfimmphlpllaaGreatDoorCards
import Derived.Test.YtfkfimmphlpllaaGreatDoorTie
import Derived.Lay
import Derived.ProofKit
import Derived.Stop.Joined
import Derived.SevenTiedAt

set_option linter.all false
set_option maxHeartbeats 8000000
set_option maxRecDepth 100000
namespace Go.Proofs.YtfkfimmphlpllaaGreatDoor
open Go.Am Go.RowKit Go.ChangeShapes
variable {l:List DV}{t:TypeId}{n g:Nat}{P:Program}{W:World}
theorem pS:Tryz.prog.types.size=404:=by kernel_rfl
theorem RS:Tryz.prog.globals.size=10:=by kernel_rfl
theorem own:ownKnob Tryz.prog.godebug=none:=by kernel_rfl
theorem kids:Kids Tryz.prog (·<Tryz.prog.types.size):=kids_rows (by kernel_rfl) (by kernel_rfl)
theorem NK:((List.range Tryz.prog.types.size).all fun t=>match Tryz.prog.underlying t with|some (.slice e)=>decide (0<Tryz.prog.cellsOf e)|_=>true)=true:=by kernel_rfl
theorem hz:∀ t e,t<Tryz.prog.types.size→Tryz.prog.underlying t=some (.slice e)→0<Tryz.prog.cellsOf e:=by
 intro t e ht hu;have:=List.all_eq_true.1 NK t (List.mem_range.2 ht);rw [hu] at this;simpa using this
theorem O5{l:List (String × DataW Unit)}{ps:List MemPlace}(hl:DataW.LaidVars Tryz.prog W l ps) {n:String}{d:DataW Unit}{cs:List DV}(hm:(n,d)∈l) (hg:Tryz.prog.globalNamed n=some g)
 (ht:(Tryz.prog.globals[g]?).map (·.type)=some t) (hp:nV Tryz.prog false 8 t=true) (hlt:t<Tryz.prog.types.size) (hd:Pb d=cs):Rd (allM W) (.pointer (some ⟨g,0,none⟩)) (.ptr cs):=by
 obtain⟨g',t',vs,fuel,p,h1,h2,h3,h4⟩:=s9 hl _ hm;obtain rfl:=Zs (hg.symm.trans h1);obtain rfl:=Zs (ht.symm.trans h2);obtain⟨l',_,h5,h6⟩:=sI kids 8 false t fuel _ _ hlt hp (fun h=>by cases h) h4;rw [h6 rfl,hd] at h5;exact Mu hg h3 h5
theorem LK:Rd (allM W) (.pointer (some ⟨g,0,none⟩)) (.ptr []):=.ptr g 0 (fun _=>undef) [] (fun i h=>by cases h) (fun i h=>by cases h) (fun i h=>by cases h)
theorem SF(hsh:W.ShapedOpen Tryz.prog) (hL:laidMetH Tryz.prog Rows.langSamesRow.laid W):∃ m,∀ g cs,(GG m)[g]?=some cs→Rd (allM W) (.pointer (some ⟨g,0,none⟩)) (.ptr cs):=by
 obtain⟨m,hm,hw⟩:=Fi hsh (g:=4) (zero:=#[.int .i64 0]) (t:=3) (k:=.i64) (by rw [RS];decide) (by kernel_rfl) rfl (by kernel_rfl) (by kernel_rfl) (by kernel_rfl);rw [MakeChecks.laidMetH_plain _ _ _ (by kernel_rfl)] at hL;obtain⟨ps,hV,_⟩:=hL
 have hM:Rd (allM W) (.pointer (some ⟨4,0,none⟩)) (.ptr [.int .i64 m]):=by
  refine .ptr 4 0 (fun _=>.int .i64 m) [.int .i64 m] (fun i hi=>?_) (fun i hi=>rfl) (fun i hi=>?_)
  ·obtain rfl:i=0:=by simp at hi;exact hi
   exact⟨Bc hm,hm⟩
  ·obtain rfl:i=0:=by simp at hi;exact hi
   exact .int .i64 m hw
 have h0:=O5 hV (n := "vernier/lang.modes") (g:=0) (t:=144) (.tail _ (.tail _ (.tail _ (.tail _ (.tail _ (.tail _ (.head _))))))) (by kernel_rfl) (by kernel_rfl) (by kernel_rfl) (by rw [pS];decide) rfl;have h1:=O5 hV (n := "vernier/lang.shapes") (g:=1) (t:=169) (.tail _ (.tail _ (.tail _ (.tail _ (.tail _ (.head _)))))) (by kernel_rfl) (by kernel_rfl) (by kernel_rfl) (by rw [pS];decide) rfl;have h2:=O5 hV (n := "vernier/lang.forms") (g:=2) (t:=210) (.tail _ (.tail _ (.tail _ (.tail _ (.tail _ (.tail _ (.tail _ (.head _)))))))) (by kernel_rfl) (by kernel_rfl) (by kernel_rfl) (by rw [pS];decide) rfl;have h3:=O5 hV (n := "vernier/lang.after") (g:=3) (t:=250) (.tail _ (.tail _ (.tail _ (.tail _ (.head _))))) (by kernel_rfl) (by kernel_rfl) (by kernel_rfl) (by rw [pS];decide) rfl;have h6:=O5 hV (n := "unicode/utf8.acceptRanges") (g:=6) (t:=370) (.tail _ (.tail _ (.tail _ (.head _)))) (by kernel_rfl) (by kernel_rfl) (by kernel_rfl) (by rw [pS];decide) rfl;have h7:=O5 hV (n := "internal/strconv.uint64pow10") (g:=7) (t:=379) (.tail _ (.tail _ (.head _))) (by kernel_rfl) (by kernel_rfl) (by kernel_rfl) (by rw [pS];decide) rfl;have h8:=O5 hV (n := "math/bits.deBruijn32tab") (g:=8) (t:=389) (.head _) (by kernel_rfl) (by kernel_rfl) (by kernel_rfl) (by rw [pS];decide) rfl;have h9:=O5 hV (n := "math/bits.deBruijn64tab") (g:=9) (t:=390) (.tail _ (.head _)) (by kernel_rfl) (by kernel_rfl) (by kernel_rfl) (by rw [pS];decide) rfl;refine⟨m,fun g cs h=>?_⟩
 match g,h with
 | 0,h=>obtain rfl:=Zs h;exact h0
 | 1,h=>obtain rfl:=Zs h;exact h1
 | 2,h=>obtain rfl:=Zs h;exact h2
 | 3,h=>obtain rfl:=Zs h;exact h3
 | 4,h=>obtain rfl:=Zs h;exact hM
 | 5,h=>obtain rfl:=Zs h;exact LK
 | 6,h=>obtain rfl:=Zs h;exact h6
 | 7,h=>obtain rfl:=Zs h;exact h7
 | 8,h=>obtain rfl:=Zs h;exact h8
 | 9,h=>obtain rfl:=Zs h;exact h9
 | n+10,h=>exact absurd h (by intro h;cases h)
theorem nc{fs:Array Field}(hu:P.underlying t=some (.struct fs)) (h:ql P (n+1) t l) :
 ∃ ls:List (List DV),ls.length=fs.size∧l=ls.flatten∧∀ i (h:i<fs.size) (h':i<ls.length),ql P n fs[i].type ls[i]:=by
 unfold ql at h;rw [hu] at h;exact h
theorem gA{k:IntKind}(hu:P.underlying t=some (.int k)) (h:ql P (n+1) t l):∃ i,l=[.int k i]:=by
 unfold ql at h;rw [hu] at h;exact h
theorem BP(hu:P.underlying t=some .string) (h:ql P (n+1) t l):∃ s,l=[.str s]:=by
 unfold ql at h;rw [hu] at h;exact h
theorem oF{e:TypeId}(hu:P.underlying t=some (.slice e)) (h:ql P (n+1) t l):∃ o,l.map CV.d=[fC o]∧∀ x∈sO o,ql P n e x:=by
 unfold ql at h;rw [hu] at h;rcases h with rfl|⟨es,rfl,h⟩
 ·exact⟨none,rfl,fun x hx=>by cases hx⟩
 ·exact⟨some es,rfl,h⟩
theorem XC{f0 f1:Field}(hu:Tryz.prog.underlying t=some (.struct #[f0,f1])) (h0:f0.type=3) (h1:f1.type=3) (h:ql Tryz.prog (n+2) t l):D2 l:=by
 obtain⟨ls,hl,rfl,h3⟩:=nc hu h
 match ls,hl,h3 with
 | [a,b],_,h3=>
  have g0:ql Tryz.prog (n+1) f0.type a:=h3 0 (by simp) (by simp);have g1:ql Tryz.prog (n+1) f1.type b:=h3 1 (by simp) (by simp);rw [h0] at g0;rw [h1] at g1;obtain⟨x,rfl⟩:=gA Tryz.underlying3 g0;obtain⟨y,rfl⟩:=gA Tryz.underlying3 g1;exact⟨x,y,rfl⟩
theorem Vq(h:ql Tryz.prog 6 67 l):MD l:=by
 obtain⟨ls,hl,rfl,h3⟩:=nc Tryz.underlying67 h
 match ls,hl,h3 with
 | [a,b,c],_,h3=>
  obtain⟨x,rfl⟩:=gA Tryz.underlying3 (h3 0 (by decide) (by simp));obtain⟨y,rfl⟩:=BP Tryz.underlying53 (h3 1 (by decide) (by simp));obtain⟨z,rfl⟩:=BP Tryz.underlying53 (h3 2 (by decide) (by simp));exact⟨x,y,z,rfl⟩
theorem Vf(h:ql Tryz.prog 6 55 l):I2 l:=by
 obtain⟨ls,hl,rfl,h3⟩:=nc Tryz.underlying55 h
 match ls,hl,h3 with
 | [a1,a2,a3,a4,a5,a6,a7],_,h3=>
  obtain⟨x1,rfl⟩:=gA Tryz.underlying3 (h3 0 (by decide) (by simp));obtain⟨x2,rfl⟩:=gA Tryz.underlying3 (h3 1 (by decide) (by simp));obtain⟨x3,rfl⟩:=gA Tryz.underlying3 (h3 2 (by decide) (by simp));obtain⟨x4,rfl⟩:=gA Tryz.underlying3 (h3 3 (by decide) (by simp));obtain⟨x5,rfl⟩:=gA Tryz.underlying3 (h3 4 (by decide) (by simp));obtain⟨x6,rfl⟩:=gA Tryz.underlying3 (h3 5 (by decide) (by simp));obtain⟨x7,rfl⟩:=BP Tryz.underlying53 (h3 6 (by decide) (by simp));exact⟨x1,x2,x3,x4,x5,x6,x7,rfl⟩
theorem W6(h:ql Tryz.prog 8 27 l):∃ p:PD,p.ok∧l.map CV.d=p.cs:=by
 obtain⟨ls,hl,rfl,h3⟩:=nc Tryz.underlying27 h
 match ls,hl,h3 with
 | [a0,a1,a2,a3,a4,a5,a6,a7],_,h3=>
  obtain⟨o0,e0,k0⟩:=oF Tryz.underlying22 (h3 0 (by decide) (by simp));obtain⟨x1,rfl⟩:=gA Tryz.underlying3 (h3 1 (by decide) (by simp));obtain⟨o2,e2,k2⟩:=oF Tryz.underlying23 (h3 2 (by decide) (by simp));obtain⟨o3,e3,k3⟩:=oF Tryz.underlying24 (h3 3 (by decide) (by simp));obtain⟨x4,rfl⟩:=gA Tryz.underlying3 (h3 4 (by decide) (by simp));obtain⟨x5,rfl⟩:=gA Tryz.underlying3 (h3 5 (by decide) (by simp));obtain⟨o6,e6,k6⟩:=oF Tryz.underlying25 (h3 6 (by decide) (by simp));obtain⟨x7,rfl⟩:=gA Tryz.underlying3 (h3 7 (by decide) (by simp));refine⟨⟨o0,x1,o2,o3,x4,x5,o6,x7⟩,⟨fun e he=>XC Tryz.underlying81 rfl rfl (k0 e he),fun e he=>Vq (k2 e he),fun e he=>Vf (k3 e he),fun e he=>XC Tryz.underlying69 rfl rfl (k6 e he)⟩,?_⟩;have e0:a0.map CV.d=[fC o0]:=e0;have e2:a2.map CV.d=[fC o2]:=e2;have e3:a3.map CV.d=[fC o3]:=e3;have e6:a6.map CV.d=[fC o6]:=e6;simp [e0,e2,e3,e6]
end Go.Proofs.YtfkfimmphlpllaaGreatDoor
