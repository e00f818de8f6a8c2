/- Helpers: an abstract machine for Go functions, and walks of functions of the program. -/
import Derived.Test.YtanjfmmjpnjkbaaGreatDoorSn06
import Derived.Test.YtanjfmmjpnjkbaaGreatDoorCards
import Derived.Test.YtanjfmmjpnjkbaaGreatDoorTie
import Derived.Lay
import Derived.ProofKit
import Derived.Stop.Joined
import Derived.SevenTiedAt

set_option linter.all false
set_option maxHeartbeats 8000000
set_option maxRecDepth 100000
namespace Go.Proofs.YtanjfmmjpnjkbaaGreatDoor
open Go.Am Go.RowKit Go.ChangeShapes
variable {t:TypeId}{W:World}{P:Program}{n g:Nat}{l:List DV}
theorem ug:Tryz.prog.types.size=332:=by kernel_rfl
theorem Yf:Tryz.prog.globals.size=7:=by kernel_rfl
theorem own:ownKnob Tryz.prog.godebug=none:=by kernel_rfl
theorem kids:Kids Tryz.prog (·<Tryz.prog.types.size):=kids_rows (by kernel_rfl) (by kernel_rfl)
theorem Ti:((List.range Tryz.prog.types.size).all λt=>match Tryz.prog.underlying t with|some (.slice e)=>decide (0<Tryz.prog.cellsOf e)|_=>true)=true:=by kernel_rfl
theorem hz:∀t e,t<Tryz.prog.types.size->Tryz.prog.underlying t=some (.slice e)->0<Tryz.prog.cellsOf e:=by
 intro t e ht hu;have:=List.all_eq_true.1 Ti t (List.mem_range.2 ht)
 grind
theorem Z5{l:List (String×DataW Unit)}{ps:List MemPlace}(hl:DataW.LaidVars Tryz.prog W l ps){n:String}{d:DataW Unit}{cs:List DV}(hm:(n,d)∈l)(hg:Tryz.prog.globalNamed n=some g)
 (ht:(Tryz.prog.globals[g]?).map (·.type)=some t) (hp:sU Tryz.prog false 8 t=true) (hlt:t<Tryz.prog.types.size) (hd:UQ d=cs):Rd (allM W) (.pointer (some ⟨g,0,none⟩)) (.ptr cs):=by
 obtain⟨g',t',vs,fuel,p,h1,h2,h3,h4⟩:=tN hl _ hm;obtain rfl:=aeW (hg.symm.trans h1);obtain rfl:=aeW (ht.symm.trans h2);obtain⟨l',_,h5,h6⟩:=pX kids 8 false t fuel _ _ hlt hp (λh=>by cases h) h4;rw[h6 rfl,hd]at h5;exact P1 hg h3 h5
theorem QL:Rd (allM W) (.pointer (some ⟨g,0,none⟩)) (.ptr []):=.ptr g 0 (λ_=>undef) [] (λi h=>by cases h) (λi h=>by cases h) (λi h=>by cases h)
theorem Zi(hsh:W.ShapedOpen Tryz.prog)(hL:laidMetH Tryz.prog Rows.rangesPolysRow.laid W):∃m,∀g cs,(GG m)[g]?=some cs->Rd (allM W) (.pointer (some ⟨g,0,none⟩)) (.ptr cs):=by
 obtain⟨m,hm,hw⟩:=G2 hsh (g:=1) (zero:=#[.int .i64 0]) (t:=3) (k:=.i64) (by rw[Yf];decide) (by kernel_rfl) rfl (by kernel_rfl) (by kernel_rfl) (by kernel_rfl);rw[MakeChecks.laidMetH_plain _ _ _ (by kernel_rfl)]at hL;obtain⟨ps,hV,_⟩:=hL
 have hM:Rd (allM W) (.pointer (some ⟨1,0,none⟩)) (.ptr [.int .i64 m]):=by
  refine .ptr 1 0 (λ_=>.int .i64 m) [.int .i64 m] (λi hi=>?_) (λi hi=>rfl) (λi hi=>?_)
  ·obtain rfl:i=0:=by simp at hi;exact hi
   exact⟨xI hm,hm⟩
  ·obtain rfl:i=0:=by simp at hi;exact hi
   exact .int .i64 m hw
 have h0:=Z5 hV (n := "vernier/lang.shapes") (g:=0) (t:=260) (.tail _ (.tail _ (.tail _ (.tail _ (.head _))))) (by kernel_rfl) (by kernel_rfl) (by kernel_rfl) (by rw[ug];decide) rfl;have h2:=Z5 hV (n := "internal/strconv.uint64pow10") (g:=2) (t:=274) (.tail _ (.tail _ (.head _))) (by kernel_rfl) (by kernel_rfl) (by kernel_rfl) (by rw[ug];decide) rfl;have h4:=Z5 hV (n := "unicode/utf8.acceptRanges") (g:=4) (t:=304) (.tail _ (.tail _ (.tail _ (.head _)))) (by kernel_rfl) (by kernel_rfl) (by kernel_rfl) (by rw[ug];decide) rfl;have h5:=Z5 hV (n := "math/bits.deBruijn32tab") (g:=5) (t:=306) (.head _) (by kernel_rfl) (by kernel_rfl) (by kernel_rfl) (by rw[ug];decide) rfl;have h6:=Z5 hV (n := "math/bits.deBruijn64tab") (g:=6) (t:=307) (.tail _ (.head _)) (by kernel_rfl) (by kernel_rfl) (by kernel_rfl) (by rw[ug];decide) rfl;refine⟨m,λg cs h=>?_⟩
 match g,h with
 |0,h=>obtain rfl:=aeW h;exact h0
 |1,h=>obtain rfl:=aeW h;exact hM
 |2,h=>obtain rfl:=aeW h;exact h2
 |3,h=>obtain rfl:=aeW h;exact QL
 |4,h=>obtain rfl:=aeW h;exact h4
 |5,h=>obtain rfl:=aeW h;exact h5
 |6,h=>obtain rfl:=aeW h;exact h6
 |n+7,h=>exact absurd h (by intro h;cases h)
theorem yM{fs:Array Field}(hu:P.underlying t=some (.struct fs))(h:mR P (n+1) t l):
 ∃ls:List (List DV),ls.length=fs.size/\l=ls.flatten/\∀i (h:i<fs.size) (h':i<ls.length),mR P n fs[i].type ls[i]:=by
 unfold mR at h;grind
theorem RI{k:IntKind}(hu:P.underlying t=some (.int k))(h:mR P (n+1) t l):∃i,l=[.int k i]:=by
 unfold mR at h;grind
theorem xX(hu:P.underlying t=some .string)(h:mR P (n+1) t l):∃s,l=[.str s]:=by
 unfold mR at h;grind
end Go.Proofs.YtanjfmmjpnjkbaaGreatDoor
