/- Helpers: an abstract machine for Go functions, and walks of functions of the program. -/
import Derived.Test.YtanjfmmjpnjkbaaGreatDoorRn06
import Derived.Test.YtanjfmmjpnjkbaaGreatDoorCards
import Derived.Test.YtanjfmmjpnjkbaaGreatDoorTie
import Derived.Lay
import Derived.ProofKit
import Derived.Stop.Joined
import Derived.SevenTiedAt

set_option linter.all false
set_option maxHeartbeats 8000000
set_option maxRecDepth 100000
namespace Go.Proofs.YtanjfmmjpnjkbaaGreatDoor
open Go.Am Go.RowKit Go.ChangeShapes
theorem tsize:Tryz.prog.types.size=332:=by kernel_rfl
theorem gsize:Tryz.prog.globals.size=7:=by kernel_rfl
theorem own:ownKnob Tryz.prog.godebug=none:=by kernel_rfl
theorem kids:Kids Tryz.prog (·<Tryz.prog.types.size):=kids_rows (by kernel_rfl) (by kernel_rfl)
theorem slicesB:((List.range Tryz.prog.types.size).all fun t=>match Tryz.prog.underlying t with|some (.slice e)=>decide (0<Tryz.prog.cellsOf e)|_=>true)=true:=by kernel_rfl
theorem hz:∀ t e,t<Tryz.prog.types.size→Tryz.prog.underlying t=some (.slice e)→0<Tryz.prog.cellsOf e:=by
 intro t e ht hu
 have:=List.all_eq_true.1 slicesB t (List.mem_range.2 ht)
 grind
theorem tab {W:World}{l:List (String × DataW Unit)}{ps:List MemPlace}(hl:DataW.LaidVars Tryz.prog W l ps) {n:String}{d:DataW Unit}{g:Nat}{t:TypeId}{cs:List DV}(hm:(n,d)∈l) (hg:Tryz.prog.globalNamed n=some g)
 (ht:(Tryz.prog.globals[g]?).map (·.type)=some t) (hp:plainT Tryz.prog false 8 t=true) (hlt:t<Tryz.prog.types.size) (hd:dvL d=cs):Rd (allM W) (.pointer (some ⟨g,0,none⟩)) (.ptr cs):=by
 obtain⟨g',t',vs,fuel,p,h1,h2,h3,h4⟩:=laidVars_mem hl _ hm
 obtain rfl:=Option.some.inj (hg.symm.trans h1)
 obtain rfl:=Option.some.inj (ht.symm.trans h2)
 obtain⟨l',_,h5,h6⟩:=trod_rd kids 8 false t fuel _ _ hlt hp (fun h=>by cases h) h4
 rw [h6 rfl,hd] at h5
 exact rd_table hg h3 h5
theorem rd_nil {W:World}{g:Nat}:Rd (allM W) (.pointer (some ⟨g,0,none⟩)) (.ptr []):=.ptr g 0 (fun _=>undef) [] (fun i h=>by cases h) (fun i h=>by cases h) (fun i h=>by cases h)
theorem globs {W:World}(hsh:W.ShapedOpen Tryz.prog) (hL:laidMetH Tryz.prog Rows.rangesValuesRow.laid W):∃ m,∀ g cs,(GG m)[g]?=some cs→Rd (allM W) (.pointer (some ⟨g,0,none⟩)) (.ptr cs):=by
 obtain⟨m,hm,hw⟩:=shaped_int hsh (g:=1) (zero:=#[.int .i64 0]) (t:=3) (k:=.i64) (by rw [gsize];decide) (by kernel_rfl) rfl (by kernel_rfl) (by kernel_rfl) (by kernel_rfl)
 rw [MakeChecks.laidMetH_plain _ _ _ (by kernel_rfl)] at hL
 obtain⟨ps,hV,_⟩:=hL
 have hM:Rd (allM W) (.pointer (some ⟨1,0,none⟩)) (.ptr [.int .i64 m]):=by
  refine .ptr 1 0 (fun _=>.int .i64 m) [.int .i64 m] (fun i hi=>?_) (fun i hi=>rfl) (fun i hi=>?_)
  ·obtain rfl:i=0:=by simp at hi;exact hi
   exact⟨cell_lt hm,hm⟩
  ·obtain rfl:i=0:=by simp at hi;exact hi
   exact .int .i64 m hw
 have h0:=tab hV (n := "vernier/lang.shapes") (g:=0) (t:=260) (.tail _ (.tail _ (.tail _ (.tail _ (.head _))))) (by kernel_rfl) (by kernel_rfl) (by kernel_rfl) (by rw [tsize];decide) rfl
 have h2:=tab hV (n := "internal/strconv.uint64pow10") (g:=2) (t:=274) (.tail _ (.tail _ (.head _))) (by kernel_rfl) (by kernel_rfl) (by kernel_rfl) (by rw [tsize];decide) rfl
 have h4:=tab hV (n := "unicode/utf8.acceptRanges") (g:=4) (t:=304) (.tail _ (.tail _ (.tail _ (.head _)))) (by kernel_rfl) (by kernel_rfl) (by kernel_rfl) (by rw [tsize];decide) rfl
 have h5:=tab hV (n := "math/bits.deBruijn32tab") (g:=5) (t:=306) (.head _) (by kernel_rfl) (by kernel_rfl) (by kernel_rfl) (by rw [tsize];decide) rfl
 have h6:=tab hV (n := "math/bits.deBruijn64tab") (g:=6) (t:=307) (.tail _ (.head _)) (by kernel_rfl) (by kernel_rfl) (by kernel_rfl) (by rw [tsize];decide) rfl
 refine⟨m,fun g cs h=>?_⟩
 match g,h with
 | 0,h=>obtain rfl:=Option.some.inj h;exact h0
 | 1,h=>obtain rfl:=Option.some.inj h;exact hM
 | 2,h=>obtain rfl:=Option.some.inj h;exact h2
 | 3,h=>obtain rfl:=Option.some.inj h;exact rd_nil
 | 4,h=>obtain rfl:=Option.some.inj h;exact h4
 | 5,h=>obtain rfl:=Option.some.inj h;exact h5
 | 6,h=>obtain rfl:=Option.some.inj h;exact h6
 | n+7,h=>exact absurd h (by intro h;cases h)
theorem inT_struct {P:Program}{n:Nat}{t:TypeId}{fs:Array Field}{l:List DV}(hu:P.underlying t=some (.struct fs)) (h:inT P (n+1) t l) :
 ∃ ls:List (List DV),ls.length=fs.size∧l=ls.flatten∧∀ i (h:i<fs.size) (h':i<ls.length),inT P n fs[i].type ls[i]:=by
 unfold inT at h;grind
theorem inT_int {P:Program}{n:Nat}{t:TypeId}{k:IntKind}{l:List DV}(hu:P.underlying t=some (.int k)) (h:inT P (n+1) t l):∃ i,l=[.int k i]:=by
 unfold inT at h;grind
theorem inT_str {P:Program}{n:Nat}{t:TypeId}{l:List DV}(hu:P.underlying t=some .string) (h:inT P (n+1) t l):∃ s,l=[.str s]:=by
 unfold inT at h;grind
end Go.Proofs.YtanjfmmjpnjkbaaGreatDoor
