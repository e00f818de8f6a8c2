/- Helpers. -/
import Derived.Test.YtldhlnmnfokbeaaGreatDoorTn05
import Derived.Test.YtldhlnmnfokbeaaGreatDoorCards
import Derived.Test.YtldhlnmnfokbeaaGreatDoorTie
import Derived.Lay
import Derived.ProofKit
import Derived.Stop.Joined
import Derived.SevenTiedAt

set_option linter.all false
set_option maxHeartbeats 8000000
set_option maxRecDepth 100000
open Go.Proofs.Tryz
namespace Go.Proofs.YtldhlnmnfokbeaaGreatDoor
open Go.Am Go.RowKit Go.ChangeShapes
variable {l:List DV}{t:TypeId}{n g:Nat}{P:Program}{W:World}
theorem Bd:prog.types.size=336:=zt
theorem Yb:prog.globals.size=7:=zt
theorem own:ownKnob prog.godebug=none:=zt
theorem kids:Kids prog (·<prog.types.size):=kids_rows zt zt
theorem SY:((List.range prog.types.size).all λt=>match prog.underlying t with|some (.slice e)=>decide (0<prog.cellsOf e)|_=>true)=true:=zt
theorem hz:∀t e,t<prog.types.size->prog.underlying t=some (.slice e)->0<prog.cellsOf e:=by
 intro t e ht hu;have:=List.all_eq_true.1 SY t (List.mem_range.2 ht)
 grind
theorem XV{l:List (String×DataW Unit)}{ps:List MemPlace}(hl:DataW.LaidVars prog W l ps){n:String}{d:DataW Unit}{cs:List DV}(hm:(n,d)∈l)(hg:prog.globalNamed n=some g)
 (ht:(prog.globals[g]?).map (·.type)=some t) (hp:qF prog false 8 t=true) (hlt:t<prog.types.size) (hd:Tr d=cs):Rd (allM W) (.pointer (some ⟨g,0,none⟩)) (.ptr cs):=by
 obtain⟨g',t',vs,fuel,p,h1,h2,h3,h4⟩:=uB hl _ hm;obtain rfl:=aeI (hg.symm.trans h1);obtain rfl:=aeI (ht.symm.trans h2);obtain⟨l',_,h5,h6⟩:=uT kids 8 false t fuel _ _ hlt hp (λh=>by cases h) h4;rw[h6 rfl,hd]at h5;exact PW hg h3 h5
theorem Qh:Rd (allM W) (.pointer (some ⟨g,0,none⟩)) (.ptr []):=.ptr g 0 (λ_=>undef) [] (λi h=>by cases h) (λi h=>by cases h) (λi h=>by cases h)
theorem WZ(hsh:W.ShapedOpen prog)(hL:laidMetH prog Rows.rangesNodesRow.laid W):∃m,∀g cs,(GG m)[g]?=some cs->Rd (allM W) (.pointer (some ⟨g,0,none⟩)) (.ptr cs):=by
 obtain⟨m,hm,hw⟩:=I0 hsh (g:=1) (zero:=#[.int .i64 0]) (t:=3) (k:=.i64) (by rw[Yb];decide) zt rfl zt zt zt;rw[MakeChecks.laidMetH_plain _ _ _ zt]at hL;obtain⟨ps,hV,_⟩:=hL
 have hM:Rd (allM W) (.pointer (some ⟨1,0,none⟩)) (.ptr [.int .i64 m]):=by
  refine .ptr 1 0 (λ_=>.int .i64 m) [.int .i64 m] (λi hi=>?_) (λi hi=>rfl) (λi hi=>?_)
  ·obtain rfl:i=0:=by simp at hi;exact hi
   exact⟨Dt hm,hm⟩
  ·obtain rfl:i=0:=by simp at hi;exact hi
   exact .int .i64 m hw
 have h0:=XV hV (n := "vernier/lang.shapes") (g:=0) (t:=151) (.tail _ (.tail _ (.tail _ (.tail _ (.head _))))) zt zt zt mn rfl;have h2:=XV hV (n := "internal/strconv.uint64pow10") (g:=2) (t:=307) (.tail _ (.tail _ (.head _))) zt zt zt mn rfl;have h4:=XV hV (n := "unicode/utf8.acceptRanges") (g:=4) (t:=314) (.tail _ (.tail _ (.tail _ (.head _)))) zt zt zt mn rfl;have h5:=XV hV (n := "math/bits.deBruijn32tab") (g:=5) (t:=316) (.head _) zt zt zt mn rfl;have h6:=XV hV (n := "math/bits.deBruijn64tab") (g:=6) (t:=317) (.tail _ (.head _)) zt zt zt mn rfl;refine⟨m,λg cs h=>?_⟩
 match g,h with
 |0,h=>obtain rfl:=aeI h;exact h0
 |1,h=>obtain rfl:=aeI h;exact hM
 |2,h=>obtain rfl:=aeI h;exact h2
 |3,h=>obtain rfl:=aeI h;exact Qh
 |4,h=>obtain rfl:=aeI h;exact h4
 |5,h=>obtain rfl:=aeI h;exact h5
 |6,h=>obtain rfl:=aeI h;exact h6
 |n+7,h=>exact absurd h (by intro h;cases h)
theorem kR{fs:Array Field}(hu:P.underlying t=some (.struct fs))(h:sZ P (n+1) t l):
 ∃ls:List (List DV),ls.length=fs.size/\l=ls.flatten/\∀i (h:i<fs.size) (h':i<ls.length),sZ P n fs[i].type ls[i]:=by
 unfold sZ at h;grind
theorem gK{k:IntKind}(hu:P.underlying t=some (.int k))(h:sZ P (n+1) t l):∃i,l=[.int k i]:=by
 unfold sZ at h;grind
theorem uH(hu:P.underlying t=some .string)(h:sZ P (n+1) t l):∃s,l=[.str s]:=by
 unfold sZ at h;grind
theorem oy{e:TypeId}(hu:P.underlying t=some (.slice e))(h:sZ P (n+1) t l):∃o,l.map CV.d=[dc o]/\∀x∈sO o,sZ P n e x:=by
 unfold sZ at h;rw[hu]at h;rcases h with rfl|⟨es,rfl,h⟩
 ·exact⟨none,rfl,λx hx=>by cases hx⟩
 ·exact⟨some es,rfl,h⟩
theorem in2{f0 f1:Field}(hu:prog.underlying t=some (.struct #[f0,f1]))(h0:f0.type=3)(h1:f1.type=3)(h:sZ prog (n+2) t l):Xo l:=by
 obtain⟨ls,hl,rfl,h3⟩:=kR hu h
 match ls,hl,h3 with
 |[a,b],_,h3=>
  have g0:sZ prog (n+1) f0.type a:=h3 0 zp zp;have g1:sZ prog (n+1) f1.type b:=h3 1 zp zp;rw[h0]at g0;rw[h1]at g1;obtain⟨x,rfl⟩:=gK Tryz.underlying3 g0;obtain⟨y,rfl⟩:=gK Tryz.underlying3 g1;exact⟨x,y,rfl⟩
theorem aaH(h:sZ prog 6 121 l):ZL l:=by
 obtain⟨ls,hl,rfl,h3⟩:=kR Tryz.underlying121 h
 match ls,hl,h3 with
 |[a,b,c],_,h3=>
  obtain⟨x,rfl⟩:=gK Tryz.underlying3 (h3 0 zr zp);obtain⟨y,rfl⟩:=uH Tryz.underlying59 (h3 1 zr zp);obtain⟨z,rfl⟩:=uH Tryz.underlying59 (h3 2 zr zp);exact⟨x,y,z,rfl⟩
theorem abh(h:sZ prog 6 85 l):is7 l:=by
 obtain⟨ls,hl,rfl,h3⟩:=kR Tryz.underlying85 h
 match ls,hl,h3 with
 |[a1,a2,a3,a4,a5,a6,a7],_,h3=>
  obtain⟨x1,rfl⟩:=gK Tryz.underlying3 (h3 0 zr zp);obtain⟨x2,rfl⟩:=gK Tryz.underlying3 (h3 1 zr zp);obtain⟨x3,rfl⟩:=gK Tryz.underlying3 (h3 2 zr zp);obtain⟨x4,rfl⟩:=gK Tryz.underlying3 (h3 3 zr zp);obtain⟨x5,rfl⟩:=gK Tryz.underlying3 (h3 4 zr zp);obtain⟨x6,rfl⟩:=gK Tryz.underlying3 (h3 5 zr zp);obtain⟨x7,rfl⟩:=uH Tryz.underlying59 (h3 6 zr zp);exact⟨x1,x2,x3,x4,x5,x6,x7,rfl⟩
theorem abg(h:sZ prog 8 27 l):∃p:PD,p.ok/\l.map CV.d=p.cs:=by
 obtain⟨ls,hl,rfl,h3⟩:=kR Tryz.underlying27 h
 match ls,hl,h3 with
 |[a0,a1,a2,a3,a4,a5,a6,a7],_,h3=>
  obtain⟨o0,e0,k0⟩:=oy Tryz.underlying22 (h3 0 zr zp);obtain⟨x1,rfl⟩:=gK Tryz.underlying3 (h3 1 zr zp);obtain⟨o2,e2,k2⟩:=oy Tryz.underlying23 (h3 2 zr zp);obtain⟨o3,e3,k3⟩:=oy Tryz.underlying24 (h3 3 zr zp);obtain⟨x4,rfl⟩:=gK Tryz.underlying3 (h3 4 zr zp);obtain⟨x5,rfl⟩:=gK Tryz.underlying3 (h3 5 zr zp);obtain⟨o6,e6,k6⟩:=oy Tryz.underlying25 (h3 6 zr zp);obtain⟨x7,rfl⟩:=gK Tryz.underlying3 (h3 7 zr zp);refine⟨⟨o0,x1,o2,o3,x4,x5,o6,x7⟩,⟨λe he=>in2 Tryz.underlying119 rfl rfl (k0 e he),λe he=>aaH (k2 e he),λe he=>abh (k3 e he),λe he=>in2 Tryz.underlying192 rfl rfl (k6 e he)⟩,?_⟩;have e0:a0.map CV.d=[dc o0]:=e0;have e2:a2.map CV.d=[dc o2]:=e2;have e3:a3.map CV.d=[dc o3]:=e3;have e6:a6.map CV.d=[dc o6]:=e6;simp[e0,e2,e3,e6]
end Go.Proofs.YtldhlnmnfokbeaaGreatDoor
