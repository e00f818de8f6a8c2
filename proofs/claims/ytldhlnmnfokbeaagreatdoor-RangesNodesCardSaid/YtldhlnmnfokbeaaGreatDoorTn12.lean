/- Helpers. -/
import Derived.Test.YtldhlnmnfokbeaaGreatDoorTn11
import Derived.ChangeMaps5

set_option linter.all false
set_option maxHeartbeats 8000000
set_option maxRecDepth 100000
namespace Go.Proofs.YtldhlnmnfokbeaaGreatDoor
open Go.Am Go.RowKit Go.ChangeShapes Go.WideShapes
variable {l:List DV}
theorem UN{n:Nat}(h:sZ Tryz.prog (n+2) 72 l):∃s:Sp,l=Ll s:=by
 obtain⟨ls,hl,rfl,h3⟩:=kR Tryz.underlying72 h
 match ls,hl,h3 with
 |[a,b],_,h3=>
  obtain⟨s,rfl⟩:=uH Tryz.underlying59 (h3 0 zr zp);obtain⟨t,rfl⟩:=uH Tryz.underlying59 (h3 1 zr zp);exact⟨(s,t),rfl⟩
theorem Oo{o:Option (List (List DV))}(h:∀x∈sO o,∃s:Sp,x=Ll s):∃b:Option (List Sp),dc (uh b)=dc o:=by
 cases o with
 |none=>exact⟨none,rfl⟩
 |some es=>
  have:∀es:List (List DV),(∀x∈es,∃s:Sp,x=Ll s)->∃l:List Sp,l.map Ll=es:=by
   intro es
   induction es with
   |nil=>intro _;exact⟨[],rfl⟩
   |cons a es ih=>
    intro h;obtain⟨s,rfl⟩:=h a zp;obtain⟨l,rfl⟩:=ih λx hx=>h x rc
    exact⟨s::l,rfl⟩
  obtain⟨l,e⟩:=this es h;exact⟨some l,by show CV.d (.sl (l.map Ll))=.d (.sl es);rw[e]⟩
theorem Uq(h:sZ Tryz.prog 9 30 l):∃(p:PD) (b:Option (List Sp)) (n i s:Int),p.ok/\AV.agg (l.map CV.d)=O9 p b n i s:=by
 obtain⟨ls,hl,rfl,h3⟩:=kR Tryz.underlying30 h
 match ls,hl,h3 with
 |[a0,a1,a2,a3,a4],_,h3=>
  obtain⟨p,hp,e0⟩:=abg (h3 0 zr zp);obtain⟨o1,e1,k1⟩:=oy Tryz.underlying28 (h3 1 zr zp);obtain⟨n,rfl⟩:=gK Tryz.underlying3 (h3 2 zr zp);obtain⟨i,rfl⟩:=gK Tryz.underlying3 (h3 3 zr zp);obtain⟨s,rfl⟩:=gK Tryz.underlying3 (h3 4 zr zp);obtain⟨b,f1⟩:=Oo λx hx=>UN (n:=5) (k1 x hx)
  refine⟨p,b,n,i,s,hp,?_⟩;have e0:a0.map CV.d=p.cs:=e0;have e1:a1.map CV.d=[dc o1]:=e1;simp[e0,e1,f1]
theorem Pp{H:Type}{enc:TypeId×Value->H}{W:World}{base:Nat}{v:Value}{d:DataW H}{p:List MemPlace}(hok:Value.okWide Tryz.prog W .any base 30 v)(h:DataW.Trod enc Tryz.prog W 0 (λ_=>true) true 30 v d p):
 ∃(p:PD) (b:Option (List Sp)) (n i s:Int),p.ok/\(Vw.mk (λb=>b<W.heap.size) (λ_=>0) (cY [] []) W).av v (O9 p b n i s):=by
 obtain⟨arr,l,rfl,h1,h2⟩:=Hh kids (n:=9) Tryz.underlying30 (by show 30<_;rw[Bd];decide) zt hok h;obtain⟨p,b,n,i,s,hp,e⟩:=Uq h1;have:=LC h2;rw[e]at this;exact⟨p,b,n,i,s,hp,this⟩
theorem tG(os:Os)(started:os.Started)(H:Type)(enc:TypeId×Value->H):
 ReturnsInHanded {} Tryz.checked os 3 .any (λw args=>(Rows.rangesNodesSpec.pre enc Tryz.prog Tryz.f3 [] false w args/\laidMetH Tryz.prog Rows.rangesNodesRow.laid w)/\sizedMet enc Tryz.prog Tryz.f3 (OpenSpec.ofChange Rows.rangesNodesSpec) false w args)
  (Rows.rangesNodesSpec.post enc Tryz.prog Tryz.f3 false true false false):=by
 refine L2 (C:=Tryz.checked) (X:=λw _=>laidMetH Tryz.prog Rows.rangesNodesRow.laid w) (λ_ _ _ hh h=>h.of_heap hh) own started zt Tryz.func3
  (ChangeSpec.witness_shaped (enc:=enc) (C:=Tryz.checked) (os:=os) (X:=λw _=>laidMetH Tryz.prog Rows.rangesNodesRow.laid w) false (World.laidAll Tryz.prog os Rows.rangesNodesRow.laid)
   #[.agg #[.slice none 0 0,.int .i64 0,.slice none 0 0,.slice none 0 0,.int .i64 0,.int .i64 0,.slice none 0 0,.int .i64 0,.slice none 0 0,.int .i64 0,.int .i64 0,.int .i64 0]] 8 (World.laidAll_os _ _ _)
   (World.shaped_of_ZipB zt zt) zt zt zt
   (by rw[MakeChecks.laidMetH_plain _ _ _ zt];exact laidMet_laidAll _ zt zt)) ?_
 intro W base args ds gs before hsh hval hW hL;have hval:∀(j:Nat) t v,Tryz.f3.params[j]?=some t->args[j]?=some v->Value.okWide Tryz.prog W .any base t v:=hval;have hW':DataW.Whole enc Tryz.prog Tryz.f3.params.toList Rows.rangesNodesSpec.vars false W args.toList ds gs before:=hW;obtain⟨p,q,hA,hV,_,_,_⟩:=hW';rw[Tryz.params3]at hA hval;obtain⟨v0,d0,rfl,rfl,h0⟩:=trodAll_one hA;obtain⟨rfl,rfl⟩:=trodVars_none hV;obtain⟨q0,b,nd,ip,sp,hq0,a0⟩:=Pp (hval 0 30 v0 rfl rfl) h0;have hL':laidMetH Tryz.prog Rows.rangesNodesRow.laid W:=hL;obtain⟨m,hG⟩:=WZ hsh hL';refine(PI (zF m q0 hq0 b nd ip sp) hG rfl (λi h h'=>?_)).mono λe W' ⟨he,hk⟩=>?_
 ·match i,h with
  |0,_=>exact a0
 ·exact⟨_,he,PB kids hz (by rw[Tryz.params3];intro t ht;simp at ht;subst ht;show _<_;rw[Bd];decide) rfl (tb:=4) rfl Tryz.underlying4 hW rfl hk⟩
end Go.Proofs.YtldhlnmnfokbeaaGreatDoor
