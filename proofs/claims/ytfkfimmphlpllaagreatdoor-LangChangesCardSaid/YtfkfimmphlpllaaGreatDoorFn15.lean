/- Helpers: an abstract machine for Go functions, and walks of functions of the program. -/
import Derived.Test.YtfkfimmphlpllaaGreatDoorFn14

set_option linter.all false
set_option maxHeartbeats 8000000
set_option maxRecDepth 100000
namespace Go.Proofs.YtfkfimmphlpllaaGreatDoor
open Go.Am Go.RowKit Go.ChangeShapes Go.WideShapes
variable {o:Option (List (List DV))}
theorem NV(h:∀ x∈sO o,∃ i,x=[.int .i64 i]):∃ o':Option (List Int),zC o'=dL o:=by
 cases o with
 | none=>exact⟨none,rfl⟩
 | some es=>
  have:∀ es:List (List DV),(∀ x∈es,∃ i,x=[DV.int .i64 i])→∃ l:List Int,zD l=es:=by
   intro es
   induction es with
   | nil=>intro _;exact⟨[],rfl⟩
   | cons a es ih=>
    intro h;obtain⟨i,rfl⟩:=h a (by simp);obtain⟨l,rfl⟩:=ih fun x hx=>h x (by simp [hx])
    exact⟨i::l,rfl⟩
  obtain⟨l,e⟩:=this es h;exact⟨some l,by show CV.d (.sl (zD l))=.d (.sl es);rw [e]⟩
theorem Gf(h:∀ x∈sO o,∃ s,x=[.str s]):∃ o':Option (List (List UInt8)),tC o'=dL o:=by
 cases o with
 | none=>exact⟨none,rfl⟩
 | some es=>
  have:∀ es:List (List DV),(∀ x∈es,∃ s,x=[DV.str s])→∃ l:List (List UInt8),tD l=es:=by
   intro es
   induction es with
   | nil=>intro _;exact⟨[],rfl⟩
   | cons a es ih=>
    intro h;obtain⟨i,rfl⟩:=h a (by simp);obtain⟨l,rfl⟩:=ih fun x hx=>h x (by simp [hx])
    exact⟨i::l,rfl⟩
  obtain⟨l,e⟩:=this es h;exact⟨some l,by show CV.d (.sl (tD l))=.d (.sl es);rw [e]⟩
theorem Vy {l:List DV}(h:pM Tryz.prog 9 61 l):∃ x:Ch,x.p.ok∧AV.agg (l.map CV.d)=x.A:=by
 obtain⟨ls,hl,rfl,h3⟩:=j7 Tryz.underlying61 h
 match ls,hl,h3 with
 | [a0,a1,a2,a3,a4],_,h3=>
  obtain⟨p,hp,e0⟩:=Uw (h3 0 (by decide) (by simp));obtain⟨n,rfl⟩:=eU Tryz.underlying3 (h3 1 (by decide) (by simp));obtain⟨o2,e2,k2⟩:=jb Tryz.underlying30 (h3 2 (by decide) (by simp));obtain⟨o3,e3,k3⟩:=jb Tryz.underlying59 (h3 3 (by decide) (by simp));obtain⟨o4,e4,k4⟩:=jb Tryz.underlying59 (h3 4 (by decide) (by simp));obtain⟨q2,f2⟩:=NV fun x hx=>eU Tryz.underlying3 (k2 x hx)
  obtain⟨q3,f3⟩:=Gf fun x hx=>sN Tryz.underlying53 (k3 x hx)
  obtain⟨q4,f4⟩:=Gf fun x hx=>sN Tryz.underlying53 (k4 x hx)
  refine⟨⟨p,n,q2,q3,q4⟩,hp,?_⟩;have e0:a0.map CV.d=p.cs:=e0;have e2:a2.map CV.d=[dL o2]:=e2;have e3:a3.map CV.d=[dL o3]:=e3;have e4:a4.map CV.d=[dL o4]:=e4;simp [e0,e2,e3,e4,f2,f3,f4]
theorem PU {H:Type}{enc:TypeId × Value→H}{W:World}{base:Nat}{v:Value}{d:DataW H}{p:List MemPlace}(hok:Value.okWide Tryz.prog W .any base 61 v) (h:DataW.Trod enc Tryz.prog W 0 (fun _=>true) true 61 v d p) :
 ∃ x:Ch,x.p.ok∧(Vw.mk (fun b=>b<W.heap.size) (fun _=>0) (bz [] []) W).av v x.A:=by
 obtain⟨arr,l,rfl,h1,h2⟩:=Cj kids (n:=9) Tryz.underlying61 (by show 61<_;rw [pV];decide) (by kernel_rfl) hok h;obtain⟨q,hq,e⟩:=Vy h1;have:=HJ h2;rw [e] at this;exact⟨q,hq,this⟩
theorem p8 (os:Os)(started:os.Started)(H:Type)(enc:TypeId × Value→H) :
 ReturnsInHanded {} Tryz.checked os 14 .any (fun w args=>(Rows.langChangesSpec.pre enc Tryz.prog Tryz.f14 [] false w args∧laidMetH Tryz.prog Rows.langChangesRow.laid w)∧sizedMet enc Tryz.prog Tryz.f14 (OpenSpec.ofChange Rows.langChangesSpec) false w args)
  (Rows.langChangesSpec.post enc Tryz.prog Tryz.f14 false true false false):=by
 refine Hg (C:=Tryz.checked) (X:=fun w _=>laidMetH Tryz.prog Rows.langChangesRow.laid w) (fun _ _ _ hh h=>h.of_heap hh) own started (by kernel_rfl) Tryz.func14
  (ChangeSpec.witness_shaped (enc:=enc) (C:=Tryz.checked) (os:=os) (X:=fun w _=>laidMetH Tryz.prog Rows.langChangesRow.laid w) false (World.laidAll Tryz.prog os Rows.langChangesRow.laid)
   #[.agg #[.slice none 0 0,.int .i64 0,.slice none 0 0,.slice none 0 0,.int .i64 0,.int .i64 0,.slice none 0 0,.int .i64 0,.int .i64 0,.slice none 0 0,.slice none 0 0,.slice none 0 0]] 8 (World.laidAll_os _ _ _)
   (World.shaped_of_ZipB (by kernel_rfl) (by kernel_rfl)) (by kernel_rfl) (by kernel_rfl) (by kernel_rfl)
   (by rw [MakeChecks.laidMetH_plain _ _ _ (by kernel_rfl)];exact laidMet_laidAll _ (by kernel_rfl) (by kernel_rfl))) ?_
 intro W base args ds gs before hsh hval hW hL;have hval:∀ (j:Nat) t v,Tryz.f14.params[j]?=some t→args[j]?=some v→Value.okWide Tryz.prog W .any base t v:=hval;have hW':DataW.Whole enc Tryz.prog Tryz.f14.params.toList Rows.langChangesSpec.vars false W args.toList ds gs before:=hW;obtain⟨p,q,hA,hV,_,_,_⟩:=hW';rw [Tryz.params14] at hA hval;obtain⟨v0,d0,rfl,rfl,h0⟩:=trodAll_one hA;obtain⟨rfl,rfl⟩:=trodVars_none hV;obtain⟨q0,hq0,a0⟩:=PU (hval 0 61 v0 rfl rfl) h0;have hL':laidMetH Tryz.prog Rows.langSamesRow.laid W:=hL;obtain⟨m,hG⟩:=Rl hsh hL';refine (KK (yp m q0 hq0) hG rfl (fun i h h'=>?_)).mono fun e W' ⟨he,hk⟩=>?_
 ·match i,h with
  | 0,_=>exact a0
 ·exact⟨_,he,Ju kids hz (by rw [Tryz.params14];intro t ht;simp at ht;subst ht;show _<_;rw [pV];decide) rfl (tb:=4) rfl Tryz.underlying4 hW rfl hk⟩
end Go.Proofs.YtfkfimmphlpllaaGreatDoor
