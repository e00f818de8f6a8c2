/- Helpers: an abstract machine for Go functions, and walks of functions of the program. -/
import Derived.Test.YtlnhbjpphecakaaGreatDoorLn11
import Derived.ChangeMaps5
import Derived.Deep.DeepHandedRow

set_option linter.all false
set_option maxHeartbeats 8000000
set_option maxRecDepth 100000
namespace Go.Proofs.YtlnhbjpphecakaaGreatDoor
open Go.Am Go.RowKit Go.ChangeShapes Go.WideShapes
theorem inSpan {l:List DV}{n:Nat}(h:inT Tryz.prog (n+2) 24 l):∃ s:Sp,l=spD s:=by
 obtain⟨ls,hl,rfl,h3⟩:=inT_struct Tryz.underlying24 h
 match ls,hl,h3 with
 | [a,b],_,h3=>
  obtain⟨s,rfl⟩:=inT_str Tryz.underlying22 (h3 0 (by decide) (by simp))
  obtain⟨t,rfl⟩:=inT_str Tryz.underlying22 (h3 1 (by decide) (by simp))
  exact⟨(s,t),rfl⟩
theorem spans:∀ (l:List (List DV)),(∀ x∈l,inT Tryz.prog 7 24 x)→∃ b:List Sp,l=b.map spD
 | [],_=>⟨[],rfl⟩
 | x::r,h=>by
  obtain⟨s,rfl⟩:=inSpan (n:=5) (h x (by simp))
  obtain⟨b,rfl⟩:=spans r (fun y hy=>h y (by simp [hy]))
  exact⟨s::b,rfl⟩
theorem okWide_cells {P:Program}{w:World}{r:Reach}{base:Nat}{t e:TypeId}{v:Value}(ht:P.underlying t=some (.slice e)) (h:Value.okWide P w r base t v):v.cells.toList=[v]∧Cell.okWide P w r base t v:=by
 unfold Value.okWide at h;rw [ht] at h
 refine⟨?_,h⟩
 have h':=h
 unfold Cell.okWide at h';rw [ht] at h'
 unfold Cell.ok at h'
 rw [ht] at h'
 cases v <;> first|rfl|(exfalso;exact h')
theorem bulk_len {H:Type}(l:List (DataW H)):l.length≤Rows.uptoBulkAll l:=by
 induction l with
 | nil=>simp [Rows.uptoBulkAll]
 | cons x r ih=>
  have:1≤Rows.uptoBulk x:=by
   cases x with
   | lit l=>cases l <;> simp [Rows.uptoBulk]
   | _=>simp [Rows.uptoBulk]
  simp only [Rows.uptoBulkAll,List.length_cons];omega
theorem box_arg {H:Type}{enc:TypeId × Value→H}{W:World}{base:Nat}{v:Value}{d:DataW H}{p:List MemPlace}(hok:Value.okWide Tryz.prog W .any base 71 v) (h:DataW.Trod enc Tryz.prog W 0 (fun _=>true) true 71 v d p) :
 ∃ b:Option (List Sp),(Vw.mk (fun b=>b<W.heap.size) (fun _=>0) (lvOf [] []) W).av v (.c (scC (bxO b)))∧(bxL b).length≤Rows.uptoBulk d:=by
 obtain⟨hc,hok⟩:=okWide_cells Tryz.underlying71 hok
 obtain⟨fuel,h⟩:=h
 rw [hc] at h
 obtain⟨l,h1,h2,_⟩:=trod_rd kids 8 true 71 fuel [v] _ (by show 71<_;rw [tsize];decide) (by kernel_rfl) (fun _ i a len cap hi=>by
  match i,hi with
  | 0,hi=>obtain rfl:=Option.some.inj hi;exact okWide_spot hok) h
 unfold inT at h1
 rw [Tryz.underlying71] at h1
 rcases h1 with rfl|⟨es,rfl,h1⟩
 ·exact⟨none,h2.2 0 (by simp) (by simp),Nat.zero_le _⟩
 ·obtain⟨b,rfl⟩:=spans es h1
  have hr:=h2.2 0 (by simp) (by simp)
  refine⟨some b,hr,?_⟩
  rcases DataW.trod_slice Tryz.underlying71 h with ⟨e,_⟩|⟨a,len,cap,elems,rest,m,_,e,hx,_,_,_,hl,_⟩
  ·obtain rfl:v=.slice none 0 0:=by simpa using e
   have:=hr.1
   cases this
  ·obtain rfl:v=.slice (some a) len cap:=by simpa using e
   have h3:len=(b.map spD).length:=by
    have:=hr.1
    simp only [List.getElem_cons_zero] at this
    cases this;rfl
   obtain⟨rfl,_⟩:=Prod.mk.inj hx
   have h4:=bulk_len (elems.map (·.1))
   simp only [Rows.uptoBulk]
   rw [List.length_map] at h3 h4
   show b.length≤_
   omega
theorem str_arg {H:Type}{enc:TypeId × Value→H}{W:World}{base:Nat}{t:TypeId}{v:Value}{d:DataW H}{p:List MemPlace}(ht:Tryz.prog.underlying t=some .string) (hok:Value.okWide Tryz.prog W .any base t v) (h:DataW.Trod enc Tryz.prog W 0 (fun _=>true) true t v d p) :
 ∃ s:List UInt8,(Vw.mk (fun b=>b<W.heap.size) (fun _=>0) (lvOf [] []) W).av v (.c (.d (.str s))):=by
 obtain⟨s,rfl,rfl,_,hs⟩:=Go.ChangeMaps.open_string ht hok h
 exact⟨s.data.toList,.str s (by simpa [maxLen] using hs),rfl⟩
theorem int_arg {H:Type}{enc:TypeId × Value→H}{W:World}{base:Nat}{t:TypeId}{k:IntKind}{v:Value}{d:DataW H}{p:List MemPlace}(ht:Tryz.prog.underlying t=some (.int k)) (hok:Value.okWide Tryz.prog W .any base t v) (h:DataW.Trod enc Tryz.prog W 0 (fun _=>true) true t v d p) :
 ∃ n,(Vw.mk (fun b=>b<W.heap.size) (fun _=>0) (lvOf [] []) W).av v (.c (.d (.int k n))):=by
 obtain⟨n,rfl,rfl,_,hw⟩:=open_int ht hok h
 exact⟨n,.int k n (Go.Am.wf_wrap hw),rfl⟩
theorem rangesSplits_reads (os:Os){H:Type}(enc:TypeId × Value→H):∃ places,DataW.whole enc Tryz.prog ((World.laidAll Tryz.prog os Rows.rangesSplitsUptoRow.laid).forCall (fun _ _=>0) ⟨#[],#[.slice none 0 0,.int .i64 0,.string ⟨#[]⟩],[]⟩).memory Tryz.f4.params.toList (Rows.OpenSpec.upto Rows.rangesSplitsSpec).vars false #[Value.slice none 0 0,.int .i64 0,.string ⟨#[]⟩].toList 8=some ([.nil,.lit (.int .i64 0),.lit (.string [])],[],places):=
 ⟨[],by kernel_rfl⟩
theorem rangesSplits_lifted (os:Os)(started:os.Started)(H:Type)(enc:TypeId × Value→H)(F:Stop.Interp) :
 ReturnsInHanded {} Tryz.checked os 4 .any ((Rows.OpenSpec.upto Rows.rangesSplitsSpec).preRow enc Tryz.prog Tryz.f4 Rows.rangesSplitsUptoRow.domain false Rows.rangesSplitsUptoRow.laid) (((Rows.OpenSpec.upto Rows.rangesSplitsSpec).at F).post enc Tryz.prog Tryz.f4 false true false false):=by
 obtain⟨places,hx⟩:=rangesSplits_reads os enc
 refine returnsInHanded_of_row (C:=Tryz.checked) (s:=Rows.OpenSpec.upto Rows.rangesSplitsSpec) own started (by kernel_rfl) Tryz.func4
  ⟨World.laidAll Tryz.prog os Rows.rangesSplitsUptoRow.laid,fun _ _=>0,⟨#[],#[.slice none 0 0,.int .i64 0,.string ⟨#[]⟩],[]⟩,World.laidAll_os _ _ _,World.shaped_of_ZipB (by kernel_rfl) (by kernel_rfl),rfl,And.right (Input.okWide_of_okWideB (by kernel_rfl)),
   OpenSpec.preRow_of_cond 8 hx (by kernel_rfl) (fun k hk=>by cases hk;kernel_rfl) (by kernel_rfl) (by rw [MakeChecks.laidMetH_plain _ _ _ (by kernel_rfl)];exact laidMet_laidAll _ (by kernel_rfl) (by kernel_rfl)),
   by simp only [Assume.holds];exact⟨by simp,by simp,fun _=>Modest.zero,by simp,by simp⟩⟩ ?_
 intro W base args ds gs before hval hW _ hcond _ hL hsh _
 have hval:∀ (j:Nat) t v,Tryz.f4.params[j]?=some t→args[j]?=some v→Value.okWide Tryz.prog W .any base t v:=hval
 have hW':DataW.Whole enc Tryz.prog Tryz.f4.params.toList (Rows.OpenSpec.upto Rows.rangesSplitsSpec).vars false W args.toList ds gs before:=hW
 obtain⟨p,q,hA,hV,_,_,_⟩:=hW'
 rw [Tryz.params4] at hA hval
 obtain⟨v0,v1,v2,d0,d1,d2,p0,p1,p2,rfl,rfl,_,h0,h1,h2⟩:=trodAll_three hA
 obtain⟨rfl,rfl⟩:=trodVars_none hV
 have hb:=of_decide_eq_true (hcond _ rfl)
 simp only [List.append_nil,Rows.uptoBulkAll] at hb
 obtain⟨b,a0,hl⟩:=box_arg (hval 0 71 v0 rfl rfl) h0
 obtain⟨i,a1⟩:=int_arg (k:=.i64) Tryz.underlying3 (hval 1 3 v1 rfl rfl) h1
 obtain⟨s,a2⟩:=str_arg Tryz.underlying9 (hval 2 9 v2 rfl rfl) h2
 have hL':laidMetH Tryz.prog Rows.rangesSplitsRow.laid W:=hL
 obtain⟨m,hG⟩:=globs hsh hL'
 refine (row_call (rangesSplits_ok m b i s (by omega)) hG rfl (fun i h h'=>?_)).mono fun e W' ⟨he,hk⟩=>?_
 ·match i,h with
  | 0,_=>exact a0
  | 1,_=>exact a1
  | 2,_=>exact a2
 ·exact⟨_,he,law_post kids hz (by rw [Tryz.params4];intro t ht;simp at ht;rcases ht with rfl|rfl|rfl <;> (show _<_;rw [tsize];decide)) rfl (tb:=4) rfl Tryz.underlying4 hW rfl hk⟩
end Go.Proofs.YtlnhbjpphecakaaGreatDoor
