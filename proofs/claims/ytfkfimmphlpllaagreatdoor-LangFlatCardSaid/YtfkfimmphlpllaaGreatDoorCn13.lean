/- Helpers: an abstract machine for Go functions, and walks of functions of the program. -/
import Derived.Test.YtfkfimmphlpllaaGreatDoorCn12

set_option linter.all false

namespace Go.Am
open Go.Am.Ty Go.Proofs N
set_option maxHeartbeats 4000000 in
theorem LF (m:Int)(p:PD)(hp:p.ok)(s:Int)(h0:(fI p).2.2≠0):ah Tryz.prog (GG m) 26 [p.A,.c (.d (.int .i64 s))] (.tup [m9.A,.c (.d (.int .i64 (fI p).2.2))]):=by
 have h:=uY m p hp
 generalize (fI p).2.2=e at *
 refine ah.EU Go.Proofs.Tryz.func26 rfl (by rw [Tryz.ntmps26];simp) (fun lv=>EC lv _ _) ?_
 rintro⟨_,_,w0,F0,W0,_,bu,β0⟩ rfl rfl rfl rfl
 refine AW.ag fun K hK=>?_
 refine AW.aa rfl ?_
 simp
 apply hK;clear hK K
 refine AW.ag fun K hK=>?_
 refine AW.ag fun K1 hK1=>?_
 refine AW.aa rfl ?_
 simp
 refine ai.pure 2 9 (h) (by first|(simp;done)|rfl) (by simp) (by first|rfl|simp) ?_
 simp [h0]
 apply hK1;clear hK1 K1
 refine AW.ag fun K1 hK1=>?_
 refine AW.aa rfl ?_
 simp
 apply hK1;clear hK1 K1
 refine AW.cond (b:=true) (by first|(simp [h0];done)|(simp [h0];omega)) ?_
 refine AW.ag fun K1 hK1=>?_
 refine AW.aa rfl ?_
 simp [Zc]
 apply hK1;clear hK1 K1
 refine AW.ret ?_
 refine eI.jQ (κ:=0) (T:=27) (t:=4) (u:=5) (k:=1) (off:=0) (own:=true) (fz:=false) (U:=27) (cs:=m9.cs) rfl ?_ ?_ ?_ ?_ rfl rfl
 ·simp
 ·simp [aj]
 ·rw [List.drop_zero];exact Cq ..
 ·simp
set_option maxHeartbeats 8000000 in
theorem BT (m:Int)(p:PD)(hp:p.ok)(a b:Int)(ha:0≤a∧a<256)(hb:0≤b∧b<256):ah Tryz.prog (GG m) 11 [p.A,.c (.d (.int .u8 a)),.c (.d (.int .u8 b))] (.c (.d (.bool true))):=by
 have hgr:=IT (GG m) p hp
 have hsh:=Ho m
 have wa:=cX (n:=a) (by omega) (by omega)
 have wb:=cX (n:=b) (by omega) (by omega)
 obtain⟨n,hn,hn0⟩:∃ n,a.tmod 201=n∧(0≤n∧n≤200):=⟨_,rfl,by rw [Int.tmod_eq_emod_of_nonneg ha.1];omega⟩
 obtain⟨k,hk,hk0⟩:∃ n,b.tmod 201=n∧(0≤n∧n≤200):=⟨_,rfl,by rw [Int.tmod_eq_emod_of_nonneg hb.1];omega⟩
 cases hgb:m5 p with
 | true=>
  rw [hgb] at hgr
  refine ah.aU Go.Proofs.Tryz.func11 rfl (by rw [Tryz.ntmps11];simp) ?_
  rintro⟨_,_,w0,F0,W0,_,bu,β0⟩ rfl rfl rfl
  refine AW.ag fun K hK=>?_
  refine AW.aa rfl ?_
  simp
  apply hK;clear hK K
  refine AW.ag fun K hK=>?_
  refine AW.ag fun K1 hK1=>?_
  refine AW.aa rfl ?_
  simp
  refine ai.pure 1 9 (hgr) (by first|(simp;done)|rfl) (by simp) (by first|rfl|simp) ?_
  simp
  apply hK1;clear hK1 K1
  refine AW.cond (b:=true) (by first|(simp [];done)|(simp [];omega)) ?_
  refine AW.ag fun K1 hK1=>?_
  refine AW.aa rfl ?_
  simp
  refine ai.pure 1 9 (hsh) (by first|(simp;done)|rfl) (by simp) (by first|rfl|simp) ?_
  simp
  apply hK1;clear hK1 K1
  exact AW.ret (κ:=0) (aK.tmp (κ:=0) (t:=6) rfl 9 (by simp []) (by first|rfl|simp) (by first|rfl|simp) (by first|rfl|simp))
 | false=>
 rw [hgb] at hgr
 have hbad:∀ e:Int,e≠0→ah Tryz.prog (GG m) 26 [p.A,.c (.d (.int .i64 n))] (.tup [m9.A,.c (.d (.int .i64 e))])→ah Tryz.prog (GG m) 11 [p.A,.c (.d (.int .u8 a)),.c (.d (.int .u8 b))] (.c (.d (.bool true))):=by
  intro e he hu
  refine ah.aU Go.Proofs.Tryz.func11 rfl (by rw [Tryz.ntmps11];simp) ?_
  rintro⟨_,_,w0,F0,W0,_,bu,β0⟩ rfl rfl rfl
  refine AW.ag fun K hK=>?_
  refine AW.aa rfl ?_
  simp
  apply hK;clear hK K
  refine AW.ag fun K hK=>?_
  refine AW.ag fun K1 hK1=>?_
  refine AW.aa rfl ?_
  simp
  refine ai.pure 1 9 (hgr) (by first|(simp;done)|rfl) (by simp) (by first|rfl|simp) ?_
  simp
  apply hK1;clear hK1 K1
  refine AW.cond (b:=false) (by first|(simp [];done)|(simp [];omega)) ?_
  refine AW.skip ?_
  simp
  apply hK;clear hK K
  refine AW.ag fun K hK=>?_
  refine AW.aa rfl ?_
  simp [wa,wb,hn,hk]
  apply hK;clear hK K
  refine AW.ag fun K hK=>?_
  refine AW.aa rfl ?_
  simp
  refine ai.pure 1 9 (hu) (by first|(simp;done)|rfl) (by simp) (by first|rfl|simp) ?_
  simp [aj]
  apply hK;clear hK K
  refine AW.ag fun K hK=>?_
  refine AW.ag fun K1 hK1=>?_
  refine AW.aa rfl ?_
  simp
  apply hK1;clear hK1 K1
  refine AW.cond (b:=true) (by first|(simp [he];done)|(simp [he];omega)) ?_
  refine AW.ag fun K1 hK1=>?_
  refine AW.aa rfl ?_
  simp
  refine ai.pure 2 9 (hsh) (by first|(simp;done)|rfl) (by simp) (by first|rfl|simp) ?_
  simp
  apply hK1;clear hK1 K1
  exact AW.ret (κ:=0) (aK.tmp (κ:=0) (t:=6) rfl 9 (by simp []) (by first|rfl|simp) (by first|rfl|simp) (by first|rfl|simp))
 by_cases h0:(fI p).2.2=0
 rotate_left
 ·exact hbad _ h0 (LF m p hp n h0)
 by_cases hbig:64<AQ p n
 ·exact hbad 3 (by decide) (Ki m p hp n h0 hn0 hbig)
 have hg:=qj hp h0
 have hcnt:=DU hg hn0.1
 have hU:(jn p n.toNat).2.length≤64:=by omega
 have hug:=tM hg n.toNat hU
 have hu:=HD m p hp n h0 hn0 hbig
 have hck:=BH m _ hug.ok
 rw [B0 hug] at hck
 have Jr:=HD m _ hug.ok k (by rw [B0 hug]) hk0 (Fo hg _ hU hk0.1)
 rw [Al hg _ _ hU] at Jr
 have hsm:=EG (GG m) _ _ hug.ok hug.ok
 rw [uo hug.ok] at hsm
 have hst:(iC p n.toNat).ns=0:=rfl
 have hsp:p.ns=0→ah Tryz.prog (GG m) 37 [p.A,(iC p n.toNat).A] (.c (.d (.bool true))):=by
  intro h00
  have h1:=EG (GG m) p (iC p n.toNat) hp hug.ok
  rw [show jZ p (iC p n.toNat)=true by rw [By hg h00];exact FD hp h00] at h1
  exact h1
 obtain⟨u,hu'⟩:∃ u,iC p n.toNat=u:=⟨_,rfl⟩
 rw [hu'] at hu hck Jr hsm hst hsp
 refine ah.aU Go.Proofs.Tryz.func11 rfl (by rw [Tryz.ntmps11];simp) ?_
 rintro⟨_,_,w0,F0,W0,_,bu,β0⟩ rfl rfl rfl
 refine AW.ag fun K hK=>?_
 refine AW.aa rfl ?_
 simp
 apply hK;clear hK K
 refine AW.ag fun K hK=>?_
 refine AW.ag fun K1 hK1=>?_
 refine AW.aa rfl ?_
 simp
 refine ai.pure 1 9 (hgr) (by first|(simp;done)|rfl) (by simp) (by first|rfl|simp) ?_
 simp
 apply hK1;clear hK1 K1
 refine AW.cond (b:=false) (by first|(simp [];done)|(simp [];omega)) ?_
 refine AW.skip ?_
 simp
 apply hK;clear hK K
 refine AW.ag fun K hK=>?_
 refine AW.aa rfl ?_
 simp [wa,wb,hn,hk]
 apply hK;clear hK K
 refine AW.ag fun K hK=>?_
 refine AW.aa rfl ?_
 simp
 refine ai.pure 1 9 (hu) (by first|(simp;done)|rfl) (by simp) (by first|rfl|simp) ?_
 simp [aj]
 apply hK;clear hK K
 refine AW.ag fun K hK=>?_
 refine AW.ag fun K1 hK1=>?_
 refine AW.aa rfl ?_
 simp
 apply hK1;clear hK1 K1
 refine AW.cond (b:=false) (by first|(simp [];done)|(simp [];omega)) ?_
 refine AW.skip ?_
 simp
 apply hK;clear hK K
 refine AW.ag fun K hK=>?_
 refine AW.aa rfl ?_
 simp
 refine ai.pure 2 9 (hck) (by first|(simp;done)|rfl) (by simp) (by first|rfl|simp) ?_
 simp [aj]
 apply hK;clear hK K
 refine AW.ag fun K hK=>?_
 refine AW.aa rfl ?_
 simp
 refine ai.pure 2 9 (Jr) (by first|(simp;done)|rfl) (by simp) (by first|rfl|simp) ?_
 simp [aj]
 apply hK;clear hK K
 refine AW.ag fun K hK=>?_
 refine AW.ag fun K1 hK1=>?_
 refine AW.aa rfl ?_
 simp [KW,hst]
 refine ai.pure 3 9 (hsm) (by first|(simp;done)|rfl) (by simp) (by first|rfl|simp) ?_
 simp
 apply hK1;clear hK1 K1
 refine AW.cond (b:=false) (by first|(simp [];done)|(simp [];omega)) ?_
 refine AW.skip ?_
 simp
 apply hK;clear hK K
 refine AW.ag fun K hK=>?_
 by_cases h00:p.ns=0
 ·refine AW.aa rfl ?_
  simp [KW,h00]
  refine ai.pure 3 9 (hsp h00) (by first|(simp;done)|rfl) (by simp) (by first|rfl|simp) ?_
  simp
  refine ai.pure 3 9 (hsh) (by first|(simp;done)|rfl) (by simp) (by first|rfl|simp) ?_
  simp
  apply hK;clear hK K
  exact AW.ret (κ:=0) (aK.tmp (κ:=0) (t:=6) rfl 9 (by simp []) (by first|rfl|simp) (by first|rfl|simp) (by first|rfl|simp))
 ·have hpos:0<p.ns:=by omega
  have hpos':(0:Int)<(p.ns:Int):=by omega
  refine AW.aa rfl ?_
  simp [KW,hpos,hpos']
  refine ai.pure 3 9 (hsh) (by first|(simp;done)|rfl) (by simp) (by first|rfl|simp) ?_
  simp
  apply hK;clear hK K
  exact AW.ret (κ:=0) (aK.tmp (κ:=0) (t:=6) rfl 9 (by simp []) (by first|rfl|simp) (by first|rfl|simp) (by first|rfl|simp))
end Go.Am
