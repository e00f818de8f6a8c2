/- Helpers: an abstract machine for Go functions, and walks of functions of the program. -/
import Derived.Test.YtfkfimmphlpllaaGreatDoorDn12

set_option linter.all false

namespace Go.Am
open Go.Am.Ty Go.Proofs N
theorem FU (m:Int)(p:PD)(hp:p.ok):aj Tryz.prog (GG m) 51 [p.A] (.c (.d (.int .i64 (iO p).2.2))):=by
 have h:=sL m p hp;generalize iO p=v at *
 refine aj.aH Tryz.func51 rfl (by rw [Tryz.ntmps51];simp) ?_;rintro⟨_,_,w0,F0,W0,_,bq,β0⟩ rfl rfl rfl;refine aac fun K hK=>?_;refine aad rfl ?_;simp;apply hK;clear hK K;refine aac fun K hK=>?_;refine aad rfl ?_;simp;refine ai.p 1 9 h ?_;simp;apply hK;clear hK K;refine aac fun K hK=>?_;refine aad rfl ?_;simp;apply hK;clear hK K;exact aag (κ:=0) (au.t (κ:=0) rfl 2 (by simp))
def IT (p:PD)(n:Int):Int × Int:=if (iO p).2.2≠0 then (0,(iO p).2.2) else if 0≤n∧n<p.nn then (lM p n,0) else (0,7)
abbrev Uo (v:Int × Int):AV:=.tup [.c (.d (.int .i64 v.1)),.c (.d (.int .i64 v.2))]
set_option maxHeartbeats 2000000 in
theorem zq (m:Int)(p:PD)(hp:p.ok)(n:Int):aj Tryz.prog (GG m) 34 [p.A,.c (.d (.int .i64 n))] (Uo (IT p n)):=by
 have h:=FU m p hp;have hw:=j9 (GG m) n p.nn;have hs:=nr (GG m) p n;unfold IT;generalize (iO p).2.2=e at *
 by_cases h0:e=0
 rotate_left
 ·rw [if_pos h0];refine aj.aH Tryz.func34 rfl (by rw [Tryz.ntmps34];simp) ?_;rintro⟨_,_,w0,F0,W0,_,bq,β0⟩ rfl rfl rfl;refine aac fun K hK=>?_;refine aad rfl ?_;simp;apply hK;clear hK K;refine aac fun K hK=>?_;refine aad rfl ?_;simp;refine ai.p 1 9 h ?_;simp;apply hK;clear hK K;refine aac fun K hK=>?_;refine aac fun K1 hK1=>?_;refine aad rfl ?_;simp [h0];apply hK1;clear hK1 K1;refine aat ?_;refine aah ?_;simp;apply hK;clear hK K;refine aac fun K hK=>?_;refine aac fun K1 hK1=>?_;refine aad rfl ?_;simp;apply hK1;clear hK1 K1;refine aap (by simp [h0] <;> omega) ?_;refine aac fun K1 hK1=>?_;refine aad rfl ?_;simp;apply hK1;clear hK1 K1;exact aag (κ:=0) (au.o7 (κ:=0) rfl 9 (by simp) (by simp) rfl rfl (by simp) rfl rfl (by decide))
 subst h0;rw [if_neg (not_not_intro rfl)]
 by_cases h1:0≤n∧n<p.nn
 rotate_left
 ·rw [decide_eq_false h1] at hw;rw [if_neg h1];refine aj.aH Tryz.func34 rfl (by rw [Tryz.ntmps34];simp) ?_;rintro⟨_,_,w0,F0,W0,_,bq,β0⟩ rfl rfl rfl;refine aac fun K hK=>?_;refine aad rfl ?_;simp;apply hK;clear hK K;refine aac fun K hK=>?_;refine aad rfl ?_;simp;refine ai.p 1 9 h ?_;simp;apply hK;clear hK K;refine aac fun K hK=>?_;refine aac fun K1 hK1=>?_;refine aad rfl ?_;simp [fZ];refine ai.p 1 9 hw ?_;simp;apply hK1;clear hK1 K1;refine aaq ?_;refine aad rfl ?_;simp;apply hK;clear hK K;refine aac fun K hK=>?_;refine aac fun K1 hK1=>?_;refine aad rfl ?_;simp;apply hK1;clear hK1 K1;refine aaq ?_;refine aac fun K1 hK1=>?_;refine aad rfl ?_;simp;apply hK1;clear hK1 K1;exact aag (κ:=0) (au.o7 (κ:=0) rfl 9 (by simp) (by simp) rfl rfl (by simp) rfl rfl (by decide))
 rw [decide_eq_true h1] at hw;rw [if_pos h1];refine aj.aH Tryz.func34 rfl (by rw [Tryz.ntmps34];simp) ?_;rintro⟨_,_,w0,F0,W0,_,bq,β0⟩ rfl rfl rfl;refine aac fun K hK=>?_;refine aad rfl ?_;simp;apply hK;clear hK K;refine aac fun K hK=>?_;refine aad rfl ?_;simp;refine ai.p 1 9 h ?_;simp;apply hK;clear hK K;refine aac fun K hK=>?_;refine aac fun K1 hK1=>?_;refine aad rfl ?_;simp [fZ];refine ai.p 1 9 hw ?_;simp;apply hK1;clear hK1 K1;refine aat ?_;refine aah ?_;simp;apply hK;clear hK K;refine aac fun K hK=>?_;refine aac fun K1 hK1=>?_;refine aad rfl ?_;simp;apply hK1;clear hK1 K1;refine aat ?_;refine aah ?_;simp;apply hK;clear hK K;refine aac fun K hK=>?_;refine aad rfl ?_;simp;refine ai.p 1 9 hs ?_;simp;apply hK;clear hK K;exact aag (κ:=0) (au.o7 (κ:=0) rfl 9 (by simp) (by simp) rfl rfl (by simp) rfl rfl (by decide))
set_option maxHeartbeats 2000000 in
theorem yZ (m:Int)(p:PD)(hp:p.ok)(n:Int):aj Tryz.prog (GG m) 33 [p.A,.c (.d (.int .i64 n))] (Uo (IT p n)):=by
 have h:=Hs m p hp;have hw:=gF (GG m) n p.nn;have hs:=lE (GG m) p n;unfold IT;generalize (iO p).2.2=e at *
 by_cases h0:e=0
 rotate_left
 ·rw [if_pos h0];refine aj.aH Tryz.func33 rfl (by rw [Tryz.ntmps33];simp) ?_;rintro⟨_,_,w0,F0,W0,_,bq,β0⟩ rfl rfl rfl;refine aac fun K hK=>?_;refine aad rfl ?_;simp;apply hK;clear hK K;refine aac fun K hK=>?_;refine aac fun K1 hK1=>?_;refine aad rfl ?_;simp;refine ai.p 1 9 h ?_;simp;apply hK1;clear hK1 K1;refine aac fun K1 hK1=>?_;refine aad rfl ?_;simp;apply hK1;clear hK1 K1;refine aap (by simp [h0] <;> omega) ?_;refine aac fun K1 hK1=>?_;refine aad rfl ?_;simp;apply hK1;clear hK1 K1;exact aag (κ:=0) (au.o7 (κ:=0) rfl 9 (by simp) (by simp) rfl rfl (by simp) rfl rfl (by decide))
 subst h0;rw [if_neg (not_not_intro rfl)]
 by_cases h1:0≤n∧n<p.nn
 rotate_left
 ·rw [decide_eq_false h1] at hw;rw [if_neg h1];refine aj.aH Tryz.func33 rfl (by rw [Tryz.ntmps33];simp) ?_;rintro⟨_,_,w0,F0,W0,_,bq,β0⟩ rfl rfl rfl;refine aac fun K hK=>?_;refine aad rfl ?_;simp;apply hK;clear hK K;refine aac fun K hK=>?_;refine aac fun K1 hK1=>?_;refine aad rfl ?_;simp;refine ai.p 1 9 h ?_;simp;apply hK1;clear hK1 K1;refine aac fun K1 hK1=>?_;refine aad rfl ?_;simp;apply hK1;clear hK1 K1;refine aat ?_;refine aah ?_;simp;apply hK;clear hK K;refine aac fun K hK=>?_;refine aac fun K1 hK1=>?_;refine aad rfl ?_;simp [fZ];refine ai.p 1 9 hw ?_;simp;apply hK1;clear hK1 K1;refine aaq ?_;refine aac fun K1 hK1=>?_;refine aad rfl ?_;simp;apply hK1;clear hK1 K1;exact aag (κ:=0) (au.o7 (κ:=0) rfl 9 (by simp) (by simp) rfl rfl (by simp) rfl rfl (by decide))
 rw [decide_eq_true h1] at hw;rw [if_pos h1];refine aj.aH Tryz.func33 rfl (by rw [Tryz.ntmps33];simp) ?_;rintro⟨_,_,w0,F0,W0,_,bq,β0⟩ rfl rfl rfl;refine aac fun K hK=>?_;refine aad rfl ?_;simp;apply hK;clear hK K;refine aac fun K hK=>?_;refine aac fun K1 hK1=>?_;refine aad rfl ?_;simp;refine ai.p 1 9 h ?_;simp;apply hK1;clear hK1 K1;refine aac fun K1 hK1=>?_;refine aad rfl ?_;simp;apply hK1;clear hK1 K1;refine aat ?_;refine aah ?_;simp;apply hK;clear hK K;refine aac fun K hK=>?_;refine aac fun K1 hK1=>?_;refine aad rfl ?_;simp [fZ];refine ai.p 1 9 hw ?_;simp;apply hK1;clear hK1 K1;refine aat ?_;refine aah ?_;simp;apply hK;clear hK K;refine aac fun K hK=>?_;refine aad rfl ?_;simp [NU];refine ai.p 1 9 hs ?_;simp;apply hK;clear hK K;exact aag (κ:=0) (au.o7 (κ:=0) rfl 9 (by simp) (by simp) rfl rfl (by simp) rfl rfl (by decide))
set_option maxHeartbeats 2000000 in
theorem LC (G:List (List DV))(a b:Option (List Int))(hab:zL a=zL b)(hl:(zL b).length≤1000):aj Tryz.prog G 21 [.c (zC a),.c (zC b)] (.c (.d (.bool true))):=by
 have la:=fun lv=>S6 (T:=30) (by simp) lv a
 have lb:=fun lv=>S6 (T:=30) (by simp) lv b
 have xa:=fun lv (i:Nat) hi=>XX (T:=30) (by simp) lv a (i:=i) hi
 have xb:=fun lv (i:Nat) hi=>XX (T:=30) (by simp) lv b (i:=i) hi
 simp only [hab] at la xa;have fa:=uX a;have fb:=uX b;have pa:=qI a;have pb:=qI b;generalize zL b=l at *
 generalize zC a=za at *
 generalize zC b=zb at *
 refine aj.aH Tryz.func21 rfl (by rw [Tryz.ntmps21];simp) ?_;rintro⟨_,_,w0,F0,W0,_,bq,β0⟩ rfl rfl rfl;refine aac fun K hK=>?_;refine aad rfl ?_;simp;apply hK;clear hK K;refine aac fun K hK=>?_;refine aac fun K1 hK1=>?_;refine aad rfl ?_;simp [la,lb];apply hK1;clear hK1 K1;refine aat ?_;refine aah ?_;simp;apply hK;clear hK K;refine aac fun K hK=>?_;refine aac fun K1 hK1=>?_;refine aad rfl ?_;simp;apply hK1;clear hK1 K1;refine aak ?_;refine aax (fun (i:Nat)=>⟨bt [(0,.c za),(1,.c zb),(5,.c (.d (.int .i64 (i:Int))))],fun _=>.hole⟩) 0 (fun i=>i≤l.length) (fun i=>l.length - i) 0 (Le.mk' _ rfl aA (by simp [fa,fb])) (Nat.zero_le _) ?_;rintro i hi
 try simp only at hi
 refine aac fun K3 hK3=>aac fun K4 hK4=>?_;refine aad rfl ?_;simp [la];apply hK4;clear hK4 K4
 by_cases hlt:i<l.length
 ·have hlt':(i:Int)<(l.length:Int):=by omega
  have f12:=bK (n:=(i:Int)+1) (by omega) (by omega);have xa1:=fun lv=>xa lv i hlt
  have xb1:=fun lv=>xb lv i hlt
  refine aap (by simp [hlt'] <;> omega) ?_;refine aah ?_;simp;apply hK3;refine aac fun K5 hK5=>?_;refine aak ?_;refine aac fun K6 hK6=>?_;refine aay mixed (by kernel_rfl) rfl ?_;simp [xa1,xb1];refine⟨by kernel_rfl,?_⟩;apply hK6;clear hK6 K6;refine aat ?_;refine aah ?_;simp;apply hK5;refine aad rfl ?_;simp [f12];exact⟨i+1,Le.mk' _ rfl aA (by simp [fa,fb]),by omega,by omega⟩
 ·have hlt':¬ (i:Int)<(l.length:Int):=by omega
  refine aao (by simp [hlt'] <;> omega) ?_;refine aav ?_;simp;apply hK;refine aac fun K5 hK5=>?_;refine aad rfl ?_;simp;apply hK5;clear hK5 K5;exact aag (κ:=0) (au.t (κ:=0) rfl 4 (by simp))
end Go.Am

namespace Go.Am
open Go.Am.Ty Go.Proofs N
theorem Dw {p:PD}(h:kC p=false):p.nn≤100:=by
 unfold kC at h;simp at h;unfold PD.nn;omega
set_option maxHeartbeats 4000000 in
theorem w8 (m:Int)(p:PD)(hp:p.ok)(n:Int)(_hn:IntKind.i64.wrap n=n):aj Tryz.prog (GG m) 8 [p.A,.c (.d (.int .i64 n))] (.c (.d (.bool true))):=by
 have hgr:=Hg (GG m) p hp;have hsh:=Hh m
 cases hgb:kC p with
 | true=>
  rw [hgb] at hgr;refine aj.aH Tryz.func8 rfl (by rw [Tryz.ntmps8];simp) ?_;rintro⟨_,_,w0,F0,W0,_,bq,β0⟩ rfl rfl rfl;refine aac fun K hK=>?_;refine aad rfl ?_;simp;apply hK;clear hK K;refine aac fun K hK=>?_;refine aac fun K1 hK1=>?_;refine aad rfl ?_;simp;refine ai.p 1 9 hgr ?_;simp;apply hK1;clear hK1 K1;refine aaq ?_;refine aac fun K1 hK1=>?_;refine aad rfl ?_;simp;refine ai.p 1 9 hsh ?_;simp;apply hK1;clear hK1 K1;exact aag (κ:=0) (au.t (κ:=0) rfl 4 (by simp))
 | false=>
 have hnn:=Dw hgb;rw [hgb] at hgr;have c1:=AH m p hp;have c2:=sL m p hp;have s1:=yZ m p hp n;have s2:=zq m p hp n;generalize iO p=v at *
 generalize IT p n=w at *
 have hk1:=fun n=>EZ m n
 have hk2:=fun n=>xL (GG m) n
 have hint:=fun n:Nd=>LC (GG m) (kM n) (zN (bF n)) (by rw [tX,Bm]) (by rw [Bm];have:=nR n;omega)
 have pk1:=fun n:Nd=>qI (kM n)
 have pk2:=fun n:Nd=>qI (zN (bF n))
 refine aj.lS Tryz.func8 rfl (by rw [Tryz.ntmps8];simp)  ?_;rintro⟨_,_,w0,F0,W0,_,bq,β0⟩ rfl rfl rfl rfl;refine aac fun K hK=>?_;refine aad rfl ?_;simp;apply hK;clear hK K;refine aac fun K hK=>?_;refine aac fun K1 hK1=>?_;refine aad rfl ?_;simp;refine ai.p 1 9 hgr ?_;simp;apply hK1;clear hK1 K1;refine aat ?_;refine aah ?_;simp;apply hK;clear hK K;refine aac fun K hK=>?_;refine aad rfl ?_;simp;refine ai.p 1 9 c1 ?_;simp;apply hK;clear hK K;refine aac fun K hK=>?_;refine aad rfl ?_;simp;refine ai.p 1 9 c2 ?_;simp;apply hK;clear hK K;refine aac fun K hK=>?_;refine aac fun K1 hK1=>?_;refine aad rfl ?_;simp;apply hK1;clear hK1 K1;refine aat ?_;refine aah ?_;simp;apply hK;clear hK K;refine aac fun K hK=>?_;refine aad rfl ?_;simp;refine ai.p 1 9 s1 ?_;simp;apply hK;clear hK K;refine aac fun K hK=>?_;refine aad rfl ?_;simp;refine ai.p 1 9 s2 ?_;simp;apply hK;clear hK K;refine aac fun K hK=>?_;refine aac fun K1 hK1=>?_;refine aad rfl ?_;simp;apply hK1;clear hK1 K1;refine aat ?_;refine aah ?_;simp;apply hK;clear hK K;refine aac fun K hK=>?_;refine aac fun K1 hK1=>?_;refine aad rfl ?_;simp;apply hK1;clear hK1 K1;refine aak ?_
 refine aax (fun (i:Nat)=>⟨bt [(2,.c (.ptr 0 0)),(13,.c (.d (.int .i64 i)))],aJ (fun _=>.hole) 0 (.cells true false 27 p.cs)⟩) 2
  (fun i=>i≤p.nn) (fun i=>p.nn - i) 0 (Le.mk' _ (by simp) (by repeat (first|exact aA|refine aT ?_ _ _ _ _ _|(refine aC ?_ _)|(refine noMap_blS ?_ _ _ _)|(refine noMap_upd_nils ?_ _)|simp)) (by simp)) (Nat.zero_le _) ?_
 rintro i hi
 try simp only at hi
 refine aac fun K3 hK3=>aac fun K4 hK4=>?_;refine aad rfl ?_;simp [fZ];apply hK4;clear hK4 K4
 by_cases hlt:i<p.nn
 ·have hlt':(i:Int)<(p.nn:Int):=by omega
  have f12:=bK (n:=(i:Int)+1) (by omega) (by omega);have hxn:=fun lv=>Je p lv hp i hlt
  obtain⟨nd,hnd⟩:∃ nd,p.nd i=nd:=⟨_,rfl⟩
  rw [hnd] at hxn;have k1:=hk1 nd;have k2:=hk2 nd;have k3:=hint nd;have p1:=pk1 nd;have p2:=pk2 nd;generalize zC (kM nd)=z1 at *
  generalize zC (zN (bF nd))=z2 at *
  refine aap (by simp [hlt'] <;> omega) ?_;refine aah ?_;simp;apply hK3;refine aac fun K5 hK5=>?_;refine aak ?_;refine aac fun K6 hK6=>?_;refine aay mixed (by kernel_rfl) rfl ?_;simp [hxn];refine ai.pure 3 9 k1 p1 (by simp) (by first|rfl|simp) ?_;simp [hxn];refine ai.pure 3 9 k2 p2 (by simp) (by first|rfl|simp) ?_;simp [hxn];refine ai.pure 3 9 k3 (by simp) (by simp [p1,p2]) (by first|rfl|simp) ?_;simp;refine⟨by kernel_rfl,?_⟩;apply hK6;clear hK6 K6;refine aat ?_;refine aah ?_;simp;apply hK5;refine aad rfl ?_;simp [f12];exact⟨i+1,Le.mk' _ (by simp) (by repeat (first|exact aA|refine aT ?_ _ _ _ _ _|(refine aC ?_ _)|(refine noMap_blS ?_ _ _ _)|(refine noMap_upd_nils ?_ _)|simp)) (by simp),by omega,by omega⟩
 ·have hlt':¬ (i:Int)<(p.nn:Int):=by omega
  refine aao (by simp [hlt'] <;> omega) ?_;refine aav ?_;simp;apply hK;refine aac fun K5 hK5=>?_;refine aad rfl ?_;simp;refine ai.p 3 9 hsh ?_;simp;apply hK5;clear hK5 K5;exact aag (κ:=0) (au.t (κ:=0) (t:=4) rfl 9 (by simp))
end Go.Am
