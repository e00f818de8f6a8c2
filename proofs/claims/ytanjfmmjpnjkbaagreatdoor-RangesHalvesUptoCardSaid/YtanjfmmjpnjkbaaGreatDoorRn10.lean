/- Helpers: an abstract machine for Go functions, and walks of functions of the program. -/
import Derived.Test.YtanjfmmjpnjkbaaGreatDoorRn09
import Derived.ChangeMaps5
import Derived.Deep.DeepHandedRow

set_option linter.all false
set_option maxHeartbeats 8000000
set_option maxRecDepth 100000
namespace Go.Am
open Go.Am.Ty Go.Proofs N
theorem FinD.cd3 {c:Ctx}{fn:Func}{x X Y Z:AV}{t u v k:Nat}{own fz:Bool}{T U:TypeId}{cs:List CV}{s:LSt}{κ:Nat}{ks:List Key}(hr:fn.results=#[.tmp t,.cell u T,.tmp v]) (hx:s.fr t=X) (hu:s.fr u=.c (.ptr k 0)) (hk:s.lv k=.cells own fz U cs)
 (hy:loadA c.P T (cs.drop 0)=some Y) (hz:s.fr v=Z) (hn:X.noTup=true) (hm:Y.noTup=true) (ho:Z.noTup=true) (hd:dRes s.lv (.tup [X,Y,Z])=some (x,ks)):FinD c fn x .ret s κ:=
 ⟨.tup [X,Y,Z],ks,by rw [hr];simp only [resA,resL,resV,hx,hu,hk,hy,hz];simp [hn,hm,ho],hd⟩
theorem loadSl (x:CV):loadA Tryz.prog 48 [x]=some (.c x):=by simp
theorem CallDo.outer {c0:Ctx}{fid:FuncId}{lv:Key→LB}{K:AV→List (Key × LB)→List Key→Nat→Prop}(κ':Nat) {step n M j:Nat}{l:List Iv}{c c':Sq}
 (hc:CallsS c0.P c0.G fid [.c (.func (.func 58) [] [.ptr 4 0,.ptr 5 0]),.c (.ptr 0 0),.c (.ptr 2 0),.c (.ptr 3 0)] (eB6 l j M step n (qK c M)) (.ret (.tup []) (eB6 l j M step n (qK c' M)) []))
 (h0:lv 0=.cells true false 48 [.lsl 20 0 M 3]) (h1:lv 20=.cells true false 27 (qK c M)) (h2:lv 30=.cells true false 3 [.d (.int .i64 (step:Int))]) (h3:lv 41=.cells true false 3 [.d (.int .i64 (n:Int))]) (h4:lv 1=.cells true false 89 [scC (iO l)]) (h5:lv 40=.cells true false 3 [.d (.int .i64 (j:Int))]) (hh:lv 9=.hole)
 (hK:K (.tup []) [(0,.cells true false 48 [.lsl 20 0 M 3]),(20,.cells true false 27 (qK c' M)),(30,.cells true false 3 [.d (.int .i64 (step:Int))]),(41,.cells true false 3 [.d (.int .i64 (n:Int))]),(1,.cells true false 89 [scC (iO l)]),(40,.cells true false 3 [.d (.int .i64 (j:Int))])] [9,0,20,30,41,1,40] κ') :
 CallDo c0 fid [.c (.func (.func 58) [] [.ptr 1 0,.ptr 40 0]),.c (.ptr 0 0),.c (.ptr 30 0),.c (.ptr 41 0)] lv K:=by
 obtain⟨g,hg⟩:∃ g,keyMap [0,20,30,41,1,40] [] 9=g:=⟨_,rfl⟩
 have g0:g 0=0:=by rw [← hg];rfl
 have g1:g 1=20:=by rw [← hg];rfl
 have g2:g 2=30:=by rw [← hg];rfl
 have g3:g 3=41:=by rw [← hg];rfl
 have g4:g 4=1:=by rw [← hg];rfl
 have g5:g 5=40:=by rw [← hg];rfl
 have er:∀ n,rdK lv n (scC (iO l))=[]:=fun n=>by cases n <;> cases iO l <;> rfl
 refine CallDo.passM κ' 9 true [0,20,30,41,1,40] [] _ _ _ (us:=[.c (.func (.func 58) [] [.ptr 4 0,.ptr 5 0]),.c (.ptr 0 0),.c (.ptr 2 0),.c (.ptr 3 0)]) [9,0,20,30,41,1,40] hc (by simp) (by simp) rfl rfl rfl (by simp) ?_ (by simp) hh ?_ ?_ ?_ rfl ?_ ?_ (by simp) ?_
 ·rw [hg]
  intro i q1 q2
  match i,q1,q2 with
  | 0,_,_=>
   show (lv 0).like _ _
   rw [h0]
   exact LB.like_cells.2 ⟨rfl,rfl,by show _=[CV.lsl (g 1) 0 M 3];rw [g1],fun h=>by cases h⟩
  | 1,_,_=>
   show (lv 20).like _ _
   rw [h1]
   exact LB.like_cells.2 ⟨rfl,rfl,(qK_ren c M g).symm,fun h=>by cases h⟩
  | 2,_,_=>
   show (lv 30).like _ _
   rw [h2]
   exact LB.like_cells.2 ⟨rfl,rfl,rfl,fun h=>by cases h⟩
  | 3,_,_=>
   show (lv 41).like _ _
   rw [h3]
   exact LB.like_cells.2 ⟨rfl,rfl,rfl,fun h=>by cases h⟩
  | 4,_,_=>
   show (lv 1).like _ _
   rw [h4]
   exact LB.like_cells.2 ⟨rfl,rfl,by simp,fun h=>by cases h⟩
  | 5,_,_=>
   show (lv 40).like _ _
   rw [h5]
   exact LB.like_cells.2 ⟨rfl,rfl,rfl,fun h=>by cases h⟩
 ·intro b hb
  simp only [List.mem_cons,List.not_mem_nil,or_false] at hb
  rcases hb with rfl|rfl|rfl|rfl|rfl|rfl <;> rfl
 ·intro b hb
  simp only [List.cons_append,List.nil_append,List.append_nil,List.mem_cons,List.not_mem_nil,or_false] at hb
  rcases hb with rfl|rfl|rfl|rfl|rfl|rfl|rfl|rfl|rfl|rfl|rfl|rfl <;> exact fun h=>by cases h
 ·intro _ k hk
  simp only [List.mem_cons,List.not_mem_nil,or_false] at hk
  rcases hk with rfl|rfl|rfl|rfl|rfl|rfl
  ·rw [h0];rfl
  ·rw [h1];rfl
  ·rw [h2];rfl
  ·rw [h3];rfl
  ·rw [h4];rfl
  ·rw [h5];rfl
 ·rw [hg]
  intro i q1 q2
  match i,q1,q2 with
  | 0,_,_=>exact⟨rfl,by show _=AV.c (.func (.func 58) [] [.ptr (g 4) 0,.ptr (g 5) 0]);rw [g4,g5];rfl⟩
  | 1,_,_=>exact⟨rfl,by show _=AV.c (.ptr (g 0) 0);rw [g0];rfl⟩
  | 2,_,_=>exact⟨rfl,by show _=AV.c (.ptr (g 2) 0);rw [g2];rfl⟩
  | 3,_,_=>exact⟨rfl,by show _=AV.c (.ptr (g 3) 0);rw [g3];rfl⟩
 ·intro a ha k hk
  simp only [List.mem_cons,List.not_mem_nil,or_false] at ha
  rcases ha with rfl|rfl|rfl|rfl
  ·have hk:k∈rdK lv 8 (.func (.func 58) [] [.ptr 1 0,.ptr 40 0]):=hk
   cases hk
  ·have hk:k∈rdK lv 8 (.ptr 0 0):=hk
   simp only [rdK,h0,h1,List.flatMap_cons,List.flatMap_nil,rdK_qc,List.append_nil,List.mem_cons,List.not_mem_nil,or_false] at hk
   rcases hk with rfl|rfl <;> simp
  ·have hk:k∈rdK lv 8 (.ptr 30 0):=hk
   simp only [rdK,h2,List.flatMap_cons,List.flatMap_nil,List.append_nil,List.mem_cons,List.not_mem_nil,or_false] at hk
   subst hk;simp
  ·have hk:k∈rdK lv 8 (.ptr 41 0):=hk
   simp only [rdK,h3,List.flatMap_cons,List.flatMap_nil,List.append_nil,List.mem_cons,List.not_mem_nil,or_false] at hk
   subst hk;simp
 ·rw [hg]
  have e:backW g true [0,20,30,41,1,40] (eB6 l j M step n (qK c' M))++backW g true [] []=[(0,.cells true false 48 [.lsl 20 0 M 3]),(20,.cells true false 27 (qK c' M)),(30,.cells true false 3 [.d (.int .i64 (step:Int))]),(41,.cells true false 3 [.d (.int .i64 (n:Int))]),(1,.cells true false 89 [scC (iO l)]),(40,.cells true false 3 [.d (.int .i64 (j:Int))])]:=by
   simp [backW,LB.fix,g1,qK_ren]
  rw [e]
  exact hK
theorem two_pow {t K:Nat}(h:2 ^ t≤K) (hK:K≤600):t≤9:=by
 refine Nat.le_of_lt_succ ((Nat.pow_lt_pow_iff_right (by decide:1<2)).1 (Nat.lt_of_le_of_lt (Nat.le_trans h hK) (by decide)))
theorem coefs_d (m:Int)(z:Ev)(ts:List Trm)(is:List Iv)(N M:Nat)(c0:Sq){R:AV}(hil:is.length=N) (hiz:∀ a∈is,a.z) (hN:N≤1048576) (hM:M=sizN (dgL ts N)) (h600:M≤600) (hdg:∀ j,dgX ts j≤16) (hb0:Bnd 0 c0)
 (hR:R=.tup [intsA (dgX ts) N,numsA ((List.range M).map (brn (axL ts is) c0)),.c (.d (.int .i64 0))]) :
 AW (⟨Tryz.prog,GG m,z.w,z.F,z.W,Tryz.f20.ntmps,fun _=>.hole,z.b,z.d⟩:Ctx) none (cW [1,1,1,1,1,1,1,1,1,1] Tryz.f20)
  ⟨frOf [(4,.c (.lsl 2 0 N 1)),(5,.c (.ptr 0 0)),(7,.c (.ptr 1 0)),(12,.c (.d (.int .i64 M)))],
   upd (upd (upd (upd (fun _=>.hole) 0 (.cells true false 48 [.lsl 20 0 M 3])) 1 (.cells true false 89 [scC (iO is)])) 2 (.cells true false 3 (jK (dgX ts) N))) 20 (.cells true false 27 (qK c0 M))⟩ 30
  (FinD (⟨Tryz.prog,GG m,z.w,z.F,z.W,Tryz.f20.ntmps,fun _=>.hole,z.b,z.d⟩:Ctx) Tryz.f20 R):=by
 conv=>
  enter [3]
  whnf
 subst hR
 have hlen:=dgL_len ts N
 have hd0:sizN ((dgL ts N).drop 0)=M:=hM.symm
 refine AW.f1 @setSeg.eq_1 ?_
 refine AW.seqK fun K hK=>AW.seqK fun K1 hK1=>AW.rP ?_
 simp
 repeat refine and_o ?_
 apply hK1
 refine AW.block ?_
 refine AW.loopV (fun (d:Nat × Sq)=>⟨frOf [(4,.c (.lsl 2 0 N 1)),(5,.c (.ptr 0 0)),(7,.c (.ptr 1 0)),(22,.c (.ptr 30 0)),(124,.c (.lsl 2 0 N 1)),(125,.c (.d (.int .i64 N))),(126,.c (.d (.int .i64 d.1)))],
  upd (upd (upd (upd (upd (fun _=>.hole) 0 (.cells true false 48 [.lsl 20 0 M 3])) 1 (.cells true false 89 [scC (iO is)])) 2 (.cells true false 3 (jK (dgX ts) N))) 20 (.cells true false 27 (qK d.2 M))) 30 (.cells true false 3 [.d (.int .i64 (sizN ((dgL ts N).drop d.1):Int))])⟩) 40
  (fun d=>d.1≤N∧brn ((axL ts is).drop d.1) d.2=brn (axL ts is) c0∧∃ t,Bnd t d.2∧2 ^ t≤sizN ((dgL ts N).take d.1)) (fun d=>N - d.1) (0,c0) (Le.mk2 _ (by rw [hd0])) ⟨Nat.zero_le _,rfl,0,hb0,by simp [sizN]⟩ ?_
 rintro⟨j,c⟩ ⟨hj,hbr,t,hbd,ht⟩
 try simp only at hj hbr hbd ht ⊢
 refine AW.q ?_
 refine AW.seqK fun K2 hK2=>?_
 by_cases hlt:j<N
 ·have hlt':(j:Int)<(N:Int):=by omega
  have hjl:j<(dgL ts N).length:=by rw [hlen];exact hlt
  have hji:j<is.length:=by omega
  have hja:j<(axL ts is).length:=by rw [axL_len];exact hji
  have s1:sizN ((dgL ts N).drop j)=(dgX ts j+1)*sizN ((dgL ts N).drop (j+1)):=by rw [List.drop_eq_getElem_cons hjl,dgL_get];rfl
  have s2:=sizN_take hjl
  have s3:sizN ((dgL ts N).take j)*sizN ((dgL ts N).drop j)=M:=by rw [← sizN_app,List.take_append_drop,hM]
  have s4:sizA ((axL ts is).drop (j+1))=sizN ((dgL ts N).drop (j+1)):=by rw [sizA_N,List.map_drop,axL_n,hil]
  rw [dgL_get] at s2
  rw [List.drop_eq_getElem_cons hja,axL_get] at hbr
  have hza:=hiz _ (List.getElem_mem hji)
  have hnd:=hdg j
  have ht9:=two_pow (Nat.le_trans ht (sizN_take_le _ _)) (by rw [← hM];exact h600)
  have x2:=ldJ' (f:=dgX ts) hlt
  obtain⟨a,ha⟩:∃ a,is[j]=a:=⟨_,rfl⟩
  obtain⟨n,hn⟩:∃ n,dgX ts j=n:=⟨_,rfl⟩
  obtain⟨st,hst⟩:∃ st,sizN ((dgL ts N).drop (j+1))=st:=⟨_,rfl⟩
  obtain⟨S,hS⟩:∃ S,sizN ((dgL ts N).drop j)=S:=⟨_,rfl⟩
  have hst0:0<st:=by rw [← hst];exact sizN_pos _
  rw [hS,hst,hn] at s1
  rw [hS] at s3
  rw [hst] at s4
  rw [hn] at s2 hnd
  simp only [ha,hn] at hbr hza
  have hbr2:brn ((axL ts is).drop (j+1)) (tr n st (cnv n a.1 (a.2 - a.1)) c)=brn (axL ts is) c0:=by rw [← hbr,← s4];rfl
  have hbd2:=hbd.step (s:=st) hnd hza.1 (Iv.z_sub hza)
  have ht2:2 ^ (if n=0 then t else t+1)≤sizN ((dgL ts N).take (j+1)):=by
   rw [s2]
   split
   ·exact Nat.le_trans ht (Nat.le_mul_of_pos_right _ (by omega))
   ·rw [Nat.pow_succ];exact Nat.mul_le_mul ht (by omega)
  have hSM:S≤M:=by rw [← s3];exact Nat.le_mul_of_pos_left _ (sizN_pos _)
  have hstS:st≤S:=by rw [s1];exact Nat.le_mul_of_pos_left _ (by omega)
  have cc:=coefs1_ok m is j a c M st n hji ha hza hst0 (by omega) (by omega) ⟨_,by rw [← s1];exact s3.symm⟩ (L:=10000000) (by omega) (by omega) (by omega) (fun A hA=>hbd.line ht9 hnd hza.1 (Iv.z_sub hza) A hA)
  have fn:=w64 (n:=(n:Int)+1) (by omega) (by omega)
  have fq:(S:Int).tdiv ((n:Int)+1)=(st:Int):=by
   rw [s1]
   show ((((n+1)*st:Nat):Int)).tdiv ((n+1:Nat):Int)=(st:Int)
   rw [← Int.ofNat_tdiv,Nat.mul_div_cancel_left _ (by omega)]
  have fw:=w64 (n:=(st:Int)) (by omega) (by omega)
  have f126:=w64 (n:=(j:Int)+1) (by omega) (by omega)
  obtain⟨lv,hlv⟩:∃ lv,upd (upd (upd (upd (upd (fun _=>LB.hole) 0 (.cells true false 48 [.lsl 20 0 M 3])) 1 (.cells true false 89 [scC (iO is)])) 2 (.cells true false 3 (jK (dgX ts) N))) 20 (.cells true false 27 (qK c M))) 30 (.cells true false 3 [.d (.int .i64 (S:Int))])=lv:=⟨_,rfl⟩
  have q2:lv 2=.cells true false 3 (jK (dgX ts) N):=by rw [← hlv];rfl
  have q30:lv 30=.cells true false 3 [.d (.int .i64 (S:Int))]:=by rw [← hlv];rfl
  have q40:lv 40=.hole:=by rw [← hlv];rfl
  have q41:lv 41=.hole:=by rw [← hlv];rfl
  have x1:=ixJ (n:=N) (i:=j) q2
  rw [eq_true hlt] at x1
  rw [hn] at x2
  rw [hS,hlv]
  refine AW.fy (by simp [hlt'] <;> omega) (AW.skip ?_)
  simp
  repeat refine and_o ?_
  apply hK2
  refine AW.seqK fun K5 hK5=>AW.block (AW.seqK fun K6 hK6=>AW.rP ?_)
  simp [x1,x2,q2,q40,q41,setSeg]
  repeat refine and_o ?_
  apply hK6
  rw [← hlv]
  refine AW.seqK fun K6 hK6=>AW.rP ?_
  simp [fn,fq,fw,setSeg]
  repeat refine and_o ?_
  apply hK6
  refine AW.seqK fun K6 hK6=>AW.rP ?_
  simp [mkfA,refL,refA,funA,deepRefs]
  repeat refine and_o ?_
  apply hK6
  refine AW.rP ?_
  simp [mkfA,refL,refA,funA,deepRefs]
  refine⟨by simp,?_⟩
  show CallDo _ 57 [.c (.func (.func 58) [] [.ptr 1 0,.ptr 40 0]),.c (.ptr 0 0),.c (.ptr 30 0),.c (.ptr 41 0)] _ _
  refine CallDo.outer 60 cc ?_ ?_ ?_ ?_ ?_ ?_ ?_ ?_
  ·rfl
  ·rfl
  ·rfl
  ·rfl
  ·rfl
  ·rfl
  ·rfl
  simp
  repeat refine and_o ?_
  apply hK5
  refine AW.rP ?_
  simp [f126]
  exact⟨j+1,tr n st (cnv n a.1 (a.2 - a.1)) c,Le.keys [(0,0,.cells true false 48 [.lsl 20 0 M 3]),(1,1,.cells true false 89 [scC (iO is)]),(2,2,.cells true false 3 (jK (dgX ts) N)),(20,20,.cells true false 27 (qK (tr n st (cnv n a.1 (a.2 - a.1)) c) M)),(30,30,.cells true false 3 [.d (.int .i64 (st:Int))])] 9 _ (by rw [hst];rfl) rfl (by simp) (by simp) rfl (by
   intro e he
   simp only [List.mem_cons,List.not_mem_nil,or_false] at he
   rcases he with rfl|rfl|rfl|rfl|rfl
   ·exact LB.like_cells.2 ⟨rfl,rfl,rfl,id⟩
   ·exact LB.like_cells.2 ⟨rfl,rfl,by simp,id⟩
   ·exact LB.like_cells.2 ⟨rfl,rfl,(jK_ren _ _ _).symm,id⟩
   ·exact LB.like_cells.2 ⟨rfl,rfl,(qK_ren _ _ _).symm,id⟩
   ·exact LB.like_cells.2 ⟨rfl,rfl,rfl,id⟩) (by simp [kmap]),⟨by omega,hbr2,_,hbd2,ht2⟩,by omega⟩
 have hje:j=N:=by omega
 have hnil:(axL ts is).drop j=[]:=List.drop_eq_nil_of_le (by rw [axL_len];omega)
 rw [hnil] at hbr
 have hbr:c=brn (axL ts is) c0:=hbr
 subst hbr
 refine AW.fn (by simp [hlt] <;> omega) (AW.exit ?_)
 simp
 repeat refine and_o ?_
 apply hK
 refine AW.seqK fun K hK=>?_
 refine AW.drawP mixed (by kernel_rfl) rfl ?_
 simp [setSeg]
 refine⟨by kernel_rfl,?_⟩
 repeat refine and_o ?_
 apply hK
 refine AW.ret (κ:=0) (FinD.cd3 (κ:=0) (k:=0) (own:=true) (fz:=false) (U:=48) (cs:=[.lsl 20 0 M 3]) (X:=.c (.lsl 2 0 N 1)) (Y:=.c (.lsl 20 0 M 3)) (Z:=.c (.d (.int .i64 0))) (ks:=[2]++[20]) rfl (by simp) (by simp) (by simp) (loadSl _) (by simp) rfl rfl rfl ?_)
 exact (fun (lv:Key→LB) (h2:lv 2=.cells true false 3 (jK (dgX ts) N)) (h20:lv 20=.cells true false 27 (qK (brn (axL ts is) c0) M))=>dRes3 (lv:=lv) (e:=0) (dRes_jK h2 (by omega)) (dRes_qK h20 (by omega))) _ rfl rfl
theorem dRes_e3 (lv:Key→LB)(e:Int):dRes lv (.tup [.c (.d .nilsl),.c (.d .nilsl),.c (.d (.int .i64 e))])=some (.tup [.c (.d .nilsl),.c (.d .nilsl),.c (.d (.int .i64 e))],[]):=rfl
theorem qK_zero (M:Nat):repl M [CV.d (.bool false),CV.d .nilsl,CV.d .nilsl]=qK (fun _=>0) M:=by
 have h:∀ M,repl M [CV.d (.bool false),CV.d .nilsl,CV.d .nilsl]++[CV.d (.bool false),CV.d .nilsl,CV.d .nilsl]=[CV.d (.bool false),CV.d .nilsl,CV.d .nilsl]++repl M [CV.d (.bool false),CV.d .nilsl,CV.d .nilsl]:=by
  intro M
  induction M with
  | zero=>rfl
  | succ M ih=>
   show ([CV.d (.bool false),CV.d .nilsl,CV.d .nilsl]++repl M _)++_=_++([CV.d (.bool false),CV.d .nilsl,CV.d .nilsl]++repl M _)
   rw [List.append_assoc,ih]
 induction M with
 | zero=>rfl
 | succ M ih=>
  show [CV.d (.bool false),CV.d .nilsl,CV.d .nilsl]++repl M _=qK _ M++_
  rw [← h,ih];rfl
def cfS (l:List Tm)(N i:Nat):Sq:=trm (fun _=>0) ((l.take i).map tmT) (plN (dgL (l.map tmT) N))
theorem cfS_zero (l:List Tm)(N:Nat):cfS l N 0=fun _=>0:=rfl
theorem cfS_all (l:List Tm)(N:Nat):cfS l N l.length=cfP (l.map tmT) N:=by unfold cfS;rw [List.take_length];rfl
theorem cfS_succ {l:List Tm}{i:Nat}(N:Nat) (h:i<l.length):cfS l N (i+1)=fun p=>if p=plN (dgL (l.map tmT) N) (tmT l[i]).2 then cfS l N i p+(tmT l[i]).1 else cfS l N i p:=by
 unfold cfS;rw [take_tmT h,trm_snoc]
theorem coefs_c (m:Int)(z:Ev)(bt:Option (List Tm))(is:List Iv)(N:Nat){R:AV}(hil:is.length=N) (hiz:∀ a∈is,a.z) (hN:N≤1048576) (h200:(tmL bt).length≤200) (hok:∀ t∈tmL bt,TmOK N t)
 (hR1:600<cfM ((tmL bt).map tmT) N→R=.tup [.c (.d .nilsl),.c (.d .nilsl),.c (.d (.int .i64 3))])
 (hR2:¬ 600<cfM ((tmL bt).map tmT) N→R=.tup [intsA (dgX ((tmL bt).map tmT)) N,numsA (cfL ((tmL bt).map tmT) is),.c (.d (.int .i64 0))]) :
 AW (⟨Tryz.prog,GG m,z.w,z.F,z.W,Tryz.f20.ntmps,fun _=>.hole,z.b,z.d⟩:Ctx) none (cW [1,1,1,1,1,1] Tryz.f20)
  ⟨frOf [(0,.c (scC (tmO bt))),(4,.c (.lsl 2 0 N 1)),(5,.c (.ptr 0 0)),(7,.c (.ptr 1 0))],
   upd (upd (upd (fun _=>.hole) 0 (.cells true false 48 [.d .nilsl])) 1 (.cells true false 89 [scC (iO is)])) 2 (.cells true false 3 (jK (dgX ((tmL bt).map tmT)) N))⟩ 20
  (FinD (⟨Tryz.prog,GG m,z.w,z.F,z.W,Tryz.f20.ntmps,fun _=>.hole,z.b,z.d⟩:Ctx) Tryz.f20 R):=by
 conv=>
  enter [3]
  whnf
 have hlp:=fun lv=>lpTm lv bt
 have hix:=fun lv {i:Nat}(hi:i<(tmL bt).length)=>ixTm lv bt hi
 have hcs:=fun {i:Nat}(hi:i<(tmL bt).length)=>cfS_succ (l:=tmL bt) N hi
 have hca:=cfS_all (tmL bt) N
 have hcz:=cfS_zero (tmL bt) N
 have hcB:∀ i,Bnd 0 (cfS (tmL bt) N i):=fun i=>Bnd.start (by rw [List.length_map,List.length_take];omega) (fun t ht=>by
  obtain⟨u,_,rfl⟩:=List.mem_map.1 ht
  exact ratP_sz u.1) _
 have hfit:∀ t∈tmL bt,fitN (dgL ((tmL bt).map tmT) N) (tmT t).2:=fun t ht=>dgL_fit (List.mem_map.2 ⟨t,ht,rfl⟩) (by show ((pwL t.2).map Int.toNat).length=N;rw [List.length_map];exact (hok t ht).len)
 have hdg:∀ j,dgX ((tmL bt).map tmT) j≤16:=fun j=>dgX_le (fun t ht j=>by
  obtain⟨u,hu,rfl⟩:=List.mem_map.1 ht
  have hs:=(hok u hu).sum
  generalize (tmT u).2=ks at *
  have key:∀ (ks:List Nat) (j:Nat),ks.getD j 0≤ks.sum:=by
   intro ks
   induction ks with
   | nil=>intro j;simp
   | cons k ks ih=>
    intro j
    cases j with
    | zero=>simp
    | succ j=>have:=ih j;simp only [List.getD_cons_succ,List.sum_cons];omega
  exact Nat.le_trans (key ks j) hs) j
 obtain⟨l,hl⟩:∃ l,tmL bt=l:=⟨_,rfl⟩
 simp only [hl] at *
 obtain⟨ts,hts⟩:∃ ts,l.map tmT=ts:=⟨_,rfl⟩
 simp only [hts] at *
 have hlen:=dgL_len ts N
 refine AW.q ?_
 refine AW.seqK fun K hK=>AW.q ?_
 refine AW.block ?_
 refine AW.loopV (fun (q:Nat)=>⟨frOf [(0,.c (scC (tmO bt))),(4,.c (.lsl 2 0 N 1)),(5,.c (.ptr 0 0)),(7,.c (.ptr 1 0)),(12,.c (.d (.int .i64 (sizN ((dgL ts N).take q):Int)))),(68,.c (.lsl 2 0 N 1)),(69,.c (.d (.int .i64 N))),(70,.c (.d (.int .i64 q)))],
  upd (upd (upd (fun _=>.hole) 0 (.cells true false 48 [.d .nilsl])) 1 (.cells true false 89 [scC (iO is)])) 2 (.cells true false 3 (jK (dgX ts) N))⟩) 20
  (fun q=>q≤N∧sizN ((dgL ts N).take q)≤600) (fun q=>N - q) 0 (Le.mk2 _ rfl (by simp [sizN])) ⟨Nat.zero_le _,by simp [sizN]⟩ ?_
 rintro q ⟨hq,hP⟩
 try simp only at hq hP ⊢
 refine AW.q ?_
 refine AW.seqK fun K2 hK2=>?_
 by_cases hlt:q<N
 ·have hlt':(q:Int)<(N:Int):=by omega
  have hql:q<(dgL ts N).length:=by rw [hlen];exact hlt
  have s2:=sizN_take hql
  rw [dgL_get] at s2
  have hle:=sizN_take_le (dgL ts N) (q+1)
  have hnd:=hdg q
  have x2:=ldJ' (f:=dgX ts) hlt
  obtain⟨n,hn⟩:∃ n,dgX ts q=n:=⟨_,rfl⟩
  obtain⟨P,hPe⟩:∃ P,sizN ((dgL ts N).take q)=P:=⟨_,rfl⟩
  obtain⟨P2,hP2⟩:∃ P,sizN ((dgL ts N).take (q+1))=P:=⟨_,rfl⟩
  rw [hn] at s2 hnd x2
  rw [hPe] at s2 hP
  rw [hP2] at s2 hle
  rw [hPe]
  have fn:=w64 (n:=(n:Int)+1) (by omega) (by omega)
  have hPb:P2≤600*17:=by rw [s2];exact Nat.mul_le_mul hP (by omega)
  have fP:IntKind.i64.wrap ((P:Int)*((n:Int)+1))=(P2:Int):=by
   have e:(P:Int)*((n:Int)+1)=(P2:Int):=by rw [s2];simp
   rw [e];exact w64 (by omega) (by omega)
  have f70:=w64 (n:=(q:Int)+1) (by omega) (by omega)
  refine AW.fy (by simp [hlt'] <;> omega) (AW.skip (hK2 _ _ (AW.seqK fun K5 hK5=>AW.block (AW.f1 x2 ?_))))
  refine AW.f2 fn fP ?_
  refine AW.q ?_
  by_cases h6:600<P2
  ·have h6':(600:Int)<(P2:Int):=by omega
   have hRe:=hR1 (Nat.lt_of_lt_of_le h6 hle)
   subst hRe
   refine AW.fy (by simp [h6] <;> omega) (AW.f1 @setSeg.eq_1 ?_)
   exact AW.ret (κ:=0) (FinD.cd3 (κ:=0) (k:=0) (own:=true) (fz:=false) (U:=48) (cs:=[.d .nilsl]) rfl (by simp) (by simp) (by simp) (loadSl _) (by simp) rfl rfl rfl (dRes_e3 _ _))
  ·refine AW.fn (by simp [h6] <;> omega) (AW.skip (hK5 _ _ (AW.rP ?_)))
   simp [f70]
   exact⟨q+1,Le.mk2 _ rfl (by simp [hP2]),⟨by omega,by omega⟩,by omega⟩
 ·have hqe:q=N:=by omega
  have hM0:sizN ((dgL ts N).take q)=cfM ts N:=by rw [hqe,List.take_of_length_le (by rw [hlen];exact Nat.le_refl _)];rfl
  rw [hM0] at hP ⊢
  have hRe:=hR2 (by omega)
  subst hRe
  obtain⟨M,hM⟩:∃ M,cfM ts N=M:=⟨_,rfl⟩
  rw [hM] at hP ⊢
  refine AW.fn (by simp [hlt] <;> omega) (AW.exit ?_)
  simp
  repeat refine and_o ?_
  apply hK
  refine AW.seqK fun K hK=>AW.l1 @setSeg.eq_1 (hK _ _ ?_)
  rw [qK_zero,← hcz]
  refine AW.seqK fun K hK=>AW.f1 hlp ?_
  refine AW.block ?_
  refine AW.loopV (fun (i:Nat)=>⟨frOf [(4,.c (.lsl 2 0 N 1)),(5,.c (.ptr 0 0)),(7,.c (.ptr 1 0)),(12,.c (.d (.int .i64 M))),(83,.c (scC (tmO bt))),(84,.c (.d (.int .i64 l.length))),(85,.c (.d (.int .i64 i)))],
   upd (upd (upd (upd (fun _=>.hole) 0 (.cells true false 48 [.lsl 20 0 M 3])) 1 (.cells true false 89 [scC (iO is)])) 2 (.cells true false 3 (jK (dgX ts) N))) 20 (.cells true false 27 (qK (cfS l N i) M))⟩) 30
   (fun i=>i≤l.length) (fun i=>l.length - i) 0 (Le.keys [(0,0,.cells true false 48 [.lsl 20 0 M 3]),(1,1,.cells true false 89 [scC (iO is)]),(2,2,.cells true false 3 (jK (dgX ts) N)),(20,20,.cells true false 27 (qK (cfS l N 0) M))] 9 _ rfl rfl (by simp) (by simp) rfl (by
    intro e he
    simp only [List.mem_cons,List.not_mem_nil,or_false] at he
    rcases he with rfl|rfl|rfl|rfl
    ·exact LB.like_cells.2 ⟨rfl,rfl,rfl,id⟩
    ·exact LB.like_cells.2 ⟨rfl,rfl,by simp,id⟩
    ·exact LB.like_cells.2 ⟨rfl,rfl,(jK_ren _ _ _).symm,id⟩
    ·exact LB.like_cells.2 ⟨rfl,rfl,(qK_ren _ _ _).symm,id⟩) (by simp [kmap])) (Nat.zero_le _) ?_
  rintro i hi
  try simp only at hi ⊢
  refine AW.q ?_
  refine AW.seqK fun K2 hK2=>?_
  by_cases hil2:i<l.length
  ·have hil':(i:Int)<(l.length:Int):=by omega
   have hx:=fun lv=>hix lv hil2
   have f85:=w64 (n:=(i:Int)+1) (by omega) (by omega)
   have hto:=hok _ (List.getElem_mem hil2)
   have hft:=hfit _ (List.getElem_mem hil2)
   have hnx:=hcs hil2
   have hB:=hcB i
   generalize l[i]=t at *
   have hlen2:=hto.len
   have hpos:=hto.pos
   have hip:=fun lv {j:Nat}(hj:j<(pwL t.2).length)=>ixPw lv t.2 hj
   have hlp2:=fun lv=>lpPw lv t.2
   have e1:(tmT t).1=ratP t.1:=rfl
   have e2:(tmT t).2=(pwL t.2).map Int.toNat:=rfl
   rw [e1,e2] at hnx
   rw [e2] at hft
   have cp:=rat_Parse m t.1
   rw [hto.e] at cp
   have hcz0:=ratP_sz t.1
   have hplt:=plN_lt hft
   have hMe:sizN (dgL ts N)=M:=hM
   rw [hMe] at hplt
   have hfl:=fitN_len hft
   have hh0:=hpl_eq 0 (dgL ts N) ((pwL t.2).map Int.toNat) hfl
   rw [Nat.zero_mul,Nat.zero_add] at hh0
   obtain⟨p,hp⟩:∃ p,plN (dgL ts N) ((pwL t.2).map Int.toNat)=p:=⟨_,rfl⟩
   rw [hp] at hnx hplt hh0
   generalize cfS l N i=c at *
   refine AW.fy (by simp [hil'] <;> omega) (AW.skip (hK2 _ _ (AW.seqK fun K5 hK5=>AW.block (AW.sr fun K6 hK6=>?_))))
   simp [hx,tmD]
   repeat refine and_o ?_
   apply hK6
   refine AW.q ?_
   refine AW.seqK fun K6 hK6=>AW.f2 @setSeg.eq_1 hlp2 ?_
   generalize pwL t.2=pl at *
   refine AW.block ?_
   refine AW.loopV (fun (d:Nat × Nat)=>⟨frOf [(4,.c (.lsl 2 0 N 1)),(5,.c (.ptr 0 0)),(7,.c (.ptr 1 0)),(12,.c (.d (.int .i64 M))),(83,.c (scC (tmO bt))),(84,.c (.d (.int .i64 l.length))),(85,.c (.d (.int .i64 i))),(16,.c (.ptr 30 0)),(17,.c (.d (.int .i64 d.2))),(90,.c (.d (pwD t.2))),(91,.c (.d (.int .i64 pl.length))),(92,.c (.d (.int .i64 d.1)))],
    upd (upd (upd (upd (upd (fun _=>.hole) 0 (.cells true false 48 [.lsl 20 0 M 3])) 1 (.cells true false 89 [scC (iO is)])) 2 (.cells true false 3 (jK (dgX ts) N))) 20 (.cells true false 27 (qK c M))) 30 (.cells true false 98 [.d (.str t.1),.d (pwD t.2)])⟩) 40
    (fun d=>d.1≤pl.length∧hpl d.2 ((dgL ts N).drop d.1) ((pl.map Int.toNat).drop d.1)=p) (fun d=>pl.length - d.1) (0,0) (Le.mk2 _ (by simp [setSeg])) ⟨Nat.zero_le _,hh0⟩ ?_
   rintro⟨q,at'⟩ ⟨hq,hE⟩
   try simp only at hq hE ⊢
   refine AW.q ?_
   refine AW.seqK fun K10 hK10=>?_
   have hge:=hpl_ge at' ((dgL ts N).drop q) ((pl.map Int.toNat).drop q) (by rw [List.length_drop,List.length_drop,hlen,List.length_map,hlen2])
   rw [hE] at hge
   by_cases hql:q<pl.length
   ·have hql':(q:Int)<(pl.length:Int):=by omega
    have hxp:=fun lv=>hip lv hql
    have f92:=w64 (n:=(q:Int)+1) (by omega) (by omega)
    have hk0:=hpos _ (List.getElem_mem hql)
    have hqN:q<N:=by omega
    have hqd:q<(dgL ts N).length:=by rw [hlen];exact hqN
    have hql2:q<(pl.map Int.toNat).length:=by rw [List.length_map];exact hql
    have x2:=ldJ' (f:=dgX ts) hqN
    rw [List.drop_eq_getElem_cons hqd,List.drop_eq_getElem_cons hql2,List.getElem_map,dgL_get] at hE
    have hnd:=hdg q
    have hE:hpl (at' * (dgX ts q+1)+pl[q].toNat) ((dgL ts N).drop (q+1)) ((pl.map Int.toNat).drop (q+1))=p:=hE
    have hge2:=hpl_ge (at' * (dgX ts q+1)+pl[q].toNat) ((dgL ts N).drop (q+1)) ((pl.map Int.toNat).drop (q+1)) (by rw [List.length_drop,List.length_drop,hlen,List.length_map,hlen2])
    rw [hE] at hge2
    generalize pl[q]=k at *
    obtain⟨k,rfl⟩:∃ n:Nat,k=n:=⟨k.toNat,by omega⟩
    rw [Int.toNat_natCast] at hE hge2
    obtain⟨n,hn⟩:∃ n,dgX ts q=n:=⟨_,rfl⟩
    rw [hn] at hE hge2 hnd x2
    obtain⟨v,hv⟩:∃ v,at' * (n+1)=v:=⟨_,rfl⟩
    obtain⟨v2,hv2⟩:∃ v2,v+k=v2:=⟨_,rfl⟩
    rw [hv,hv2] at hE hge2
    have fn:=w64 (n:=(n:Int)+1) (by omega) (by omega)
    have fv:IntKind.i64.wrap ((at':Int)*((n:Int)+1))=(v:Int):=by
     have e:(at':Int)*((n:Int)+1)=(v:Int):=by rw [← hv];simp
     rw [e];exact w64 (by omega) (by omega)
    have fv2:IntKind.i64.wrap ((v:Int)+(k:Int))=(v2:Int):=by rw [w64 (by omega) (by omega)];omega
    refine AW.fy (by simp [hql'] <;> omega) (AW.skip (hK10 _ _ (AW.seqK fun K11 hK11=>AW.block (AW.f1 hxp ?_))))
    refine AW.l4 x2 fn fv fv2 (hK11 _ _ ?_)
    refine AW.rP ?_
    simp [f92]
    exact⟨q+1,v2,Le.mk2 _,⟨by omega,hE⟩,by omega⟩
   ·have hn1:(pl.map Int.toNat).drop q=[]:=List.drop_eq_nil_of_le (by rw [List.length_map];omega)
    rw [hn1] at hE
    have hE:at'=p:=by
     rw [← hE]
     cases (dgL ts N).drop q <;> rfl
    subst hE
    have hB1:=hB.sz (by omega) at'
    have ca:=rat_Add (GG m) (c at') (ratP t.1) (szR_mono hB1 (by omega)) (szR_mono hcz0 (by omega))
    refine AW.fn (by simp [hql] <;> omega) (AW.exit ?_)
    simp
    repeat refine and_o ?_
    apply hK6
    refine AW.seqK fun K6 hK6=>AW.rP ?_
    simp
    refine CallDo.p 40 9 cp ?_
    simp [setSeg]
    repeat refine and_o ?_
    apply hK6
    have hst:(fun j=>if j=at' then c at'+ratP t.1 else c j)=cfS l N (i+1):=by
     rw [hnx];funext j;split
     ·rename_i e;rw [e]
     ·rfl
    generalize ratP t.1=u at *
    obtain⟨lv,hlv⟩:∃ lv,upd (upd (upd (upd (upd (upd (fun _=>LB.hole) 0 (.cells true false 48 [.lsl 20 0 M 3])) 1 (.cells true false 89 [scC (iO is)])) 2 (.cells true false 3 (jK (dgX ts) N))) 20 (.cells true false 27 (qK c M))) 30 (.cells true false 98 [.d (.str t.1),.d (pwD t.2)])) 40 (.cells true false 27 [.d (.bool (decide (u.num<0))),nC (natO u.num.natAbs),nC (denO u.den)])=lv:=⟨_,rfl⟩
    have q0:lv 0=.cells true false 48 [.lsl 20 0 M 3]:=by rw [← hlv];rfl
    have q20:lv 20=.cells true false 27 (qK c M):=by rw [← hlv];rfl
    have q40:lv 40=.cells true false 27 [.d (.bool (decide (u.num<0))),nC (natO u.num.natAbs),nC (denO u.den)]:=by rw [← hlv];rfl
    have q9:lv 9=.hole:=by rw [← hlv];rfl
    have x0:stepLoad Tryz.prog 48 lv (.c (.ptr 0 0))=some (.c (.lsl 20 0 M 3),[],[0],True):=by simp [stepLoad,q0]
    have x1:=ixQ (n:=M) (i:=at') q20
    rw [eq_true hplt] at x1
    have x2:=ldQ (i:=at') q20 hplt
    have x3:=stQ (i:=at') q20 hplt (c at'+u)
    rw [hst] at x3
    have x4:stepLoad Tryz.prog 27 lv (.c (.ptr 40 0))=some (ratV u,[],[40],True):=by simp [stepLoad,q40]
    rw [hlv]
    refine AW.drawP mixed (by kernel_rfl) rfl ?_
    simp [x0,x1,x2,x4,q0,q20,q40,-stepLoad,-stepStore]
    refine CallDo.p 50 9 ca ?_ (hh:=q9)
    simp [x1,x3,q20,-stepLoad,-stepStore]
    refine⟨by kernel_rfl,?_⟩
    repeat refine and_o ?_
    apply hK5
    refine AW.rP ?_
    simp [f85]
    rw [← hlv]
    exact⟨i+1,Le.keys [(0,0,.cells true false 48 [.lsl 20 0 M 3]),(1,1,.cells true false 89 [scC (iO is)]),(2,2,.cells true false 3 (jK (dgX ts) N)),(20,20,.cells true false 27 (qK (cfS l N (i+1)) M))] 9 _ rfl rfl (by simp) (by simp) rfl (by
     intro e he
     simp only [List.mem_cons,List.not_mem_nil,or_false] at he
     rcases he with rfl|rfl|rfl|rfl
     ·exact LB.like_cells.2 ⟨rfl,rfl,rfl,id⟩
     ·exact LB.like_cells.2 ⟨rfl,rfl,by simp,id⟩
     ·exact LB.like_cells.2 ⟨rfl,rfl,(jK_ren _ _ _).symm,id⟩
     ·exact LB.like_cells.2 ⟨rfl,rfl,(qK_ren _ _ _).symm,id⟩) (by simp [kmap]),by omega,by omega⟩
  ·have hie:i=l.length:=by omega
   rw [hie,hca]
   have hbP:Bnd 0 (cfP ts N):=by rw [← hca];exact hcB _
   refine AW.fn (by simp [hil2] <;> omega) (AW.exit (hK _ _ ?_))
   refine AW.as (y:=cW [1,1,1,1,1,1,1,1,1,1] Tryz.f20) (by kernel_rfl) (AW.le (Le.mk2 _) (coefs_d m z ts is N M (cfP ts N) hil hiz hN hM.symm hP hdg hbP ?_))
   unfold cfL cfB
   rw [hil,hM]
def cfA (l:List Tm)(b:List Sp):AV:=if cfE l b=0 then .tup [intsA (dgX (l.map tmT)) b.length,numsA (cfL (l.map tmT) (bxI b)),.c (.d (.int .i64 0))] else .tup [.c (.d .nilsl),.c (.d .nilsl),.c (.d (.int .i64 (cfE l b)))]
theorem Coefs_ok (m:Int)(bt:Option (List Tm))(b:Option (List Sp))(hl:(tmL bt).length≤9223372036854775807)(hp:∀ t∈tmL bt,(pwL t.2).length≤9223372036854775807)(hb:(bxL b).length≤1048576) :
 CallsP Tryz.prog (GG m) 20 [.c (scC (tmO bt)),.c (scC (bxO b))] (cfA (tmL bt) (bxL b)):=by
 have cb:=boxed_ok m b hb
 have ct:=terms_ok m bt (bxL b).length hl hp
 have hlb:=fun lv=>lpBx lv b
 by_cases h0:bxE (bxL b) 0=0
 rotate_left
 ·have e1:cfE (tmL bt) (bxL b)=bxE (bxL b) 0:=if_pos h0
  rw [show cfA (tmL bt) (bxL b)=.tup [.c (.d .nilsl),.c (.d .nilsl),.c (.d (.int .i64 (bxE (bxL b) 0)))] by unfold cfA;rw [e1,if_neg h0]]
  rw [if_neg h0] at cb
  generalize bxE (bxL b) 0=e at *
  refine CallsP.ed Go.Proofs.Tryz.func20 rfl fun _=>AW.q ?_
  refine AW.c0 1 cb ?_
  refine AW.seqK fun K hK=>AW.q ?_
  refine AW.fn (by simp [h0] <;> omega) (AW.skip (hK _ _ (AW.seqK fun K hK=>AW.seqK fun K1 hK1=>AW.rP ?_)))
  simp
  repeat refine and_o ?_
  apply hK1
  refine AW.fy (by simp [h0] <;> omega) (AW.seqK fun K1 hK1=>AW.rP ?_)
  simp [setSeg]
  repeat refine and_o ?_
  apply hK1
  exact AW.ret (κ:=0) (FinD.cd3 (κ:=0) (k:=0) (own:=true) (fz:=false) (U:=48) (cs:=[.d .nilsl]) rfl (by simp) (by simp) (by simp) (loadSl _) (by simp) rfl rfl rfl (dRes_e3 _ _))
 rw [h0,if_pos rfl] at cb
 by_cases h1:tmE (tmL bt) (bxL b).length=0
 rotate_left
 ·have e1:cfE (tmL bt) (bxL b)=tmE (tmL bt) (bxL b).length:=by unfold cfE;rw [if_neg (not_not_intro h0),if_pos h1]
  rw [show cfA (tmL bt) (bxL b)=.tup [.c (.d .nilsl),.c (.d .nilsl),.c (.d (.int .i64 (tmE (tmL bt) (bxL b).length)))] by unfold cfA;rw [e1,if_neg h1]]
  generalize tmE (tmL bt) (bxL b).length=e at *
  refine CallsP.ed Go.Proofs.Tryz.func20 rfl fun _=>AW.seqK fun K hK=>AW.rP ?_
  simp
  repeat refine and_o ?_
  apply hK
  refine AW.seqK fun K hK=>AW.rP ?_
  simp
  refine CallDo.p 1 9 cb ?_
  simp
  repeat refine and_o ?_
  apply hK
  refine AW.seqK fun K hK=>AW.sr fun K1 hK1=>?_
  simp
  repeat refine and_o ?_
  apply hK1
  refine AW.cy (AW.rP ?_)
  simp [hlb]
  refine CallDo.p 2 9 ct ?_
  simp [hlb]
  repeat refine and_o ?_
  apply hK
  refine AW.seqK fun K hK=>AW.sr fun K1 hK1=>?_
  simp
  repeat refine and_o ?_
  apply hK1
  refine AW.fy (by simp [h1] <;> omega) (AW.sr fun K1 hK1=>?_)
  simp [setSeg]
  repeat refine and_o ?_
  apply hK1
  exact AW.ret (κ:=0) (FinD.cd3 (κ:=0) (k:=0) (own:=true) (fz:=false) (U:=48) (cs:=[.d .nilsl]) rfl (by simp) (by simp) (by simp) (loadSl _) (by simp) rfl rfl rfl (dRes_e3 _ _))
 rw [h1] at ct
 obtain⟨l,hL⟩:∃ l,tmL bt=l:=⟨_,rfl⟩
 obtain⟨N,hN⟩:∃ N,(bxL b).length=N:=⟨_,rfl⟩
 obtain⟨h200,hok⟩:=tmE_ok h1
 have hlp:=fun lv=>lpTm lv bt
 have hix:=fun lv {i:Nat}(hi:i<(tmL bt).length)=>ixTm lv bt hi
 have hdg:=fun {i:Nat}(hi:i<(tmL bt).length)=>dgI_end (l:=tmL bt) hi N
 simp only [hL,hN] at hl hp hb ct hlb h200 hok hlp hix hdg
 have hil:(bxI (bxL b)).length=N:=by rw [bxI_len,hN]
 have hiz:=bxI_z (bxL b)
 rw [hL,hN] at h1
 obtain⟨R,hR⟩:∃ R,cfA (tmL bt) (bxL b)=R:=⟨_,rfl⟩
 rw [hR]
 have hR1:600<cfM (l.map tmT) N→R=.tup [.c (.d .nilsl),.c (.d .nilsl),.c (.d (.int .i64 3))]:=fun h=>by
  rw [← hR];unfold cfA cfE;rw [h0,if_neg (not_not_intro rfl),hL,hN,h1,if_neg (not_not_intro rfl),if_pos h];rfl
 have hR2:¬ 600<cfM (l.map tmT) N→R=.tup [intsA (dgX (l.map tmT)) N,numsA (cfL (l.map tmT) (bxI (bxL b))),.c (.d (.int .i64 0))]:=fun h=>by
  rw [← hR];unfold cfA cfE;rw [h0,if_neg (not_not_intro rfl),hL,hN,h1,if_neg (not_not_intro rfl),if_neg h];rfl
 clear hR
 generalize bxI (bxL b)=is at *
 have hdg0:=dgF_zero l
 have hdgl:=dgF_all l
 have hN0:((N:Nat):Int)≤1048576:=by omega
 refine CallsP.ed Go.Proofs.Tryz.func20 rfl fun _=>AW.q ?_
 refine AW.c1 1 cb @setSeg.eq_1 ?_
 refine AW.seqK fun K hK=>AW.q ?_
 refine AW.cy (AW.m1 2 ct hlb (hK _ _ ?_))
 refine AW.seqK fun K hK=>AW.seqK fun K1 hK1=>AW.rP ?_
 simp
 repeat refine and_o ?_
 apply hK1
 refine AW.cn (AW.skip ?_)
 simp
 repeat refine and_o ?_
 apply hK
 refine AW.seqK fun K hK=>AW.rP ?_
 simp [hlb]
 repeat refine and_o ?_
 apply hK
 rw [jK_rep,← hdg0]
 refine AW.seqK fun K hK=>AW.f1 hlp ?_
 refine AW.block ?_
 refine AW.loopV (fun (i:Nat)=>⟨frOf [(0,.c (scC (tmO bt))),(4,.c (.lsl 2 0 N 1)),(5,.c (.ptr 0 0)),(7,.c (.ptr 1 0)),(43,.c (scC (tmO bt))),(44,.c (.d (.int .i64 l.length))),(45,.c (.d (.int .i64 i)))],
  upd (upd (upd (fun _=>.hole) 0 (.cells true false 48 [.d .nilsl])) 1 (.cells true false 89 [scC (iO is)])) 2 (.cells true false 3 (jK (dgF l i) N))⟩) 20
  (fun i=>i≤l.length) (fun i=>l.length - i) 0 (Le.mk2 _) (Nat.zero_le _) ?_
 rintro i hi
 try simp only at hi ⊢
 refine AW.q ?_
 refine AW.seqK fun K2 hK2=>?_
 by_cases hlt:i<l.length
 ·have hlt':(i:Int)<(l.length:Int):=by omega
  have hx:=fun lv=>hix lv hlt
  have f45:=w64 (n:=(i:Int)+1) (by omega) (by omega)
  have hpl:=hp _ (List.getElem_mem hlt)
  have hto:=hok _ (List.getElem_mem hlt)
  have hnx:=hdg hlt
  generalize l[i]=t at *
  have hlen:=hto.len
  have hpos:=hto.pos
  have hip:=fun lv {j:Nat}(hj:j<(pwL t.2).length)=>ixPw lv t.2 hj
  have hlp2:=fun lv=>lpPw lv t.2
  have e2:(tmT t).2=(pwL t.2).map Int.toNat:=rfl
  rw [e2] at hnx
  have d0:=dgI_zero (dgF l i) ((pwL t.2).map Int.toNat)
  generalize dgF l i=f at *
  refine AW.fy (by simp [hlt'] <;> omega) (AW.skip ?_)
  simp
  repeat refine and_o ?_
  apply hK2
  refine AW.seqK fun K5 hK5=>AW.block (AW.seqK fun K6 hK6=>AW.rP ?_)
  simp [hx,tmD]
  repeat refine and_o ?_
  apply hK6
  refine AW.seqK fun K6 hK6=>AW.rP ?_
  simp [setSeg,hlp2]
  repeat refine and_o ?_
  apply hK6
  generalize pwL t.2=pl at *
  rw [← d0]
  refine AW.block ?_
  refine AW.loopV (fun (q:Nat)=>⟨frOf [(0,.c (scC (tmO bt))),(4,.c (.lsl 2 0 N 1)),(5,.c (.ptr 0 0)),(7,.c (.ptr 1 0)),(43,.c (scC (tmO bt))),(44,.c (.d (.int .i64 l.length))),(45,.c (.d (.int .i64 i))),(50,.c (.d (pwD t.2))),(51,.c (.d (.int .i64 pl.length))),(52,.c (.d (.int .i64 q)))],
   upd (upd (upd (fun _=>.hole) 0 (.cells true false 48 [.d .nilsl])) 1 (.cells true false 89 [scC (iO is)])) 2 (.cells true false 3 (jK (dgI f (pl.map Int.toNat) q) N))⟩) 20
   (fun q=>q≤pl.length) (fun q=>pl.length - q) 0 (Le.drop2 [20] 9) (Nat.zero_le _) ?_
  rintro q hq
  try simp only at hq ⊢
  refine AW.q ?_
  refine AW.seqK fun K10 hK10=>?_
  by_cases hql:q<pl.length
  ·have hql':(q:Int)<(pl.length:Int):=by omega
   have hxp:=fun lv=>hip lv hql
   have f52:=w64 (n:=(q:Int)+1) (by omega) (by omega)
   have hk0:=hpos _ (List.getElem_mem hql)
   have hgd:(pl.map Int.toNat).getD q 0=pl[q].toNat:=by rw [List.getD_eq_getElem?_getD,List.getElem?_map,List.getElem?_eq_getElem hql];rfl
   have hst:=dgI_step f (pl.map Int.toNat) q
   rw [hgd] at hst
   generalize pl[q]=k at *
   obtain⟨k,rfl⟩:∃ n:Nat,k=n:=⟨k.toNat,by omega⟩
   rw [Int.toNat_natCast] at hst
   have hqN:q<N:=by omega
   obtain⟨v,hv⟩:∃ v,max (f q) k=v:=⟨_,rfl⟩
   have hst:=hst v hv.symm
   have hmx:(if f q<k then (k:Int) else (f q:Int))=(v:Int):=by rw [← hv];split <;> omega
   refine AW.fy (by simp [hql'] <;> omega) (AW.skip (hK10 _ _ (AW.seqK fun K11 hK11=>AW.block (AW.f1 hxp ?_))))
   obtain⟨lv,hlv⟩:∃ lv,upd (upd (upd (fun _=>LB.hole) 0 (.cells true false 48 [.d .nilsl])) 1 (.cells true false 89 [scC (iO is)])) 2 (.cells true false 3 (jK (dgI f (pl.map Int.toNat) q) N))=lv:=⟨_,rfl⟩
   have q2:lv 2=.cells true false 3 (jK (dgI f (pl.map Int.toNat) q) N):=by rw [← hlv];rfl
   have x1:=ixJ (n:=N) (i:=q) q2
   rw [eq_true hqN] at x1
   have x2:=ldJ q2 hqN
   rw [dgI_at] at x2
   have x3:=stJ q2 hqN v
   rw [hst] at x3
   rw [hlv]
   refine AW.rP ?_
   simp [x1,x2,x3,hmx,q2,intsOf,-stepLoad,-stepStore]
   repeat refine and_o ?_
   apply hK11
   rw [← hlv,upd_twice]
   refine AW.rP ?_
   simp [f52]
   exact⟨q+1,Le.mk2 _,by omega,by omega⟩
  ·have hqe:q=N:=by omega
   rw [hqe,hnx]
   refine AW.fn (by simp [hql] <;> omega) (AW.exit (hK5 _ _ (AW.rP ?_)))
   simp [f45]
   exact⟨i+1,Le.mk2 _,by omega,by omega⟩
 ·have hie:i=l.length:=by omega
  rw [hie,hdgl]
  refine AW.fn (by simp [hlt] <;> omega) (AW.exit ?_)
  simp
  repeat refine and_o ?_
  apply hK
  have key:=fun z=>coefs_c m z bt is N (R:=R) hil hiz (by omega) (by rw [hL];exact h200) (by rw [hL];exact hok) (by rw [hL];exact hR1) (by rw [hL];exact hR2)
  simp only [hL] at key
  exact AW.as (y:=cW [1,1,1,1,1,1] Tryz.f20) (by kernel_rfl) (AW.le (Le.mk2 _) (key _))
theorem cfE_M {l:List Tm}{b:List Sp}(h:cfE l b=0):bxE b 0=0∧tmE l b.length=0∧cfM (l.map tmT) b.length≤600:=by
 unfold cfE at h
 by_cases h0:bxE b 0=0
 ·rw [if_neg (not_not_intro h0)] at h
  by_cases h1:tmE l b.length=0
  ·rw [if_neg (not_not_intro h1)] at h
   refine⟨h0,h1,?_⟩
   split at h
   ·exact absurd h (by decide)
   ·omega
  ·rw [if_pos h1] at h;exact absurd h h1
 ·rw [if_pos h0] at h;exact absurd h h0
theorem dg16 {l:List Tm}{N:Nat}(h:∀ t∈l,TmOK N t) (j:Nat):dgX (l.map tmT) j≤16:=dgX_le (fun t ht j=>by
 obtain⟨u,hu,rfl⟩:=List.mem_map.1 ht
 have hs:=(h u hu).sum
 generalize (tmT u).2=ks at *
 have key:∀ (ks:List Nat) (j:Nat),ks.getD j 0≤ks.sum:=by
  intro ks
  induction ks with
  | nil=>intro j;simp
  | cons k ks ih=>
   intro j
   cases j with
   | zero=>simp
   | succ j=>have:=ih j;simp only [List.getD_cons_succ,List.sum_cons];omega
 exact Nat.le_trans (key ks j) hs) j
theorem cfB_sz {l:List Tm}{b:List Sp}(h:cfE l b=0) (i:Nat):szR (cfB (l.map tmT) (bxI b) i) 10000000:=by
 obtain⟨h0,h1,h2⟩:=cfE_M h
 obtain⟨h3,h4⟩:=tmE_ok h1
 have hil:(bxI b).length=b.length:=bxI_len b
 have hb0:Bnd 0 (cfP (l.map tmT) (bxI b).length):=Bnd.start (by rw [List.length_map];exact h3) (fun t ht=>by
  obtain⟨u,_,rfl⟩:=List.mem_map.1 ht
  exact ratP_sz u.1) _
 have hlen:=dgL_len (l.map tmT) b.length
 have hiz:=bxI_z b
 have hdg:=dg16 h4
 have key:∀ d j,d=b.length - j→j≤b.length→∀ c t,Bnd t c→2 ^ t≤sizN ((dgL (l.map tmT) b.length).take j)→∃ t',t'≤9∧Bnd t' (brn ((axL (l.map tmT) (bxI b)).drop j) c):=by
  intro d
  induction d with
  | zero=>
   intro j hd hj c t hc ht
   rw [List.drop_eq_nil_of_le (by rw [axL_len,hil];omega)]
   exact⟨t,two_pow (Nat.le_trans ht (sizN_take_le _ _)) h2,hc⟩
  | succ d ih=>
   intro j hd hj c t hc ht
   have hjl:j<(dgL (l.map tmT) b.length).length:=by rw [hlen];omega
   have hja:j<(axL (l.map tmT) (bxI b)).length:=by rw [axL_len,hil];omega
   rw [List.drop_eq_getElem_cons hja,axL_get]
   have s2:=sizN_take hjl
   rw [dgL_get] at s2
   have hza:=hiz _ (List.getElem_mem (show j<(bxI b).length by rw [hil];omega))
   refine ih (j+1) (by omega) (by omega) _ _ (hc.step (hdg j) hza.1 (Iv.z_sub hza)) ?_
   rw [s2]
   split
   ·exact Nat.le_trans ht (Nat.le_mul_of_pos_right _ (by omega))
   ·rename_i hne
    have hne:¬ dgX (l.map tmT) j=0:=hne
    rw [Nat.pow_succ];exact Nat.mul_le_mul ht (by omega)
 obtain⟨t,h5,h6⟩:=key _ 0 rfl (Nat.zero_le _) _ 0 hb0 (by simp [sizN])
 exact h6.sz h5 i
theorem cfL_len (ts:List Trm)(is:List Iv):(cfL ts is).length=cfM ts is.length:=by simp [cfL]
theorem cfL_get (ts:List Trm)(is:List Iv){i:Nat}(h:i<(cfL ts is).length):(cfL ts is)[i]=cfB ts is i:=by simp [cfL]
def bnR (l:List Tm)(b:List Sp):Iv:=if cfE l b=0 then (minL ((cfL (l.map tmT) (bxI b)).drop 1) (cfB (l.map tmT) (bxI b) 0),maxL ((cfL (l.map tmT) (bxI b)).drop 1) (cfB (l.map tmT) (bxI b) 0)) else (0,0)
theorem Bernstein_ok (m:Int)(bt:Option (List Tm))(b:Option (List Sp))(hl:(tmL bt).length≤9223372036854775807)(hp:∀ t∈tmL bt,(pwL t.2).length≤9223372036854775807)(hb:(bxL b).length≤1048576) :
 CallsP Tryz.prog (GG m) 6 [.c (scC (tmO bt)),.c (scC (bxO b))] (.tup [ivV (bnR (tmL bt) (bxL b)),.c (.d (.int .i64 (cfE (tmL bt) (bxL b))))]):=by
 have cc:=Coefs_ok m bt b hl hp hb
 by_cases h0:cfE (tmL bt) (bxL b)=0
 rotate_left
 ·rw [show bnR (tmL bt) (bxL b)=(0,0) from if_neg h0]
  rw [show cfA (tmL bt) (bxL b)=.tup [.c (.d .nilsl),.c (.d .nilsl),.c (.d (.int .i64 (cfE (tmL bt) (bxL b))))] from if_neg h0] at cc
  generalize cfE (tmL bt) (bxL b)=e at *
  have bz:buildA Tryz.prog 29 [] []=some (ivV (0,0),[],[],True):=bIv0
  generalize hz:((0:Rat),(0:Rat))=z at *
  refine CallsP.enc Go.Proofs.Tryz.func6 rfl (fun lv=>iv_dArg2 lv _ _ _ _ _ _ _ rfl) fun _=>AW.q ?_
  refine AW.c0 1 cc ?_
  refine AW.seqK fun K hK=>AW.q ?_
  refine AW.fy (by simp [h0] <;> omega) (AW.f1 bz ?_)
  exact AW.ret (FinC.iv2 (κ:=0) (t:=4) (k:=0) (u:=5) ⟨rfl,rfl⟩ (by simp) (by simp [setSeg]) (by simp))
 have hsz:=cfB_sz h0
 have hM:=(cfE_M h0).2.2
 rw [← bxI_len] at hM
 have hlen:=cfL_len ((tmL bt).map tmT) (bxI (bxL b))
 have hpos:0<(cfL ((tmL bt).map tmT) (bxI (bxL b))).length:=by rw [hlen];exact sizN_pos _
 have h1:(cfL ((tmL bt).map tmT) (bxI (bxL b)))[0]?=some (cfB ((tmL bt).map tmT) (bxI (bxL b)) 0):=by rw [List.getElem?_eq_getElem hpos,cfL_get]
 have ch:=hullL_ok (GG m) (cfL ((tmL bt).map tmT) (bxI (bxL b))) _ h1 (by omega) (fun x hx=>by
  obtain⟨i,hi,rfl⟩:=List.getElem_of_mem hx
  rw [cfL_get];exact szR_mono (hsz i) (by omega))
 rw [show bnR (tmL bt) (bxL b)=(minL ((cfL ((tmL bt).map tmT) (bxI (bxL b))).drop 1) (cfB ((tmL bt).map tmT) (bxI (bxL b)) 0),maxL ((cfL ((tmL bt).map tmT) (bxI (bxL b))).drop 1) (cfB ((tmL bt).map tmT) (bxI (bxL b)) 0)) from if_pos h0]
 rw [show cfA (tmL bt) (bxL b)=.tup [intsA (dgX ((tmL bt).map tmT)) (bxL b).length,numsA (cfL ((tmL bt).map tmT) (bxI (bxL b))),.c (.d (.int .i64 0))] from if_pos h0] at cc
 rw [h0]
 generalize cfL ((tmL bt).map tmT) (bxI (bxL b))=cl at *
 generalize minL (cl.drop 1) (cfB ((tmL bt).map tmT) (bxI (bxL b)) 0)=r1 at *
 generalize maxL (cl.drop 1) (cfB ((tmL bt).map tmT) (bxI (bxL b)) 0)=r2 at *
 unfold intsA at cc
 generalize ((List.range (bxL b).length).map fun i=>[DV.int .i64 ((dgX ((tmL bt).map tmT) i:Nat):Int)])=ds at *
 refine CallsP.enc Go.Proofs.Tryz.func6 rfl (fun lv=>iv_dArg2 lv _ _ _ _ _ _ _ rfl) fun _=>AW.q ?_
 refine AW.c0 1 cc ?_
 refine AW.seqK fun K hK=>AW.q ?_
 refine AW.cn (AW.skip (hK _ _ (AW.c1 1 ch @setSeg.eq_1 ?_)))
 exact AW.ret (FinC.iv2 (κ:=0) (t:=4) (k:=0) (u:=5) ⟨rfl,rfl⟩ (by simp) (by simp [setSeg]) (by simp))
def rC:Option (List Nat)→CV
 | none=>.d .nilsl
 | some l=>.d (.sl (dK .i64 l))
@[simp] theorem rC_dRes (lv:Key→LB)(s:Int)(p q:Option (List Nat)):dRes lv (.agg [.d (.int .i64 s),rC p,rC q])=some (.agg [.d (.int .i64 s),rC p,rC q],[]):=by
 cases p <;> cases q <;> rfl
@[simp] theorem rC_pure (o:Option (List Nat)):(rC o).pure=true:=by cases o <;> rfl
@[simp] theorem rC_flat1 (o:Option (List Nat)):(AV.c (rC o)).flat1=true:=by cases o <;> rfl
@[simp] theorem rC_apure (o:Option (List Nat)):(AV.c (rC o)).pure=true:=by cases o <;> rfl
@[simp] theorem rC_ren (o:Option (List Nat))(g:Key→Key):(rC o).ren g=rC o:=by cases o <;> rfl
@[simp] theorem rA_pure (s:Int)(p q:Option (List Nat)):(AV.agg [.d (.int .i64 s),rC p,rC q]).pure=true:=by cases p <;> cases q <;> rfl
@[simp] theorem pure_agg (cs:List CV):(AV.agg cs).pure=cs.all CV.pure:=rfl
@[simp] theorem cpure_d (x:DV):(CV.d x).pure=true:=rfl
@[simp] theorem scC_cpure (o:Option (List (List DV))):(scC o).pure=true:=by cases o <;> rfl
@[simp] theorem pure_tup (l:List AV):(AV.tup l).pure=l.all AV.pure0:=rfl
@[simp] theorem pure0_c (x:CV):(AV.c x).pure0=x.pure:=rfl
@[simp] theorem pure0_agg (cs:List CV):(AV.agg cs).pure0=cs.all CV.pure:=rfl
attribute [local irreducible] FinC
end Go.Am
namespace Go.Am
open Go.Am.Ty Go.Proofs N
attribute [local irreducible] FinC
end Go.Am
namespace Go.Am
open Go.Am.Ty Go.Proofs N
attribute [local irreducible] FinC
end Go.Am
namespace Go.Am
open Go.Am.Ty Go.Proofs N
attribute [local irreducible] FinC
end Go.Am
namespace Go.Am
open Go.Am.Ty Go.Proofs N
attribute [local irreducible] FinC
end Go.Am
namespace Go.Am
open Go.Am.Ty Go.Proofs N
def dgU (d:Nat):UInt8:=UInt8.ofNat (48+d)
theorem dgU_nat {d:Nat}(h:d<10):(dgU d).toNat=48+d:=by simp [dgU];omega
def decF:Nat→Nat→List UInt8
 | 0,n=>[dgU n]
 | f+1,n=>if n<10 then [dgU n] else decF f (n / 10)++[dgU (n % 10)]
def decS (n:Nat):List UInt8:=decF n n
theorem decF_eq:∀ (f n:Nat),n≤f→decF f n=decS n
 | 0,n,h=>by have:n=0:=by omega
             subst this;rfl
 | f+1,n,h=>by
  unfold decS
  by_cases h10:n<10
  ·cases n with
   | zero=>rfl
   | succ n=>rw [decF,if_pos h10,decF,if_pos h10]
  ·obtain⟨m,rfl⟩:∃ m,n=m+1:=⟨n - 1,by omega⟩
   rw [decF,if_neg h10,decF,if_neg h10,decF_eq f ((m+1) / 10) (by omega),decF_eq m ((m+1) / 10) (by omega)]
theorem decS_lt {n:Nat}(h:n<10):decS n=[dgU n]:=by
 unfold decS
 cases n with
 | zero=>rfl
 | succ n=>rw [decF,if_pos h]
theorem decS_ge {n:Nat}(h:¬ n<10):decS n=decS (n / 10)++[dgU (n % 10)]:=by
 obtain⟨m,rfl⟩:∃ m,n=m+1:=⟨n - 1,by omega⟩
 conv=>lhs;unfold decS
 rw [decF,if_neg h,decF_eq m ((m+1) / 10) (by omega)]
theorem decN_snoc (l:List UInt8)(c:UInt8):decN (l++[c]) 0=10*decN l 0+(c.toNat - 48):=by rw [decN_app];rfl
theorem idx_none:∀ {s:List UInt8},(∀ c∈s,c≠47)→ctI s [47] = -1
 | [],_=>rfl
 | a::s,h=>by
  have ha:=h a (by simp)
  have ih:=idx_none (s:=s) fun c hc=>h c (by simp [hc])
  unfold ctI at ih ⊢
  rw [Lib.index]
  grind
theorem idx_at:∀ {a b:List UInt8},(∀ c∈a,c≠47)→ctI (a++47::b) [47]=a.length
 | [],b,_=>by rfl
 | x::a,b,h=>by
  have hx:=h x (by simp)
  have ih:=idx_at (a:=a) (b:=b) fun c hc=>h c (by simp [hc])
  unfold ctI at ih ⊢
  rw [List.cons_append,Lib.index]
  grind
attribute [local irreducible] FinC
theorem isD_47 {s:List UInt8}(h:isD s):∀ c∈s,c≠47:=fun c hc e=>by
 have:=h c hc
 simp_all
theorem decF_d:∀ (f n:Nat),n≤f→isD (decF f n)∧decN (decF f n) 0=n
 | 0,n,h=>by
  have:n=0:=by omega
  subst this
  refine⟨fun c hc=>?_,rfl⟩
  rw [decF,List.mem_singleton] at hc
  rw [hc,dgU_nat (by decide)];omega
 | f+1,n,h=>by
  rw [decF]
  by_cases h10:n<10
  ·rw [if_pos h10]
   refine⟨fun c hc=>?_,?_⟩
   ·rw [List.mem_singleton] at hc
    rw [hc,dgU_nat h10];omega
   ·show 10*0+((dgU n).toNat - 48)=n
    rw [dgU_nat h10];omega
  ·rw [if_neg h10]
   obtain⟨h1,h2⟩:=decF_d f (n / 10) (by omega)
   refine⟨fun c hc=>?_,?_⟩
   ·rcases List.mem_append.1 hc with hc|hc
    ·exact h1 c hc
    ·rw [List.mem_singleton] at hc
     rw [hc,dgU_nat (by omega)];omega
   ·rw [decN_snoc,h2,dgU_nat (by omega)];omega
theorem decS_v (n:Nat):decN (decS n) 0=n:=(decF_d n n (Nat.le_refl _)).2
@[simp] theorem extA_4a {x y z u:AV}(h:x.noTup=true):extA 0 (.tup [x,y,z,u])=some (x,[],[],True):=by
 cases x <;> first|rfl|cases h
@[simp] theorem extA_4b {x y z u:AV}(h:y.noTup=true):extA 1 (.tup [x,y,z,u])=some (y,[],[],True):=by
 cases y <;> first|rfl|cases h
@[simp] theorem extA_4c {x y z u:AV}(h:z.noTup=true):extA 2 (.tup [x,y,z,u])=some (z,[],[],True):=by
 cases z <;> first|rfl|cases h
@[simp] theorem extA_4d {x y z u:AV}(h:u.noTup=true):extA 3 (.tup [x,y,z,u])=some (u,[],[],True):=by
 cases u <;> first|rfl|cases h
end Go.Am
namespace Go.Am
open Go.Am.Ty Go.Proofs N
def rD:Option (List Nat)→DV
 | none=>.nilsl
 | some l=>.sl (dK .i64 l)
theorem rC_rD (o:Option (List Nat)):rC o=.d (rD o):=by cases o <;> rfl
@[simp] theorem riv_dArg2 (lv:Key→LB)(s s':Int)(p q p' q':Option (List Nat))(n:DV)(hn:n.isScal=true):dRes lv (.tup [.agg [.d (.int .i64 s),rC p,rC q,.d (.int .i64 s'),rC p',rC q'],.c (.d n)])=some (.tup [.agg [.d (.int .i64 s),rC p,rC q,.d (.int .i64 s'),rC p',rC q'],.c (.d n)],[]):=by
 simp only [rC_rD];rfl
@[simp] theorem riv_pure (s s':Int)(p q p' q':Option (List Nat)):(AV.agg [.d (.int .i64 s),rC p,rC q,.d (.int .i64 s'),rC p',rC q']).pure=true:=by
 simp only [rC_rD];rfl
@[simp] theorem riv_pure2 (s s':Int)(p q p' q':Option (List Nat))(n:DV):(AV.tup [.agg [.d (.int .i64 s),rC p,rC q,.d (.int .i64 s'),rC p',rC q'],.c (.d n)]).pure=true:=by
 simp only [rC_rD];rfl
end Go.Am
namespace Go.Proofs.YtanjfmmjpnjkbaaGreatDoor
open Go.Am Go.RowKit Go.ChangeShapes Go.WideShapes
theorem inSpan {l:List DV}{n:Nat}(h:inT Tryz.prog (n+2) 37 l):∃ s:Sp,l=spD s:=by
 obtain⟨ls,hl,rfl,h3⟩:=inT_struct Tryz.underlying37 h
 match ls,hl,h3 with
 | [a,b],_,h3=>
  obtain⟨s,rfl⟩:=inT_str Tryz.underlying35 (h3 0 (by decide) (by simp))
  obtain⟨t,rfl⟩:=inT_str Tryz.underlying35 (h3 1 (by decide) (by simp))
  exact⟨(s,t),rfl⟩
theorem spans:∀ (l:List (List DV)),(∀ x∈l,inT Tryz.prog 7 37 x)→∃ b:List Sp,l=b.map spD
 | [],_=>⟨[],rfl⟩
 | x::r,h=>by
  obtain⟨s,rfl⟩:=inSpan (n:=5) (h x (by simp))
  obtain⟨b,rfl⟩:=spans r (fun y hy=>h y (by simp [hy]))
  exact⟨s::b,rfl⟩
theorem okWide_cells {P:Program}{w:World}{r:Reach}{base:Nat}{t e:TypeId}{v:Value}(ht:P.underlying t=some (.slice e)) (h:Value.okWide P w r base t v):v.cells.toList=[v]∧Cell.okWide P w r base t v:=by
 unfold Value.okWide at h;rw [ht] at h
 refine⟨?_,h⟩
 have h':=h
 unfold Cell.okWide at h';rw [ht] at h'
 unfold Cell.ok at h'
 rw [ht] at h'
 cases v <;> first|rfl|(exfalso;exact h')
theorem bulk_len {H:Type}(l:List (DataW H)):l.length≤Rows.uptoBulkAll l:=by
 induction l with
 | nil=>simp [Rows.uptoBulkAll]
 | cons x r ih=>
  have:1≤Rows.uptoBulk x:=by
   cases x with
   | lit l=>cases l <;> simp [Rows.uptoBulk]
   | _=>simp [Rows.uptoBulk]
  simp only [Rows.uptoBulkAll,List.length_cons];omega
theorem box_arg {H:Type}{enc:TypeId × Value→H}{W:World}{base:Nat}{v:Value}{d:DataW H}{p:List MemPlace}(hok:Value.okWide Tryz.prog W .any base 23 v) (h:DataW.Trod enc Tryz.prog W 0 (fun _=>true) true 23 v d p) :
 ∃ b:Option (List Sp),(Vw.mk (fun b=>b<W.heap.size) (fun _=>0) (lvOf [] []) W).av v (.c (scC (bxO b)))∧(bxL b).length≤Rows.uptoBulk d:=by
 obtain⟨hc,hok⟩:=okWide_cells Tryz.underlying23 hok
 obtain⟨fuel,h⟩:=h
 rw [hc] at h
 obtain⟨l,h1,h2,_⟩:=trod_rd kids 8 true 23 fuel [v] _ (by show 23<_;rw [tsize];decide) (by kernel_rfl) (fun _ i a len cap hi=>by
  match i,hi with
  | 0,hi=>obtain rfl:=Option.some.inj hi;exact okWide_spot hok) h
 unfold inT at h1
 rw [Tryz.underlying23] at h1
 rcases h1 with rfl|⟨es,rfl,h1⟩
 ·exact⟨none,h2.2 0 (by simp) (by simp),Nat.zero_le _⟩
 ·obtain⟨b,rfl⟩:=spans es h1
  have hr:=h2.2 0 (by simp) (by simp)
  refine⟨some b,hr,?_⟩
  rcases DataW.trod_slice Tryz.underlying23 h with ⟨e,_⟩|⟨a,len,cap,elems,rest,m,_,e,hx,_,_,_,hl,_⟩
  ·obtain rfl:v=.slice none 0 0:=by simpa using e
   have:=hr.1
   cases this
  ·obtain rfl:v=.slice (some a) len cap:=by simpa using e
   have h3:len=(b.map spD).length:=by
    have:=hr.1
    simp only [List.getElem_cons_zero] at this
    exact Rd.sl_len this
   obtain⟨rfl,_⟩:=Prod.mk.inj hx
   have h4:=bulk_len (elems.map (·.1))
   simp only [Rows.uptoBulk]
   rw [List.length_map] at h3 h4
   show b.length≤_
   omega
theorem int_arg {H:Type}{enc:TypeId × Value→H}{W:World}{base:Nat}{t:TypeId}{k:IntKind}{v:Value}{d:DataW H}{p:List MemPlace}(ht:Tryz.prog.underlying t=some (.int k)) (hok:Value.okWide Tryz.prog W .any base t v) (h:DataW.Trod enc Tryz.prog W 0 (fun _=>true) true t v d p) :
 ∃ n,(Vw.mk (fun b=>b<W.heap.size) (fun _=>0) (lvOf [] []) W).av v (.c (.d (.int k n))):=by
 obtain⟨n,rfl,rfl,_,hw⟩:=open_int ht hok h
 exact⟨n,.int k n (Go.Am.wf_wrap hw),rfl⟩
theorem inInts {l:List DV}{n:Nat}(h:inT Tryz.prog (n+2) 59 l):∃ o:Option (List Int),l=[pwD o]:=by
 unfold inT at h
 rw [Tryz.underlying59] at h
 rcases h with rfl|⟨es,rfl,h⟩
 ·exact⟨none,rfl⟩
 ·have key:∀ es:List (List DV),(∀ x∈es,inT Tryz.prog (n+1) 3 x)→∃ l:List Int,es=l.map fun k=>[.int .i64 k]:=by
   intro es
   induction es with
   | nil=>intro _;exact⟨[],rfl⟩
   | cons x r ih=>
    intro h
    obtain⟨i,rfl⟩:=inT_int (k:=.i64) Tryz.underlying3 (h x (by simp))
    obtain⟨l,rfl⟩:=ih fun y hy=>h y (by simp [hy])
    exact⟨i::l,rfl⟩
  obtain⟨l,rfl⟩:=key es h
  exact⟨some l,rfl⟩
theorem inTerm {l:List DV}{n:Nat}(h:inT Tryz.prog (n+3) 98 l):∃ t:Tm,l=tmD t:=by
 obtain⟨ls,hl,rfl,h3⟩:=inT_struct Tryz.underlying98 h
 match ls,hl,h3 with
 | [a,b],_,h3=>
  obtain⟨s,rfl⟩:=inT_str Tryz.underlying35 (h3 0 (by decide) (by simp))
  obtain⟨o,rfl⟩:=inInts (n:=n) (h3 1 (by decide) (by simp))
  exact⟨(s,o),rfl⟩
theorem inTerms:∀ (l:List (List DV)),(∀ x∈l,inT Tryz.prog 7 98 x)→∃ b:List Tm,l=b.map tmD
 | [],_=>⟨[],rfl⟩
 | x::r,h=>by
  obtain⟨s,rfl⟩:=inTerm (n:=4) (h x (by simp))
  obtain⟨b,rfl⟩:=inTerms r (fun y hy=>h y (by simp [hy]))
  exact⟨s::b,rfl⟩
theorem terms_len {V:Vw}{v:Value}{bt:Option (List Tm)}(h:V.av v (.c (scC (tmO bt)))):(tmL bt).length≤9223372036854775807∧∀ t∈tmL bt,(pwL t.2).length≤9223372036854775807:=by
 cases bt with
 | none=>exact⟨by simp [tmL],fun t ht=>by cases ht⟩
 | some l=>
  obtain⟨h,_⟩:=h
  generalize hd:DV.sl (l.map tmD)=d at h
  cases h with
  | sl b off cap sz es vs hl hc hb hm ho hr=>
   obtain rfl:=DV.sl.inj hd
   refine⟨by show l.length≤_;simpa using hb,fun t ht=>?_⟩
   obtain⟨i,hi,rfl⟩:=List.getElem_of_mem ht
   have hi':i<l.length:=hi
   have h1:=hr i (by simpa using hi') 1 (by simp [tmD])
   have e:(l.map tmD)[i]'(by simpa using hi')=tmD l[i]:=by simp
   have h2:Rd V.mem (vs i 1) (pwD (l[i]).2):=by
    have e2:((l.map tmD)[i]'(by simpa using hi'))[1]'(by simp [tmD])=pwD (l[i]).2:=by simp [tmD]
    rw [e2] at h1;exact h1
   show (pwL (l[i]).2).length≤_
   cases hp:(l[i]).2 with
   | none=>simp [pwL]
   | some q=>
    rw [hp] at h2
    generalize hd2:pwD (some q)=d at h2
    generalize vs i 1=w at h2
    cases h2 with
    | sl b off cap sz es vs hl hc hb hm ho hr=>
     have e3:=DV.sl.inj hd2
     rw [← e3] at hb
     simpa [pwL] using hb
    | sl0 a=>
     have e3:=DV.sl.inj hd2
     have e3:q=[]:=by simpa using e3
     subst e3;simp [pwL]
    | _=>cases hd2
  | sl0 a=>
   have e:=DV.sl.inj hd
   have e:l=[]:=by simpa using e
   subst e
   exact⟨by simp [tmL],fun t ht=>by cases ht⟩
  | _=>cases hd
theorem terms_arg {H:Type}{enc:TypeId × Value→H}{W:World}{base:Nat}{v:Value}{d:DataW H}{p:List MemPlace}(hok:Value.okWide Tryz.prog W .any base 22 v) (h:DataW.Trod enc Tryz.prog W 0 (fun _=>true) true 22 v d p) :
 ∃ b:Option (List Tm),(Vw.mk (fun b=>b<W.heap.size) (fun _=>0) (lvOf [] []) W).av v (.c (scC (tmO b))):=by
 obtain⟨hc,hok⟩:=okWide_cells Tryz.underlying22 hok
 obtain⟨fuel,h⟩:=h
 rw [hc] at h
 obtain⟨l,h1,h2⟩:=trod_rd2 kids (fun _=>rfl) 8 22 fuel [v] _ (by show 22<_;rw [tsize];decide) (by kernel_rfl) h
 unfold inT at h1
 rw [Tryz.underlying22] at h1
 rcases h1 with rfl|⟨es,rfl,h1⟩
 ·exact⟨none,h2.2 0 (by simp) (by simp)⟩
 ·obtain⟨b,rfl⟩:=inTerms es h1
  exact⟨some b,h2.2 0 (by simp) (by simp)⟩
end Go.Proofs.YtanjfmmjpnjkbaaGreatDoor
namespace Go.Am
open Go.Am.Ty Go.Proofs N
section
variable {ts:List Trm}{is:List Iv}
theorem sizA_M:sizA (axL ts is)=cfM ts is.length:=by rw [sizA_N,axL_n];rfl
end
theorem minL_le:∀ (l:List Rat) (m:Rat),minL l m≤m∧∀ x∈l,minL l m≤x
 | [],m=>⟨Rat.le_refl,fun x h=>by cases h⟩
 | y::l,m=>by
  obtain⟨h1,h2⟩:=minL_le l (minR y m)
  have a1:minR y m≤m:=by unfold minR;split <;> grind
  have a2:minR y m≤y:=by unfold minR;split <;> grind
  refine⟨Rat.le_trans h1 a1,fun x hx=>?_⟩
  rcases List.mem_cons.1 hx with rfl|hx
  ·exact Rat.le_trans h1 a2
  ·exact h2 x hx
theorem maxL_ge:∀ (l:List Rat) (m:Rat),m≤maxL l m∧∀ x∈l,x≤maxL l m
 | [],m=>⟨Rat.le_refl,fun x h=>by cases h⟩
 | y::l,m=>by
  obtain⟨h1,h2⟩:=maxL_ge l (maxR m y)
  have a1:m≤maxR m y:=by unfold maxR;split <;> grind
  have a2:y≤maxR m y:=by unfold maxR;split <;> grind
  refine⟨Rat.le_trans a1 h1,fun x hx=>?_⟩
  rcases List.mem_cons.1 hx with rfl|hx
  ·exact Rat.le_trans a2 h1
  ·exact h2 x hx
theorem bnR_all {l:List Tm}{b:List Sp}(h:cfE l b=0) {i:Nat}(hi:i<cfM (l.map tmT) (bxI b).length):(bnR l b).1≤cfB (l.map tmT) (bxI b) i∧cfB (l.map tmT) (bxI b) i≤(bnR l b).2:=by
 have e:bnR l b=(minL ((cfL (l.map tmT) (bxI b)).drop 1) (cfB (l.map tmT) (bxI b) 0),maxL ((cfL (l.map tmT) (bxI b)).drop 1) (cfB (l.map tmT) (bxI b) 0)):=if_pos h
 rw [e]
 by_cases h0:i=0
 ·subst h0
  exact⟨(minL_le _ _).1,(maxL_ge _ _).1⟩
 ·have hm:cfB (l.map tmT) (bxI b) i∈(cfL (l.map tmT) (bxI b)).drop 1:=by
   have hl:i<(cfL (l.map tmT) (bxI b)).length:=by rw [cfL_len];exact hi
   have hl2:i - 1<((cfL (l.map tmT) (bxI b)).drop 1).length:=by rw [List.length_drop];omega
   have:=List.getElem_mem hl2
   rw [List.getElem_drop] at this
   have e2:(cfL (l.map tmT) (bxI b))[1+(i - 1)]'(by omega)=cfB (l.map tmT) (bxI b) i:=by rw [cfL_get];congr 1;omega
   rw [e2] at this
   exact this
  exact⟨(minL_le _ _).2 _ hm,(maxL_ge _ _).2 _ hm⟩
end Go.Am
namespace Go.Am
open Go.Proofs
theorem SpecOK.more {P:Program}{G:List (List DV)}{sp:Tb Spec}{ft:TypeId}(h:SpecOK P G sp ft) (f0:Nat) (g0:List AV→Option AV) (hg:∀ us x,g0 us=some x→∀ lv,AllOk lv→CallG P G f0 us lv (.ret x lv)):SpecOK P G (setS f0 (.pure g0) sp) ft where
 pure:=by
  intro f g us x hf hx lv ho
  rw [setS_get] at hf
  split at hf
  ·rename_i e;subst e;cases hf;exact hg us x hx lv ho
  ·exact h.pure f g us x hf hx lv ho
 caughtR:=by
  intro f hf
  rw [setS_get] at hf
  split at hf
  ·cases hf
  ·exact h.caughtR f hf
 caughtP:=by
  intro f hf
  rw [setS_get] at hf
  split at hf
  ·cases hf
  ·exact h.caughtP f hf
 selfN:=by
  intro f T hf
  rw [setS_get] at hf
  split at hf
  ·cases hf
  ·exact h.selfN f T hf
 live:=by
  intro f g us lv x hf
  rw [setS_get] at hf
  split at hf
  ·cases hf
  ·exact h.live f g us lv x hf
 selfP:=by
  intro f T hf
  rw [setS_get] at hf
  split at hf
  ·cases hf
  ·exact h.selfP f T hf
end Go.Am
namespace Go.Am
open Go.Proofs N
def unD:List (List DV)→Option (List Nat)
 | []=>some []
 | e::l=>match e with
  | [.int .u32 (.ofNat n)]=>(unD l).map (n::·)
  | _=>none
theorem unD_ok:∀ {es:List (List DV)}{l:List Nat},unD es=some l→es=dK .u32 l
 | [],l,h=>by cases h;rfl
 | e::es,l,h=>by
  unfold unD at h
  split at h
  ·obtain⟨m,hm,rfl⟩:=Option.map_eq_some_iff.1 h
   rw [unD_ok hm];rfl
  ·cases h
def unK:AV→Option (Option (List Nat))
 | .c (.d .nilsl)=>some none
 | .c (.d (.sl es))=>(unD es).map some
 | _=>none
theorem unK_ok {x:AV}{o:Option (List Nat)}(h:unK x=some o):x=nK .u32 o:=by
 unfold unK at h
 split at h
 ·cases h;rfl
 ·obtain⟨m,hm,rfl⟩:=Option.map_eq_some_iff.1 h
  rw [unD_ok hm];rfl
 ·cases h
def canB:List Nat→Bool
 | []=>true
 | d::l=>Nat.blt d 4294967296 && (match l with|[]=>Nat.blt 0 d|_=>true) && canB l
theorem canB_ok:∀ {l:List Nat},canB l=true→can 4294967296 l
 | [],_=>⟨fun d h=>by (cases h),fun x h=>by (cases h)⟩
 | d::l,h=>by
  simp only [canB,Bool.and_eq_true] at h
  obtain⟨⟨h1,h2⟩,h3⟩:=h
  obtain⟨g1,g2⟩:=canB_ok h3
  refine⟨ok_cons.2 ⟨Nat.le_of_ble_eq_true h1,g1⟩,fun x hx=>?_⟩
  cases l with
  | nil=>
   have:d=x:=by simpa using hx
   have h2':0<d:=Nat.le_of_ble_eq_true h2
   omega
  | cons e l=>exact g2 x (by simpa using hx)
def nOK (o:Option (List Nat)):Bool:=canB (dO o) && Nat.ble (dO o).length 1000000
theorem nOK_ok {o:Option (List Nat)}(h:nOK o=true):can 4294967296 (dO o)∧(dO o).length≤1000000:=by
 simp only [nOK,Bool.and_eq_true] at h
 exact⟨canB_ok h.1,Nat.le_of_ble_eq_true h.2⟩
def numA (x:AV):Option (Option (List Nat)):=(unK x).bind fun o=>bif nOK o then some o else none
theorem numA_ok {x:AV}{o:Option (List Nat)}(h:numA x=some o):x=nK .u32 o∧can 4294967296 (dO o)∧(dO o).length≤1000000:=by
 obtain⟨o',h1,h2⟩:=Option.bind_eq_some_iff.1 h
 cases hb:nOK o' with
 | false=>rw [hb] at h2;cases h2
 | true=>
  rw [hb] at h2
  simp only [cond_true,Option.some.injEq] at h2
  subst h2
  exact⟨unK_ok h1,nOK_ok hb⟩
def sp2 (f:Option (List Nat)→Option (List Nat)→Option AV):List AV→Option AV
 | [x,y]=>(numA x).bind fun a=>(numA y).bind fun b=>f a b
 | _=>none
def sp1 (f:Option (List Nat)→Option AV):List AV→Option AV
 | [x]=>(numA x).bind fun a=>f a
 | _=>none
theorem sp2_ok {m:Int}{g:FuncId}{f:Option (List Nat)→Option (List Nat)→Option AV}(hf:∀ a b x,can 4294967296 (dO a)→can 4294967296 (dO b)→(dO a).length≤1000000→(dO b).length≤1000000→f a b=some x→CallsP Tryz.prog (GG m) g [nK .u32 a,nK .u32 b] x∧x.pure=true)
 {us:List AV}{x:AV}(h:sp2 f us=some x) (lv:Key→LB):CallG Tryz.prog (GG m) g us lv (.ret x lv):=by
 unfold sp2 at h
 split at h
 ·obtain⟨a,ha,g1⟩:=Option.bind_eq_some_iff.1 h
  obtain⟨b,hb,g2⟩:=Option.bind_eq_some_iff.1 g1
  obtain⟨rfl,a1,a2⟩:=numA_ok ha
  obtain⟨rfl,b1,b2⟩:=numA_ok hb
  obtain⟨h1,h2⟩:=hf a b x a1 b1 a2 b2 g2
  exact CallG.of_CallsP (fun u hu=>by simp only [List.mem_cons,List.not_mem_nil,or_false] at hu;rcases hu with rfl|rfl <;> exact nK_pure _ _) h2 h1
 ·cases h
theorem sp1_ok {m:Int}{g:FuncId}{f:Option (List Nat)→Option AV}(hf:∀ a x,can 4294967296 (dO a)→(dO a).length≤1000000→f a=some x→CallsP Tryz.prog (GG m) g [nK .u32 a] x∧x.pure=true)
 {us:List AV}{x:AV}(h:sp1 f us=some x) (lv:Key→LB):CallG Tryz.prog (GG m) g us lv (.ret x lv):=by
 unfold sp1 at h
 split at h
 ·obtain⟨a,ha,g1⟩:=Option.bind_eq_some_iff.1 h
  obtain⟨rfl,a1,a2⟩:=numA_ok ha
  obtain⟨h1,h2⟩:=hf a x a1 a2 g1
  exact CallG.of_CallsP (fun u hu=>by simp only [List.mem_cons,List.not_mem_nil,or_false] at hu;rcases hu with rfl;exact nK_pure _ _) h2 h1
 ·cases h
def gMul:=sp2 fun a b=>some (nK .u32 (some (dig 4294967296 (val 4294967296 (dO a)*val 4294967296 (dO b)))))
def gAdd:=sp2 fun a b=>some (nK .u32 (some (dig 4294967296 (val 4294967296 (dO a)+val 4294967296 (dO b)))))
def gSub:=sp2 fun a b=>bif Nat.ble (val 4294967296 (dO b)) (val 4294967296 (dO a)) then some (nK .u32 (some (dig 4294967296 (val 4294967296 (dO a) - val 4294967296 (dO b))))) else none
def gCmp:=sp2 fun a b=>some (.c (.d (.int .i64 (cmpN (val 4294967296 (dO a)) (val 4294967296 (dO b))))))
def gIs1:=sp1 fun a=>some (.c (.d (.bool (Nat.beq (val 4294967296 (dO a)) 1))))
theorem gMul_ok (m:Int){us:List AV}{x:AV}(h:gMul us=some x) (lv:Key→LB):CallG Tryz.prog (GG m) 36 us lv (.ret x lv):=
 sp2_ok (fun a b x _ _ h1 h2 h=>by cases h;exact⟨exact_mul_ok _ a b (by omega) (by omega),nK_pure _ _⟩) h lv
theorem gAdd_ok (m:Int){us:List AV}{x:AV}(h:gAdd us=some x) (lv:Key→LB):CallG Tryz.prog (GG m) 39 us lv (.ret x lv):=
 sp2_ok (fun a b x _ _ h1 h2 h=>by cases h;exact⟨exact_add_ok _ a b (by omega) (by omega),nK_pure _ _⟩) h lv
theorem gSub_ok (m:Int){us:List AV}{x:AV}(h:gSub us=some x) (lv:Key→LB):CallG Tryz.prog (GG m) 41 us lv (.ret x lv):=
 sp2_ok (fun a b x _ _ h1 h2 h=>by
  cases hb:Nat.ble (val 4294967296 (dO b)) (val 4294967296 (dO a)) with
  | false=>rw [hb] at h;cases h
  | true=>
   rw [hb] at h;cases h
   exact⟨exact_sub_ok _ a b (by omega) (Nat.le_of_ble_eq_true hb),nK_pure _ _⟩) h lv
theorem gCmp_ok (m:Int){us:List AV}{x:AV}(h:gCmp us=some x) (lv:Key→LB):CallG Tryz.prog (GG m) 40 us lv (.ret x lv):=
 sp2_ok (fun a b x h3 h4 h1 h2 h=>by cases h;exact⟨exact_cmp_ok h3 h4,rfl⟩) h lv
theorem gIs1_ok (m:Int){us:List AV}{x:AV}(h:gIs1 us=some x) (lv:Key→LB):CallG Tryz.prog (GG m) 79 us lv (.ret x lv):=
 sp1_ok (fun a x h3 h1 h=>by
  cases h
  have:=exact_is1_ok (GG m) a h3
  rw [show decide (val 4294967296 (dO a)=1)=Nat.beq (val 4294967296 (dO a)) 1 by cases e:Nat.beq (val 4294967296 (dO a)) 1 with|true=>simp [Nat.eq_of_beq_eq_true e]|false=>simp [Nat.ne_of_beq_eq_false e]] at this
  exact⟨this,rfl⟩) h lv
def gMade:List AV→Option AV
 | [.c (.d (.bool neg)),x,y]=>(numA x).bind fun p=>(numA y).bind fun q=>bif Nat.blt 0 (val 4294967296 (dO q)) then some (ratV (mkRat (sgI neg (val 4294967296 (dO p))) (val 4294967296 (dO q)))) else none
 | _=>none
theorem gMade_ok (m:Int){us:List AV}{x:AV}(h:gMade us=some x) (lv:Key→LB):CallG Tryz.prog (GG m) 38 us lv (.ret x lv):=by
 unfold gMade at h
 split at h
 ·rename_i neg x' y'
  obtain⟨p,hp,g1⟩:=Option.bind_eq_some_iff.1 h
  obtain⟨q,hq,g2⟩:=Option.bind_eq_some_iff.1 g1
  clear h g1
  obtain⟨rfl,a1,a2⟩:=numA_ok hp
  obtain⟨rfl,b1,b2⟩:=numA_ok hq
  cases hb:Nat.blt 0 (val 4294967296 (dO q)) with
  | false=>rw [hb] at g2;cases g2
  | true=>
   rw [hb] at g2;cases g2
   have hv:0<val 4294967296 (dO q):=Nat.le_of_ble_eq_true hb
   have hq0:dO q≠[]:=fun e=>by rw [e] at hv;exact absurd hv (by decide)
   have:=rat_made (GG m) neg p q a1 b1 hq0 (by omega) (by omega)
   rw [nK_nC,nK_nC]
   exact CallG.of_CallsP (fun u hu=>by
    simp only [List.mem_cons,List.not_mem_nil,or_false] at hu
    rcases hu with rfl|rfl|rfl <;> simp) (by simp) this
 ·cases h
def gShl:List AV→Option AV
 | [x,.c (.d (.int .i64 (.ofNat k)))]=>(numA x).bind fun a=>bif Nat.ble k 1000000 then some (if dO a=[] then nK .u32 none else nK .u32 (some (dig 4294967296 (val 4294967296 (dO a)*2 ^ k)))) else none
 | _=>none
theorem gShl_ok (m:Int){us:List AV}{x:AV}(h:gShl us=some x) (lv:Key→LB):CallG Tryz.prog (GG m) 83 us lv (.ret x lv):=by
 unfold gShl at h
 split at h
 ·rename_i x' k
  obtain⟨a,ha,g1⟩:=Option.bind_eq_some_iff.1 h
  clear h
  obtain⟨rfl,a1,a2⟩:=numA_ok ha
  cases hb:Nat.ble k 1000000 with
  | false=>rw [hb] at g1;cases g1
  | true=>
   rw [hb] at g1;cases g1
   have hk:=Nat.le_of_ble_eq_true hb
   exact CallG.of_CallsP (fun u hu=>by
    simp only [List.mem_cons,List.not_mem_nil,or_false] at hu
    rcases hu with rfl|rfl
    ·exact nK_pure _ _
    ·rfl) (by split <;> exact nK_pure _ _) (exact_shl_ok (GG m) a k (by omega) (by omega))
 ·cases h
def gBits:=sp1 fun a=>some (.c (.d (.int .i64 (blen (val 4294967296 (dO a))))))
theorem gBits_ok (m:Int){us:List AV}{x:AV}(h:gBits us=some x) (lv:Key→LB):CallG Tryz.prog (GG m) 245 us lv (.ret x lv):=
 sp1_ok (fun a x h3 h1 h=>by cases h;exact⟨exact_bits_ok (GG m) a h3 (by omega),rfl⟩) h lv
def gDiv:=sp2 fun a b=>bif Nat.blt 0 (val 4294967296 (dO b)) then some (.tup [nK .u32 (divQ a b),nK .u32 (divR a b)]) else none
theorem gDiv_ok (m:Int){us:List AV}{x:AV}(h:gDiv us=some x) (lv:Key→LB):CallG Tryz.prog (GG m) 82 us lv (.ret x lv):=
 sp2_ok (fun a b x h3 h4 h1 h2 h=>by
  cases hb:Nat.blt 0 (val 4294967296 (dO b)) with
  | false=>rw [hb] at h;cases h
  | true=>
   rw [hb] at h;cases h
   have hv:0<val 4294967296 (dO b):=Nat.le_of_ble_eq_true hb
   exact⟨exact_div_ok _ a b h3 h4 (fun e=>by rw [e] at hv;exact absurd hv (by decide)) (by omega),tup2_pure _ _⟩) h lv
def gOf:List AV→Option AV
 | [.c (.d (.int .u64 (.ofNat n)))]=>bif Nat.blt n 18446744073709551616 then some (nK .u32 (some (dig 4294967296 n))) else none
 | _=>none
theorem gOf_ok (m:Int){us:List AV}{x:AV}(h:gOf us=some x) (lv:Key→LB):CallG Tryz.prog (GG m) 78 us lv (.ret x lv):=by
 unfold gOf at h
 split at h
 ·rename_i n
  cases hb:Nat.blt n 18446744073709551616 with
  | false=>rw [hb] at h;cases h
  | true=>
   rw [hb] at h;cases h
   exact CallG.of_CallsP (fun u hu=>by
    simp only [List.mem_cons,List.not_mem_nil,or_false] at hu
    rcases hu with rfl;rfl) (nK_pure _ _) (exact_of_ok (GG m) n (Nat.le_of_ble_eq_true hb))
 ·cases h
def gSmall:List AV→Option AV
 | [x,.c (.d (.int .u32 (.ofNat b)))]=>(numA x).bind fun a=>bif Nat.blt 0 b then some (.tup [nK .u32 (some (dig 4294967296 (val 4294967296 (dO a) / b))),.c (.d (.int .u32 ((val 4294967296 (dO a) % b:Nat):Int)))]) else none
 | _=>none
theorem gSmall_ok (m:Int){us:List AV}{x:AV}(h:gSmall us=some x) (lv:Key→LB):CallG Tryz.prog (GG m) 84 us lv (.ret x lv):=by
 unfold gSmall at h
 split at h
 ·rename_i x' b
  obtain⟨a,ha,g1⟩:=Option.bind_eq_some_iff.1 h
  clear h
  obtain⟨rfl,a1,a2⟩:=numA_ok ha
  cases hb:Nat.blt 0 b with
  | false=>rw [hb] at g1;cases g1
  | true=>
   rw [hb] at g1;cases g1
   have hb':0<b:=Nat.le_of_ble_eq_true hb
   exact CallG.of_CallsP (fun u hu=>by
    simp only [List.mem_cons,List.not_mem_nil,or_false] at hu
    rcases hu with rfl|rfl
    ·exact nK_pure _ _
    ·rfl) rfl (exact_small_ok (GG m) a b (by omega) (by omega))
 ·cases h
end Go.Am
namespace Go.Am
open Go.Proofs
noncomputable def forceDD {β:Type}(d:DV) (k:DV→β):β:=
 DV.casesOn (motive_1:=fun _=>β) d (fun b=>forceBool b fun b=>k (.bool b)) (fun q n=>forceInt n fun n=>k (.int q n)) (fun s=>forceL forceByte s fun s=>k (.str s)) (k .nilp) (fun cs=>k (.ptr cs)) (k .nilsl)
  (fun es=>forceL (forceL forceD) es fun es=>k (.sl es)) (fun cs=>k (.agg cs)) (k .nilIface) (fun t v=>k (.iface t v)) (k .nilFunc) (fun f a b=>k (.func f a b)) (k .nilmap)
theorem forceDD_eq {β:Type}(d:DV) (k:DV→β):forceDD d k=k d:=by
 cases d <;> simp only [forceDD] <;> first|exact forceBool_eq _ _|exact forceInt_eq _ _|exact forceL_eq _ forceByte_eq _ _|exact forceL_eq _ (forceL_eq _ forceD_eq) _ _|rfl
noncomputable def forceCC {β:Type}(x:CV) (k:CV→β):β:=
 CV.casesOn (motive:=fun _=>β) x (fun d=>forceDD d fun d=>k (.d d)) (fun a b=>k (.ptr a b)) (fun a b c d=>k (.lsl a b c d)) (fun a=>k (.mapr a)) (fun f a b=>k (.func f a b)) (fun t r=>k (.ifc t r)) (k .junk) (fun a b c d=>k (.lsf a b c d))
theorem forceCC_eq {β:Type}(x:CV) (k:CV→β):forceCC x k=k x:=by cases x <;> simp only [forceCC,forceDD_eq]
noncomputable def forceAA0 {β:Type}(x:AV) (k:AV→β):β:=
 AV.casesOn (motive_1:=fun _=>β) x (fun c=>forceCC c fun c=>k (.c c)) (fun l=>forceL forceCC l fun l=>k (.agg l)) (fun l=>k (.tup l)) (k .undef) (k .junk)
theorem forceAA0_eq {β:Type}(x:AV) (k:AV→β):forceAA0 x k=k x:=by cases x <;> simp only [forceAA0,forceCC_eq,forceL_eq _ forceCC_eq]
noncomputable def forceAA {β:Type}(x:AV) (k:AV→β):β:=
 AV.casesOn (motive_1:=fun _=>β) x (fun c=>forceCC c fun c=>k (.c c)) (fun l=>forceL forceCC l fun l=>k (.agg l)) (fun l=>forceL forceAA0 l fun l=>k (.tup l)) (k .undef) (k .junk)
theorem forceAA_eq {β:Type}(x:AV) (k:AV→β):forceAA x k=k x:=by cases x <;> simp only [forceAA,forceCC_eq,forceL_eq _ forceCC_eq,forceL_eq _ forceAA0_eq]
noncomputable def gF (g:List AV→Option AV)(us:List AV):Option AV:=Option.rec (motive:=fun _=>Option AV) none (fun x=>forceAA x some) (g us)
theorem gF_eq (g:List AV→Option AV)(us:List AV):gF g us=g us:=by
 unfold gF;cases g us with
 | none=>rfl
 | some x=>exact forceAA_eq _ _
theorem SpecOK.f {P:Program}{G:List (List DV)}{sp:Tb Spec}{ft:TypeId}(h:SpecOK P G sp ft) (f0:Nat) (g0:List AV→Option AV) (hg:∀ {us x},g0 us=some x→∀ lv,CallG P G f0 us lv (.ret x lv)):SpecOK P G (setS f0 (.pure (gF g0)) sp) ft:=
 h.more f0 (gF g0) fun us x hx lv _=>hg (by rw [gF_eq] at hx;exact hx) lv
noncomputable def spW:Tb Spec:=setS 36 (.pure (gF gMul)) (setS 39 (.pure (gF gAdd)) (setS 41 (.pure (gF gSub)) (setS 40 (.pure (gF gCmp)) (setS 79 (.pure (gF gIs1)) (setS 38 (.pure (gF gMade)) (setS 83 (.pure (gF gShl)) (setS 245 (.pure (gF gBits)) (setS 82 (.pure (gF gDiv)) (setS 78 (.pure (gF gOf)) (setS 84 (.pure (gF gSmall)) (setS 77 (.pure (gF gRead)) spA)))))))))))
theorem spW_ok (m:Int):SpecOK Tryz.prog (GG m) spW 0:=
 ((((((((((((spA_ok m).f 77 gRead (gRead_ok m)).f 84 gSmall (gSmall_ok m)).f 78 gOf (gOf_ok m)).f 82 gDiv (gDiv_ok m)).f 245 gBits (gBits_ok m)).f 83 gShl (gShl_ok m)).f 38 gMade (gMade_ok m)).f 79 gIs1 (gIs1_ok m)).f 40 gCmp (gCmp_ok m)).f 41 gSub (gSub_ok m)).f 39 gAdd (gAdd_ok m)).f 36 gMul (gMul_ok m)
end Go.Am
namespace Go.Am
open Go.Proofs N
def eqNL:List Nat→List Nat→Bool
 | [],[]=>true
 | a::l,b::m=>Nat.beq a b && eqNL l m
 | _,_=>false
theorem eqNL_eq:∀ {l m:List Nat},eqNL l m=true→l=m
 | [],[],_=>rfl
 | a::l,b::m,h=>by
  simp only [eqNL,Bool.and_eq_true] at h
  rw [Nat.eq_of_beq_eq_true h.1,eqNL_eq h.2]
 | [],_::_,h=>by cases h
 | _::_,[],h=>by cases h
def eqO:Option (List Nat)→Option (List Nat)→Bool
 | none,none=>true
 | some l,some m=>eqNL l m
 | _,_=>false
theorem eqO_eq {o p:Option (List Nat)}(h:eqO o p=true):o=p:=by
 cases o <;> cases p <;> first|rfl|cases h|exact congrArg some (eqNL_eq h)
def eqB2 (a b:Bool):Bool:=match a with|true=>b|false=>!b
theorem eqB2_eq {a b:Bool}(h:eqB2 a b=true):a=b:=by cases a <;> cases b <;> first|rfl|cases h
def rdQ (neg:Bool)(po qo:Option (List Nat)):Rat:=mkRat (sgI neg (val 4294967296 (dO po))) (match qo with|none=>1|some l=>val 4294967296 l)
def okQ (neg:Bool)(po qo:Option (List Nat))(x:Rat):Bool:=eqB2 neg (decide (x.num<0)) && (eqO po (natO x.num.natAbs) && (eqO qo (denO x.den) && (Nat.ble (dO po).length 1000 && Nat.ble (dO qo).length 1000)))
def unQ (a p q:CV):Option Rat:=match a with
 | .d (.bool neg)=>(unK (.c p)).bind fun po=>(unK (.c q)).bind fun qo=>bif okQ neg po qo (rdQ neg po qo) then some (rdQ neg po qo) else none
 | _=>none
theorem unQ_ok {a p q:CV}{x:Rat}(h:unQ a p q=some x):a=.d (.bool (decide (x.num<0)))∧p=nC (natO x.num.natAbs)∧q=nC (denO x.den)∧szR x 1000:=by
 unfold unQ at h
 split at h
 ·rename_i neg
  obtain⟨po,h1,k1⟩:=Option.bind_eq_some_iff.1 h
  obtain⟨qo,h2,k2⟩:=Option.bind_eq_some_iff.1 k1
  have e1:=unK_ok h1
  have e2:=unK_ok h2
  rw [nK_nC] at e1 e2
  cases hb:okQ neg po qo (rdQ neg po qo) with
  | false=>rw [hb] at k2;cases k2
  | true=>
   rw [hb] at k2
   simp only [cond_true,Option.some.injEq] at k2
   rw [k2] at hb
   simp only [okQ,Bool.and_eq_true] at hb
   obtain⟨b1,b2,b3,b4,b5⟩:=hb
   have c1:=eqB2_eq b1
   have c2:=eqO_eq b2
   have c3:=eqO_eq b3
   have d4:=Nat.le_of_ble_eq_true b4
   have d5:=Nat.le_of_ble_eq_true b5
   injection e1 with e1
   injection e2 with e2
   refine⟨by rw [c1],by rw [e1,c2],by rw [e2,c3],?_,?_⟩
   ·rw [c2,natO_len] at d4;exact d4
   ·rw [c3] at d5
    unfold denO at d5
    split at d5
    ·rename_i hd;rw [hd,nl_one];decide
    ·exact d5
 ·cases h
def unR:AV→Option Rat
 | .agg [a,p,q]=>unQ a p q
 | _=>none
theorem unR_ok {v:AV}{x:Rat}(h:unR v=some x):v=ratV x∧szR x 1000:=by
 unfold unR at h
 split at h
 ·obtain⟨rfl,rfl,rfl,hs⟩:=unQ_ok h
  exact⟨rfl,hs⟩
 ·cases h
def leQ (x y:Rat):Bool:=decide (x≤y)
def unI:AV→Option Iv
 | .agg [a,p,q,a',p',q']=>(unQ a p q).bind fun x=>(unQ a' p' q').bind fun y=>bif leQ x y then some (x,y) else none
 | _=>none
theorem unI_ok {v:AV}{a:Iv}(h:unI v=some a):v=ivV a∧a.sz 1000∧a.1≤a.2:=by
 unfold unI at h
 split at h
 ·obtain⟨x,h1,k1⟩:=Option.bind_eq_some_iff.1 h
  obtain⟨y,h2,k2⟩:=Option.bind_eq_some_iff.1 k1
  obtain⟨rfl,rfl,rfl,hs⟩:=unQ_ok h1
  obtain⟨rfl,rfl,rfl,hs'⟩:=unQ_ok h2
  cases hb:leQ x y with
  | false=>rw [hb] at k2;cases k2
  | true=>rw [hb] at k2;cases k2;exact⟨rfl,⟨hs,hs'⟩,of_decide_eq_true hb⟩
 ·cases h
theorem ratV_pure (x:Rat):(ratV x).pure=true:=nmA_pure _ _ _
theorem ivV_pure (a:Iv):(ivV a).pure=true:=iv_pure _ _ _ _ _ _
def q1 (f:Rat→Option AV):List AV→Option AV
 | [x]=>(unR x).bind f
 | _=>none
def q2 (f:Rat→Rat→Option AV):List AV→Option AV
 | [x,y]=>(unR x).bind fun a=>(unR y).bind fun b=>f a b
 | _=>none
def qi (f:Rat→Int→Option AV):List AV→Option AV
 | [x,.c (.d (.int .i64 n))]=>(unR x).bind fun a=>f a n
 | _=>none
def v1 (f:Iv→Option AV):List AV→Option AV
 | [x]=>(unI x).bind f
 | _=>none
def v2 (f:Iv→Iv→Option AV):List AV→Option AV
 | [x,y]=>(unI x).bind fun a=>(unI y).bind fun b=>f a b
 | _=>none
def vi (f:Iv→Int→Option AV):List AV→Option AV
 | [x,.c (.d (.int .i64 n))]=>(unI x).bind fun a=>f a n
 | _=>none
def vq (f:Iv→Rat→Option AV):List AV→Option AV
 | [x,y]=>(unI x).bind fun a=>(unR y).bind fun b=>f a b
 | _=>none
section
variable {m:Int}{g:FuncId}{us:List AV}{x:AV}
theorem q1_ok {f:Rat→Option AV}(hf:∀ a x,szR a 1000→f a=some x→CallsP Tryz.prog (GG m) g [ratV a] x∧x.pure=true) (h:q1 f us=some x) (lv:Key→LB):CallG Tryz.prog (GG m) g us lv (.ret x lv):=by
 unfold q1 at h;split at h
 ·obtain⟨a,ha,k1⟩:=Option.bind_eq_some_iff.1 h
  obtain⟨rfl,sa⟩:=unR_ok ha
  obtain⟨h1,h2⟩:=hf a x sa k1
  exact CallG.of_CallsP (fun u hu=>by simp only [List.mem_cons,List.not_mem_nil,or_false] at hu;subst hu;exact ratV_pure a) h2 h1
 ·cases h
theorem q2_ok {f:Rat→Rat→Option AV}(hf:∀ a b x,szR a 1000→szR b 1000→f a b=some x→CallsP Tryz.prog (GG m) g [ratV a,ratV b] x∧x.pure=true) (h:q2 f us=some x) (lv:Key→LB):CallG Tryz.prog (GG m) g us lv (.ret x lv):=by
 unfold q2 at h;split at h
 ·obtain⟨a,ha,k1⟩:=Option.bind_eq_some_iff.1 h
  obtain⟨b,hb,k2⟩:=Option.bind_eq_some_iff.1 k1
  obtain⟨rfl,sa⟩:=unR_ok ha
  obtain⟨rfl,sb⟩:=unR_ok hb
  obtain⟨h1,h2⟩:=hf a b x sa sb k2
  exact CallG.of_CallsP (fun u hu=>by simp only [List.mem_cons,List.not_mem_nil,or_false] at hu;rcases hu with rfl|rfl;exact ratV_pure a;exact ratV_pure b) h2 h1
 ·cases h
theorem qi_ok {f:Rat→Int→Option AV}(hf:∀ a n x,szR a 1000→f a n=some x→CallsP Tryz.prog (GG m) g [ratV a,.c (.d (.int .i64 n))] x∧x.pure=true) (h:qi f us=some x) (lv:Key→LB):CallG Tryz.prog (GG m) g us lv (.ret x lv):=by
 unfold qi at h;split at h
 ·rename_i n
  obtain⟨a,ha,k1⟩:=Option.bind_eq_some_iff.1 h
  obtain⟨rfl,sa⟩:=unR_ok ha
  obtain⟨h1,h2⟩:=hf a n x sa k1
  exact CallG.of_CallsP (fun u hu=>by simp only [List.mem_cons,List.not_mem_nil,or_false] at hu;rcases hu with rfl|rfl;exact ratV_pure a;rfl) h2 h1
 ·cases h
theorem v2_ok {f:Iv→Iv→Option AV}(hf:∀ a b x,a.sz 1000→b.sz 1000→a.1≤a.2→b.1≤b.2→f a b=some x→CallsP Tryz.prog (GG m) g [ivV a,ivV b] x∧x.pure=true) (h:v2 f us=some x) (lv:Key→LB):CallG Tryz.prog (GG m) g us lv (.ret x lv):=by
 unfold v2 at h;split at h
 ·obtain⟨a,ha,k1⟩:=Option.bind_eq_some_iff.1 h
  obtain⟨b,hb,k2⟩:=Option.bind_eq_some_iff.1 k1
  obtain⟨rfl,sa,la⟩:=unI_ok ha
  obtain⟨rfl,sb,lb⟩:=unI_ok hb
  obtain⟨h1,h2⟩:=hf a b x sa sb la lb k2
  exact CallG.of_CallsP (fun u hu=>by simp only [List.mem_cons,List.not_mem_nil,or_false] at hu;rcases hu with rfl|rfl;exact ivV_pure a;exact ivV_pure b) h2 h1
 ·cases h
theorem vi_ok {f:Iv→Int→Option AV}(hf:∀ a n x,a.sz 1000→a.1≤a.2→f a n=some x→CallsP Tryz.prog (GG m) g [ivV a,.c (.d (.int .i64 n))] x∧x.pure=true) (h:vi f us=some x) (lv:Key→LB):CallG Tryz.prog (GG m) g us lv (.ret x lv):=by
 unfold vi at h;split at h
 ·rename_i n
  obtain⟨a,ha,k1⟩:=Option.bind_eq_some_iff.1 h
  obtain⟨rfl,sa,la⟩:=unI_ok ha
  obtain⟨h1,h2⟩:=hf a n x sa la k1
  exact CallG.of_CallsP (fun u hu=>by simp only [List.mem_cons,List.not_mem_nil,or_false] at hu;rcases hu with rfl|rfl;exact ivV_pure a;rfl) h2 h1
 ·cases h
theorem vq_ok {f:Iv→Rat→Option AV}(hf:∀ a b x,a.sz 1000→szR b 1000→a.1≤a.2→f a b=some x→CallsP Tryz.prog (GG m) g [ivV a,ratV b] x∧x.pure=true) (h:vq f us=some x) (lv:Key→LB):CallG Tryz.prog (GG m) g us lv (.ret x lv):=by
 unfold vq at h;split at h
 ·obtain⟨a,ha,k1⟩:=Option.bind_eq_some_iff.1 h
  obtain⟨b,hb,k2⟩:=Option.bind_eq_some_iff.1 k1
  obtain⟨rfl,sa,la⟩:=unI_ok ha
  obtain⟨rfl,sb⟩:=unR_ok hb
  obtain⟨h1,h2⟩:=hf a b x sa sb la k2
  exact CallG.of_CallsP (fun u hu=>by simp only [List.mem_cons,List.not_mem_nil,or_false] at hu;rcases hu with rfl|rfl;exact ivV_pure a;exact ratV_pure b) h2 h1
 ·cases h
end
theorem szK {x:Rat}{L:Nat}(h:szR x 1000) (hL:1000≤L:=by decide):szR x L:=szR_mono h hL
theorem szI {a:Iv}{L:Nat}(h:a.sz 1000) (hL:1000≤L:=by decide):a.sz L:=Iv.sz_mono h hL
abbrev iA (n:Int):AV:=.c (.d (.int .i64 n))
theorem tupR_pure (x:Rat)(n:Int):(AV.tup [ratV x,iA n]).pure=true:=tup_num_pure _ _ _ _
noncomputable def spX:Tb Spec:=
 setS 10 (.pure (gF (q2 fun a b=>some (ratV (a+b))))) <|
 setS 149 (.pure (gF (q2 fun a b=>some (ratV (a - b))))) <|
 setS 50 (.pure (gF (q2 fun a b=>some (ratV (a*b))))) <|
 setS 27 (.pure (gF (q2 fun a b=>some (iA (cmpR a b))))) <|
 setS 25 (.pure (gF (q2 fun a b=>some (ratV (minR a b))))) <|
 setS 24 (.pure (gF (q2 fun a b=>some (ratV (maxR a b))))) <|
 setS 93 (.pure (gF (q2 fun a b=>some (.tup [ratV (a / b),iA (if b=0 then 8 else 0)])))) <|
 setS 124 (.pure (gF (q1 fun a=>some (ratV (-a))))) <|
 setS 162 (.pure (gF (q1 fun a=>some (ratV (absQ a))))) <|
 setS 163 (.pure (gF (qi fun a n=>some (ratV (downR a n))))) <|
 setS 164 (.pure (gF (qi fun a n=>some (ratV (upR a n))))) <|
 setS 123 (.pure (gF (v2 fun a b=>some (ivV (a.add b))))) <|
 setS 204 (.pure (gF (v2 fun a b=>some (ivV (a.sub b))))) <|
 setS 202 (.pure (gF (v2 fun a b=>some (ivV (a.mul b))))) <|
 setS 276 (.pure (gF (v2 fun a b=>some (ivV (a.join b))))) <|
 setS 125 (.pure (gF (vi fun a n=>some (ivV (downR a.1 n,upR a.2 n))))) <|
 setS 26 (.pure (gF (vq fun a b=>some (.c (.d (.bool (decide (a.has b)))))))) spW
theorem spX_ok (m:Int):SpecOK Tryz.prog (GG m) spX 0:=
 (((((((((((((((((spW_ok m).f _ _ (vq_ok fun a b x sa sb la h=>by cases h;exact⟨iv_Has _ a b (szI sa) (szK sb),rfl⟩)).f _ _ (vi_ok fun a n x sa la h=>by cases h;exact⟨iv_Out _ a n (szI sa),ivV_pure _⟩)).f _ _
  (v2_ok fun a b x sa sb la lb h=>by cases h;exact⟨iv_Join _ a b (szI sa) (szI sb),ivV_pure _⟩)).f _ _
  (v2_ok fun a b x sa sb la lb h=>by cases h;exact⟨iv_Mul _ a b (szI sa) (szI sb) la lb,ivV_pure _⟩)).f _ _
  (v2_ok fun a b x sa sb la lb h=>by cases h;exact⟨iv_Sub _ a b (szI sa) (szI sb),ivV_pure _⟩)).f _ _
  (v2_ok fun a b x sa sb la lb h=>by cases h;exact⟨iv_Add _ a b (szI sa) (szI sb),ivV_pure _⟩)).f _ _
  (qi_ok fun a n x sa h=>by cases h;exact⟨rat_Up _ a n (szK sa),ratV_pure _⟩)).f _ _
  (qi_ok fun a n x sa h=>by cases h;exact⟨rat_Down _ a n (szK sa),ratV_pure _⟩)).f _ _
  (q1_ok fun a x sa h=>by cases h;exact⟨rat_Ab _ a,ratV_pure _⟩)).f _ _
  (q1_ok fun a x sa h=>by cases h;exact⟨rat_Neg _ a,ratV_pure _⟩)).f _ _
  (q2_ok fun a b x sa sb h=>by cases h;exact⟨rat_Quo _ a b (szK sa) (szK sb),tupR_pure _ _⟩)).f _ _
  (q2_ok fun a b x sa sb h=>by cases h;exact⟨rat_Max _ a b (szK sa) (szK sb),ratV_pure _⟩)).f _ _
  (q2_ok fun a b x sa sb h=>by cases h;exact⟨rat_Min _ a b (szK sa) (szK sb),ratV_pure _⟩)).f _ _
  (q2_ok fun a b x sa sb h=>by cases h;exact⟨rat_Cmp _ a b (szK sa) (szK sb),rfl⟩)).f _ _
  (q2_ok fun a b x sa sb h=>by cases h;exact⟨rat_Mul _ a b (szK sa) (szK sb),ratV_pure _⟩)).f _ _
  (q2_ok fun a b x sa sb h=>by cases h;exact⟨rat_Sub _ a b (szK sa) (szK sb),ratV_pure _⟩)).f _ _
  (q2_ok fun a b x sa sb h=>by cases h;exact⟨rat_Add _ a b (szK sa) (szK sb),ratV_pure _⟩)
theorem evX_ok (m:Int)(n:Nat):CallOK Tryz.prog (GG m) (evK Tryz.prog (GG m) spX 0 n):=evK_ok mixed (spX_ok m) n
abbrev txA (k:Nat):AV:=.c (.d (.sl [[.int .u32 (.ofNat k)]]))
theorem text_dig (m:Int)(k:Nat)(h1:1≤k)(h2:k≤9):CallsP Tryz.prog (GG m) 45 [txA k] (.c (.d (.str [UInt8.ofNat (48+k)]))):=by
 have h:k=1∨k=2∨k=3∨k=4∨k=5∨k=6∨k=7∨k=8∨k=9:=by omega
 rcases h with rfl|rfl|rfl|rfl|rfl|rfl|rfl|rfl|rfl <;> exact CallsP.of_ev (evX_ok m 40) (by kernel_rfl)
theorem text_nil (m:Int):CallsP Tryz.prog (GG m) 45 [.c (.d .nilsl)] (.c (.d (.str [48]))):=CallsP.of_ev (evX_ok m 40) (by kernel_rfl)
def gText:List AV→Option AV
 | [.c (.d .nilsl)]=>some (.c (.d (.str [48])))
 | [.c (.d (.sl [[.int .u32 (.ofNat k)]]))]=>bif Nat.ble 1 k && Nat.ble k 9 then some (.c (.d (.str [UInt8.ofNat (48+k)]))) else none
 | _=>none
theorem gText_ok (m:Int){us:List AV}{x:AV}(h:gText us=some x) (lv:Key→LB):CallG Tryz.prog (GG m) 45 us lv (.ret x lv):=by
 unfold gText at h
 split at h
 ·cases h
  exact CallG.of_CallsP (fun u hu=>by simp only [List.mem_cons,List.not_mem_nil,or_false] at hu;subst hu;rfl) rfl (text_nil m)
 ·rename_i k
  cases hb:Nat.ble 1 k && Nat.ble k 9 with
  | false=>rw [hb] at h;cases h
  | true=>
   rw [hb] at h;cases h
   simp only [Bool.and_eq_true] at hb
   exact CallG.of_CallsP (fun u hu=>by simp only [List.mem_cons,List.not_mem_nil,or_false] at hu;subst hu;rfl) rfl (text_dig m k (Nat.le_of_ble_eq_true hb.1) (Nat.le_of_ble_eq_true hb.2))
 ·cases h
def gPar:List AV→Option AV
 | [.c (.d (.str s))]=>some (.tup [ratV (ratP s),iA (ratE s)])
 | _=>none
theorem gPar_ok (m:Int){us:List AV}{x:AV}(h:gPar us=some x) (lv:Key→LB):CallG Tryz.prog (GG m) 34 us lv (.ret x lv):=by
 unfold gPar at h
 split at h
 ·rename_i s
  cases h
  exact CallG.of_CallsP (fun u hu=>by simp only [List.mem_cons,List.not_mem_nil,or_false] at hu;subst hu;rfl) (tupR_pure _ _) (rat_Parse m s)
 ·cases h
noncomputable def spY:Tb Spec:=setS 45 (.pure (gF gText)) (setS 34 (.pure (gF gPar)) spX)
theorem evY_ok (m:Int)(n:Nat):CallOK Tryz.prog (GG m) (evK Tryz.prog (GG m) spY 0 n):=evK_ok mixed (((spX_ok m).f _ _ (gPar_ok m)).f _ _ (gText_ok m)) n
end Go.Am
