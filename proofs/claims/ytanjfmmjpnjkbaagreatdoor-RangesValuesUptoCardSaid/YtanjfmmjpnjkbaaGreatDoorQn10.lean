/- Helpers: an abstract machine for Go functions, and walks of functions of the program. -/
import Derived.Test.YtanjfmmjpnjkbaaGreatDoorQn09
import Derived.ChangeMaps5
import Derived.Deep.DeepHandedRow

set_option linter.all false
set_option maxHeartbeats 8000000
set_option maxRecDepth 100000
namespace Go.Am
open Go.Am.Ty Go.Proofs N
theorem FinD.cd3 {c:Ctx}{fn:Func}{x X Y Z:AV}{t u v k:Nat}{own fz:Bool}{T U:TypeId}{cs:List CV}{s:LSt}{κ:Nat}{ks:List Key}(hr:fn.results=#[.tmp t,.cell u T,.tmp v]) (hx:s.fr t=X) (hu:s.fr u=.c (.ptr k 0)) (hk:s.lv k=.cells own fz U cs)
 (hy:loadA c.P T (cs.drop 0)=some Y) (hz:s.fr v=Z) (hn:X.noTup=true) (hm:Y.noTup=true) (ho:Z.noTup=true) (hd:dRes s.lv (.tup [X,Y,Z])=some (x,ks)):FinD c fn x .ret s κ:=
 ⟨.tup [X,Y,Z],ks,by rw [hr];simp only [resA,resL,resV,hx,hu,hk,hy,hz];simp [hn,hm,ho],hd⟩
theorem loadSl (x:CV):loadA Tryz.prog 48 [x]=some (.c x):=by simp
theorem CallDo.outer {c0:Ctx}{fid:FuncId}{lv:Key→LB}{K:AV→List (Key × LB)→List Key→Nat→Prop}(κ':Nat) {step n M j:Nat}{l:List Iv}{c c':Sq}
 (hc:CallsS c0.P c0.G fid [.c (.func (.func 58) [] [.ptr 4 0,.ptr 5 0]),.c (.ptr 0 0),.c (.ptr 2 0),.c (.ptr 3 0)] (eB6 l j M step n (qK c M)) (.ret (.tup []) (eB6 l j M step n (qK c' M)) []))
 (h0:lv 0=.cells true false 48 [.lsl 20 0 M 3]) (h1:lv 20=.cells true false 27 (qK c M)) (h2:lv 30=.cells true false 3 [.d (.int .i64 (step:Int))]) (h3:lv 41=.cells true false 3 [.d (.int .i64 (n:Int))]) (h4:lv 1=.cells true false 89 [scC (iO l)]) (h5:lv 40=.cells true false 3 [.d (.int .i64 (j:Int))]) (hh:lv 9=.hole)
 (hK:K (.tup []) [(0,.cells true false 48 [.lsl 20 0 M 3]),(20,.cells true false 27 (qK c' M)),(30,.cells true false 3 [.d (.int .i64 (step:Int))]),(41,.cells true false 3 [.d (.int .i64 (n:Int))]),(1,.cells true false 89 [scC (iO l)]),(40,.cells true false 3 [.d (.int .i64 (j:Int))])] [9,0,20,30,41,1,40] κ') :
 CallDo c0 fid [.c (.func (.func 58) [] [.ptr 1 0,.ptr 40 0]),.c (.ptr 0 0),.c (.ptr 30 0),.c (.ptr 41 0)] lv K:=by
 obtain⟨g,hg⟩:∃ g,keyMap [0,20,30,41,1,40] [] 9=g:=⟨_,rfl⟩
 have g0:g 0=0:=by rw [← hg];rfl
 have g1:g 1=20:=by rw [← hg];rfl
 have g2:g 2=30:=by rw [← hg];rfl
 have g3:g 3=41:=by rw [← hg];rfl
 have g4:g 4=1:=by rw [← hg];rfl
 have g5:g 5=40:=by rw [← hg];rfl
 have er:∀ n,rdK lv n (scC (iO l))=[]:=fun n=>by cases n <;> cases iO l <;> rfl
 refine CallDo.passM κ' 9 true [0,20,30,41,1,40] [] _ _ _ (us:=[.c (.func (.func 58) [] [.ptr 4 0,.ptr 5 0]),.c (.ptr 0 0),.c (.ptr 2 0),.c (.ptr 3 0)]) [9,0,20,30,41,1,40] hc (by simp) (by simp) rfl rfl rfl (by simp) ?_ (by simp) hh ?_ ?_ ?_ rfl ?_ ?_ (by simp) ?_
 ·rw [hg]
  intro i q1 q2
  match i,q1,q2 with
  | 0,_,_=>
   show (lv 0).like _ _
   rw [h0]
   exact LB.like_cells.2 ⟨rfl,rfl,by show _=[CV.lsl (g 1) 0 M 3];rw [g1],fun h=>by cases h⟩
  | 1,_,_=>
   show (lv 20).like _ _
   rw [h1]
   exact LB.like_cells.2 ⟨rfl,rfl,(qK_ren c M g).symm,fun h=>by cases h⟩
  | 2,_,_=>
   show (lv 30).like _ _
   rw [h2]
   exact LB.like_cells.2 ⟨rfl,rfl,rfl,fun h=>by cases h⟩
  | 3,_,_=>
   show (lv 41).like _ _
   rw [h3]
   exact LB.like_cells.2 ⟨rfl,rfl,rfl,fun h=>by cases h⟩
  | 4,_,_=>
   show (lv 1).like _ _
   rw [h4]
   exact LB.like_cells.2 ⟨rfl,rfl,by simp,fun h=>by cases h⟩
  | 5,_,_=>
   show (lv 40).like _ _
   rw [h5]
   exact LB.like_cells.2 ⟨rfl,rfl,rfl,fun h=>by cases h⟩
 ·intro b hb
  simp only [List.mem_cons,List.not_mem_nil,or_false] at hb
  rcases hb with rfl|rfl|rfl|rfl|rfl|rfl <;> rfl
 ·intro b hb
  simp only [List.cons_append,List.nil_append,List.append_nil,List.mem_cons,List.not_mem_nil,or_false] at hb
  rcases hb with rfl|rfl|rfl|rfl|rfl|rfl|rfl|rfl|rfl|rfl|rfl|rfl <;> exact fun h=>by cases h
 ·intro _ k hk
  simp only [List.mem_cons,List.not_mem_nil,or_false] at hk
  rcases hk with rfl|rfl|rfl|rfl|rfl|rfl
  ·rw [h0];rfl
  ·rw [h1];rfl
  ·rw [h2];rfl
  ·rw [h3];rfl
  ·rw [h4];rfl
  ·rw [h5];rfl
 ·rw [hg]
  intro i q1 q2
  match i,q1,q2 with
  | 0,_,_=>exact⟨rfl,by show _=AV.c (.func (.func 58) [] [.ptr (g 4) 0,.ptr (g 5) 0]);rw [g4,g5];rfl⟩
  | 1,_,_=>exact⟨rfl,by show _=AV.c (.ptr (g 0) 0);rw [g0];rfl⟩
  | 2,_,_=>exact⟨rfl,by show _=AV.c (.ptr (g 2) 0);rw [g2];rfl⟩
  | 3,_,_=>exact⟨rfl,by show _=AV.c (.ptr (g 3) 0);rw [g3];rfl⟩
 ·intro a ha k hk
  simp only [List.mem_cons,List.not_mem_nil,or_false] at ha
  rcases ha with rfl|rfl|rfl|rfl
  ·have hk:k∈rdK lv 8 (.func (.func 58) [] [.ptr 1 0,.ptr 40 0]):=hk
   cases hk
  ·have hk:k∈rdK lv 8 (.ptr 0 0):=hk
   simp only [rdK,h0,h1,List.flatMap_cons,List.flatMap_nil,rdK_qc,List.append_nil,List.mem_cons,List.not_mem_nil,or_false] at hk
   rcases hk with rfl|rfl <;> simp
  ·have hk:k∈rdK lv 8 (.ptr 30 0):=hk
   simp only [rdK,h2,List.flatMap_cons,List.flatMap_nil,List.append_nil,List.mem_cons,List.not_mem_nil,or_false] at hk
   subst hk;simp
  ·have hk:k∈rdK lv 8 (.ptr 41 0):=hk
   simp only [rdK,h3,List.flatMap_cons,List.flatMap_nil,List.append_nil,List.mem_cons,List.not_mem_nil,or_false] at hk
   subst hk;simp
 ·rw [hg]
  have e:backW g true [0,20,30,41,1,40] (eB6 l j M step n (qK c' M))++backW g true [] []=[(0,.cells true false 48 [.lsl 20 0 M 3]),(20,.cells true false 27 (qK c' M)),(30,.cells true false 3 [.d (.int .i64 (step:Int))]),(41,.cells true false 3 [.d (.int .i64 (n:Int))]),(1,.cells true false 89 [scC (iO l)]),(40,.cells true false 3 [.d (.int .i64 (j:Int))])]:=by
   simp [backW,LB.fix,g1,qK_ren]
  rw [e]
  exact hK
theorem two_pow {t K:Nat}(h:2 ^ t≤K) (hK:K≤600):t≤9:=by
 refine Nat.le_of_lt_succ ((Nat.pow_lt_pow_iff_right (by decide:1<2)).1 (Nat.lt_of_le_of_lt (Nat.le_trans h hK) (by decide)))
theorem coefs_d (m:Int)(z:Ev)(ts:List Trm)(is:List Iv)(N M:Nat)(c0:Sq){R:AV}(hil:is.length=N) (hiz:∀ a∈is,a.z) (hN:N≤1048576) (hM:M=sizN (dgL ts N)) (h600:M≤600) (hdg:∀ j,dgX ts j≤16) (hb0:Bnd 0 c0)
 (hR:R=.tup [intsA (dgX ts) N,numsA ((List.range M).map (brn (axL ts is) c0)),.c (.d (.int .i64 0))]) :
 AW (⟨Tryz.prog,GG m,z.w,z.F,z.W,Tryz.f20.ntmps,fun _=>.hole,z.b,z.d⟩:Ctx) none (cW [1,1,1,1,1,1,1,1,1,1] Tryz.f20)
  ⟨frOf [(4,.c (.lsl 2 0 N 1)),(5,.c (.ptr 0 0)),(7,.c (.ptr 1 0)),(12,.c (.d (.int .i64 M)))],
   upd (upd (upd (upd (fun _=>.hole) 0 (.cells true false 48 [.lsl 20 0 M 3])) 1 (.cells true false 89 [scC (iO is)])) 2 (.cells true false 3 (jK (dgX ts) N))) 20 (.cells true false 27 (qK c0 M))⟩ 30
  (FinD (⟨Tryz.prog,GG m,z.w,z.F,z.W,Tryz.f20.ntmps,fun _=>.hole,z.b,z.d⟩:Ctx) Tryz.f20 R):=by
 conv=>
  enter [3]
  whnf
 subst hR
 have hlen:=dgL_len ts N
 have hd0:sizN ((dgL ts N).drop 0)=M:=hM.symm
 refine AW.f1 @setSeg.eq_1 ?_
 refine AW.seqK fun K hK=>AW.seqK fun K1 hK1=>AW.rP ?_
 simp
 repeat refine and_o ?_
 apply hK1
 refine AW.block ?_
 refine AW.loopV (fun (d:Nat × Sq)=>⟨frOf [(4,.c (.lsl 2 0 N 1)),(5,.c (.ptr 0 0)),(7,.c (.ptr 1 0)),(22,.c (.ptr 30 0)),(124,.c (.lsl 2 0 N 1)),(125,.c (.d (.int .i64 N))),(126,.c (.d (.int .i64 d.1)))],
  upd (upd (upd (upd (upd (fun _=>.hole) 0 (.cells true false 48 [.lsl 20 0 M 3])) 1 (.cells true false 89 [scC (iO is)])) 2 (.cells true false 3 (jK (dgX ts) N))) 20 (.cells true false 27 (qK d.2 M))) 30 (.cells true false 3 [.d (.int .i64 (sizN ((dgL ts N).drop d.1):Int))])⟩) 40
  (fun d=>d.1≤N∧brn ((axL ts is).drop d.1) d.2=brn (axL ts is) c0∧∃ t,Bnd t d.2∧2 ^ t≤sizN ((dgL ts N).take d.1)) (fun d=>N - d.1) (0,c0) (Le.mk2 _ (by rw [hd0])) ⟨Nat.zero_le _,rfl,0,hb0,by simp [sizN]⟩ ?_
 rintro⟨j,c⟩ ⟨hj,hbr,t,hbd,ht⟩
 try simp only at hj hbr hbd ht ⊢
 refine AW.q ?_
 refine AW.seqK fun K2 hK2=>?_
 by_cases hlt:j<N
 ·have hlt':(j:Int)<(N:Int):=by omega
  have hjl:j<(dgL ts N).length:=by rw [hlen];exact hlt
  have hji:j<is.length:=by omega
  have hja:j<(axL ts is).length:=by rw [axL_len];exact hji
  have s1:sizN ((dgL ts N).drop j)=(dgX ts j+1)*sizN ((dgL ts N).drop (j+1)):=by rw [List.drop_eq_getElem_cons hjl,dgL_get];rfl
  have s2:=sizN_take hjl
  have s3:sizN ((dgL ts N).take j)*sizN ((dgL ts N).drop j)=M:=by rw [← sizN_app,List.take_append_drop,hM]
  have s4:sizA ((axL ts is).drop (j+1))=sizN ((dgL ts N).drop (j+1)):=by rw [sizA_N,List.map_drop,axL_n,hil]
  rw [dgL_get] at s2
  rw [List.drop_eq_getElem_cons hja,axL_get] at hbr
  have hza:=hiz _ (List.getElem_mem hji)
  have hnd:=hdg j
  have ht9:=two_pow (Nat.le_trans ht (sizN_take_le _ _)) (by rw [← hM];exact h600)
  have x2:=ldJ' (f:=dgX ts) hlt
  obtain⟨a,ha⟩:∃ a,is[j]=a:=⟨_,rfl⟩
  obtain⟨n,hn⟩:∃ n,dgX ts j=n:=⟨_,rfl⟩
  obtain⟨st,hst⟩:∃ st,sizN ((dgL ts N).drop (j+1))=st:=⟨_,rfl⟩
  obtain⟨S,hS⟩:∃ S,sizN ((dgL ts N).drop j)=S:=⟨_,rfl⟩
  have hst0:0<st:=by rw [← hst];exact sizN_pos _
  rw [hS,hst,hn] at s1
  rw [hS] at s3
  rw [hst] at s4
  rw [hn] at s2 hnd
  simp only [ha,hn] at hbr hza
  have hbr2:brn ((axL ts is).drop (j+1)) (tr n st (cnv n a.1 (a.2 - a.1)) c)=brn (axL ts is) c0:=by rw [← hbr,← s4];rfl
  have hbd2:=hbd.step (s:=st) hnd hza.1 (Iv.z_sub hza)
  have ht2:2 ^ (if n=0 then t else t+1)≤sizN ((dgL ts N).take (j+1)):=by
   rw [s2]
   split
   ·exact Nat.le_trans ht (Nat.le_mul_of_pos_right _ (by omega))
   ·rw [Nat.pow_succ];exact Nat.mul_le_mul ht (by omega)
  have hSM:S≤M:=by rw [← s3];exact Nat.le_mul_of_pos_left _ (sizN_pos _)
  have hstS:st≤S:=by rw [s1];exact Nat.le_mul_of_pos_left _ (by omega)
  have cc:=coefs1_ok m is j a c M st n hji ha hza hst0 (by omega) (by omega) ⟨_,by rw [← s1];exact s3.symm⟩ (L:=10000000) (by omega) (by omega) (by omega) (fun A hA=>hbd.line ht9 hnd hza.1 (Iv.z_sub hza) A hA)
  have fn:=w64 (n:=(n:Int)+1) (by omega) (by omega)
  have fq:(S:Int).tdiv ((n:Int)+1)=(st:Int):=by
   rw [s1]
   show ((((n+1)*st:Nat):Int)).tdiv ((n+1:Nat):Int)=(st:Int)
   rw [← Int.ofNat_tdiv,Nat.mul_div_cancel_left _ (by omega)]
  have fw:=w64 (n:=(st:Int)) (by omega) (by omega)
  have f126:=w64 (n:=(j:Int)+1) (by omega) (by omega)
  obtain⟨lv,hlv⟩:∃ lv,upd (upd (upd (upd (upd (fun _=>LB.hole) 0 (.cells true false 48 [.lsl 20 0 M 3])) 1 (.cells true false 89 [scC (iO is)])) 2 (.cells true false 3 (jK (dgX ts) N))) 20 (.cells true false 27 (qK c M))) 30 (.cells true false 3 [.d (.int .i64 (S:Int))])=lv:=⟨_,rfl⟩
  have q2:lv 2=.cells true false 3 (jK (dgX ts) N):=by rw [← hlv];rfl
  have q30:lv 30=.cells true false 3 [.d (.int .i64 (S:Int))]:=by rw [← hlv];rfl
  have q40:lv 40=.hole:=by rw [← hlv];rfl
  have q41:lv 41=.hole:=by rw [← hlv];rfl
  have x1:=ixJ (n:=N) (i:=j) q2
  rw [eq_true hlt] at x1
  rw [hn] at x2
  rw [hS,hlv]
  refine AW.fy (by simp [hlt'] <;> omega) (AW.skip ?_)
  simp
  repeat refine and_o ?_
  apply hK2
  refine AW.seqK fun K5 hK5=>AW.block (AW.seqK fun K6 hK6=>AW.rP ?_)
  simp [x1,x2,q2,q40,q41,setSeg]
  repeat refine and_o ?_
  apply hK6
  rw [← hlv]
  refine AW.seqK fun K6 hK6=>AW.rP ?_
  simp [fn,fq,fw,setSeg]
  repeat refine and_o ?_
  apply hK6
  refine AW.seqK fun K6 hK6=>AW.rP ?_
  simp [mkfA,refL,refA,funA,deepRefs]
  repeat refine and_o ?_
  apply hK6
  refine AW.rP ?_
  simp [mkfA,refL,refA,funA,deepRefs]
  refine⟨by simp,?_⟩
  show CallDo _ 57 [.c (.func (.func 58) [] [.ptr 1 0,.ptr 40 0]),.c (.ptr 0 0),.c (.ptr 30 0),.c (.ptr 41 0)] _ _
  refine CallDo.outer 60 cc ?_ ?_ ?_ ?_ ?_ ?_ ?_ ?_
  ·rfl
  ·rfl
  ·rfl
  ·rfl
  ·rfl
  ·rfl
  ·rfl
  simp
  repeat refine and_o ?_
  apply hK5
  refine AW.rP ?_
  simp [f126]
  exact⟨j+1,tr n st (cnv n a.1 (a.2 - a.1)) c,Le.keys [(0,0,.cells true false 48 [.lsl 20 0 M 3]),(1,1,.cells true false 89 [scC (iO is)]),(2,2,.cells true false 3 (jK (dgX ts) N)),(20,20,.cells true false 27 (qK (tr n st (cnv n a.1 (a.2 - a.1)) c) M)),(30,30,.cells true false 3 [.d (.int .i64 (st:Int))])] 9 _ (by rw [hst];rfl) rfl (by simp) (by simp) rfl (by
   intro e he
   simp only [List.mem_cons,List.not_mem_nil,or_false] at he
   rcases he with rfl|rfl|rfl|rfl|rfl
   ·exact LB.like_cells.2 ⟨rfl,rfl,rfl,id⟩
   ·exact LB.like_cells.2 ⟨rfl,rfl,by simp,id⟩
   ·exact LB.like_cells.2 ⟨rfl,rfl,(jK_ren _ _ _).symm,id⟩
   ·exact LB.like_cells.2 ⟨rfl,rfl,(qK_ren _ _ _).symm,id⟩
   ·exact LB.like_cells.2 ⟨rfl,rfl,rfl,id⟩) (by simp [kmap]),⟨by omega,hbr2,_,hbd2,ht2⟩,by omega⟩
 have hje:j=N:=by omega
 have hnil:(axL ts is).drop j=[]:=List.drop_eq_nil_of_le (by rw [axL_len];omega)
 rw [hnil] at hbr
 have hbr:c=brn (axL ts is) c0:=hbr
 subst hbr
 refine AW.fn (by simp [hlt] <;> omega) (AW.exit ?_)
 simp
 repeat refine and_o ?_
 apply hK
 refine AW.seqK fun K hK=>?_
 refine AW.drawP mixed (by kernel_rfl) rfl ?_
 simp [setSeg]
 refine⟨by kernel_rfl,?_⟩
 repeat refine and_o ?_
 apply hK
 refine AW.ret (κ:=0) (FinD.cd3 (κ:=0) (k:=0) (own:=true) (fz:=false) (U:=48) (cs:=[.lsl 20 0 M 3]) (X:=.c (.lsl 2 0 N 1)) (Y:=.c (.lsl 20 0 M 3)) (Z:=.c (.d (.int .i64 0))) (ks:=[2]++[20]) rfl (by simp) (by simp) (by simp) (loadSl _) (by simp) rfl rfl rfl ?_)
 exact (fun (lv:Key→LB) (h2:lv 2=.cells true false 3 (jK (dgX ts) N)) (h20:lv 20=.cells true false 27 (qK (brn (axL ts is) c0) M))=>dRes3 (lv:=lv) (e:=0) (dRes_jK h2 (by omega)) (dRes_qK h20 (by omega))) _ rfl rfl
theorem dRes_e3 (lv:Key→LB)(e:Int):dRes lv (.tup [.c (.d .nilsl),.c (.d .nilsl),.c (.d (.int .i64 e))])=some (.tup [.c (.d .nilsl),.c (.d .nilsl),.c (.d (.int .i64 e))],[]):=rfl
theorem qK_zero (M:Nat):repl M [CV.d (.bool false),CV.d .nilsl,CV.d .nilsl]=qK (fun _=>0) M:=by
 have h:∀ M,repl M [CV.d (.bool false),CV.d .nilsl,CV.d .nilsl]++[CV.d (.bool false),CV.d .nilsl,CV.d .nilsl]=[CV.d (.bool false),CV.d .nilsl,CV.d .nilsl]++repl M [CV.d (.bool false),CV.d .nilsl,CV.d .nilsl]:=by
  intro M
  induction M with
  | zero=>rfl
  | succ M ih=>
   show ([CV.d (.bool false),CV.d .nilsl,CV.d .nilsl]++repl M _)++_=_++([CV.d (.bool false),CV.d .nilsl,CV.d .nilsl]++repl M _)
   rw [List.append_assoc,ih]
 induction M with
 | zero=>rfl
 | succ M ih=>
  show [CV.d (.bool false),CV.d .nilsl,CV.d .nilsl]++repl M _=qK _ M++_
  rw [← h,ih];rfl
def cfS (l:List Tm)(N i:Nat):Sq:=trm (fun _=>0) ((l.take i).map tmT) (plN (dgL (l.map tmT) N))
theorem cfS_zero (l:List Tm)(N:Nat):cfS l N 0=fun _=>0:=rfl
theorem cfS_all (l:List Tm)(N:Nat):cfS l N l.length=cfP (l.map tmT) N:=by unfold cfS;rw [List.take_length];rfl
theorem cfS_succ {l:List Tm}{i:Nat}(N:Nat) (h:i<l.length):cfS l N (i+1)=fun p=>if p=plN (dgL (l.map tmT) N) (tmT l[i]).2 then cfS l N i p+(tmT l[i]).1 else cfS l N i p:=by
 unfold cfS;rw [take_tmT h,trm_snoc]
theorem coefs_c (m:Int)(z:Ev)(bt:Option (List Tm))(is:List Iv)(N:Nat){R:AV}(hil:is.length=N) (hiz:∀ a∈is,a.z) (hN:N≤1048576) (h200:(tmL bt).length≤200) (hok:∀ t∈tmL bt,TmOK N t)
 (hR1:600<cfM ((tmL bt).map tmT) N→R=.tup [.c (.d .nilsl),.c (.d .nilsl),.c (.d (.int .i64 3))])
 (hR2:¬ 600<cfM ((tmL bt).map tmT) N→R=.tup [intsA (dgX ((tmL bt).map tmT)) N,numsA (cfL ((tmL bt).map tmT) is),.c (.d (.int .i64 0))]) :
 AW (⟨Tryz.prog,GG m,z.w,z.F,z.W,Tryz.f20.ntmps,fun _=>.hole,z.b,z.d⟩:Ctx) none (cW [1,1,1,1,1,1] Tryz.f20)
  ⟨frOf [(0,.c (scC (tmO bt))),(4,.c (.lsl 2 0 N 1)),(5,.c (.ptr 0 0)),(7,.c (.ptr 1 0))],
   upd (upd (upd (fun _=>.hole) 0 (.cells true false 48 [.d .nilsl])) 1 (.cells true false 89 [scC (iO is)])) 2 (.cells true false 3 (jK (dgX ((tmL bt).map tmT)) N))⟩ 20
  (FinD (⟨Tryz.prog,GG m,z.w,z.F,z.W,Tryz.f20.ntmps,fun _=>.hole,z.b,z.d⟩:Ctx) Tryz.f20 R):=by
 conv=>
  enter [3]
  whnf
 have hlp:=fun lv=>lpTm lv bt
 have hix:=fun lv {i:Nat}(hi:i<(tmL bt).length)=>ixTm lv bt hi
 have hcs:=fun {i:Nat}(hi:i<(tmL bt).length)=>cfS_succ (l:=tmL bt) N hi
 have hca:=cfS_all (tmL bt) N
 have hcz:=cfS_zero (tmL bt) N
 have hcB:∀ i,Bnd 0 (cfS (tmL bt) N i):=fun i=>Bnd.start (by rw [List.length_map,List.length_take];omega) (fun t ht=>by
  obtain⟨u,_,rfl⟩:=List.mem_map.1 ht
  exact ratP_sz u.1) _
 have hfit:∀ t∈tmL bt,fitN (dgL ((tmL bt).map tmT) N) (tmT t).2:=fun t ht=>dgL_fit (List.mem_map.2 ⟨t,ht,rfl⟩) (by show ((pwL t.2).map Int.toNat).length=N;rw [List.length_map];exact (hok t ht).len)
 have hdg:∀ j,dgX ((tmL bt).map tmT) j≤16:=fun j=>dgX_le (fun t ht j=>by
  obtain⟨u,hu,rfl⟩:=List.mem_map.1 ht
  have hs:=(hok u hu).sum
  generalize (tmT u).2=ks at *
  have key:∀ (ks:List Nat) (j:Nat),ks.getD j 0≤ks.sum:=by
   intro ks
   induction ks with
   | nil=>intro j;simp
   | cons k ks ih=>
    intro j
    cases j with
    | zero=>simp
    | succ j=>have:=ih j;simp only [List.getD_cons_succ,List.sum_cons];omega
  exact Nat.le_trans (key ks j) hs) j
 obtain⟨l,hl⟩:∃ l,tmL bt=l:=⟨_,rfl⟩
 simp only [hl] at *
 obtain⟨ts,hts⟩:∃ ts,l.map tmT=ts:=⟨_,rfl⟩
 simp only [hts] at *
 have hlen:=dgL_len ts N
 refine AW.q ?_
 refine AW.seqK fun K hK=>AW.q ?_
 refine AW.block ?_
 refine AW.loopV (fun (q:Nat)=>⟨frOf [(0,.c (scC (tmO bt))),(4,.c (.lsl 2 0 N 1)),(5,.c (.ptr 0 0)),(7,.c (.ptr 1 0)),(12,.c (.d (.int .i64 (sizN ((dgL ts N).take q):Int)))),(68,.c (.lsl 2 0 N 1)),(69,.c (.d (.int .i64 N))),(70,.c (.d (.int .i64 q)))],
  upd (upd (upd (fun _=>.hole) 0 (.cells true false 48 [.d .nilsl])) 1 (.cells true false 89 [scC (iO is)])) 2 (.cells true false 3 (jK (dgX ts) N))⟩) 20
  (fun q=>q≤N∧sizN ((dgL ts N).take q)≤600) (fun q=>N - q) 0 (Le.mk2 _ rfl (by simp [sizN])) ⟨Nat.zero_le _,by simp [sizN]⟩ ?_
 rintro q ⟨hq,hP⟩
 try simp only at hq hP ⊢
 refine AW.q ?_
 refine AW.seqK fun K2 hK2=>?_
 by_cases hlt:q<N
 ·have hlt':(q:Int)<(N:Int):=by omega
  have hql:q<(dgL ts N).length:=by rw [hlen];exact hlt
  have s2:=sizN_take hql
  rw [dgL_get] at s2
  have hle:=sizN_take_le (dgL ts N) (q+1)
  have hnd:=hdg q
  have x2:=ldJ' (f:=dgX ts) hlt
  obtain⟨n,hn⟩:∃ n,dgX ts q=n:=⟨_,rfl⟩
  obtain⟨P,hPe⟩:∃ P,sizN ((dgL ts N).take q)=P:=⟨_,rfl⟩
  obtain⟨P2,hP2⟩:∃ P,sizN ((dgL ts N).take (q+1))=P:=⟨_,rfl⟩
  rw [hn] at s2 hnd x2
  rw [hPe] at s2 hP
  rw [hP2] at s2 hle
  rw [hPe]
  have fn:=w64 (n:=(n:Int)+1) (by omega) (by omega)
  have hPb:P2≤600*17:=by rw [s2];exact Nat.mul_le_mul hP (by omega)
  have fP:IntKind.i64.wrap ((P:Int)*((n:Int)+1))=(P2:Int):=by
   have e:(P:Int)*((n:Int)+1)=(P2:Int):=by rw [s2];simp
   rw [e];exact w64 (by omega) (by omega)
  have f70:=w64 (n:=(q:Int)+1) (by omega) (by omega)
  refine AW.fy (by simp [hlt'] <;> omega) (AW.skip (hK2 _ _ (AW.seqK fun K5 hK5=>AW.block (AW.f1 x2 ?_))))
  refine AW.f2 fn fP ?_
  refine AW.q ?_
  by_cases h6:600<P2
  ·have h6':(600:Int)<(P2:Int):=by omega
   have hRe:=hR1 (Nat.lt_of_lt_of_le h6 hle)
   subst hRe
   refine AW.fy (by simp [h6] <;> omega) (AW.f1 @setSeg.eq_1 ?_)
   exact AW.ret (κ:=0) (FinD.cd3 (κ:=0) (k:=0) (own:=true) (fz:=false) (U:=48) (cs:=[.d .nilsl]) rfl (by simp) (by simp) (by simp) (loadSl _) (by simp) rfl rfl rfl (dRes_e3 _ _))
  ·refine AW.fn (by simp [h6] <;> omega) (AW.skip (hK5 _ _ (AW.rP ?_)))
   simp [f70]
   exact⟨q+1,Le.mk2 _ rfl (by simp [hP2]),⟨by omega,by omega⟩,by omega⟩
 ·have hqe:q=N:=by omega
  have hM0:sizN ((dgL ts N).take q)=cfM ts N:=by rw [hqe,List.take_of_length_le (by rw [hlen];exact Nat.le_refl _)];rfl
  rw [hM0] at hP ⊢
  have hRe:=hR2 (by omega)
  subst hRe
  obtain⟨M,hM⟩:∃ M,cfM ts N=M:=⟨_,rfl⟩
  rw [hM] at hP ⊢
  refine AW.fn (by simp [hlt] <;> omega) (AW.exit ?_)
  simp
  repeat refine and_o ?_
  apply hK
  refine AW.seqK fun K hK=>AW.l1 @setSeg.eq_1 (hK _ _ ?_)
  rw [qK_zero,← hcz]
  refine AW.seqK fun K hK=>AW.f1 hlp ?_
  refine AW.block ?_
  refine AW.loopV (fun (i:Nat)=>⟨frOf [(4,.c (.lsl 2 0 N 1)),(5,.c (.ptr 0 0)),(7,.c (.ptr 1 0)),(12,.c (.d (.int .i64 M))),(83,.c (scC (tmO bt))),(84,.c (.d (.int .i64 l.length))),(85,.c (.d (.int .i64 i)))],
   upd (upd (upd (upd (fun _=>.hole) 0 (.cells true false 48 [.lsl 20 0 M 3])) 1 (.cells true false 89 [scC (iO is)])) 2 (.cells true false 3 (jK (dgX ts) N))) 20 (.cells true false 27 (qK (cfS l N i) M))⟩) 30
   (fun i=>i≤l.length) (fun i=>l.length - i) 0 (Le.keys [(0,0,.cells true false 48 [.lsl 20 0 M 3]),(1,1,.cells true false 89 [scC (iO is)]),(2,2,.cells true false 3 (jK (dgX ts) N)),(20,20,.cells true false 27 (qK (cfS l N 0) M))] 9 _ rfl rfl (by simp) (by simp) rfl (by
    intro e he
    simp only [List.mem_cons,List.not_mem_nil,or_false] at he
    rcases he with rfl|rfl|rfl|rfl
    ·exact LB.like_cells.2 ⟨rfl,rfl,rfl,id⟩
    ·exact LB.like_cells.2 ⟨rfl,rfl,by simp,id⟩
    ·exact LB.like_cells.2 ⟨rfl,rfl,(jK_ren _ _ _).symm,id⟩
    ·exact LB.like_cells.2 ⟨rfl,rfl,(qK_ren _ _ _).symm,id⟩) (by simp [kmap])) (Nat.zero_le _) ?_
  rintro i hi
  try simp only at hi ⊢
  refine AW.q ?_
  refine AW.seqK fun K2 hK2=>?_
  by_cases hil2:i<l.length
  ·have hil':(i:Int)<(l.length:Int):=by omega
   have hx:=fun lv=>hix lv hil2
   have f85:=w64 (n:=(i:Int)+1) (by omega) (by omega)
   have hto:=hok _ (List.getElem_mem hil2)
   have hft:=hfit _ (List.getElem_mem hil2)
   have hnx:=hcs hil2
   have hB:=hcB i
   generalize l[i]=t at *
   have hlen2:=hto.len
   have hpos:=hto.pos
   have hip:=fun lv {j:Nat}(hj:j<(pwL t.2).length)=>ixPw lv t.2 hj
   have hlp2:=fun lv=>lpPw lv t.2
   have e1:(tmT t).1=ratP t.1:=rfl
   have e2:(tmT t).2=(pwL t.2).map Int.toNat:=rfl
   rw [e1,e2] at hnx
   rw [e2] at hft
   have cp:=rat_Parse m t.1
   rw [hto.e] at cp
   have hcz0:=ratP_sz t.1
   have hplt:=plN_lt hft
   have hMe:sizN (dgL ts N)=M:=hM
   rw [hMe] at hplt
   have hfl:=fitN_len hft
   have hh0:=hpl_eq 0 (dgL ts N) ((pwL t.2).map Int.toNat) hfl
   rw [Nat.zero_mul,Nat.zero_add] at hh0
   obtain⟨p,hp⟩:∃ p,plN (dgL ts N) ((pwL t.2).map Int.toNat)=p:=⟨_,rfl⟩
   rw [hp] at hnx hplt hh0
   generalize cfS l N i=c at *
   refine AW.fy (by simp [hil'] <;> omega) (AW.skip (hK2 _ _ (AW.seqK fun K5 hK5=>AW.block (AW.sr fun K6 hK6=>?_))))
   simp [hx,tmD]
   repeat refine and_o ?_
   apply hK6
   refine AW.q ?_
   refine AW.seqK fun K6 hK6=>AW.f2 @setSeg.eq_1 hlp2 ?_
   generalize pwL t.2=pl at *
   refine AW.block ?_
   refine AW.loopV (fun (d:Nat × Nat)=>⟨frOf [(4,.c (.lsl 2 0 N 1)),(5,.c (.ptr 0 0)),(7,.c (.ptr 1 0)),(12,.c (.d (.int .i64 M))),(83,.c (scC (tmO bt))),(84,.c (.d (.int .i64 l.length))),(85,.c (.d (.int .i64 i))),(16,.c (.ptr 30 0)),(17,.c (.d (.int .i64 d.2))),(90,.c (.d (pwD t.2))),(91,.c (.d (.int .i64 pl.length))),(92,.c (.d (.int .i64 d.1)))],
    upd (upd (upd (upd (upd (fun _=>.hole) 0 (.cells true false 48 [.lsl 20 0 M 3])) 1 (.cells true false 89 [scC (iO is)])) 2 (.cells true false 3 (jK (dgX ts) N))) 20 (.cells true false 27 (qK c M))) 30 (.cells true false 98 [.d (.str t.1),.d (pwD t.2)])⟩) 40
    (fun d=>d.1≤pl.length∧hpl d.2 ((dgL ts N).drop d.1) ((pl.map Int.toNat).drop d.1)=p) (fun d=>pl.length - d.1) (0,0) (Le.mk2 _ (by simp [setSeg])) ⟨Nat.zero_le _,hh0⟩ ?_
   rintro⟨q,at'⟩ ⟨hq,hE⟩
   try simp only at hq hE ⊢
   refine AW.q ?_
   refine AW.seqK fun K10 hK10=>?_
   have hge:=hpl_ge at' ((dgL ts N).drop q) ((pl.map Int.toNat).drop q) (by rw [List.length_drop,List.length_drop,hlen,List.length_map,hlen2])
   rw [hE] at hge
   by_cases hql:q<pl.length
   ·have hql':(q:Int)<(pl.length:Int):=by omega
    have hxp:=fun lv=>hip lv hql
    have f92:=w64 (n:=(q:Int)+1) (by omega) (by omega)
    have hk0:=hpos _ (List.getElem_mem hql)
    have hqN:q<N:=by omega
    have hqd:q<(dgL ts N).length:=by rw [hlen];exact hqN
    have hql2:q<(pl.map Int.toNat).length:=by rw [List.length_map];exact hql
    have x2:=ldJ' (f:=dgX ts) hqN
    rw [List.drop_eq_getElem_cons hqd,List.drop_eq_getElem_cons hql2,List.getElem_map,dgL_get] at hE
    have hnd:=hdg q
    have hE:hpl (at' * (dgX ts q+1)+pl[q].toNat) ((dgL ts N).drop (q+1)) ((pl.map Int.toNat).drop (q+1))=p:=hE
    have hge2:=hpl_ge (at' * (dgX ts q+1)+pl[q].toNat) ((dgL ts N).drop (q+1)) ((pl.map Int.toNat).drop (q+1)) (by rw [List.length_drop,List.length_drop,hlen,List.length_map,hlen2])
    rw [hE] at hge2
    generalize pl[q]=k at *
    obtain⟨k,rfl⟩:∃ n:Nat,k=n:=⟨k.toNat,by omega⟩
    rw [Int.toNat_natCast] at hE hge2
    obtain⟨n,hn⟩:∃ n,dgX ts q=n:=⟨_,rfl⟩
    rw [hn] at hE hge2 hnd x2
    obtain⟨v,hv⟩:∃ v,at' * (n+1)=v:=⟨_,rfl⟩
    obtain⟨v2,hv2⟩:∃ v2,v+k=v2:=⟨_,rfl⟩
    rw [hv,hv2] at hE hge2
    have fn:=w64 (n:=(n:Int)+1) (by omega) (by omega)
    have fv:IntKind.i64.wrap ((at':Int)*((n:Int)+1))=(v:Int):=by
     have e:(at':Int)*((n:Int)+1)=(v:Int):=by rw [← hv];simp
     rw [e];exact w64 (by omega) (by omega)
    have fv2:IntKind.i64.wrap ((v:Int)+(k:Int))=(v2:Int):=by rw [w64 (by omega) (by omega)];omega
    refine AW.fy (by simp [hql'] <;> omega) (AW.skip (hK10 _ _ (AW.seqK fun K11 hK11=>AW.block (AW.f1 hxp ?_))))
    refine AW.l4 x2 fn fv fv2 (hK11 _ _ ?_)
    refine AW.rP ?_
    simp [f92]
    exact⟨q+1,v2,Le.mk2 _,⟨by omega,hE⟩,by omega⟩
   ·have hn1:(pl.map Int.toNat).drop q=[]:=List.drop_eq_nil_of_le (by rw [List.length_map];omega)
    rw [hn1] at hE
    have hE:at'=p:=by
     rw [← hE]
     cases (dgL ts N).drop q <;> rfl
    subst hE
    have hB1:=hB.sz (by omega) at'
    have ca:=rat_Add (GG m) (c at') (ratP t.1) (szR_mono hB1 (by omega)) (szR_mono hcz0 (by omega))
    refine AW.fn (by simp [hql] <;> omega) (AW.exit ?_)
    simp
    repeat refine and_o ?_
    apply hK6
    refine AW.seqK fun K6 hK6=>AW.rP ?_
    simp
    refine CallDo.p 40 9 cp ?_
    simp [setSeg]
    repeat refine and_o ?_
    apply hK6
    have hst:(fun j=>if j=at' then c at'+ratP t.1 else c j)=cfS l N (i+1):=by
     rw [hnx];funext j;split
     ·rename_i e;rw [e]
     ·rfl
    generalize ratP t.1=u at *
    obtain⟨lv,hlv⟩:∃ lv,upd (upd (upd (upd (upd (upd (fun _=>LB.hole) 0 (.cells true false 48 [.lsl 20 0 M 3])) 1 (.cells true false 89 [scC (iO is)])) 2 (.cells true false 3 (jK (dgX ts) N))) 20 (.cells true false 27 (qK c M))) 30 (.cells true false 98 [.d (.str t.1),.d (pwD t.2)])) 40 (.cells true false 27 [.d (.bool (decide (u.num<0))),nC (natO u.num.natAbs),nC (denO u.den)])=lv:=⟨_,rfl⟩
    have q0:lv 0=.cells true false 48 [.lsl 20 0 M 3]:=by rw [← hlv];rfl
    have q20:lv 20=.cells true false 27 (qK c M):=by rw [← hlv];rfl
    have q40:lv 40=.cells true false 27 [.d (.bool (decide (u.num<0))),nC (natO u.num.natAbs),nC (denO u.den)]:=by rw [← hlv];rfl
    have q9:lv 9=.hole:=by rw [← hlv];rfl
    have x0:stepLoad Tryz.prog 48 lv (.c (.ptr 0 0))=some (.c (.lsl 20 0 M 3),[],[0],True):=by simp [stepLoad,q0]
    have x1:=ixQ (n:=M) (i:=at') q20
    rw [eq_true hplt] at x1
    have x2:=ldQ (i:=at') q20 hplt
    have x3:=stQ (i:=at') q20 hplt (c at'+u)
    rw [hst] at x3
    have x4:stepLoad Tryz.prog 27 lv (.c (.ptr 40 0))=some (ratV u,[],[40],True):=by simp [stepLoad,q40]
    rw [hlv]
    refine AW.drawP mixed (by kernel_rfl) rfl ?_
    simp [x0,x1,x2,x4,q0,q20,q40,-stepLoad,-stepStore]
    refine CallDo.p 50 9 ca ?_ (hh:=q9)
    simp [x1,x3,q20,-stepLoad,-stepStore]
    refine⟨by kernel_rfl,?_⟩
    repeat refine and_o ?_
    apply hK5
    refine AW.rP ?_
    simp [f85]
    rw [← hlv]
    exact⟨i+1,Le.keys [(0,0,.cells true false 48 [.lsl 20 0 M 3]),(1,1,.cells true false 89 [scC (iO is)]),(2,2,.cells true false 3 (jK (dgX ts) N)),(20,20,.cells true false 27 (qK (cfS l N (i+1)) M))] 9 _ rfl rfl (by simp) (by simp) rfl (by
     intro e he
     simp only [List.mem_cons,List.not_mem_nil,or_false] at he
     rcases he with rfl|rfl|rfl|rfl
     ·exact LB.like_cells.2 ⟨rfl,rfl,rfl,id⟩
     ·exact LB.like_cells.2 ⟨rfl,rfl,by simp,id⟩
     ·exact LB.like_cells.2 ⟨rfl,rfl,(jK_ren _ _ _).symm,id⟩
     ·exact LB.like_cells.2 ⟨rfl,rfl,(qK_ren _ _ _).symm,id⟩) (by simp [kmap]),by omega,by omega⟩
  ·have hie:i=l.length:=by omega
   rw [hie,hca]
   have hbP:Bnd 0 (cfP ts N):=by rw [← hca];exact hcB _
   refine AW.fn (by simp [hil2] <;> omega) (AW.exit (hK _ _ ?_))
   refine AW.as (y:=cW [1,1,1,1,1,1,1,1,1,1] Tryz.f20) (by kernel_rfl) (AW.le (Le.mk2 _) (coefs_d m z ts is N M (cfP ts N) hil hiz hN hM.symm hP hdg hbP ?_))
   unfold cfL cfB
   rw [hil,hM]
def cfA (l:List Tm)(b:List Sp):AV:=if cfE l b=0 then .tup [intsA (dgX (l.map tmT)) b.length,numsA (cfL (l.map tmT) (bxI b)),.c (.d (.int .i64 0))] else .tup [.c (.d .nilsl),.c (.d .nilsl),.c (.d (.int .i64 (cfE l b)))]
theorem Coefs_ok (m:Int)(bt:Option (List Tm))(b:Option (List Sp))(hl:(tmL bt).length≤9223372036854775807)(hp:∀ t∈tmL bt,(pwL t.2).length≤9223372036854775807)(hb:(bxL b).length≤1048576) :
 CallsP Tryz.prog (GG m) 20 [.c (scC (tmO bt)),.c (scC (bxO b))] (cfA (tmL bt) (bxL b)):=by
 have cb:=boxed_ok m b hb
 have ct:=terms_ok m bt (bxL b).length hl hp
 have hlb:=fun lv=>lpBx lv b
 by_cases h0:bxE (bxL b) 0=0
 rotate_left
 ·have e1:cfE (tmL bt) (bxL b)=bxE (bxL b) 0:=if_pos h0
  rw [show cfA (tmL bt) (bxL b)=.tup [.c (.d .nilsl),.c (.d .nilsl),.c (.d (.int .i64 (bxE (bxL b) 0)))] by unfold cfA;rw [e1,if_neg h0]]
  rw [if_neg h0] at cb
  generalize bxE (bxL b) 0=e at *
  refine CallsP.ed Go.Proofs.Tryz.func20 rfl fun _=>AW.q ?_
  refine AW.c0 1 cb ?_
  refine AW.seqK fun K hK=>AW.q ?_
  refine AW.fn (by simp [h0] <;> omega) (AW.skip (hK _ _ (AW.seqK fun K hK=>AW.seqK fun K1 hK1=>AW.rP ?_)))
  simp
  repeat refine and_o ?_
  apply hK1
  refine AW.fy (by simp [h0] <;> omega) (AW.seqK fun K1 hK1=>AW.rP ?_)
  simp [setSeg]
  repeat refine and_o ?_
  apply hK1
  exact AW.ret (κ:=0) (FinD.cd3 (κ:=0) (k:=0) (own:=true) (fz:=false) (U:=48) (cs:=[.d .nilsl]) rfl (by simp) (by simp) (by simp) (loadSl _) (by simp) rfl rfl rfl (dRes_e3 _ _))
 rw [h0,if_pos rfl] at cb
 by_cases h1:tmE (tmL bt) (bxL b).length=0
 rotate_left
 ·have e1:cfE (tmL bt) (bxL b)=tmE (tmL bt) (bxL b).length:=by unfold cfE;rw [if_neg (not_not_intro h0),if_pos h1]
  rw [show cfA (tmL bt) (bxL b)=.tup [.c (.d .nilsl),.c (.d .nilsl),.c (.d (.int .i64 (tmE (tmL bt) (bxL b).length)))] by unfold cfA;rw [e1,if_neg h1]]
  generalize tmE (tmL bt) (bxL b).length=e at *
  refine CallsP.ed Go.Proofs.Tryz.func20 rfl fun _=>AW.seqK fun K hK=>AW.rP ?_
  simp
  repeat refine and_o ?_
  apply hK
  refine AW.seqK fun K hK=>AW.rP ?_
  simp
  refine CallDo.p 1 9 cb ?_
  simp
  repeat refine and_o ?_
  apply hK
  refine AW.seqK fun K hK=>AW.sr fun K1 hK1=>?_
  simp
  repeat refine and_o ?_
  apply hK1
  refine AW.cy (AW.rP ?_)
  simp [hlb]
  refine CallDo.p 2 9 ct ?_
  simp [hlb]
  repeat refine and_o ?_
  apply hK
  refine AW.seqK fun K hK=>AW.sr fun K1 hK1=>?_
  simp
  repeat refine and_o ?_
  apply hK1
  refine AW.fy (by simp [h1] <;> omega) (AW.sr fun K1 hK1=>?_)
  simp [setSeg]
  repeat refine and_o ?_
  apply hK1
  exact AW.ret (κ:=0) (FinD.cd3 (κ:=0) (k:=0) (own:=true) (fz:=false) (U:=48) (cs:=[.d .nilsl]) rfl (by simp) (by simp) (by simp) (loadSl _) (by simp) rfl rfl rfl (dRes_e3 _ _))
 rw [h1] at ct
 obtain⟨l,hL⟩:∃ l,tmL bt=l:=⟨_,rfl⟩
 obtain⟨N,hN⟩:∃ N,(bxL b).length=N:=⟨_,rfl⟩
 obtain⟨h200,hok⟩:=tmE_ok h1
 have hlp:=fun lv=>lpTm lv bt
 have hix:=fun lv {i:Nat}(hi:i<(tmL bt).length)=>ixTm lv bt hi
 have hdg:=fun {i:Nat}(hi:i<(tmL bt).length)=>dgI_end (l:=tmL bt) hi N
 simp only [hL,hN] at hl hp hb ct hlb h200 hok hlp hix hdg
 have hil:(bxI (bxL b)).length=N:=by rw [bxI_len,hN]
 have hiz:=bxI_z (bxL b)
 rw [hL,hN] at h1
 obtain⟨R,hR⟩:∃ R,cfA (tmL bt) (bxL b)=R:=⟨_,rfl⟩
 rw [hR]
 have hR1:600<cfM (l.map tmT) N→R=.tup [.c (.d .nilsl),.c (.d .nilsl),.c (.d (.int .i64 3))]:=fun h=>by
  rw [← hR];unfold cfA cfE;rw [h0,if_neg (not_not_intro rfl),hL,hN,h1,if_neg (not_not_intro rfl),if_pos h];rfl
 have hR2:¬ 600<cfM (l.map tmT) N→R=.tup [intsA (dgX (l.map tmT)) N,numsA (cfL (l.map tmT) (bxI (bxL b))),.c (.d (.int .i64 0))]:=fun h=>by
  rw [← hR];unfold cfA cfE;rw [h0,if_neg (not_not_intro rfl),hL,hN,h1,if_neg (not_not_intro rfl),if_neg h];rfl
 clear hR
 generalize bxI (bxL b)=is at *
 have hdg0:=dgF_zero l
 have hdgl:=dgF_all l
 have hN0:((N:Nat):Int)≤1048576:=by omega
 refine CallsP.ed Go.Proofs.Tryz.func20 rfl fun _=>AW.q ?_
 refine AW.c1 1 cb @setSeg.eq_1 ?_
 refine AW.seqK fun K hK=>AW.q ?_
 refine AW.cy (AW.m1 2 ct hlb (hK _ _ ?_))
 refine AW.seqK fun K hK=>AW.seqK fun K1 hK1=>AW.rP ?_
 simp
 repeat refine and_o ?_
 apply hK1
 refine AW.cn (AW.skip ?_)
 simp
 repeat refine and_o ?_
 apply hK
 refine AW.seqK fun K hK=>AW.rP ?_
 simp [hlb]
 repeat refine and_o ?_
 apply hK
 rw [jK_rep,← hdg0]
 refine AW.seqK fun K hK=>AW.f1 hlp ?_
 refine AW.block ?_
 refine AW.loopV (fun (i:Nat)=>⟨frOf [(0,.c (scC (tmO bt))),(4,.c (.lsl 2 0 N 1)),(5,.c (.ptr 0 0)),(7,.c (.ptr 1 0)),(43,.c (scC (tmO bt))),(44,.c (.d (.int .i64 l.length))),(45,.c (.d (.int .i64 i)))],
  upd (upd (upd (fun _=>.hole) 0 (.cells true false 48 [.d .nilsl])) 1 (.cells true false 89 [scC (iO is)])) 2 (.cells true false 3 (jK (dgF l i) N))⟩) 20
  (fun i=>i≤l.length) (fun i=>l.length - i) 0 (Le.mk2 _) (Nat.zero_le _) ?_
 rintro i hi
 try simp only at hi ⊢
 refine AW.q ?_
 refine AW.seqK fun K2 hK2=>?_
 by_cases hlt:i<l.length
 ·have hlt':(i:Int)<(l.length:Int):=by omega
  have hx:=fun lv=>hix lv hlt
  have f45:=w64 (n:=(i:Int)+1) (by omega) (by omega)
  have hpl:=hp _ (List.getElem_mem hlt)
  have hto:=hok _ (List.getElem_mem hlt)
  have hnx:=hdg hlt
  generalize l[i]=t at *
  have hlen:=hto.len
  have hpos:=hto.pos
  have hip:=fun lv {j:Nat}(hj:j<(pwL t.2).length)=>ixPw lv t.2 hj
  have hlp2:=fun lv=>lpPw lv t.2
  have e2:(tmT t).2=(pwL t.2).map Int.toNat:=rfl
  rw [e2] at hnx
  have d0:=dgI_zero (dgF l i) ((pwL t.2).map Int.toNat)
  generalize dgF l i=f at *
  refine AW.fy (by simp [hlt'] <;> omega) (AW.skip ?_)
  simp
  repeat refine and_o ?_
  apply hK2
  refine AW.seqK fun K5 hK5=>AW.block (AW.seqK fun K6 hK6=>AW.rP ?_)
  simp [hx,tmD]
  repeat refine and_o ?_
  apply hK6
  refine AW.seqK fun K6 hK6=>AW.rP ?_
  simp [setSeg,hlp2]
  repeat refine and_o ?_
  apply hK6
  generalize pwL t.2=pl at *
  rw [← d0]
  refine AW.block ?_
  refine AW.loopV (fun (q:Nat)=>⟨frOf [(0,.c (scC (tmO bt))),(4,.c (.lsl 2 0 N 1)),(5,.c (.ptr 0 0)),(7,.c (.ptr 1 0)),(43,.c (scC (tmO bt))),(44,.c (.d (.int .i64 l.length))),(45,.c (.d (.int .i64 i))),(50,.c (.d (pwD t.2))),(51,.c (.d (.int .i64 pl.length))),(52,.c (.d (.int .i64 q)))],
   upd (upd (upd (fun _=>.hole) 0 (.cells true false 48 [.d .nilsl])) 1 (.cells true false 89 [scC (iO is)])) 2 (.cells true false 3 (jK (dgI f (pl.map Int.toNat) q) N))⟩) 20
   (fun q=>q≤pl.length) (fun q=>pl.length - q) 0 (Le.drop2 [20] 9) (Nat.zero_le _) ?_
  rintro q hq
  try simp only at hq ⊢
  refine AW.q ?_
  refine AW.seqK fun K10 hK10=>?_
  by_cases hql:q<pl.length
  ·have hql':(q:Int)<(pl.length:Int):=by omega
   have hxp:=fun lv=>hip lv hql
   have f52:=w64 (n:=(q:Int)+1) (by omega) (by omega)
   have hk0:=hpos _ (List.getElem_mem hql)
   have hgd:(pl.map Int.toNat).getD q 0=pl[q].toNat:=by rw [List.getD_eq_getElem?_getD,List.getElem?_map,List.getElem?_eq_getElem hql];rfl
   have hst:=dgI_step f (pl.map Int.toNat) q
   rw [hgd] at hst
   generalize pl[q]=k at *
   obtain⟨k,rfl⟩:∃ n:Nat,k=n:=⟨k.toNat,by omega⟩
   rw [Int.toNat_natCast] at hst
   have hqN:q<N:=by omega
   obtain⟨v,hv⟩:∃ v,max (f q) k=v:=⟨_,rfl⟩
   have hst:=hst v hv.symm
   have hmx:(if f q<k then (k:Int) else (f q:Int))=(v:Int):=by rw [← hv];split <;> omega
   refine AW.fy (by simp [hql'] <;> omega) (AW.skip (hK10 _ _ (AW.seqK fun K11 hK11=>AW.block (AW.f1 hxp ?_))))
   obtain⟨lv,hlv⟩:∃ lv,upd (upd (upd (fun _=>LB.hole) 0 (.cells true false 48 [.d .nilsl])) 1 (.cells true false 89 [scC (iO is)])) 2 (.cells true false 3 (jK (dgI f (pl.map Int.toNat) q) N))=lv:=⟨_,rfl⟩
   have q2:lv 2=.cells true false 3 (jK (dgI f (pl.map Int.toNat) q) N):=by rw [← hlv];rfl
   have x1:=ixJ (n:=N) (i:=q) q2
   rw [eq_true hqN] at x1
   have x2:=ldJ q2 hqN
   rw [dgI_at] at x2
   have x3:=stJ q2 hqN v
   rw [hst] at x3
   rw [hlv]
   refine AW.rP ?_
   simp [x1,x2,x3,hmx,q2,intsOf,-stepLoad,-stepStore]
   repeat refine and_o ?_
   apply hK11
   rw [← hlv,upd_twice]
   refine AW.rP ?_
   simp [f52]
   exact⟨q+1,Le.mk2 _,by omega,by omega⟩
  ·have hqe:q=N:=by omega
   rw [hqe,hnx]
   refine AW.fn (by simp [hql] <;> omega) (AW.exit (hK5 _ _ (AW.rP ?_)))
   simp [f45]
   exact⟨i+1,Le.mk2 _,by omega,by omega⟩
 ·have hie:i=l.length:=by omega
  rw [hie,hdgl]
  refine AW.fn (by simp [hlt] <;> omega) (AW.exit ?_)
  simp
  repeat refine and_o ?_
  apply hK
  have key:=fun z=>coefs_c m z bt is N (R:=R) hil hiz (by omega) (by rw [hL];exact h200) (by rw [hL];exact hok) (by rw [hL];exact hR1) (by rw [hL];exact hR2)
  simp only [hL] at key
  exact AW.as (y:=cW [1,1,1,1,1,1] Tryz.f20) (by kernel_rfl) (AW.le (Le.mk2 _) (key _))
theorem cfE_M {l:List Tm}{b:List Sp}(h:cfE l b=0):bxE b 0=0∧tmE l b.length=0∧cfM (l.map tmT) b.length≤600:=by
 unfold cfE at h
 by_cases h0:bxE b 0=0
 ·rw [if_neg (not_not_intro h0)] at h
  by_cases h1:tmE l b.length=0
  ·rw [if_neg (not_not_intro h1)] at h
   refine⟨h0,h1,?_⟩
   split at h
   ·exact absurd h (by decide)
   ·omega
  ·rw [if_pos h1] at h;exact absurd h h1
 ·rw [if_pos h0] at h;exact absurd h h0
theorem dg16 {l:List Tm}{N:Nat}(h:∀ t∈l,TmOK N t) (j:Nat):dgX (l.map tmT) j≤16:=dgX_le (fun t ht j=>by
 obtain⟨u,hu,rfl⟩:=List.mem_map.1 ht
 have hs:=(h u hu).sum
 generalize (tmT u).2=ks at *
 have key:∀ (ks:List Nat) (j:Nat),ks.getD j 0≤ks.sum:=by
  intro ks
  induction ks with
  | nil=>intro j;simp
  | cons k ks ih=>
   intro j
   cases j with
   | zero=>simp
   | succ j=>have:=ih j;simp only [List.getD_cons_succ,List.sum_cons];omega
 exact Nat.le_trans (key ks j) hs) j
theorem cfB_sz {l:List Tm}{b:List Sp}(h:cfE l b=0) (i:Nat):szR (cfB (l.map tmT) (bxI b) i) 10000000:=by
 obtain⟨h0,h1,h2⟩:=cfE_M h
 obtain⟨h3,h4⟩:=tmE_ok h1
 have hil:(bxI b).length=b.length:=bxI_len b
 have hb0:Bnd 0 (cfP (l.map tmT) (bxI b).length):=Bnd.start (by rw [List.length_map];exact h3) (fun t ht=>by
  obtain⟨u,_,rfl⟩:=List.mem_map.1 ht
  exact ratP_sz u.1) _
 have hlen:=dgL_len (l.map tmT) b.length
 have hiz:=bxI_z b
 have hdg:=dg16 h4
 have key:∀ d j,d=b.length - j→j≤b.length→∀ c t,Bnd t c→2 ^ t≤sizN ((dgL (l.map tmT) b.length).take j)→∃ t',t'≤9∧Bnd t' (brn ((axL (l.map tmT) (bxI b)).drop j) c):=by
  intro d
  induction d with
  | zero=>
   intro j hd hj c t hc ht
   rw [List.drop_eq_nil_of_le (by rw [axL_len,hil];omega)]
   exact⟨t,two_pow (Nat.le_trans ht (sizN_take_le _ _)) h2,hc⟩
  | succ d ih=>
   intro j hd hj c t hc ht
   have hjl:j<(dgL (l.map tmT) b.length).length:=by rw [hlen];omega
   have hja:j<(axL (l.map tmT) (bxI b)).length:=by rw [axL_len,hil];omega
   rw [List.drop_eq_getElem_cons hja,axL_get]
   have s2:=sizN_take hjl
   rw [dgL_get] at s2
   have hza:=hiz _ (List.getElem_mem (show j<(bxI b).length by rw [hil];omega))
   refine ih (j+1) (by omega) (by omega) _ _ (hc.step (hdg j) hza.1 (Iv.z_sub hza)) ?_
   rw [s2]
   split
   ·exact Nat.le_trans ht (Nat.le_mul_of_pos_right _ (by omega))
   ·rename_i hne
    have hne:¬ dgX (l.map tmT) j=0:=hne
    rw [Nat.pow_succ];exact Nat.mul_le_mul ht (by omega)
 obtain⟨t,h5,h6⟩:=key _ 0 rfl (Nat.zero_le _) _ 0 hb0 (by simp [sizN])
 exact h6.sz h5 i
theorem cfL_len (ts:List Trm)(is:List Iv):(cfL ts is).length=cfM ts is.length:=by simp [cfL]
theorem cfL_get (ts:List Trm)(is:List Iv){i:Nat}(h:i<(cfL ts is).length):(cfL ts is)[i]=cfB ts is i:=by simp [cfL]
def bnR (l:List Tm)(b:List Sp):Iv:=if cfE l b=0 then (minL ((cfL (l.map tmT) (bxI b)).drop 1) (cfB (l.map tmT) (bxI b) 0),maxL ((cfL (l.map tmT) (bxI b)).drop 1) (cfB (l.map tmT) (bxI b) 0)) else (0,0)
theorem Bernstein_ok (m:Int)(bt:Option (List Tm))(b:Option (List Sp))(hl:(tmL bt).length≤9223372036854775807)(hp:∀ t∈tmL bt,(pwL t.2).length≤9223372036854775807)(hb:(bxL b).length≤1048576) :
 CallsP Tryz.prog (GG m) 6 [.c (scC (tmO bt)),.c (scC (bxO b))] (.tup [ivV (bnR (tmL bt) (bxL b)),.c (.d (.int .i64 (cfE (tmL bt) (bxL b))))]):=by
 have cc:=Coefs_ok m bt b hl hp hb
 by_cases h0:cfE (tmL bt) (bxL b)=0
 rotate_left
 ·rw [show bnR (tmL bt) (bxL b)=(0,0) from if_neg h0]
  rw [show cfA (tmL bt) (bxL b)=.tup [.c (.d .nilsl),.c (.d .nilsl),.c (.d (.int .i64 (cfE (tmL bt) (bxL b))))] from if_neg h0] at cc
  generalize cfE (tmL bt) (bxL b)=e at *
  have bz:buildA Tryz.prog 29 [] []=some (ivV (0,0),[],[],True):=bIv0
  generalize hz:((0:Rat),(0:Rat))=z at *
  refine CallsP.enc Go.Proofs.Tryz.func6 rfl (fun lv=>iv_dArg2 lv _ _ _ _ _ _ _ rfl) fun _=>AW.q ?_
  refine AW.c0 1 cc ?_
  refine AW.seqK fun K hK=>AW.q ?_
  refine AW.fy (by simp [h0] <;> omega) (AW.f1 bz ?_)
  exact AW.ret (FinC.iv2 (κ:=0) (t:=4) (k:=0) (u:=5) ⟨rfl,rfl⟩ (by simp) (by simp [setSeg]) (by simp))
 have hsz:=cfB_sz h0
 have hM:=(cfE_M h0).2.2
 rw [← bxI_len] at hM
 have hlen:=cfL_len ((tmL bt).map tmT) (bxI (bxL b))
 have hpos:0<(cfL ((tmL bt).map tmT) (bxI (bxL b))).length:=by rw [hlen];exact sizN_pos _
 have h1:(cfL ((tmL bt).map tmT) (bxI (bxL b)))[0]?=some (cfB ((tmL bt).map tmT) (bxI (bxL b)) 0):=by rw [List.getElem?_eq_getElem hpos,cfL_get]
 have ch:=hullL_ok (GG m) (cfL ((tmL bt).map tmT) (bxI (bxL b))) _ h1 (by omega) (fun x hx=>by
  obtain⟨i,hi,rfl⟩:=List.getElem_of_mem hx
  rw [cfL_get];exact szR_mono (hsz i) (by omega))
 rw [show bnR (tmL bt) (bxL b)=(minL ((cfL ((tmL bt).map tmT) (bxI (bxL b))).drop 1) (cfB ((tmL bt).map tmT) (bxI (bxL b)) 0),maxL ((cfL ((tmL bt).map tmT) (bxI (bxL b))).drop 1) (cfB ((tmL bt).map tmT) (bxI (bxL b)) 0)) from if_pos h0]
 rw [show cfA (tmL bt) (bxL b)=.tup [intsA (dgX ((tmL bt).map tmT)) (bxL b).length,numsA (cfL ((tmL bt).map tmT) (bxI (bxL b))),.c (.d (.int .i64 0))] from if_pos h0] at cc
 rw [h0]
 generalize cfL ((tmL bt).map tmT) (bxI (bxL b))=cl at *
 generalize minL (cl.drop 1) (cfB ((tmL bt).map tmT) (bxI (bxL b)) 0)=r1 at *
 generalize maxL (cl.drop 1) (cfB ((tmL bt).map tmT) (bxI (bxL b)) 0)=r2 at *
 unfold intsA at cc
 generalize ((List.range (bxL b).length).map fun i=>[DV.int .i64 ((dgX ((tmL bt).map tmT) i:Nat):Int)])=ds at *
 refine CallsP.enc Go.Proofs.Tryz.func6 rfl (fun lv=>iv_dArg2 lv _ _ _ _ _ _ _ rfl) fun _=>AW.q ?_
 refine AW.c0 1 cc ?_
 refine AW.seqK fun K hK=>AW.q ?_
 refine AW.cn (AW.skip (hK _ _ (AW.c1 1 ch @setSeg.eq_1 ?_)))
 exact AW.ret (FinC.iv2 (κ:=0) (t:=4) (k:=0) (u:=5) ⟨rfl,rfl⟩ (by simp) (by simp [setSeg]) (by simp))
theorem top_can {B:Nat}{l:List Nat}(h:ok B l) (ht:l=[]∨B ^ (l.length - 1)≤val B l):can B l:=by
 refine⟨h,fun x hx=>?_⟩
 rcases List.eq_nil_or_concat l with rfl|⟨xs,y,rfl⟩
 ·cases hx
 ·rw [List.concat_eq_append] at *
  simp only [List.getLast?_append,List.getLast?_singleton,Option.some_or,Option.some.injEq] at hx
  subst hx
  intro h0;subst h0
  rcases ht with e|ht
  ·simp at e
  ·rw [val_snoc] at ht
   simp only [List.length_append,List.length_singleton,Nat.add_sub_cancel,Nat.mul_zero,Nat.add_zero] at ht
   have:=val_lt (ok_append.1 h).1
   omega
theorem can_ge {B:Nat}{l:List Nat}(h:can B l) (h0:l≠[]):B ^ (l.length - 1)≤val B l:=by
 rcases List.eq_nil_or_concat l with rfl|⟨xs,y,rfl⟩
 ·grind
 ·rw [List.concat_eq_append] at *
  have hy:y≠0:=h.2 y (by simp)
  rw [val_snoc]
  simp only [List.length_append,List.length_singleton,Nat.add_sub_cancel]
  have:B ^ xs.length*1≤B ^ xs.length*y:=Nat.mul_le_mul_left _ (by omega)
  omega
def rC:Option (List Nat)→CV
 | none=>.d .nilsl
 | some l=>.d (.sl (dK .i64 l))
theorem nK_rC (o:Option (List Nat)):nK .i64 o=.c (rC o):=by cases o <;> rfl
@[simp] theorem rC_dRes (lv:Key→LB)(s:Int)(p q:Option (List Nat)):dRes lv (.agg [.d (.int .i64 s),rC p,rC q])=some (.agg [.d (.int .i64 s),rC p,rC q],[]):=by
 cases p <;> cases q <;> rfl
@[simp] theorem rC_pure (o:Option (List Nat)):(rC o).pure=true:=by cases o <;> rfl
@[simp] theorem rC_flat1 (o:Option (List Nat)):(AV.c (rC o)).flat1=true:=by cases o <;> rfl
@[simp] theorem rC_apure (o:Option (List Nat)):(AV.c (rC o)).pure=true:=by cases o <;> rfl
@[simp] theorem rC_ren (o:Option (List Nat))(g:Key→Key):(rC o).ren g=rC o:=by cases o <;> rfl
abbrev rA (s:Int)(p q:Option (List Nat)):AV:=.agg [.d (.int .i64 s),rC p,rC q]
@[simp] theorem rA_pure (s:Int)(p q:Option (List Nat)):(AV.agg [.d (.int .i64 s),rC p,rC q]).pure=true:=by cases p <;> cases q <;> rfl
theorem bR0:buildA Tryz.prog 55 [] []=some (.agg [.d (.int .i64 0),.d .nilsl,.d .nilsl],[],[],True):=by kernel_rfl
theorem bR (b p q:CV):buildA Tryz.prog 55 [0,1,2] [.c b,.c p,.c q]=some (.agg [b,p,q],[],[],True):=by kernel_rfl
theorem bs213 (lv:Key→LB)(κ:Key)(h:lv κ=.hole)(a:CV):stepBuildSlice Tryz.prog 53 1 [0] lv κ [.c a]=some (.c (.lsl κ 0 1 1),[(κ,.cells true false 2 [a])],[],True):=by
 unfold stepBuildSlice;rw [h];rfl
theorem tm_nat (x k:Nat):(x:Int).tmod (k:Int)=((x % k:Nat):Int):=by rfl
theorem td_nat (x k:Nat):(x:Int).tdiv (k:Int)=((x / k:Nat):Int):=by rfl
theorem dRes_wK {lv:Key→LB}{κ:Key}{own fz:Bool}{T:TypeId}{k:IntKind}{l:List Nat}(h:lv κ=.cells own fz T (wK k l)) (hl:l.length≤9223372036854775807):dRes lv (.c (.lsl κ 0 l.length 1))=some (nK k (some l),[κ]):=dArg_wK h hl
theorem r_one_ok (G:List (List DV)):CallsP Tryz.prog G 143 [] (nK .i64 (some [1])):=by
 refine CallsP.ed Go.Proofs.Tryz.func143 rfl fun _=>AW.q ?_
 refine AW.sr fun K hK=>?_
 simp [bs213,-stepBuildSlice]
 apply hK
 refine AW.ret (κ:=0) (FinD.tmp (κ:=0) (X:=.c (.lsl 0 0 1 1)) (ks:=[0]) rfl (by simp) ?_)
 rfl
def rBot (s:Int)(q:Option (List Nat)):Option (List Nat):=if s=0 then some [1] else q
theorem r_bottom_ok (G:List (List DV))(s:Int)(p q:Option (List Nat)):CallsP Tryz.prog G 96 [rA s p q] (.c (rC (rBot s q))):=by
 have h1:=r_one_ok G
 rw [nK_rC] at h1
 refine CallsP.en Go.Proofs.Tryz.func96 rfl fun _=>AW.q ?_
 refine AW.seqK fun K hK=>AW.q ?_
 by_cases hs:s=0
 ·refine AW.fy (by simp_all) (AW.c0 1 h1 ?_)
  exact AW.r0 (FinP.rt (t:=2) rfl 9 (by simp [rBot,hs]))
 ·refine AW.fn (by simp_all) (AW.skip (hK _ _ (AW.q ?_)))
  exact AW.r0 (FinP.rt (t:=2) rfl 9 (by simp [rBot,hs]))
theorem r_trimS_ok (G:List (List DV))(l:List Nat)(hl:l.length≤1000000000000):CallsP Tryz.prog G 146 [nK .i64 (some l)] (nK .i64 (some (trimN l))):=by
 have dKl:∀ (l:List Nat),∀ e∈dK .i64 l,e.length=1:=by
  intro l e he
  obtain⟨x,_,rfl⟩:=List.mem_map.1 he;rfl
 refine CallsP.en Go.Proofs.Tryz.func146 rfl fun _=>AW.q ?_
 refine AW.seqK fun K hK=>AW.block ?_
 refine AW.loopV (fun l'=>⟨frOf [(0,nK .i64 (some l'))],fun _=>.hole⟩) 0 (fun l'=>l'.length≤l.length∧N.trimN l'=N.trimN l) (fun l'=>l'.length) l (Le.slots _ (by simp) (by simp)) (by simp) ?_
 rintro l' ⟨h0,h1⟩
 have fin:∀ (fr:Nat→AV) (κ:Nat),fr 0=nK .i64 (some (N.trimN l))→K ⟨fr,fun _=>.hole⟩ κ:=by
  intro fr κ h
  apply hK
  refine AW.q ?_
  exact AW.ret (FinP.tmp rfl 0 (by simp [h]) rfl rfl (by simp))
 refine AW.seqK fun K2 hK2=>AW.seqK fun K3 hK3=>?_
 refine AW.regionP rfl ?_
 rcases List.eq_nil_or_concat l' with rfl|⟨xs,x,rfl⟩
 ·simp
  apply hK3
  refine AW.cn (AW.exit ?_)
  simp_all
 ·rw [List.concat_eq_append] at *
  have h3:xs.length+1≤1000000000000:=by simp at h0;omega
  have h4:IntKind.i64.wrap ((xs.length:Int))=xs.length:=w64 (by omega) (by omega)
  have h2:(0:Int)<(xs.length:Int)+1:=by omega
  by_cases hx:x=0
  ·subst hx
   simp [nK,dK,lenP,lenA,slT_53,aggT_2,h2,h4]
   repeat refine and_o ?_
   apply hK3
   refine AW.cy (AW.skip (hK2 _ _ (AW.block (AW.rP ?_))))
   simp [nK,dK,lenP,lenA,slT_53,h4]
   refine⟨⟨by omega,fun e he=>?_⟩,?_⟩
   ·rcases he with ⟨y,_,rfl⟩|rfl <;> rfl
   refine⟨xs,Le.slots [(0,nK .i64 (some xs))] (by simp [nK,dK]) (by simp),⟨by grind,by rw [← h1,trimN_snoc0]⟩,by omega⟩
  ·have hx':¬ ((x:Int)=0):=by omega
   simp [nK,dK,lenP,lenA,slT_53,aggT_2,h2,h4]
   repeat refine and_o ?_
   apply hK3
   refine AW.fn (by simp_all) (AW.exit ?_)
   simp
   apply fin
   simp [nK,dK,← h1,trimN_snoc hx]
theorem r_compare_ok (G:List (List DV)){a b:Option (List Nat)}(ha:can 1000000000 (dO a)) (hb:can 1000000000 (dO b)):CallsP Tryz.prog G 99 [nK .i64 a,nK .i64 b] (.c (.d (.int .i64 (cmpN (val 1000000000 (dO a)) (val 1000000000 (dO b)))))):=by
 refine CallsS.know 0 (by simp) (fun V v h=>nK_rng h) fun hra=>?_
 refine CallsS.know 1 (by simp) (fun V v h=>nK_rng h) fun hrb=>?_
 refine CallsP.en Go.Proofs.Tryz.func99 rfl fun _=>AW.q ?_
 refine AW.seqK fun K hK=>AW.q ?_
 by_cases hl:(dO a).length=(dO b).length
 ·refine AW.fn (by simp_all) (AW.skip (hK _ _ (AW.seqK fun K hK=>AW.sr fun K1 hK1=>?_)))
  simp
  have e1:=w64 (n:=((dO a).length:Int) - 1) (by omega) (by omega)
  simp only [e1]
  apply hK1
  refine AW.block ?_
  refine AW.loopV (fun (k:Nat)=>⟨frOf [(0,nK .i64 a),(1,nK .i64 b),(5,.c (.d (.int .i64 ((k:Int) - 1))))],fun _=>.hole⟩) 0 (fun k=>k≤(dO a).length∧(dO a).drop k=(dO b).drop k) (fun k=>k) (dO a).length (Le.mk' _ rfl noMap_hole (by simp)) ⟨Nat.le_refl _,by grind⟩ ?_
  rintro k ⟨h1,h2⟩
  refine AW.seqK fun K3 hK3=>AW.q ?_
  cases k with
  | zero=>
   refine AW.cn (AW.exit (hK _ _ (AW.q ?_)))
   simp only [List.drop_zero] at h2
   exact AW.r0 (FinP.rt rfl 0 (by simp [cmpN_eq (congrArg (val 1000000000) h2)]))
  | succ k=>
   have h3:k<(dO b).length:=by omega
   have h4:k<(dO a).length:=by omega
   have e2:((k+1:Nat):Int) - 1=k:=by omega
   simp only [e2]
   refine AW.cy (AW.skip (hK3 _ _ (AW.seqK fun K5 hK5=>AW.block (AW.seqK fun K6 hK6=>AW.seqK fun K7 hK7=>?_))))
   refine AW.drawQ mixed (by kernel_rfl) rfl rfl ?_
   simp [h3,h4]
   apply hK7
   by_cases hlt:(dO a)[k]<(dO b)[k]
   ·refine AW.fy (by simp_all) (AW.seqK fun K7 hK7=>AW.l0 (hK7 _ _ ?_))
    have:=val_lt_at ha.1 h4 h3 h2 hlt
    exact AW.r0 (FinP.rt rfl 0 (by simp [cmpN_lt this]))
   ·refine AW.fn (by simp_all) (AW.skip (hK6 _ _ (AW.seqK fun K7 hK7=>?_)))
    refine AW.drawQ mixed (by kernel_rfl) rfl rfl ?_
    simp [h3,h4]
    apply hK7
    by_cases hgt:(dO b)[k]<(dO a)[k]
    ·refine AW.fy (by simp_all) (AW.seqK fun K7 hK7=>AW.l0 (hK7 _ _ ?_))
     have:=val_lt_at hb.1 h3 h4 h2.symm hgt
     exact AW.r0 (FinP.rt rfl 0 (by simp [cmpN_gt this]))
    ·refine AW.fn (by simp_all) (AW.skip (hK5 _ _ (AW.rP ?_)))
     simp
     have e3:=w64 (n:=(k:Int) - 1) (by omega) (by omega)
     simp [e3]
     have he:(dO a)[k]=(dO b)[k]:=by omega
     refine⟨k,Le.mk' _ (by simp) (by simp) (by simp),⟨by omega,?_⟩,by omega⟩
     rw [List.drop_eq_getElem_cons h4,List.drop_eq_getElem_cons h3,he,h2]
 ·refine AW.fy (by simp <;> omega) (AW.seqK fun K2 hK2=>AW.q ?_)
  by_cases hlt:(dO a).length<(dO b).length
  ·refine AW.fy (by simp_all) (AW.q ?_)
   exact AW.r0 (FinP.rt rfl 0 (by simp [cmpN_lt (can_len_lt (by omega) ha hb hlt)]))
  ·refine AW.fn (by simp_all) (AW.skip (hK2 _ _ (AW.q ?_)))
   exact AW.r0 (FinP.rt rfl 0 (by simp [cmpN_gt (can_len_lt (by omega) hb ha (by omega))]))
theorem r_odd_ok (G:List (List DV))(a:Option (List Nat)):CallsP Tryz.prog G 187 [nK .i64 a] (.c (.d (.bool (decide (val 1000000000 (dO a) % 2=1))))):=by
 refine CallsP.en Go.Proofs.Tryz.func187 rfl fun _=>AW.q ?_
 refine AW.seqK fun K hK=>?_
 cases hd:dO a with
 | nil=>
  have h1:(dO a).length=0:=by rw [hd];rfl
  refine AW.l1 h1 (hK _ _ ?_)
  exact AW.r0 (FinP.rt rfl 0 (by simp [hd]))
 | cons x l=>
  have h1:0<(dO a).length:=by rw [hd];simp
  have h1':(0:Int)<((dO a).length:Int):=by omega
  have h2:(dO a)[0]=x:=by simp [hd]
  have h4:=ix_nK' (P:=Tryz.prog) (T:=53) (lv:=fun _=>.hole) (k:=.i64) (k':=.i64) (o:=a) (i:=0) (by simp) h1
  simp only [Int.natCast_zero,h2] at h4
  have h5:(x:Int).tmod 2=((x % 2:Nat):Int):=tm_nat x 2
  have h6:val 1000000000 (dO a) % 2=x % 2:=by rw [hd,val_cons];omega
  refine AW.l4 h1 h1' h4 h5 (hK _ _ ?_)
  rw [h6]
  have h7:(x:Int) % 2=1↔x % 2=1:=by omega
  exact AW.r0 (FinP.rt rfl 0 (by simp [h7]))
theorem wK_snoc (k:IntKind)(l:List Nat)(x:Nat):wK k l++[CV.d (.int k (x:Int))]=wK k (l++[x]):=by simp [wK]
theorem wK_ren (k:IntKind)(l:List Nat)(g:Key→Key):(wK k l).map (CV.ren g)=wK k l:=by unfold wK;simp
theorem like_w (k:IntKind)(T:TypeId)(l:List Nat)(g:Key→Key):(LB.cells true false T (wK k l)).like (.cells true false T (wK k l)) g:=LB.like_cells.2 ⟨rfl,rfl,(wK_ren k l g).symm,id⟩
theorem r_sum_ok (G:List (List DV))(a b:Option (List Nat))(ha:can 1000000000 (dO a))(hb:can 1000000000 (dO b))(hal:(dO a).length≤1000000)(hbl:(dO b).length≤1000000) :
 CallsP Tryz.prog G 98 [nK .i64 a,nK .i64 b] (nK .i64 (some (dig 1000000000 (val 1000000000 (dO a)+val 1000000000 (dO b))))):=by
 have hbs:∀ (lv:Key→LB) (h:lv 1=.hole) (a:CV),stepBuildSlice Tryz.prog 53 1 [0] lv 1 [.c a]=some (.c (.lsl 1 0 1 1),[(1,.cells true false 2 [a])],[],True):=fun lv h a=>bs213 lv 1 h a
 obtain⟨M,hM⟩:∃ M,M=max (dO a).length (dO b).length:=⟨_,rfl⟩
 have hmx:(if ((dO a).length:Int)<((dO b).length:Int) then ((dO b).length:Int) else ((dO a).length:Int))=(M:Int):=by split <;> omega
 have hmx':(if (dO a).length<(dO b).length then ((dO b).length:Int) else ((dO a).length:Int))=(M:Int):=by split <;> omega
 have hM6:M≤1000000:=by omega
 have e0:=w64 (n:=(M:Int)+1) (by omega) (by omega)
 refine CallsP.ed Go.Proofs.Tryz.func98 rfl fun _=>AW.q ?_
 refine AW.sr fun K hK=>?_
 simp [intsOf,hmx',e0]
 repeat refine and_o ?_
 apply hK
 refine AW.q ?_
 refine AW.seqK fun K hK=>AW.q ?_
 refine AW.block ?_
 refine AW.loopV (fun (p:List Nat × Nat)=>⟨frOf [(0,nK .i64 a),(1,nK .i64 b),(5,.c (.lsl 0 0 p.1.length 1)),(6,.c (.d (.int .i64 p.2))),(7,.c (.d (.int .i64 p.1.length)))],
  upd (fun _=>.hole) 0 (.cells true false 2 (wK .i64 p.1))⟩) 1
  (fun p=>ok 1000000000 p.1∧p.2≤1∧val 1000000000 p.1+1000000000 ^ p.1.length*p.2=val 1000000000 ((dO a).take p.1.length)+val 1000000000 ((dO b).take p.1.length)∧(p.1.length≤M∨(p.1.length=M+1∧p.2=0∧1000000000 ^ M≤val 1000000000 (dO a)+val 1000000000 (dO b))))
  (fun p=>M+2 - p.1.length) ([],0) (Le.mk' _ (by simp [wK]) (by simp) (by simp)) (by simp [ok_nil]) ?_
 rintro⟨pre,c⟩ ⟨h1,h2,h3,h4⟩
 simp only at h1 h2 h3 h4
 have w7:=w64 (n:=(pre.length:Int)+1) (by omega) (by omega)
 refine AW.seqK fun K3 hK3=>AW.seqK fun K4 hK4=>?_
 have body:(pre.length<(dO a).length∨pre.length<(dO b).length∨0<c)→∀ (fr:Nat→AV) (κ:Nat),fr 0=nK .i64 a→fr 1=nK .i64 b→fr 5=.c (.lsl 0 0 pre.length 1)→fr 6=.c (.d (.int .i64 c))→fr 7=.c (.d (.int .i64 pre.length)) →
  K3 ⟨fr,upd (fun _=>.hole) 0 (.cells true false 2 (wK .i64 pre))⟩ κ:=by
  intro hgo fr κ z0 z1 z5 z6 z7
  apply hK3
  refine AW.seqK fun K5 hK5=>AW.block (AW.seqK fun K6 hK6=>?_)
  have g2:∀ (x:Nat) (fr:Nat→AV) (κ:Nat),x<1000000000→val 1000000000 ((dO a).take (pre.length+1))=val 1000000000 ((dO a).take pre.length)+1000000000 ^ pre.length*x→fr 0=nK .i64 a→fr 1=nK .i64 b→fr 5=.c (.lsl 0 0 pre.length 1)→fr 6=.c (.d (.int .i64 ((c+x:Nat):Int)))→fr 7=.c (.d (.int .i64 pre.length)) →
   K6 ⟨fr,upd (fun _=>.hole) 0 (.cells true false 2 (wK .i64 pre))⟩ κ:=by
   intro x fr κ hx hxv z0 z1 z5 z6 z7
   apply hK6
   refine AW.seqK fun K8 hK8=>?_
   have g3:∀ (y:Nat) (fr:Nat→AV) (κ:Nat),y<1000000000→val 1000000000 ((dO b).take (pre.length+1))=val 1000000000 ((dO b).take pre.length)+1000000000 ^ pre.length*y→fr 0=nK .i64 a→fr 1=nK .i64 b→fr 5=.c (.lsl 0 0 pre.length 1)→fr 6=.c (.d (.int .i64 ((c+x+y:Nat):Int)))→fr 7=.c (.d (.int .i64 pre.length)) →
    K8 ⟨fr,upd (fun _=>.hole) 0 (.cells true false 2 (wK .i64 pre))⟩ κ:=by
    intro y fr κ hy hyv z0 z1 z5 z6 z7
    apply hK8
    refine AW.at0 1 ?_
    have e1:(((c+x+y:Nat):Int)).tmod 1000000000=(((c+x+y) % 1000000000:Nat):Int):=tm_nat _ _
    have e2:(((c+x+y:Nat):Int)).tdiv 1000000000=(((c+x+y) / 1000000000:Nat):Int):=td_nat _ _
    have e3:=w64 (n:=(((c+x+y) / 1000000000:Nat):Int)) (by omega) (by omega)
    generalize hm:c+x+y=m at *
    have hlen:pre.length+1≤9223372036854775807∧(pre.length+1)*8≤140737488355328:=by omega
    refine AW.sr fun K9 hK9=>?_
    simp [z5,z6,hbs,srcA,keyOf,e1,wK_snoc,-stepBuildSlice,-Int.natCast_emod,-Int.natCast_ediv,-Int.natCast_add]
    repeat refine and_o ?_
    apply hK9
    refine AW.rP ?_
    simp [z6,e2,e3,-Int.natCast_emod,-Int.natCast_ediv]
    apply hK5
    refine AW.rP ?_
    simp [z7,w7]
    have hM2:pre.length≤M:=by
     rcases h4 with h4|⟨h4,h5,_⟩
     ·exact h4
     ·omega
    refine⟨pre++[m % 1000000000],m / 1000000000,Le.keys [(0,2,.cells true false 2 (wK .i64 (pre++[m % 1000000000])))] 19 _ rfl rfl (by simp) (by simp) (by simp) ?_ ?_,⟨ok_append.2 ⟨h1,ok_cons.2 ⟨by omega,ok_nil _⟩⟩,by omega,?_,?_⟩,by simp;omega⟩
    ·intro e he
     simp only [List.mem_cons,List.not_mem_nil,or_false] at he
     subst he
     simpa using like_w .i64 2 (pre++[m % 1000000000]) _
    ·simp [kmap,z0,z1]
    ·have:=snoc_carry 1000000000 pre m
     grind
    ·simp only [List.length_append,List.length_singleton]
     by_cases hlt:pre.length<M
     ·omega
     ·right
      have hx0:pre.length=M:=by omega
      have c1:c=1:=by omega
      have ea:val 1000000000 ((dO a).take pre.length)=val 1000000000 (dO a):=val_take_ge (by omega)
      have eb:val 1000000000 ((dO b).take pre.length)=val 1000000000 (dO b):=val_take_ge (by omega)
      have ea2:val 1000000000 ((dO a).take (pre.length+1))=val 1000000000 (dO a):=val_take_ge (by omega)
      have eb2:val 1000000000 ((dO b).take (pre.length+1))=val 1000000000 (dO b):=val_take_ge (by omega)
      have hp:0<1000000000 ^ pre.length:=Nat.pow_pos (by decide)
      rw [ea,ea2] at hxv
      rw [eb,eb2] at hyv
      have hx00:x=0:=by
       rcases Nat.eq_zero_or_pos x with h|h
       ·exact h
       ·have:=Nat.mul_pos hp h;omega
      grind
   refine AW.f2 z1 z7 ?_
   by_cases hlb:pre.length<(dO b).length
   ·have hy:(dO b)[pre.length]<1000000000:=hb.1 _ (List.getElem_mem hlb)
    have hyv:=val_take_succ (B:=1000000000) hlb
    have e5:IntKind.i64.wrap (((c+x:Nat):Int)+((dO b)[pre.length]:Nat))=((c+x+(dO b)[pre.length]:Nat):Int):=by rw [w64 (by omega) (by omega)];omega
    refine AW.fy (by simp [hlb] <;> omega) (AW.rP ?_)
    simp [z1,z6,z7,hlb,e5,-Int.natCast_add]
    exact g3 _ _ _ hy hyv (by simp [z0]) (by simp [z1]) (by simp [z5]) (by simp) (by simp [z7])
   ·refine AW.fn (by simp [hlb] <;> omega) (AW.skip ?_)
    simp
    exact g3 0 _ _ (by omega) (by rw [val_take_ge (by omega),val_take_ge (by omega)];rfl) (by simp [z0]) (by simp [z1]) (by simp [z5]) (by simp [z6]) (by simp [z7])
  refine AW.f2 z0 z7 ?_
  by_cases hla:pre.length<(dO a).length
  ·have hx:(dO a)[pre.length]<1000000000:=ha.1 _ (List.getElem_mem hla)
   have hxv:=val_take_succ (B:=1000000000) hla
   have e5:IntKind.i64.wrap ((c:Int)+((dO a)[pre.length]:Nat))=((c+(dO a)[pre.length]:Nat):Int):=by rw [w64 (by omega) (by omega)];omega
   refine AW.fy (by simp [hla] <;> omega) (AW.rP ?_)
   simp [z0,z6,z7,hla,e5,-Int.natCast_add]
   exact g2 _ _ _ hx hxv (by simp [z0]) (by simp [z1]) (by simp [z5]) (by simp) (by simp [z7])
  ·refine AW.fn (by simp [hla] <;> omega) (AW.skip ?_)
   simp
   exact g2 0 _ _ (by omega) (by rw [val_take_ge (by omega),val_take_ge (by omega)];rfl) (by simp [z0]) (by simp [z1]) (by simp [z5]) (by simp [z6]) (by simp [z7])
 by_cases c1:pre.length<(dO a).length
 ·refine AW.l1 c1 (hK4 _ _ ?_)
  refine AW.fy (by rfl) (AW.skip ?_)
  simp_all
 by_cases c2:pre.length<(dO b).length
 ·refine AW.l2 c1 c2 (hK4 _ _ ?_)
  refine AW.fy (by rfl) (AW.skip ?_)
  simp_all
 by_cases c3:0<c
 ·have c3':(0:Int)<(c:Int):=by omega
  refine AW.l4 c1 c2 c3 c3' (hK4 _ _ ?_)
  refine AW.cy (AW.skip ?_)
  simp_all
 obtain rfl:c=0:=by omega
 refine AW.l2 c1 c2 (hK4 _ _ ?_)
 refine AW.cn (AW.exit (hK _ _ (AW.q ?_)))
 rw [Nat.mul_zero,Nat.add_zero,val_take_ge (by omega),val_take_ge (by omega)] at h3
 have hc:can 1000000000 pre:=by
  refine top_can h1 ?_
  rcases h4 with h4|⟨h4,_,h5⟩
  ·by_cases hM0:M=0
   ·grind
   ·right
    have hpm:pre.length=M:=by omega
    rw [h3,hpm]
    by_cases hq:(dO a).length=M
    ·have:=can_ge ha (fun e=>hM0 (by grind))
     grind
    ·have hq2:(dO b).length=M:=by omega
     have:=can_ge hb (fun e=>hM0 (by grind))
     grind
  ·grind
 have hout:=dig_of (by decide:2≤1000000000) hc h3
 refine AW.ret (κ:=0) (FinD.tmp (κ:=0) (X:=.c (.lsl 0 0 pre.length 1)) (ks:=[0]) rfl (by simp) ?_)
 rw [← hout]
 exact dRes_wK (own:=true) (fz:=false) (T:=2) (l:=pre) (by simp) (by omega)
theorem r_difference_ok (G:List (List DV))(a b:Option (List Nat))(oka:ok 1000000000 (dO a))(okb:ok 1000000000 (dO b))(hal:(dO a).length≤1000000)(hbl:(dO b).length≤1000000)(hv:val 1000000000 (dO b)≤val 1000000000 (dO a)) :
 CallsP Tryz.prog G 100 [nK .i64 a,nK .i64 b] (nK .i64 (some (dig 1000000000 (val 1000000000 (dO a) - val 1000000000 (dO b))))):=by
 have hbs:∀ (lv:Key→LB) (h:lv 1=.hole) (a:CV),stepBuildSlice Tryz.prog 53 1 [0] lv 1 [.c a]=some (.c (.lsl 1 0 1 1),[(1,.cells true false 2 [a])],[],True):=fun lv h a=>bs213 lv 1 h a
 refine CallsP.en0 Go.Proofs.Tryz.func100 rfl fun _=>AW.q ?_
 refine AW.sr fun K hK=>?_
 simp
 repeat refine and_o ?_
 apply hK
 refine AW.q ?_
 refine AW.seqK fun K hK=>AW.q ?_
 refine AW.block ?_
 refine AW.loopV (fun (p:List Nat × Nat)=>⟨frOf [(0,nK .i64 a),(1,nK .i64 b),(5,.c (.lsl 0 0 p.1.length 1)),(6,.c (.d (.int .i64 p.2))),(7,.c (.d (.int .i64 p.1.length)))],
  upd (fun _=>.hole) 0 (.cells true false 2 (wK .i64 p.1))⟩) 1
  (fun p=>ok 1000000000 p.1∧p.1.length≤(dO a).length∧p.2≤1∧val 1000000000 p.1+val 1000000000 ((dO b).take p.1.length)=val 1000000000 ((dO a).take p.1.length)+1000000000 ^ p.1.length*p.2)
  (fun p=>(dO a).length - p.1.length) ([],0) (Le.mk' _ (by simp [wK]) (by simp) (by simp)) (by simp [ok_nil]) ?_
 rintro⟨pre,c⟩ ⟨h2,h1,h3,h4⟩
 simp only at h1 h2 h3 h4
 have w7:=w64 (n:=(pre.length:Int)+1) (by omega) (by omega)
 refine AW.seqK fun K3 hK3=>AW.q ?_
 by_cases hlt:pre.length<(dO a).length
 ·have hx:(dO a)[pre.length]<1000000000:=oka _ (List.getElem_mem hlt)
  have hxv:=val_take_succ (B:=1000000000) hlt
  obtain⟨x,hxe⟩:∃ x,(dO a)[pre.length]=x:=⟨_,rfl⟩
  rw [hxe] at hx hxv
  have w1:=w64 (n:=(x:Int) - c) (by omega) (by omega)
  refine AW.fy (by simp_all) (AW.skip (hK3 _ _ (AW.seqK fun K5 hK5=>AW.block (AW.f3 hlt hxe w1 ?_))))
  refine AW.seqK fun K6 hK6=>?_
  have g3:∀ (y:Nat) (fr:Nat→AV) (κ:Nat),y<1000000000→val 1000000000 ((dO b).take (pre.length+1))=val 1000000000 ((dO b).take pre.length)+1000000000 ^ pre.length*y→fr 0=nK .i64 a→fr 1=nK .i64 b→fr 5=.c (.lsl 0 0 pre.length 1)→fr 8=.c (.d (.int .i64 ((x:Int) - c - y)))→fr 7=.c (.d (.int .i64 pre.length)) →
   K6 ⟨fr,upd (fun _=>.hole) 0 (.cells true false 2 (wK .i64 pre))⟩ κ:=by
   intro y fr κ hy hyv z0 z1 z5 z8 z7
   apply hK6
   refine AW.at0 1 ?_
   refine AW.q ?_
   refine AW.seqK fun K7 hK7=>?_
   have g4:∀ (v bb:Nat) (fr:Nat→AV) (κ:Nat),v<1000000000→bb≤1→v+c+y=x+1000000000*bb→fr 0=nK .i64 a→fr 1=nK .i64 b→fr 5=.c (.lsl 0 0 pre.length 1)→fr 6=.c (.d (.int .i64 (bb:Int)))→fr 8=.c (.d (.int .i64 (v:Int)))→fr 7=.c (.d (.int .i64 pre.length)) →
    K7 ⟨fr,upd (fun _=>.hole) 0 (.cells true false 2 (wK .i64 pre))⟩ κ:=by
    intro v bb fr κ hv0 hb0 hs z0 z1 z5 z6 z8 z7
    apply hK7
    refine AW.at0 1 ?_
    refine AW.rP ?_
    simp [z5,z8,hbs,srcA,keyOf,wK_snoc,-stepBuildSlice]
    repeat refine and_o ?_
    apply hK5
    refine AW.rP ?_
    simp [z7,w7]
    refine⟨pre++[v],bb,Le.keys [(0,2,.cells true false 2 (wK .i64 (pre++[v])))] 19 _ rfl rfl (by simp) (by simp) (by simp) ?_ ?_,⟨ok_append.2 ⟨h2,ok_cons.2 ⟨hv0,ok_nil _⟩⟩,by simp;omega,hb0,?_⟩,by simp;omega⟩
    ·intro e he
     simp only [List.mem_cons,List.not_mem_nil,or_false] at he
     subst he
     simpa using like_w .i64 2 (pre++[v]) _
    ·simp [kmap,z0,z1,z6]
    ·rw [List.length_append,List.length_singleton,val_snoc,hxv,hyv,Nat.pow_succ]
     grind
   refine AW.f1 z8 ?_
   by_cases hn:(x:Int) - c - y<0
   ·have w2:IntKind.i64.wrap ((x:Int) - c - y+1000000000)=((x+1000000000 - c - y:Nat):Int):=by rw [w64 (by omega) (by omega)];omega
    refine AW.fy (by simp_all) (AW.f2 z8 w2 ?_)
    refine AW.rP ?_
    simp
    exact g4 (x+1000000000 - c - y) 1 _ _ (by omega) (by omega) (by omega) (by simp [z0]) (by simp [z1]) (by simp [z5]) (by simp) (by simp) (by simp [z7])
   ·have w2:(x:Int) - c - y=((x - c - y:Nat):Int):=by omega
    refine AW.fn (by simp_all) (AW.skip ?_)
    simp
    exact g4 (x - c - y) 0 _ _ (by omega) (by omega) (by omega) (by simp [z0]) (by simp [z1]) (by simp [z5]) (by simp) (by simp_all) (by simp [z7])
  refine AW.q ?_
  by_cases hlb:pre.length<(dO b).length
  ·have hy:(dO b)[pre.length]<1000000000:=okb _ (List.getElem_mem hlb)
   have hyv:=val_take_succ (B:=1000000000) hlb
   have w2:=w64 (n:=(x:Int) - c - ((dO b)[pre.length]:Nat)) (by omega) (by omega)
   refine AW.fy (by simp_all) (AW.rP ?_)
   simp [hlb,w2]
   exact g3 _ _ _ hy hyv (by simp) (by simp) (by simp) (by simp) (by simp)
  ·refine AW.fn (by simp_all) (AW.skip ?_)
   simp
   exact g3 0 _ _ (by omega) (by rw [val_take_ge (by omega),val_take_ge (by omega)];rfl) (by simp) (by simp) (by simp) (by simp) (by simp)
 ·refine AW.fn (by simp_all) (AW.exit ?_)
  simp
  have e2:pre.length=(dO a).length:=by omega
  apply hK
  refine AW.sr fun K hK=>?_
  simp
  have hlb:val 1000000000 ((dO b).take pre.length)=val 1000000000 (dO b):=by
   by_cases hb:(dO b).length≤pre.length
   ·exact val_take_ge hb
   ·have g1:=val_take_drop (B:=1000000000) (dO b) pre.length (by omega)
    have g2:=val_lt oka
    rw [← e2] at g2
    have g3:val 1000000000 ((dO b).drop pre.length)=0:=by
     apply Classical.byContradiction
     intro hne
     have:1000000000 ^ pre.length*1≤1000000000 ^ pre.length*val 1000000000 ((dO b).drop pre.length):=Nat.mul_le_mul_left _ (by omega)
     omega
    grind
  have hva:val 1000000000 ((dO a).take pre.length)=val 1000000000 (dO a):=val_take_ge (by omega)
  have hc:c=0:=by
   apply Classical.byContradiction
   intro hne
   have:c=1:=by omega
   subst this
   have:=val_lt h2
   rw [hlb,hva] at h4
   omega
  subst hc
  have hout:trimN pre=dig 1000000000 (val 1000000000 (dO a) - val 1000000000 (dO b)):=by
   refine trim_dig (by decide) h2 ?_
   rw [hlb,hva] at h4;omega
  refine CallP.frzN (k:=.i64) (l:=pre) 0 1 0 (by simp;rfl) (by omega) (r_trimS_ok _ _ (by omega)) (by simp) (by simp) (by simp) ?_
  simp
  apply hK
  exact AW.r0 (FinP.rt rfl 1 (by simp [hout]))
theorem r_product_ok (G:List (List DV))(a b:Option (List Nat))(oka:ok 1000000000 (dO a))(okb:ok 1000000000 (dO b))(ha:(dO a).length≤1000000)(hb:(dO b).length≤1000000) :
 CallsP Tryz.prog G 95 [nK .i64 a,nK .i64 b] (nK .i64 (some (dig 1000000000 (val 1000000000 (dO a)*val 1000000000 (dO b))))):=by
 refine CallsP.en Go.Proofs.Tryz.func95 rfl fun _=>AW.q ?_
 refine AW.seqK fun K hK=>?_
 have e0:IntKind.i64.wrap (((dO a).length:Int)+(dO b).length)=(((dO a).length+(dO b).length:Nat):Int):=by rw [w64 (by omega) (by omega)];omega
 refine AW.rP ?_
 simp [e0,-Int.natCast_add]
 repeat refine and_o ?_
 apply hK
 refine AW.seqK fun K hK=>AW.q ?_
 refine AW.block ?_
 refine AW.loopV (fun (p:Nat × List Nat)=>⟨frOf [(0,nK .i64 a),(1,nK .i64 b),(5,.c (.lsl 0 0 ((dO a).length+(dO b).length) 1)),(6,.c (.d (.int .i64 p.1)))],
  upd (fun _=>.hole) 0 (.cells true false 2 (wK .i64 (p.2++List.replicate ((dO a).length - p.1) 0)))⟩) 1
  (fun p=>p.1≤(dO a).length∧p.2.length=p.1+(dO b).length∧ok 1000000000 p.2∧val 1000000000 p.2=val 1000000000 ((dO a).take p.1)*val 1000000000 (dO b))
  (fun p=>(dO a).length - p.1) (0,List.replicate (dO b).length 0) (Le.mk' _ (by simp [wK_zeros,Nat.add_comm]) (by simp) (by simp)) ⟨by simp,by simp,ok_zeros (by omega) _,by simp [val_zeros]⟩ ?_
 rintro⟨i,lo⟩ ⟨h1,h2,h3,h4⟩
 simp only at h1 h2 h3 h4
 refine AW.seqK fun K3 hK3=>AW.q ?_
 by_cases hlt:i<(dO a).length
 ·refine AW.fy (by simp_all) (AW.skip (hK3 _ _ (AW.seqK fun K3 hK3=>AW.block ?_)))
  have hx:(dO a)[i]<1000000000:=oka _ (List.getElem_mem hlt)
  obtain⟨x,hxe⟩:∃ x,(dO a)[i]=x:=⟨_,rfl⟩
  rw [hxe] at hx
  refine AW.q ?_
  refine AW.seqK fun K4 hK4=>AW.q ?_
  refine AW.block ?_
  refine AW.loopV (fun (p:Nat × List Nat × Nat)=>⟨frOf [(0,nK .i64 a),(1,nK .i64 b),(5,.c (.lsl 0 0 ((dO a).length+(dO b).length) 1)),(6,.c (.d (.int .i64 i))),(7,.c (.d (.int .i64 p.2.2))),(8,.c (.d (.int .i64 p.1)))],
   upd (fun _=>.hole) 0 (.cells true false 2 (wK .i64 (p.2.1++List.replicate ((dO a).length - i) 0)))⟩) 2
   (fun p=>p.1≤(dO b).length∧p.2.1.length=i+(dO b).length∧ok 1000000000 p.2.1∧p.2.2<1000000000∧val 1000000000 p.2.1+1000000000 ^ (i+p.1)*p.2.2=val 1000000000 ((dO a).take i)*val 1000000000 (dO b)+1000000000 ^ i*(x*val 1000000000 ((dO b).take p.1)))
   (fun p=>(dO b).length - p.1) (0,lo,0) (Le.mk' _ (by simp) (by simp) (by simp)) ⟨by simp,h2,h3,by simp,by simp [h4]⟩ ?_
  rintro⟨j,lo2,c⟩ ⟨g1,g2,g3,g4,g5⟩
  simp only at g1 g2 g3 g4 g5
  refine AW.seqK fun K6 hK6=>AW.q ?_
  by_cases hlj:j<(dO b).length
  ·refine AW.fy (by simp_all) (AW.skip (hK6 _ _ (AW.seqK fun K8 hK8=>AW.block (AW.seqK fun K9 hK9=>?_))))
   have hy:(dO b)[j]<1000000000:=okb _ (List.getElem_mem hlj)
   have hij:i+j<lo2.length:=by omega
   have hij2:i+j<(lo2++List.replicate ((dO a).length - i) 0).length:=by simp;omega
   have hij3:i+j<lo2.length+((dO a).length - i):=by omega
   have ho:lo2[i+j]<1000000000:=g3 _ (List.getElem_mem hij)
   have ho2:(lo2++List.replicate ((dO a).length - i) 0)[i+j]=lo2[i+j]:=List.getElem_append_left hij
   have hb2:val 1000000000 ((dO b).take (j+1))=val 1000000000 ((dO b).take j)+1000000000 ^ j*(dO b)[j]:=val_take_succ hlj
   have hset:=val_set (B:=1000000000) hij
   generalize hye:(dO b)[j]=y at hy hb2
   generalize hoe:lo2[i+j]=o at ho ho2 hset
   have hxy:x*y≤999999999*999999999:=Nat.mul_le_mul (by omega) (by omega)
   have e1:IntKind.i64.wrap ((i:Int)+j)=((i+j:Nat):Int):=by rw [w64 (by omega) (by omega)];omega
   have e4:IntKind.i64.wrap ((x:Int)*y)=((x*y:Nat):Int):=by
    rw [← Int.natCast_mul];generalize x*y=p at hxy;exact w64 (by omega) (by omega)
   have e5:IntKind.i64.wrap ((c:Int)+o)=((c+o:Nat):Int):=by rw [w64 (by omega) (by omega)];omega
   have e6:IntKind.i64.wrap (((c+o:Nat):Int)+((x*y:Nat):Int))=((c+(x*y+o):Nat):Int):=by
    generalize x*y=p at hxy;rw [w64 (by omega) (by omega)];omega
   refine AW.drawQ mixed (by kernel_rfl) rfl rfl ?_
   simp [e1,e4,e5,e6,hij3,ho2,hxe,hye,hlt,hlj,-Int.natCast_add,-Int.natCast_mul]
   repeat refine and_o ?_
   apply hK9
   have hbd:c+(x*y+o)<1000000000000000000:=by generalize x*y=p at hxy;omega
   generalize hm:c+(x*y+o)=m at hbd
   have f1:((m:Nat):Int).tmod 1000000000=((m % 1000000000:Nat):Int):=tm_nat _ _
   have f2:setSeg (wK .i64 (lo2++List.replicate ((dO a).length - i) 0)) (i+j) [CV.d (.int .i64 ((m % 1000000000:Nat):Int))]=wK .i64 (lo2.set (i+j) (m % 1000000000)++List.replicate ((dO a).length - i) 0):=by
    rw [wK_set _ hij2,List.set_append_left _ _ hij]
   have f3:((m:Nat):Int).tdiv 1000000000=((m / 1000000000:Nat):Int):=td_nat _ _
   have f3':=w64 (n:=((m / 1000000000:Nat):Int)) (by omega) (by omega)
   have f4:(i+j:Int)<(dO a).length+(dO b).length:=by omega
   refine AW.sr fun K9 hK9=>?_
   simp [e1,f1,f2,-Int.natCast_add,-Int.natCast_emod]
   repeat refine and_o ?_
   apply hK9
   refine AW.rP ?_
   simp [f3,f3',-Int.natCast_ediv]
   apply hK8
   have f5:=w64 (n:=(j:Int)+1) (by omega) (by omega)
   refine AW.rP ?_
   simp [f5]
   refine⟨j+1,lo2.set (i+j) (m % 1000000000),m / 1000000000,Le.mk' _ (by simp) (by simp) (by simp),⟨by omega,by simp [g2],ok_set g3 _ (Nat.mod_lt _ (by omega)),?_,?_⟩,by omega⟩
   ·omega
   ·rw [hb2,← hm,← Nat.add_assoc i j 1]
    exact mul_step g5 (by grind)
  ·refine AW.fn (by simp_all) (AW.exit (hK4 _ _ ?_))
   have ej:j=(dO b).length:=by omega
   subst ej
   rw [val_take_ge (Nat.le_refl _)] at g5
   have e1:IntKind.i64.wrap ((i:Int)+(dO b).length)=((i+(dO b).length:Nat):Int):=by rw [w64 (by omega) (by omega)];omega
   have hz:(dO a).length - i=((dO a).length - i - 1)+1:=by omega
   have f2:setSeg (wK .i64 (lo2++List.replicate ((dO a).length - i) 0)) (i+(dO b).length) [CV.d (.int .i64 (c:Int))]=wK .i64 (lo2++[c]++List.replicate ((dO a).length - i - 1) 0):=by
    rw [wK_set _ (by simp;omega),hz,← g2,set_zeros];simp
   have f6:i+(dO b).length<lo2.length+((dO a).length - i):=by omega
   refine AW.rP ?_
   simp [e1,f2,-Int.natCast_add]
   repeat refine and_o ?_
   apply hK3
   have f5:=w64 (n:=(i:Int)+1) (by omega) (by omega)
   refine AW.rP ?_
   simp [f5]
   have f7:(dO a).length - (i+1)=(dO a).length - i - 1:=by omega
   refine⟨i+1,lo2++[c],Le.mk' _ (by simp [f7]) (by simp) (by simp),⟨by omega,by simp;omega,ok_append.2 ⟨g3,ok_cons.2 ⟨g4,ok_nil _⟩⟩,?_⟩,by omega⟩
   rw [val_snoc,g2,g5,val_take_succ hlt,hxe,Nat.add_mul,Nat.mul_assoc]
 ·refine AW.fn (by simp_all) (AW.exit (hK _ _ ?_))
  have e2:i=(dO a).length:=by omega
  subst e2
  refine AW.sr fun K hK=>?_
  simp
  rw [← h2]
  have hout:trimN lo=dig 1000000000 (val 1000000000 (dO a)*val 1000000000 (dO b)):=by
   refine trim_dig (by decide) h3 ?_
   rw [h4,val_take_ge (Nat.le_refl _)]
  refine CallP.frzN (k:=.i64) (l:=lo) 0 1 0 (by simp;rfl) (by omega) (r_trimS_ok _ _ (by omega)) (by simp) (by simp) (by simp) ?_
  simp
  apply hK
  exact AW.r0 (FinP.rt rfl 1 (by simp [hout]))
theorem r_half_ok (G:List (List DV))(a:Option (List Nat))(oka:ok 1000000000 (dO a))(ha:(dO a).length≤1000000) :
 CallsP Tryz.prog G 188 [nK .i64 a] (nK .i64 (some (dig 1000000000 (val 1000000000 (dO a) / 2)))):=by
 refine CallsP.en Go.Proofs.Tryz.func188 rfl fun _=>AW.q ?_
 refine AW.sr fun K hK=>?_
 simp
 repeat refine and_o ?_
 apply hK
 refine AW.q ?_
 have w0:=w64 (n:=((dO a).length:Int) - 1) (by omega) (by omega)
 refine AW.seqK fun K hK=>AW.f1 w0 ?_
 refine AW.block ?_
 refine AW.loopV (fun (p:Nat × List Nat × Nat)=>⟨frOf [(0,nK .i64 a),(3,.c (.lsl 0 0 (dO a).length 1)),(4,.c (.d (.int .i64 p.2.2))),(5,.c (.d (.int .i64 ((p.1:Int) - 1))))],
  upd (fun _=>.hole) 0 (.cells true false 2 (wK .i64 (List.replicate p.1 0++p.2.1)))⟩) 1
  (fun p=>p.1+p.2.1.length=(dO a).length∧ok 1000000000 p.2.1∧p.2.2≤1∧2*val 1000000000 p.2.1+p.2.2=val 1000000000 ((dO a).drop p.1))
  (fun p=>p.1) ((dO a).length,[],0) (Le.mk' _ (by simp [wK_zeros]) (by simp) (by simp)) ⟨by simp,ok_nil _,by simp,by simp⟩ ?_
 rintro⟨k,qs,c⟩ ⟨h1,h2,h3,h4⟩
 simp only at h1 h2 h3 h4
 refine AW.seqK fun K3 hK3=>AW.q ?_
 cases k with
 | zero=>
  refine AW.cn (AW.exit (hK _ _ (AW.seqK fun K hK=>?_)))
  have hl:qs.length=(dO a).length:=by omega
  refine AW.rP ?_
  simp
  rw [← hl]
  have hout:trimN qs=dig 1000000000 (val 1000000000 (dO a) / 2):=by
   refine trim_dig (by decide) h2 ?_
   rw [List.drop_zero] at h4;omega
  refine CallP.frzN (k:=.i64) (l:=qs) 0 1 0 (by simp;rfl) (by omega) (r_trimS_ok _ _ (by omega)) (by simp) (by simp) (by simp) ?_
  simp
  apply hK
  exact AW.r0 (FinP.rt rfl 1 (by simp [hout]))
 | succ k=>
  have hk:k<(dO a).length:=by omega
  have e2:((k+1:Nat):Int) - 1=k:=by omega
  simp only [e2]
  have hx:(dO a)[k]<1000000000:=oka _ (List.getElem_mem hk)
  have hxv:=val_drop (B:=1000000000) hk
  obtain⟨x,hxe⟩:∃ x,(dO a)[k]=x:=⟨_,rfl⟩
  rw [hxe] at hx hxv
  obtain⟨m,hm⟩:∃ m,1000000000*c+x=m:=⟨_,rfl⟩
  have w1:IntKind.i64.wrap ((c:Int)*1000000000)=(m:Int) - x:=by rw [w64 (by omega) (by omega)];omega
  have w2:IntKind.i64.wrap ((m:Int) - x+x)=(m:Int):=by rw [w64 (by omega) (by omega)];omega
  refine AW.cy (AW.skip (hK3 _ _ (AW.seqK fun K5 hK5=>AW.block (AW.sr fun K6 hK6=>?_))))
  simp [hk,hxe,w1,w2,-Int.sub_add_cancel,-Int.natCast_add,-Int.natCast_mul]
  apply hK6
  clear w1 w2
  have f3:((m:Nat):Int).tdiv 2=((m / 2:Nat):Int):=td_nat _ 2
  have f3':=w64 (n:=((m / 2:Nat):Int)) (by omega) (by omega)
  have f4:((m:Nat):Int).tmod 2=((m % 2:Nat):Int):=tm_nat _ 2
  have f5:setSeg (wK .i64 (List.replicate (k+1) 0++qs)) k [CV.d (.int .i64 ((m / 2:Nat):Int))]=wK .i64 (List.replicate k 0++((m / 2)::qs)):=by
   rw [wK_set _ (by simp;omega),zeros_set]
  have hk2:(k:Int)<((dO a).length:Int):=by omega
  have hk3:k<k+1+qs.length:=by omega
  refine AW.sr fun K6 hK6=>?_
  simp [f3,f3',f5,hk2,-Int.natCast_ediv]
  apply hK6
  refine AW.rP ?_
  simp [f4,-Int.natCast_emod]
  apply hK5
  have w3:=w64 (n:=(k:Int) - 1) (by omega) (by omega)
  refine AW.rP ?_
  simp [w3]
  refine⟨k,(m / 2)::qs,m % 2,Le.mk' _ (by simp) (by simp) (by simp),⟨by simp;omega,ok_cons.2 ⟨by omega,h2⟩,by omega,?_⟩,by omega⟩
  rw [hxv,val_cons]
  omega
theorem dK_flat (k:IntKind)(l:List Nat):(dK k l).flatten.map CV.d=wK k l:=by
 have:(dK k l).flatten=l.map fun (x:Nat)=>DV.int k (x:Int):=by
  unfold dK;induction l with
  | nil=>rfl
  | cons a l ih=>grind
 rw [this,List.map_map];rfl
theorem srcA_r {lv:Key→LB}{k:IntKind}(o:Option (List Nat)):srcA lv 1 (nK k o)=some ((dO o).length,wK k (dO o)):=by
 cases o with
 | none=>rfl
 | some l=>
  have h1:(dK k l).all (fun e=>e.length == 1)=true:=by rw [List.all_eq_true];intro e he;obtain⟨x,_,rfl⟩:=List.mem_map.1 he;rfl
  show srcA lv 1 (.c (.d (.sl (dK k l))))=_
  simp only [srcA,h1,if_true,dK_flat]
  simp [dK]
theorem nK_none (k:IntKind):nK k none=.c (.d .nilsl):=rfl
theorem wK_cons (k:IntKind)(x:Nat)(l:List Nat):CV.d (.int k (x:Int))::wK k l=wK k (x::l):=rfl
theorem CallDo.frzN2 {c:Ctx}{f:FuncId}{lv:Key→LB}{K:AV→List (Key × LB)→List Key→Nat→Prop}(κ' kh κb:Key) {T:TypeId}{k:IntKind}{l:List Nat}{x0 x:AV}(hk:lv κb=.cells true false T (wK k l)) (hl:l.length≤1000)
 (hc:CallsP c.P c.G f [x0,nK k (some l)] x) (hx0:x0.pure=true) (hx:x.pure=true) (hh:lv kh=.hole) (hK:K x [(κb,.cells true true T (wK k l))] [kh,κb] κ'):CallDo c f [x0,.c (.lsl κb 0 l.length 1)] lv K:=by
 have e:updL lv (frzW [(κb,T,wK k l)]) κb=.cells true true T (wK k l):=by simp [frzW,updL,upd]
 refine CallDo.frzL (us:=[x0,nK k (some l)]) κ' kh [(κb,T,wK k l)] [kh,κb] hc hx (by grind) (by simp) hh rfl (fun i p' q'=>?_) (fun a ha j hj=>?_) (by simp) hK
 ·have hi:i=0∨i=1:=by simp at p';omega
  rcases hi with rfl|rfl
  ·grind
  ·exact .inr ⟨[κb],dArg_wK e (by omega),by simp⟩
 ·simp only [List.mem_cons,List.not_mem_nil,or_false] at ha
  rcases ha with rfl|rfl
  ·rw [rdA_pure hx0] at hj;cases hj
  ·left
   simp only [rdA,rdK,e,List.mem_cons] at hj
   rcases hj with rfl|hj
   ·simp
   ·simp only [List.mem_flatMap] at hj
    obtain⟨y,hy,hj⟩:=hj
    simp only [wK,List.mem_map] at hy
    obtain⟨z,_,rfl⟩:=hy
    cases hj
theorem rtup2_pure (o o':Option (List Nat)):(AV.tup [nK .i64 o,nK .i64 o']).pure=true:=by
 cases o <;> cases o' <;> rfl
theorem topX {B:Nat}{l:List Nat}{n:Nat}(hB:0<B) (h:ok B l) (h1:1≤n) (h2:n≤l.length) (h3:l.length≤n+1):val B l / B ^ (n - 1)=l.getD (n - 1) 0+B*l.getD n 0:=by
 have e1:=val_take_drop (B:=B) l (n - 1) (by omega)
 have e2:=val_drop (B:=B) (l:=l) (i:=n - 1) (by omega)
 rw [show n - 1+1=n by omega] at e2
 have e3:val B (l.drop n)=l.getD n 0:=by
  by_cases h4:n<l.length
  ·rw [val_drop h4,val_drop_ge (by omega),Nat.mul_zero,Nat.add_zero,List.getD_eq_getElem?_getD,List.getElem?_eq_getElem h4];rfl
  ·rw [val_drop_ge (by omega),List.getD_eq_getElem?_getD,List.getElem?_eq_none (by omega)];rfl
 have e4:l.getD (n - 1) 0=l[n - 1]'(by omega):=by rw [List.getD_eq_getElem?_getD,List.getElem?_eq_getElem (by omega)];rfl
 have e5:=val_lt (ok_take h (n - 1))
 rw [List.length_take,Nat.min_eq_left (by omega)] at e5
 rw [e1,e2,e3,e4]
 generalize l[n - 1]+B*l.getD n 0=q
 exact Nat.div_eq_of_lt_le (by grind) (by grind)
theorem dv_lo {V vb X t P:Nat}(h1:X*P≤V) (h2:vb<(t+1)*P) (hb:0<vb):X / (t+1)≤V / vb:=by
 rw [Nat.le_div_iff_mul_le hb]
 calc X / (t+1)*vb≤X / (t+1)*((t+1)*P):=Nat.mul_le_mul_left _ (Nat.le_of_lt h2)
  _=(X / (t+1)*(t+1))*P:=by grind
  _≤X*P:=Nat.mul_le_mul_right _ (Nat.div_mul_le_self _ _)
  _≤V:=h1
theorem dv_hi {V vb X t P:Nat}(h1:V<(X+1)*P) (h2:t*P≤vb) (ht:0<t):V / vb≤(X+1) / t:=by
 have hP:0<P:=by
  rcases Nat.eq_zero_or_pos P with h|h
  ·subst h;omega
  ·exact h
 have hb:0<vb:=Nat.lt_of_lt_of_le (Nat.mul_pos ht hP) h2
 rw [Nat.le_div_iff_mul_le ht]
 have h3:V / vb*(t*P)≤V:=Nat.le_trans (Nat.mul_le_mul_left _ h2) (Nat.div_mul_le_self _ _)
 rw [← Nat.mul_assoc] at h3
 have h4:=Nat.lt_of_mul_lt_mul_right (Nat.lt_of_le_of_lt h3 h1)
 omega
theorem dv_step {B vb k R x qs V:Nat}(hV:x+B*R=V) (h:vb*qs+R=k):vb*(V / vb+B*qs)+V % vb=x+B*k:=by
 have h1:=Nat.div_add_mod V vb
 grind
def rRem (a b:Option (List Nat)):Option (List Nat):=if dO a=[] then none else some (dig 1000000000 (val 1000000000 (dO a) % val 1000000000 (dO b)))
theorem dig0:dig 1000000000 0=[]:=(dig_nil (by decide)).2 rfl
theorem r_divided_ok (G:List (List DV))(a b:Option (List Nat))(oka:ok 1000000000 (dO a))(hb:can 1000000000 (dO b))(hb0:dO b≠[])(hal:(dO a).length≤100000)(hbl:(dO b).length≤100000) :
 CallsP Tryz.prog G 145 [nK .i64 a,nK .i64 b] (.tup [nK .i64 (some (dig 1000000000 (val 1000000000 (dO a) / val 1000000000 (dO b)))),nK .i64 (rRem a b)]):=by
 have hbs:∀ (lv:Key→LB) (h:lv 1=.hole) (a:CV),stepBuildSlice Tryz.prog 53 1 [0] lv 1 [.c a]=some (.c (.lsl 1 0 1 1),[(1,.cells true false 2 [a])],[],True):=fun lv h a=>bs213 lv 1 h a
 obtain⟨n,hn⟩:∃ n,(dO b).length=n:=⟨_,rfl⟩
 obtain⟨vb,hvb⟩:∃ vb,val 1000000000 (dO b)=vb:=⟨_,rfl⟩
 have hn1:1≤n:=by rw [← hn];exact List.length_pos_iff.2 hb0
 have hvp:0<vb:=by rw [← hvb];exact can_pos hb hb0
 have hdb:dO b=dig 1000000000 vb:=dig_of (by decide) hb hvb
 have hvl:vb<1000000000 ^ n:=by rw [← hvb,← hn];exact val_lt hb.1
 obtain⟨t,ht⟩:∃ t,(dO b)[n - 1]?=some t:=⟨_,List.getElem?_eq_getElem (by omega)⟩
 have ht1:(dO b)[n - 1]'(by omega)=t:=(List.getElem?_eq_some_iff.1 ht).2
 have htB:t<1000000000:=by rw [← ht1];exact hb.1 _ (List.getElem_mem _)
 have ht0:0<t:=by
  have:=hb.2 t (by grind)
  omega
 have htop:=topX (B:=1000000000) (by decide) hb.1 hn1 (by omega) (by omega)
 rw [hvb,List.getD_eq_getElem?_getD,ht,List.getD_eq_getElem?_getD,List.getElem?_eq_none (by omega)] at htop
 simp only [Option.getD_some,Option.getD_none,Nat.mul_zero,Nat.add_zero] at htop
 have hPp:0<1000000000 ^ (n - 1):=Nat.pow_pos (by decide)
 have hb1:t*1000000000 ^ (n - 1)≤vb:=by rw [← htop];exact Nat.div_mul_le_self _ _
 have hb2:vb<(t+1)*1000000000 ^ (n - 1):=by rw [← htop];exact Nat.lt_mul_of_div_lt (Nat.lt_succ_self _) hPp
 have cmpG:∀ V,CallsP Tryz.prog G 99 [(nK .i64 (some (dig 1000000000 (V)))),nK .i64 b] (.c (.d (.int .i64 (cmpN V vb)))):=fun V=>by
  have hcmp:=r_compare_ok G (a:=some (dig 1000000000 V)) (b:=b) (dig_can (by decide) V) hb
  simp only [dO_some,dig_val (by decide:2≤1000000000),hvb] at hcmp
  omega
 have cmG:∀ W V,CallsP Tryz.prog G 99 [(nK .i64 (some (dig 1000000000 (W)))),(nK .i64 (some (dig 1000000000 (V))))] (.c (.d (.int .i64 (cmpN W V)))):=fun W V=>by
  have hcm:=r_compare_ok G (a:=some (dig 1000000000 W)) (b:=some (dig 1000000000 V)) (dig_can (by decide) _) (dig_can (by decide) _)
  simp only [dO_some,dig_val (by decide:2≤1000000000)] at hcm
  exact hcm
 have prG:∀ mi,mi<1000000000→CallsP Tryz.prog G 95 [nK .i64 b,nK .i64 (some [mi])] (nK .i64 (some (dig 1000000000 (vb*mi)))):=fun mi hmi=>by
  have hpr:=r_product_ok G b (some [mi]) hb.1 (ok_cons.2 ⟨hmi,ok_nil _⟩) (by omega) (by simp)
  simp_all
 have dfG:∀ V W,(dig 1000000000 V).length≤1000000→W≤V→CallsP Tryz.prog G 100 [(nK .i64 (some (dig 1000000000 (V)))),(nK .i64 (some (dig 1000000000 (W))))] (nK .i64 (some (dig 1000000000 (V - W)))):=fun V W hl hle=>by
  have hdl:(dig 1000000000 W).length≤(dig 1000000000 V).length:=dig_len_mono (by decide) hle
  have hdf:=r_difference_ok G (some (dig 1000000000 V)) (some (dig 1000000000 W)) (dig_can (by decide) _).1 (dig_can (by decide) _).1 (by simp;omega) (by simp;omega) (by simp only [dO_some,dig_val (by decide:2≤1000000000)];exact hle)
  simp only [dO_some,dig_val (by decide:2≤1000000000)] at hdf
  exact hdf
 refine CallsP.en0 Go.Proofs.Tryz.func145 rfl fun _=>AW.q ?_
 refine AW.sr fun K hK=>?_
 simp
 repeat refine and_o ?_
 apply hK
 refine AW.f1 hn ?_
 refine AW.q ?_
 have w0:=w64 (n:=((dO a).length:Int) - 1) (by omega) (by omega)
 refine AW.seqK fun K hK=>AW.f1 w0 ?_
 refine AW.block ?_
 refine AW.loopV (fun (p:Nat × List Nat × Nat)=>⟨frOf [(0,nK .i64 a),(1,nK .i64 b),(6,.c (.lsl 0 0 (dO a).length 1)),(7,.c (.d (.int .i64 n))),(8,nK .i64 (if p.1=(dO a).length then none else some (dig 1000000000 p.2.2))),(9,.c (.d (.int .i64 ((p.1:Int) - 1))))],
  upd (fun _=>.hole) 0 (.cells true false 2 (wK .i64 (List.replicate p.1 0++p.2.1)))⟩) 1
  (fun p=>p.1+p.2.1.length=(dO a).length∧ok 1000000000 p.2.1∧p.2.2<vb∧(p.1=(dO a).length→p.2.2=0)∧vb*val 1000000000 p.2.1+p.2.2=val 1000000000 ((dO a).drop p.1))
  (fun p=>p.1) ((dO a).length,[],0) (Le.mk' _ (by simp [wK_zeros]) (by simp) (by simp [nK_none])) ⟨by simp,ok_nil _,hvp,fun _=>rfl,by simp⟩ ?_
 rintro⟨k,qs,R⟩ ⟨h1,h2,h3,h5,h4⟩
 simp only at h1 h2 h3 h4 h5
 obtain⟨ro,hro⟩:∃ ro,(if k=(dO a).length then none else some (dig 1000000000 R))=ro:=⟨_,rfl⟩
 have hdr:dO ro=dig 1000000000 R:=by
  rw [← hro];split
  ·rename_i h;rw [h5 h,dig0];rfl
  ·rfl
 simp only [hro]
 refine AW.seqK fun K3 hK3=>AW.q ?_
 cases k with
 | zero=>
  refine AW.cn (AW.exit (hK _ _ (AW.seqK fun K hK=>?_)))
  have hl:qs.length=(dO a).length:=by omega
  rw [List.drop_zero] at h4
  have hq:val 1000000000 qs=val 1000000000 (dO a) / vb:=by
   rw [← h4,Nat.mul_add_div hvp,Nat.div_eq_of_lt h3,Nat.add_zero]
  have hr:R=val 1000000000 (dO a) % vb:=by
   rw [← h4,Nat.mul_add_mod,Nat.mod_eq_of_lt h3]
  have hout:trimN qs=dig 1000000000 (val 1000000000 (dO a) / vb):=trim_dig (by decide) h2 hq
  have hrem:rRem a b=ro:=by
   unfold rRem
   rw [← hro,hvb,← hr]
   by_cases h:dO a=[]
   ·grind
   ·rw [if_neg h,if_neg (fun e=>h (List.eq_nil_of_length_eq_zero e.symm))]
  refine AW.rP ?_
  simp
  rw [← hl]
  refine CallP.frzN (T:=2) (k:=.i64) (l:=qs) 1 9 0 (by simp) (by omega) (r_trimS_ok _ _ (by omega)) (by simp) (by simp) (by simp) ?_
  simp
  apply hK
  exact AW.ret (κ:=0) (FinP.tmp2 (κ:=0) (t:=4) (u:=5) rfl 9 (by simp_all) (by simp [hrem]) (by simp) (by simp) (by simp) (by simp) (by simp) (by decide))
 | succ k=>
  have hk:k<(dO a).length:=by omega
  have e2:((k+1:Nat):Int) - 1=k:=by omega
  simp only [e2]
  have hx:(dO a)[k]<1000000000:=oka _ (List.getElem_mem hk)
  have hxv:=val_drop (B:=1000000000) hk
  obtain⟨x,hxe⟩:∃ x,(dO a)[k]=x:=⟨_,rfl⟩
  rw [hxe] at hx hxv
  obtain⟨V,hV⟩:∃ V,x+1000000000*R=V:=⟨_,rfl⟩
  have hRV:V<1000000000*vb:=by
   have:1000000000*(R+1)≤1000000000*vb:=Nat.mul_le_mul_left _ h3
   omega
  have hRl:(dig 1000000000 R).length≤n:=by rw [← hn,hdb];exact dig_len_mono (by decide) (Nat.le_of_lt h3)
  have htr:trimN (x::dig 1000000000 R)=dig 1000000000 V:=trim_dig (by decide) (ok_cons.2 ⟨hx,(dig_can (by decide) R).1⟩) (by rw [val_cons,dig_val (by decide),hV])
  have hsr:∀ lv:Key→LB,srcA lv 1 (nK .i64 ro)=some ((dig 1000000000 R).length,wK .i64 (dig 1000000000 R)):=fun lv=>by rw [srcA_r,hdr]
  have hcmp:=cmpG V
  have w9:=w64 (n:=(k:Int) - 1) (by omega) (by omega)
  have hkn:¬ k=(dO a).length:=by omega
  have hnext:vb*val 1000000000 ((V / vb)::qs)+V % vb=val 1000000000 ((dO a).drop k):=by rw [hxv,val_cons];exact dv_step hV h4
  have hqB:V / vb<1000000000:=by rw [Nat.div_lt_iff_lt_mul hvp];exact hRV
  refine AW.cy (AW.skip (hK3 _ _ (AW.seqK fun K5 hK5=>AW.block (AW.sr fun K6 hK6=>?_))))
  simp [hk,hxe,hbs,hsr,keyOf,wK_cons,-stepBuildSlice]
  repeat refine and_o ?_
  have hc1:(x::dig 1000000000 R).length=1+(dig 1000000000 R).length:=by simp;omega
  rw [← hc1]
  refine CallP.frzN (k:=.i64) (T:=2) (l:=x::dig 1000000000 R) 3 9 2 (by simp) (by simp;omega) (r_trimS_ok _ _ (by simp;omega)) (by simp) (by simp) (by simp) ?_
  simp [htr]
  apply hK6
  refine AW.seqK fun K6 hK6=>AW.seqK fun K7 hK7=>?_
  by_cases hlt:V<vb
  ·have hc:=cmpN_lt hlt
   have hq0:V / vb=0:=Nat.div_eq_of_lt hlt
   rw [hq0,Nat.mod_eq_of_lt hlt] at hnext
   refine AW.m1 3 hcmp hc (hK7 _ _ ?_)
   refine AW.cy (AW.exit (hK5 _ _ (AW.rP ?_)))
   simp [w9]
   refine⟨k,0::qs,V,Le.keys [(0,0,.cells true false 2 (wK .i64 (List.replicate k 0++0::qs)))] 19 _ rfl rfl (by simp) (by simp) (by simp) ?_ ?_,⟨by simp;omega,ok_cons.2 ⟨by omega,h2⟩,hlt,fun h=>absurd h hkn,hnext⟩,by omega⟩
   ·intro e he
    simp only [List.mem_cons,List.not_mem_nil,or_false] at he
    subst he
    have e:List.replicate k 0++0::qs=List.replicate (k+1) 0++qs:=by rw [List.replicate_succ',List.append_assoc];rfl
    rw [e]
    simpa using like_w .i64 2 (List.replicate (k+1) 0++qs) _
   ·simp [kmap,hkn]
  ·have hge:vb≤V:=by omega
   have hlen1:n≤(dig 1000000000 V).length:=by rw [← hn,hdb];exact dig_len_mono (by decide) hge
   have hlen2:(dig 1000000000 V).length≤n+1:=by
    refine dig_len_le (by decide) ?_
    rw [Nat.pow_succ,Nat.mul_comm]
    exact Nat.lt_of_lt_of_le hRV (Nat.mul_le_mul_left _ (Nat.le_of_lt hvl))
   have hX:=topX (B:=1000000000) (by decide) (dig_can (by decide) V).1 hn1 hlen1 hlen2
   rw [dig_val (by decide)] at hX
   obtain⟨X,hXe⟩:∃ X,V / 1000000000 ^ (n - 1)=X:=⟨_,rfl⟩
   rw [hXe] at hX
   have hX1:X*1000000000 ^ (n - 1)≤V:=by rw [← hXe];exact Nat.div_mul_le_self _ _
   have hX2:V<(X+1)*1000000000 ^ (n - 1):=by rw [← hXe];exact Nat.lt_mul_of_div_lt (Nat.lt_succ_self _) hPp
   have hlo:=dv_lo hX1 hb2 hvp
   have hhi:=dv_hi hX2 hb1 ht0
   obtain⟨Q,hQ⟩:∃ Q,V / vb=Q:=⟨_,rfl⟩
   rw [hQ] at hlo hhi hnext hqB
   have hcne:¬ cmpN V vb<0:=by
    by_cases e:V=vb
    ·rw [cmpN_eq e];omega
    ·rw [cmpN_gt (by omega)];omega
   have hokV:=(dig_can (B:=1000000000) (by decide) V).1
   obtain⟨r1,hr1⟩:∃ r1,(dig 1000000000 V)[n - 1]'(by omega)=r1:=⟨_,rfl⟩
   have hr1B:r1<1000000000:=by rw [← hr1];exact hokV _ (List.getElem_mem _)
   have hr1g:(dig 1000000000 V).getD (n - 1) 0=r1:=by rw [List.getD_eq_getElem?_getD,List.getElem?_eq_getElem (by omega),hr1];rfl
   rw [hr1g] at hX
   have wn:IntKind.i64.wrap ((n:Int) - 1)=((n - 1:Nat):Int):=by rw [w64 (by omega) (by omega)];omega
   have hix1:∀ lv,stepIndexAddr Tryz.prog 53 lv (nK .i64 (some (dig 1000000000 V))) (.c (.d (.int .i64 ((n - 1:Nat):Int))))=some (.c (.d (.ptr [DV.int .i64 (r1:Int)])),[],[],True):=fun lv=>by
    have:=ix_nK' (P:=Tryz.prog) (T:=53) (lv:=lv) (k:=.i64) (k':=.i64) (o:=some (dig 1000000000 V)) (i:=n - 1) (by simp) (by simp;omega)
    rw [this];simp only [dO_some,hr1]
   have hixb:∀ lv,stepIndexAddr Tryz.prog 53 lv (nK .i64 b) (.c (.d (.int .i64 ((n - 1:Nat):Int))))=some (.c (.d (.ptr [DV.int .i64 (t:Int)])),[],[],True):=fun lv=>by
    have:=ix_nK' (P:=Tryz.prog) (T:=53) (lv:=lv) (k:=.i64) (k':=.i64) (o:=b) (i:=n - 1) (by simp) (by omega)
    grind
   refine AW.m1 3 hcmp hcne (hK7 _ _ ?_)
   refine AW.fn (by rfl) (AW.skip (hK6 _ _ (AW.sr fun K6 hK6=>?_)))
   simp [wn,hix1,-ix_nK']
   apply hK6
   refine AW.seqK fun K6 hK6=>?_
   have g1:∀ (fr:Nat→AV) (κ:Nat),fr 0=nK .i64 a→fr 1=nK .i64 b→fr 6=.c (.lsl 0 0 (dO a).length 1)→fr 7=.c (.d (.int .i64 n))→fr 8=nK .i64 (some (dig 1000000000 V))→fr 9=.c (.d (.int .i64 (k:Int)))→fr 10=.c (.d (.int .i64 (X:Int)))→∀ lv:Key→LB,lv 0=.cells true false 2 (wK .i64 (List.replicate (k+1) 0++qs))→lv 19=.hole →
    K6 ⟨fr,lv⟩ κ:=by
    intro fr κ z0 z1 z6 z7 z8 z9 z10 lv l0 l19
    have hX3:X≤1000000000000000000:=by
     have:V / 1000000000 ^ (n - 1)<1000000000*1000000000:=by
      rw [Nat.div_lt_iff_lt_mul hPp]
      have e:1000000000*1000000000*1000000000 ^ (n - 1)=1000000000*1000000000 ^ n:=by
       obtain⟨n',rfl⟩:∃ n',n=n'+1:=⟨n - 1,by omega⟩
       rw [Nat.add_sub_cancel,Nat.pow_succ,Nat.mul_comm (1000000000 ^ n') 1000000000,Nat.mul_assoc]
      rw [e]
      exact Nat.lt_of_lt_of_le hRV (Nat.mul_le_mul_left _ (Nat.le_of_lt hvl))
     omega
    apply hK6
    refine AW.seqK fun K7 hK7=>?_
    have f1:=w64 (n:=(t:Int)+1) (by omega) (by omega)
    have f2:=w64 (n:=(X:Int)+1) (by omega) (by omega)
    have f3:(X:Int).tdiv ((t:Int)+1)=((X / (t+1):Nat):Int):=by
     have:=td_nat X (t+1);rwa [Int.natCast_add,Int.natCast_one] at this
    have f4:((X:Int)+1).tdiv (t:Int)=(((X+1) / t:Nat):Int):=by
     have:=td_nat (X+1) t;rwa [Int.natCast_add,Int.natCast_one] at this
    have hle1:X / (t+1)≤X:=Nat.div_le_self _ _
    have hle2:(X+1) / t≤X+1:=Nat.div_le_self _ _
    obtain⟨D1,hD1⟩:∃ D,X / (t+1)=D:=⟨_,rfl⟩
    obtain⟨D2,hD2⟩:∃ D,(X+1) / t=D:=⟨_,rfl⟩
    rw [hD1] at hlo f3 hle1
    rw [hD2] at hhi f4 hle2
    have f5:=w64 (n:=(D1:Int)) (by omega) (by omega)
    have f6:=w64 (n:=(D2:Int)) (by omega) (by omega)
    have t1:¬ (t:Int)+1=0:=by omega
    have t2:¬ (t:Int)=0:=by omega
    have t3:¬ t=0:=by omega
    have hmin:(if (999999999:Int)<(D2:Int) then (999999999:Int) else (D2:Int))=((min D2 999999999:Nat):Int):=by split <;> omega
    have hmin':(if 999999999<D2 then (999999999:Int) else (D2:Int))=((min D2 999999999:Nat):Int):=by split <;> omega
    have hhi2:Q≤min D2 999999999:=by omega
    have hhB:min D2 999999999≤999999999:=by omega
    obtain⟨H,hH⟩:∃ H,min D2 999999999=H:=⟨_,rfl⟩
    rw [hH] at hmin hmin' hhi2 hhB
    refine AW.drawQ mixed (by kernel_rfl) rfl rfl ?_
    simp [intsOf,z1,z7,z10,wn,hixb,f1,f2,f3,f4,f5,f6,t1,t3,hmin,-ix_nK']
    apply hK7
    refine AW.seqK fun K7 hK7=>AW.block ?_
    refine AW.loopV (fun (p:Nat × Nat)=>⟨frOf [(0,nK .i64 a),(1,nK .i64 b),(6,.c (.lsl 0 0 (dO a).length 1)),(7,.c (.d (.int .i64 n))),(8,nK .i64 (some (dig 1000000000 V))),(9,.c (.d (.int .i64 (k:Int)))),(11,.c (.d (.int .i64 (p.1:Int)))),(12,.c (.d (.int .i64 (p.2:Int))))],
     upd (fun _=>.hole) 0 (.cells true false 2 (wK .i64 (List.replicate (k+1) 0++qs)))⟩) 1
     (fun p=>p.1≤Q∧Q≤p.2∧p.2≤999999999) (fun p=>p.2 - p.1) (D1,H) (Le.keys [(0,0,.cells true false 2 (wK .i64 (List.replicate (k+1) 0++qs)))] 19 _ rfl rfl (by simp) (by simp) (by simp [l19]) ?_ ?_) ⟨hlo,hhi2,hhB⟩ ?_
    ·intro e he
     simp only [List.mem_cons,List.not_mem_nil,or_false] at he
     subst he
     simpa [l0] using like_w .i64 2 (List.replicate (k+1) 0++qs) _
    ·simp [kmap,z0,z1,z6,z7,z8,z9]
    rintro⟨lo,hi⟩ ⟨q1,q2,q3⟩
    simp only at q1 q2 q3
    refine AW.seqK fun K8 hK8=>AW.q ?_
    by_cases hlh:lo<hi
    ·have u1:IntKind.i64.wrap ((lo:Int)+hi)=((lo+hi:Nat):Int):=by rw [w64 (by omega) (by omega)];omega
     have u2:IntKind.i64.wrap (((lo+hi:Nat):Int)+1)=((lo+hi+1:Nat):Int):=by rw [w64 (by omega) (by omega)];omega
     have u3:(((lo+hi+1:Nat):Int)).tdiv 2=(((lo+hi+1) / 2:Nat):Int):=td_nat _ 2
     obtain⟨mi,hmi⟩:∃ mi,(lo+hi+1) / 2=mi:=⟨_,rfl⟩
     rw [hmi] at u3
     have u4:=w64 (n:=(mi:Int)) (by omega) (by omega)
     have u5:=w64 (n:=(mi:Int) - 1) (by omega) (by omega)
     have hpr:=prG mi (by omega)
     have hcm:=cmG (vb*mi) V
     refine AW.fy (by simp [hlh] <;> omega) (AW.skip (hK8 _ _ (AW.block (AW.sr fun K9 hK9=>?_))))
     simp [u1,u2,u3,u4,-Int.natCast_add]
     apply hK9
     refine AW.seqK fun K9 hK9=>?_
     by_cases hle:vb*mi≤V
     ·have hc:cmpN (vb*mi) V≤0:=by
       by_cases e:vb*mi=V
       ·rw [cmpN_eq e];omega
       ·rw [cmpN_lt (by omega)];omega
      have hmQ:mi≤Q:=by rw [← hQ,Nat.le_div_iff_mul_le hvp,Nat.mul_comm];exact hle
      refine AW.rP ?_
      simp [hbs,-stepBuildSlice]
      refine CallDo.frzN2 (T:=2) (l:=[mi]) 2 9 1 (by simp [wK]) (by simp) hpr (by simp) (by simp) (by simp) ?_
      simp
      refine CallDo.p 2 9 hcm ?_
      simp [hc]
      apply hK9
      refine AW.cy (AW.rP ?_)
      simp
      refine⟨mi,hi,Le.keys [(0,0,.cells true false 2 (wK .i64 (List.replicate (k+1) 0++qs)))] 19 _ rfl rfl (by simp) (by simp) (by simp) ?_ (by simp [kmap]),⟨hmQ,q2,q3⟩,by omega⟩
      intro e he
      simp only [List.mem_cons,List.not_mem_nil,or_false] at he
      subst he
      simpa using like_w .i64 2 (List.replicate (k+1) 0++qs) _
     ·have hc:¬ cmpN (vb*mi) V≤0:=by rw [cmpN_gt (by omega)];omega
      have hmQ:Q≤mi - 1:=by
       have:¬ mi≤Q:=by rw [← hQ,Nat.le_div_iff_mul_le hvp,Nat.mul_comm];exact hle
       omega
      have u6:(mi:Int) - 1=((mi - 1:Nat):Int):=by omega
      refine AW.rP ?_
      simp [hbs,-stepBuildSlice]
      refine CallDo.frzN2 (T:=2) (l:=[mi]) 2 9 1 (by simp [wK]) (by simp) hpr (by simp) (by simp) (by simp) ?_
      simp
      refine CallDo.p 2 9 hcm ?_
      simp [hc]
      apply hK9
      refine AW.cn (AW.rP ?_)
      simp [u5]
      refine⟨lo,mi - 1,Le.keys [(0,0,.cells true false 2 (wK .i64 (List.replicate (k+1) 0++qs)))] 19 _ rfl rfl (by simp) (by simp) (by simp) ?_ (by simp [kmap,u6]),⟨q1,hmQ,by omega⟩,by omega⟩
      intro e he
      simp only [List.mem_cons,List.not_mem_nil,or_false] at he
      subst he
      simpa using like_w .i64 2 (List.replicate (k+1) 0++qs) _
    ·refine AW.fn (by simp [hlh] <;> omega) (AW.exit (hK7 _ _ ?_))
     obtain rfl:lo=Q:=by omega
     have f5:setSeg (wK .i64 (List.replicate (k+1) 0++qs)) k [CV.d (.int .i64 (lo:Int))]=wK .i64 (List.replicate k 0++(lo::qs)):=by
      rw [wK_set _ (by simp;omega),zeros_set]
     have hk2:(k:Int)<((dO a).length:Int):=by omega
     have hk3:k<k+1+qs.length:=by omega
     refine AW.sr fun K8 hK8=>?_
     simp [f5,hk2]
     apply hK8
     refine AW.at0 1 ?_
     have hpr:=prG lo (by omega)
     have hle:vb*lo≤V:=by rw [← hQ];exact Nat.mul_div_le _ _
     have hdf:=dfG V (vb*lo) (by omega) hle
     have hmod:V - vb*lo=V % vb:=by
      have:=Nat.div_add_mod V vb
      rw [hQ] at this;omega
     rw [hmod] at hdf
     refine AW.rP ?_
     simp [hbs,-stepBuildSlice]
     refine CallDo.frzN2 (T:=2) (l:=[lo]) 2 9 1 (by simp [wK]) (by simp) hpr (by simp) (by simp) (by simp) ?_
     simp
     refine CallDo.p 2 9 hdf ?_
     simp
     apply hK5
     refine AW.rP ?_
     simp [w9]
     refine⟨k,lo::qs,V % vb,Le.keys [(0,0,.cells true false 2 (wK .i64 (List.replicate k 0++lo::qs)))] 19 _ rfl rfl (by simp) (by simp) (by simp) ?_ ?_,⟨by simp;omega,ok_cons.2 ⟨by omega,h2⟩,Nat.mod_lt _ hvp,fun h=>absurd h hkn,hnext⟩,by omega⟩
     ·intro e he
      simp only [List.mem_cons,List.not_mem_nil,or_false] at he
      subst he
      simpa using like_w .i64 2 (List.replicate k 0++lo::qs) _
     ·simp [kmap,hkn]
   refine AW.q ?_
   by_cases hln:n<(dig 1000000000 V).length
   ·obtain⟨r2,hr2⟩:∃ r2,(dig 1000000000 V)[n]=r2:=⟨_,rfl⟩
    have hr2B:r2<1000000000:=by rw [← hr2];exact hokV _ (List.getElem_mem _)
    have hr2g:(dig 1000000000 V).getD n 0=r2:=by rw [List.getD_eq_getElem?_getD,List.getElem?_eq_getElem hln,hr2];rfl
    rw [hr2g] at hX
    have hix2:∀ lv,stepIndexAddr Tryz.prog 53 lv (nK .i64 (some (dig 1000000000 V))) (.c (.d (.int .i64 ((n:Nat):Int))))=some (.c (.d (.ptr [DV.int .i64 (r2:Int)])),[],[],True):=fun lv=>by
     have:=ix_nK' (P:=Tryz.prog) (T:=53) (lv:=lv) (k:=.i64) (k':=.i64) (o:=some (dig 1000000000 V)) (i:=n) (by simp) (by simpa using hln)
     rw [this];simp only [dO_some,hr2]
    have v1:IntKind.i64.wrap (1000000000*(r2:Int))=((1000000000*r2:Nat):Int):=by rw [w64 (by omega) (by omega)];omega
    have v2:IntKind.i64.wrap ((r1:Int)+((1000000000*r2:Nat):Int))=(X:Int):=by rw [w64 (by omega) (by omega)];omega
    refine AW.fy (by simp [hln] <;> omega) (AW.rP ?_)
    simp [hix2,v1,v2,-ix_nK',-Int.natCast_mul]
    exact g1 _ _ (by simp) (by simp) (by simp) (by simp) (by simp) (by simp) (by simp) _ (by simp) (by simp)
   ·have hX0:X=r1:=by
     rw [List.getD_eq_getElem?_getD,List.getElem?_eq_none (by omega)] at hX
     simpa using hX
    refine AW.fn (by simp [hln] <;> omega) (AW.skip ?_)
    simp
    exact g1 _ _ (by simp) (by simp) (by simp) (by simp) (by simp) (by simp) (by simp [hX0]) _ (by simp) (by simp)
theorem gcd_half {A B:Nat}(ha:A % 2=0) (hb:B % 2=1):Nat.gcd (A / 2) B=Nat.gcd A B:=by
 have h:Nat.Coprime 2 B:=by
  have:Nat.gcd 2 B=Nat.gcd (B % 2) 2:=Nat.gcd_rec 2 B
  unfold Nat.Coprime
  rw [this,hb];rfl
 have e:A=2*(A / 2):=by omega
 conv=>rhs;rw [e]
 exact (Nat.Coprime.gcd_mul_left_cancel _ h).symm
theorem gcd_halves {A B:Nat}(ha:A % 2=0) (hb:B % 2=0):2*Nat.gcd (A / 2) (B / 2)=Nat.gcd A B:=by
 rw [← Nat.gcd_mul_left]
 grind
theorem gcd_less {A B:Nat}(h:B≤A):Nat.gcd (A - B) B=Nat.gcd A B:=by
 simp_all
theorem tw_bound {tw vb n:Nat}(h:2 ^ tw≤vb) (hl:(dig 1000000000 vb).length≤n):tw<30*n:=by
 have h1:=dig_lt (B:=1000000000) (by decide) (n:=vb)
 have h2:1000000000 ^ (dig 1000000000 vb).length≤1000000000 ^ n:=Nat.pow_le_pow_right (by decide) hl
 have h3:1000000000 ^ n≤(2 ^ 30) ^ n:=Nat.pow_le_pow_left (by decide) n
 rw [← Nat.pow_mul] at h3
 exact (Nat.pow_lt_pow_iff_right (by decide:1<2)).1 (Nat.lt_of_le_of_lt h (Nat.lt_of_lt_of_le h1 (Nat.le_trans h2 h3)))
theorem dlen0 {n:Nat}:(dig 1000000000 n).length=0↔n=0:=by
 rw [List.length_eq_zero_iff];exact dig_nil (by decide)
theorem r_odd_dig (G:List (List DV))(A:Nat):CallsP Tryz.prog G 187 [(nK .i64 (some (dig 1000000000 (A))))] (.c (.d (.bool (decide (A % 2=1))))):=by
 have h:=r_odd_ok G (some (dig 1000000000 A))
 rwa [dO_some,dig_val (by decide)] at h
theorem r_half_dig (G:List (List DV))(A:Nat)(h:(dig 1000000000 A).length≤100000):CallsP Tryz.prog G 188 [(nK .i64 (some (dig 1000000000 (A))))] (nK .i64 (some (dig 1000000000 (A / 2)))):=by
 have h:=r_half_ok G (some (dig 1000000000 A)) (dig_can (by decide) A).1 (by rw [dO_some];omega)
 rwa [dO_some,dig_val (by decide)] at h
theorem r_sum_dig (G:List (List DV))(A B:Nat)(h:(dig 1000000000 A).length≤1000000)(h':(dig 1000000000 B).length≤1000000):CallsP Tryz.prog G 98 [(nK .i64 (some (dig 1000000000 (A)))),(nK .i64 (some (dig 1000000000 (B))))] (nK .i64 (some (dig 1000000000 (A+B)))):=by
 have h:=r_sum_ok G (some (dig 1000000000 A)) (some (dig 1000000000 B)) (dig_can (by decide) A) (dig_can (by decide) B) h h'
 rwa [dO_some,dO_some,dig_val (by decide),dig_val (by decide)] at h
theorem r_diff_dig (G:List (List DV))(A B:Nat)(h:(dig 1000000000 A).length≤1000000)(hle:B≤A):CallsP Tryz.prog G 100 [(nK .i64 (some (dig 1000000000 (A)))),(nK .i64 (some (dig 1000000000 (B))))] (nK .i64 (some (dig 1000000000 (A - B)))):=by
 have hl:=dig_len_mono (B:=1000000000) (by decide) hle
 have h:=r_difference_ok G (some (dig 1000000000 A)) (some (dig 1000000000 B)) (dig_can (by decide) A).1 (dig_can (by decide) B).1 h (by rw [dO_some];omega) (by rw [dO_some,dO_some,dig_val (by decide),dig_val (by decide)];exact hle)
 rwa [dO_some,dO_some,dig_val (by decide),dig_val (by decide)] at h
theorem r_cmp_dig (G:List (List DV))(A B:Nat):CallsP Tryz.prog G 99 [(nK .i64 (some (dig 1000000000 (A)))),(nK .i64 (some (dig 1000000000 (B))))] (.c (.d (.int .i64 (cmpN A B)))):=by
 have h:=r_compare_ok G (a:=some (dig 1000000000 A)) (b:=some (dig 1000000000 B)) (dig_can (by decide) A) (dig_can (by decide) B)
 rwa [dO_some,dO_some,dig_val (by decide),dig_val (by decide)] at h
theorem r_divisor_ok (G:List (List DV))(va vb:Nat)(ha0:0<va)(hb0:0<vb)(hal:(dig 1000000000 va).length≤100000)(hbl:(dig 1000000000 vb).length≤100000) :
 CallsP Tryz.prog G 144 [(nK .i64 (some (dig 1000000000 (va)))),(nK .i64 (some (dig 1000000000 (vb))))] (nK .i64 (some (dig 1000000000 (Nat.gcd va vb)))):=by
 have hdv:=r_divided_ok G (some (dig 1000000000 va)) (some (dig 1000000000 vb)) (dig_can (by decide) va).1 (dig_can (by decide) vb) (by rw [dO_some];intro h;have:=(dig_nil (by decide)).1 h;omega) hal hbl
 have hrm:rRem (some (dig 1000000000 va)) (some (dig 1000000000 vb))=some (dig 1000000000 (va % vb)):=by
  unfold rRem
  rw [dO_some,dO_some,if_neg (by intro h;have:=(dig_nil (by decide)).1 h;omega),dig_val (by decide),dig_val (by decide)]
 rw [hrm] at hdv
 have dle:∀ n,n≤vb→(dig 1000000000 n).length≤100000:=fun n h=>Nat.le_trans (dig_len_mono (by decide) h) hbl
 have tw_le:∀ tw,2 ^ tw≤vb→tw<3000000:=fun tw h=>Nat.lt_of_lt_of_le (tw_bound h hbl) (by decide)
 have hg0:Nat.gcd va vb=Nat.gcd (va % vb) vb:=by rw [Nat.gcd_comm,Nat.gcd_rec]
 have oddG:∀ A,CallsP Tryz.prog G 187 [(nK .i64 (some (dig 1000000000 (A))))] (.c (.d (.bool (decide (A % 2=1))))):=fun A=>r_odd_dig G A
 have halfG:∀ A,A≤vb→CallsP Tryz.prog G 188 [(nK .i64 (some (dig 1000000000 (A))))] (nK .i64 (some (dig 1000000000 (A / 2)))):=fun A h=>r_half_dig G A (dle A h)
 have sumG:∀ A,A≤vb→CallsP Tryz.prog G 98 [(nK .i64 (some (dig 1000000000 (A)))),(nK .i64 (some (dig 1000000000 (A))))] (nK .i64 (some (dig 1000000000 (A+A)))):=fun A h=>r_sum_dig G A A (by grind) (by grind)
 have diffG:∀ A B,A≤vb→B≤A→CallsP Tryz.prog G 100 [(nK .i64 (some (dig 1000000000 (A)))),(nK .i64 (some (dig 1000000000 (B))))] (nK .i64 (some (dig 1000000000 (A - B)))):=fun A B h h'=>r_diff_dig G A B (by grind) h'
 have cmpG:∀ A B,CallsP Tryz.prog G 99 [(nK .i64 (some (dig 1000000000 (A)))),(nK .i64 (some (dig 1000000000 (B))))] (.c (.d (.int .i64 (cmpN A B)))):=fun A B=>r_cmp_dig G A B
 refine CallsP.en Go.Proofs.Tryz.func144 rfl fun _=>AW.q ?_
 refine AW.sr fun K hK=>?_
 simp
 refine CallDo.pure 0 9 hdv (rtup2_pure _ _) (by simp) rfl ?_
 simp
 apply hK
 refine AW.seqK fun K hK=>AW.q ?_
 by_cases hm:va % vb=0
 ·have h1:dig 1000000000 (va % vb)=[]:=(dig_nil (by decide)).2 hm
  have hgv:Nat.gcd va vb=vb:=by rw [hg0,hm,Nat.gcd_zero_left]
  rw [hgv]
  refine AW.fy (by simp_all) (AW.q ?_)
  exact AW.r0 (FinP.rt (t:=4) rfl 9 (by simp))
 have h1:¬ dig 1000000000 (va % vb)=[]:=fun h=>hm ((dig_nil (by decide)).1 h)
 have hmlt:va % vb<vb:=Nat.mod_lt _ hb0
 refine AW.fn (by simp_all) (AW.skip (hK _ _ (AW.q ?_)))
 refine AW.seqK fun K hK=>AW.block ?_
 refine AW.loopV (fun (p:Nat × Nat × Nat)=>⟨frOf [(0,(nK .i64 (some (dig 1000000000 (p.1))))),(1,(nK .i64 (some (dig 1000000000 (p.2.1))))),(5,.c (.d (.int .i64 (p.2.2:Int))))],fun _=>.hole⟩) 0
  (fun p=>0<p.1∧0<p.2.1∧p.1≤vb∧p.2.1≤vb∧2 ^ p.2.2*Nat.gcd p.1 p.2.1=Nat.gcd va vb∧2 ^ p.2.2*p.2.1≤vb) (fun p=>p.1) (va % vb,vb,0) (Le.mk' _ rfl noMap_hole (by simp)) ⟨by omega,hb0,by omega,Nat.le_refl _,by simp [hg0],by simp⟩ ?_
 rintro⟨A,B,tw⟩ ⟨hA,hB,hA2,hB2,hg,ht⟩
 simp only at hA hB hA2 hB2 hg ht
 have htw:tw<3000000:=tw_le tw (Nat.le_trans (Nat.le_mul_of_pos_right _ hB) ht)
 have wt:=w64 (n:=(tw:Int)+1) (by omega) (by omega)
 have oA:=oddG A
 have oB:=oddG B
 have hAl:=dle (A) (by omega)
 have hBl:=dle (B) (by omega)
 have st2:(A % 2=1∨B % 2=1)→∀ (fr:Nat→AV) (κ:Nat),fr 0=(nK .i64 (some (dig 1000000000 (A))))→fr 1=(nK .i64 (some (dig 1000000000 (B))))→fr 5=.c (.d (.int .i64 (tw:Int)))→K ⟨fr,fun _=>.hole⟩ κ:=by
  intro hodd fr κ z0 z1 z5
  apply hK
  refine AW.seqK fun K hK=>AW.block ?_
  refine AW.loopV (fun (p:Nat × Nat)=>⟨frOf [(0,(nK .i64 (some (dig 1000000000 (p.1))))),(1,(nK .i64 (some (dig 1000000000 (p.2))))),(5,.c (.d (.int .i64 (tw:Int))))],fun _=>.hole⟩) 0
   (fun p=>0<p.2∧p.1≤vb∧p.2≤vb∧(p.1 % 2=1∨p.2 % 2=1)∧2 ^ tw*Nat.gcd p.1 p.2=Nat.gcd va vb) (fun p=>p.1+p.2) (A,B) (Le.mk' _ rfl noMap_hole (by simp_all)) ⟨hB,hA2,hB2,hodd,hg⟩ ?_
  rintro⟨C,D⟩ ⟨i1,i2,i3,i4,i5⟩
  simp only at i1 i2 i3 i4 i5
  have fin:∀ (Z:Nat) (fr:Nat→AV) (κ:Nat),Z≤vb→2 ^ tw*Z=Nat.gcd va vb→fr 1=(nK .i64 (some (dig 1000000000 (Z))))→fr 5=.c (.d (.int .i64 (tw:Int)))→K ⟨fr,fun _=>.hole⟩ κ:=by
   intro Z fr κ hZ0 hZ z1 z5
   apply hK
   refine AW.seqK fun K hK=>AW.q ?_
   refine AW.block ?_
   refine AW.loopV (fun (i:Nat)=>⟨frOf [(1,(nK .i64 (some (dig 1000000000 (Z*2 ^ i))))),(5,.c (.d (.int .i64 (tw:Int)))),(6,.c (.d (.int .i64 (i:Int))))],fun _=>.hole⟩) 0 (fun i=>i≤tw) (fun i=>tw - i) 0 (Le.mk' _ rfl noMap_hole (by simp_all)) (Nat.zero_le _) ?_
   intro i hi
   try simp only at hi
   refine AW.seqK fun K2 hK2=>AW.q ?_
   by_cases hlt:i<tw
   ·have wi:=w64 (n:=(i:Int)+1) (by omega) (by omega)
    have hgv:Nat.gcd va vb≤vb:=Nat.gcd_le_right _ hb0
    have hle:Z*2 ^ i≤vb:=by
     rw [Nat.mul_comm]
     exact Nat.le_trans (Nat.mul_le_mul_right Z (Nat.pow_le_pow_right (by decide) (Nat.le_of_lt hlt))) (by omega)
    have hll:=dle (Z*2 ^ i) (by omega)
    have hs:=sumG (Z*2 ^ i) hle
    have he:Z*2 ^ i+Z*2 ^ i=Z*2 ^ (i+1):=by rw [Nat.pow_succ,← Nat.mul_assoc];omega
    rw [he] at hs
    refine AW.fy (by simp_all) (AW.skip (hK2 _ _ (AW.seqK fun K5 hK5=>AW.block (AW.m0 0 hs (hK5 _ _ ?_)))))
    refine AW.rP ?_
    simp [wi]
    exact⟨i+1,Le.mk' _ rfl noMap_hole (by simp),by omega,by omega⟩
   ·obtain rfl:i=tw:=by omega
    refine AW.fn (by simp) (AW.exit (hK _ _ (AW.q ?_)))
    rw [← hZ,Nat.mul_comm]
    exact AW.r0 (FinP.rt (t:=4) rfl 9 (by simp))
  have hCl:=dle (C) (by omega)
  refine AW.seqK fun K2 hK2=>AW.q ?_
  by_cases hC0:C=0
  ·have h2:¬ 0<(dig 1000000000 C).length:=by rw [Nat.pos_iff_ne_zero];exact fun h=>h (dlen0.2 hC0)
   subst hC0
   rw [Nat.gcd_zero_left] at i5
   refine AW.fn (by rfl) (AW.exit ?_)
   simp
   exact fin D _ _ i3 i5 (by simp) (by simp)
  have h2:0<(dig 1000000000 C).length:=Nat.pos_of_ne_zero fun h=>hC0 (dlen0.1 h)
  refine AW.fy (by simp_all) (AW.skip (hK2 _ _ (AW.block (AW.seqK fun K5 hK5=>AW.block ?_))))
  refine AW.loopV (fun (C':Nat)=>⟨frOf [(0,(nK .i64 (some (dig 1000000000 (C'))))),(1,(nK .i64 (some (dig 1000000000 (D))))),(5,.c (.d (.int .i64 (tw:Int))))],fun _=>.hole⟩) 0
   (fun C'=>0<C'∧C'≤C∧(C' % 2=1∨D % 2=1)∧Nat.gcd C' D=Nat.gcd C D) (fun C'=>C') C (Le.mk' _ rfl noMap_hole (by simp)) ⟨by omega,Nat.le_refl _,i4,rfl⟩ ?_
  rintro C' ⟨j1,j2,j3,j4⟩
  have oC:=oddG C'
  have hhC:=halfG C' (by omega)
  refine AW.seqK fun K6 hK6=>AW.sr fun K7 hK7=>?_
  simp
  by_cases c1:C' % 2=1
  rotate_left
  ·have hd1:D % 2=1:=by omega
   refine CallDo.p 0 9 oC ?_
   simp [c1]
   apply hK7
   refine AW.cy (AW.skip (hK6 _ _ (AW.block (AW.rP ?_))))
   simp
   refine CallDo.p 0 9 hhC ?_
   simp
   exact⟨C' / 2,Le.mk' _ rfl noMap_hole (by simp),⟨by omega,by omega,.inr hd1,by rw [gcd_half (by omega) hd1,j4]⟩,by omega⟩
  refine CallDo.p 0 9 oC ?_
  simp [c1]
  apply hK7
  refine AW.cn (AW.exit (hK5 _ _ (AW.seqK fun K8 hK8=>AW.block ?_)))
  refine AW.loopV (fun (D':Nat)=>⟨frOf [(0,(nK .i64 (some (dig 1000000000 (C'))))),(1,(nK .i64 (some (dig 1000000000 (D'))))),(5,.c (.d (.int .i64 (tw:Int))))],fun _=>.hole⟩) 0
   (fun D'=>0<D'∧D'≤D∧Nat.gcd C' D'=Nat.gcd C D) (fun D'=>D') D (Le.mk' _ rfl noMap_hole (by simp)) ⟨i1,Nat.le_refl _,j4⟩ ?_
  rintro D' ⟨l1,l2,l3⟩
  have oD:=oddG D'
  have hhD:=halfG D' (by omega)
  refine AW.seqK fun K9 hK9=>AW.sr fun K10 hK10=>?_
  simp
  by_cases d1:D' % 2=1
  rotate_left
  ·refine CallDo.p 0 9 oD ?_
   simp [d1]
   apply hK10
   refine AW.cy (AW.skip (hK9 _ _ (AW.block (AW.rP ?_))))
   simp
   refine CallDo.p 0 9 hhD ?_
   simp
   exact⟨D' / 2,Le.mk' _ rfl noMap_hole (by simp),⟨by omega,by omega,by rw [Nat.gcd_comm,gcd_half (by omega) c1,Nat.gcd_comm,l3]⟩,by omega⟩
  have hDl:=dle (D') (by omega)
  refine CallDo.p 0 9 oD ?_
  simp [d1]
  apply hK10
  refine AW.cn (AW.exit (hK8 _ _ ?_))
  rw [← l3] at i5
  refine AW.seqK fun K11 hK11=>AW.seqK fun K12 hK12=>?_
  by_cases hD1:D'=1
  ·subst hD1
   have e1:dig 1000000000 1=[1]:=(dig_of (by decide:2≤1000000000) (l:=[1]) ⟨by intro d hd;simp at hd;omega,by simp⟩ (by simp)).symm
   have e2:=ix_nK' (P:=Tryz.prog) (T:=53) (lv:=fun _=>.hole) (k:=.i64) (k':=.i64) (o:=some [1]) (i:=0) (by simp) (by simp)
   simp only [Int.natCast_zero,dO_some,List.getElem_cons_zero] at e2
   rw [e1]
   rw [Nat.gcd_one_right,Nat.mul_one] at i5
   refine AW.rP ?_
   simp [e2,-ix_nK']
   apply hK12
   refine AW.cy (AW.exit ?_)
   simp
   exact fin 1 _ _ (by omega) (by omega) (by simp [e1]) (by simp)
  have one:∀ lv:Key→LB,(dig 1000000000 D').length=1→stepIndexAddr Tryz.prog 53 lv (nK .i64 (some (dig 1000000000 D'))) (.c (.d (.int .i64 0)))=some (.c (.d (.ptr [DV.int .i64 (D':Int)])),[],[],True):=fun lv h=>by
   have h0:0<(dO (some (dig 1000000000 D'))).length:=by rw [dO_some];omega
   have h2:=ix_nK' (P:=Tryz.prog) (T:=53) (lv:=lv) (k:=.i64) (k':=.i64) (o:=some (dig 1000000000 D')) (i:=0) (by simp) h0
   have hx:(dig 1000000000 D')[0]'(by omega)=D':=by
    obtain⟨x,hx⟩:∃ x,dig 1000000000 D'=[x]:=by match hd:dig 1000000000 D',h with|[x],_=>exact⟨x,rfl⟩
    have hv:=dig_val (B:=1000000000) (by decide) D'
    rw [hx] at hv
    simp at hv
    simp [hx,hv]
   simp only [Int.natCast_zero,dO_some,hx] at h2
   exact h2
  have hD1':¬ (D':Int)=1:=by omega
  have rest:∀ (fr:Nat→AV) (κ:Nat),fr 0=(nK .i64 (some (dig 1000000000 (C'))))→fr 1=(nK .i64 (some (dig 1000000000 (D'))))→fr 5=.c (.d (.int .i64 (tw:Int)))→K11 ⟨fr,fun _=>.hole⟩ κ:=by
   intro fr κ z0 z1 z5
   apply hK11
   refine AW.seqK fun K13 hK13=>?_
   have fin2:∀ (X Y:Nat) (fr:Nat→AV) (κ:Nat),Y≤X→X≤vb→0<Y→Y % 2=1→X % 2=1→X+Y=C'+D'→Nat.gcd X Y=Nat.gcd C' D'→fr 0=(nK .i64 (some (dig 1000000000 (X))))→fr 1=(nK .i64 (some (dig 1000000000 (Y))))→fr 5=.c (.d (.int .i64 (tw:Int)))→K13 ⟨fr,fun _=>.hole⟩ κ:=by
    intro X Y fr κ hXY hXv hY hY1 hX1 hs hgg z0 z1 z5
    have hdf:=diffG X Y hXv hXY
    apply hK13
    refine AW.rP ?_
    simp [z0,z1]
    refine CallDo.p 0 9 hdf ?_
    simp
    refine⟨X - Y,Y,Le.mk' _ rfl noMap_hole (by simp [z1,z5]),⟨hY,by omega,by omega,.inr hY1,by rw [gcd_less hXY,hgg];exact i5⟩,by omega⟩
   have hcm:=cmpG C' D'
   refine AW.seqK fun K14 hK14=>?_
   by_cases hlt:C'<D'
   ·have hc:cmpN C' D'<0:=by rw [cmpN_lt hlt];omega
    refine AW.rP ?_
    simp [z0,z1]
    refine CallDo.p 0 9 hcm ?_
    simp [hc]
    apply hK14
    refine AW.cy (AW.rP ?_)
    simp [z0,z1]
    exact fin2 D' C' _ _ (by omega) (by omega) j1 c1 d1 (by omega) (Nat.gcd_comm _ _) (by simp) (by simp) (by simp [z5])
   ·have hc:¬ cmpN C' D'<0:=by
     by_cases e:C'=D'
     ·rw [cmpN_eq e];omega
     ·rw [cmpN_gt (by omega)];omega
    refine AW.rP ?_
    simp [z0,z1]
    refine CallDo.p 0 9 hcm ?_
    simp [hc]
    apply hK14
    refine AW.cn (AW.skip ?_)
    simp
    exact fin2 C' D' _ _ (by omega) (by omega) l1 d1 c1 rfl rfl (by simp [z0]) (by simp [z1]) (by simp [z5])
  by_cases hl1:(dig 1000000000 D').length=1
  ·have o1:=fun lv=>one lv hl1
   refine AW.rP ?_
   simp [hl1,o1,hD1',-ix_nK']
   apply hK12
   refine AW.cn (AW.skip ?_)
   simp
   exact rest _ _ (by simp) (by simp) (by simp)
  ·have hl1':¬ ((dig 1000000000 D').length:Int)=1:=by omega
   refine AW.l2 hl1 hl1' (hK12 _ _ ?_)
   refine AW.cn (AW.skip ?_)
   simp
   exact rest _ _ (by simp) (by simp) (by simp)
 refine AW.seqK fun K2 hK2=>AW.sr fun K3 hK3=>?_
 simp
 by_cases a1:A % 2=1
 ·refine CallDo.p 0 9 oA ?_
  simp [a1]
  apply hK3
  refine AW.cn (AW.exit ?_)
  simp_all
 by_cases b1:B % 2=1
 ·refine CallDo.p 0 9 oA ?_
  simp [a1]
  refine CallDo.p 0 9 oB ?_
  simp [b1]
  apply hK3
  refine AW.cn (AW.exit ?_)
  simp_all
 have hhA:=halfG A (by omega)
 have hhB:=halfG B (by omega)
 refine CallDo.p 0 9 oA ?_
 simp [a1]
 refine CallDo.p 0 9 oB ?_
 simp [b1]
 apply hK3
 refine AW.cy (AW.skip (hK2 _ _ (AW.block (AW.sr fun K5 hK5=>?_))))
 simp
 refine CallDo.p 0 9 hhA ?_
 simp
 refine CallDo.p 0 9 hhB ?_
 simp
 apply hK5
 refine AW.rP ?_
 simp [wt]
 refine⟨A / 2,B / 2,tw+1,Le.mk' _ rfl noMap_hole (by simp),⟨by omega,by omega,by omega,by omega,?_,?_⟩,by omega⟩
 ·rw [Nat.pow_succ,Nat.mul_assoc,gcd_halves (by omega) (by omega)];exact hg
 ·have e:2 ^ (tw+1)*(B / 2)=2 ^ tw*(2*(B / 2)):=by rw [Nat.pow_succ,Nat.mul_assoc]
  rw [e,show 2*(B / 2)=B by omega];exact ht
@[simp] theorem pure_agg (cs:List CV):(AV.agg cs).pure=cs.all CV.pure:=rfl
@[simp] theorem cpure_d (x:DV):(CV.d x).pure=true:=rfl
@[simp] theorem scC_cpure (o:Option (List (List DV))):(scC o).pure=true:=by cases o <;> rfl
@[simp] theorem pure_tup (l:List AV):(AV.tup l).pure=l.all AV.pure0:=rfl
@[simp] theorem pure0_c (x:CV):(AV.c x).pure0=x.pure:=rfl
@[simp] theorem pure0_agg (cs:List CV):(AV.agg cs).pure0=cs.all CV.pure:=rfl
def rsg (x:Rat):Int:=if x.num=0 then 0 else if x.num<0 then -1 else 1
def rtop (x:Rat):Option (List Nat):=if x.num=0 then none else some (dig 1000000000 x.num.natAbs)
def rbot (x:Rat):Option (List Nat):=if x.num=0 then none else some (dig 1000000000 x.den)
abbrev refV (x:Rat):AV:=rA (rsg x) (rtop x) (rbot x)
theorem rtop_d (x:Rat):dO (rtop x)=dig 1000000000 x.num.natAbs:=by
 unfold rtop;split
 ·simp_all
 ·rfl
theorem den_zero {x:Rat}(h:x.num=0):x.den=1:=by
 simp_all
theorem dig1:dig 1000000000 1=[1]:=(dig_of (by decide:2≤1000000000) (l:=[1]) ⟨by intro d hd;grind,by simp⟩ (by simp)).symm
theorem rBot_d (x:Rat):rBot (rsg x) (rbot x)=some (dig 1000000000 x.den):=by
 unfold rBot rsg rbot
 by_cases h:x.num=0
 ·rw [if_pos h,if_pos rfl,den_zero h,dig1]
 grind
theorem nl9_le (n:Nat):(dig 1000000000 n).length≤2*nl n:=by
 refine dig_len_le (by decide) ?_
 rw [Nat.pow_mul]
 exact Nat.lt_of_lt_of_le (nl_lt n) (Nat.pow_le_pow_left (by decide) _)
theorem r_one_dig (G:List (List DV)):CallsP Tryz.prog G 143 [] (nK .i64 (some (dig 1000000000 (1)))):=by rw [dig1];exact r_one_ok G
theorem r_div_dig (G:List (List DV))(A B:Nat)(hB:0<B)(h:(dig 1000000000 A).length≤100000)(h':(dig 1000000000 B).length≤100000):∃ o,CallsP Tryz.prog G 145 [(nK .i64 (some (dig 1000000000 (A)))),(nK .i64 (some (dig 1000000000 (B))))] (.tup [(nK .i64 (some (dig 1000000000 (A / B)))),nK .i64 o]):=by
 have h:=r_divided_ok G (some (dig 1000000000 A)) (some (dig 1000000000 B)) (dig_can (by decide) A).1 (dig_can (by decide) B) (by rw [dO_some];intro e;have:=(dig_nil (by decide)).1 e;omega) h h'
 rw [dO_some,dO_some,dig_val (by decide),dig_val (by decide)] at h
 grind
theorem refV_mk (neg:Bool){P Q:Nat}(hP:P≠0) (hQ:Q≠0):refV (mkRat (sgI neg P) Q)=rA (if neg then -1 else 1) (some (dig 1000000000 (P / Nat.gcd P Q))) (some (dig 1000000000 (Q / Nat.gcd P Q))):=by
 obtain⟨n1,n2⟩:=mkRat_sg neg (a:=P) hQ
 have hg:P / Nat.gcd P Q≠0:=Nat.ne_of_gt (Nat.div_pos (Nat.le_of_dvd (by omega) (Nat.gcd_dvd_left _ _)) (Nat.gcd_pos_of_pos_left _ (by omega)))
 have h0:(mkRat (sgI neg P) Q).num≠0:=by
  rw [n1];unfold sgI;split <;> omega
 unfold refV rsg rtop rbot
 rw [if_neg h0,if_neg h0,if_neg h0,n1,n2,sgI_abs]
 cases neg with
 | true=>
  rw [if_pos (show sgI true (P / Nat.gcd P Q)<0 from Int.neg_neg_of_pos (Int.ofNat_lt.2 (Nat.pos_of_ne_zero hg)))];rfl
 | false=>
  rfl
theorem refV_zero:refV 0=rA 0 none none:=rfl
attribute [local irreducible] FinC
theorem r_made_ok (G:List (List DV))(s:Int)(neg:Bool)(P Q:Nat)(p:Option (List Nat))(hp:dO p=dig 1000000000 P)(hs:P≠0→s=if neg then -1 else 1)(hQ:0<Q)(hPl:(dig 1000000000 P).length≤100000)(hQl:(dig 1000000000 Q).length≤100000) :
 CallsP Tryz.prog G 90 [.c (.d (.int .i64 s)),nK .i64 p,(nK .i64 (some (dig 1000000000 (Q))))] (refV (mkRat (sgI neg P) Q)):=by
 have oneG:=r_one_dig G
 have cmG:=fun A B=>r_cmp_dig G A B
 by_cases hP0:P=0
 ·subst hP0
  have e0:dO p=[]:=by rw [hp];exact dig0
  have e2:sgI neg 0=0:=by cases neg <;> rfl
  have e1:mkRat (sgI neg 0) Q=0:=by rw [e2];exact Rat.zero_mkRat Q
  rw [e1,refV_zero]
  refine CallsP.enc Go.Proofs.Tryz.func90 rfl (fun lv=>rC_dRes lv _ _ _) fun _=>AW.q ?_
  refine AW.seqK fun K hK=>AW.f1 e0 ?_
  refine AW.cy (AW.f1 @bR0 ?_)
  refine AW.ret ?_
  refine FinC.cell (T:=55) (t:=6) (k:=0) (off:=0) (own:=true) (fz:=false) (U:=55) (cs:=[.d (.int .i64 0),.d .nilsl,.d .nilsl]) rfl ?_ ?_ ?_
  ·simp
  ·rfl
  rfl
 have hp1:p=some (dig 1000000000 P):=by
  cases p with
  | none=>exact absurd ((dig_nil (by decide)).1 hp.symm) hP0
  | some l=>simp_all
 subst hp1
 have hs1:=hs hP0
 have hs0:¬ s=0:=by rw [hs1];split <;> omega
 rw [refV_mk neg hP0 (by omega),← hs1]
 have hdv:=r_divisor_ok G P Q (by omega) hQ hPl hQl
 obtain⟨g,hg⟩:∃ g,Nat.gcd P Q=g:=⟨_,rfl⟩
 have hg0:0<g:=by rw [← hg];exact Nat.gcd_pos_of_pos_left _ (by omega)
 have hgl:(dig 1000000000 g).length≤100000:=Nat.le_trans (dig_len_mono (by decide) (by rw [← hg];exact Nat.gcd_le_right _ hQ)) hQl
 obtain⟨o1,hd1⟩:=r_div_dig G P g hg0 hPl hgl
 obtain⟨o2,hd2⟩:=r_div_dig G Q g hg0 hQl hgl
 rw [hg] at hdv ⊢
 have hne:¬ dig 1000000000 P=[]:=fun e=>hP0 ((dig_nil (by decide)).1 e)
 have c0:∀ A B,(cmpN A B=0)↔A=B:=fun A B=>by unfold cmpN;omega
 refine CallsP.enc Go.Proofs.Tryz.func90 rfl (fun lv=>rC_dRes lv _ _ _) fun _=>AW.q ?_
 refine AW.seqK fun K hK=>AW.f2 hne hs0 ?_
 refine AW.cn (AW.skip (hK _ _ (AW.seqK fun K hK=>?_)))
 by_cases h1:P=1
 ·have hc:=(c0 P 1).2 h1
  have hg1:g=1:=by rw [← hg,h1,Nat.gcd_one_left]
  refine AW.sr fun K1 hK1=>?_
  simp
  refine CallDo.p 1 9 oneG ?_
  simp
  refine CallDo.p 1 9 (cmG P 1) ?_
  simp [hc]
  apply hK1
  refine AW.cy (AW.f2 @bR @nK_rC ?_)
  refine AW.ret ?_
  refine FinC.cell (T:=55) (t:=6) (k:=0) (off:=0) (own:=true) (fz:=false) (U:=55) (cs:=[.d (.int .i64 s),rC (some (dig 1000000000 P)),rC (some (dig 1000000000 Q))]) rfl ?_ ?_ ?_
  ·simp
  ·rfl
  simp_all
 have hc1:¬ cmpN P 1=0:=fun e=>h1 ((c0 P 1).1 e)
 by_cases h2:Q=1
 ·have hc:=(c0 Q 1).2 h2
  have hg1:g=1:=by rw [← hg,h2,Nat.gcd_one_right]
  refine AW.sr fun K1 hK1=>?_
  simp
  refine CallDo.p 1 9 oneG ?_
  simp
  refine CallDo.p 1 9 (cmG P 1) ?_
  simp [hc1]
  refine CallDo.p 1 9 oneG ?_
  simp
  refine CallDo.p 1 9 (cmG Q 1) ?_
  simp [hc]
  apply hK1
  refine AW.cy (AW.f2 @bR @nK_rC ?_)
  refine AW.ret ?_
  refine FinC.cell (T:=55) (t:=6) (k:=0) (off:=0) (own:=true) (fz:=false) (U:=55) (cs:=[.d (.int .i64 s),rC (some (dig 1000000000 P)),rC (some (dig 1000000000 Q))]) rfl ?_ ?_ ?_
  ·simp
  ·rfl
  simp_all
 have hc2:¬ cmpN Q 1=0:=fun e=>h2 ((c0 Q 1).1 e)
 refine AW.sr fun K1 hK1=>?_
 simp
 refine CallDo.p 1 9 oneG ?_
 simp
 refine CallDo.p 1 9 (cmG P 1) ?_
 simp [hc1]
 refine CallDo.p 1 9 oneG ?_
 simp
 refine CallDo.p 1 9 (cmG Q 1) ?_
 simp [hc2]
 apply hK1
 refine AW.cn (AW.skip (hK _ _ (AW.c0 1 hdv ?_)))
 refine AW.seqK fun K hK=>?_
 have fin:∀ (fr:Nat→AV) (κ:Nat),fr 0=.c (.d (.int .i64 s))→fr 1=(nK .i64 (some (dig 1000000000 (P / g))))→fr 2=(nK .i64 (some (dig 1000000000 (Q / g))))→fr 6=.c (.ptr 0 0) →
  K ⟨fr,upd (fun _=>.hole) 0 (.cells true false 55 [.d (.int .i64 0),.d .nilsl,.d .nilsl])⟩ κ:=by
  intro fr κ z0 z1 z2 z6
  apply hK
  refine AW.f6 z0 z1 z2 z6 @nK_rC @bR ?_
  refine AW.ret ?_
  refine FinC.cell (T:=55) (t:=6) (k:=0) (off:=0) (own:=true) (fz:=false) (U:=55) (cs:=[.d (.int .i64 s),rC (some (dig 1000000000 (P / g))),rC (some (dig 1000000000 (Q / g)))]) rfl ?_ ?_ ?_
  ·simp [z6]
  ·rfl
  ·rfl
 by_cases hg1:g=1
 ·have hc:=(c0 g 1).2 hg1
  refine AW.sr fun K1 hK1=>?_
  simp
  refine CallDo.p 1 9 oneG ?_
  simp
  refine CallDo.p 1 9 (cmG g 1) ?_
  simp [hc]
  apply hK1
  refine AW.cn (AW.skip ?_)
  simp_all
 ·have hc:¬ cmpN g 1=0:=fun e=>hg1 ((c0 g 1).1 e)
  refine AW.sr fun K1 hK1=>?_
  simp
  refine CallDo.p 1 9 oneG ?_
  simp
  refine CallDo.p 1 9 (cmG g 1) ?_
  simp [hc]
  apply hK1
  refine AW.cy (AW.sr fun K1 hK1=>?_)
  simp
  refine CallDo.pure 1 9 hd1 (rtup2_pure _ _) (by simp) (by simp) ?_
  simp
  apply hK1
  refine AW.rP ?_
  simp
  refine CallDo.pure 1 9 hd2 (rtup2_pure _ _) (by simp) (by simp) ?_
  simp
  simp_all
end Go.Am
namespace Go.Am
open Go.Am.Ty Go.Proofs N
attribute [local irreducible] FinC
theorem sz9 {n L:Nat}(h:nl n≤L):(dig 1000000000 n).length≤2*L:=Nat.le_trans (nl9_le n) (by omega)
theorem r_bot_ok (G:List (List DV))(x:Rat):CallsP Tryz.prog G 96 [refV x] (.c (rC (some (dig 1000000000 x.den)))):=by
 have:=r_bottom_ok G (rsg x) (rtop x) (rbot x)
 rwa [rBot_d] at this
theorem r_cmp_ok (G:List (List DV))(A B:Nat):CallsP Tryz.prog G 99 [.c (rC (some (dig 1000000000 A))),.c (rC (some (dig 1000000000 B)))] (.c (.d (.int .i64 (cmpN A B)))):=by
 have:=r_cmp_dig G A B
 rw [nK_rC,nK_rC] at this;omega
theorem r_mk_ok (G:List (List DV))(s:Int)(neg:Bool)(P Q L:Nat)(p:Option (List Nat))(hp:dO p=dig 1000000000 P)(hs:P≠0→s=if neg then -1 else 1)(hQ:0<Q)(hP:nl P≤L)(hQl:nl Q≤L)(hL:L≤50000) :
 CallsP Tryz.prog G 90 [.c (.d (.int .i64 s)),.c (rC p),.c (rC (some (dig 1000000000 Q)))] (refV (mkRat (sgI neg P) Q)):=by
 have h1:=sz9 hP
 have h2:=sz9 hQl
 have:=r_made_ok G s neg P Q p hp hs hQ (by omega) (by omega)
 rw [nK_rC,nK_rC] at this;omega
theorem r_IsInt_ok (G:List (List DV))(x:Rat):CallsP Tryz.prog G 102 [refV x] (.c (.d (.bool (decide (x.den=1))))):=by
 have hb:=r_bot_ok G x
 have ho:=r_one_dig G
 rw [nK_rC] at ho
 have hc:=r_cmp_ok G x.den 1
 have e:(cmpN x.den 1=0)↔x.den=1:=by unfold cmpN;(repeat' split) <;> omega
 refine CallsP.en Go.Proofs.Tryz.func102 rfl fun _=>AW.q ?_
 refine AW.sr fun K hK=>?_
 simp
 refine CallDo.p 1 9 hb ?_
 simp
 refine CallDo.p 1 9 ho ?_
 simp
 refine CallDo.p 1 9 hc ?_
 simp
 apply hK
 exact AW.r0 (FinP.rt (t:=2) rfl 9 (by simp [e]))
end Go.Am
namespace Go.Am
open Go.Am.Ty Go.Proofs N
attribute [local irreducible] FinC
theorem dRes_ref2 (lv:Key→LB)(s:Int)(p q:Option (List Nat))(n:Int):dRes lv (.tup [rA s p q,.c (.d (.int .i64 n))])=some (.tup [rA s p q,.c (.d (.int .i64 n))],[]):=by
 cases p <;> cases q <;> rfl
end Go.Am
namespace Go.Am
open Go.Am.Ty Go.Proofs N
attribute [local irreducible] FinC
theorem rbot_ne {x:Rat}(h:x.num≠0):rbot x=some (dig 1000000000 x.den):=if_neg h
end Go.Am
namespace Go.Am
open Go.Am.Ty Go.Proofs N
attribute [local irreducible] FinC
end Go.Am
namespace Go.Am
open Go.Am.Ty Go.Proofs N
theorem isDg_iff (c:UInt8):isDg c=true↔48≤c.toNat∧c.toNat≤57:=by simp [isDg]
theorem dw_all {l:List UInt8}(h:∀ x∈l,isDg x=true):l.dropWhile isDg=[]:=by
 induction l with
 | nil=>rfl
 | cons a l ih=>simp_all
theorem trimD_of {s:List UInt8}(h:isD s):trimD s=[]:=by
 have h1:s.reverse.dropWhile isDg=[]:=dw_all fun x hx=>(isDg_iff x).2 (h x (List.mem_reverse.1 hx))
 unfold trimD trimRD
 simp_all
def isRow (s:List UInt8):Prop:=isD s∧s≠[]∧(s=[48]∨s.getD 0 0≠48)
theorem rowB_iff {s:List UInt8}:rowB s=true↔isRow s:=by
 constructor
 ·intro h
  obtain⟨h1,h2⟩:=rowB_d h
  unfold rowB at h
  simp only [Bool.and_eq_true,Bool.or_eq_true,Bool.not_eq_true',decide_eq_true_eq,decide_eq_false_iff_not] at h
  exact⟨h1,h2,h.2⟩
 ·rintro⟨h1,h2,h3⟩
  unfold rowB
  rw [decide_eq_false h2,decide_eq_true (trimD_of h1)]
  grind
theorem gD8 {s:List UInt8}{i:Nat}(h:i<s.length):s.getD i 0=s[i]:=by grind
theorem r_row_ok (G:List (List DV))(s:List UInt8):CallsP Tryz.prog G 142 [.c (.d (.str s))] (.c (.d (.bool (rowB s)))):=by
 refine CallsS.know 0 (by simp) (fun V v h=>(show s.length≤9223372036854775807 by cases h.1 with|str _ hl=>exact hl)) fun hs=>?_
 refine CallsP.en Go.Proofs.Tryz.func142 rfl fun _=>AW.q ?_
 refine AW.seqK fun K hK=>AW.q ?_
 refine AW.block ?_
 refine AW.loopV (fun (i:Nat)=>⟨frOf [(0,.c (.d (.str s))),(3,.c (.d (.int .i64 (i:Int))))],fun _=>.hole⟩) 0 (fun i=>i≤s.length∧isD (s.take i)) (fun i=>s.length - i) 0 (Le.mk' _ rfl noMap_hole (by simp)) ⟨Nat.zero_le _,fun c hc=>by simp at hc⟩ ?_
 rintro i ⟨hi,hd⟩
 refine AW.seqK fun K3 hK3=>AW.q ?_
 by_cases hlt:i<s.length
 ·have hlt':(i:Int)<(s.length:Int):=by omega
  have wi:=w64 (n:=(i:Int)+1) (by omega) (by omega)
  have hg:=gD8 hlt
  have hg2:s[i]?.getD 0=s[i]:=by rw [List.getElem?_eq_getElem hlt];rfl
  obtain⟨c,hc⟩:∃ c,s[i]=c:=⟨_,rfl⟩
  rw [hc] at hg hg2
  have hcm:c∈s:=by rw [← hc];exact List.getElem_mem hlt
  have bad:¬ (48≤c.toNat∧c.toNat≤57)→rowB s=false:=fun h=>by
   cases hr:rowB s with
   | false=>rfl
   | true=>exact absurd ((rowB_iff.1 hr).1 c hcm) h
  refine AW.fy (by simp_all) (AW.skip (hK3 _ _ (AW.seqK fun K5 hK5=>AW.block (AW.seqK fun K6 hK6=>?_))))
  by_cases c1:c.toNat<48
  ·have c1':(c.toNat:Int)<48:=by omega
   refine AW.rP ?_
   simp [hlt,hlt',hc,c1']
   apply hK6
   refine AW.cy (AW.q ?_)
   exact AW.r0 (FinP.rt (t:=2) rfl 9 (by simp [(bad (by omega))]))
  ·have c1':¬ (c.toNat:Int)<48:=by omega
   by_cases c2:57<c.toNat
   ·have c2':(57:Int)<(c.toNat:Int):=by omega
    refine AW.rP ?_
    simp [hlt,hlt',hc,c1',c2']
    apply hK6
    refine AW.cy (AW.q ?_)
    exact AW.r0 (FinP.rt (t:=2) rfl 9 (by simp_all))
   ·have c2':¬ (57:Int)<(c.toNat:Int):=by omega
    refine AW.rP ?_
    simp [hlt,hlt',hc,c1',c2']
    apply hK6
    refine AW.cn (AW.skip (hK5 _ _ (AW.rP ?_)))
    simp [wi]
    refine⟨i+1,Le.mk' _ rfl noMap_hole (by simp),⟨by omega,?_⟩,by omega⟩
    intro x hx
    rw [List.take_add_one,List.getElem?_eq_getElem hlt,List.mem_append] at hx
    rcases hx with hx|hx
    ·exact hd x hx
    grind
 ·have he:i=s.length:=by omega
  subst he
  rw [List.take_length] at hd
  refine AW.fn (by simp) (AW.exit (hK _ _ (AW.seqK fun K hK=>?_)))
  cases s with
  | nil=>
   refine AW.l0 (hK _ _ ?_)
   exact AW.r0 (FinP.rt (t:=2) rfl 9 (by simp [rowB]))
  | cons a l=>
   have hrow:rowB (a::l)=(decide (a::l=[48]) || !decide (a=48)):=by
    unfold rowB
    rw [decide_eq_true (trimD_of hd)];simp
   have ha:((a.toNat:Int)=48)↔a=48:=by
    constructor
    ·intro h;exact UInt8.toNat_inj.1 (by grind)
    ·simp_all
   have hpos:(0:Int)<((l.length:Int)+1):=by omega
   by_cases h0:a::l=[48]
   ·obtain⟨rfl,rfl⟩:=List.cons.inj h0
    refine AW.l1 @eqStr (hK _ _ ?_)
    exact AW.r0 (FinP.rt (t:=2) rfl 9 (by simp [hrow]))
   ·refine AW.rP ?_
    simp [eqStr,h0,hpos]
    apply hK
    exact AW.r0 (FinP.rt (t:=2) rfl 9 (by simp_all))
def rdB (l:List Nat):LB:=if l=[] then .hole else .cells true false 2 (wK .i64 l)
def rdV (l:List Nat):AV:=if l=[] then .c (.d .nilsl) else .c (.lsl 0 0 l.length 1)
theorem upd_h9 {lv:Key→LB}{k:Key}(h:lv k=.hole):upd lv k .hole=lv:=by
 funext j
 simp_all
theorem pow9 (j:Nat):10 ^ (9*j)=1000000000 ^ j:=by rw [Nat.pow_mul]
theorem isD_take {s:List UInt8}(h:isD s) (n:Nat):isD (s.take n):=fun c hc=>h c (List.mem_of_mem_take hc)
theorem isD_drop {s:List UInt8}(h:isD s) (n:Nat):isD (s.drop n):=fun c hc=>h c (List.mem_of_mem_drop hc)
theorem r_read_ok (G:List (List DV))(s:List UInt8)(hd:isD s)(hne:s≠[])(hl:s.length≤100000):CallsP Tryz.prog G 91 [.c (.d (.str s))] (nK .i64 (some (dig 1000000000 (decN s 0)))):=by
 have hbs:∀ (lv:Key→LB) (h:lv 1=.hole) (a:CV),stepBuildSlice Tryz.prog 53 1 [0] lv 1 [.c a]=some (.c (.lsl 1 0 1 1),[(1,.cells true false 2 [a])],[],True):=fun lv h a=>bs213 lv 1 h a
 refine CallsP.en0 Go.Proofs.Tryz.func91 rfl fun _=>AW.q ?_
 refine AW.q ?_
 refine AW.seqK fun K hK=>AW.q ?_
 refine AW.block ?_
 refine AW.loopV (fun (p:List Nat)=>⟨frOf [(0,.c (.d (.str s))),(3,rdV p),(4,.c (.d (.int .i64 ((s.length:Int) - 9*(p.length:Int)))))],upd (fun _=>.hole) 0 (rdB p)⟩) 1
  (fun p=>ok 1000000000 p∧val 1000000000 p=decN (s.drop (s.length - 9*p.length)) 0∧(9*p.length<s.length+9)) (fun p=>s.length+9 - 9*p.length) [] (Le.mk' _ (upd_h9 rfl).symm noMap_hole (by simp [rdV])) ⟨ok_nil _,by simp [decN],by simp⟩ ?_
 rintro p ⟨h1,h2,h3⟩
 obtain⟨z,hz⟩:∃ z:Int,(s.length:Int) - 9*(p.length:Int)=z:=⟨_,rfl⟩
 simp only [hz]
 refine AW.seqK fun K3 hK3=>AW.q ?_
 by_cases hgo:0<z
 ·obtain⟨i,rfl⟩:∃ i:Nat,z=i:=⟨z.toNat,by omega⟩
  have hi:s.length - 9*p.length=i:=by omega
  have hil:i≤s.length:=by omega
  rw [hi] at h2
  obtain⟨lo,hlo⟩:∃ lo,i - 9=lo:=⟨_,rfl⟩
  obtain⟨y,hy⟩:∃ y:Int,(i:Int) - 9=y:=⟨_,rfl⟩
  have w1:IntKind.i64.wrap ((i:Int) - 9)=y:=by rw [w64 (by omega) (by omega)];exact hy
  have hmx:(if y<0 then 0 else y)=(lo:Int):=by split <;> omega
  have w9:=w64 (n:=(i:Int) - 9) (by omega) (by omega)
  rw [hy] at w9
  refine AW.fy (by simp <;> omega) (AW.skip (hK3 _ _ (AW.seqK fun K5 hK5=>AW.block (AW.q ?_))))
  refine AW.seqK fun K6 hK6=>AW.sr fun K7 hK7=>?_
  simp [intsOf,w1,hmx]
  apply hK7
  refine AW.block ?_
  refine AW.loopV (fun (k:Nat)=>⟨frOf [(0,.c (.d (.str s))),(3,rdV p),(4,.c (.d (.int .i64 (i:Int)))),(5,.c (.d (.int .i64 ((decN ((s.take k).drop lo) 0:Nat):Int)))),(6,.c (.d (.int .i64 (k:Int))))],upd (fun _=>.hole) 0 (rdB p)⟩) 1
   (fun k=>lo≤k∧k≤i) (fun k=>i - k) lo (Le.keys [(0,0,rdB p)] 19 _ rfl rfl (by simp) (by simp) (by simp) ?_ ?_) ⟨Nat.le_refl _,by omega⟩ ?_
  ·intro e he
   simp only [List.mem_cons,List.not_mem_nil,or_false] at he
   subst he
   simp only [upd_same]
   unfold rdB;split
   ·rfl
   ·exact like_w .i64 2 p _
  ·have e0:List.drop lo (List.take lo s)=[]:=List.drop_eq_nil_of_le (by grind)
   simp [e0,decN]
   unfold rdV;split <;> simp [kmap]
  rintro k ⟨k1,k2⟩
  refine AW.seqK fun K8 hK8=>AW.q ?_
  by_cases hlk:k<i
  ·have hks:k<s.length:=by omega
   have hks':(k:Int)<(s.length:Int):=by omega
   obtain⟨c,hc⟩:∃ c,s[k]=c:=⟨_,rfl⟩
   have hcd:=hd c (by grind)
   have hlt:=decN_lt (isD_drop (isD_take hd k) lo)
   have hln:(List.drop lo (List.take k s)).length=k - lo:=by rw [List.length_drop,List.length_take];omega
   have hp9:10 ^ (List.drop lo (List.take k s)).length≤10 ^ 8:=Nat.pow_le_pow_right (by decide) (by omega)
   have hnx:decN ((s.take (k+1)).drop lo) 0=10*decN ((s.take k).drop lo) 0+(c.toNat - 48):=by
    have e:(s.take (k+1)).drop lo=(s.take k).drop lo++[c]:=by
     rw [List.take_add_one,List.getElem?_eq_getElem hks,hc,List.drop_append,show lo - (List.take k s).length=0 by grind];rfl
    rw [e,decN_app];rfl
   obtain⟨N0,hN0e⟩:∃ N0,decN ((s.take k).drop lo) 0=N0:=⟨_,rfl⟩
   obtain⟨N1,hN1e⟩:∃ N1,decN ((s.take (k+1)).drop lo) 0=N1:=⟨_,rfl⟩
   rw [hN0e] at hlt hnx
   rw [hN1e] at hnx
   simp only [hN0e]
   have hN0:N0≤100000000:=by omega
   have v1:IntKind.i64.wrap (10*(N0:Int))=((10*N0:Nat):Int):=by rw [w64 (by omega) (by omega)];omega
   have v2:IntKind.u8.wrap ((c.toNat:Int) - 48)=((c.toNat - 48:Nat):Int):=by rw [wrap_in ⟨by simp only [loK];omega,by simp only [hiK];omega⟩];omega
   have v3:=w64 (n:=((c.toNat - 48:Nat):Int)) (by omega) (by omega)
   have v4:IntKind.i64.wrap (((10*N0:Nat):Int)+((c.toNat - 48:Nat):Int))=(N1:Int):=by rw [w64 (by omega) (by omega)];omega
   have v5:=w64 (n:=(k:Int)+1) (by omega) (by omega)
   refine AW.fy (by simp_all) (AW.skip (hK8 _ _ (AW.seqK fun K9 hK9=>AW.block (AW.rP ?_))))
   simp [hks,hks',hc,v1,v2,v3,v4,-Int.natCast_mul]
   apply hK9
   refine AW.rP ?_
   simp [v5]
   refine⟨k+1,Le.keys [(0,0,rdB p)] 19 _ rfl rfl (by simp) (by simp) (by simp) ?_ ?_,⟨by omega,by omega⟩,by omega⟩
   ·intro e he
    simp only [List.mem_cons,List.not_mem_nil,or_false] at he
    subst he
    simp only [upd_same]
    unfold rdB;split
    ·rfl
    ·exact like_w .i64 2 p _
   ·simp [hN1e]
    unfold rdV;split <;> simp [kmap]
  ·obtain rfl:k=i:=by omega
   refine AW.fn (by simp) (AW.exit (hK6 _ _ ?_))
   refine AW.at0 1 ?_
   have hlt:=decN_lt (isD_drop (isD_take hd k) lo)
   have hln:(List.drop lo (List.take k s)).length=k - lo:=by rw [List.length_drop,List.length_take];omega
   have hp9:10 ^ (List.drop lo (List.take k s)).length≤10 ^ 9:=Nat.pow_le_pow_right (by decide) (by omega)
   have hv:decN (s.drop lo) 0=decN ((s.take k).drop lo) 0*1000000000 ^ p.length+decN (s.drop k) 0:=by
    have e:s.drop lo=(s.take k).drop lo++s.drop k:=by
     conv=>lhs;rw [← List.take_append_drop k s]
     rw [List.drop_append,show lo - (List.take k s).length=0 by grind];rfl
    have e2:(s.drop k).length=9*p.length:=by rw [List.length_drop];omega
    rw [e,decN_app,decN_shift,e2,pow9]
   have hz2:(s.length:Int) - 9*(((p.length+1:Nat)):Int)=y:=by omega
   have hz3:s.length - 9*(p.length+1)=lo:=by omega
   obtain⟨N,hN⟩:∃ N,decN ((s.take k).drop lo) 0=N:=⟨_,rfl⟩
   simp only [hN] at hlt hv ⊢
   have hok:ok 1000000000 (p++[N]):=ok_append.2 ⟨h1,ok_cons.2 ⟨by omega,ok_nil _⟩⟩
   have hvl:val 1000000000 (p++[N])=decN (s.drop (s.length - 9*(p++[N]).length)) 0:=by
    rw [List.length_append,List.length_singleton,hz3,val_snoc,h2,hv,Nat.mul_comm];omega
   have hB1:rdB (p++[N])=.cells true false 2 (wK .i64 (p++[N])):=if_neg (by simp)
   have hV1:rdV (p++[N])=.c (.lsl 0 0 (p.length+1) 1):=by unfold rdV;rw [if_neg (by simp)];simp
   by_cases hp:p=[]
   ·subst hp
    refine AW.rP ?_
    simp [rdV,rdB,hbs,srcA,keyOf,-stepBuildSlice]
    apply hK5
    refine AW.rP ?_
    simp [w1]
    refine⟨[]++[N],Le.keys [(0,2,rdB ([]++[N]))] 19 _ rfl rfl (by simp) (by simp) (by simp) ?_ ?_,⟨hok,hvl,by simp <;> omega⟩,by simp⟩
    ·intro e he
     simp only [List.mem_cons,List.not_mem_nil,or_false] at he
     subst he
     rw [hB1]
     simpa [wK] using like_w .i64 2 ([]++[N]) _
    ·rw [hV1]
     have hz2':(s.length:Int) - 9=y:=by simpa using hz2
     simp [kmap,hz2']
   ·have hB0:rdB p=.cells true false 2 (wK .i64 p):=if_neg hp
    have hV0:rdV p=.c (.lsl 0 0 p.length 1):=if_neg hp
    refine AW.rP ?_
    simp [hB0,hV0,hbs,srcA,keyOf,wK_snoc,-stepBuildSlice]
    repeat refine and_o ?_
    apply hK5
    refine AW.rP ?_
    simp [w1]
    refine⟨p++[N],Le.keys [(0,2,rdB (p++[N]))] 19 _ rfl rfl (by simp) (by simp) (by simp) ?_ ?_,⟨hok,hvl,by simp;omega⟩,by simp;omega⟩
    ·intro e he
     simp only [List.mem_cons,List.not_mem_nil,or_false] at he
     subst he
     rw [hB1]
     simpa using like_w .i64 2 (p++[N]) _
    ·rw [hV1]
     have hz2':(s.length:Int) - 9*((p.length:Int)+1)=y:=by simpa using hz2
     simp [kmap,hz2']
 ·have hp:p≠[]:=by
   intro e;subst e
   have:=List.length_pos_iff.2 hne
   simp at hz;omega
  have hB0:rdB p=.cells true false 2 (wK .i64 p):=if_neg hp
  have hV0:rdV p=.c (.lsl 0 0 p.length 1):=if_neg hp
  have h0:s.length - 9*p.length=0:=by omega
  rw [h0,List.drop_zero] at h2
  have hout:trimN p=dig 1000000000 (decN s 0):=trim_dig (by decide) h1 h2
  rw [hB0,hV0]
  refine AW.fn (by simp_all) (AW.exit (hK _ _ (AW.sr fun K hK=>?_)))
  simp
  refine CallP.frzN (T:=2) (k:=.i64) (l:=p) 1 9 0 (by simp) (by omega) (r_trimS_ok _ _ (by omega)) (by simp) (by simp) (by simp) ?_
  simp
  apply hK
  exact AW.r0 (FinP.rt (t:=2) rfl 9 (by simp [hout]))
def dgU (d:Nat):UInt8:=UInt8.ofNat (48+d)
theorem dgU_nat {d:Nat}(h:d<10):(dgU d).toNat=48+d:=by simp [dgU];omega
theorem dgU_of {c:UInt8}(h:48≤c.toNat∧c.toNat≤57):dgU (c.toNat - 48)=c:=UInt8.toNat_inj.1 (by rw [dgU_nat (by omega)];omega)
def dgs (n:Nat):Nat→List UInt8
 | 0=>[]
 | i+1=>dgU (n / 10 ^ i % 10)::dgs n i
theorem dgs_len (n:Nat):∀ i,(dgs n i).length=i
 | 0=>rfl
 | i+1=>by rw [dgs,List.length_cons,dgs_len n i]
theorem dgs_d (n:Nat):∀ i,isD (dgs n i)
 | 0=>fun c hc=>by cases hc
 | i+1=>fun c hc=>by
  rw [dgs] at hc
  rcases List.mem_cons.1 hc with rfl|hc
  ·rw [dgU_nat (by omega)];omega
  ·exact dgs_d n i c hc
theorem dgs_v (n:Nat):∀ i,decN (dgs n i) 0=n % 10 ^ i
 | 0=>by simp [dgs,decN,Nat.mod_one]
 | i+1=>by
  have ih:=dgs_v n i
  have e:decN (dgs n (i+1)) 0=(n / 10 ^ i % 10)*10 ^ i+n % 10 ^ i:=by
   rw [dgs]
   show decN (dgs n i) (10*0+((dgU (n / 10 ^ i % 10)).toNat - 48))=_
   rw [decN_shift,ih,dgs_len,dgU_nat (by omega),Nat.mul_zero,Nat.zero_add,Nat.add_sub_cancel_left]
  rw [e,Nat.pow_succ,Nat.mod_mul,Nat.mul_comm,Nat.add_comm]
theorem concat9 (s t:List UInt8):stepBin Tryz.prog .add 9 (.c (.d (.str s))) (.c (.d (.str t)))=some (.c (.d (.str (s++t))),[],[],s.length+t.length≤9223372036854775807):=by
 rfl
theorem slT138:slT Tryz.prog 149=some (5,1):=by simp
theorem bs138 (lv:Key→LB)(κ:Key)(h:lv κ=.hole)(a:CV):stepBuildSlice Tryz.prog 149 1 [0] lv κ [.c a]=some (.c (.lsl κ 0 1 1),[(κ,.cells true false 5 [a])],[],True):=by
 unfold stepBuildSlice;rw [h];rfl
theorem r_nine_ok (G:List (List DV))(n:Nat)(hn:n<1000000000):CallsP Tryz.prog G 148 [.c (.d (.int .i64 (n:Int)))] (.c (.d (.str (dgs n 9)))):=by
 have hbs:∀ (lv:Key→LB) (h:lv 0=.hole) (a:CV),stepBuildSlice Tryz.prog 149 1 [0] lv 0 [.c a]=some (.c (.lsl 0 0 1 1),[(0,.cells true false 5 [a])],[],True):=fun lv h a=>bs138 lv 0 h a
 refine CallsP.en0 Go.Proofs.Tryz.func148 rfl fun _=>AW.q ?_
 refine AW.q ?_
 refine AW.seqK fun K hK=>AW.q ?_
 refine AW.block ?_
 refine AW.loopV (fun (i:Nat)=>⟨frOf [(0,.c (.d (.int .i64 ((n / 10 ^ i:Nat):Int)))),(3,.c (.d (.str (dgs n i)))),(4,.c (.d (.int .i64 (i:Int))))],fun _=>.hole⟩) 0 (fun i=>i≤9) (fun i=>9 - i) 0 (Le.mk' _ rfl noMap_hole (by simp [dgs])) (by omega) ?_
 intro i hi
 try simp only at hi
 have hle:n / 10 ^ i≤n:=Nat.div_le_self _ _
 have hnx:n / 10 ^ (i+1)=n / 10 ^ i / 10:=by rw [Nat.pow_succ,Nat.div_div_eq_div_mul]
 have hds:dgs n (i+1)=dgU (n / 10 ^ i % 10)::dgs n i:=rfl
 have hdl:=dgs_len n i
 obtain⟨q,hq⟩:∃ q,n / 10 ^ i=q:=⟨_,rfl⟩
 obtain⟨T,hT⟩:∃ T,dgs n i=T:=⟨_,rfl⟩
 rw [hq] at hle hnx hds
 rw [hT] at hds hdl
 simp only [hq,hT]
 refine AW.seqK fun K3 hK3=>AW.q ?_
 by_cases hlt:i<9
 ·have hlt':(i:Int)<9:=by omega
  have e1:(q:Int).tmod 10=((q % 10:Nat):Int):=tm_nat q 10
  have e2:IntKind.i64.wrap (48+((q % 10:Nat):Int))=((48+q % 10:Nat):Int):=by rw [w64 (by omega) (by omega)];omega
  have e3:IntKind.u8.wrap ((48+q % 10:Nat):Int)=((48+q % 10:Nat):Int):=wrap_in ⟨by simp only [loK];omega,by simp only [hiK];omega⟩
  have e4:(q:Int).tdiv 10=((q / 10:Nat):Int):=td_nat q 10
  have w4:=w64 (n:=((q / 10:Nat):Int)) (by omega) (by omega)
  have w5:=w64 (n:=(i:Int)+1) (by omega) (by omega)
  refine AW.fy (by simp_all) (AW.skip (hK3 _ _ (AW.seqK fun K5 hK5=>AW.block (AW.seqK fun K6 hK6=>?_))))
  refine AW.regionX ?_
  refine ChX.run 5 rfl ?_
  simp [e1,e2,e3,hbs,-stepBuildSlice,-Int.natCast_add,-Int.natCast_emod]
  refine ChX.convB (κ:=0) (off:=0) (own:=true) (fz:=false) (T':=5) (e:=5) (cs:=[.d (.int .u8 ((48+q % 10:Nat):Int))]) (n:=((48+q % 10:Nat):Int)) 1 rfl rfl rfl (by simp) (by simp) (by simp) slT138 Tryz.underlying5 (by simp) ?_
  refine ChX.run 3 rfl ?_
  simp [concat9]
  repeat refine and_o ?_
  refine ChX.done ?_
  apply hK6
  refine AW.rP ?_
  simp [e4,w4,-Int.natCast_ediv]
  apply hK5
  refine AW.rP ?_
  simp [w5]
  refine⟨i+1,Le.keys [] 19 _ rfl rfl (by simp) (by simp) (by simp) (by simp) ?_,by omega,by omega⟩
  have f0:(q:Int) / 10=(n:Int) / 10 ^ (i+1):=by
   have:=congrArg (fun x:Nat=>(x:Int)) hnx
   simpa using this.symm
  have f1:(48+(q:Int) % 10).toNat=48+q % 10:=by omega
  simp [hds,dgU]
  simp_all
 ·obtain rfl:i=9:=by omega
  refine AW.fn (by rfl) (AW.exit (hK _ _ (AW.q ?_)))
  exact AW.r0 (FinP.rt (t:=2) rfl 9 (by simp [hT]))
def decF:Nat→Nat→List UInt8
 | 0,n=>[dgU n]
 | f+1,n=>if n<10 then [dgU n] else decF f (n / 10)++[dgU (n % 10)]
def decS (n:Nat):List UInt8:=decF n n
theorem decF_eq:∀ (f n:Nat),n≤f→decF f n=decS n
 | 0,n,h=>by have:n=0:=by omega
             subst this;rfl
 | f+1,n,h=>by
  unfold decS
  by_cases h10:n<10
  ·cases n with
   | zero=>rfl
   | succ n=>rw [decF,if_pos h10,decF,if_pos h10]
  ·obtain⟨m,rfl⟩:∃ m,n=m+1:=⟨n - 1,by omega⟩
   rw [decF,if_neg h10,decF,if_neg h10,decF_eq f ((m+1) / 10) (by omega),decF_eq m ((m+1) / 10) (by omega)]
theorem decS_lt {n:Nat}(h:n<10):decS n=[dgU n]:=by
 unfold decS
 cases n with
 | zero=>rfl
 | succ n=>rw [decF,if_pos h]
theorem decS_ge {n:Nat}(h:¬ n<10):decS n=decS (n / 10)++[dgU (n % 10)]:=by
 obtain⟨m,rfl⟩:∃ m,n=m+1:=⟨n - 1,by omega⟩
 conv=>lhs;unfold decS
 rw [decF,if_neg h,decF_eq m ((m+1) / 10) (by omega)]
theorem decN_snoc (l:List UInt8)(c:UInt8):decN (l++[c]) 0=10*decN l 0+(c.toNat - 48):=by rw [decN_app];rfl
theorem row_pos {l:List UInt8}(h:isD l) (hne:l≠[]) (h0:l.getD 0 0≠48):1≤decN l 0:=by
 cases l with
 | nil=>grind
 | cons c l=>
  have hc:=h c (by simp)
  have hc48:c≠48:=h0
  have hcn:c.toNat≠48:=fun e=>hc48 (UInt8.toNat_inj.1 (by rw [e];rfl))
  show 1≤decN l (10*0+(c.toNat - 48))
  rw [decN_shift]
  have:1*1≤(10*0+(c.toNat - 48))*10 ^ l.length:=Nat.mul_le_mul (by omega) (Nat.pow_pos (by decide))
  omega
theorem row_eq:∀ (k:Nat) (s:List UInt8),s.length=k→isRow s→s=decS (decN s 0)
 | 0,s,hk,h=>absurd (List.eq_nil_of_length_eq_zero hk) h.2.1
 | k+1,s,hk,⟨h1,h2,h3⟩=>by
  rcases List.eq_nil_or_concat s with rfl|⟨l,c,rfl⟩
  ·grind
  ·rw [List.concat_eq_append] at *
   have hc:=h1 c (by simp)
   have hl:isD l:=fun x hx=>h1 x (by simp [hx])
   rw [decN_snoc]
   by_cases hle:l=[]
   ·subst hle
    show [c]=decS (10*decN [] 0+(c.toNat - 48))
    rw [show 10*decN [] 0+(c.toNat - 48)=c.toNat - 48 by simp [decN],decS_lt (by omega),dgU_of hc]
   ·have h0:l.getD 0 0≠48:=by
     rcases h3 with h3|h3
     ·exfalso
      have:=congrArg List.length h3
      simp at this
      exact hle this
     ·cases l with
      | nil=>exact absurd rfl hle
      | cons a l=>exact h3
    have hp:=row_pos hl hle h0
    have ih:=row_eq k l (by grind) ⟨hl,hle,.inr h0⟩
    rw [decS_ge (by omega),show (10*decN l 0+(c.toNat - 48)) / 10=decN l 0 by omega,show (10*decN l 0+(c.toNat - 48)) % 10=c.toNat - 48 by omega,← ih,dgU_of hc]
theorem row_dec {s:List UInt8}(h:isRow s):s=decS (decN s 0):=row_eq _ s rfl h
theorem r_text_ok (G:List (List DV))(A:Nat)(o:Option (List Nat))(ho:dO o=dig 1000000000 A)(hl:(dig 1000000000 A).length≤100000):CallsP Tryz.prog G 101 [.c (rC o)] (.c (.d (.str (decS A)))):=by
 have hok:=(dig_can (B:=1000000000) (by decide) A).1
 have hval:=dig_val (B:=1000000000) (by decide) A
 obtain⟨D,hD⟩:∃ D,dig 1000000000 A=D:=⟨_,rfl⟩
 rw [hD] at hok hval hl ho
 have nineG:=fun n h=>r_nine_ok G n h
 rw [← nK_rC]
 have hw0:=w64 (n:=(D.length:Int) - 1) (by omega) (by omega)
 refine CallsP.en Go.Proofs.Tryz.func101 rfl fun _=>AW.q ?_
 refine AW.q ?_
 refine AW.seqK fun K hK=>AW.f2 ho hw0 ?_
 refine AW.block ?_
 refine AW.loopV (fun (p:Nat × List UInt8)=>⟨frOf [(0,nK .i64 o),(3,.c (.d (.str p.2))),(4,.c (.d (.int .i64 ((p.1:Int) - 1))))],fun _=>.hole⟩) 0
  (fun p=>p.1≤D.length∧isD p.2∧decN p.2 0=val 1000000000 (D.drop p.1)∧p.2.length=9*(D.length - p.1)) (fun p=>p.1) (D.length,[]) (Le.mk' _ rfl noMap_hole (by simp [])) ⟨Nat.le_refl _,fun c hc=>(by cases hc),by simp [decN],by simp⟩ ?_
 rintro⟨k,S⟩ ⟨h1,h2,h3,h4⟩
 simp only at h1 h2 h3 h4
 refine AW.seqK fun K3 hK3=>AW.q ?_
 cases k with
 | succ k=>
  have hk:k<D.length:=by omega
  have hko:k<(dO o).length:=by rw [ho];exact hk
  have e2:((k+1:Nat):Int) - 1=k:=by omega
  simp only [e2]
  obtain⟨x,hx⟩:∃ x,(dO o)[k]=x:=⟨_,rfl⟩
  have hxD:D[k]=x:=by rw [← hx];congr 1;exact ho.symm
  have hxB:x<1000000000:=by rw [← hxD];exact hok _ (List.getElem_mem hk)
  have hv:=val_drop (B:=1000000000) hk
  rw [hxD] at hv
  have nn:=nineG x hxB
  have hnd:=dgs_d x 9
  have hnv:=dgs_v x 9
  have hnl:=dgs_len x 9
  obtain⟨T,hT⟩:∃ T,dgs x 9=T:=⟨_,rfl⟩
  rw [hT] at nn hnd hnv hnl
  have w9:=w64 (n:=(k:Int) - 1) (by omega) (by omega)
  refine AW.cy (AW.skip (hK3 _ _ (AW.seqK fun K5 hK5=>AW.block (AW.rP ?_))))
  simp [hko,hx]
  refine CallDo.p 0 9 nn ?_
  simp [concat9]
  repeat refine and_o ?_
  apply hK5
  refine AW.rP ?_
  simp [w9]
  refine⟨k,S++T,Le.mk' _ rfl noMap_hole (by simp),⟨by omega,?_,?_,?_⟩,by omega⟩
  ·intro c hc
   rcases List.mem_append.1 hc with hc|hc
   ·exact h2 c hc
   ·exact hnd c hc
  ·rw [decN_app,decN_shift,hnv,hnl,h3,hv,Nat.mod_eq_of_lt hxB];omega
  grind
 | zero=>
  rw [List.drop_zero,hval] at h3
  refine AW.cn (AW.exit (hK _ _ (AW.seqK fun K hK=>AW.block ?_)))
  refine AW.loopV (fun (S:List UInt8)=>⟨frOf [(3,.c (.d (.str S)))],fun _=>.hole⟩) 0
   (fun S=>isD S∧decN S 0=A∧S.length≤9*D.length) (fun S=>S.length) S (Le.mk' _ rfl noMap_hole (by simp)) ⟨h2,h3,by omega⟩ ?_
  rintro S ⟨q1,q2,q3⟩
  have fin:∀ (fr:Nat→AV) (κ:Nat),S≠[]→isRow S→fr 3=.c (.d (.str S))→K ⟨fr,fun _=>.hole⟩ κ:=by
   intro fr κ hne hr z3
   have hrd:=row_dec hr
   rw [q2] at hrd
   apply hK
   refine AW.seqK fun K6 hK6=>AW.f3 z3 @eqEmpty hne ?_
   refine AW.cn (AW.skip (hK6 _ _ (AW.f1 z3 ?_)))
   exact AW.r0 (FinP.rt (t:=2) rfl 9 (by simp_all))
  refine AW.seqK fun K4 hK4=>AW.seqK fun K5 hK5=>?_
  cases S with
  | nil=>
   have hA:A=0:=q2.symm
   refine AW.l0 (hK5 _ _ ?_)
   refine AW.cn (AW.exit (hK _ _ (AW.seqK fun K6 hK6=>AW.f1 @eqEmpty ?_)))
   refine AW.cy (AW.l0 (hK6 _ _ ?_))
   refine AW.q ?_
   have hs:decS A=[48]:=by rw [hA];rfl
   exact AW.r0 (FinP.rt (t:=2) rfl 9 (by simp [hs]))
  | cons c l=>
   have hc:=q1 c (by simp)
   cases l with
   | nil=>
    refine AW.l0 (hK5 _ _ ?_)
    refine AW.cn (AW.exit ?_)
    simp
    refine fin _ _ (by simp) ⟨q1,by simp,?_⟩ (by simp)
    grind
   | cons d l=>
    have hl2:(1:Int)<((l.length:Int)+1+1):=by omega
    have hl3:(0:Int)<((l.length:Int)+1+1):=by omega
    have ll:l.length≤900000:=by simp at q3;omega
    by_cases h:c=48
    ·subst h
     refine AW.rP ?_
     simp [hl2,hl3]
     apply hK5
     refine AW.cy (AW.skip (hK4 _ _ (AW.block (AW.rP ?_))))
     simp
     repeat refine and_o ?_
     have ht:List.take (((l.length:Int)+1+1).toNat) ((48:UInt8)::d::l)=48::d::l:=List.take_of_length_le (by simp;omega)
     exact⟨d::l,Le.mk' _ rfl noMap_hole (by simp [ht]),⟨fun x hx=>q1 x (List.mem_cons_of_mem _ hx),q2,by grind⟩,by simp⟩
    ·have hcn:¬ (c.toNat:Int)=48:=fun e=>h (UInt8.toNat_inj.1 (by grind))
     have hcn2:¬ c.toNat=48:=by omega
     refine AW.rP ?_
     simp [hl2,hl3,hcn]
     apply hK5
     refine AW.cn (AW.exit ?_)
     simp
     exact fin _ _ (by simp) ⟨q1,by simp,.inr h⟩ (by simp)
def ratS (x:Rat):List UInt8:=(if x.num<0 then [45] else [])++decS x.num.natAbs++(if x.den=1 then [] else [47]++decS x.den)
theorem decS_len2 {n L:Nat}(h:n<10 ^ L) (hL:1≤L):(decS n).length≤L:=by
 induction L generalizing n with
 | zero=>omega
 | succ L ih=>
  by_cases h10:n<10
  ·rw [decS_lt h10];simp
  ·rw [decS_ge h10,List.length_append,List.length_singleton]
   grind
theorem decS_nl (n:Nat):(decS n).length≤10*nl n+1:=by
 have h1:=nl_lt n
 have h2:4294967296 ^ nl n≤(10 ^ 10) ^ nl n:=Nat.pow_le_pow_left (by decide) _
 rw [← Nat.pow_mul] at h2
 have h3:n<10 ^ (10*nl n+1):=Nat.lt_of_lt_of_le (Nat.lt_of_lt_of_le h1 h2) (Nat.pow_le_pow_right (by decide) (by omega))
 exact decS_len2 h3 (by omega)
theorem rsg_neg {x:Rat}:rsg x<0↔x.num<0:=by
 unfold rsg
 omega
theorem r_Text_ok (G:List (List DV))(x:Rat)(hx:szR x 20000):CallsP Tryz.prog G 56 [refV x] (.c (.d (.str (ratS x)))):=by
 have h1:=sz9 hx.1
 have h2:=sz9 hx.2
 have t1:=r_text_ok G x.num.natAbs (rtop x) (rtop_d x) (by omega)
 have ii:=r_IsInt_ok G x
 have l1:=decS_nl x.num.natAbs
 have l2:=decS_nl x.den
 have hx1:=hx.1
 have hx2:=hx.2
 have hn:=rsg_neg (x:=x)
 have t2:¬ x.den=1→CallsP Tryz.prog G 101 [.c (rC (rbot x))] (.c (.d (.str (decS x.den)))):=fun h=>by
  have h0:x.num≠0:=fun e=>h (den_zero e)
  refine r_text_ok G x.den (rbot x) (by rw [rbot_ne h0];rfl) (by omega)
 have hS:ratS x=(if x.num<0 then [45] else [])++decS x.num.natAbs++(if x.den=1 then [] else [47]++decS x.den):=rfl
 generalize ratS x=Z at *
 generalize decS x.num.natAbs=P at *
 generalize decS x.den=Q at *
 refine CallsP.en Go.Proofs.Tryz.func56 rfl fun _=>AW.q ?_
 refine AW.c0 1 t1 ?_
 refine AW.seqK fun K hK=>?_
 have fin:∀ (S:List UInt8) (fr:Nat→AV) (κ:Nat),S=(if x.num<0 then [45] else [])++P→fr 1=.c (.ptr 0 0)→fr 3=.c (.d (.str S))→K ⟨fr,upd (fun _=>.hole) 0 (.cells true false 55 [.d (.int .i64 (rsg x)),rC (rtop x),rC (rbot x)])⟩ κ:=by
  intro S fr κ hSe z1 z3
  have hSl:S.length≤P.length+1:=by rw [hSe];split <;> simp <;> omega
  rw [← hSe] at hS
  apply hK
  refine AW.seqK fun K1 hK1=>AW.seqK fun K2 hK2=>?_
  by_cases hd:x.den=1
  ·rw [if_pos hd,List.append_nil] at hS
   refine AW.m2 1 ii z1 hd (hK2 _ _ ?_)
   refine AW.cn (AW.skip (hK1 _ _ (AW.f1 z3 ?_)))
   exact AW.r0 (FinP.rt (t:=2) rfl 9 (by simp [hS]))
  ·have t2':=t2 hd
   rw [if_neg hd] at hS
   refine AW.m2 1 ii z1 hd (hK2 _ _ ?_)
   refine AW.cy (AW.rP ?_)
   simp [z1,z3,concat9]
   repeat refine and_o ?_
   refine CallDo.pure 1 9 t2' (by simp) (by simp) (by simp) ?_
   simp [concat9]
   repeat refine and_o ?_
   apply hK1
   refine AW.q ?_
   exact AW.r0 (FinP.rt (t:=2) rfl 9 (by simp [hS]))
 refine AW.seqK fun K1 hK1=>?_
 by_cases hneg:x.num<0
 ·have hr:=hn.2 hneg
  refine AW.l1 hr (hK1 _ _ ?_)
  refine AW.cy (AW.rP ?_)
  simp [concat9]
  repeat refine and_o ?_
  simp_all
 ·have hr:¬ rsg x<0:=fun h=>hneg (hn.1 h)
  refine AW.l1 hr (hK1 _ _ ?_)
  refine AW.cn (AW.skip ?_)
  simp_all
theorem FinP.tmp4 {c:Ctx}{fn:Func}{x y z u:AV}{t1 t2 t3 t4:Nat}{s:LSt}{κ:Nat}(hr:fn.results=#[.tmp t1,.tmp t2,.tmp t3,.tmp t4]) (kh:Key) (hx:s.fr t1=x) (hy:s.fr t2=y) (hz:s.fr t3=z) (hu:s.fr t4=u) (hp:x.pure=true) (hq:y.pure=true) (hw:z.pure=true) (hv:u.pure=true) (hh:s.lv kh=.hole)
 (n1:x.noTup=true) (n2:y.noTup=true) (n3:z.noTup=true) (n4:u.noTup=true) (h12:t1≠t2) (h13:t1≠t3) (h14:t1≠t4) (h23:t2≠t3) (h24:t2≠t4) (h34:t3≠t4):FinP c fn (.tup [x,y,z,u]) .ret s κ:=by
 refine⟨[(t1,x),(t2,y),(t3,z),(t4,u)],kh,by grind,hh,?_⟩
 rw [hr]
 simp [resA,resL,resV,frOf,h12.symm,h13.symm,h14.symm,h23.symm,h24.symm,h34.symm,n1,n2,n3,n4]
theorem idx_none:∀ {s:List UInt8},(∀ c∈s,c≠47)→ctI s [47] = -1
 | [],_=>rfl
 | a::s,h=>by
  have ha:=h a (by simp)
  have ih:=idx_none (s:=s) fun c hc=>h c (by simp [hc])
  unfold ctI at ih ⊢
  rw [Lib.index]
  grind
theorem idx_at:∀ {a b:List UInt8},(∀ c∈a,c≠47)→ctI (a++47::b) [47]=a.length
 | [],b,_=>by rfl
 | x::a,b,h=>by
  have hx:=h x (by simp)
  have ih:=idx_at (a:=a) (b:=b) fun c hc=>h c (by simp [hc])
  unfold ctI at ih ⊢
  rw [List.cons_append,Lib.index]
  grind
def rwT (s:List UInt8):List UInt8:=ctA s [47]
def rwB (s:List UInt8):List UInt8:=if 0≤ctI s [47] then ctB s [47] else [49]
def sgZ (neg:Bool):Int:=if neg then -1 else 1
abbrev rowsA (neg:Bool)(s:List UInt8):AV:=.tup [.c (.d (.str (rwT s))),.c (.d (.str (rwB s))),.c (.d (.int .i64 (sgZ neg))),.c (.d (.bool (!badB neg (ctA s [47]) (ctB s [47]) (decide (0≤ctI s [47])))))]
theorem r_rows_ok (G:List (List DV))(r:List UInt8):CallsP Tryz.prog G 89 [.c (.d (.str r))] (rowsA (hpB r [45]) (cpS r [45])):=by
 refine CallsS.know 0 (by simp) (fun V v h=>(show r.length≤9223372036854775807 by cases h.1 with|str _ hl=>exact hl)) fun hs=>?_
 have rowG:=fun s=>r_row_ok G s
 have hsl:(cpS r [45]).length≤r.length:=by unfold cpS;split <;> simp
 have hdec:(hpB r [45]=true∧∃ l,r=45::l∧cpS r [45]=l)∨(hpB r [45]=false∧cpS r [45]=r∧(r=[]∨∃ c l,r=c::l∧c≠45)):=by
  cases r with
  | nil=>exact .inr ⟨rfl,rfl,.inl rfl⟩
  | cons c l=>
   by_cases hc:c=45
   ·subst hc
    have:hpB (45::l) [45]=true:=by simp [hpB]
    exact .inl ⟨this,l,rfl,by rfl⟩
   ·have:hpB (c::l) [45]=false:=by simp [hpB,hc]
    exact .inr ⟨this,by unfold cpS;grind,.inr ⟨c,l,rfl,hc⟩⟩
 generalize cpS r [45]=s at *
 generalize hpB r [45]=neg at *
 refine CallsP.en Go.Proofs.Tryz.func89 rfl fun _=>AW.q ?_
 refine AW.q ?_
 refine AW.seqK fun K hK=>?_
 have main:∀ (fr:Nat→AV) (κ:Nat),fr 6=.c (.d (.str s))→fr 7=.c (.d (.int .i64 (sgZ neg)))→K ⟨fr,fun _=>.hole⟩ κ:=by
  intro fr κ z6 z7
  apply hK
  refine AW.seqK fun K hK=>AW.q ?_
  refine AW.block ?_
  refine AW.loopV (fun (i:Nat)=>⟨frOf [(6,.c (.d (.str s))),(7,.c (.d (.int .i64 (sgZ neg)))),(8,.c (.d (.int .i64 (i:Int))))],fun _=>.hole⟩) 0 (fun i=>i≤s.length∧∀ c∈s.take i,c≠47) (fun i=>s.length - i) 0 (Le.mk' _ rfl noMap_hole (by simp_all)) ⟨Nat.zero_le _,fun c hc=>by simp at hc⟩ ?_
  rintro i ⟨hi,hd⟩
  refine AW.seqK fun K3 hK3=>AW.q ?_
  by_cases hlt:i<s.length
  ·have hlt':(i:Int)<(s.length:Int):=by omega
   have wi:=w64 (n:=(i:Int)+1) (by omega) (by omega)
   obtain⟨c,hc⟩:∃ c,s[i]=c:=⟨_,rfl⟩
   refine AW.fy (by simp_all) (AW.skip (hK3 _ _ (AW.seqK fun K5 hK5=>AW.block (AW.sr fun K6 hK6=>?_))))
   simp [hlt,hlt',hc]
   apply hK6
   by_cases h47:c=47
   ·have hcn:(c.toNat:Int)=47:=by rw [h47];rfl
    have hcn2:c.toNat=47:=by rw [h47];rfl
    have hsp:s=s.take i++47::s.drop (i+1):=by
     conv=>lhs;rw [← List.take_append_drop i s,List.drop_eq_getElem_cons hlt,hc,h47]
    have hidx:ctI s [47]=i:=by
     have:=idx_at (b:=s.drop (i+1)) hd
     rw [← hsp,List.length_take,Nat.min_eq_left (by omega)] at this
     exact this
    have hge:0≤ctI s [47]:=by rw [hidx];omega
    have hA:ctA s [47]=s.take i:=by unfold ctA;rw [if_pos hge,hidx,Int.toNat_natCast]
    have hB:ctB s [47]=s.drop (i+1):=by unfold ctB;rw [if_pos hge,hidx,Int.toNat_natCast];rfl
    have hT:rwT s=s.take i:=hA
    have hB2:rwB s=s.drop (i+1):=by unfold rwB;rw [if_pos hge,hB]
    have hbad:(!badB neg (ctA s [47]) (ctB s [47]) (decide (0≤ctI s [47])))=(rowB (s.take i) && rowB (s.drop (i+1)) && !decide (s.drop (i+1)=[48]) && !decide (s.drop (i+1)=[49]) && (!decide (s.take i=[48]) || decide (0<sgZ neg))):=by
     rw [hA,hB,decide_eq_true hge]
     unfold badB sgZ
     cases rowB (s.take i) <;> cases rowB (s.drop (i+1)) <;> cases neg <;> cases decide (s.take i=[48]) <;> cases decide (s.drop (i+1)=[48]) <;> cases decide (s.drop (i+1)=[49]) <;> rfl
    have e1:∀ l:List UInt8,(l.take ((i:Int)).toNat).drop (0:Int).toNat=l.take i:=fun l=>rfl
    have hdr:(s.take ((s.length:Int)).toNat).drop ((i+1:Nat):Int).toNat=s.drop (i+1):=by rw [Int.toNat_natCast,Int.toNat_natCast,List.take_length]
    obtain⟨p,hp⟩:∃ p,s.take i=p:=⟨_,rfl⟩
    obtain⟨q,hq⟩:∃ q,s.drop (i+1)=q:=⟨_,rfl⟩
    have rp:=rowG p
    have rq:=rowG q
    rw [hp] at hT
    rw [hq] at hB2
    rw [hp,hq] at hbad
    have hp':List.drop 0 (List.take i s)=p:=hp
    refine AW.fy (by simp [hcn2] <;> omega) (AW.seqK fun K6 hK6=>?_)
    refine AW.drawP mixed (by kernel_rfl) rfl ?_
    simp [wi,hp,hq]
    repeat refine and_o ?_
    refine⟨by kernel_rfl,?_⟩
    apply hK6
    refine AW.seqK fun K6 hK6=>?_
    have fin:∀ (b:Bool) (fr:Nat→AV) (κ:Nat),fr 2=.c (.d (.str p))→fr 3=.c (.d (.str q))→fr 4=.c (.d (.int .i64 (sgZ neg)))→fr 5=.c (.d (.bool b)) →
     b=(rowB p && rowB q && !decide (q=[48]) && !decide (q=[49]) && (!decide (p=[48]) || decide (0<sgZ neg)))→K6 ⟨fr,fun _=>.hole⟩ κ:=by
     intro b fr κ z2 z3 z4 z5 hb
     rw [← hbad] at hb
     apply hK6
     exact AW.ret (κ:=0) (FinP.tmp4 (κ:=0) rfl 9 (by grind) (by grind) (by simp [z4]) (by grind) rfl rfl rfl rfl rfl rfl rfl rfl rfl (by decide) (by decide) (by decide) (by decide) (by decide) (by decide))
    cases r1:rowB p with
    | false=>
     refine AW.rP ?_
     simp
     refine CallDo.p 0 9 rp ?_
     simp [r1]
     exact fin false _ _ (by simp) (by simp) (by simp) (by simp) (by simp [r1])
    | true=>
    cases r2:rowB q with
    | false=>
     refine AW.rP ?_
     simp
     refine CallDo.p 0 9 rp ?_
     simp [r1]
     refine CallDo.p 0 9 rq ?_
     simp [r2]
     exact fin false _ _ (by simp) (by simp) (by simp) (by simp) (by grind)
    | true=>
    by_cases q0:q=[48]
    ·subst q0
     refine AW.rP ?_
     simp
     refine CallDo.p 0 9 rp ?_
     simp [r1]
     refine CallDo.p 0 9 rq ?_
     simp [r2,neStr]
     exact fin false _ _ (by simp) (by simp) (by simp) (by simp) (by simp)
    by_cases q1:q=[49]
    ·subst q1
     refine AW.rP ?_
     simp
     refine CallDo.p 0 9 rp ?_
     simp [r1]
     refine CallDo.p 0 9 rq ?_
     simp [r2,neStr]
     exact fin false _ _ (by simp) (by simp) (by simp) (by simp) (by simp)
    by_cases p0:p=[48]
    ·subst p0
     refine AW.rP ?_
     simp
     refine CallDo.p 0 9 rp ?_
     simp [r1]
     refine CallDo.p 0 9 rq ?_
     simp [r2,neStr,q0,q1]
     exact fin (decide (0<sgZ neg)) _ _ (by simp) (by simp) (by simp) (by simp) (by simp [r1,r2,q0,q1])
    ·refine AW.rP ?_
     simp
     refine CallDo.p 0 9 rp ?_
     simp [r1]
     refine CallDo.p 0 9 rq ?_
     simp [r2,neStr,q0,q1,p0]
     exact fin true _ _ (by simp) (by simp) (by simp) (by simp) (by grind)
   ·have hcn:¬ (c.toNat:Int)=47:=fun e=>h47 (UInt8.toNat_inj.1 (by grind))
    have hcn2:¬ c.toNat=47:=by omega
    refine AW.fn (by simp_all) (AW.skip (hK5 _ _ (AW.rP ?_)))
    simp [wi]
    refine⟨i+1,Le.mk' _ rfl noMap_hole (by simp),⟨by omega,?_⟩,by omega⟩
    intro x hx
    rw [List.take_add_one,List.getElem?_eq_getElem hlt,List.mem_append] at hx
    grind
  ·have he:i=s.length:=by omega
   subst he
   rw [List.take_length] at hd
   have hidx:=idx_none hd
   have hge:¬ 0≤ctI s [47]:=by rw [hidx];decide
   have hA:ctA s [47]=s:=if_neg hge
   have hT:rwT s=s:=hA
   have hB2:rwB s=[49]:=if_neg hge
   have hbad:(!badB neg (ctA s [47]) (ctB s [47]) (decide (0≤ctI s [47])))=(rowB s && (!decide (s=[48]) || decide (0<sgZ neg))):=by
    rw [hA,decide_eq_false hge]
    unfold badB sgZ
    cases rowB s <;> cases neg <;> cases decide (s=[48]) <;> rfl
   have rs:=rowG s
   refine AW.fn (by simp) (AW.exit (hK _ _ (AW.seqK fun K6 hK6=>?_)))
   have fin:∀ (b:Bool) (fr:Nat→AV) (κ:Nat),fr 2=.c (.d (.str s))→fr 3=.c (.d (.str [49]))→fr 4=.c (.d (.int .i64 (sgZ neg)))→fr 5=.c (.d (.bool b)) →
    b=(rowB s && (!decide (s=[48]) || decide (0<sgZ neg)))→K6 ⟨fr,fun _=>.hole⟩ κ:=by
    intro b fr κ z2 z3 z4 z5 hb
    rw [← hbad] at hb
    apply hK6
    exact AW.ret (κ:=0) (FinP.tmp4 (κ:=0) rfl 9 (by grind) (by grind) (by simp [z4]) (by grind) rfl rfl rfl rfl rfl rfl rfl rfl rfl (by decide) (by decide) (by decide) (by decide) (by decide) (by decide))
   cases r1:rowB s with
   | false=>
    refine AW.rP ?_
    simp
    refine CallDo.p 0 9 rs ?_
    simp [r1]
    simp_all
   | true=>
   by_cases p0:s=[48]
   ·subst p0
    refine AW.rP ?_
    simp
    refine CallDo.p 0 9 rs ?_
    simp [r1,neStr]
    exact fin (decide (0<sgZ neg)) _ _ (by simp) (by simp) (by simp) (by simp) (by simp [r1])
   ·refine AW.rP ?_
    simp
    refine CallDo.p 0 9 rs ?_
    simp [r1,neStr,p0]
    simp_all
 refine AW.seqK fun K1 hK1=>?_
 rcases hdec with ⟨hn,l,hr,hl⟩|⟨hn,hl,hr|⟨c,l,hr,hc⟩⟩
 ·subst hr;subst hl
  have ht:List.take (((s.length:Int)+1).toNat) ((45:UInt8)::s)=45::s:=List.take_of_length_le (by simp)
  have hp:(0:Int)<(s.length:Int)+1:=by omega
  have hll:s.length+1≤9223372036854775807:=by simpa using hs
  refine AW.rP ?_
  simp [hp]
  apply hK1
  refine AW.cy (AW.rP ?_)
  simp
  repeat refine and_o ?_
  exact main _ _ (by simp) (by simp [sgZ,hn])
 ·subst hr;subst hl
  refine AW.l0 (hK1 _ _ ?_)
  refine AW.cn (AW.skip ?_)
  simp
  exact main _ _ (by simp) (by simp [sgZ,hn])
 ·subst hr;subst hl
  have hcn:¬ (c.toNat:Int)=45:=fun e=>hc (UInt8.toNat_inj.1 (by grind))
  have hcn2:¬ c.toNat=45:=by omega
  have hp:(0:Int)<(l.length:Int)+1:=by omega
  refine AW.rP ?_
  simp [hp,hcn]
  apply hK1
  refine AW.cn (AW.skip ?_)
  simp
  exact main _ _ (by simp) (by simp [sgZ,hn])
attribute [local irreducible] FinC
theorem idx_split:∀ (s:List UInt8),(∀ c∈s,c≠47)∨∃ a b,s=a++47::b∧∀ c∈a,c≠47
 | []=>.inl fun c hc=>by cases hc
 | x::s=>by
  by_cases hx:x=47
  ·subst hx;exact .inr ⟨[],s,rfl,fun c hc=>by cases hc⟩
  ·rcases idx_split s with h|⟨a,b,h,ha⟩
   ·grind
   grind
theorem split_uniq:∀ {a a' b b':List UInt8},(∀ c∈a,c≠47)→(∀ c∈a',c≠47)→a++47::b=a'++47::b'→b=b'
 | [],[],b,b',_,_,h=>(List.cons.inj h).2
 | [],x::a',b,b',_,h',h=>absurd (List.cons.inj h).1.symm (h' x (by simp))
 | x::a,[],b,b',h',_,h=>absurd (List.cons.inj h).1 (h' x (by simp))
 | x::a,y::a',b,b',h1,h2,h=>split_uniq (fun c hc=>h1 c (by simp [hc])) (fun c hc=>h2 c (by simp [hc])) (List.cons.inj h).2
theorem isD_47 {s:List UInt8}(h:isD s):∀ c∈s,c≠47:=fun c hc e=>by
 have:=h c hc
 simp_all
theorem decF_d:∀ (f n:Nat),n≤f→isD (decF f n)∧decN (decF f n) 0=n
 | 0,n,h=>by
  have:n=0:=by omega
  subst this
  refine⟨fun c hc=>?_,rfl⟩
  rw [decF,List.mem_singleton] at hc
  rw [hc,dgU_nat (by decide)];omega
 | f+1,n,h=>by
  rw [decF]
  by_cases h10:n<10
  ·rw [if_pos h10]
   refine⟨fun c hc=>?_,?_⟩
   ·rw [List.mem_singleton] at hc
    rw [hc,dgU_nat h10];omega
   ·show 10*0+((dgU n).toNat - 48)=n
    rw [dgU_nat h10];omega
  ·rw [if_neg h10]
   obtain⟨h1,h2⟩:=decF_d f (n / 10) (by omega)
   refine⟨fun c hc=>?_,?_⟩
   ·rcases List.mem_append.1 hc with hc|hc
    ·exact h1 c hc
    ·rw [List.mem_singleton] at hc
     rw [hc,dgU_nat (by omega)];omega
   ·rw [decN_snoc,h2,dgU_nat (by omega)];omega
theorem decS_d (n:Nat):isD (decS n):=(decF_d n n (Nat.le_refl _)).1
theorem decS_v (n:Nat):decN (decS n) 0=n:=(decF_d n n (Nat.le_refl _)).2
theorem hp_split (r:List UInt8):r=(if hpB r [45] then [45] else [])++cpS r [45]:=by
 unfold cpS
 cases h:hpB r [45] with
 | false=>rfl
 | true=>
  unfold hpB at h
  simp only [List.length_singleton,Bool.and_eq_true,decide_eq_true_eq] at h
  show r=[45]++r.drop 1
  rw [← h.2]
  have:=List.take_append_drop 1 r
  grind
theorem ratS_mk (neg:Bool){P Q:Nat}(hP:P≠0) (hQ:Q≠0):ratS (mkRat (sgI neg P) Q)=(if neg then [45] else [])++decS (P / Nat.gcd P Q)++(if Q / Nat.gcd P Q=1 then [] else [47]++decS (Q / Nat.gcd P Q)):=by
 obtain⟨n1,n2⟩:=mkRat_sg neg (a:=P) hQ
 have hg:P / Nat.gcd P Q≠0:=Nat.ne_of_gt (Nat.div_pos (Nat.le_of_dvd (by omega) (Nat.gcd_dvd_left _ _)) (Nat.gcd_pos_of_pos_left _ (by omega)))
 unfold ratS
 rw [n1,n2,sgI_abs]
 cases neg with
 | true=>
  rw [if_pos (show sgI true (P / Nat.gcd P Q)<0 from Int.neg_neg_of_pos (Int.ofNat_lt.2 (Nat.pos_of_ne_zero hg)))];rfl
 | false=>
  rfl
theorem ratS_zero:ratS 0=[48]:=rfl
theorem mkRat_z (neg:Bool)(Q:Nat):mkRat (sgI neg 0) Q=0:=by
 have e2:sgI neg 0=0:=by cases neg <;> rfl
 simp_all
theorem text_whole {neg:Bool}{T:List UInt8}(hT:isRow T) (h0:¬ (neg=true∧T=[48])):ratS (mkRat (sgI neg (decN T 0)) 1)=(if neg then [45] else [])++T:=by
 have hd:=row_dec hT
 by_cases hP:decN T 0=0
 ·rw [hP,mkRat_z,ratS_zero]
  have:T=[48]:=by rw [hd,hP];rfl
  grind
 ·rw [ratS_mk neg hP (by decide),Nat.gcd_one_right,Nat.div_one,Nat.div_one,← hd,if_pos rfl,List.append_nil]
theorem text_frac {neg:Bool}{T B:List UInt8}(hT:isRow T) (hB:isRow B) (hQ:2≤decN B 0):ratS (mkRat (sgI neg (decN T 0)) (decN B 0))=(if neg then [45] else [])++(T++47::B)↔Nat.gcd (decN T 0) (decN B 0)=1:=by
 have hdT:=row_dec hT
 have hdB:=row_dec hB
 have h45:∀ c∈(if neg then [45] else []:List UInt8),c≠47:=by
  intro c hc;split at hc
  ·rw [List.mem_singleton] at hc;rw [hc];decide
  ·cases hc
 have hmem:(47:UInt8)∈(if neg then [45] else []:List UInt8)++(T++47::B):=by simp
 constructor
 ·intro h
  apply Classical.byContradiction
  intro hg
  by_cases hP:decN T 0=0
  ·rw [hP,mkRat_z,ratS_zero] at h
   grind
  ·rw [ratS_mk neg hP (by omega)] at h
   generalize hgg:Nat.gcd (decN T 0) (decN B 0)=g at *
   have hg0:0<g:=by rw [← hgg];exact Nat.gcd_pos_of_pos_left _ (by omega)
   by_cases h1:decN B 0 / g=1
   ·rw [if_pos h1,List.append_nil] at h
    rw [← h] at hmem
    rcases List.mem_append.1 hmem with hm|hm
    ·grind
    ·exact isD_47 (decS_d _) 47 hm rfl
   ·rw [if_neg h1,← List.append_assoc] at h
    have h2:((if neg then [45] else [])++decS (decN T 0 / g))++47::decS (decN B 0 / g)=((if neg then [45] else [])++T)++47::B:=by
     rw [List.append_assoc,List.append_assoc] at h ⊢
     simpa using h
    have h3:=split_uniq (fun c hc=>by
     rcases List.mem_append.1 hc with hc|hc
     ·grind
     ·exact isD_47 (decS_d _) c hc) (fun c hc=>by
     rcases List.mem_append.1 hc with hc|hc
     ·grind
     ·exact isD_47 hT.1 c hc) h2
    have h4:=congrArg (fun l=>decN l 0) h3
    simp only [decS_v] at h4
    have:decN B 0 / g<decN B 0:=Nat.div_lt_self (by omega) (by omega)
    omega
 ·intro hg
  have hP:decN T 0≠0:=by intro e;rw [e,Nat.gcd_zero_left] at hg;omega
  rw [ratS_mk neg hP (by omega),hg,Nat.div_one,Nat.div_one,← hdT,← hdB,if_neg (show ¬ decN B 0=1 by omega),List.append_assoc];rfl
theorem one_row:isRow [49]:=⟨by intro c hc;simp_all,by decide,.inr (by decide)⟩
theorem neStr53 (s t:List UInt8):stepBin Tryz.prog .neq 35 (.c (.d (.str s))) (.c (.d (.str t)))=some (.c (.d (.bool (!decide (s=t)))),[],[],True):=by
 rw [← beqD];rfl
theorem FinC.ref2 {c:Ctx}{fn:Func}{z:Rat}{e:Int}{t u k:Nat}{s:LSt}{κ:Nat}(hr:fn.results=#[.cell t 55,.tmp u]) (ht:s.fr t=.c (.ptr k 0)) (hk:s.lv k=.cells true false 55 [.d (.int .i64 (rsg z)),rC (rtop z),rC (rbot z)]) (hu:s.fr u=.c (.d (.int .i64 e))) (hP:c.P=Tryz.prog):FinC c fn (.tup [refV z,.c (.d (.int .i64 e))]) .ret s κ:=
 FinC.cell2 hr ht hk (by simp_all) hu rfl rfl
theorem badB_row {neg:Bool}{top bot:List UInt8}{brk:Bool}(h:badB neg top bot brk=false):isRow top∧¬ (neg=true∧top=[48])∧(brk=true→isRow bot∧bot≠[48]∧bot≠[49]):=by
 obtain⟨h1,h2⟩:=bad_no h
 refine⟨rowB_iff.1 h1,?_,fun hb=>?_⟩
 ·rintro⟨rfl,rfl⟩
  unfold badB at h
  simp at h
 ·obtain⟨a,b,c⟩:=h2 hb
  exact⟨rowB_iff.1 a,b,c⟩
theorem ratP_bad {r:List UInt8}(h:ratE r≠0):ratP r=0:=if_neg h
@[simp] theorem extA_4a {x y z u:AV}(h:x.noTup=true):extA 0 (.tup [x,y,z,u])=some (x,[],[],True):=by
 cases x <;> first|rfl|cases h
@[simp] theorem extA_4b {x y z u:AV}(h:y.noTup=true):extA 1 (.tup [x,y,z,u])=some (y,[],[],True):=by
 cases y <;> first|rfl|cases h
@[simp] theorem extA_4c {x y z u:AV}(h:z.noTup=true):extA 2 (.tup [x,y,z,u])=some (z,[],[],True):=by
 cases z <;> first|rfl|cases h
@[simp] theorem extA_4d {x y z u:AV}(h:u.noTup=true):extA 3 (.tup [x,y,z,u])=some (u,[],[],True):=by
 cases u <;> first|rfl|cases h
theorem r_Parse_ok (G:List (List DV))(r:List UInt8):CallsP Tryz.prog G 46 [.c (.d (.str r))] (.tup [refV (ratP r),.c (.d (.int .i64 (ratE r)))]):=by
 have rw0:=r_rows_ok G r
 have hE:ratE r=parseE (hpB r [45]) (ctA (cpS r [45]) [47]) (ctB (cpS r [45]) [47]) (decide (0≤ctI (cpS r [45]) [47])):=rfl
 have hP:ratP r=ratQ (hpB r [45]) (ctA (cpS r [45]) [47]) (ctB (cpS r [45]) [47]) (decide (0≤ctI (cpS r [45]) [47])):=rfl
 have hsp:=hp_split r
 obtain⟨s,hs⟩:∃ s,cpS r [45]=s:=⟨_,rfl⟩
 obtain⟨neg,hn⟩:∃ n,hpB r [45]=n:=⟨_,rfl⟩
 rw [hs,hn] at rw0 hE hP hsp
 unfold rowsA at rw0
 have hbad0:=ratP_bad (r:=r)
 have dz:∀ e:Int,dRes (fun _=>LB.hole) (.tup [refV 0,.c (.d (.int .i64 e))])=some (.tup [refV 0,.c (.d (.int .i64 e))],[]):=fun e=>dRes_ref2 _ _ _ _ _
 cases hb:badB neg (ctA s [47]) (ctB s [47]) (decide (0≤ctI s [47])) with
 | true=>
  have e6:ratE r=6:=by rw [hE];unfold parseE;rw [if_pos hb]
  rw [hbad0 (by omega),e6]
  rw [hb] at rw0
  refine CallsP.enc Go.Proofs.Tryz.func46 rfl (fun lv=>dRes_ref2 lv _ _ _ _) fun _=>AW.q ?_
  refine AW.c0 1 rw0 ?_
  refine AW.seqK fun K hK=>AW.q ?_
  refine AW.cy (AW.f2 @bR0 @setSeg.eq_1 ?_)
  exact AW.ret (FinC.ref2 (k:=0) rfl (by simp) (by simp <;> exact⟨rfl,rfl,rfl⟩) (by simp) rfl)
 | false=>
 rw [hb] at rw0
 obtain⟨hT,hT0,hB⟩:=badB_row hb
 obtain⟨T,hTe⟩:∃ T,ctA s [47]=T:=⟨_,rfl⟩
 have hrT:rwT s=T:=hTe
 obtain⟨B,hBe⟩:∃ B,rwB s=B:=⟨_,rfl⟩
 rw [hTe] at hT hT0
 have hsame:(2000<max (ctA s [47]).length (ctB s [47]).length)↔(2000<T.length∨2000<B.length):=by
  rw [hTe]
  by_cases hk:0≤ctI s [47]
  ·have:B=ctB s [47]:=by rw [← hBe];exact if_pos hk
   grind
  ·have h1:B=[49]:=by rw [← hBe];exact if_neg hk
   have h2:ctB s [47]=[]:=if_neg hk
   grind
 have hBrow:isRow B∧1≤decN B 0:=by
  by_cases hk:0≤ctI s [47]
  ·have h1:B=ctB s [47]:=by rw [← hBe];exact if_pos hk
   obtain⟨a,b,c⟩:=hB (decide_eq_true hk)
   rw [h1]
   exact⟨a,by have:=row_ge2 (rowB_iff.2 a) b c;omega⟩
  ·have h1:B=[49]:=by rw [← hBe];exact if_neg hk
   rw [h1];exact⟨one_row,by decide⟩
 rw [hrT,hBe] at rw0
 by_cases hlong:2000<T.length∨2000<B.length
 ·have e3:ratE r=3:=by rw [hE];unfold parseE;rw [if_neg (by rw [hb];decide),if_pos (hsame.2 hlong)]
  rw [hbad0 (by omega),e3]
  refine CallsP.enc Go.Proofs.Tryz.func46 rfl (fun lv=>dRes_ref2 lv _ _ _ _) fun _=>AW.q ?_
  refine AW.c0 1 rw0 ?_
  refine AW.seqK fun K hK=>AW.q ?_
  refine AW.cn (AW.skip (hK _ _ (AW.seqK fun K hK=>AW.seqK fun K1 hK1=>?_)))
  by_cases l1:2000<T.length
  ·have l1':(2000:Int)<(T.length:Int):=by omega
   refine AW.l2 l1 l1' (hK1 _ _ ?_)
   refine AW.cy (AW.f2 @bR0 @setSeg.eq_1 ?_)
   exact AW.ret (FinC.ref2 (k:=0) rfl (by simp) (by simp <;> exact⟨rfl,rfl,rfl⟩) (by simp) rfl)
  ·have l1':¬ (2000:Int)<(T.length:Int):=by omega
   have l2:2000<B.length:=by omega
   have l2':(2000:Int)<(B.length:Int):=by omega
   refine AW.l4 l1 l1' l2 l2' (hK1 _ _ ?_)
   refine AW.cy (AW.f2 @bR0 @setSeg.eq_1 ?_)
   exact AW.ret (FinC.ref2 (k:=0) rfl (by simp) (by simp <;> exact⟨rfl,rfl,rfl⟩) (by simp) rfl)
 have l1:¬ 2000<T.length:=fun h=>hlong (.inl h)
 have l2:¬ 2000<B.length:=fun h=>hlong (.inr h)
 have l1':¬ (2000:Int)<(T.length:Int):=by omega
 have l2':¬ (2000:Int)<(B.length:Int):=by omega
 have rd1:=r_read_ok G T hT.1 hT.2.1 (by omega)
 have rd2:=r_read_ok G B hBrow.1.1 hBrow.1.2.1 (by omega)
 rw [nK_rC] at rd1 rd2
 have n1:=decN_nl hT.1 (by omega:T.length≤2000)
 have n2:=decN_nl hBrow.1.1 (by omega:B.length≤2000)
 have mk:=r_mk_ok G (sgZ neg) neg (decN T 0) (decN B 0) 300 (some (dig 1000000000 (decN T 0))) rfl (fun _=>rfl) hBrow.2 n1 n2 (by decide)
 have hsz:szR (mkRat (sgI neg (decN T 0)) (decN B 0)) 300:=szR_mk _ (by omega) n1 n2
 have tx:=r_Text_ok G _ (szR_mono hsz (by decide:300≤20000))
 have hres:(ratS (mkRat (sgI neg (decN T 0)) (decN B 0))=r∧ratE r=0∧ratP r=mkRat (sgI neg (decN T 0)) (decN B 0))∨(ratS (mkRat (sgI neg (decN T 0)) (decN B 0))≠r∧ratE r=6∧ratP r=0):=by
  rcases idx_split s with h47|⟨a,b,hab,ha⟩
  ·have hk:¬ 0≤ctI s [47]:=by rw [idx_none h47];decide
   have hTs:T=s:=by rw [← hTe];exact if_neg hk
   have hB1:B=[49]:=by rw [← hBe];exact if_neg hk
   have hd1:decN B 0=1:=by rw [hB1];rfl
   left
   have e0:ratE r=0:=by rw [hE];unfold parseE;rw [if_neg (by rw [hb];decide),if_neg (fun h=>hlong (hsame.1 h)),if_pos (decide_eq_false hk)]
   refine⟨?_,e0,?_⟩
   ·rw [hd1,text_whole hT hT0,hTs];grind
   ·rw [hP];unfold ratQ
    grind
  ·have hidx:=idx_at (b:=b) ha
   rw [← hab] at hidx
   have hk:0≤ctI s [47]:=by rw [hidx];omega
   have hA:ctA s [47]=a:=by unfold ctA;rw [if_pos hk,hidx,Int.toNat_natCast,hab,List.take_left]
   have hBb:ctB s [47]=b:=by
    unfold ctB;rw [if_pos hk,hidx,Int.toNat_natCast,hab]
    rw [show a++47::b=(a++[47])++b by simp]
    exact List.drop_left' (by simp)
   have hTa:T=a:=by rw [← hTe];exact hA
   have hBb2:B=b:=by rw [← hBe];unfold rwB;rw [if_pos hk,hBb]
   obtain⟨c1,c2,c3⟩:=hB (decide_eq_true hk)
   have hge:=row_ge2 (rowB_iff.2 c1) c2 c3
   rw [hBb,← hBb2] at hge c1
   have htf:=text_frac (neg:=neg) hT c1 hge
   have hsr:r=(if neg then [45] else [])++(T++47::B):=by rw [hTa,hBb2,← hab];exact hsp
   rw [← hsr] at htf
   have hpe:ratE r=if Nat.gcd (decN T 0) (decN B 0)=1 then 0 else 6:=by
    rw [hE];unfold parseE
    rw [if_neg (by rw [hb];decide),if_neg (fun h=>hlong (hsame.1 h)),if_neg (by rw [decide_eq_true hk];decide),gO_v,hTe,hBb,← hBb2]
   by_cases hg:Nat.gcd (decN T 0) (decN B 0)=1
   ·left
    rw [if_pos hg] at hpe
    refine⟨htf.2 hg,hpe,?_⟩
    rw [hP];unfold ratQ
    grind
   grind
 generalize mkRat (sgI neg (decN T 0)) (decN B 0)=z at *
 rcases hres with ⟨q1,q2,q3⟩|⟨q1,q2,q3⟩
 ·rw [q2,q3]
  refine CallsP.enc Go.Proofs.Tryz.func46 rfl (fun lv=>dRes_ref2 lv _ _ _ _) fun _=>AW.q ?_
  refine AW.c0 1 rw0 ?_
  refine AW.seqK fun K hK=>AW.q ?_
  refine AW.cn (AW.skip (hK _ _ (AW.seqK fun K hK=>AW.f4 l1 l1' l2 l2' ?_)))
  refine AW.cn (AW.skip (hK _ _ (AW.sr fun K hK=>?_)))
  simp
  refine CallDo.p 1 9 rd1 ?_
  simp
  refine CallDo.p 1 9 rd2 ?_
  simp
  refine CallDo.p 1 9 mk ?_
  simp [setSeg]
  apply hK
  refine AW.seqK fun K hK=>AW.c2 2 tx @neStr53 q1 ?_
  refine AW.cn (AW.skip (hK _ _ (AW.f1 @setSeg.eq_1 ?_)))
  exact AW.ret (FinC.ref2 (k:=0) rfl (by simp) (by simp) (by simp) rfl)
 ·rw [q2,q3]
  refine CallsP.enc Go.Proofs.Tryz.func46 rfl (fun lv=>dRes_ref2 lv _ _ _ _) fun _=>AW.q ?_
  refine AW.c0 1 rw0 ?_
  refine AW.seqK fun K hK=>AW.q ?_
  refine AW.cn (AW.skip (hK _ _ (AW.seqK fun K hK=>AW.f4 l1 l1' l2 l2' ?_)))
  refine AW.cn (AW.skip (hK _ _ (AW.sr fun K hK=>?_)))
  simp
  refine CallDo.p 1 9 rd1 ?_
  simp
  refine CallDo.p 1 9 rd2 ?_
  simp
  refine CallDo.p 1 9 mk ?_
  simp [setSeg]
  apply hK
  refine AW.seqK fun K hK=>AW.c2 2 tx @neStr53 q1 ?_
  refine AW.cy (AW.f2 @bR0 @setSeg.eq_1 ?_)
  exact AW.ret (FinC.ref2 (k:=0) rfl (by simp) (by simp <;> exact⟨rfl,rfl,rfl⟩) (by simp) rfl)
end Go.Am
namespace Go.Am
open Go.Am.Ty Go.Proofs N
def rD:Option (List Nat)→DV
 | none=>.nilsl
 | some l=>.sl (dK .i64 l)
theorem rC_rD (o:Option (List Nat)):rC o=.d (rD o):=by cases o <;> rfl
@[simp] theorem riv_dArg2 (lv:Key→LB)(s s':Int)(p q p' q':Option (List Nat))(n:DV)(hn:n.isScal=true):dRes lv (.tup [.agg [.d (.int .i64 s),rC p,rC q,.d (.int .i64 s'),rC p',rC q'],.c (.d n)])=some (.tup [.agg [.d (.int .i64 s),rC p,rC q,.d (.int .i64 s'),rC p',rC q'],.c (.d n)],[]):=by
 simp only [rC_rD];rfl
@[simp] theorem riv_pure (s s':Int)(p q p' q':Option (List Nat)):(AV.agg [.d (.int .i64 s),rC p,rC q,.d (.int .i64 s'),rC p',rC q']).pure=true:=by
 simp only [rC_rD];rfl
@[simp] theorem riv_pure2 (s s':Int)(p q p' q':Option (List Nat))(n:DV):(AV.tup [.agg [.d (.int .i64 s),rC p,rC q,.d (.int .i64 s'),rC p',rC q'],.c (.d n)]).pure=true:=by
 simp only [rC_rD];rfl
abbrev Str:=List UInt8
def stO (b:Option (List Str)):Option (List (List DV)):=b.map (·.map fun s=>[.str s])
def stL (b:Option (List Str)):List Str:=b.getD []
theorem stO_len (b:Option (List Str)):(sO (stO b)).length=(stL b).length:=by cases b <;> simp [stO,stL,sO]
theorem lpSt (lv:Key→LB)(b:Option (List Str)):lenP Tryz.prog 47 lv (.c (scC (stO b)))=some (.c (.d (.int .i64 (stL b).length)),[],[],True):=by
 rw [← stO_len];exact lenP_slA (by simp)
theorem ixSt (lv:Key→LB)(b:Option (List Str)){i:Nat}(hi:i<(stL b).length):stepIndexAddr Tryz.prog 47 lv (.c (scC (stO b))) (.c (.d (.int .i64 (i:Int))))=some (.c (.d (.ptr [.str (stL b)[i]])),[],[],True):=by
 refine ixA' (sz:=1) (by simp) (by omega) (by rw [stO_len];omega) ?_ rfl
 cases b with
 | none=>cases hi
 | some l=>
  have hi':i<l.length:=hi
  rw [Int.toNat_natCast]
  show (l.map fun s=>[DV.str s]).getD i []=[DV.str l[i]]
  rw [List.getD_eq_getElem?_getD,List.getElem?_map,List.getElem?_eq_getElem hi'];rfl
def qS (k:Key):Nat→AV
 | 0=>.c (.d .nilsl)
 | n+1=>.c (.lsl k 0 (n+1) 3)
def qB (f:Sq):Nat→LB
 | 0=>.hole
 | n+1=>.cells true false 27 (qK f (n+1))
def rqc (x:Rat):List CV:=[.d (.int .i64 (rsg x)),rC (rtop x),rC (rbot x)]
def rqK (f:Sq):Nat→List CV
 | 0=>[]
 | m+1=>rqK f m++rqc (f m)
theorem rqK_len (f:Sq)(m:Nat):(rqK f m).length=m*3:=by
 induction m with
 | zero=>rfl
 | succ m ih=>simp only [rqK,List.length_append,ih];show _+3=_;omega
theorem rqK_ren (f:Sq)(m:Nat)(g:Key→Key):(rqK f m).map (CV.ren g)=rqK f m:=by
 induction m with
 | zero=>rfl
 | succ m ih=>
  simp only [rqK,List.map_append,ih]
  congr 1
  unfold rqc
  rw [rC_rD,rC_rD];rfl
def rqS (k:Key):Nat→AV
 | 0=>.c (.d .nilsl)
 | n+1=>.c (.lsl k 0 (n+1) 3)
def rqB (f:Sq):Nat→LB
 | 0=>.hole
 | n+1=>.cells true false 55 (rqK f (n+1))
def nB2 (f:Sq):Nat→List LB
 | 0=>[]
 | n+1=>[.cells true false 27 (qK f (n+1)),.cells true false 55 (rqK f (n+1))]
theorem qS_pos (k:Key){n:Nat}(h:n≠0):qS k n=.c (.lsl k 0 n 3):=by obtain⟨j,rfl⟩:=Nat.exists_eq_succ_of_ne_zero h;rfl
theorem qB_pos (f:Sq){n:Nat}(h:n≠0):qB f n=.cells true false 27 (qK f n):=by obtain⟨j,rfl⟩:=Nat.exists_eq_succ_of_ne_zero h;rfl
theorem rqS_pos (k:Key){n:Nat}(h:n≠0):rqS k n=.c (.lsl k 0 n 3):=by obtain⟨j,rfl⟩:=Nat.exists_eq_succ_of_ne_zero h;rfl
theorem rqB_pos (f:Sq){n:Nat}(h:n≠0):rqB f n=.cells true false 55 (rqK f n):=by obtain⟨j,rfl⟩:=Nat.exists_eq_succ_of_ne_zero h;rfl
theorem bsQ (lv:Key→LB)(κ:Key)(h:lv κ=.hole)(a b c:CV):stepBuildSlice Tryz.prog 48 1 [0] lv κ [.agg [a,b,c]]=some (.c (.lsl κ 0 1 3),[(κ,.cells true false 27 [a,b,c])],[],True):=by
 unfold stepBuildSlice;rw [h];kernel_rfl
theorem bsR (lv:Key→LB)(κ:Key)(h:lv κ=.hole)(a b c:CV):stepBuildSlice Tryz.prog 49 1 [0] lv κ [.agg [a,b,c]]=some (.c (.lsl κ 0 1 3),[(κ,.cells true false 55 [a,b,c])],[],True):=by
 unfold stepBuildSlice;rw [h];kernel_rfl
theorem lvOf_n2 (a b:LB):lvOf [] [a,b]=upd (upd (fun _=>.hole) 1000 a) 1001 b:=by
 refine funext fun (k:Nat)=>?_
 unfold upd
 by_cases h1:k=1001
 ·subst h1;rfl
 ·by_cases h:k=1000
  ·subst h;rfl
  ·rw [if_neg h1,if_neg h]
   refine lvOf_far _ k fun j hj=>?_
   have:j<2:=by simpa using hj
   omega
def nmO (l:List Str):Prop:=∀ s∈l,ratE s=0
def nmF (l:List Str):Sq:=fun i=>ratP (l.getD i [])
theorem nmF_at {l:List Str}{i:Nat}(h:i<l.length):nmF l i=ratP l[i]:=by unfold nmF;rw [List.getD_eq_getElem?_getD,List.getElem?_eq_getElem h];rfl
open Classical in
theorem numbers_w (m:Int)(p:Option (List Str))(hp:(stL p).length≤1048576){R:AV}{ν:List LB}(hbad:(∃ s∈stL p,ratE s≠0)→R=.tup [.c (.d .nilsl),.c (.d .nilsl),.c (.d (.bool false))]∧ν=[])
 (hgood:nmO (stL p)→R=.tup [qS 1000 (stL p).length,rqS 1001 (stL p).length,.c (.d (.bool true))]∧ν=nB2 (nmF (stL p)) (stL p).length) :
 CallsS Tryz.prog (GG m) 16 [.c (scC (stO p))] [] (.ret R [] ν):=by
 have hlp:=fun lv=>lpSt lv p
 have hix:=fun lv {i:Nat}(hi:i<(stL p).length)=>ixSt lv p hi
 have hat:=fun {i:Nat}(hi:i<(stL p).length)=>nmF_at hi
 refine CallsS.enn Go.Proofs.Tryz.func16 rfl fun _=>AW.q ?_
 refine AW.q ?_
 refine AW.q ?_
 refine AW.seqK fun K hK=>AW.q ?_
 refine AW.block ?_
 refine AW.loopV (fun (i:Nat)=>⟨frOf [(0,.c (scC (stO p))),(5,qS 0 i),(6,rqS 1 i),(7,.c (.d (.int .i64 i)))],upd (upd (fun _=>.hole) 0 (qB (nmF (stL p)) i)) 1 (rqB (nmF (stL p)) i)⟩) 10
  (fun i=>i≤(stL p).length∧∀ s∈(stL p).take i,ratE s=0) (fun i=>(stL p).length - i) 0 (Le.mk2 _ (by rw [show qB (nmF (stL p)) 0=.hole from rfl,show rqB (nmF (stL p)) 0=.hole from rfl,upd_hl rfl,upd_hl rfl]) (by simp [qS,rqS])) ⟨Nat.zero_le _,by simp⟩ ?_
 rintro i ⟨hi,hall⟩
 try simp only at hi hall ⊢
 refine AW.seqK fun K2 hK2=>AW.f1 hlp ?_
 by_cases hlt:i<(stL p).length
 ·have hlt':(i:Int)<((stL p).length:Int):=by omega
  have hx:=fun lv=>hix lv hlt
  have f17:=w64 (n:=(i:Int)+1) (by omega) (by omega)
  have hn:=hat hlt
  have hall2:ratE (stL p)[i]=0→∀ s∈(stL p).take (i+1),ratE s=0:=fun he s hs=>by
   rw [List.take_add_one,List.getElem?_eq_getElem hlt] at hs
   rcases List.mem_append.1 hs with hs|hs
   ·exact hall s hs
   ·rw [List.mem_singleton.1 hs];exact he
  have hbad2:ratE (stL p)[i]≠0→_:=fun he=>hbad ⟨_,List.getElem_mem hlt,he⟩
  generalize (stL p)[i]=s at *
  have c1:=rat_Parse m s
  have c2:=r_Parse_ok (GG m) s
  rw [← hn] at c1 c2
  by_cases he:ratE s=0
  rotate_left
  ·obtain⟨rfl,rfl⟩:=hbad2 he
   generalize ratE s=e at *
   refine AW.fy (by simp [hlt'] <;> omega) (AW.skip (hK2 _ _ (AW.seqK fun K5 hK5=>AW.block (AW.c2 20 c1 hx @setSeg.eq_1 ?_))))
   refine AW.c2 30 c2 hx @setSeg.eq_1 ?_
   refine AW.seqK fun K6 hK6=>AW.f1 he ?_
   refine AW.fy (by simp [he] <;> omega) (AW.q ?_)
   refine AW.ret (κ:=0) ?_
   refine⟨[],9,lvOf_nil'.trans rfl,by simp,by simp,rfl,by simp,rfl,?_⟩
   show resA _ _ [.tmp 2,.tmp 3,.tmp 4]=_
   simp [resA,resL,resV,AV.noTup]
   rfl
  rw [he] at c1 c2
  have hall3:=hall2 he
  refine AW.fy (by simp [hlt'] <;> omega) (AW.skip (hK2 _ _ (AW.seqK fun K5 hK5=>AW.block (AW.c2 20 c1 hx @setSeg.eq_1 ?_))))
  refine AW.c2 30 c2 hx @setSeg.eq_1 ?_
  refine AW.seqK fun K6 hK6=>AW.q ?_
  refine AW.cn (AW.skip (hK6 _ _ ?_))
  generalize nmF (stL p)=f at *
  by_cases h0:i=0
  ·have hS:qS 0 i=.c (.d .nilsl):=by subst h0;rfl
   have hB:qB f i=.hole:=by subst h0;rfl
   have hrS:rqS 1 i=.c (.d .nilsl):=by subst h0;rfl
   have hrB:rqB f i=.hole:=by subst h0;rfl
   rw [hS,hB,hrS,hrB]
   refine AW.drawP mixed (by kernel_rfl) rfl ?_
   simp [bsQ,bsR,srcA,keyOf,setSeg,-stepBuildSlice]
   refine⟨by kernel_rfl,?_⟩
   repeat refine and_o ?_
   apply hK5
   refine AW.rP ?_
   simp [f17]
   exact⟨i+1,Le.keys [(0,33,qB f (i+1)),(1,35,rqB f (i+1))] 19 _ rfl rfl (by simp) (by simp) (by simp) (by
    intro e he
    simp only [List.mem_cons,List.not_mem_nil,or_false] at he
    rcases he with rfl|rfl
    ·exact LB.like_cells.2 ⟨rfl,rfl,((qK_ren f (i+1) _).trans (by subst h0;rfl)).symm,id⟩
    ·exact LB.like_cells.2 ⟨rfl,rfl,((rqK_ren f (i+1) _).trans (by subst h0;rfl)).symm,id⟩) (by rw [show qS 0 (i+1)=.c (.lsl 0 0 (i+1) 3) from rfl,show rqS 1 (i+1)=.c (.lsl 1 0 (i+1) 3) from rfl];simp [kmap,h0]),⟨by omega,hall3⟩,by omega⟩
  ·have hS:=qS_pos 0 h0
   have hB:=qB_pos f h0
   have hrS:=rqS_pos 1 h0
   have hrB:=rqB_pos f h0
   have hl1:=qK_len f i
   have hl2:=rqK_len f i
   rw [hS,hB,hrS,hrB]
   refine AW.drawP mixed (by kernel_rfl) rfl ?_
   simp [bsQ,bsR,srcA,keyOf,setSeg,hl1,hl2,-stepBuildSlice]
   repeat refine and_o ?_
   refine⟨by kernel_rfl,?_⟩
   repeat refine and_o ?_
   apply hK5
   refine AW.rP ?_
   simp [f17]
   exact⟨i+1,Le.keys [(0,33,qB f (i+1)),(1,35,rqB f (i+1))] 19 _ rfl rfl (by simp) (by simp) (by simp) (by
    intro e he
    simp only [List.mem_cons,List.not_mem_nil,or_false] at he
    rcases he with rfl|rfl
    ·exact LB.like_cells.2 ⟨rfl,rfl,((qK_ren f (i+1) _).trans (rfl)).symm,id⟩
    ·exact LB.like_cells.2 ⟨rfl,rfl,((rqK_ren f (i+1) _).trans (rfl)).symm,id⟩) (by rw [show qS 0 (i+1)=.c (.lsl 0 0 (i+1) 3) from rfl,show rqS 1 (i+1)=.c (.lsl 1 0 (i+1) 3) from rfl];simp [kmap,h0]),⟨by omega,hall3⟩,by omega⟩
 ·have hie:i=(stL p).length:=by omega
  subst hie
  rw [List.take_length] at hall
  obtain⟨rfl,rfl⟩:=hgood hall
  clear hix hat hi hall hgood hbad
  generalize nmF (stL p)=f at *
  refine AW.fn (by simp [hlt] <;> omega) (AW.exit ?_)
  simp
  repeat refine and_o ?_
  apply hK
  refine AW.seqK fun K hK=>AW.rP ?_
  simp
  repeat refine and_o ?_
  apply hK
  generalize (stL p).length=n at *
  refine AW.ret (κ:=0) ?_
  cases n with
  | zero=>
   refine⟨[],9,lvOf_nil'.trans rfl,by simp,by simp,rfl,by simp,rfl,?_⟩
   show resA _ _ [.tmp 2,.tmp 3,.tmp 4]=_
   simp [resA,resL,resV,qS,rqS,AV.noTup]
   rfl
  | succ n=>
   refine⟨[(1000,0,.cells true false 27 (qK f (n+1))),(1001,1,.cells true false 55 (rqK f (n+1)))],9,(lvOf_n2 _ _).trans rfl,by simp,by simp,rfl,?_,rfl,?_⟩
   ·intro e he
    simp only [List.mem_cons,List.not_mem_nil,or_false] at he
    rcases he with rfl|rfl
    ·exact LB.like_cells.2 ⟨rfl,rfl,(qK_ren f (n+1) _).symm,id⟩
    ·exact LB.like_cells.2 ⟨rfl,rfl,(rqK_ren f (n+1) _).symm,id⟩
   ·show resA _ _ [.tmp 2,.tmp 3,.tmp 4]=_
    simp [resA,resL,resV,qS,rqS,AV.noTup,kmap]
    rfl
end Go.Am
namespace Go.Proofs.YtanjfmmjpnjkbaaGreatDoor
open Go.Am Go.RowKit Go.ChangeShapes Go.WideShapes
theorem inSpan {l:List DV}{n:Nat}(h:inT Tryz.prog (n+2) 37 l):∃ s:Sp,l=spD s:=by
 obtain⟨ls,hl,rfl,h3⟩:=inT_struct Tryz.underlying37 h
 match ls,hl,h3 with
 | [a,b],_,h3=>
  obtain⟨s,rfl⟩:=inT_str Tryz.underlying35 (h3 0 (by decide) (by simp))
  obtain⟨t,rfl⟩:=inT_str Tryz.underlying35 (h3 1 (by decide) (by simp))
  exact⟨(s,t),rfl⟩
theorem spans:∀ (l:List (List DV)),(∀ x∈l,inT Tryz.prog 7 37 x)→∃ b:List Sp,l=b.map spD
 | [],_=>⟨[],rfl⟩
 | x::r,h=>by
  obtain⟨s,rfl⟩:=inSpan (n:=5) (h x (by simp))
  obtain⟨b,rfl⟩:=spans r (fun y hy=>h y (by simp [hy]))
  exact⟨s::b,rfl⟩
theorem okWide_cells {P:Program}{w:World}{r:Reach}{base:Nat}{t e:TypeId}{v:Value}(ht:P.underlying t=some (.slice e)) (h:Value.okWide P w r base t v):v.cells.toList=[v]∧Cell.okWide P w r base t v:=by
 unfold Value.okWide at h;rw [ht] at h
 refine⟨?_,h⟩
 have h':=h
 unfold Cell.okWide at h';rw [ht] at h'
 unfold Cell.ok at h'
 rw [ht] at h'
 cases v <;> first|rfl|(exfalso;exact h')
theorem bulk_len {H:Type}(l:List (DataW H)):l.length≤Rows.uptoBulkAll l:=by
 induction l with
 | nil=>simp [Rows.uptoBulkAll]
 | cons x r ih=>
  have:1≤Rows.uptoBulk x:=by
   cases x with
   | lit l=>cases l <;> simp [Rows.uptoBulk]
   | _=>simp [Rows.uptoBulk]
  simp only [Rows.uptoBulkAll,List.length_cons];omega
theorem box_arg {H:Type}{enc:TypeId × Value→H}{W:World}{base:Nat}{v:Value}{d:DataW H}{p:List MemPlace}(hok:Value.okWide Tryz.prog W .any base 23 v) (h:DataW.Trod enc Tryz.prog W 0 (fun _=>true) true 23 v d p) :
 ∃ b:Option (List Sp),(Vw.mk (fun b=>b<W.heap.size) (fun _=>0) (lvOf [] []) W).av v (.c (scC (bxO b)))∧(bxL b).length≤Rows.uptoBulk d:=by
 obtain⟨hc,hok⟩:=okWide_cells Tryz.underlying23 hok
 obtain⟨fuel,h⟩:=h
 rw [hc] at h
 obtain⟨l,h1,h2,_⟩:=trod_rd kids 8 true 23 fuel [v] _ (by show 23<_;rw [tsize];decide) (by kernel_rfl) (fun _ i a len cap hi=>by
  match i,hi with
  | 0,hi=>obtain rfl:=Option.some.inj hi;exact okWide_spot hok) h
 unfold inT at h1
 rw [Tryz.underlying23] at h1
 rcases h1 with rfl|⟨es,rfl,h1⟩
 ·exact⟨none,h2.2 0 (by simp) (by simp),Nat.zero_le _⟩
 ·obtain⟨b,rfl⟩:=spans es h1
  have hr:=h2.2 0 (by simp) (by simp)
  refine⟨some b,hr,?_⟩
  rcases DataW.trod_slice Tryz.underlying23 h with ⟨e,_⟩|⟨a,len,cap,elems,rest,m,_,e,hx,_,_,_,hl,_⟩
  ·obtain rfl:v=.slice none 0 0:=by simpa using e
   have:=hr.1
   cases this
  ·obtain rfl:v=.slice (some a) len cap:=by simpa using e
   have h3:len=(b.map spD).length:=by
    have:=hr.1
    simp only [List.getElem_cons_zero] at this
    exact Rd.sl_len this
   obtain⟨rfl,_⟩:=Prod.mk.inj hx
   have h4:=bulk_len (elems.map (·.1))
   simp only [Rows.uptoBulk]
   rw [List.length_map] at h3 h4
   show b.length≤_
   omega
theorem inInts {l:List DV}{n:Nat}(h:inT Tryz.prog (n+2) 59 l):∃ o:Option (List Int),l=[pwD o]:=by
 unfold inT at h
 rw [Tryz.underlying59] at h
 rcases h with rfl|⟨es,rfl,h⟩
 ·exact⟨none,rfl⟩
 ·have key:∀ es:List (List DV),(∀ x∈es,inT Tryz.prog (n+1) 3 x)→∃ l:List Int,es=l.map fun k=>[.int .i64 k]:=by
   intro es
   induction es with
   | nil=>intro _;exact⟨[],rfl⟩
   | cons x r ih=>
    intro h
    obtain⟨i,rfl⟩:=inT_int (k:=.i64) Tryz.underlying3 (h x (by simp))
    obtain⟨l,rfl⟩:=ih fun y hy=>h y (by simp [hy])
    exact⟨i::l,rfl⟩
  obtain⟨l,rfl⟩:=key es h
  exact⟨some l,rfl⟩
theorem inTerm {l:List DV}{n:Nat}(h:inT Tryz.prog (n+3) 98 l):∃ t:Tm,l=tmD t:=by
 obtain⟨ls,hl,rfl,h3⟩:=inT_struct Tryz.underlying98 h
 match ls,hl,h3 with
 | [a,b],_,h3=>
  obtain⟨s,rfl⟩:=inT_str Tryz.underlying35 (h3 0 (by decide) (by simp))
  obtain⟨o,rfl⟩:=inInts (n:=n) (h3 1 (by decide) (by simp))
  exact⟨(s,o),rfl⟩
theorem inTerms:∀ (l:List (List DV)),(∀ x∈l,inT Tryz.prog 7 98 x)→∃ b:List Tm,l=b.map tmD
 | [],_=>⟨[],rfl⟩
 | x::r,h=>by
  obtain⟨s,rfl⟩:=inTerm (n:=4) (h x (by simp))
  obtain⟨b,rfl⟩:=inTerms r (fun y hy=>h y (by simp [hy]))
  exact⟨s::b,rfl⟩
theorem terms_len {V:Vw}{v:Value}{bt:Option (List Tm)}(h:V.av v (.c (scC (tmO bt)))):(tmL bt).length≤9223372036854775807∧∀ t∈tmL bt,(pwL t.2).length≤9223372036854775807:=by
 cases bt with
 | none=>exact⟨by simp [tmL],fun t ht=>by cases ht⟩
 | some l=>
  obtain⟨h,_⟩:=h
  generalize hd:DV.sl (l.map tmD)=d at h
  cases h with
  | sl b off cap sz es vs hl hc hb hm ho hr=>
   obtain rfl:=DV.sl.inj hd
   refine⟨by show l.length≤_;simpa using hb,fun t ht=>?_⟩
   obtain⟨i,hi,rfl⟩:=List.getElem_of_mem ht
   have hi':i<l.length:=hi
   have h1:=hr i (by simpa using hi') 1 (by simp [tmD])
   have e:(l.map tmD)[i]'(by simpa using hi')=tmD l[i]:=by simp
   have h2:Rd V.mem (vs i 1) (pwD (l[i]).2):=by
    have e2:((l.map tmD)[i]'(by simpa using hi'))[1]'(by simp [tmD])=pwD (l[i]).2:=by simp [tmD]
    rw [e2] at h1;exact h1
   show (pwL (l[i]).2).length≤_
   cases hp:(l[i]).2 with
   | none=>simp [pwL]
   | some q=>
    rw [hp] at h2
    generalize hd2:pwD (some q)=d at h2
    generalize vs i 1=w at h2
    cases h2 with
    | sl b off cap sz es vs hl hc hb hm ho hr=>
     have e3:=DV.sl.inj hd2
     rw [← e3] at hb
     simpa [pwL] using hb
    | sl0 a=>
     have e3:=DV.sl.inj hd2
     have e3:q=[]:=by simpa using e3
     subst e3;simp [pwL]
    | _=>cases hd2
  | sl0 a=>
   have e:=DV.sl.inj hd
   have e:l=[]:=by simpa using e
   subst e
   exact⟨by simp [tmL],fun t ht=>by cases ht⟩
  | _=>cases hd
theorem terms_arg {H:Type}{enc:TypeId × Value→H}{W:World}{base:Nat}{v:Value}{d:DataW H}{p:List MemPlace}(hok:Value.okWide Tryz.prog W .any base 22 v) (h:DataW.Trod enc Tryz.prog W 0 (fun _=>true) true 22 v d p) :
 ∃ b:Option (List Tm),(Vw.mk (fun b=>b<W.heap.size) (fun _=>0) (lvOf [] []) W).av v (.c (scC (tmO b))):=by
 obtain⟨hc,hok⟩:=okWide_cells Tryz.underlying22 hok
 obtain⟨fuel,h⟩:=h
 rw [hc] at h
 obtain⟨l,h1,h2⟩:=trod_rd2 kids (fun _=>rfl) 8 22 fuel [v] _ (by show 22<_;rw [tsize];decide) (by kernel_rfl) h
 unfold inT at h1
 rw [Tryz.underlying22] at h1
 rcases h1 with rfl|⟨es,rfl,h1⟩
 ·exact⟨none,h2.2 0 (by simp) (by simp)⟩
 ·obtain⟨b,rfl⟩:=inTerms es h1
  exact⟨some b,h2.2 0 (by simp) (by simp)⟩
theorem strss:∀ (l:List (List DV)),(∀ x∈l,inT Tryz.prog 7 9 x)→∃ b:List Str,l=b.map fun s=>[.str s]
 | [],_=>⟨[],rfl⟩
 | x::r,h=>by
  obtain⟨s,rfl⟩:=inT_str Tryz.underlying9 (h x (by simp))
  obtain⟨b,rfl⟩:=strss r (fun y hy=>h y (by simp [hy]))
  exact⟨s::b,rfl⟩
theorem strs_arg {H:Type}{enc:TypeId × Value→H}{W:World}{base:Nat}{v:Value}{d:DataW H}{p:List MemPlace}(hok:Value.okWide Tryz.prog W .any base 47 v) (h:DataW.Trod enc Tryz.prog W 0 (fun _=>true) true 47 v d p) :
 ∃ b:Option (List Str),(Vw.mk (fun b=>b<W.heap.size) (fun _=>0) (lvOf [] []) W).av v (.c (scC (stO b)))∧(stL b).length≤Rows.uptoBulk d:=by
 obtain⟨hc,hok⟩:=okWide_cells Tryz.underlying47 hok
 obtain⟨fuel,h⟩:=h
 rw [hc] at h
 obtain⟨l,h1,h2,_⟩:=trod_rd kids 8 true 47 fuel [v] _ (by show 47<_;rw [tsize];decide) (by kernel_rfl) (fun _ i a len cap hi=>by
  match i,hi with
  | 0,hi=>obtain rfl:=Option.some.inj hi;exact okWide_spot hok) h
 unfold inT at h1
 rw [Tryz.underlying47] at h1
 rcases h1 with rfl|⟨es,rfl,h1⟩
 ·exact⟨none,h2.2 0 (by simp) (by simp),Nat.zero_le _⟩
 ·obtain⟨b,rfl⟩:=strss es h1
  have hr:=h2.2 0 (by simp) (by simp)
  refine⟨some b,hr,?_⟩
  rcases DataW.trod_slice Tryz.underlying47 h with ⟨e,_⟩|⟨a,len,cap,elems,rest,m,_,e,hx,_,_,_,hl,_⟩
  ·obtain rfl:v=.slice none 0 0:=by simpa using e
   have:=hr.1
   cases this
  ·obtain rfl:v=.slice (some a) len cap:=by simpa using e
   have h3:len=(b.map (fun s:Str=>[DV.str s])).length:=by
    have:=hr.1
    simp only [List.getElem_cons_zero] at this
    exact Rd.sl_len this
   obtain⟨rfl,_⟩:=Prod.mk.inj hx
   have h4:=bulk_len (elems.map (·.1))
   simp only [Rows.uptoBulk]
   rw [List.length_map] at h3 h4
   show b.length≤_
   omega
end Go.Proofs.YtanjfmmjpnjkbaaGreatDoor
namespace Go.Am
open Go.Am.Ty Go.Proofs N
theorem atP_prd:∀ (l:List (Nat × Rat)) (ks:List Nat) (c:Rat),l.length=ks.length→atP c (l.map (·.2)) ks=c*prd l ks
 | [],[],c,_=>(Rat.mul_one c).symm
 | p::l,k::ks,c,h=>by
  have ih:=atP_prd l ks (c*p.2 ^ k) (by simpa using h)
  simp only [List.map_cons,atP,prd]
  rw [ih,Rat.mul_assoc]
 | [],_::_,_,h=>by simp at h
 | _::_,[],_,h=>by simp at h
theorem fit_len {l:List (Nat × Rat)}{ks:List Nat}(h:fit l ks):l.length=ks.length:=by
 have:=fitN_len ((fit_N l ks).1 h)
 simpa using this
theorem atV_evl (l:List (Nat × Rat))(ts:List Trm)(h:∀ t∈ts,fit l t.2):atV (l.map (·.2)) ts=evl (l.map dP) (trm (fun _=>0) ts (plc l)):=by
 have hlin:∀ d∈l.map dP,Lin d.2:=fun d hd=>by
  obtain⟨q,_,rfl⟩:=List.mem_map.1 hd
  exact polP_Lin _ _
 rw [evl_trm l ts h,(evl_Lin hlin).zero]
 unfold atV
 generalize (0:Rat)=s
 induction ts generalizing s with
 | nil=>rfl
 | cons t ts ih=>
  simp only [List.foldl_cons]
  rw [atP_prd l t.2 t.1 (fit_len (h t (List.mem_cons_self ..)))]
  exact ih (fun u hu=>h u (List.mem_cons_of_mem _ hu)) _
section
variable {ts:List Trm}{is:List Iv}
theorem atV_cf (f:Ax→Rat→Rat)(g:Nat→Rat)(hts:∀ t∈ts,t.2.length=is.length)(xs:List Rat)(hxs:xs=(List.range is.length).map g) :
 atV xs ts=evl (((List.range is.length).map fun j=>(dgX ts j,g j)).map dP) (cfP ts is.length):=by
 have e1:((List.range is.length).map fun j=>(dgX ts j,g j)).map (·.1)=dgL ts is.length:=by simp [dgL,Function.comp_def]
 have e2:((List.range is.length).map fun j=>(dgX ts j,g j)).map (·.2)=xs:=by rw [hxs];simp [Function.comp_def]
 rw [← e2,atV_evl _ ts (fun t ht=>(fit_N _ _).2 (by rw [e1];exact dgL_fit ht (hts t ht)))]
 congr 1
 unfold cfP
 congr 1
 funext ks
 rw [plc_N,e1]
theorem axL_map (h:Ax→Dim):(axL ts is).map h=(List.range is.length).map fun j=>h ⟨dgX ts j,(is.getD j (0,0)).1,(is.getD j (0,0)).2 - (is.getD j (0,0)).1⟩:=by
 unfold axL;rw [List.map_map];rfl
theorem at_low (hts:∀ t∈ts,t.2.length=is.length):atV ((List.range is.length).map fun j=>(is.getD j (0,0)).1) ts=cfB ts is 0:=by
 rw [atV_cf (fun _ x=>x) (fun j=>(is.getD j (0,0)).1) hts _ rfl]
 unfold cfB
 rw [val_low,axL_map,List.map_map];rfl
theorem sizA_M:sizA (axL ts is)=cfM ts is.length:=by rw [sizA_N,axL_n];rfl
theorem at_high (hts:∀ t∈ts,t.2.length=is.length):atV ((List.range is.length).map fun j=>(is.getD j (0,0)).2) ts=cfB ts is (cfM ts is.length - 1):=by
 rw [atV_cf (fun _ x=>x) (fun j=>(is.getD j (0,0)).2) hts _ rfl]
 unfold cfB
 rw [← sizA_M,val_high,axL_map,List.map_map]
 congr 1
 refine List.map_congr_left fun j _=>?_
 show dP (dgX ts j,(is.getD j (0,0)).2)=dP (dgX ts j,(is.getD j (0,0)).1+((is.getD j (0,0)).2 - (is.getD j (0,0)).1))
 congr 2
 grind
def tj (a:Iv)(x:Rat):Rat:=if a.2 - a.1=0 then 0 else (x - a.1) / (a.2 - a.1)
theorem tj_ok {a:Iv}{x:Rat}(h1:a.1≤x) (h2:x≤a.2):(0≤tj a x∧tj a x≤1)∧a.1+tj a x*(a.2 - a.1)=x:=by
 unfold tj
 by_cases h:a.2 - a.1=0
 ·rw [if_pos h]
  refine⟨⟨by decide,by decide⟩,?_⟩
  have:a.1=a.2:=by grind
  have:x=a.1:=Rat.le_antisymm (by rw [this];exact h2) h1
  grind
 ·rw [if_neg h]
  have hpos:0<a.2 - a.1:=by grind
  have e:(x - a.1) / (a.2 - a.1)*(a.2 - a.1)=x - a.1:=Rat.div_mul_cancel h
  refine⟨⟨?_,?_⟩,by grind⟩
  ·rw [Rat.div_def]
   exact Rat.mul_nonneg (by grind) (Rat.le_of_lt (Rat.inv_pos.2 hpos))
  ·refine Rat.not_lt.1 fun hlt=>?_
   have:=Rat.mul_lt_mul_of_pos_right hlt hpos
   grind
theorem at_mid (hts:∀ t∈ts,t.2.length=is.length)(g:Nat→Rat)(hg:∀ j,j<is.length→(is.getD j (0,0)).1≤g j∧g j≤(is.getD j (0,0)).2){lo hi:Rat}(hc:∀ i,i<cfM ts is.length→lo≤cfB ts is i∧cfB ts is i≤hi) :
 lo≤atV ((List.range is.length).map g) ts∧atV ((List.range is.length).map g) ts≤hi:=by
 rw [atV_cf (fun _ x=>x) g hts _ rfl]
 let L:List (Ax × Rat):=(List.range is.length).map fun j=>(⟨dgX ts j,(is.getD j (0,0)).1,(is.getD j (0,0)).2 - (is.getD j (0,0)).1⟩,tj (is.getD j (0,0)) (g j))
 have e1:L.map (·.1)=axL ts is:=by show List.map _ (List.map _ _)=_;unfold axL;rw [List.map_map];rfl
 have e2:L.map axP=((List.range is.length).map fun j=>(dgX ts j,g j)).map dP:=by
  show List.map _ (List.map _ _)=_
  rw [List.map_map,List.map_map]
  refine List.map_congr_left fun j hj=>?_
  show dP (dgX ts j,(is.getD j (0,0)).1+tj (is.getD j (0,0)) (g j)*((is.getD j (0,0)).2 - (is.getD j (0,0)).1))=dP (dgX ts j,g j)
  have:=hg j (List.mem_range.1 hj)
  rw [(tj_ok this.1 this.2).2]
 have h:=val_in (l:=L) (fun q hq=>by
  obtain⟨j,hj,rfl⟩:=List.mem_map.1 hq
  have:=hg j (List.mem_range.1 hj)
  exact (tj_ok this.1 this.2).1) (c:=cfP ts is.length) (lo:=lo) (hi:=hi) (fun i hi=>by
  rw [e1] at hi ⊢
  rw [sizA_M] at hi
  exact hc i hi)
 rw [e2] at h
 exact h
end
theorem minL_le:∀ (l:List Rat) (m:Rat),minL l m≤m∧∀ x∈l,minL l m≤x
 | [],m=>⟨Rat.le_refl,fun x h=>by cases h⟩
 | y::l,m=>by
  obtain⟨h1,h2⟩:=minL_le l (minR y m)
  have a1:minR y m≤m:=by unfold minR;split <;> grind
  have a2:minR y m≤y:=by unfold minR;split <;> grind
  refine⟨Rat.le_trans h1 a1,fun x hx=>?_⟩
  rcases List.mem_cons.1 hx with rfl|hx
  ·exact Rat.le_trans h1 a2
  ·exact h2 x hx
theorem maxL_ge:∀ (l:List Rat) (m:Rat),m≤maxL l m∧∀ x∈l,x≤maxL l m
 | [],m=>⟨Rat.le_refl,fun x h=>by cases h⟩
 | y::l,m=>by
  obtain⟨h1,h2⟩:=maxL_ge l (maxR m y)
  have a1:m≤maxR m y:=by unfold maxR;split <;> grind
  have a2:y≤maxR m y:=by unfold maxR;split <;> grind
  refine⟨Rat.le_trans a1 h1,fun x hx=>?_⟩
  rcases List.mem_cons.1 hx with rfl|hx
  ·exact Rat.le_trans a2 h1
  ·exact h2 x hx
theorem bnR_all {l:List Tm}{b:List Sp}(h:cfE l b=0) {i:Nat}(hi:i<cfM (l.map tmT) (bxI b).length):(bnR l b).1≤cfB (l.map tmT) (bxI b) i∧cfB (l.map tmT) (bxI b) i≤(bnR l b).2:=by
 have e:bnR l b=(minL ((cfL (l.map tmT) (bxI b)).drop 1) (cfB (l.map tmT) (bxI b) 0),maxL ((cfL (l.map tmT) (bxI b)).drop 1) (cfB (l.map tmT) (bxI b) 0)):=if_pos h
 rw [e]
 by_cases h0:i=0
 ·subst h0
  exact⟨(minL_le _ _).1,(maxL_ge _ _).1⟩
 ·have hm:cfB (l.map tmT) (bxI b) i∈(cfL (l.map tmT) (bxI b)).drop 1:=by
   have hl:i<(cfL (l.map tmT) (bxI b)).length:=by rw [cfL_len];exact hi
   have hl2:i - 1<((cfL (l.map tmT) (bxI b)).drop 1).length:=by rw [List.length_drop];omega
   have:=List.getElem_mem hl2
   rw [List.getElem_drop] at this
   have e2:(cfL (l.map tmT) (bxI b))[1+(i - 1)]'(by omega)=cfB (l.map tmT) (bxI b) i:=by rw [cfL_get];congr 1;omega
   rw [e2] at this
   exact this
  exact⟨(minL_le _ _).2 _ hm,(maxL_ge _ _).2 _ hm⟩
end Go.Am
namespace Go.Am
open Go.Proofs
theorem SpecOK.more {P:Program}{G:List (List DV)}{sp:Tb Spec}{ft:TypeId}(h:SpecOK P G sp ft) (f0:Nat) (g0:List AV→Option AV) (hg:∀ us x,g0 us=some x→∀ lv,AllOk lv→CallG P G f0 us lv (.ret x lv)):SpecOK P G (setS f0 (.pure g0) sp) ft where
 pure:=by
  intro f g us x hf hx lv ho
  rw [setS_get] at hf
  split at hf
  ·rename_i e;subst e;cases hf;exact hg us x hx lv ho
  ·exact h.pure f g us x hf hx lv ho
 caughtR:=by
  intro f hf
  rw [setS_get] at hf
  split at hf
  ·cases hf
  ·exact h.caughtR f hf
 caughtP:=by
  intro f hf
  rw [setS_get] at hf
  split at hf
  ·cases hf
  ·exact h.caughtP f hf
 selfN:=by
  intro f T hf
  rw [setS_get] at hf
  split at hf
  ·cases hf
  ·exact h.selfN f T hf
 live:=by
  intro f g us lv x hf
  rw [setS_get] at hf
  split at hf
  ·cases hf
  ·exact h.live f g us lv x hf
 selfP:=by
  intro f T hf
  rw [setS_get] at hf
  split at hf
  ·cases hf
  ·exact h.selfP f T hf
end Go.Am
namespace Go.Am
open Go.Proofs N
def unD:List (List DV)→Option (List Nat)
 | []=>some []
 | e::l=>match e with
  | [.int .u32 (.ofNat n)]=>(unD l).map (n::·)
  | _=>none
theorem unD_ok:∀ {es:List (List DV)}{l:List Nat},unD es=some l→es=dK .u32 l
 | [],l,h=>by cases h;rfl
 | e::es,l,h=>by
  unfold unD at h
  split at h
  ·obtain⟨m,hm,rfl⟩:=Option.map_eq_some_iff.1 h
   rw [unD_ok hm];rfl
  ·cases h
def unK:AV→Option (Option (List Nat))
 | .c (.d .nilsl)=>some none
 | .c (.d (.sl es))=>(unD es).map some
 | _=>none
theorem unK_ok {x:AV}{o:Option (List Nat)}(h:unK x=some o):x=nK .u32 o:=by
 unfold unK at h
 split at h
 ·cases h;rfl
 ·obtain⟨m,hm,rfl⟩:=Option.map_eq_some_iff.1 h
  rw [unD_ok hm];rfl
 ·cases h
def canB:List Nat→Bool
 | []=>true
 | d::l=>Nat.blt d 4294967296 && (match l with|[]=>Nat.blt 0 d|_=>true) && canB l
theorem canB_ok:∀ {l:List Nat},canB l=true→can 4294967296 l
 | [],_=>⟨fun d h=>by (cases h),fun x h=>by (cases h)⟩
 | d::l,h=>by
  simp only [canB,Bool.and_eq_true] at h
  obtain⟨⟨h1,h2⟩,h3⟩:=h
  obtain⟨g1,g2⟩:=canB_ok h3
  refine⟨ok_cons.2 ⟨Nat.le_of_ble_eq_true h1,g1⟩,fun x hx=>?_⟩
  cases l with
  | nil=>
   have:d=x:=by simpa using hx
   have h2':0<d:=Nat.le_of_ble_eq_true h2
   omega
  | cons e l=>exact g2 x (by simpa using hx)
def nOK (o:Option (List Nat)):Bool:=canB (dO o) && Nat.ble (dO o).length 1000000
theorem nOK_ok {o:Option (List Nat)}(h:nOK o=true):can 4294967296 (dO o)∧(dO o).length≤1000000:=by
 simp only [nOK,Bool.and_eq_true] at h
 exact⟨canB_ok h.1,Nat.le_of_ble_eq_true h.2⟩
def numA (x:AV):Option (Option (List Nat)):=(unK x).bind fun o=>bif nOK o then some o else none
theorem numA_ok {x:AV}{o:Option (List Nat)}(h:numA x=some o):x=nK .u32 o∧can 4294967296 (dO o)∧(dO o).length≤1000000:=by
 obtain⟨o',h1,h2⟩:=Option.bind_eq_some_iff.1 h
 cases hb:nOK o' with
 | false=>rw [hb] at h2;cases h2
 | true=>
  rw [hb] at h2
  simp only [cond_true,Option.some.injEq] at h2
  subst h2
  exact⟨unK_ok h1,nOK_ok hb⟩
def sp2 (f:Option (List Nat)→Option (List Nat)→Option AV):List AV→Option AV
 | [x,y]=>(numA x).bind fun a=>(numA y).bind fun b=>f a b
 | _=>none
def sp1 (f:Option (List Nat)→Option AV):List AV→Option AV
 | [x]=>(numA x).bind fun a=>f a
 | _=>none
theorem sp2_ok {m:Int}{g:FuncId}{f:Option (List Nat)→Option (List Nat)→Option AV}(hf:∀ a b x,can 4294967296 (dO a)→can 4294967296 (dO b)→(dO a).length≤1000000→(dO b).length≤1000000→f a b=some x→CallsP Tryz.prog (GG m) g [nK .u32 a,nK .u32 b] x∧x.pure=true)
 {us:List AV}{x:AV}(h:sp2 f us=some x) (lv:Key→LB):CallG Tryz.prog (GG m) g us lv (.ret x lv):=by
 unfold sp2 at h
 split at h
 ·obtain⟨a,ha,g1⟩:=Option.bind_eq_some_iff.1 h
  obtain⟨b,hb,g2⟩:=Option.bind_eq_some_iff.1 g1
  obtain⟨rfl,a1,a2⟩:=numA_ok ha
  obtain⟨rfl,b1,b2⟩:=numA_ok hb
  obtain⟨h1,h2⟩:=hf a b x a1 b1 a2 b2 g2
  exact CallG.of_CallsP (fun u hu=>by simp only [List.mem_cons,List.not_mem_nil,or_false] at hu;rcases hu with rfl|rfl <;> exact nK_pure _ _) h2 h1
 ·cases h
theorem sp1_ok {m:Int}{g:FuncId}{f:Option (List Nat)→Option AV}(hf:∀ a x,can 4294967296 (dO a)→(dO a).length≤1000000→f a=some x→CallsP Tryz.prog (GG m) g [nK .u32 a] x∧x.pure=true)
 {us:List AV}{x:AV}(h:sp1 f us=some x) (lv:Key→LB):CallG Tryz.prog (GG m) g us lv (.ret x lv):=by
 unfold sp1 at h
 split at h
 ·obtain⟨a,ha,g1⟩:=Option.bind_eq_some_iff.1 h
  obtain⟨rfl,a1,a2⟩:=numA_ok ha
  obtain⟨h1,h2⟩:=hf a x a1 a2 g1
  exact CallG.of_CallsP (fun u hu=>by simp only [List.mem_cons,List.not_mem_nil,or_false] at hu;rcases hu with rfl;exact nK_pure _ _) h2 h1
 ·cases h
def gMul:=sp2 fun a b=>some (nK .u32 (some (dig 4294967296 (val 4294967296 (dO a)*val 4294967296 (dO b)))))
def gAdd:=sp2 fun a b=>some (nK .u32 (some (dig 4294967296 (val 4294967296 (dO a)+val 4294967296 (dO b)))))
def gSub:=sp2 fun a b=>bif Nat.ble (val 4294967296 (dO b)) (val 4294967296 (dO a)) then some (nK .u32 (some (dig 4294967296 (val 4294967296 (dO a) - val 4294967296 (dO b))))) else none
def gCmp:=sp2 fun a b=>some (.c (.d (.int .i64 (cmpN (val 4294967296 (dO a)) (val 4294967296 (dO b))))))
def gIs1:=sp1 fun a=>some (.c (.d (.bool (Nat.beq (val 4294967296 (dO a)) 1))))
theorem gMul_ok (m:Int){us:List AV}{x:AV}(h:gMul us=some x) (lv:Key→LB):CallG Tryz.prog (GG m) 36 us lv (.ret x lv):=
 sp2_ok (fun a b x _ _ h1 h2 h=>by cases h;exact⟨exact_mul_ok _ a b (by omega) (by omega),nK_pure _ _⟩) h lv
theorem gAdd_ok (m:Int){us:List AV}{x:AV}(h:gAdd us=some x) (lv:Key→LB):CallG Tryz.prog (GG m) 39 us lv (.ret x lv):=
 sp2_ok (fun a b x _ _ h1 h2 h=>by cases h;exact⟨exact_add_ok _ a b (by omega) (by omega),nK_pure _ _⟩) h lv
theorem gSub_ok (m:Int){us:List AV}{x:AV}(h:gSub us=some x) (lv:Key→LB):CallG Tryz.prog (GG m) 41 us lv (.ret x lv):=
 sp2_ok (fun a b x _ _ h1 h2 h=>by
  cases hb:Nat.ble (val 4294967296 (dO b)) (val 4294967296 (dO a)) with
  | false=>rw [hb] at h;cases h
  | true=>
   rw [hb] at h;cases h
   exact⟨exact_sub_ok _ a b (by omega) (Nat.le_of_ble_eq_true hb),nK_pure _ _⟩) h lv
theorem gCmp_ok (m:Int){us:List AV}{x:AV}(h:gCmp us=some x) (lv:Key→LB):CallG Tryz.prog (GG m) 40 us lv (.ret x lv):=
 sp2_ok (fun a b x h3 h4 h1 h2 h=>by cases h;exact⟨exact_cmp_ok h3 h4,rfl⟩) h lv
theorem gIs1_ok (m:Int){us:List AV}{x:AV}(h:gIs1 us=some x) (lv:Key→LB):CallG Tryz.prog (GG m) 79 us lv (.ret x lv):=
 sp1_ok (fun a x h3 h1 h=>by
  cases h
  have:=exact_is1_ok (GG m) a h3
  rw [show decide (val 4294967296 (dO a)=1)=Nat.beq (val 4294967296 (dO a)) 1 by cases e:Nat.beq (val 4294967296 (dO a)) 1 with|true=>simp [Nat.eq_of_beq_eq_true e]|false=>simp [Nat.ne_of_beq_eq_false e]] at this
  exact⟨this,rfl⟩) h lv
def gMade:List AV→Option AV
 | [.c (.d (.bool neg)),x,y]=>(numA x).bind fun p=>(numA y).bind fun q=>bif Nat.blt 0 (val 4294967296 (dO q)) then some (ratV (mkRat (sgI neg (val 4294967296 (dO p))) (val 4294967296 (dO q)))) else none
 | _=>none
theorem gMade_ok (m:Int){us:List AV}{x:AV}(h:gMade us=some x) (lv:Key→LB):CallG Tryz.prog (GG m) 38 us lv (.ret x lv):=by
 unfold gMade at h
 split at h
 ·rename_i neg x' y'
  obtain⟨p,hp,g1⟩:=Option.bind_eq_some_iff.1 h
  obtain⟨q,hq,g2⟩:=Option.bind_eq_some_iff.1 g1
  clear h g1
  obtain⟨rfl,a1,a2⟩:=numA_ok hp
  obtain⟨rfl,b1,b2⟩:=numA_ok hq
  cases hb:Nat.blt 0 (val 4294967296 (dO q)) with
  | false=>rw [hb] at g2;cases g2
  | true=>
   rw [hb] at g2;cases g2
   have hv:0<val 4294967296 (dO q):=Nat.le_of_ble_eq_true hb
   have hq0:dO q≠[]:=fun e=>by rw [e] at hv;exact absurd hv (by decide)
   have:=rat_made (GG m) neg p q a1 b1 hq0 (by omega) (by omega)
   rw [nK_nC,nK_nC]
   exact CallG.of_CallsP (fun u hu=>by
    simp only [List.mem_cons,List.not_mem_nil,or_false] at hu
    rcases hu with rfl|rfl|rfl <;> simp) (by simp) this
 ·cases h
def gShl:List AV→Option AV
 | [x,.c (.d (.int .i64 (.ofNat k)))]=>(numA x).bind fun a=>bif Nat.ble k 1000000 then some (if dO a=[] then nK .u32 none else nK .u32 (some (dig 4294967296 (val 4294967296 (dO a)*2 ^ k)))) else none
 | _=>none
theorem gShl_ok (m:Int){us:List AV}{x:AV}(h:gShl us=some x) (lv:Key→LB):CallG Tryz.prog (GG m) 83 us lv (.ret x lv):=by
 unfold gShl at h
 split at h
 ·rename_i x' k
  obtain⟨a,ha,g1⟩:=Option.bind_eq_some_iff.1 h
  clear h
  obtain⟨rfl,a1,a2⟩:=numA_ok ha
  cases hb:Nat.ble k 1000000 with
  | false=>rw [hb] at g1;cases g1
  | true=>
   rw [hb] at g1;cases g1
   have hk:=Nat.le_of_ble_eq_true hb
   exact CallG.of_CallsP (fun u hu=>by
    simp only [List.mem_cons,List.not_mem_nil,or_false] at hu
    rcases hu with rfl|rfl
    ·exact nK_pure _ _
    ·rfl) (by split <;> exact nK_pure _ _) (exact_shl_ok (GG m) a k (by omega) (by omega))
 ·cases h
def gBits:=sp1 fun a=>some (.c (.d (.int .i64 (blen (val 4294967296 (dO a))))))
theorem gBits_ok (m:Int){us:List AV}{x:AV}(h:gBits us=some x) (lv:Key→LB):CallG Tryz.prog (GG m) 245 us lv (.ret x lv):=
 sp1_ok (fun a x h3 h1 h=>by cases h;exact⟨exact_bits_ok (GG m) a h3 (by omega),rfl⟩) h lv
def gDiv:=sp2 fun a b=>bif Nat.blt 0 (val 4294967296 (dO b)) then some (.tup [nK .u32 (divQ a b),nK .u32 (divR a b)]) else none
theorem gDiv_ok (m:Int){us:List AV}{x:AV}(h:gDiv us=some x) (lv:Key→LB):CallG Tryz.prog (GG m) 82 us lv (.ret x lv):=
 sp2_ok (fun a b x h3 h4 h1 h2 h=>by
  cases hb:Nat.blt 0 (val 4294967296 (dO b)) with
  | false=>rw [hb] at h;cases h
  | true=>
   rw [hb] at h;cases h
   have hv:0<val 4294967296 (dO b):=Nat.le_of_ble_eq_true hb
   exact⟨exact_div_ok _ a b h3 h4 (fun e=>by rw [e] at hv;exact absurd hv (by decide)) (by omega),tup2_pure _ _⟩) h lv
def gOf:List AV→Option AV
 | [.c (.d (.int .u64 (.ofNat n)))]=>bif Nat.blt n 18446744073709551616 then some (nK .u32 (some (dig 4294967296 n))) else none
 | _=>none
theorem gOf_ok (m:Int){us:List AV}{x:AV}(h:gOf us=some x) (lv:Key→LB):CallG Tryz.prog (GG m) 78 us lv (.ret x lv):=by
 unfold gOf at h
 split at h
 ·rename_i n
  cases hb:Nat.blt n 18446744073709551616 with
  | false=>rw [hb] at h;cases h
  | true=>
   rw [hb] at h;cases h
   exact CallG.of_CallsP (fun u hu=>by
    simp only [List.mem_cons,List.not_mem_nil,or_false] at hu
    rcases hu with rfl;rfl) (nK_pure _ _) (exact_of_ok (GG m) n (Nat.le_of_ble_eq_true hb))
 ·cases h
def gSmall:List AV→Option AV
 | [x,.c (.d (.int .u32 (.ofNat b)))]=>(numA x).bind fun a=>bif Nat.blt 0 b then some (.tup [nK .u32 (some (dig 4294967296 (val 4294967296 (dO a) / b))),.c (.d (.int .u32 ((val 4294967296 (dO a) % b:Nat):Int)))]) else none
 | _=>none
theorem gSmall_ok (m:Int){us:List AV}{x:AV}(h:gSmall us=some x) (lv:Key→LB):CallG Tryz.prog (GG m) 84 us lv (.ret x lv):=by
 unfold gSmall at h
 split at h
 ·rename_i x' b
  obtain⟨a,ha,g1⟩:=Option.bind_eq_some_iff.1 h
  clear h
  obtain⟨rfl,a1,a2⟩:=numA_ok ha
  cases hb:Nat.blt 0 b with
  | false=>rw [hb] at g1;cases g1
  | true=>
   rw [hb] at g1;cases g1
   have hb':0<b:=Nat.le_of_ble_eq_true hb
   exact CallG.of_CallsP (fun u hu=>by
    simp only [List.mem_cons,List.not_mem_nil,or_false] at hu
    rcases hu with rfl|rfl
    ·exact nK_pure _ _
    ·rfl) rfl (exact_small_ok (GG m) a b (by omega) (by omega))
 ·cases h
end Go.Am
namespace Go.Am
open Go.Proofs
noncomputable def forceDD {β:Type}(d:DV) (k:DV→β):β:=
 DV.casesOn (motive_1:=fun _=>β) d (fun b=>forceBool b fun b=>k (.bool b)) (fun q n=>forceInt n fun n=>k (.int q n)) (fun s=>forceL forceByte s fun s=>k (.str s)) (k .nilp) (fun cs=>k (.ptr cs)) (k .nilsl)
  (fun es=>forceL (forceL forceD) es fun es=>k (.sl es)) (fun cs=>k (.agg cs)) (k .nilIface) (fun t v=>k (.iface t v)) (k .nilFunc) (fun f a b=>k (.func f a b)) (k .nilmap)
theorem forceDD_eq {β:Type}(d:DV) (k:DV→β):forceDD d k=k d:=by
 cases d <;> simp only [forceDD] <;> first|exact forceBool_eq _ _|exact forceInt_eq _ _|exact forceL_eq _ forceByte_eq _ _|exact forceL_eq _ (forceL_eq _ forceD_eq) _ _|rfl
noncomputable def forceCC {β:Type}(x:CV) (k:CV→β):β:=
 CV.casesOn (motive:=fun _=>β) x (fun d=>forceDD d fun d=>k (.d d)) (fun a b=>k (.ptr a b)) (fun a b c d=>k (.lsl a b c d)) (fun a=>k (.mapr a)) (fun f a b=>k (.func f a b)) (fun t r=>k (.ifc t r)) (k .junk) (fun a b c d=>k (.lsf a b c d))
theorem forceCC_eq {β:Type}(x:CV) (k:CV→β):forceCC x k=k x:=by cases x <;> simp only [forceCC,forceDD_eq]
noncomputable def forceAA0 {β:Type}(x:AV) (k:AV→β):β:=
 AV.casesOn (motive_1:=fun _=>β) x (fun c=>forceCC c fun c=>k (.c c)) (fun l=>forceL forceCC l fun l=>k (.agg l)) (fun l=>k (.tup l)) (k .undef) (k .junk)
theorem forceAA0_eq {β:Type}(x:AV) (k:AV→β):forceAA0 x k=k x:=by cases x <;> simp only [forceAA0,forceCC_eq,forceL_eq _ forceCC_eq]
noncomputable def forceAA {β:Type}(x:AV) (k:AV→β):β:=
 AV.casesOn (motive_1:=fun _=>β) x (fun c=>forceCC c fun c=>k (.c c)) (fun l=>forceL forceCC l fun l=>k (.agg l)) (fun l=>forceL forceAA0 l fun l=>k (.tup l)) (k .undef) (k .junk)
theorem forceAA_eq {β:Type}(x:AV) (k:AV→β):forceAA x k=k x:=by cases x <;> simp only [forceAA,forceCC_eq,forceL_eq _ forceCC_eq,forceL_eq _ forceAA0_eq]
noncomputable def gF (g:List AV→Option AV)(us:List AV):Option AV:=Option.rec (motive:=fun _=>Option AV) none (fun x=>forceAA x some) (g us)
theorem gF_eq (g:List AV→Option AV)(us:List AV):gF g us=g us:=by
 unfold gF;cases g us with
 | none=>rfl
 | some x=>exact forceAA_eq _ _
theorem SpecOK.f {P:Program}{G:List (List DV)}{sp:Tb Spec}{ft:TypeId}(h:SpecOK P G sp ft) (f0:Nat) (g0:List AV→Option AV) (hg:∀ {us x},g0 us=some x→∀ lv,CallG P G f0 us lv (.ret x lv)):SpecOK P G (setS f0 (.pure (gF g0)) sp) ft:=
 h.more f0 (gF g0) fun us x hx lv _=>hg (by rw [gF_eq] at hx;exact hx) lv
noncomputable def spW:Tb Spec:=setS 36 (.pure (gF gMul)) (setS 39 (.pure (gF gAdd)) (setS 41 (.pure (gF gSub)) (setS 40 (.pure (gF gCmp)) (setS 79 (.pure (gF gIs1)) (setS 38 (.pure (gF gMade)) (setS 83 (.pure (gF gShl)) (setS 245 (.pure (gF gBits)) (setS 82 (.pure (gF gDiv)) (setS 78 (.pure (gF gOf)) (setS 84 (.pure (gF gSmall)) (setS 77 (.pure (gF gRead)) spA)))))))))))
theorem spW_ok (m:Int):SpecOK Tryz.prog (GG m) spW 0:=
 ((((((((((((spA_ok m).f 77 gRead (gRead_ok m)).f 84 gSmall (gSmall_ok m)).f 78 gOf (gOf_ok m)).f 82 gDiv (gDiv_ok m)).f 245 gBits (gBits_ok m)).f 83 gShl (gShl_ok m)).f 38 gMade (gMade_ok m)).f 79 gIs1 (gIs1_ok m)).f 40 gCmp (gCmp_ok m)).f 41 gSub (gSub_ok m)).f 39 gAdd (gAdd_ok m)).f 36 gMul (gMul_ok m)
end Go.Am
namespace Go.Am
open Go.Proofs N
def eqNL:List Nat→List Nat→Bool
 | [],[]=>true
 | a::l,b::m=>Nat.beq a b && eqNL l m
 | _,_=>false
theorem eqNL_eq:∀ {l m:List Nat},eqNL l m=true→l=m
 | [],[],_=>rfl
 | a::l,b::m,h=>by
  simp only [eqNL,Bool.and_eq_true] at h
  rw [Nat.eq_of_beq_eq_true h.1,eqNL_eq h.2]
 | [],_::_,h=>by cases h
 | _::_,[],h=>by cases h
def eqO:Option (List Nat)→Option (List Nat)→Bool
 | none,none=>true
 | some l,some m=>eqNL l m
 | _,_=>false
theorem eqO_eq {o p:Option (List Nat)}(h:eqO o p=true):o=p:=by
 cases o <;> cases p <;> first|rfl|cases h|exact congrArg some (eqNL_eq h)
def eqB2 (a b:Bool):Bool:=match a with|true=>b|false=>!b
theorem eqB2_eq {a b:Bool}(h:eqB2 a b=true):a=b:=by cases a <;> cases b <;> first|rfl|cases h
def rdQ (neg:Bool)(po qo:Option (List Nat)):Rat:=mkRat (sgI neg (val 4294967296 (dO po))) (match qo with|none=>1|some l=>val 4294967296 l)
def okQ (neg:Bool)(po qo:Option (List Nat))(x:Rat):Bool:=eqB2 neg (decide (x.num<0)) && (eqO po (natO x.num.natAbs) && (eqO qo (denO x.den) && (Nat.ble (dO po).length 1000 && Nat.ble (dO qo).length 1000)))
def unQ (a p q:CV):Option Rat:=match a with
 | .d (.bool neg)=>(unK (.c p)).bind fun po=>(unK (.c q)).bind fun qo=>bif okQ neg po qo (rdQ neg po qo) then some (rdQ neg po qo) else none
 | _=>none
theorem unQ_ok {a p q:CV}{x:Rat}(h:unQ a p q=some x):a=.d (.bool (decide (x.num<0)))∧p=nC (natO x.num.natAbs)∧q=nC (denO x.den)∧szR x 1000:=by
 unfold unQ at h
 split at h
 ·rename_i neg
  obtain⟨po,h1,k1⟩:=Option.bind_eq_some_iff.1 h
  obtain⟨qo,h2,k2⟩:=Option.bind_eq_some_iff.1 k1
  have e1:=unK_ok h1
  have e2:=unK_ok h2
  rw [nK_nC] at e1 e2
  cases hb:okQ neg po qo (rdQ neg po qo) with
  | false=>rw [hb] at k2;cases k2
  | true=>
   rw [hb] at k2
   simp only [cond_true,Option.some.injEq] at k2
   rw [k2] at hb
   simp only [okQ,Bool.and_eq_true] at hb
   obtain⟨b1,b2,b3,b4,b5⟩:=hb
   have c1:=eqB2_eq b1
   have c2:=eqO_eq b2
   have c3:=eqO_eq b3
   have d4:=Nat.le_of_ble_eq_true b4
   have d5:=Nat.le_of_ble_eq_true b5
   injection e1 with e1
   injection e2 with e2
   refine⟨by rw [c1],by rw [e1,c2],by rw [e2,c3],?_,?_⟩
   ·rw [c2,natO_len] at d4;exact d4
   ·rw [c3] at d5
    unfold denO at d5
    split at d5
    ·rename_i hd;rw [hd,nl_one];decide
    ·exact d5
 ·cases h
def unR:AV→Option Rat
 | .agg [a,p,q]=>unQ a p q
 | _=>none
theorem unR_ok {v:AV}{x:Rat}(h:unR v=some x):v=ratV x∧szR x 1000:=by
 unfold unR at h
 split at h
 ·obtain⟨rfl,rfl,rfl,hs⟩:=unQ_ok h
  exact⟨rfl,hs⟩
 ·cases h
def leQ (x y:Rat):Bool:=decide (x≤y)
def unI:AV→Option Iv
 | .agg [a,p,q,a',p',q']=>(unQ a p q).bind fun x=>(unQ a' p' q').bind fun y=>bif leQ x y then some (x,y) else none
 | _=>none
theorem unI_ok {v:AV}{a:Iv}(h:unI v=some a):v=ivV a∧a.sz 1000∧a.1≤a.2:=by
 unfold unI at h
 split at h
 ·obtain⟨x,h1,k1⟩:=Option.bind_eq_some_iff.1 h
  obtain⟨y,h2,k2⟩:=Option.bind_eq_some_iff.1 k1
  obtain⟨rfl,rfl,rfl,hs⟩:=unQ_ok h1
  obtain⟨rfl,rfl,rfl,hs'⟩:=unQ_ok h2
  cases hb:leQ x y with
  | false=>rw [hb] at k2;cases k2
  | true=>rw [hb] at k2;cases k2;exact⟨rfl,⟨hs,hs'⟩,of_decide_eq_true hb⟩
 ·cases h
theorem ratV_pure (x:Rat):(ratV x).pure=true:=nmA_pure _ _ _
theorem ivV_pure (a:Iv):(ivV a).pure=true:=iv_pure _ _ _ _ _ _
def q1 (f:Rat→Option AV):List AV→Option AV
 | [x]=>(unR x).bind f
 | _=>none
def q2 (f:Rat→Rat→Option AV):List AV→Option AV
 | [x,y]=>(unR x).bind fun a=>(unR y).bind fun b=>f a b
 | _=>none
def qi (f:Rat→Int→Option AV):List AV→Option AV
 | [x,.c (.d (.int .i64 n))]=>(unR x).bind fun a=>f a n
 | _=>none
def v1 (f:Iv→Option AV):List AV→Option AV
 | [x]=>(unI x).bind f
 | _=>none
def v2 (f:Iv→Iv→Option AV):List AV→Option AV
 | [x,y]=>(unI x).bind fun a=>(unI y).bind fun b=>f a b
 | _=>none
def vi (f:Iv→Int→Option AV):List AV→Option AV
 | [x,.c (.d (.int .i64 n))]=>(unI x).bind fun a=>f a n
 | _=>none
def vq (f:Iv→Rat→Option AV):List AV→Option AV
 | [x,y]=>(unI x).bind fun a=>(unR y).bind fun b=>f a b
 | _=>none
section
variable {m:Int}{g:FuncId}{us:List AV}{x:AV}
theorem q1_ok {f:Rat→Option AV}(hf:∀ a x,szR a 1000→f a=some x→CallsP Tryz.prog (GG m) g [ratV a] x∧x.pure=true) (h:q1 f us=some x) (lv:Key→LB):CallG Tryz.prog (GG m) g us lv (.ret x lv):=by
 unfold q1 at h;split at h
 ·obtain⟨a,ha,k1⟩:=Option.bind_eq_some_iff.1 h
  obtain⟨rfl,sa⟩:=unR_ok ha
  obtain⟨h1,h2⟩:=hf a x sa k1
  exact CallG.of_CallsP (fun u hu=>by simp only [List.mem_cons,List.not_mem_nil,or_false] at hu;subst hu;exact ratV_pure a) h2 h1
 ·cases h
theorem q2_ok {f:Rat→Rat→Option AV}(hf:∀ a b x,szR a 1000→szR b 1000→f a b=some x→CallsP Tryz.prog (GG m) g [ratV a,ratV b] x∧x.pure=true) (h:q2 f us=some x) (lv:Key→LB):CallG Tryz.prog (GG m) g us lv (.ret x lv):=by
 unfold q2 at h;split at h
 ·obtain⟨a,ha,k1⟩:=Option.bind_eq_some_iff.1 h
  obtain⟨b,hb,k2⟩:=Option.bind_eq_some_iff.1 k1
  obtain⟨rfl,sa⟩:=unR_ok ha
  obtain⟨rfl,sb⟩:=unR_ok hb
  obtain⟨h1,h2⟩:=hf a b x sa sb k2
  exact CallG.of_CallsP (fun u hu=>by simp only [List.mem_cons,List.not_mem_nil,or_false] at hu;rcases hu with rfl|rfl;exact ratV_pure a;exact ratV_pure b) h2 h1
 ·cases h
theorem qi_ok {f:Rat→Int→Option AV}(hf:∀ a n x,szR a 1000→f a n=some x→CallsP Tryz.prog (GG m) g [ratV a,.c (.d (.int .i64 n))] x∧x.pure=true) (h:qi f us=some x) (lv:Key→LB):CallG Tryz.prog (GG m) g us lv (.ret x lv):=by
 unfold qi at h;split at h
 ·rename_i n
  obtain⟨a,ha,k1⟩:=Option.bind_eq_some_iff.1 h
  obtain⟨rfl,sa⟩:=unR_ok ha
  obtain⟨h1,h2⟩:=hf a n x sa k1
  exact CallG.of_CallsP (fun u hu=>by simp only [List.mem_cons,List.not_mem_nil,or_false] at hu;rcases hu with rfl|rfl;exact ratV_pure a;rfl) h2 h1
 ·cases h
theorem v2_ok {f:Iv→Iv→Option AV}(hf:∀ a b x,a.sz 1000→b.sz 1000→a.1≤a.2→b.1≤b.2→f a b=some x→CallsP Tryz.prog (GG m) g [ivV a,ivV b] x∧x.pure=true) (h:v2 f us=some x) (lv:Key→LB):CallG Tryz.prog (GG m) g us lv (.ret x lv):=by
 unfold v2 at h;split at h
 ·obtain⟨a,ha,k1⟩:=Option.bind_eq_some_iff.1 h
  obtain⟨b,hb,k2⟩:=Option.bind_eq_some_iff.1 k1
  obtain⟨rfl,sa,la⟩:=unI_ok ha
  obtain⟨rfl,sb,lb⟩:=unI_ok hb
  obtain⟨h1,h2⟩:=hf a b x sa sb la lb k2
  exact CallG.of_CallsP (fun u hu=>by simp only [List.mem_cons,List.not_mem_nil,or_false] at hu;rcases hu with rfl|rfl;exact ivV_pure a;exact ivV_pure b) h2 h1
 ·cases h
theorem vi_ok {f:Iv→Int→Option AV}(hf:∀ a n x,a.sz 1000→a.1≤a.2→f a n=some x→CallsP Tryz.prog (GG m) g [ivV a,.c (.d (.int .i64 n))] x∧x.pure=true) (h:vi f us=some x) (lv:Key→LB):CallG Tryz.prog (GG m) g us lv (.ret x lv):=by
 unfold vi at h;split at h
 ·rename_i n
  obtain⟨a,ha,k1⟩:=Option.bind_eq_some_iff.1 h
  obtain⟨rfl,sa,la⟩:=unI_ok ha
  obtain⟨h1,h2⟩:=hf a n x sa la k1
  exact CallG.of_CallsP (fun u hu=>by simp only [List.mem_cons,List.not_mem_nil,or_false] at hu;rcases hu with rfl|rfl;exact ivV_pure a;rfl) h2 h1
 ·cases h
theorem vq_ok {f:Iv→Rat→Option AV}(hf:∀ a b x,a.sz 1000→szR b 1000→a.1≤a.2→f a b=some x→CallsP Tryz.prog (GG m) g [ivV a,ratV b] x∧x.pure=true) (h:vq f us=some x) (lv:Key→LB):CallG Tryz.prog (GG m) g us lv (.ret x lv):=by
 unfold vq at h;split at h
 ·obtain⟨a,ha,k1⟩:=Option.bind_eq_some_iff.1 h
  obtain⟨b,hb,k2⟩:=Option.bind_eq_some_iff.1 k1
  obtain⟨rfl,sa,la⟩:=unI_ok ha
  obtain⟨rfl,sb⟩:=unR_ok hb
  obtain⟨h1,h2⟩:=hf a b x sa sb la k2
  exact CallG.of_CallsP (fun u hu=>by simp only [List.mem_cons,List.not_mem_nil,or_false] at hu;rcases hu with rfl|rfl;exact ivV_pure a;exact ratV_pure b) h2 h1
 ·cases h
end
theorem szK {x:Rat}{L:Nat}(h:szR x 1000) (hL:1000≤L:=by decide):szR x L:=szR_mono h hL
theorem szI {a:Iv}{L:Nat}(h:a.sz 1000) (hL:1000≤L:=by decide):a.sz L:=Iv.sz_mono h hL
abbrev iA (n:Int):AV:=.c (.d (.int .i64 n))
theorem tupR_pure (x:Rat)(n:Int):(AV.tup [ratV x,iA n]).pure=true:=tup_num_pure _ _ _ _
noncomputable def spX:Tb Spec:=
 setS 10 (.pure (gF (q2 fun a b=>some (ratV (a+b))))) <|
 setS 149 (.pure (gF (q2 fun a b=>some (ratV (a - b))))) <|
 setS 50 (.pure (gF (q2 fun a b=>some (ratV (a*b))))) <|
 setS 27 (.pure (gF (q2 fun a b=>some (iA (cmpR a b))))) <|
 setS 25 (.pure (gF (q2 fun a b=>some (ratV (minR a b))))) <|
 setS 24 (.pure (gF (q2 fun a b=>some (ratV (maxR a b))))) <|
 setS 93 (.pure (gF (q2 fun a b=>some (.tup [ratV (a / b),iA (if b=0 then 8 else 0)])))) <|
 setS 124 (.pure (gF (q1 fun a=>some (ratV (-a))))) <|
 setS 162 (.pure (gF (q1 fun a=>some (ratV (absQ a))))) <|
 setS 163 (.pure (gF (qi fun a n=>some (ratV (downR a n))))) <|
 setS 164 (.pure (gF (qi fun a n=>some (ratV (upR a n))))) <|
 setS 123 (.pure (gF (v2 fun a b=>some (ivV (a.add b))))) <|
 setS 204 (.pure (gF (v2 fun a b=>some (ivV (a.sub b))))) <|
 setS 202 (.pure (gF (v2 fun a b=>some (ivV (a.mul b))))) <|
 setS 276 (.pure (gF (v2 fun a b=>some (ivV (a.join b))))) <|
 setS 125 (.pure (gF (vi fun a n=>some (ivV (downR a.1 n,upR a.2 n))))) <|
 setS 26 (.pure (gF (vq fun a b=>some (.c (.d (.bool (decide (a.has b)))))))) spW
theorem spX_ok (m:Int):SpecOK Tryz.prog (GG m) spX 0:=
 (((((((((((((((((spW_ok m).f _ _ (vq_ok fun a b x sa sb la h=>by cases h;exact⟨iv_Has _ a b (szI sa) (szK sb),rfl⟩)).f _ _ (vi_ok fun a n x sa la h=>by cases h;exact⟨iv_Out _ a n (szI sa),ivV_pure _⟩)).f _ _
  (v2_ok fun a b x sa sb la lb h=>by cases h;exact⟨iv_Join _ a b (szI sa) (szI sb),ivV_pure _⟩)).f _ _
  (v2_ok fun a b x sa sb la lb h=>by cases h;exact⟨iv_Mul _ a b (szI sa) (szI sb) la lb,ivV_pure _⟩)).f _ _
  (v2_ok fun a b x sa sb la lb h=>by cases h;exact⟨iv_Sub _ a b (szI sa) (szI sb),ivV_pure _⟩)).f _ _
  (v2_ok fun a b x sa sb la lb h=>by cases h;exact⟨iv_Add _ a b (szI sa) (szI sb),ivV_pure _⟩)).f _ _
  (qi_ok fun a n x sa h=>by cases h;exact⟨rat_Up _ a n (szK sa),ratV_pure _⟩)).f _ _
  (qi_ok fun a n x sa h=>by cases h;exact⟨rat_Down _ a n (szK sa),ratV_pure _⟩)).f _ _
  (q1_ok fun a x sa h=>by cases h;exact⟨rat_Ab _ a,ratV_pure _⟩)).f _ _
  (q1_ok fun a x sa h=>by cases h;exact⟨rat_Neg _ a,ratV_pure _⟩)).f _ _
  (q2_ok fun a b x sa sb h=>by cases h;exact⟨rat_Quo _ a b (szK sa) (szK sb),tupR_pure _ _⟩)).f _ _
  (q2_ok fun a b x sa sb h=>by cases h;exact⟨rat_Max _ a b (szK sa) (szK sb),ratV_pure _⟩)).f _ _
  (q2_ok fun a b x sa sb h=>by cases h;exact⟨rat_Min _ a b (szK sa) (szK sb),ratV_pure _⟩)).f _ _
  (q2_ok fun a b x sa sb h=>by cases h;exact⟨rat_Cmp _ a b (szK sa) (szK sb),rfl⟩)).f _ _
  (q2_ok fun a b x sa sb h=>by cases h;exact⟨rat_Mul _ a b (szK sa) (szK sb),ratV_pure _⟩)).f _ _
  (q2_ok fun a b x sa sb h=>by cases h;exact⟨rat_Sub _ a b (szK sa) (szK sb),ratV_pure _⟩)).f _ _
  (q2_ok fun a b x sa sb h=>by cases h;exact⟨rat_Add _ a b (szK sa) (szK sb),ratV_pure _⟩)
theorem evX_ok (m:Int)(n:Nat):CallOK Tryz.prog (GG m) (evK Tryz.prog (GG m) spX 0 n):=evK_ok mixed (spX_ok m) n
abbrev txA (k:Nat):AV:=.c (.d (.sl [[.int .u32 (.ofNat k)]]))
theorem text_dig (m:Int)(k:Nat)(h1:1≤k)(h2:k≤9):CallsP Tryz.prog (GG m) 45 [txA k] (.c (.d (.str [UInt8.ofNat (48+k)]))):=by
 have h:k=1∨k=2∨k=3∨k=4∨k=5∨k=6∨k=7∨k=8∨k=9:=by omega
 rcases h with rfl|rfl|rfl|rfl|rfl|rfl|rfl|rfl|rfl <;> exact CallsP.of_ev (evX_ok m 40) (by kernel_rfl)
theorem text_nil (m:Int):CallsP Tryz.prog (GG m) 45 [.c (.d .nilsl)] (.c (.d (.str [48]))):=CallsP.of_ev (evX_ok m 40) (by kernel_rfl)
def gText:List AV→Option AV
 | [.c (.d .nilsl)]=>some (.c (.d (.str [48])))
 | [.c (.d (.sl [[.int .u32 (.ofNat k)]]))]=>bif Nat.ble 1 k && Nat.ble k 9 then some (.c (.d (.str [UInt8.ofNat (48+k)]))) else none
 | _=>none
theorem gText_ok (m:Int){us:List AV}{x:AV}(h:gText us=some x) (lv:Key→LB):CallG Tryz.prog (GG m) 45 us lv (.ret x lv):=by
 unfold gText at h
 split at h
 ·cases h
  exact CallG.of_CallsP (fun u hu=>by simp only [List.mem_cons,List.not_mem_nil,or_false] at hu;subst hu;rfl) rfl (text_nil m)
 ·rename_i k
  cases hb:Nat.ble 1 k && Nat.ble k 9 with
  | false=>rw [hb] at h;cases h
  | true=>
   rw [hb] at h;cases h
   simp only [Bool.and_eq_true] at hb
   exact CallG.of_CallsP (fun u hu=>by simp only [List.mem_cons,List.not_mem_nil,or_false] at hu;subst hu;rfl) rfl (text_dig m k (Nat.le_of_ble_eq_true hb.1) (Nat.le_of_ble_eq_true hb.2))
 ·cases h
def gPar:List AV→Option AV
 | [.c (.d (.str s))]=>some (.tup [ratV (ratP s),iA (ratE s)])
 | _=>none
theorem gPar_ok (m:Int){us:List AV}{x:AV}(h:gPar us=some x) (lv:Key→LB):CallG Tryz.prog (GG m) 34 us lv (.ret x lv):=by
 unfold gPar at h
 split at h
 ·rename_i s
  cases h
  exact CallG.of_CallsP (fun u hu=>by simp only [List.mem_cons,List.not_mem_nil,or_false] at hu;subst hu;rfl) (tupR_pure _ _) (rat_Parse m s)
 ·cases h
noncomputable def spY:Tb Spec:=setS 45 (.pure (gF gText)) (setS 34 (.pure (gF gPar)) spX)
theorem evY_ok (m:Int)(n:Nat):CallOK Tryz.prog (GG m) (evK Tryz.prog (GG m) spY 0 n):=evK_ok mixed (((spX_ok m).f _ _ (gPar_ok m)).f _ _ (gText_ok m)) n
end Go.Am
