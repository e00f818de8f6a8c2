/- Helpers. -/
import Derived.WalkKit
import Derived.Lib.Strings

set_option linter.all false
set_option maxHeartbeats 8000000
set_option maxRecDepth 100000
namespace Go.Am
def zd{p:Prop}(h:p:=by omega):p:=h
def zp{p:Prop}(h:p:=by simp):p:=h
def zr{p:Prop}(h:p:=by decide):p:=h
def zt{p:Prop}(h:p:=by kernel_rfl):p:=h
def yi{p:Prop}(h:p:=by simp[ai]):p:=h
def yk{p:Prop}(h:p:=by simp_all):p:=h
def yn{p:Prop}(h:p:=by grind):p:=h
def yr{p:Prop}(h:p:=by rw[bP (by omega) (by omega)];omega):p:=h
def yv{p:Prop}(h:p:=by simp;omega):p:=h
def xa{p:Prop}(h:p:=by simp[aV]):p:=h
def xc{p:Prop}(h:p:=by rw[<-hlv];rfl):p:=h
def xf{p:Prop}(h:p:=by simp[hr]):p:=h
def xi{p:Prop}(h:p:=by simp[aP,cH,Nd.l4]):p:=h
def xn{p:Prop}(h:p:=by simp[hlt']<;>omega):p:=h
def xr{p:Prop}(h:p:=by rfl):p:=h
def xt{p:Prop}(h:p:=by intro d hd;cases hd;show(_:Nat)<50;decide):p:=h
def xv{p:Prop}(h:p:=by simp<;>omega):p:=h
def wa{p:Prop}(h:p:=by assumption):p:=h
def wb{p:Prop}(h:p:=by simp[hres]):p:=h
def wc{p:Prop}(h:p:=by intro e he;obtain⟨a,_,rfl⟩:=List.mem_map.1 he;rfl):p:=h
def wd{p:Prop}(h:p:=by show nl 1<=_;rw[cR];decide):p:=h
def wr{p:Prop}(h:p:=by simp;rfl):p:=h
def ws{p:Prop}(h:p:=by simp[h0]<;>omega):p:=h
def ww{p:Prop}(h:p:=by rw[fB (by omega) (by omega)];omega):p:=h
def wx{p:Prop}(h:p:=by intro e;exact hx (Rat.num_eq_zero.1 (by omega))):p:=h
def wy{p:Prop}(h:p:=by rw[aX (by omega),aX (by omega)];rfl):p:=h
def vd{p:Prop}(h:p:=by simp only[BB];omega):p:=h
def vx{p:Prop}(h:p:=by simp only[List.foldl];split<;>omega):p:=h
def vy{p:Prop}(h:p:=by unfold iV;omega):p:=h
def v6{p:Prop}(h:p:=by intro d hd;cases hd;show(_:Nat)<19;decide):p:=h
def ub{p:Prop}(h:p:=by show nl _<=_;omega):p:=h
def ui{p:Prop}(h:p:=by simp[MF,Me,eT,jU,keyOf]):p:=h
def ul{p:Prop}(h:p:=by simp[aU,om,jl]):p:=h
def un{p:Prop}(h:p:=by simp only[rM];omega):p:=h
def ut{p:Prop}(h:p:=by rw[gp];have:=hx.1;omega):p:=h
def ta{p:Prop}(h:p:=by simpa using h):p:=h
def te{p:Prop}(h:p:=by simp[hout]):p:=h
def ti{p:Prop}(h:p:=by rw[e];rfl):p:=h
def tk{p:Prop}(h:p:=by rw[lR (by omega) (by omega)];omega):p:=h
def tm{p:Prop}(h:p:=by simp[hlt]<;>omega):p:=h
def tp{p:Prop}(h:p:=by rw[ho];simp[Op.operands]):p:=h
def tt{p:Prop}(h:p:=by rw[adM _ (by omega)];omega):p:=h
def tz{p:Prop}(h:p:=by simp[s0]<;>omega):p:=h
def t0{p:Prop}(h:p:=by rw[<-hlv];simp[aA]):p:=h
def t7{p:Prop}(h:p:=by rw[<-hsz];simp[lM,hi]):p:=h
def t8{p:Prop}(h:p:=by unfold od;rw[if_neg (not_not_intro h1),if_neg (not_not_intro h2)]):p:=h
def sa{p:Prop}(h:p:=by rw[eG ⟨by simp only[BB];omega,by simp only[rM];omega⟩];omega):p:=h
def sc{p:Prop}(h:p:=by rw[cR];decide):p:=h
def sd{p:Prop}(h:p:=by simpa[Op.operands,Call.operands]using hv):p:=h
def se{p:Prop}(h:p:=by simp[hb]):p:=h
def sk{p:Prop}(h:p:=by simp[z1]):p:=h
def sm{p:Prop}(h:p:=by simp[hlb]<;>omega):p:=h
def sq{p:Prop}(h:p:=by unfold jT;rw[if_neg (not_not_intro hg)]):p:=h
def sv{p:Prop}(h:p:=by rw[hb];decide):p:=h
def sT{p:Prop}(h:p:=by rw[hg];rfl):p:=h
def ra{p:Prop}(h:p:=by show aM s.lv k .dead κ=_;rw[bt _ _ (aeG hkκ)];exact hκ):p:=h
def rb{p:Prop}(h:p:=by rw[hR,bE (by decide)];exact adx _ hv0):p:=h
def rc{p:Prop}(h:p:=by simp[hx]):p:=h
def re{p:Prop}(h:p:=by show nl 1<=_;rw[cR];exact h):p:=h
def rf{p:Prop}(h:p:=by rw[hnx];rfl):p:=h
def rg{p:Prop}(h:p:=by simp<;>exact⟨rfl,rfl,rfl⟩):p:=h
def rh{p:Prop}(h:p:=by rw[adM _ (by decide)];omega):p:=h
def rk{p:Prop}(h:p:=by rw[AV.bV h1];exact h2):p:=h
def rn{p:Prop}(h:p:=by rw[hr,if_neg (not_not_intro h3),hs,if_neg (by decide)]):p:=h
def rr{p:Prop}(h:p:=by simp[aI]):p:=h
def rx{p:Prop}(h:p:=by simp[LO]):p:=h
def qr{p:Prop}(h:p:=by simp[h]<;>omega):p:=h
def pc{p:Prop}(h:p:=by rw[lA];exact hl):p:=h
def pd{p:Prop}(h:p:=by unfold qy;rw[e,if_neg (by decide)]):p:=h
def pf{p:Prop}(h:p:=by unfold eO;(repeat' split)<;>omega):p:=h
def ph{p:Prop}(h:p:=by unfold l6;rw[if_neg (not_not_intro h1),if_pos hib]):p:=h
def pi{p:Prop}(h:p:=by simp[h]):p:=h
def pj{p:Prop}(h:p:=by rw[hnx,yZ];simp[aV,hE]):p:=h
def pk{p:Prop}(h:p:=by rw[hS',e]):p:=h
def pl{p:Prop}(h:p:=by rw[hstp];unfold Ki;rw[if_neg (by simp),if_pos hb]):p:=h
def pm{p:Prop}(h:p:=by rw[hstp];unfold Ms;rw[if_neg (by simp),if_pos hb]):p:=h
def po{p:Prop}(h:p:=by simp[hg]):p:=h
def pp{p:Prop}(h:p:=by simp[z5]):p:=h
def pr{p:Prop}(h:p:=by simp;clear w1 w2 w3 h';revert i;decide +kernel):p:=h
def pu{p:Prop}(h:p:=by simp[execOp,ho,h1,h2,eqGuard,binOp,Op.shift,h3]):p:=h
def pv{p:Prop}(h:p:=by rw[hL];exact mL (mL (mL AD rfl) (Od _)) (NJ _)):p:=h
def px{p:Prop}(h:p:=by simp[wK]):p:=h
def py{p:Prop}(h:p:=by rw[<-hb2,List.drop_length];rfl):p:=h
def pA{p:Prop}(h:p:=by unfold kI;simp only[List.foldl];split<;>omega):p:=h
def pB{p:Prop}(h:p:=by rw[fT];omega):p:=h
def pC{p:Prop}(h:p:=by rw[qS];simp[aV]):p:=h
def pD{p:Prop}(h:p:=by simp[mz (nF (by omega) hb ha (by omega))]):p:=h
def oi{p:Prop}(h:p:=by simp[h9]):p:=h
def oj{p:Prop}(h:p:=by simp[dg,Op.operands,h2,e2]):p:=h
def ol{p:Prop}(h:p:=by unfold eS;congr 1;exact propext (by omega)):p:=h
def ne{p:Prop}(h:p:=by simp[execOp,ho,resolve,invoke,builtin,h1]):p:=h
def no{p:Prop}(h:p:=by rw[h.mem];exact hv.1):p:=h
def np{p:Prop}(h:p:=by simp[aM]):p:=h
def ma{p:Prop}(h:p:=by rw[hkl];unfold cH;(repeat' split)<;>omega):p:=h
def md{p:Prop}(h:p:=by simp only[execOp,ho,e2,cy,ae7,hr,nZ];rfl):p:=h
def mf{p:Prop}(h:p:=by simp only[execOp,ho,ae7,hv];simp[hr];rfl):p:=h
def ml{p:Prop}(h:p:=by rw[<-aee,Nat.sub_add_cancel (by omega)]):p:=h
def mn{p:Prop}(h:p:=by rw[Bd];decide):p:=h
def mp{p:Prop}(h:p:=by simp[hm']<;>omega):p:=h
def mv{p:Prop}(h:p:=by rw[<-he];simp[h0]):p:=h
def lc{p:Prop}(h:p:=by rw[hEe];split<;>first|assumption|decide):p:=h
def le{p:Prop}(h:p:=by rw[gp];have:=hy.1;omega):p:=h
def lh{p:Prop}(h:p:=by rw[tf];omega):p:=h
def li{p:Prop}(h:p:=by rw[r2,g1,if_neg (by decide),if_pos g2]):p:=h
def lj{p:Prop}(h:p:=by simp[dg,Op.operands,h2]):p:=h
def lk{p:Prop}(h:p:=by rw[<-hg];rfl):p:=h
def lm{p:Prop}(h:p:=by simpa using h2):p:=h
def lr{p:Prop}(h:p:=by simp[jj]):p:=h
def lw{p:Prop}(h:p:=by simp[z0]):p:=h
def lx{p:Prop}(h:p:=by simp[hn]<;>omega):p:=h
def ly{p:Prop}(h:p:=by rw[<-hp];exact hps):p:=h
def lL{p:Prop}(h:p:=by rw[<-hDD];exact c1):p:=h
def ka{p:Prop}(h:p:=by rw[agh (by omega)];omega):p:=h
def kc{p:Prop}(h:p:=by show nl 0<=_;exact ab5 _):p:=h
def kd{p:Prop}(h:p:=by simp[Op.operands,Call.operands,hc]):p:=h
def km{p:Prop}(h:p:=by simp[lq (nF (by omega) ha hb hlt)]):p:=h
def kp{p:Prop}(h:p:=by rw[aS];omega):p:=h
def kt{p:Prop}(h:p:=by simp[hr2]):p:=h
def kv{p:Prop}(h:p:=by rw[yV];simp[aV]):p:=h
def kw{p:Prop}(h:p:=by simp[aeG k0,aeG k1,aeG k2,aeG k3]):p:=h
def kx{p:Prop}(h:p:=by simp at hi;omega):p:=h
def ky{p:Prop}(h:p:=by simpa using hk):p:=h
def jp{p:Prop}(h:p:=by simpa using hj):p:=h
def ik{p:Prop}(h:p:=by simp[z7]):p:=h
def il{p:Prop}(h:p:=by simp[hc]):p:=h
def im{p:Prop}(h:p:=by rw[aew];simp[aV,tT]):p:=h
def io{p:Prop}(h:p:=by simpa using hn):p:=h
def ir{p:Prop}(h:p:=by unfold eO;omega):p:=h
def gf{p:Prop}(h:p:=by simp[kD,e,hk]):p:=h
def gl{p:Prop}(h:p:=by simp[ot,h,h2]):p:=h
def gn{p:Prop}(h:p:=by show nl _<=_;have:=hx.2;omega):p:=h
def go{p:Prop}(h:p:=by show nl _<=_;have:=hy.2;omega):p:=h
def gt{p:Prop}(h:p:=by simpa using hi):p:=h
def fg{p:Prop}(h:p:=by rw[hstp]):p:=h
def fi{p:Prop}(h:p:=by simp[hw0]<;>omega):p:=h
def fl{p:Prop}(h:p:=by rw[Ds];exact hlen):p:=h
def fp{p:Prop}(h:p:=by rw[<-afe,h1];rfl):p:=h
def fx{p:Prop}(h:p:=by simp[he]<;>omega):p:=h
def eh{p:Prop}(h:p:=by simp[h7]<;>omega):p:=h
def em{p:Prop}(h:p:=by simp[h1]<;>omega):p:=h
def eQ{p:Prop}(h:p:=by simpa using nx rfl):p:=h
def da{p:Prop}(h:p:=by simp[Tw.AP,qh];rfl):p:=h
def db{p:Prop}(h:p:=by rw[acM];omega):p:=h
def dk{p:Prop}(h:p:=by simp[aV,tT]):p:=h
def dC{p:Prop}(h:p:=by rw[hk];rfl):p:=h
def dE{p:Prop}(h:p:=by simp[hf]):p:=h
def dT{p:Prop}(h:p:=by simp[hk]):p:=h
def ca{p:Prop}(h:p:=by unfold jb;rw[hg]):p:=h
def cf{p:Prop}(h:p:=by simp[h0]):p:=h
def co{p:Prop}(h:p:=by simp[hn]):p:=h
def cp{p:Prop}(h:p:=by simp[Bt]):p:=h
def ba{p:Prop}(h:p:=by rw[h4,hlen,hsize]):p:=h
def bc{p:Prop}(h:p:=by rw[h2];exact h3):p:=h
def bd{p:Prop}(h:p:=by rw[hbl];exact hqn):p:=h
def bj{p:Prop}(h:p:=by simp[hl]):p:=h
def bm{p:Prop}(h:p:=by simp[hlog]):p:=h
def bo{p:Prop}(h:p:=by rw[h];exact he):p:=h
def bv{p:Prop}(h:p:=by simp[um,dY,gT]):p:=h
def ae{p:Prop}(h:p:=by decide +kernel):p:=h
def am{p:Prop}(h:p:=by simp[sZ,hu]):p:=h
def ap{p:Prop}(h:p:=by simp[hlt]):p:=h
def a8{p:Prop}(h:p:=by simp[q10]):p:=h
def WF{p:Prop}(h:p:=by simp[q11]):p:=h
def WP{p:Prop}(h:p:=by simp[q12]):p:=h
def UV{p:Prop}(h:p:=by simp[aA]):p:=h
def T2{p:Prop}(h:p:=by simp[dM]):p:=h
def ST{p:Prop}(h:p:=by simp[f2]):p:=h
def RK{p:Prop}(h:p:=by simp[q4]):p:=h
def R0{p:Prop}(h:p:=by simp[q6]):p:=h
def QP{p:Prop}(h:p:=by simp[q9]):p:=h
def QQ{p:Prop}(h:p:=by simp[hX]):p:=h
variable {T e T' t ft ty S:TypeId}{o:Oper}{v z:Value}{x y ix:Operand}{P:Program}{sz off len m cap:Nat}{own fz b:Bool}{n l h:Int}{α:Type}{w w':World}{F F' Fz:Nat->Prop}{f:FuncId}{i:TypeInfo}{cl:Call}{a:Act}{op:BinOp}{lo hi:Option Operand}{arr:Array Value}{fn:Fn}{k':IntKind}{parts:Array (Nat×Operand)}{name:String}
abbrev aey:=@Bool.false_eq_true
abbrev adM:=@Int.fdiv_eq_ediv_of_nonneg
abbrev HQ:=@Nat.le_trans
abbrev adA:=@Nat.lt_of_lt_of_le
abbrev aeK:=@Array.getD_eq_getD_getElem?
abbrev bf:=@Nat.le_refl
abbrev rP:=@List.getElem_map
abbrev afu:=@Array.getElem_toList
abbrev aer:=@Nat.not_lt_zero
abbrev aj:=@Option.some.injEq
abbrev cy:=@Sem.run_bind
abbrev nZ:=@Result.andThen_ok
abbrev ad6:=@Sem.run_pure
abbrev aeL:=@Addr.add_lit
abbrev acR:=@List.append_assoc
abbrev ae4:=@List.getElem_append_right
abbrev afR:=@List.getElem_drop
abbrev ad9:=@Nat.add_zero
abbrev afv:=@Array.length_toList
abbrev af4:=@List.getElem_toArray
abbrev rK:=@Prod.mk.injEq
abbrev adS:=@Bool.and_eq_true
abbrev ad2:=@Option.map_some
abbrev cn:=@List.getElem_mem
abbrev ae7:=@Option.map_none
abbrev afw:=@List.mem_of_mem_take
abbrev afj:=@List.mem_of_mem_drop
abbrev ab5:=@Nat.zero_le
abbrev adn:=@Nat.add_mul
abbrev adh:=@Nat.mul_le_mul_right
abbrev aeF:=@List.getElem_append_left
abbrev ad4:=@Nat.mod_eq_of_lt
abbrev adx:=@Nat.mod_lt
abbrev agq:=@Array.getElem_map
abbrev adG:=@List.all_eq_true
abbrev sC:=@List.length_map
abbrev aez:=@List.getElem?_map
abbrev agr:=@List.getElem?_eq_none
abbrev af5:=@Nat.eq_zero_or_pos
abbrev afS:=@Nat.div_lt_of_lt_mul
abbrev afk:=@Nat.add_assoc
abbrev ae8:=@List.getElem_range
abbrev af6:=@List.getElem?_take
abbrev afx:=@List.getElem?_drop
abbrev ags:=@Array.getElem?_toList
abbrev afy:=@List.eq_nil_of_length_eq_zero
abbrev aeX:=@Array.getElem_append_left
abbrev af7:=@World.size_drew
abbrev afT:=@Array.size_append
abbrev afz:=@List.size_toArray
abbrev aej:=@Nat.zero_add
abbrev aeG:=@Ne.symm
abbrev adl:=@List.length_append
abbrev agG:=@Array.getElem_append_right
abbrev acM:=@List.length_take
abbrev aea:=@Nat.min_eq_left
abbrev agt:=@List.getElem_take
abbrev afU:=@List.foldl_cons
abbrev fy:=@List.getElem?_eq_getElem
abbrev adi:=@List.map_cons
abbrev aep:=@List.cons.injEq
abbrev adY:=@Option.map_eq_some_iff
abbrev afl:=@List.length_drop
abbrev aes:=@Nat.one_mul
abbrev aeM:=@Bool.not_eq_true'
abbrev aeC:=@List.getElem_cons_zero
abbrev aeH:=@List.mem_singleton
abbrev af8:=@Array.empty_append
abbrev ael:=@List.map_nil
abbrev adT:=@List.map_map
abbrev aeD:=@List.map_append
abbrev afA:=@List.drop_left'
abbrev afB:=@List.cons_append
abbrev aew:=@List.nil_append
abbrev afd:=@List.mem_cons_of_mem
abbrev afm:=@List.mem_cons_self
abbrev aeY:=@Bool.or_eq_true
abbrev aen:=@List.map_congr_left
abbrev agu:=@Array.getElem?_append_left
abbrev aeE:=@List.take_of_length_le
abbrev aZ:=@List.mem_cons
abbrev af9:=@List.idxOf?_eq_some_iff
abbrev afC:=@Nat.add_sub_cancel_left
abbrev agv:=@List.zipWith_cons_cons
abbrev agw:=@List.mem_append_left
abbrev aeA:=@List.mem_map
abbrev afV:=@List.flatMap_cons
abbrev aeO:=@List.mem_flatMap
abbrev afW:=@List.mem_append
def BB:IntKind->Int
 |.i8=>-128|.i16=>-32768|.i32=>-2147483648|.i64=>-9223372036854775808|_=>0
def rM:IntKind->Int
 |.i8=>127|.i16=>32767|.i32=>2147483647|.i64=>9223372036854775807
 |.u8=>255|.u16=>65535|.u32=>4294967295|.u64=>18446744073709551615
theorem JE(k:IntKind)(n:Int):k.wrap n=if k.signed=true/\n%2^k.bits >= 2^(k.bits-1)then n%2^k.bits-2^k.bits else n%2^k.bits:=by
 unfold IntKind.wrap;simp
theorem G6(k:IntKind)(n:Int):BB k<=k.wrap n/\k.wrap n<=rM k:=by
 rw[JE]
 cases k<;>simp only[IntKind.bits,IntKind.signed,BB,rM,true_and,false_and,aey,if_false,Nat.reduceSub]<;>first|omega|(split<;>omega)
theorem eG{k:IntKind}(h:BB k<=n/\n<=rM k):k.wrap n=n:=by
 rw[JE]
 cases k<;>simp only[IntKind.bits,IntKind.signed,BB,rM,true_and,false_and,aey,if_false,Nat.reduceSub]at h⊢<;>first|omega|(split<;>omega)
theorem qK{k:IntKind}:k.wrap n=n↔BB k<=n/\n<=rM k:=
 ⟨λh=>h▸G6 k n,eG⟩
theorem wrap_wrap(k:IntKind)(n:Int):k.wrap (k.wrap n)=k.wrap n:=eG (G6 k n)
theorem lo_le(k:IntKind):BB k<=0:=by cases k<;>decide
theorem Tv(k:IntKind):0<=rM k:=by cases k<;>decide
theorem L9{k:IntKind}{m:Int}(h:k.wrap m=m):k.wrap (m.tmod n)=m.tmod n:=by
 rw[qK]at h⊢;have h1:=lo_le k;have h2:=Tv k;rcases Int.le_total 0 m with hm|hm
 ·have h3:=Int.tmod_nonneg n hm
  have h4:m.tmod n<=m:=by
   have e1:=Int.natAbs_tmod m n;have e2:=Nat.mod_le m.natAbs n.natAbs;omega
  omega
 ·have h3:m.tmod n<=0:=by
   have:=Int.tmod_nonneg n (a:=-m) zd;rw[Int.neg_tmod]at this;omega
  have h4:m<=m.tmod n:=by
   have e1:=Int.natAbs_tmod m n;have e2:=Nat.mod_le m.natAbs n.natAbs;omega
  omega
theorem L0{k:IntKind}{m:Int}{j:Nat}(h:k.wrap m=m):k.wrap (m.fdiv (2^j))=m.fdiv (2^j):=by
 rw[qK]at h⊢;have h1:=lo_le k;have h2:=Tv k;have hp:(0:Int)<2^j:=Int.pow_pos zr;rw[adM _ zd];have h3:m/2^j*2^j<=m:=Int.ediv_mul_le m zd;have h4:m<(m/2^j+1)*2^j:=Int.lt_ediv_add_one_mul_self m hp;have h5:(1:Int)<=2^j:=zd
 rcases Int.le_total 0 m with hm|hm
 ·have:0<=m/2^j:=Int.ediv_nonneg hm zd;have:m/2^j<=m:=Int.ediv_le_self _ hm;omega
 ·have h6:m/2^j<=0:=Int.ediv_nonpos_of_nonpos_of_neg hm hp |> λh=>h
  have h7:m<=m/2^j:=by
   by_cases hc:m<=m/2^j
   ·exact hc
   ·exfalso;have h8:m/2^j+1<=m:=by omega
    have h9:(m/2^j+1)*2^j<=(m/2^j+1)*1:=Int.mul_le_mul_of_nonpos_left zd h5;omega
  omega
inductive DV where
 |bool (b:Bool)
 |int (k:IntKind) (n:Int)
 |str (s:List UInt8)
 |nilp
 |ptr (cs:List DV)
 |nilsl
 |sl (es:List (List DV))
 |agg (cs:List DV)
 |nilIface
 |iface (t:TypeId) (v:DV)
 |nilFunc
 |func (fn:Fn) (first caps:List DV)
 |nilmap
 deriving Inhabited
variable {d:DV}{es:List (List DV)}
abbrev Mem:=Addr->Value->Prop
variable {M M':Mem}
inductive Rd(M:Mem):Value->DV->Prop where
 |bool (b:Bool):Rd M (.bool b) (.bool b)
 |int (k:IntKind) (n:Int) (hw:k.wrap n=n):Rd M (.int k n) (.int k n)
 |str (s:ByteArray) (hl:s.data.toList.length<=9223372036854775807):Rd M (.string s) (.str s.data.toList)
 |nilp:Rd M (.pointer none) .nilp
 |ptr (b off:Nat) (vs:Nat->Value) (cs:List DV) (hm:∀i,i<cs.length->M ⟨b,off+i,none⟩ (vs i))
  (ho:∀i,i<cs.length->(vs i).oneCell'=true) (hr:∀i (h:i<cs.length),Rd M (vs i) cs[i]):Rd M (.pointer (some ⟨b,off,none⟩)) (.ptr cs)
 |nilsl:Rd M (.slice none 0 0) .nilsl
 |sl (b off cap sz:Nat) (es:List (List DV)) (vs:Nat->Nat->Value) (hl:∀e∈es,e.length=sz) (hc:es.length<=cap) (hb:es.length<=9223372036854775807)
  (hm:∀i,i<es.length->∀j,j<sz->M ⟨b,off+i*sz+j,none⟩ (vs i j))
  (ho:∀i,i<es.length->∀j,j<sz->(vs i j).oneCell'=true)
  (hr:∀i (hi:i<es.length) j (hj:j<es[i].length),Rd M (vs i j) es[i][j]):Rd M (.slice (some ⟨b,off,none⟩) es.length cap) (.sl es)
 |sl0 (a:Addr):Rd M (.slice (some a) 0 0) (.sl [])
 |agg (arr:Array Value) (cs:List DV) (hl:arr.size=cs.length) (ho:∀i (h:i<arr.size),arr[i].oneCell'=true)
  (hr:∀i (h:i<cs.length),Rd M (arr[i]' zd) cs[i]):Rd M (.agg arr) (.agg cs)
 |nilIface:Rd M .nilIface .nilIface
 |iface (t:TypeId) (v:Value) (d:DV) (h:Rd M v d):Rd M (.iface t v) (.iface t d)
 |nilFunc:Rd M .nilFunc .nilFunc
 |func (fn:Fn) (fs cs:Array Value) (fd cd:List DV) (hf:fs.size=fd.length) (hc:cs.size=cd.length)
  (hrf:∀i (h:i<fd.length),Rd M (fs[i]' zd) fd[i]) (hrc:∀i (h:i<cd.length),Rd M (cs[i]' zd) cd[i]) :
  Rd M (.func fn fs cs) (.func fn fd cd)
 |nilmap:Rd M (.map none) .nilmap
theorem Rd.mono(hM:∀a v,M a v->M' a v)(h:Rd M v d):Rd M' v d:=by
 induction h with
 |bool b=>exact .bool b
 |int k n hw=>exact .int k n hw
 |str s hl=>exact .str s hl
 |nilp=>exact .nilp
 |ptr b off vs cs hm ho _ ih=>exact .ptr b off vs cs (λi h=>hM _ _ (hm i h)) ho ih
 |nilsl=>exact .nilsl
 |sl b off cap sz es vs hl hc hb hm ho _ ih=>exact .sl b off cap sz es vs hl hc hb (λi h j hj=>hM _ _ (hm i h j hj)) ho ih
 |sl0 a=>exact .sl0 a
 |agg arr cs hl ho _ ih=>exact .agg arr cs hl ho ih
 |nilIface=>exact .nilIface
 |iface t v d _ ih=>exact .iface t v d ih
 |nilFunc=>exact .nilFunc
 |func fn fs cs fd cd hf hc _ _ ih1 ih2=>exact .func fn fs cs fd cd hf hc ih1 ih2
 |nilmap=>exact .nilmap
def DV.one:DV->Bool
 |.agg _=>false
 |_=>true
theorem Rd.SZ(h:Rd M v d):v.oneCell'=d.one:=by
 cases h<;>rfl
def yT(w:World)(F:Nat->Prop):Mem:=λa v=>F a.block/\w.cell? a=some v
abbrev Key:=Nat
variable {k κ kh:Key}{β β':Key->Nat}{g:Key->Key}{gi:Key->Option Key}{ks sel nk rds:List Key}
inductive qd where
 |d (x:DV)
 |ptr (k:Key) (off:Nat)
 |aO (k:Key) (off len sz:Nat)
 deriving Inhabited
inductive Ref where
 |d (x:DV)
 |ptr (k:Key) (off:Nat)
 |aO (k:Key) (off len sz:Nat)
 |agg (cs:List qd)
 |ifc (t:TypeId) (x:Ref)
 deriving Inhabited
variable {cr:List Ref}
inductive CV where
 |d (x:DV)
 |ptr (k:Key) (off:Nat)
 |aO (k:Key) (off len sz:Nat)
 |mapr (k:Key)
 |func (fn:Fn) (first caps:List Ref)
 |ifc (t:TypeId) (x:Ref)
 |junk
 |lsf (k:Key) (off len sz:Nat)
 deriving Inhabited
variable {cs xs zs cs':List CV}
inductive AV where
 |c (x:CV)
 |agg (cs:List CV)
 |tup (l:List AV)
 |undef
 |junk
 deriving Inhabited
variable {fs vals:List AV}{fr:Nat->AV}
inductive LB where
 |hole
 |dead
 |nils
 |cells (own fz:Bool) (T:TypeId) (cs:List CV)
 |map (own:Bool) (es:List (DV×AV))
 deriving Inhabited
variable {lv lv' L L':Key->LB}{us:List (Key×LB)}{ν σ σ':List LB}
structure aJ where
 fr:Nat->AV
 lv:Key->LB
variable {s:aJ}
def dN(w:World)(b:Nat):Nat:=
 match w.heap[b]? with
 |some (.cells arr _ _)=>arr.size
 |_=>0
structure Vw where
 F:Nat->Prop
 β:Key->Nat
 lv:Key->LB
 w:World
variable {V V':Vw}
def Vw.mem(V:Vw):Mem:=yT V.w V.F
def Vw.ff(V:Vw)(v:Value)(k:Key)(off:Nat):Prop:=
 match V.lv k with
 |.hole|.nils|.map ..=>False
 |.dead=>True
 |.cells ..=>v=.pointer (some ⟨V.β k,off,none⟩)
def Vw.cT(V:Vw)(v:Value)(k:Key)(off len sz:Nat):Prop:=
 match V.lv k with
 |.hole|.map ..=>False
 |.dead=>True
 |.nils=>v=.slice none 0 0/\off=0/\len=0
 |.cells ..=>∃cap,v=.slice (some ⟨V.β k,off,none⟩) len cap/\len<=cap/\off+cap*sz<=dN V.w (V.β k)
def Vw.qJ(V:Vw)(v:Value)(k:Key):Prop:=
 match V.lv k with
 |.map ..=>v=.map (some (V.β k))
 |.dead=>True
 |_=>False
def Vw.oP(V:Vw)(v:Value):qd->Prop
 |.d x=>Rd V.mem v x/\v.oneCell'=true
 |.ptr k off=>V.ff v k off/\v.oneCell'=true
 |.aO k off len sz=>V.cT v k off len sz/\v.oneCell'=true
def Vw.ref(V:Vw)(v:Value):Ref->Prop
 |.d x=>Rd V.mem v x
 |.ptr k off=>V.ff v k off/\v.oneCell'=true
 |.aO k off len sz=>V.cT v k off len sz/\v.oneCell'=true
 |.agg cs=>∃arr:Array Value,v=.agg arr/\arr.size=cs.length/\∀i (h:i<cs.length) (h':i<arr.size),V.oP arr[i] cs[i]
 |.ifc t x=>∃v',v=.iface t v'/\V.ref v' x
def Vw.cv(V:Vw)(v:Value):CV->Prop
 |.d x=>Rd V.mem v x/\v.oneCell'=true
 |.ptr k off=>V.ff v k off/\v.oneCell'=true
 |.aO k off len sz=>V.cT v k off len sz/\v.oneCell'=true
 |.mapr k=>V.qJ v k/\v.oneCell'=true
 |.func fn first caps=>∃fs cs:Array Value,v=.func fn fs cs/\fs.size=first.length/\cs.size=caps.length /\
  (∀i (h:i<first.length) (h':i<fs.size),V.ref fs[i] first[i])/\(∀i (h:i<caps.length) (h':i<cs.size),V.ref cs[i] caps[i])
 |.ifc t x=>∃v',v=.iface t v'/\V.ref v' x
 |.junk=>v.oneCell'=true
 |.lsf k off len sz=>(V.cT v k off len sz/\v.oneCell'=true)/\∀a n cap,v=.slice a n cap->cap=n
def Vw.wj(V:Vw)(v:Value):AV->Prop
 |.c x=>V.cv v x
 |.agg cs=>∃arr:Array Value,v=.agg arr/\arr.size=cs.length/\∀i (h:i<cs.length) (h':i<arr.size),V.cv arr[i] cs[i]
 |.tup _=>False
 |.undef=>v=Go.undef
 |.junk=>True
def Vw.av(V:Vw)(v:Value):AV->Prop
 |.tup l=>∃arr:Array Value,v=.tuple arr/\arr.size=l.length/\∀i (h:i<l.length) (h':i<arr.size),V.wj arr[i] l[i]
 |x=>V.wj v x
theorem Vw.iE{x:CV}(h:V.cv v x):v.oneCell'=true:=by
 cases x with
 |d x=>exact h.2
 |ptr k off=>exact h.2
 |aO k off len sz=>exact h.2
 |mapr k=>exact h.2
 |func fn f c=>obtain⟨_,_,rfl,_⟩:=h;rfl
 |ifc t x=>obtain⟨_,rfl,_⟩:=h;rfl
 |junk=>exact h
 |lsf k off len sz=>exact h.1.2
theorem lz(hF:∀b,F b->F' b)(hm:∀b,F b->w'.heap[b]?=w.heap[b]?):
 ∀a v,yT w F a v->yT w' F' a v:=by
 rintro a v ⟨h1,h2⟩;refine⟨hF _ h1,?_⟩;unfold World.cell? at*
 grind
structure Vw.jN(V V':Vw):Prop where
 F:∀b,V.F b->V'.F b
 mem:∀b,V.F b->V'.w.heap[b]?=V.w.heap[b]?
 ptr:∀v k off,V.ff v k off->V'.ff v k off
 aO:∀v k off len sz,V.cT v k off len sz->V'.cT v k off len sz
 map:∀v k,V.qJ v k->V'.qJ v k
theorem Vw.jN.oP(h:V.jN V'){x:qd}(hx:V.oP v x):V'.oP v x:=by
 cases x with
 |d x=>exact⟨Rd.mono (lz h.F h.mem) hx.1,hx.2⟩
 |ptr k off=>exact⟨h.ptr _ _ _ hx.1,hx.2⟩
 |aO k off len sz=>exact⟨h.aO _ _ _ _ _ hx.1,hx.2⟩
theorem Vw.jN.ref(h:V.jN V'){x:Ref}(hx:V.ref v x):V'.ref v x:=by
 induction x generalizing v with
 |d x=>exact Rd.mono (lz h.F h.mem) hx
 |ptr k off=>exact⟨h.ptr _ _ _ hx.1,hx.2⟩
 |aO k off len sz=>exact⟨h.aO _ _ _ _ _ hx.1,hx.2⟩
 |agg cs=>
  obtain⟨arr,rfl,h1,h2⟩:=hx;exact⟨arr,rfl,h1,λi a b=>h.oP (h2 i a b)⟩
 |ifc t x ih=>obtain⟨v',rfl,h1⟩:=hx;exact⟨v',rfl,ih h1⟩
theorem Vw.jN.cv(h:V.jN V'){x:CV}(hx:V.cv v x):V'.cv v x:=by
 cases x with
 |d x=>exact⟨Rd.mono (lz h.F h.mem) hx.1,hx.2⟩
 |ptr k off=>exact⟨h.ptr _ _ _ hx.1,hx.2⟩
 |aO k off len sz=>exact⟨h.aO _ _ _ _ _ hx.1,hx.2⟩
 |mapr k=>exact⟨h.map _ _ hx.1,hx.2⟩
 |func fn f c=>
  obtain⟨fs,cs,rfl,h1,h2,h3,h4⟩:=hx;exact⟨fs,cs,rfl,h1,h2,λi a b=>h.ref (h3 i a b),λi a b=>h.ref (h4 i a b)⟩
 |ifc t x=>
  obtain⟨v',rfl,h1⟩:=hx;exact⟨v',rfl,h.ref h1⟩
 |junk=>exact hx
 |lsf k off len sz=>exact⟨⟨h.aO _ _ _ _ _ hx.1.1,hx.1.2⟩,hx.2⟩
theorem Vw.jN.wj(h:V.jN V'){x:AV}(hx:V.wj v x):V'.wj v x:=by
 cases x with
 |c x=>exact h.cv (x:=x) hx
 |agg cs=>obtain⟨arr,rfl,h1,h2⟩:=hx;exact⟨arr,rfl,h1,λi a b=>h.cv (h2 i a b)⟩
 |tup l=>exact hx
 |undef=>exact hx
 |junk=>trivial
theorem Vw.jN.av(h:V.jN V'){x:AV}(hx:V.av v x):V'.av v x:=by
 cases x with
 |c x=>exact h.wj (x:=.c x) hx
 |agg cs=>exact h.wj (x:=.agg cs) hx
 |tup l=>obtain⟨arr,rfl,h1,h2⟩:=hx;exact⟨arr,rfl,h1,λi a b=>h.wj (h2 i a b)⟩
 |undef=>exact hx
 |junk=>trivial
def LB.sub:LB->LB->Prop
 |.hole,_=>True
 |_,.dead=>True
 |.nils,.nils=>True
 |.cells ..,.cells ..=>True
 |.map ..,.map ..=>True
 |_,_=>False
theorem Vw.j0(hF:∀b,V.F b->V'.F b)(hm:∀b,V.F b->V'.w.heap[b]?=V.w.heap[b]?)
 (hk:∀k,(V.lv k).sub (V'.lv k)) (hβ:∀k,V.lv k≠.hole->V'.lv k≠.dead->V'.β k=V.β k)
 (ha:∀b,dN V.w b<=dN V'.w b):V.jN V':=by
 refine⟨hF,hm,?_,?_,?_⟩
 ·intro v k off h;have h1:=hk k;have h2:=hβ k;unfold Vw.ff at*
  cases e:V.lv k<;>cases e':V'.lv k<;>simp[e,e',LB.sub]at h h1 h2⊢<;>(try rw[h2])<;>assumption
 ·intro v k off len sz h;have h1:=hk k;have h2:=hβ k;unfold Vw.cT at*
  cases e:V.lv k<;>cases e':V'.lv k<;>simp[e,e',LB.sub]at h h1 h2⊢<;>(try rw[h2])<;>(try assumption)
  grind
 ·intro v k h;have h1:=hk k;have h2:=hβ k;unfold Vw.qJ at*
  cases e:V.lv k<;>cases e':V'.lv k<;>simp[e,e',LB.sub]at h h1 h2⊢<;>(try rw[h2])<;>assumption
structure Ctx where
 P:Program
 G:List (List DV)
 w0:World
 F0:Nat->Prop
 W0:Nat->Prop
 n:Nat
 jd:Key->LB
 β0:Key->Nat
 ds:List Deferred:=[]
variable {c:Ctx}
def iM(c:Ctx)(own:Bool)(b:Nat):Prop:=if own then c.w0.heap.size<=b else c.w0.heap.size<=b\/c.W0 b
def Vw.dj(V:Vw)(c:Ctx)(k:Key):Prop:=
 match V.lv k with
 |.cells own fz T cs=>∃arr:Array Value,V.w.heap[V.β k]?=some (.cells arr T (0,0))/\cs.length<=arr.size /\
  (∀i (h:i<cs.length) (h':i<arr.size),V.cv arr[i] cs[i])/\(if fz then V.F (V.β k)else ¬V.F (V.β k))/\iM c own (V.β k)
 |.map own es=>∃ents clock,V.w.heap[V.β k]?=some (.map ents clock)/\ents.size=es.length /\
  (∀i (h:i<es.length) (h':i<ents.size),Rd V.mem ents[i].key es[i].1/\V.wj ents[i].val es[i].2)/\¬V.F (V.β k)/\iM c own (V.β k)
 |_=>True
def LB.live:LB->Bool
 |.cells _ false _ _=>true
 |.map ..=>true
 |_=>false
structure aR(c:Ctx)(F:Nat->Prop)(β:Key->Nat)(s:aJ)(a:Act)(w:World):Prop where
 dj:∀k,(Vw.mk F β s.lv w).dj c k
 inj:∀k k',(s.lv k).live=true->(s.lv k').live=true->β k=β k'->k=k'
 fr:∀t,(Vw.mk F β s.lv w).av (a.tmps.getD t undef) (s.fr t)
 size:a.tmps.size=c.n
 defers:a.defers=c.ds
 tC:∀b,F b->b<w.heap.size/\(c.F0 b\/c.w0.heap.size<=b)
 F0:∀b,c.F0 b->F b
 old:∀b,b<c.w0.heap.size->¬c.W0 b->w.heap[b]?=c.w0.heap[b]?
 ge:c.w0.heap.size<=w.heap.size
 uX:∀g cs,c.G[g]?=some cs->Rd (yT w F) (.pointer (some ⟨g,0,none⟩)) (.ptr cs)
 keep:∀k,c.jd k≠.hole->s.lv k=.dead\/(β k=c.β0 k/\(c.jd k).sub (s.lv k))
 Ls:∀b,dN c.w0 b<=dN w b
 Hs:w.os=c.w0.os/\w.output=c.w0.output
theorem LB.Ci{x y z:LB}(h1:x.sub y)(h2:y.sub z)(hy:x≠.hole):x.sub z:=by
 cases x<;>cases y<;>cases z<;>simp[LB.sub]at h1 h2 hy ⊢
theorem LB.Om{x:LB}(h:x.sub .hole):x=.hole:=by
 cases x<;>simp[LB.sub]at h ⊢
theorem LB.OD{x:LB}(h:LB.dead.sub x):x=.dead:=by
 cases x<;>simp[LB.sub]at h ⊢
theorem Vw.dR(h:V.dj c k)(hK:V.jN V')(hl:V'.lv k=V.lv k)(hβ:V'.β k=V.β k)
 (hm:V'.w.heap[V.β k]?=V.w.heap[V.β k]?) (hF:(V.lv k).live=true->(V'.F (V.β k)->V.F (V.β k))):V'.dj c k:=by
 unfold Vw.dj at*
 rw[hl]
 cases e:V.lv k with
 |cells own fz T cs=>
  rw[e]at h hF;obtain⟨arr,h1,h2,h3,h4,h5⟩:=h;refine⟨arr,yn,h2,λi a b=>hK.cv (h3 i a b),?_,yn⟩;rw[hβ]
  cases fz with
  |true=>exact hK.F _ h4
  |false=>exact λhf=>h4 (hF rfl hf)
 |map own es=>
  rw[e]at h hF;obtain⟨ents,clock,h1,h2,h3,h4,h5⟩:=h;refine⟨ents,clock,yn,h2,λi a b=>⟨Rd.mono (lz hK.F hK.mem) (h3 i a b).1,hK.wj (h3 i a b).2⟩,?_,yn⟩;rw[hβ];exact λhf=>h4 (hF rfl hf)
 |hole=>trivial
 |dead=>trivial
 |nils=>trivial
theorem aR.step(h:aR c F β s a w)
 (hF:∀b,F b->F' b) (hm:∀b,F b->w'.heap[b]?=w.heap[b]?)
 (hk:∀k,(s.lv k).sub (lv' k)) (hβ:∀k,s.lv k≠.hole->lv' k≠.dead->β' k=β k) (ha:∀b,dN w b<=dN w' b)
 (hblk:∀k,(Vw.mk F β s.lv w).jN (Vw.mk F' β' lv' w')->(Vw.mk F' β' lv' w').dj c k)
 (hinj:∀k k',(lv' k).live=true->(lv' k').live=true->β' k=β' k'->k=k')
 (hFlt:∀b,F' b->F b\/(b<w'.heap.size/\c.w0.heap.size<=b)) (hsz:w.heap.size<=w'.heap.size)
 (hold:∀b,b<c.w0.heap.size->¬c.W0 b->w'.heap[b]?=w.heap[b]?)
 (hoo:w'.os=w.os/\w'.output=w.output:=by exact⟨rfl,rfl⟩):aR c F' β' ⟨s.fr,lv'⟩ a w':=by
 have hK:(Vw.mk F β s.lv w).jN (Vw.mk F' β' lv' w'):=Vw.j0 hF hm hk hβ ha;refine⟨λk=>hblk k hK,hinj,λt=>hK.av (h.fr t),h.size,h.defers,?_,λb hb=>hF b (h.F0 b hb),?_,HQ h.ge hsz,?_,?_,λb=>HQ (h.Ls b) (ha b),⟨hoo.1.trans h.Hs.1,hoo.2.trans h.Hs.2⟩⟩
 ·intro b hb;rcases hFlt b hb with h1|⟨h1,h2⟩
  ·exact⟨adA (h.tC b h1).1 hsz,(h.tC b h1).2⟩
  omega
 ·intro b h1 h2;rw[hold b h1 h2];exact h.old b h1 h2
 ·intro g cs hg;exact Rd.mono (lz hF hm) (h.uX g cs hg)
 ·intro k h0;rcases h.keep k h0 with h1|⟨h1,h2⟩
  ·left;have:=hk k;rw[h1]at this;exact LB.OD this
  ·by_cases hd:lv' k=.dead
   ·grind
   ·right;have hnh:s.lv k≠.hole:=λe=>h0 (LB.Om (e▸h2))
    exact⟨(hβ k hnh hd).trans h1,LB.Ci h2 (hk k) h0⟩
def aM(f:Nat->α)(k:Nat)(x:α):Nat->α:=λt=>if t=k then x else f t
theorem aI(f:Nat->α)(k:Nat)(x:α):aM f k x k=x:=np
theorem bt(f:Nat->α){k t:Nat}(x:α)(h:t≠k):aM f k x t=f t:=by simp[aM,h]
theorem N6(a:Act)(d t:Nat)(v:Value)(h:d<a.tmps.size):
 (a.put (some d) v).tmps.getD t undef=if t=d then v else a.tmps.getD t undef:=by
 simp only[Act.put,aeK,Array.getElem?_setIfInBounds]
 grind
theorem aR.put(h:aR c F β s a w){d:Nat}(hd:d<c.n){x:AV}
 (hv:(Vw.mk F β s.lv w).av v x):aR c F β ⟨aM s.fr d x,s.lv⟩ (a.put (some d) v) w:=by
 refine⟨h.dj,h.inj,?_,by simp[Act.put,h.size],h.defers,h.tC,h.F0,h.old,h.ge,h.uX,h.keep,h.Ls,h.Hs⟩;intro t;rw[N6 _ _ _ _ (by rw[h.size];exact hd)]
 by_cases e:t=d
 ·subst e;simp only[if_true];show(Vw.mk F β s.lv w).av v (aM s.fr t x t);rw[aI];exact hv
 ·simp only[if_neg e];show(Vw.mk F β s.lv w).av _ (aM s.fr d x t);rw[bt _ _ e];exact h.fr t
def aJ.put(s:aJ)(dst:Option Nat)(x:AV):aJ:=
 match dst with
 |some d=>⟨aM s.fr d x,s.lv⟩
 |none=>s
theorem aR.IE(h:aR c F β s a w){dst:Option Nat}(hd:∀d,dst=some d->d<c.n){x:AV}
 (hv:(Vw.mk F β s.lv w).av v x):aR c F β (s.put dst x) (a.put dst v) w:=by
 cases dst with
 |none=>exact h
 |some d=>exact h.put (hd d rfl) hv
theorem aR.heap(h:aR c F β s a w)(hw:w'.heap=w.heap)(hoo:w'.os=w.os/\w'.output=w.output:=by exact⟨rfl,rfl⟩):aR c F β s a w':=by
 have:∀b,dN w b<=dN w' b:=λb=>by simp[dN,hw]
 have hk:∀k,(s.lv k).sub (s.lv k):=λk=>by cases e:s.lv k<;>simp[LB.sub]
 refine h.step (F':=F) (β':=β) (lv':=s.lv) (λ_ h=>h) (λb _=>by rw[hw]) hk (λ_ _ _=>rfl) this
  (λk hK=>Vw.dR (h.dj k) hK rfl rfl (by simp[hw]) (λ_ h=>h)) h.inj (λb h=>.inl h) yn (λb _ _=>by rw[hw]) hoo
theorem LB.cF(x:LB):x.sub x:=by cases x<;>simp[LB.sub]
theorem heap_alloc(w:World)(o:Obj)(b:Nat):(w.alloc o).heap[b]?=if b=w.heap.size then some o else w.heap[b]?:=by
 simp only[World.alloc,Array.getElem?_push]
theorem qI(w:World)(o:Obj)(b:Nat):dN w b<=dN (w.alloc o) b:=by
 unfold dN;rw[heap_alloc]
 grind
theorem Ay{b:Nat}{o:Obj}(h:w.heap[b]?=some o):b<w.heap.size:=
 (Array.getElem?_eq_some_iff.1 h).1
section
variable {c:Ctx}{F:Nat->Prop}{β:Key->Nat}{s:aJ}{a:Act}{w:World}
theorem aR.mF(h:aR c F β s a w)(hl:(s.lv k).live=true):β k<w.heap.size:=by
 have hb:=h.dj k;unfold Vw.dj at hb
 cases e:s.lv k with
 |cells own fz T cs=>grind
 |map own es=>grind
 |hole=>simp[e,LB.live]at hl
 |dead=>simp[e,LB.live]at hl
 |nils=>simp[e,LB.live]at hl
theorem aR.vp(h:aR c F β s a w)(hl:(s.lv k).live=true):¬F (β k):=by
 have hb:=h.dj k;unfold Vw.dj at hb
 cases e:s.lv k with
 |cells own fz T cs=>
  simp only[e]at hb hl;obtain⟨arr,h1,h2,h3,h4,h5⟩:=hb
  cases fz with
  |true=>simp[LB.live]at hl
  |false=>exact h4
 |map own es=>grind
 |hole=>simp[e,LB.live]at hl
 |dead=>simp[e,LB.live]at hl
 |nils=>simp[e,LB.live]at hl
theorem aR.jk(h:aR c F β s a w)(hl:(s.lv k).live=true):c.w0.heap.size<=β k\/c.W0 (β k):=by
 have hb:=h.dj k;unfold Vw.dj at hb
 have key:∀own,iM c own (β k)->c.w0.heap.size<=β k\/c.W0 (β k):=by
  intro own ho;unfold iM at ho;cases own<;>simp at ho
  ·exact ho
  ·omega
 cases e:s.lv k with
 |cells own fz T cs=>grind
 |map own es=>grind
 |hole=>simp[e,LB.live]at hl
 |dead=>simp[e,LB.live]at hl
 |nils=>simp[e,LB.live]at hl
theorem aR.alloc(h:aR c F β s a w)(hκ:s.lv κ=.hole)(T:TypeId)(hl:cs.length<=arr.size)
 (hc:∀i (h:i<cs.length) (h':i<arr.size),(Vw.mk F β s.lv w).cv arr[i] cs[i]) :
 aR c F (aM β κ w.heap.size) ⟨s.fr,aM s.lv κ (.cells true false T cs)⟩ a (w.alloc (.cells arr T)):=by
 have hnew:∀b,F b->b≠w.heap.size:=λb hb e=>by have:=(h.tC b hb).1;omega
 refine h.step (λ_ h=>h) (λb hb=>by rw[heap_alloc,if_neg (hnew b hb)]) ?_ ?_ (qI w _) ?_ ?_ (λb h=>.inl h) zp ?_
 ·intro k
  by_cases e:k=κ
  ·subst e;rw[hκ];simp[LB.sub]
  ·rw[bt _ _ e];exact LB.cF _
 ·intro k hk _;have e:k≠κ:=λe=>hk (e▸hκ)
  exact bt _ _ e
 ·intro k hK
  by_cases e:k=κ
  ·subst e;simp only[Vw.dj,aI];refine⟨arr,by rw[heap_alloc,if_pos rfl],hl,λi x y=>hK.cv (hc i x y),?_,h.ge⟩
   grind
  ·have hb:=h.dj k
   by_cases hcl:∃own fz T' cs',s.lv k=.cells own fz T' cs'
   ·obtain⟨own,fz,T',cs',ek⟩:=hcl;refine Vw.dR hb hK (bt _ _ e) (bt _ _ e) ?_ (λ_ h=>h);unfold Vw.dj at hb;simp only[ek]at hb;obtain⟨arr',h1,_⟩:=hb;have:=Ay h1;show(w.alloc _).heap[β k]?=_;rw[heap_alloc,if_neg zd]
   ·by_cases hml:∃own es,s.lv k=.map own es
    ·obtain⟨own,es,ek⟩:=hml;refine Vw.dR hb hK (bt _ _ e) (bt _ _ e) ?_ (λ_ h=>h);unfold Vw.dj at hb;simp only[ek]at hb;obtain⟨x,y,h1,_⟩:=hb;have:=Ay h1;show(w.alloc _).heap[β k]?=_;rw[heap_alloc,if_neg zd]
    ·unfold Vw.dj;simp only[bt _ _ e]
     grind
 ·intro k k' hk hk' he
  by_cases e:k=κ<;>by_cases e':k'=κ
  ·rw[e,e']
  ·subst e;rw[bt _ _ e']at hk';rw[aI,bt _ _ e']at he;have:=h.mF hk';omega
  ·subst e';rw[bt _ _ e]at hk;rw[aI,bt _ _ e]at he;have:=h.mF hk;omega
  ·rw[bt _ _ e]at hk he;rw[bt _ _ e']at hk' he;exact h.inj k k' hk hk' he
 ·intro b hb _;have:=h.ge;rw[heap_alloc,if_neg zd]
theorem ku(w:World)(g:Nat)(old arr:Array Value)(T:TypeId)(fr:Nat×Nat)(hg:w.heap[g]?=some (.cells old T fr))(hs:arr.size=old.size)(b:Nat):
 dN (w.setRow g arr) b=dN w b:=by
 unfold dN
 by_cases e:b=g
 ·subst e;rw[setRow_heap w b old arr T fr hg,hg];exact hs
 ·rw[setRow_other w g b arr e]
theorem aR.setRow(h:aR c F β s a w)(hk:s.lv k=.cells own false T cs){old:Array Value}
 (hg:w.heap[β k]?=some (.cells old T (0,0))) (hs:arr.size=old.size) (hl:cs'.length<=arr.size)
 (hc:∀i (h:i<cs'.length) (h':i<arr.size),(Vw.mk F β s.lv w).cv arr[i] cs'[i]) :
 aR c F β ⟨s.fr,aM s.lv k (.cells own false T cs')⟩ a (w.setRow (β k) arr):=by
 have hlive:(s.lv k).live=true:=dC
 have hnF:=h.vp hlive
 have hsub:∀k',(s.lv k').sub (aM s.lv k (.cells own false T cs') k'):=by
  intro k'
  by_cases e:k'=k
  ·subst e;rw[hk,aI];simp[LB.sub]
  ·rw[bt _ _ e];exact LB.cF _
 refine h.step (λ_ h=>h) (λb hb=>setRow_other _ _ _ _ (λe=>hnF (e▸hb))) hsub (λ_ _ _=>rfl)
  (λb=>by rw[ku w (β k) old arr T (0,0) hg hs b];simp) ?_ ?_ (λb h=>.inl h) zp ?_
 ·intro k' hK
  by_cases e:k'=k
  ·subst e;have hb:=h.dj k';unfold Vw.dj at hb⊢;simp only[hk]at hb;simp only[aI];obtain⟨arr',h1,h2,h3,h4,h5⟩:=hb;exact⟨arr,setRow_heap w _ old arr T (0,0) hg,hl,λi x y=>hK.cv (hc i x y),h4,h5⟩
  ·have hne:(s.lv k').live=true->β k'≠β k:=λhl' he=>e (h.inj _ _ hl' hlive he)
   have hb:=h.dj k'
   by_cases hlk:(s.lv k').live=true
   ·exact Vw.dR hb hK (bt _ _ e) rfl (setRow_other _ _ _ _ (hne hlk)) (λ_ h=>h)
   ·cases ek:s.lv k' with
    |cells own' fz T' cs''=>
     cases fz with
     |false=>rw[ek]at hlk;exact absurd rfl hlk
     |true=>
      refine Vw.dR hb hK (bt _ _ e) rfl (setRow_other _ _ _ _ ?_) (λ_ h=>h);unfold Vw.dj at hb;grind
    |map own es=>rw[ek]at hlk;exact absurd rfl hlk
    |hole=>unfold Vw.dj;simp only[bt _ _ e,ek]
    |dead=>unfold Vw.dj;simp only[bt _ _ e,ek]
    |nils=>unfold Vw.dj;simp only[bt _ _ e,ek]
 ·intro k1 k2 h1 h2 he
  have g:∀k',(aM s.lv k (.cells own false T cs') k').live=true->(s.lv k').live=true:=by
   intro k' hk'
   by_cases e:k'=k
   ·grind
   ·rwa[bt _ _ e]at hk'
  exact h.inj k1 k2 (g _ h1) (g _ h2) he
 ·intro b hb hW;refine setRow_other _ _ _ _ (λe=>?_);rcases h.jk hlive with h1|h1
  ·omega
  grind
theorem aR.kill(h:aR c F β s a w)(k:Key):aR c F β ⟨s.fr,aM s.lv k .dead⟩ a w:=by
 refine h.step (λ_ h=>h) (λ_ _=>rfl) ?_ (λ_ _ _=>rfl) (λ_=>bf _) ?_ ?_ (λb h=>.inl h) (bf _) (λ_ _ _=>rfl)
 ·intro k'
  by_cases e:k'=k
  ·subst e;rw[aI];cases s.lv k'<;>simp[LB.sub]
  ·rw[bt _ _ e];exact LB.cF _
 ·intro k' hK
  by_cases e:k'=k
  ·subst e;unfold Vw.dj;simp only[aI]
  ·exact Vw.dR (h.dj k') hK (bt _ _ e) rfl rfl (λ_ h=>h)
 ·intro k1 k2 h1 h2 he
  have g:∀k',(aM s.lv k .dead k').live=true->(s.lv k').live=true:=by
   intro k' hk'
   by_cases e:k'=k
   ·subst e;rw[aI]at hk';simp[LB.live]at hk'
   ·rwa[bt _ _ e]at hk'
  exact h.inj k1 k2 (g _ h1) (g _ h2) he
theorem aR.move(h:aR c F β s a w)(hk:s.lv k=.cells own false T cs)(hκ:s.lv κ=.hole)
 (hg:w.heap[β k]?=some (.cells arr T (0,0))) (hl:cs'.length<=arr.size)
 (hc:∀i (h:i<cs'.length) (h':i<arr.size),(Vw.mk F β s.lv w).cv arr[i] cs'[i]) :
 aR c F (aM β κ (β k)) ⟨s.fr,aM (aM s.lv k .dead) κ (.cells own false T cs')⟩ a w:=by
 have hlive:(s.lv k).live=true:=dC
 have hkκ:k≠κ:=λe=>by grind
 refine h.step (λ_ h=>h) (λ_ _=>rfl) ?_ ?_ (λ_=>bf _) ?_ ?_ (λb h=>.inl h) (bf _) (λ_ _ _=>rfl)
 ·intro k'
  by_cases e:k'=κ
  ·subst e;rw[hκ];simp[LB.sub]
  ·rw[bt _ _ e]
   by_cases e':k'=k
   ·subst e';rw[aI,hk];simp[LB.sub]
   ·rw[bt _ _ e'];exact LB.cF _
 ·intro k' hk' _;have e:k'≠κ:=λe=>hk' (e▸hκ)
  exact bt _ _ e
 ·intro k' hK
  by_cases e:k'=κ
  ·subst e;have hb:=h.dj k;unfold Vw.dj at hb⊢;simp only[hk]at hb;simp only[aI];obtain⟨arr',h1,h2,h3,h4,h5⟩:=hb;exact⟨arr,hg,hl,λi x y=>hK.cv (hc i x y),h4,h5⟩
  ·by_cases e':k'=k
   ·subst e';unfold Vw.dj;simp only[bt _ _ e,aI]
   ·exact Vw.dR (h.dj k') hK (by show aM (aM s.lv k .dead) κ _ k'=s.lv k';rw[bt _ _ e,bt _ _ e']) (bt _ _ e) rfl (λ_ h=>h)
 ·have g:∀k',k'≠κ->(aM (aM s.lv k .dead) κ (.cells own false T cs') k').live=true->(s.lv k').live=true/\k'≠k:=by
   intro k' e hk';rw[bt _ _ e]at hk'
   by_cases e':k'=k
   ·subst e';rw[aI]at hk';simp[LB.live]at hk'
   ·rw[bt _ _ e']at hk';grind
  intro k1 k2 h1 h2 he
  by_cases e1:k1=κ<;>by_cases e2:k2=κ
  ·rw[e1,e2]
  ·have:=g k2 e2 h2;rw[e1,aI,bt _ _ e2]at he;exact absurd (h.inj _ _ hlive this.1 he).symm this.2
  ·have:=g k1 e1 h1;rw[e2,aI,bt _ _ e1]at he;exact absurd (h.inj _ _ this.1 hlive he) this.2
  ·rw[bt _ _ e1,bt _ _ e2]at he;exact h.inj _ _ (g k1 e1 h1).1 (g k2 e2 h2).1 he
theorem aR.freeze(h:aR c F β s a w)(hk:s.lv k=.cells true false T cs):
 aR c (λb=>F b\/b=β k) β ⟨s.fr,aM s.lv k (.cells true true T cs)⟩ a w:=by
 have hlive:(s.lv k).live=true:=dC
 have hlt:=h.mF hlive;have hb0:=h.dj k;unfold Vw.dj at hb0;simp only[hk]at hb0;obtain⟨arr,h1,h2,h3,h4,h5⟩:=hb0
 have g:∀k',(aM s.lv k (.cells true true T cs) k').live=true->(s.lv k').live=true/\k'≠k:=by
  intro k' hk'
  by_cases e':k'=k
  ·subst e';rw[aI]at hk';simp[LB.live]at hk'
  ·rw[bt _ _ e']at hk';grind
 refine h.step (λ_ h=>.inl h) (λ_ _=>rfl) ?_ (λ_ _ _=>rfl) (λ_=>bf _) ?_ ?_ ?_ (bf _) (λ_ _ _=>rfl)
 ·intro k'
  by_cases e:k'=k
  ·subst e;rw[aI,hk];simp[LB.sub]
  ·rw[bt _ _ e];exact LB.cF _
 ·intro k' hK
  by_cases e:k'=k
  ·subst e;unfold Vw.dj;simp only[aI];exact⟨arr,h1,h2,λi x y=>hK.cv (h3 i x y),zp,h5⟩
  ·refine Vw.dR (h.dj k') hK (bt _ _ e) rfl rfl (λhl hf=>?_);rcases hf with hf|hf
   ·exact hf
   ·exact absurd (h.inj _ _ hl hlive hf) e
 ·intro k1 k2 a1 a2 he;exact h.inj _ _ (g _ a1).1 (g _ a2).1 he
 ·intro b hb;rcases hb with hb|hb
  ·grind
  ·subst hb;exact .inr ⟨hlt,by simpa[iM]using h5⟩
end
def IW:Value->CV
 |.bool b=>.d (.bool b)
 |.int k n=>if k.wrap n=n then .d (.int k n)else .junk
 |.string s=>if s.data.toList.length<=9223372036854775807 then .d (.str s.data.toList)else .junk
 |.pointer none=>.d .nilp
 |.slice none 0 0=>.d .nilsl
 |.nilIface=>.d .nilIface
 |.nilFunc=>.d .nilFunc
 |.map none=>.d .nilmap
 |_=>.junk
def yL(v:Value):AV:=
 match v with
 |.agg arr=>if arr.toList.all (·.oneCell')then .agg (arr.toList.map IW)else .junk
 |.tuple _=>.junk
 |v=>.c (IW v)
def aJ.val(G:List (List DV))(s:aJ):Operand->AV
 |.tmp t=>s.fr t
 |.const v=>yL v
 |.global g=>match G[g]? with|some cs=>.c (.d (.ptr cs))|none=>.junk
 |.func f=>.c (.d (.func (.func f) [] []))
theorem P5(V:Vw)(v:Value)(h:v.oneCell'=true):V.cv v (IW v):=by
 unfold IW;split
 case h_1 b=>exact⟨.bool b,rfl⟩
 case h_2 k n=>split
               ·rename_i hw;exact⟨.int k n hw,rfl⟩
               rfl
 case h_3 s=>split
             ·rename_i hl;exact⟨.str s hl,rfl⟩
             rfl
 case h_4=>exact⟨.nilp,rfl⟩
 case h_5=>exact⟨.nilsl,rfl⟩
 case h_6=>exact⟨.nilIface,rfl⟩
 case h_7=>exact⟨.nilFunc,rfl⟩
 case h_8=>exact⟨.nilmap,rfl⟩
 case h_9=>exact h
theorem AM(V:Vw)(v:Value):V.av v (yL v):=by
 unfold yL;split
 case h_1 arr=>
  split
  ·rename_i h
   refine⟨arr,rfl,zp,λi x y=>?_⟩;simp only[rP,afu];refine P5 V _ ?_
   grind
  ·trivial
 case h_2=>trivial
 case h_3 h1 h2=>
  refine P5 V v ?_
  cases v<;>first|rfl|exact absurd rfl (h1 _)|grind
section
variable {c:Ctx}{F:Nat->Prop}{β:Key->Nat}{s:aJ}{a:Act}{w:World}
theorem aR.val(h:aR c F β s a w)(x:Operand):(Vw.mk F β s.lv w).av (a.eval x) (s.val c.G x):=by
 cases x with
 |tmp t=>exact h.fr t
 |const v=>exact AM _ v
 |global g=>
  simp only[aJ.val];split
  ·rename_i cs hg;exact⟨h.uX g cs hg,rfl⟩
  ·trivial
 |func f=>exact⟨.func _ _ _ _ _ rfl rfl (λi h=>absurd h (aer i)) (λi h=>absurd h (aer i)),rfl⟩
def di(c:Ctx)(o:Oper)(s s':aJ):Prop:=
 ∀(F:Nat->Prop) (β:Key->Nat) (a:Act) (w:World) (K:Act->World->Prop) (Q:Exit->Act->World->Prop),aR c F β s a w ->
  (∀F' β' a' w',aR c F' β' s' a' w'->K a' w')->o.wp c.P a w K Q
theorem di.gN{x:AV}(hd:∀d,o.dst=some d->d<c.n)
 (h:∀F β a w,aR c F β s a w->∃v F' β' w',(execOp a.eval o).run c.P w=.ok (.value v) w'/\aR c F' β' ⟨s.fr,lv'⟩ a w'/\(Vw.mk F' β' lv' w').av v x) :
 di c o s (aJ.put ⟨s.fr,lv'⟩ o.dst x):=by
 intro F β a w K Q hs hK;obtain⟨v,F',β',w',hr,hs',hv⟩:=h F β a w hs;unfold Oper.wp;rw[hr,Oper.upon_value];exact hK F' β' _ _ (hs'.IE hd hv)
theorem di.bA{x:AV}(hd:∀d,o.dst=some d->d<c.n)
 (h:∀F β a w,aR c F β s a w->∃v,(execOp a.eval o).run c.P w=.ok (.value v) w/\(Vw.mk F β s.lv w).av v x) :
 di c o s (s.put o.dst x):=
 di.gN (lv':=s.lv) hd λF β a w hs=>let ⟨v,h1,h2⟩:=h F β a w hs;⟨v,F,β,w,h1,hs,h2⟩
theorem zQ(V:Vw):V.av undef .undef:=rfl
theorem di.SE(hd:∀d,o.dst=some d->d<c.n)
 (h:∀F β a w,aR c F β s a w->∃F' β' w',(execOp a.eval o).run c.P w=.ok .skip w'/\aR c F' β' ⟨s.fr,lv'⟩ a w') :
 di c o s (aJ.put ⟨s.fr,lv'⟩ o.dst .undef):=by
 intro F β a w K Q hs hK;obtain⟨F',β',w',hr,hs'⟩:=h F β a w hs;unfold Oper.wp;rw[hr,Oper.upon_skip];exact hK F' β' _ _ (hs'.IE hd (zQ _))
theorem GO(hd:∀d,o.dst=some d->d<c.n)(ho:o.op=.move x\/o.op=.assign x):di c o s (s.put o.dst (s.val c.G x)):=
 di.bA hd λF β a w hs=>⟨a.eval x,by rcases ho with ho|ho<;>simp[execOp,ho],hs.val x⟩
theorem Fv{t:Operand}(hd:∀d,o.dst=some d->d<c.n)(ho:o.op=.pick t x y)(ht:s.val c.G t=.c (.d (.bool b))):
 di c o s (s.put o.dst (if b then s.val c.G x else s.val c.G y)):=
 di.bA hd λF β a w hs=>by
  have h1:=hs.val t;rw[ht]at h1;obtain⟨h1,_⟩:=h1;generalize he:a.eval t=v at h1
  cases h1
  cases b with
  |true=>exact⟨a.eval x,by simp[execOp,ho,he,asBool],by simpa using hs.val x⟩
  |false=>exact⟨a.eval y,by simp[execOp,ho,he,asBool],by simpa using hs.val y⟩
theorem Vw.A8(h:V.av v (.c (.d (.bool b)))):v=.bool b:=by
 obtain⟨h,_⟩:=h;cases h;rfl
theorem Vw.gR{k:IntKind}(h:V.av v (.c (.d (.int k n)))):v=.int k n:=by
 obtain⟨h,_⟩:=h;cases h;rfl
theorem Vw.pY{l:List UInt8}(h:V.av v (.c (.d (.str l)))):v=.string ⟨l.toArray⟩:=by
 obtain⟨h,_⟩:=h;cases h;rfl
theorem Vw.pF(V:Vw)(k:IntKind)(n:Int)(hw:k.wrap n=n):V.av (.int k n) (.c (.d (.int k n))):=⟨.int k n hw,rfl⟩
theorem Vw.uP{k:IntKind}(h:V.av v (.c (.d (.int k n)))):k.wrap n=n:=by
 obtain⟨h,_⟩:=h;cases h;omega
theorem Vw.Ej{l:List UInt8}(h:V.av v (.c (.d (.str l)))):l.length<=9223372036854775807:=by
 obtain⟨h,_⟩:=h;cases h;omega
theorem Vw.o7(V:Vw)(b:Bool):V.av (.bool b) (.c (.d (.bool b))):=⟨.bool b,rfl⟩
theorem Vw.qC(V:Vw)(l:List UInt8)(hl:l.length<=9223372036854775807):V.av (.string ⟨l.toArray⟩) (.c (.d (.str l))):=⟨by have:=Rd.str (M:=V.mem) ⟨l.toArray⟩ zd;omega,rfl⟩
def om(op:BinOp)(k:IntKind)(x y:Int):Option DV:=
 match op with
 |.add=>some (.int k (k.wrap (x+y)))
 |.sub=>some (.int k (k.wrap (x-y)))
 |.mul=>some (.int k (k.wrap (x*y)))
 |.quo=>some (.int k (k.wrap (x.tdiv y)))
 |.rem=>some (.int k (x.tmod y))
 |.and=>some (.int k (k.wrap (BitVec.ofInt k.bits x&&&BitVec.ofInt k.bits y).toNat))
 |.or=>some (.int k (k.wrap (BitVec.ofInt k.bits x |||BitVec.ofInt k.bits y).toNat))
 |.xor=>some (.int k (k.wrap (BitVec.ofInt k.bits x ^^^ BitVec.ofInt k.bits y).toNat))
 |.andNot=>some (.int k (k.wrap (BitVec.ofInt k.bits x &&& ~~~BitVec.ofInt k.bits y).toNat))
 |.eql=>some (.bool (x==y))
 |.neq=>some (.bool (x != y))
 |.lss=>some (.bool (decide (x<y)))
 |.leq=>some (.bool (decide (x<=y)))
 |.gtr=>some (.bool (decide (y<x)))
 |.geq=>some (.bool (decide (y<=x)))
 |_=>none
def jl(op:BinOp)(y:Int):Prop:=
 match op with
 |.quo|.rem=>y≠0
 |_=>True
def shI(op:BinOp)(k:IntKind)(x y:Int):Option DV:=
 match op with
 |.shl=>some (.int k (k.wrap (x*2^(min y.toNat k.bits))))
 |.shr=>some (.int k (x.fdiv (2^(min y.toNat k.bits))))
 |_=>none
def DV.LW:DV->Value
 |.bool b=>.bool b
 |.int k n=>.int k n
 |.str l=>.string ⟨l.toArray⟩
 |_=>undef
def DV.qW:DV->Bool
 |.bool _|.int ..|.str _=>true
 |_=>false
def DV.rng:DV->Prop
 |.int k n=>k.wrap n=n
 |.str l=>l.length<=9223372036854775807
 |_=>True
theorem Vw.Jw(V:Vw)(h:d.qW=true)(hr:d.rng):V.av d.LW (.c (.d d)):=by
 cases d<;>simp[DV.qW]at h
 ·exact V.o7 _
 ·exact V.pF _ _ hr
 ·exact V.qC _ hr
theorem O5{k:IntKind}{m:Int}(hr:om op k m n=some d)(hok:jl op n)(P:Program)(T:TypeId)(x y:Operand)(w:World):
 (do eqGuard op T x y (.int k m) (.int k n);binOp op T (.int k m) (.int k n):Sem Value).run P w=.ok d.LW w:=by
 cases op<;>simp only[om,aj,reduceCtorEq]at hr<;>subst hr<;>simp only[jl]at hok<;>
  simp only[eqGuard,binOp,ne_eq,not_true_eq_false,if_false,if_true,Bool.not_true,Bool.not_false]<;>
  first
   |rfl
   |(simp only[Op.intDiv,if_neg hok];rfl)
theorem Mm{k:IntKind}{m:Int}(hr:om op k m n=some d):d.qW=true:=by
 cases op<;>simp only[om,aj,reduceCtorEq]at hr<;>subst hr<;>rfl
theorem P9{k:IntKind}{m:Int}(hr:om op k m n=some d)(hm:k.wrap m=m):d.rng:=by
 cases op<;>simp only[om,aj,reduceCtorEq]at hr<;>subst hr<;>first|exact wrap_wrap _ _|exact L9 hm|trivial
theorem OB{k:IntKind}{m:Int}(hd:∀d,o.dst=some d->d<c.n)(ho:o.op=.binOp op T x y T')
 (hx:s.val c.G x=.c (.d (.int k m))) (hy:s.val c.G y=.c (.d (.int k n))) (hr:om op k m n=some d) (hok:jl op n) :
 di c o s (s.put o.dst (.c (.d d))):=
 di.bA hd λF β a w hs=>by
  have h1:=Vw.gR (hx▸hs.val x);have h1':=Vw.uP (hx▸hs.val x);have h2:=Vw.gR (hy▸hs.val y);refine⟨d.LW,?_,Vw.Jw _ (Mm hr) (P9 hr h1')⟩;simp only[execOp,ho,h1,h2];rw[cy,O5 hr hok];rfl
theorem Jn{k:IntKind}{m:Int}(hd:∀d,o.dst=some d->d<c.n)(ho:o.op=.binOp op T x y T')
 (hx:s.val c.G x=.c (.d (.int k m))) (hy:s.val c.G y=.c (.d (.int k' n))) (hr:shI op k m n=some d) (hok:0<=n) :
 di c o s (s.put o.dst (.c (.d d))):=
 di.bA hd λF β a w hs=>by
  have h1:=Vw.gR (hx▸hs.val x);have h1':=Vw.uP (hx▸hs.val x);have h2:=Vw.gR (hy▸hs.val y);have h3:¬n<0:=zd
  cases op<;>simp only[shI,aj,reduceCtorEq]at hr<;>subst hr
  ·exact⟨.int k (k.wrap (m*2^(min n.toNat k.bits))),pu,⟨.int _ _ (wrap_wrap _ _),rfl⟩⟩
  ·exact⟨.int k (m.fdiv (2^(min n.toNat k.bits))),pu,⟨.int _ _ (L0 h1'),rfl⟩⟩
def P3(op:BinOp)(x y:List UInt8):Option DV:=
 match op with
 |.add=>some (.str (x++y))
 |.eql=>some (.bool (x==y))
 |.neq=>some (.bool (!(x==y)))
 |.lss=>some (.bool (Op.bytesLess x y))
 |.leq=>some (.bool (Op.bytesLess x y ||x==y))
 |.gtr=>some (.bool (!(Op.bytesLess x y ||x==y)))
 |.geq=>some (.bool (!Op.bytesLess x y))
 |_=>none
def Ba(op:BinOp)(x y:List UInt8):Prop:=
 match op with
 |.add=>x.length+y.length<=9223372036854775807
 |_=>True
theorem toList_mk(l:List UInt8):(ByteArray.mk l.toArray).toList=l:=by
 simp
theorem MT{m n:List UInt8}(hd:∀d,o.dst=some d->d<c.n)(ho:o.op=.binOp op T x y T')
 (hx:s.val c.G x=.c (.d (.str m))) (hy:s.val c.G y=.c (.d (.str n))) (hr:P3 op m n=some d) (hok:Ba op m n) :
 di c o s (s.put o.dst (.c (.d d))):=
 di.bA hd λF β a w hs=>by
  have h1:=Vw.pY (hx▸hs.val x);have h2:=Vw.pY (hy▸hs.val y)
  cases op<;>simp only[P3,aj,reduceCtorEq]at hr<;>subst hr<;>simp only[Ba]at hok
  case add=>
   refine⟨.string ⟨(m++n).toArray⟩,?_,Vw.qC _ _ yn⟩
   have h3:¬((((ByteArray.mk m.toArray).size+(ByteArray.mk n.toArray).size:Nat):Int) > IntKind.i64.max):=by
    rw[IntKind.max_i64];simp[ByteArray.size];omega
   have h4:(ByteArray.mk m.toArray++ByteArray.mk n.toArray)=ByteArray.mk (m++n).toArray:=by
    apply ByteArray.ext;simp
   simp only[execOp,ho,h1,h2,eqGuard,binOp,Op.stringOp,if_neg h3,h4];rfl
  all_goals
   refine⟨DV.LW (.bool _),?_,Vw.Jw (d:=.bool _) _ rfl trivial⟩;simp only[execOp,ho,h1,h2,eqGuard,binOp,Op.stringOp,toList_mk];rfl
end
def lM(P:Program)(t:TypeId):Nat:=match P.info? t with|some i=>i.size|none=>0
def fV(P:Program)(t:TypeId):Option Bool:=
 match P.underlying t,P.info? t with
 |some (.struct _),some _|some (.array _ _),some _=>some true
 |some _,some _=>some false
 |_,_=>none
def eH(P:Program)(t:TypeId)(f:Nat):Option (Nat×TypeId):=
 match P.underlying t with
 |some (.struct fs)=>
  match fs[f]? with
  |some fd=>if (P.info? fd.type).isSome&&lM P fd.type != 0 then some (fd.offset,fd.type)else none
  |none=>none
 |_=>none
def fU(P:Program)(t:TypeId):Option (TypeId×Nat):=
 match P.underlying t with
 |some (.slice e)=>if (P.info? e).isSome then some (e,lM P e)else none
 |_=>none
def wW(P:Program)(t:TypeId):Option (Nat×TypeId×Nat):=
 match P.underlying t with
 |some (.array n e)=>if (P.info? e).isSome then some (n,e,lM P e)else none
 |_=>none
theorem run_sizeOf(h:(P.info? t).isSome=true)(w:World):(sizeOf t).run P w=.ok (lM P t) w:=by
 obtain⟨i,hi⟩:=Option.isSome_iff_exists.1 h;simp[sizeOf,typeInfo,lM,hi]
theorem sw(h:fV P t=some b)(w:World):(isAgg t).run P w=.ok b w:=by
 unfold fV at h;unfold isAgg;split at h
 ·rename_i h1 h2;simp at h;subst h;simp[cy,run_underlying h1]
 ·rename_i h1 h2;simp at h;subst h;simp[cy,run_underlying h1]
 ·rename_i d i hns hna h1 h2
  simp at h;subst h;simp only[cy,run_underlying h1,nZ];rfl
 grind
def AV.cells:AV->Option (List CV)
 |.c x=>some [x]
 |.agg cs=>some cs
 |_=>none
theorem Vw.nr{x:AV}(h:V.av v x)(hc:x.cells=some cs):
 v.cells.size=cs.length/\∀i (h:i<cs.length) (h':i<v.cells.size),V.cv v.cells[i] cs[i]:=by
 cases x with
 |c x=>
  simp only[AV.cells,aj]at hc;subst hc;have ho:=Vw.iE (V:=V) h;have hv:v.cells=#[v]:=by cases v<;>simp[Value.oneCell']at ho<;>rfl
  refine⟨yn,λi a b=>?_⟩;have:i=0:=by simp at a;exact a
  subst this;simp only[hv];exact h
 |agg l=>
  simp only[AV.cells,aj]at hc;subst hc;obtain⟨arr,rfl,h1,h2⟩:=h;exact⟨h1,h2⟩
 |tup l=>simp[AV.cells]at hc
 |undef=>simp[AV.cells]at hc
 |junk=>simp[AV.cells]at hc
section
variable {c:Ctx}{F:Nat->Prop}{β:Key->Nat}{s:aJ}{a:Act}{w:World}
theorem BC{w:World}{ad:Addr}(h:w.cell? ad=some v):(load ad).run P w=.ok v w:=by
 simp_all
theorem gz{w:World}{b o:Nat}{fr:Nat×Nat}(h:w.heap[b]?=some (.cells arr T fr))(ho:o<arr.size):
 w.cell? ⟨b,o,none⟩=some arr[o]:=by
 rw[cell_of_row w b o arr T fr h];simp[ho]
def iq(P:Program)(T:TypeId)(cs:List CV):Option AV:=
 match fV P T with
 |some true=>if lM P T<=cs.length then some (.agg (cs.take (lM P T)))else none
 |some false=>match cs with|x::_=>some (.c x)|[]=>none
 |none=>none
theorem xF(h:fV P t=some b):(P.info? t).isSome=true:=by
 unfold fV at h
 grind
theorem ua{x:AV}(V:Vw){b o:Nat}(hl:iq P T cs=some x)(vs:Nat->Value)
 (hm:∀i,i<cs.length->V.w.cell? ⟨b,o+i,none⟩=some (vs i)) (hr:∀i (h:i<cs.length),V.cv (vs i) cs[i]) :
 ∃v,(Instr.loadAt T (.pointer (some ⟨b,o,none⟩))).run P V.w=.ok v V.w/\V.av v x:=by
 unfold iq at hl;split at hl
 ·rename_i hag
  split at hl
  ·rename_i hsz
   simp only[aj]at hl;subst hl;refine⟨.agg ((List.range (lM P T)).map vs).toArray,?_,?_⟩
   ·simp only[Instr.loadAt,Instr.sureAddr,loadVar,cy,ad6,nZ,sw hag,if_true,run_sizeOf (xF hag)];rw[run_loadCells V.w ⟨b,o,none⟩ (lM P T) vs (λj hj=>by rw[aeL];grind)];simp
   ·refine⟨_,rfl,yv,λi h h'=>?_⟩
    grind
  grind
 ·rename_i hag
  split at hl
  ·rename_i y rest
   simp only[aj]at hl;subst hl;refine⟨vs 0,?_,hr 0 zp⟩;simp only[Instr.loadAt,Instr.sureAddr,loadVar,cy,ad6,nZ,sw hag];exact BC (hm 0 zp)
  grind
 grind
theorem IS{cs:List DV}{y:AV}(hd:∀d,o.dst=some d->d<c.n)(ho:o.op=.load T x)
 (hx:s.val c.G x=.c (.d (.ptr cs))) (hl:iq c.P T (cs.map CV.d)=some y):di c o s (s.put o.dst y):=
 di.bA hd λF β a w hs=>by
  have h1:=hx▸hs.val x;obtain⟨h1,_⟩:=h1;generalize he:a.eval x=v at h1
  cases h1 with
  |ptr b off vs _ hm hone hr=>
   obtain⟨v,h2,h3⟩:=ua (P:=c.P) (T:=T) (Vw.mk F β s.lv w) (b:=b) (o:=off) hl vs (λi hi=>(hm i yn).2)
    (λi hi=>by simp only[rP];exact⟨hr i yn,hone i yn⟩)
   exact⟨v,by simp[execOp,ho,he,h2],h3⟩
theorem HP{y:AV}(hd:∀d,o.dst=some d->d<c.n)(ho:o.op=.load T x)
 (hx:s.val c.G x=.c (.ptr k off)) (hk:s.lv k=.cells own fz T' cs) (hl:iq c.P T (cs.drop off)=some y):di c o s (s.put o.dst y):=
 di.bA hd λF β a w hs=>by
  have h1:=hx▸hs.val x;obtain⟨h1,_⟩:=h1;simp only[Vw.ff,hk]at h1;have hb:=hs.dj k;unfold Vw.dj at hb;simp only[hk]at hb;obtain⟨arr,h2,h3,h4,_⟩:=hb
  obtain⟨v,h5,h6⟩:=ua (P:=c.P) (T:=T) (Vw.mk F β s.lv w) (b:=β k) (o:=off) hl (λi=>arr.getD (off+i) undef)
   (λi hi=>by
    have hi':off+i<arr.size:=kx
    rw[gz h2 hi'];simp_all)
   (λi hi=>by
    have hi':off+i<arr.size:=kx
    simp_all)
  exact⟨v,by simp[execOp,ho,h1,h5],h6⟩
def ai(cs:List α)(off:Nat)(xs:List α):List α:=cs.take off++xs++cs.drop (off+xs.length)
theorem eW(cs:List α)(off:Nat)(xs:List α)(h:off+xs.length<=cs.length):(ai cs off xs).length=cs.length:=by
 simp[ai];omega
theorem gF(cs:List α)(off:Nat)(xs:List α)(h:off+xs.length<=cs.length)(i:Nat)(hi:i<(ai cs off xs).length):
 (ai cs off xs)[i]=if h1:off<=i/\i<off+xs.length then xs[i-off]else cs[i]'(by rw[eW _ _ _ h]at hi;exact hi):=by
 have hi':=hi;rw[eW _ _ _ h]at hi';have hto:(cs.take off).length=off:=yv
 by_cases h1:i<off
 ·rw[dif_neg zd];simp only[ai,acR]
  grind
 ·by_cases h2:i<off+xs.length
  ·rw[dif_pos ⟨zd,h2⟩];simp only[ai,acR]
   grind
  ·rw[dif_neg zd];simp only[ai,acR];rw[ae4 zd,ae4 zd,afR]
   grind
theorem Mz(hd:∀d,o.dst=some d->d<c.n)(ho:o.op=.store T x y)
 (hx:s.val c.G x=.c (.ptr k off)) (hk:s.lv k=.cells own false T' cs) (hy:(s.val c.G y).cells=some xs) (hi:(c.P.info? T).isSome=true)
 (hsz:xs.length=lM c.P T) (hoff:off+xs.length<=cs.length) :
 di c o s (aJ.put ⟨s.fr,aM s.lv k (.cells own false T' (ai cs off xs))⟩ o.dst .undef):=
 di.SE hd λF β a w hs=>by
  have h1:=hx▸hs.val x;obtain⟨h1,_⟩:=h1;simp only[Vw.ff,hk]at h1;have hb:=hs.dj k;unfold Vw.dj at hb;simp only[hk]at hb;obtain⟨arr,h2,h3,h4,_⟩:=hb;obtain⟨h5,h6⟩:=Vw.nr (hs.val y) hy;obtain⟨v,hv⟩:∃v,a.eval y=v:=⟨_,rfl⟩
  rw[hv]at h5 h6
  have hone:∀u∈v.cells.toList,u.oneCell'=true:=by
   intro u hu;obtain⟨i,hi1,rfl⟩:=List.mem_iff_getElem.1 hu;have:=h6 i yn zd;exact Vw.iE this
  have hl5:v.cells.toList.length=xs.length:=by simpa using h5
  have hst:=run_storeCells_at c.P (β k) off T' v.cells.toList 0 arr w h2 zd hone;simp only[ad9]at hst;have hset:arr.toList.take off++v.cells.toList++arr.toList.drop (off+v.cells.toList.length)=ai arr.toList off v.cells.toList:=rfl;have hle:off+v.cells.toList.length<=arr.toList.length:=by simp only[afv];omega
  refine⟨F,β,_,?_,hs.setRow (arr:=(ai arr.toList off v.cells.toList).toArray) hk h2 yn (by rw[eW _ _ _ hoff];grind) ?_⟩
  ·simp only[execOp,ho,h1,hv,Instr.storeAt,Instr.sureAddr,storeVar,cy,ad6,nZ,run_sizeOf hi]
   simp_all
  ·intro i p q;simp only[af4];rw[gF _ _ _ hle i zd,gF _ _ _ hoff i p]
   grind
theorem Q5(hd:∀d,o.dst=some d->d<c.n)(ho:o.op=.box T x)
 (hκ:s.lv κ=.hole) (hx:(s.val c.G x).cells=some xs) :
 di c o s (aJ.put ⟨s.fr,aM s.lv κ (.cells true false T xs)⟩ o.dst (.c (.ptr κ 0))):=
 di.gN hd λF β a w hs=>by
  obtain⟨h5,h6⟩:=Vw.nr (hs.val x) hx;refine⟨.pointer (some ⟨w.heap.size,0,none⟩),F,aM β κ w.heap.size,w.alloc (.cells (a.eval x).cells T),?_,hs.alloc hκ T zd h6,?_⟩
  ·simp[execOp,ho,Instr.box,newVar,newRow]
  ·refine⟨?_,rfl⟩;simp[Vw.ff,aI]
theorem L6(hd:∀d,o.dst=some d->d<c.n)(ho:o.op=.alloc T)
 (hκ:s.lv κ=.hole) (hz:(c.P.info? T).bind (·.zero)=some z) (hx:(yL z).cells=some xs) :
 di c o s (aJ.put ⟨s.fr,aM s.lv κ (.cells true false T xs)⟩ o.dst (.c (.ptr κ 0))):=
 di.gN hd λF β a w hs=>by
  obtain⟨i,hi,hz⟩:=Option.bind_eq_some_iff.1 hz;obtain⟨h5,h6⟩:=Vw.nr (AM (Vw.mk F β s.lv w) z) hx;refine⟨.pointer (some ⟨w.heap.size,0,none⟩),F,aM β κ w.heap.size,w.alloc (.cells z.cells T),?_,hs.alloc hκ T zd h6,?_⟩
  ·simp[execOp,ho,Instr.alloc,zeroValue,typeInfo,hi,hz,newVar,newRow]
  ·refine⟨?_,rfl⟩;simp[Vw.ff,aI]
end
section
variable {c:Ctx}{F:Nat->Prop}{β:Key->Nat}{s:aJ}{a:Act}{w:World}
theorem Rd.GP{cs:List DV}(h:Rd M v (.ptr cs))(n:Nat)(hn:n<=cs.length):
 ∃b o,v=.pointer (some ⟨b,o,none⟩)/\Rd M (.pointer (some ⟨b,o+n,none⟩)) (.ptr (cs.drop n)):=by
 cases h with
 |ptr b off vs _ hm ho hr=>
  refine⟨b,off,rfl,.ptr b (off+n) (λi=>vs (n+i)) _ (λi hi=>?_) (λi hi=>ho _ yn) (λi hi=>?_)⟩
  ·grind
  grind
theorem xT{f:Nat}(h:eH P T f=some (off,ft))(b o:Nat)(w:World):
 (Instr.fieldAt T (.pointer (some ⟨b,o,none⟩)) f).run P w=.ok (.pointer (some ⟨b,o+off,none⟩)) w:=by
 unfold eH at h;split at h
 ·rename_i fs hu
  split at h
  ·rename_i fd hf
   split at h
   ·rename_i hc
    simp only[aj,rK]at h;obtain⟨rfl,rfl⟩:=h;rw[adS,bne_iff_ne]at hc;simp only[Instr.fieldAt,cy,run_underlying hu,nZ,hf,Instr.sureAddr,ad6,fieldPlace,run_sizeOf hc.1,if_neg hc.2];rw[aeL]
   grind
  grind
 grind
theorem yU{f:Nat}{cs:List DV}(hd:∀d,o.dst=some d->d<c.n)(ho:o.op=.fieldAddr T x f)
 (hx:s.val c.G x=.c (.d (.ptr cs))) (hf:eH c.P T f=some (off,ft)) (hoff:off<=cs.length):di c o s (s.put o.dst (.c (.d (.ptr (cs.drop off))))):=
 di.bA hd λF β a w hs=>by
  have h1:=hx▸hs.val x;obtain⟨h1,_⟩:=h1;obtain⟨b,o',h2,h3⟩:=Rd.GP h1 off hoff;exact⟨_,by simp only[execOp,ho,h2,cy,xT hf,nZ];rfl,h3,rfl⟩
theorem x9{f n:Nat}(hd:∀d,o.dst=some d->d<c.n)(ho:o.op=.fieldAddr T x f)
 (hx:s.val c.G x=.c (.ptr k n)) (hk:s.lv k=.cells own fz T' cs) (hf:eH c.P T f=some (off,ft)):di c o s (s.put o.dst (.c (.ptr k (n+off)))):=
 di.bA hd λF β a w hs=>by
  have h1:=hx▸hs.val x;obtain⟨h1,_⟩:=h1;simp only[Vw.ff,hk]at h1;refine⟨_,by simp only[execOp,ho,h1,cy,xT hf,nZ];rfl,?_,rfl⟩;simp only[Vw.ff,hk]
theorem vt{y:CV}(hd:∀d,o.dst=some d->d<c.n)(ho:o.op=.nilCheck x)(hx:s.val c.G x=.c y)
 (hy:∀F β a w,aR c F β s a w->∃ad,a.eval x=.pointer (some ad)):di c o s (s.put o.dst (.c y)):=
 di.bA hd λF β a w hs=>by
  obtain⟨ad,h⟩:=hy F β a w hs;exact⟨.pointer (some ad),by simp[execOp,ho,h],by rw[<-h,<-hx];exact hs.val x⟩
theorem AU{cs:List DV}(hd:∀d,o.dst=some d->d<c.n)(ho:o.op=.nilCheck x)(hx:s.val c.G x=.c (.d (.ptr cs))):
 di c o s (s.put o.dst (.c (.d (.ptr cs)))):=
 vt hd ho hx λF β a w hs=>by
  have h1:=hx▸hs.val x;obtain⟨h1,_⟩:=h1;generalize a.eval x=v at h1
  cases h1;simp
theorem A1{n:Nat}(hd:∀d,o.dst=some d->d<c.n)(ho:o.op=.nilCheck x)
 (hx:s.val c.G x=.c (.ptr k n)) (hk:s.lv k=.cells own fz T' cs):di c o s (s.put o.dst (.c (.ptr k n))):=
 vt hd ho hx λF β a w hs=>by
  have h1:=hx▸hs.val x;obtain⟨h1,_⟩:=h1;simp only[Vw.ff,hk]at h1
  grind
theorem Ae{fs cs:List DV}(hd:∀d,o.dst=some d->d<c.n)(ho:o.op=.nilCheck x)
 (hx:s.val c.G x=.c (.d (.func fn fs cs))) (hn:∀m,fn≠.method m):di c o s (s.put o.dst (.c (.d (.func fn fs cs)))):=
 di.bA hd λF β a w hs=>by
  have h0:=hs.val x;have h1:=hx▸h0;obtain⟨h1,_⟩:=h1;obtain⟨v,he⟩:∃v,a.eval x=v:=⟨_,rfl⟩
  rw[he]at h1;refine⟨v,?_,yn⟩
  cases h1 with
  |func _ fs cs _ _ _ _ _ _=>cases fn<;>simp[execOp,ho,he]<;>exact absurd rfl (hn _)
theorem yO{fs cs:List Ref}(hd:∀d,o.dst=some d->d<c.n)(ho:o.op=.nilCheck x)
 (hx:s.val c.G x=.c (.func fn fs cs)) (hn:∀m,fn≠.method m):di c o s (s.put o.dst (.c (.func fn fs cs))):=
 di.bA hd λF β a w hs=>by
  have h0:=hs.val x;have h1:=hx▸h0;obtain⟨fs',cs',he,_⟩:=h1;refine⟨_,?_,by rw[<-hx];exact h0⟩;rw[he]
  cases fn<;>simp[execOp,ho,he]<;>exact absurd rfl (hn _)
theorem Gh{i:Nat}{l:List AV}{y:AV}(hd:∀d,o.dst=some d->d<c.n)(ho:o.op=.extract x i)
 (hx:s.val c.G x=.tup l) (hi:l[i]?=some y) (hy:∀l',y≠.tup l'):di c o s (s.put o.dst y):=
 di.bA hd λF β a w hs=>by
  have h1:=hx▸hs.val x;obtain⟨arr,h2,h3,h4⟩:=h1;obtain⟨hlt,rfl⟩:=List.getElem?_eq_some_iff.1 hi;have hlt':i<arr.size:=zd
  refine⟨arr[i],by simp[execOp,ho,h2,Instr.extract,hlt'],?_⟩;have:=h4 i hlt hlt'
  cases e:l[i]with
  |tup l'=>grind
  |c x=>rw[e]at this;exact this
  |agg x=>rw[e]at this;exact this
  |undef=>rw[e]at this;exact this
  |junk=>trivial
def tq(P:Program)(T:TypeId)(cs:List CV)(off:Nat):Option AV:=
 match fV P T with
 |some true=>if off+lM P T<=cs.length then some (.agg ((cs.drop off).take (lM P T)))else none
 |some false=>(cs[off]?).map .c
 |none=>none
theorem uF{y:AV}(V:Vw)(h:tq P T cs off=some y)(arr:Array Value)(hs:arr.size=cs.length)
 (hr:∀i (h:i<cs.length) (h':i<arr.size),V.cv arr[i] cs[i]):∃v,(part T arr off).run P V.w=.ok v V.w/\V.av v y:=by
 unfold tq at h;split at h
 ·rename_i hag
  split at h
  ·rename_i hsz
   simp only[aj]at h;subst h;refine⟨.agg (arr.extract off (off+lM P T)),by simp[part,cy,sw hag,run_sizeOf (xF hag)],_,rfl,yv,λi p q=>?_⟩
   grind
  grind
 ·rename_i hag
  cases e:cs[off]? with
  |none=>grind
  |some x=>
   rw[e]at h;simp only[ad2,aj]at h;subst h;obtain⟨hlt,rfl⟩:=List.getElem?_eq_some_iff.1 e;have hlt':off<arr.size:=zd
   exact⟨arr[off],by simp[part,cy,sw hag,hlt'],hr _ _ _⟩
 grind
theorem Mu{f:Nat}{y:AV}(hd:∀d,o.dst=some d->d<c.n)(ho:o.op=.field T x f)
 (hx:s.val c.G x=.agg cs) (hf:eH c.P T f=some (off,ft)) (hp:tq c.P ft cs off=some y):di c o s (s.put o.dst y):=
 di.bA hd λF β a w hs=>by
  have h1:=hx▸hs.val x;obtain⟨arr,h2,h3,h4⟩:=h1;obtain⟨v,h5,h6⟩:=uF (Vw.mk F β s.lv w) hp arr h3 h4;refine⟨v,?_,h6⟩;unfold eH at hf;split at hf
  ·rename_i fs hu
   split at hf
   ·rename_i fd hfd
    split at hf
    ·simp only[aj,rK]at hf;obtain⟨rfl,rfl⟩:=hf;simp only[execOp,ho,h2,Instr.field,cy,run_underlying hu,nZ,hfd,asAgg,ad6,h5]
    grind
   grind
  grind
end
section
variable {c:Ctx}{F:Nat->Prop}{β:Key->Nat}{s:aJ}{a:Act}{w:World}
theorem eJ(h:fU P T=some (e,sz)):P.underlying T=some (.slice e)/\(P.info? e).isSome=true/\lM P e=sz:=by
 unfold fU at h
 grind
theorem A5{n:Nat}(h:wW P T=some (n,e,sz)):P.underlying T=some (.array n e)/\(P.info? e).isSome=true/\lM P e=sz:=by
 unfold wW at h
 grind
theorem run_indexAt_slice(h:fU P T=some (e,sz))(b o len cap:Nat)(k:IntKind)(n:Int)(h0:0<=n)(h1:n<len)(w:World):
 (Instr.indexAt T (.slice (some ⟨b,o,none⟩) len cap) (.int k n)).run P w=.ok (.pointer (some ⟨b,o+n.toNat*sz,none⟩)) w:=by
 obtain⟨hu,hi,hs⟩:=eJ h;simp[Instr.indexAt,asIntOf,run_underlying hu,h0,h1,run_sizeOf hi,hs,aeL]
theorem run_indexAt_array(h:wW P T=some (len,e,sz))(b o:Nat)(k:IntKind)(n:Int)(h0:0<=n)(h1:n<len)(w:World):
 (Instr.indexAt T (.pointer (some ⟨b,o,none⟩)) (.int k n)).run P w=.ok (.pointer (some ⟨b,o+n.toNat*sz,none⟩)) w:=by
 obtain⟨hu,hi,hs⟩:=A5 h;simp[Instr.indexAt,asIntOf,run_underlying hu,Instr.sureAddr,h0,h1,run_sizeOf hi,hs,aeL]
theorem Rd.EE(h:Rd M v (.sl es)):(∃b o cap,v=.slice (some ⟨b,o,none⟩) es.length cap/\es.length<=cap /\
 ∀i (hi:i<es.length),Rd M (.pointer (some ⟨b,o+i*es[i].length,none⟩)) (.ptr es[i]))\/∃a,v=.slice (some a) 0 0/\es=[]:=by
 cases h with
 |sl b off cap sz _ vs hl hc hb hm ho hr=>
  refine .inl ⟨b,off,cap,rfl,hc,λi hi=>?_⟩;have hlen:es[i].length=sz:=hl _ (cn hi);exact .ptr b _ (vs i) _ (λj hj=>by grind) (λj hj=>ho i hi j zd) (λj hj=>hr i hi j hj)
 |sl0 a=>exact .inr ⟨a,rfl,rfl⟩
theorem yh{k:IntKind}{cs:List DV}(hd:∀d,o.dst=some d->d<c.n)(ho:o.op=.indexAddr T x ix)
 (hx:s.val c.G x=.c (.d (.sl es))) (hi:s.val c.G ix=.c (.d (.int k n))) (hT:fU c.P T=some (e,sz)) (h0:0<=n) (hcs:es[n.toNat]?=some cs) (hsz:cs.length=sz) :
 di c o s (s.put o.dst (.c (.d (.ptr cs)))):=
 di.bA hd λF β a w hs=>by
  have h1:=hx▸hs.val x;obtain⟨h1,_⟩:=h1;have h2:=Vw.gR (hi▸hs.val ix);obtain⟨hlt,rfl⟩:=List.getElem?_eq_some_iff.1 hcs
  obtain⟨b,o',cap,h3,h4,h5⟩:∃b o cap,a.eval x=.slice (some ⟨b,o,none⟩) es.length cap/\es.length<=cap/\∀i (hi:i<es.length),Rd (Vw.mk F β s.lv w).mem (.pointer (some ⟨b,o+i*es[i].length,none⟩)) (.ptr es[i]):=by
   rcases h1.EE with h1|⟨_,_,rfl⟩
   ·exact h1
   ·cases hlt
  have h6:=h5 n.toNat hlt;rw[hsz]at h6;have hb:n<(es.length:Int):=zd
  exact⟨_,by simp only[execOp,ho,h2,h3,cy,run_indexAt_slice hT _ _ _ _ _ _ h0 hb,nZ];rfl,h6,rfl⟩
theorem x8{k:IntKind}(hd:∀d,o.dst=some d->d<c.n)(ho:o.op=.indexAddr T x ix)
 (hx:s.val c.G x=.c (.aO κ off len sz)) (hk:s.lv κ=.cells own fz T' cs) (hi:s.val c.G ix=.c (.d (.int k n))) (hT:fU c.P T=some (e,sz)) (h0:0<=n) (h1':n<len) :
 di c o s (s.put o.dst (.c (.ptr κ (off+n.toNat*sz)))):=
 di.bA hd λF β a w hs=>by
  have h1:=hx▸hs.val x;obtain⟨h1,_⟩:=h1;simp only[Vw.cT,hk]at h1;obtain⟨cap,h3,_⟩:=h1;have h2:=Vw.gR (hi▸hs.val ix);refine⟨_,by simp only[execOp,ho,h2,h3,cy,run_indexAt_slice hT _ _ _ _ _ _ h0 h1',nZ];rfl,?_,rfl⟩;simp only[Vw.ff,hk]
theorem wD{cs:List DV}{k:IntKind}(hd:∀d,o.dst=some d->d<c.n)(ho:o.op=.indexAddr T x ix)
 (hx:s.val c.G x=.c (.d (.ptr cs))) (hi:s.val c.G ix=.c (.d (.int k n))) (hT:wW c.P T=some (len,e,sz)) (h0:0<=n) (h1':n<len) (hl:n.toNat*sz<=cs.length) :
 di c o s (s.put o.dst (.c (.d (.ptr (cs.drop (n.toNat*sz)))))):=
 di.bA hd λF β a w hs=>by
  have h1:=hx▸hs.val x;obtain⟨h1,_⟩:=h1;have h2:=Vw.gR (hi▸hs.val ix);obtain⟨b,o',h3,h4⟩:=Rd.GP h1 (n.toNat*sz) hl;exact⟨_,by simp only[execOp,ho,h2,h3,cy,run_indexAt_array hT _ _ _ _ h0 h1',nZ];rfl,h4,rfl⟩
theorem xo{k:IntKind}(hd:∀d,o.dst=some d->d<c.n)(ho:o.op=.indexAddr T x ix)
 (hx:s.val c.G x=.c (.ptr κ off)) (hk:s.lv κ=.cells own fz T' cs) (hi:s.val c.G ix=.c (.d (.int k n))) (hT:wW c.P T=some (len,e,sz)) (h0:0<=n) (h1':n<len) :
 di c o s (s.put o.dst (.c (.ptr κ (off+n.toNat*sz)))):=
 di.bA hd λF β a w hs=>by
  have h1:=hx▸hs.val x;obtain⟨h1,_⟩:=h1;simp only[Vw.ff,hk]at h1;have h2:=Vw.gR (hi▸hs.val ix);refine⟨_,by simp only[execOp,ho,h1,h2,cy,run_indexAt_array hT _ _ _ _ h0 h1',nZ];rfl,?_,rfl⟩;simp only[Vw.ff,hk]
theorem BH{l:List UInt8}{k:IntKind}{b:UInt8}(hd:∀d,o.dst=some d->d<c.n)(ho:o.op=.index T x ix)
 (hx:s.val c.G x=.c (.d (.str l))) (hi:s.val c.G ix=.c (.d (.int k n))) (hT:c.P.underlying T=some .string) (h0:0<=n) (hb:l[n.toNat]?=some b) :
 di c o s (s.put o.dst (.c (.d (.int .u8 b.toNat)))):=
 di.bA hd λF β a w hs=>by
  have h1:=Vw.pY (hx▸hs.val x);have h2:=Vw.gR (hi▸hs.val ix);obtain⟨hlt,rfl⟩:=List.getElem?_eq_some_iff.1 hb;refine⟨.int .u8 (l[n.toNat]).toNat,?_,Vw.pF _ _ _ (eG ⟨vd,by have:=(l[n.toNat]).toNat_lt;simp only[rM];omega⟩)⟩
  have h3:(ByteArray.mk l.toArray)[n.toNat]?=some l[n.toNat]:=by
   have:n.toNat<(ByteArray.mk l.toArray).size:=by simpa[ByteArray.size]using hlt
   rw[getElem?_pos (ByteArray.mk l.toArray) n.toNat this];rfl
  simp only[execOp,ho,h1,h2,Instr.index,cy,asIntOf,ad6,nZ,run_underlying hT,if_pos h0,h3]
theorem BD{k:IntKind}{y:AV}(hd:∀d,o.dst=some d->d<c.n)(ho:o.op=.index T x ix)
 (hx:s.val c.G x=.agg cs) (hi:s.val c.G ix=.c (.d (.int k n))) (hT:wW c.P T=some (len,e,sz)) (h0:0<=n) (h1':n<len) (hp:tq c.P e cs (n.toNat*sz)=some y) :
 di c o s (s.put o.dst y):=
 di.bA hd λF β a w hs=>by
  have h1:=hx▸hs.val x;obtain⟨arr,h2,h3,h4⟩:=h1;have h5:=Vw.gR (hi▸hs.val ix);obtain⟨hu,hin,hsz⟩:=A5 hT;obtain⟨v,h6,h7⟩:=uF (Vw.mk F β s.lv w) hp arr h3 h4;refine⟨v,?_,h7⟩;simp only[execOp,ho,h2,h5,Instr.index,cy,asIntOf,ad6,nZ,run_underlying hu,if_pos (And.intro h0 h1'),run_sizeOf hin,hsz,h6]
def fW:Option AV->Int->Option Int
 |none,n=>some n
 |some (.c (.d (.int _ m))),_=>some m
 |_,_=>none
theorem fZ{k:IntKind}{y:Nat}{code:BoundsCode}(h0:0<=n)(h1:n<=y)(w:World):
 (Instr.sliceBound (.int k n) y code).run P w=.ok n.toNat w:=by
 simp[Instr.sliceBound,asIntOf,h0,h1]
theorem iI{isSlice:Bool}{lo hi:Option Value}
 (hlo:lo=none/\l=0\/∃k,lo=some (.int k l)) (hhi:hi=none/\h=len\/∃k,hi=some (.int k h)) (h0:0<=l) (h1:l<=h) (h2:h<=cap) (w:World) :
 (Instr.sliceBounds isSlice len cap lo hi none).run P w=.ok (l.toNat,h.toNat,cap) w:=by
 rcases hlo with⟨rfl,rfl⟩|⟨k,rfl⟩<;>rcases hhi with⟨rfl,rfl⟩|⟨k',rfl⟩<;>
  simp[Instr.sliceBounds]
 ·rw[fZ zd h2];simp
 ·rw[fZ h0 h1];simp
 ·rw[fZ zd h2];simp only[nZ];rw[fZ h0 zd];simp
theorem jt{a:Act}{val:Operand->AV}(hval:∀x,V.av (a.eval x) (val x))(h:fW (lo.map val) n=some l):
 lo.map a.eval=none/\l=n\/∃k,lo.map a.eval=some (.int k l):=by
 cases lo with
 |none=>simp[fW]at h;grind
 |some x=>
  right;simp only[ad2]at h⊢;have hv:=hval x;unfold fW at h;split at h
  ·grind
  ·rename_i k m e
   simp only[aj]at e h;subst h;rw[e]at hv;exact⟨k,by rw[Vw.gR hv]⟩
  grind
theorem extract_mk(bs:List UInt8)(a b:Nat):(ByteArray.mk bs.toArray).extract a b=⟨((bs.take b).drop a).toArray⟩:=by
 apply ByteArray.ext;apply Array.toList_inj.1;have:=Lib.extract_data (ByteArray.mk bs.toArray) a b;rw[this];simp[List.drop_take]
theorem BM{bs:List UInt8}(hd:∀d,o.dst=some d->d<c.n)(ho:o.op=.slice T x lo hi none)
 (hx:s.val c.G x=.c (.d (.str bs))) (hT:c.P.underlying T=some .string) (hlo:fW (lo.map (s.val c.G)) 0=some l) (hhi:fW (hi.map (s.val c.G)) bs.length=some h)
 (h0:0<=l) (h1:l<=h) (h2:h<=bs.length):di c o s (s.put o.dst (.c (.d (.str ((bs.take h.toNat).drop l.toNat))))):=
 di.bA hd λF β a w hs=>by
  have e1:=Vw.pY (hx▸hs.val x);have e1':=Vw.Ej (hx▸hs.val x);have b1:=jt hs.val hlo;have b2:=jt hs.val hhi;refine⟨.string ⟨((bs.take h.toNat).drop l.toNat).toArray⟩,?_,Vw.qC _ _ yv⟩;have hsize:(ByteArray.mk bs.toArray).size=bs.length:=by simp[ByteArray.size]
  simp only[execOp,ho,e1,Instr.sliceAt,cy,run_underlying hT,nZ,Instr.slice,ae7,Option.isSome_none,aey,if_false];rw[iI (l:=l) (h:=h) zd yn h0 h1 zd];simp only[nZ,ad6,extract_mk]
theorem Rd.EA{b o:Nat}(h:Rd M (.slice (some ⟨b,o,none⟩) len cap) (.sl es))(hsz:∀e∈es,e.length=sz)
 {l h':Nat}(h1:l<=h') (h2:h'<=es.length) (b':Nat) (o':Nat) (hb:l<h'->b'=b/\o'=o+l*sz) (cap':Nat) (hc:h' - l<=cap') :
 Rd M (.slice (some ⟨b',o',none⟩) (h' - l) cap') (.sl ((es.take h').drop l)):=by
 cases h with
 |sl _ _ _ sz' _ vs hl hcap hbig hm ho hr=>
  have hlen:((es.take h').drop l).length=h' - l:=yv
  have key:=Rd.sl (M:=M) b' o' cap' sz ((es.take h').drop l) (λi j=>vs (l+i) j) (λe he=>hsz e (afw (afj he))) zd zd ?_ ?_ ?_
  ·rwa[hlen]at key
  ·grind
  ·grind
  grind
 |sl0 a=>
  have e1:l=0:=by simp at h2;omega
  have e2:h'=0:=lm
  subst e1 e2;exact Rd.sl b' o' cap' sz [] (λ_ _=>undef) (λ_ h=>by cases h) (ab5 _) (ab5 _) (λi h=>by cases h) (λi h=>by cases h) (λi h=>by cases h)
theorem wA(h:fU P T=some (e,sz)){a:Addr}{lo hi:Option Value}(hlo:lo=none/\(0:Int)=0\/∃k,lo=some (.int k 0))(hhi:hi=none/\(0:Int)=((0:Nat):Int)\/∃k,hi=some (.int k 0))(w:World):
 (Instr.sliceAt T (.slice (some a) 0 0) lo hi none).run P w=.ok (.slice (some a) 0 0) w:=by
 obtain⟨hu,hi',hs⟩:=eJ h;simp only[Instr.sliceAt,cy,run_underlying hu,nZ,Instr.slice];rw[iI hlo hhi (Int.le_refl _) (Int.le_refl _) zp];simp only[nZ,run_sizeOf hi',hs,ad6,ad2]
 grind
theorem jH(h:fU P T=some (e,sz)){b o:Nat}{lo hi:Option Value}{hh:Int}
 (hlo:lo=none/\l=0\/∃k,lo=some (.int k l)) (hhi:hi=none/\hh=len\/∃k,hi=some (.int k hh)) (h0:0<=l) (h1:l<=hh) (h2:hh<=cap) (w:World) :
 (Instr.sliceAt T (.slice (some ⟨b,o,none⟩) len cap) lo hi none).run P w=.ok (.slice (some (if cap=l.toNat then⟨b,o,none⟩ else⟨b,o+l.toNat*sz,none⟩)) (hh.toNat-l.toNat) (cap-l.toNat)) w:=by
 obtain⟨hu,hi',hs⟩:=eJ h;simp only[Instr.sliceAt,cy,run_underlying hu,nZ,Instr.slice];rw[iI hlo hhi h0 h1 h2];simp only[nZ,run_sizeOf hi',hs,ad6,ad2,aeL]
 grind
theorem Gn(hd:∀d,o.dst=some d->d<c.n)(ho:o.op=.slice T x lo hi none)
 (hx:s.val c.G x=.c (.d (.sl es))) (hT:fU c.P T=some (e,sz)) (hes:∀e∈es,e.length=sz) (hlo:fW (lo.map (s.val c.G)) 0=some l) (hhi:fW (hi.map (s.val c.G)) es.length=some h)
 (h0:0<=l) (h1:l<=h) (h2:h<=es.length):di c o s (s.put o.dst (.c (.d (.sl ((es.take h.toNat).drop l.toNat))))):=
 di.bA hd λF β a w hs=>by
  have e1:=hx▸hs.val x;obtain⟨e1,_⟩:=e1;have b1:=jt hs.val hlo;have b2:=jt hs.val hhi;rcases e1.EE with⟨b,o',cap,h3,h4,_⟩|⟨ad,h3,rfl⟩
  rotate_left
  ·have e2:h=0:=by simp at h2;omega
   have e3:l=0:=zd
   subst e2 e3;exact⟨_,by simp only[execOp,ho,h3,cy,ae7,wA hT b1 b2,nZ];rfl,.sl0 ad,rfl⟩
  rw[h3]at e1;have hr:=jH (b:=b) (o:=o') (cap:=cap) hT b1 b2 h0 h1 zd w;refine⟨_,by simp only[execOp,ho,h3,cy,ae7,hr,nZ];rfl,?_,rfl⟩
  by_cases hcap:cap=l.toNat
  ·simp only[if_pos hcap];exact Rd.EA e1 hes zd zd _ _ (λhlt=>by omega) _ zd
  ·simp only[if_neg hcap];exact Rd.EA e1 hes zd zd _ _ (λ_=>⟨rfl,rfl⟩) _ zd
theorem Ho(hd:∀d,o.dst=some d->d<c.n)(ho:o.op=.slice T x lo hi none)
 (hx:s.val c.G x=.c (.aO κ off len sz)) (hk:s.lv κ=.cells own fz T' cs) (hT:fU c.P T=some (e,sz)) (hlo:fW (lo.map (s.val c.G)) 0=some l) (hhi:fW (hi.map (s.val c.G)) len=some h)
 (h0:0<=l) (h1:l<=h) (h2:h<=len) (h3:l<h\/l=0):di c o s (s.put o.dst (.c (.aO κ (off+l.toNat*sz) (h.toNat-l.toNat) sz))):=
 di.bA hd λF β a w hs=>by
  have e1:=hx▸hs.val x;obtain⟨e1,_⟩:=e1;simp only[Vw.cT,hk]at e1;obtain⟨cap,e2,e3,e4⟩:=e1;have b1:=jt hs.val hlo;have b2:=jt hs.val hhi;have hr:=jH (b:=β κ) (o:=off) (cap:=cap) hT b1 b2 h0 h1 zd w;refine⟨_,md,?_,rfl⟩;simp only[Vw.cT,hk];refine⟨cap-l.toNat,?_,zd,?_⟩
  ·grind
  ·have:cap*sz=l.toNat*sz+(cap-l.toNat)*sz:=by rw[<-adn];congr 1;omega
   omega
theorem GS{z:Operand}{k1 k2:IntKind}(hd:∀d,o.dst=some d->d<c.n)(ho:o.op=.slice T x none (some y) (some z))
 (hx:s.val c.G x=.c (.aO κ off len sz)) (hk:s.lv κ=.cells own fz T' cs) (hT:fU c.P T=some (e,sz)) (hy:s.val c.G y=.c (.d (.int k1 h))) (hz:s.val c.G z=.c (.d (.int k2 h)))
 (h0:0<=h) (h2:h<=len):di c o s (s.put o.dst (.c (.lsf κ off h.toNat sz))):=
 di.bA hd λF β a w hs=>by
  have e1:=hx▸hs.val x;obtain⟨e1,_⟩:=e1;simp only[Vw.cT,hk]at e1;obtain⟨cap,e2,e3,e4⟩:=e1;have ey:a.eval y=.int k1 h:=Vw.gR (hy▸hs.val y);have ez:a.eval z=.int k2 h:=Vw.gR (hz▸hs.val z);obtain⟨hu,hi',hss⟩:=eJ hT
  have hr:(Instr.sliceAt T (.slice (some ⟨β κ,off,none⟩) len cap) none (some (.int k1 h)) (some (.int k2 h))).run c.P w=.ok (.slice (some ⟨β κ,off,none⟩) h.toNat h.toNat) w:=by
   simp only[Instr.sliceAt,cy,run_underlying hu,nZ,Instr.slice,Instr.sliceBounds];rw[fZ h0 zd];simp only[nZ];rw[fZ h0 zd];simp[run_sizeOf hi',aeL]
  refine⟨_,by simp only[execOp,ho,e2,ey,ez,cy,ae7,ad2,hr,nZ];rfl,⟨?_,rfl⟩,λ_ _ _ h=>by cases h;rfl⟩;simp only[Vw.cT,hk];refine⟨h.toNat,rfl,bf _,?_⟩;have:h.toNat*sz<=cap*sz:=adh _ zd;show off+h.toNat*sz<=dN w (β κ);omega
theorem DQ(hd:∀d,o.dst=some d->d<c.n)(ho:o.op=.slice T x lo hi none)
 (hx:s.val c.G x=.c (.aO κ off len sz)) (hk:s.lv κ=.cells own fz T' cs) (hT:fU c.P T=some (e,sz)) (hlo:fW (lo.map (s.val c.G)) 0=some l) (hhi:fW (hi.map (s.val c.G)) len=some h)
 (h0:0<=l) (h1:l=h) (h2:h<=len):di c o s (s.put o.dst (.c (.d (.sl [])))):=
 di.bA hd λF β a w hs=>by
  have e1:=hx▸hs.val x;obtain⟨e1,_⟩:=e1;simp only[Vw.cT,hk]at e1;obtain⟨cap,e2,e3,e4⟩:=e1;have b1:=jt hs.val hlo;have b2:=jt hs.val hhi;have hr:=jH (b:=β κ) (o:=off) (cap:=cap) hT b1 b2 h0 zd zd w;refine⟨_,md,?_,rfl⟩;subst h1;rw[Nat.sub_self]
  have key:∀ad:Addr,ad.spot=none->Rd (Vw.mk F β s.lv w).mem (.slice (some ad) 0 (cap-l.toNat)) (.sl []):=by
   intro ad hsp;obtain⟨b,o',sp⟩:=ad;simp only at hsp;subst hsp;exact Rd.sl b o' _ 0 [] (λ_ _=>undef) (λ_ h=>by cases h) (ab5 _) (ab5 _) (λi h=>by cases h) (λi h=>by cases h) (λi h=>by cases h)
  grind
theorem By(hd:∀d,o.dst=some d->d<c.n)(ho:o.op=.slice T x lo hi none)
 (hx:s.val c.G x=.c (.d .nilsl)) (hT:fU c.P T=some (e,sz)) (hlo:fW (lo.map (s.val c.G)) 0=some l) (hhi:fW (hi.map (s.val c.G)) 0=some h)
 (h0:l=0) (h1:h=0):di c o s (s.put o.dst (.c (.d .nilsl))):=
 di.bA hd λF β a w hs=>by
  have e1:=hx▸hs.val x;obtain⟨e1,_⟩:=e1;obtain⟨v,hv⟩:∃v,a.eval x=v:=⟨_,rfl⟩
  rw[hv]at e1;have b1:=jt hs.val hlo;have b2:=jt hs.val hhi;obtain⟨hu,hi',hsz⟩:=eJ hT;subst h0 h1
  cases e1
  refine⟨.slice none 0 0,?_,.nilsl,rfl⟩;simp only[execOp,ho,hv,ae7,Instr.sliceAt,cy,run_underlying hu,nZ,Instr.slice];rw[iI (l:=0) (h:=0) b1 b2 zd zd zd];simp[run_sizeOf hi']
end
def gh(n:Nat)(zs:List CV):List CV:=(List.replicate n zs).flatten
theorem FG(n:Nat)(z:CV):gh n [z]=List.replicate n z:=by
 unfold gh;simp
theorem qo(n:Nat)(zs:List CV):(gh n zs).length=n*zs.length:=by
 simp[gh]
theorem Ff(n:Nat)(zs:List CV):∀(i:Nat) (h:i<(gh n zs).length) (h':i%zs.length<zs.length),(gh n zs)[i]=zs[i%zs.length]:=by
 induction n with
 |zero=>intro i h;simp[gh]at h
 |succ n ih=>
  intro i h h';have e:gh (n+1) zs=zs++gh n zs:=by simp[gh,List.replicate_succ]
  simp only[e]
  by_cases hi:i<zs.length
  ·rw[aeF hi];congr 1;exact(ad4 hi).symm
  ·have hi':zs.length<=i:=by omega
   rw[ae4 hi']
   have h2:(i-zs.length)%zs.length=i%zs.length:=by
    conv=>rhs;rw[<-Nat.sub_add_cancel hi',Nat.add_mod_right]
   grind
section
variable {c:Ctx}{F:Nat->Prop}{β:Key->Nat}{s:aJ}{a:Act}{w:World}
theorem Ni{k:IntKind}{m:Int}(hd:∀d,o.dst=some d->d<c.n)(ho:o.op=.makeSlice T x y)
 (hκ:s.lv κ=.hole) (hx:s.val c.G x=.c (.d (.int k l))) (hy:s.val c.G y=.c (.d (.int k' m))) (hT:fU c.P T=some (e,sz)) (hi:c.P.info? e=some i) (hz:i.zero=some z) (hzs:(yL z).cells=some zs) (hlen:zs.length=sz)
 (hpos:0<sz) (h0:0<=l) (h1:l<=m) (hb:(i.bytes:Int)*m<=281474976710656) (h63:m<=9223372036854775807) :
 di c o s (aJ.put ⟨s.fr,aM s.lv κ (.cells true false e (gh l.toNat zs))⟩ o.dst (.c (.aO κ 0 l.toNat sz))):=
 di.gN hd λF β a w hs=>by
  have h2:=Vw.gR (hx▸hs.val x);have h3:=Vw.gR (hy▸hs.val y);obtain⟨hu,hie,hsz⟩:=eJ hT;have hsize:i.size=sz:=t7
  have hr:=run_make (P:=c.P) w T e i z hu hi hz k k' l m h0 h1 hb h63;obtain⟨h5,h6⟩:=Vw.nr (AM (Vw.mk F β s.lv w) z) hzs;have hlm:l.toNat*sz<=m.toNat*sz:=adh _ zd;refine⟨_,F,aM β κ w.heap.size,_,by simp only[execOp,ho,h2,h3,cy,hr,nZ];rfl,?_,?_,rfl⟩
  ·refine hs.alloc hκ e ?_ ?_
   ·rw[qo,size_madeCells,hlen,hsize];exact hlm
   ·intro j hj hj';have hm:j%zs.length<zs.length:=adx _ zd;rw[Ff _ _ _ hj hm];have hsz':z.cells.size=zs.length:=h5;simp only[madeCells,agq,Array.getElem_range]
    grind
  ·simp only[Vw.cT,aI];refine⟨m.toNat,rfl,zd,?_⟩;simp only[dN,heap_alloc,if_true,size_madeCells,hsize];omega
def lX(P:Program)(T:TypeId):Bool:=match P.underlying T with|some .string=>true|_=>false
theorem jm(h:lX P T=true):P.underlying T=some .string:=by
 unfold lX at h
 grind
def jU(P:Program)(T:TypeId)(lv:Key->LB):AV->Option Int
 |.c (.d (.str l))=>if lX P T then some l.length else none
 |.c (.d (.sl es))=>if (fU P T).isSome then some es.length else none
 |.c (.d .nilsl)=>if (fU P T).isSome then some 0 else none
 |.c (.aO k _ len _)=>if (fU P T).isSome then(match lv k with|.cells ..|.nils=>some len|_=>none)else none
 |_=>none
def vL(x:AV)(n:Int):Prop:=
 match x with
 |.c (.aO ..)=>n<=9223372036854775807
 |_=>True
theorem Vw.Ii(h:V.av v (.c (.d (.sl es)))):es.length<=9223372036854775807:=by
 obtain⟨h,_⟩:=h;cases h
 ·omega
 ·simp
theorem OL{x:AV}(hv:V.av v x)(hn:jU P T V.lv x=some n)(hok:vL x n):0<=n/\n<=9223372036854775807:=by
 unfold jU at hn;split at hn
 ·split at hn
  ·simp only[aj]at hn;subst hn;have:=Vw.Ej hv;omega
  grind
 ·split at hn
  ·simp only[aj]at hn;subst hn;have:=Vw.Ii hv;omega
  grind
 ·grind
 ·simp only[vL]at hok
  grind
 grind
theorem Rc(hd:∀d,o.dst=some d->d<c.n)(ho:o.op=.call { callee:=.builtin .len,args:=#[x],argTypes:=#[T] })
 (hn:jU c.P T s.lv (s.val c.G x)=some n) (hok:vL (s.val c.G x) n):di c o s (s.put o.dst (.c (.d (.int .i64 n)))):=
 di.bA hd λF β a w hs=>by
  have hv:=hs.val x;refine⟨.int .i64 n,?_,Vw.pF _ _ _ (eG (by have:=OL hv hn hok;simp only[BB,rM];omega))⟩
  have key:(Builtin.len_ #[T] o.type #[a.eval x]).run c.P w=.ok (goInt n) w:=by
   unfold jU at hn;split at hn
   ·rename_i l e
    split at hn
    ·rename_i hT
     have hT':=jm hT;simp only[aj]at hn;subst hn;rw[e]at hv;rw[Vw.pY hv];simp[Builtin.len_,run_underlying hT'];rfl
    grind
   ·rename_i es e
    split at hn
    ·rename_i hT
     obtain⟨⟨e',sz⟩,hT⟩:=Option.isSome_iff_exists.1 hT;obtain⟨hu,_,_⟩:=eJ hT;simp only[aj]at hn;subst hn;rw[e]at hv;rcases hv.1.EE with⟨b,o',cap,h3,_⟩|⟨ad,h3,rfl⟩
     ·rw[h3];simp[Builtin.len_,run_underlying hu]
     ·rw[h3];simp[Builtin.len_,run_underlying hu]
    grind
   ·rename_i e
    split at hn
    ·rename_i hT
     obtain⟨⟨e',sz⟩,hT⟩:=Option.isSome_iff_exists.1 hT;obtain⟨hu,_,_⟩:=eJ hT;simp only[aj]at hn;subst hn;rw[e]at hv;obtain⟨v,hv'⟩:∃v,a.eval x=v:=⟨_,rfl⟩
     rw[hv']at hv⊢;obtain⟨hv,_⟩:=hv
     cases hv
     simp[Builtin.len_,run_underlying hu]
    grind
   ·rename_i k off len sz' e
    split at hn
    ·rename_i hT
     obtain⟨⟨e',sz⟩,hT⟩:=Option.isSome_iff_exists.1 hT;obtain⟨hu,_,_⟩:=eJ hT;rw[e]at hv;obtain⟨hv,_⟩:=hv;simp only[Vw.cT]at hv;split at hn
     ·rename_i ek
      simp only[aj]at hn;subst hn;simp only[ek]at hv;obtain⟨cap,h3,_⟩:=hv;rw[h3];simp[Builtin.len_,run_underlying hu]
     ·rename_i ek
      simp only[aj]at hn;subst hn;simp only[ek]at hv;obtain⟨h3,_,h4⟩:=hv;rw[h3,h4];simp[Builtin.len_,run_underlying hu]
     grind
    grind
   ·cases hn
  simp[execOp,ho,resolve,invoke,builtin,key,goInt]
def cC(lv:Key->LB)(sz:Nat):AV->Option (Nat×List CV)
 |.c (.d (.sl es))=>if es.all (·.length==sz)then some (es.length,es.flatten.map .d)else none
 |.c (.d .nilsl)=>some (0,[])
 |.c (.aO k off len sz')=>match lv k with
  |.cells _ _ _ cs=>if sz'=sz/\off+len*sz<=cs.length then some (len,(cs.drop off).take (len*sz))else none
  |.nils=>some (0,[])
  |_=>none
 |_=>none
theorem xM{α:Type}:∀(es:List (List α)) (sz:Nat) (_:∀e∈es,e.length=sz) (i j:Nat) (hi:i<es.length) (_hj:j<sz) (h':j<es[i].length),
 ∃h:i*sz+j<es.flatten.length,es.flatten[i*sz+j]=es[i][j]
 |[],_,_,i,_,hi,_,_=>by simp at hi
 |e::es,sz,hl,0,j,hi,hj,h'=>by
  grind
 |e::es,sz,hl,i+1,j,hi,hj,h'=>by
  have he:e.length=sz:=hl e zp;obtain⟨h1,h2⟩:=xM es sz (λe he=>hl e (by simp[he])) i j yn hj yn
  grind
theorem Gq(es:List (List α))(sz:Nat)(hl:∀e∈es,e.length=sz):es.flatten.length=es.length*sz:=by
 induction es with
 |nil=>simp
 |cons e es ih=>
  grind
theorem aR.src(hs:aR c F β s a w)(h:cC s.lv sz (s.val c.G x)=some (m,xs)):
 xs.length=m*sz/\∃ao cap,a.eval x=.slice ao m cap/\(ao=none->m=0)/\(∀ad,ao=some ad->0<m->ad.spot=none) /\
  ∃vs:List Value,vs.length=xs.length/\(∀ad,ao=some ad->∀j u,vs[j]?=some u->w.cell? (ad.add j)=some u) /\
   ∀i (h:i<xs.length) (h':i<vs.length),(Vw.mk F β s.lv w).cv vs[i] xs[i]:=by
 have hv:=hs.val x;unfold cC at h;split at h
 ·rename_i es e
  split at h
  ·rename_i hall
   simp only[aj,rK]at h;obtain⟨rfl,rfl⟩:=h;rw[e]at hv
   have hsz:∀e∈es,e.length=sz:=by
    intro e he;rw[adG]at hall;simpa using hall e he
   have hlen:=Gq es sz hsz;obtain⟨hv,_⟩:=hv;obtain⟨v,hv'⟩:∃v,a.eval x=v:=⟨_,rfl⟩
   rw[hv']at hv;have hlen':(es.flatten.map CV.d).length=es.length*sz:=by rw[sC,hlen]
   refine⟨hlen',?_⟩
   cases hv with
   |sl b off cap sz' _ vs hl hc hbig hm hone hr=>
    refine⟨some ⟨b,off,none⟩,cap,hv',zp,zp,(List.range (es.length*sz)).map (λn=>vs (n/sz) (n%sz)),yn,?_,?_⟩
    ·rintro ad ⟨⟩ j u hu;rw[aez]at hu
     have hj:j<es.length*sz:=by
      rcases Nat.lt_or_ge j (es.length*sz)with h|h
      ·exact h
      ·rw[agr ta]at hu;cases hu
     rw[List.getElem?_range hj]at hu;simp only[ad2,aj]at hu;subst hu
     have hszp:0<sz:=by rcases af5 sz with h|h;· rw [h] at hj;simp at hj
                        ·exact h
     have hi:j/sz<es.length:=afS yn;have hs':sz'=sz:=by rw[<-hl _ (cn hi),hsz _ (cn hi)]
     have:=(hm (j/sz) hi (j%sz) (by rw[hs'];exact adx _ hszp)).2;rw[hs']at this;rw[aeL];have hj2:off+j/sz*sz+j%sz=off+j:=by rw[afk,Nat.div_add_mod']
     grind
    ·intro i p q;simp only[rP,ae8];have hj:i<es.length*sz:=by rwa[hlen']at p
     have hszp:0<sz:=by rcases af5 sz with h|h;· rw [h] at hj;simp at hj
                        ·exact h
     have hi:i/sz<es.length:=afS yn;have hjm:i%sz<sz:=adx _ hszp;have hs':sz'=sz:=by rw[<-hl _ (cn hi),hsz _ (cn hi)]
     have hin:i%sz<es[i/sz].length:=by rw[hsz _ (cn hi)];exact hjm
     obtain⟨h1,h2⟩:=xM es sz hsz (i/sz) (i%sz) hi hjm hin;have h3:i/sz*sz+i%sz=i:=Nat.div_add_mod' i sz;simp only[h3]at h2;rw[h2];exact⟨hr _ hi _ hin,hone _ hi _ zd⟩
   |sl0 ad=>
    exact⟨some ad,0,hv',zp,zp,[],zp,by rintro ad ⟨⟩ j u hu;simp at hu,by intro i p;simp at p⟩
  grind
 ·rename_i e
  simp only[aj,rK]at h;obtain⟨rfl,rfl⟩:=h;rw[e]at hv;obtain⟨hv,_⟩:=hv;obtain⟨v,hv'⟩:∃v,a.eval x=v:=⟨_,rfl⟩
  rw[hv']at hv
  cases hv
  simp_all
 ·rename_i k off len sz' e
  rw[e]at hv;obtain⟨hv,_⟩:=hv;simp only[Vw.cT]at hv;split at h
  ·rename_i own fz T cs ek
   simp only[ek]at hv;split at h
   ·rename_i hc
    obtain⟨rfl,hc⟩:=hc;simp only[aj,rK]at h;obtain⟨rfl,rfl⟩:=h;obtain⟨cap,h3,h4,h5⟩:=hv;have hb:=hs.dj k;unfold Vw.dj at hb;simp only[ek]at hb;obtain⟨arr,h6,h7,h8,_⟩:=hb;refine⟨yv,some ⟨β k,off,none⟩,cap,h3,zp,zp,(arr.toList.drop off).take (len*sz'),yv,?_,?_⟩
    ·rintro ad ⟨⟩ j u hu;rw[af6]at hu;split at hu
     ·rw[afx,ags]at hu;rw[aeL,cell_of_row w _ _ _ _ _ h6];exact hu
     grind
    grind
   grind
  ·rename_i ek
   simp only[ek]at hv;simp only[aj,rK]at h;obtain⟨rfl,rfl⟩:=h
   simp_all
  grind
 grind
end
section
variable {c:Ctx}{F:Nat->Prop}{β:Key->Nat}{s:aJ}{a:Act}{w:World}
theorem aR.qO(hs:aR c F β s a w)(hκ:s.lv κ=.hole)(hT:fU c.P T=some (e,sz))
 (hi:c.P.info? e=some i) (hz:i.zero=some z)(hx:cC s.lv sz (s.val c.G x)=some (m,xs)) (hzs:z.cells.size=sz) (h63:m<=9223372036854775807) (hb:m*i.bytes<=140737488355328) :
 ∃v F' β' w',(Builtin.append_ #[T,T] ty #[.slice none 0 0,a.eval x]).run c.P w=.ok v w' /\
  aR c F' β' ⟨s.fr,aM s.lv κ (if m=0 then .nils else .cells true false e xs)⟩ a w' /\
  (Vw.mk F' β' (aM s.lv κ (if m=0 then .nils else .cells true false e xs)) w').cv v (.aO κ 0 m sz):=by
 obtain⟨hu,hie,hsz⟩:=eJ hT;have hsize:i.size=sz:=t7
 obtain⟨hlen,ao,cap,h1,h2,h3,vs,h4,h5,h6⟩:=hs.src hx
 by_cases hm:m=0
 ·subst hm
  have hn:aR c F β ⟨s.fr,aM s.lv κ .nils⟩ a w:=by
   refine hs.step (λ_ h=>h) (λ_ _=>rfl) ?_ (λ_ _ _=>rfl) (λ_=>bf _) ?_ ?_ (λb h=>.inl h) (bf _) (λ_ _ _=>rfl)
   ·intro k
    by_cases e:k=κ
    ·subst e;rw[hκ];simp[LB.sub]
    ·rw[bt _ _ e];exact LB.cF _
   ·intro k hK
    by_cases e:k=κ
    ·subst e;unfold Vw.dj;simp only[aI]
    ·exact Vw.dR (hs.dj k) hK (bt _ _ e) rfl rfl (λ_ h=>h)
   ·intro k1 k2 g1 g2 he
    have g:∀k',(aM s.lv κ .nils k').live=true->(s.lv k').live=true:=by
     intro k' hk'
     by_cases e:k'=κ
     ·subst e;rw[aI]at hk';simp[LB.live]at hk'
     ·rwa[bt _ _ e]at hk'
    exact hs.inj _ _ (g _ g1) (g _ g2) he
  refine⟨.slice none 0 0,F,β,w,?_,io,?_⟩
  ·rw[h1];have hvs:vs=[]:=afy zd;subst hvs
   have hf:(Builtin.firstCells i.size 0 (.slice ao 0 cap)).run c.P w=.ok #[] w:=by
    cases ao with
    |none=>rfl
    |some ad=>simp[Builtin.firstCells,loadCells,loadCellsFrom]
   simp[Builtin.append_,run_underlying hu,sizeOf,typeInfo,hi,Builtin.lenOf,hf]
  ·simp[Vw.cv,Vw.cT,aI,Value.oneCell']
 ·cases ao with
  |none=>grind
  |some ad=>
   have hl':vs.length=m*i.size:=ba
   have hr:=run_append_nil (P:=c.P) w T ty e i z hu hi hz ad m cap vs hl' (h5 ad rfl) zd zd zd;have hd:aR c F β s a w.drew:=hs.heap rfl
   have hal:=hd.alloc hκ (arr:=vs.toArray++Builtin.zeroCells z.cells (grownCap w m 0 e-m)) e (cs:=xs) yv (λj p q=>by
    have hj:j<vs.length:=zd
    have:(vs.toArray++Builtin.zeroCells z.cells (grownCap w m 0 e-m))[j]=vs[j]:=by
     rw[aeX jp];simp
    rw[this];exact(Vw.j0 (V:=Vw.mk F β s.lv w) (V':=Vw.mk F β s.lv w.drew) (λ_ h=>h) (λ_ _=>rfl) (λ_=>LB.cF _) (λ_ _ _=>rfl) (λ_=>bf _)).cv (h6 j p hj))
   refine⟨_,F,aM β κ w.heap.size,_,by rw[h1];exact hr,by simpa[hm]using hal,?_⟩;simp only[hm,if_false,Vw.cv,Vw.cT,aI];refine⟨⟨_,rfl,?_,?_⟩,rfl⟩
   ·exact grownCap_ge w m 0 e
   ·have hge:=grownCap_ge w m 0 e;simp only[dN,heap_alloc,af7,if_true,afT,afz,size_zeroCells,hl',hsize,hzs];rw[<-adn]
    grind
theorem DY(f:Nat->α)(i:Nat)(x y:α):aM (aM f i x) i y=aM f i y:=by
 funext t;unfold aM;grind
theorem B9{f:Nat->α}{k:Nat}{x:α}:aM f k x k=x:=np
theorem aR.Jt(h:aR c F β s a w)(own:Bool)(hk:s.lv k=.cells true false T cs):
 aR c F β ⟨s.fr,aM s.lv k (.cells own false T cs)⟩ a w:=by
 have hlive:(s.lv k).live=true:=dC
 refine h.step (λ_ h=>h) (λ_ _=>rfl) ?_ (λ_ _ _=>rfl) (λ_=>bf _) ?_ ?_ (λb h=>.inl h) (bf _) (λ_ _ _=>rfl)
 ·intro k'
  by_cases e:k'=k
  ·subst e;rw[aI,hk];simp[LB.sub]
  ·rw[bt _ _ e];exact LB.cF _
 ·intro k' hK
  by_cases e:k'=k
  ·subst e;have hb:=h.dj k';unfold Vw.dj at hb⊢;simp only[hk]at hb;simp only[aI];obtain⟨arr,h1,h2,h3,h4,h5⟩:=hb;refine⟨arr,h1,h2,λi p q=>hK.cv (h3 i p q),h4,?_⟩;unfold iM at h5 ⊢
   grind
  ·exact Vw.dR (h.dj k') hK (bt _ _ e) rfl rfl (λ_ h=>h)
 ·intro k1 k2 h1 h2 he
  have g:∀k',(aM s.lv k (.cells own false T cs) k').live=true->(s.lv k').live=true:=by
   intro k' hk'
   by_cases e:k'=k
   ·grind
   ·rwa[bt _ _ e]at hk'
  exact h.inj k1 k2 (g _ h1) (g _ h2) he
theorem aR.AI(hs:aR c F β s a w){n:Nat}(hκ:s.lv κ=.hole)(hT:fU c.P T=some (e,sz))
 (hi:c.P.info? e=some i) (hz:i.zero=some z)(hy:s.val c.G y=.c (.aO k 0 n sz)) (hk:s.lv k=.cells own false e cs) (hfull:cs.length=n*sz)
 (hx:cC s.lv sz (s.val c.G x)=some (m,xs)) (hzs:z.cells.size=sz) (h63:n+m<=9223372036854775807) (hb:(n+m)*i.bytes<=140737488355328) :
 ∃v F' β' w',(Builtin.append_ #[T,T] ty #[a.eval y,a.eval x]).run c.P w=.ok v w' /\
  aR c F' β' ⟨s.fr,aM (aM s.lv k .dead) κ (.cells own false e (cs++xs))⟩ a w' /\
  (Vw.mk F' β' (aM (aM s.lv k .dead) κ (.cells own false e (cs++xs))) w').cv v (.aO κ 0 (n+m) sz):=by
 obtain⟨hu,hie,hsz⟩:=eJ hT;have hsize:i.size=sz:=t7
 obtain⟨hlen,ao,cap',h1,h2,h3,vs,h4,h5,h6⟩:=hs.src hx;have hkκ:k≠κ:=λe=>by grind
 have hv:=hy▸hs.val y;obtain⟨hv,_⟩:=hv;simp only[Vw.cT,hk]at hv;obtain⟨cap,EM,Wj,hv3⟩:=hv;have hbk:=hs.dj k;unfold Vw.dj at hbk;simp only[hk]at hbk;obtain⟨arr,g1,g2,g3,g4,g5⟩:=hbk;have has:dN w (β k)=arr.size:=by simp[dN,g1]
 rw[has]at hv3;simp only[aej]at hv3
 have hsrc:∃ad:Addr,(Builtin.append_ #[T,T] ty #[a.eval y,a.eval x]).run c.P w=(Builtin.append_ #[T,T] ty #[.slice (some ⟨β k,0,none⟩) n cap,.slice (some ad) m cap']).run c.P w /\
  (∀j u,vs[j]?=some u->w.cell? (ad.add j)=some u):=by
  cases ao with
  |some ad=>grind
  |none=>
   have hm:=h2 rfl;subst hm;have hvs:vs=[]:=afy zd;subst hvs;refine⟨⟨0,0,none⟩,?_,zp⟩;rw[EM,h1];simp[Builtin.append_,run_underlying hu,sizeOf,typeInfo,hi,Builtin.lenOf,Builtin.firstCells,loadCells,loadCellsFrom,Wj]
 obtain⟨ad,hsrc,hnews⟩:=hsrc;rw[hsrc];have hl':vs.length=m*i.size:=ba
 have hone:∀u∈vs,u.oneCell'=true:=by
  intro u hu;obtain⟨j,hj,rfl⟩:=List.mem_iff_getElem.1 hu;exact Vw.iE (h6 j zd hj)
 by_cases hroom:n+m<=cap
 ·have hcap:(n+m)*sz<=cap*sz:=adh _ hroom;have hnm:(n+m)*sz=n*sz+m*sz:=adn _ _ _;have hr:=run_append_room (P:=c.P) w T ty e i hu hi (β k) n cap arr g1 ad m cap' vs hl' hnews hone hroom yn;rw[hsize]at hr;have hseg:arr.toList.take (n*sz)++vs++arr.toList.drop (n*sz+vs.length)=ai arr.toList (n*sz) vs:=rfl;rw[hseg]at hr;have hle:n*sz+vs.length<=arr.toList.length:=by rw[hl',hsize];simp;omega
  have hset:=hs.setRow (arr:=(ai arr.toList (n*sz) vs).toArray) hk g1 (cs':=cs) yn yn (λj p q=>by
   grind)
  have hsame:aM s.lv k (.cells own false e cs)=s.lv:=by
   funext t;unfold aM;split
   ·grind
   ·rfl
  rw[hsame]at hset
  have hK:(Vw.mk F β s.lv w).jN (Vw.mk F β s.lv (w.setRow (β k) (ai arr.toList (n*sz) vs).toArray)):=
   Vw.j0 (λ_ h=>h) (λb hb=>setRow_other _ _ _ _ (λe=>by
    grind)) (λ_=>LB.cF _) (λ_ _ _=>rfl) (λb=>by rw[ku w (β k) arr _ e (0,0) g1 yn b];simp)
  have hmv:=hset.move (k:=k) (κ:=κ) hk hκ (cs':=cs++xs) (arr:=(ai arr.toList (n*sz) vs).toArray) (setRow_heap w _ arr _ e (0,0) g1) yn (λj p q=>by
   simp only[af4];rw[gF _ _ _ hle j zd]
   by_cases hj:j<n*sz
   ·rw[dif_neg zd,aeF zd];simp only[afu];exact hK.cv (g3 _ _ _)
   ·rw[dif_pos ⟨zd,yn⟩,ae4 zd];simp only[hfull];exact hK.cv (h6 _ _ _))
  refine⟨_,_,_,_,hr,hmv,⟨?_,rfl⟩⟩;simp only[Vw.cT,aI];refine⟨cap,rfl,hroom,?_⟩;rw[ku w (β k) arr _ e (0,0) g1 yn];omega
 ·have holds:∀j u,(arr.toList.take (n*sz))[j]?=some u->w.cell? ((⟨β k,0,none⟩:Addr).add j)=some u:=by
   intro j u hu;rw[af6]at hu;split at hu
   ·rw[ags]at hu;rw[aeL,cell_of_row w _ _ _ _ _ g1,aej];exact hu
   ·cases hu
  have hn:n*sz<=arr.size:=zd
  have hr:=run_append_grow (P:=c.P) w T ty e i z hu hi hz ⟨β k,0,none⟩ n cap (arr.toList.take (n*sz)) yn holds ad m cap' vs hl' hnews zd zd (growslice_fits zd hb);have hd:aR c F β s a w.drew:=hs.heap rfl;have hK:(Vw.mk F β s.lv w).jN (Vw.mk F β s.lv w.drew):=Vw.j0 (λ_ h=>h) (λ_ _=>rfl) (λ_=>LB.cF _) (λ_ _ _=>rfl) (λ_=>bf _)
  have hal:=(hd.kill k).alloc (κ:=κ) ra (arr:=((arr.toList.take (n*sz)).toArray++vs.toArray++Builtin.zeroCells z.cells (grownCap w (n+m) cap e-(n+m)))) e (cs:=cs++xs)
   yv (λj p q=>by
    have hK2:(Vw.mk F β s.lv w).jN (Vw.mk F β (aM s.lv k .dead) w.drew):=Vw.j0 (λ_ h=>h) (λ_ _=>rfl) (λt=>by
     by_cases e:t=k
     ·subst e;show LB.sub (s.lv t) (aM s.lv t .dead t);rw[aI];cases s.lv t<;>simp[LB.sub]
     ·show LB.sub (s.lv t) (aM s.lv k .dead t);rw[bt _ _ e];exact LB.cF _) (λ_ _ _=>rfl) (λ_=>bf _)
    simp only[adl]at p;have hto:(arr.toList.take (n*sz)).length=n*sz:=yv
    by_cases hj:j<n*sz
    ·have e1:((arr.toList.take (n*sz)).toArray++vs.toArray++Builtin.zeroCells z.cells (grownCap w (n+m) cap e-(n+m)))[j]=arr[j]' zd:=by
      rw[aeX yv,aeX yv];simp
     rw[e1,aeF zd];exact hK2.cv (g3 _ _ _)
    ·have e1:((arr.toList.take (n*sz)).toArray++vs.toArray++Builtin.zeroCells z.cells (grownCap w (n+m) cap e-(n+m)))[j]=vs[j-n*sz]' zd:=by
      rw[aeX yv,agG yv];simp[hto]
     rw[e1,ae4 zd];simp only[hfull];exact hK2.cv (h6 _ _ _))
  have hun:=hal.Jt (k:=κ) own B9;rw[DY]at hun;refine⟨_,_,_,_,hr,hun,⟨?_,rfl⟩⟩;simp only[Vw.cT,aI];refine⟨_,rfl,grownCap_ge w (n+m) cap e,?_⟩;have hge:=grownCap_ge w (n+m) cap e;simp only[dN,heap_alloc,af7,if_true,afT,afz,size_zeroCells,hl',hsize,hzs,acM,afv];rw[aea hn,<-adn,<-adn]
  grind
theorem aR.D3(hs:aR c F β s a w){n:Nat}(hκ:s.lv κ=.hole)(hT:fU c.P T=some (e,sz))
 (hi:c.P.info? e=some i) (hz:i.zero=some z)(hy:s.val c.G y=.c (.lsf k off n sz)) (hk:s.lv k=.cells own fz T' cs) (hfull:off+n*sz<=cs.length)
 (hx:cC s.lv sz (s.val c.G x)=some (m,xs)) (hm0:m≠0) (hzs:z.cells.size=sz) (h63:n+m<=9223372036854775807) (hb:(n+m)*i.bytes<=140737488355328) :
 ∃v F' β' w',(Builtin.append_ #[T,T] ty #[a.eval y,a.eval x]).run c.P w=.ok v w' /\
  aR c F' β' ⟨s.fr,aM s.lv κ (.cells true false e ((cs.drop off).take (n*sz)++xs))⟩ a w' /\
  (Vw.mk F' β' (aM s.lv κ (.cells true false e ((cs.drop off).take (n*sz)++xs))) w').cv v (.aO κ 0 (n+m) sz):=by
 obtain⟨hu,hie,hsz⟩:=eJ hT;have hsize:i.size=sz:=t7
 obtain⟨hlen,ao,cap',h1,h2,h3,vs,h4,h5,h6⟩:=hs.src hx;have hv:=hy▸hs.val y;obtain⟨⟨hv,_⟩,hcn⟩:=hv;simp only[Vw.cT,hk]at hv;obtain⟨cap,EM,Wj,hv3⟩:=hv;have hcn:=hcn _ _ _ EM;subst hcn;have hbk:=hs.dj k;unfold Vw.dj at hbk;simp only[hk]at hbk;obtain⟨arr,g1,g2,g3,g4,g5⟩:=hbk;have has:dN w (β k)=arr.size:=by simp[dN,g1]
 rw[has]at hv3
 have hsrc:∃ad:Addr,(Builtin.append_ #[T,T] ty #[a.eval y,a.eval x]).run c.P w=(Builtin.append_ #[T,T] ty #[.slice (some ⟨β k,off,none⟩) cap cap,.slice (some ad) m cap']).run c.P w /\
  (∀j u,vs[j]?=some u->w.cell? (ad.add j)=some u):=by
  cases ao with
  |some ad=>grind
  |none=>exact absurd (h2 rfl) hm0
 obtain⟨ad,hsrc,hnews⟩:=hsrc;rw[hsrc];have hl':vs.length=m*i.size:=ba
 have holds:∀j u,((arr.toList.drop off).take (cap*sz))[j]?=some u->w.cell? ((⟨β k,off,none⟩:Addr).add j)=some u:=by
  intro j u hu;rw[af6]at hu;split at hu
  ·rw[afx,ags]at hu;rw[aeL,cell_of_row w _ _ _ _ _ g1];exact hu
  ·cases hu
 have hr:=run_append_grow (P:=c.P) w T ty e i z hu hi hz ⟨β k,off,none⟩ cap cap ((arr.toList.drop off).take (cap*sz)) (by simp;rw[hsize];omega) holds ad m cap' vs hl' hnews zd zd (growslice_fits zd hb);have hd:aR c F β s a w.drew:=hs.heap rfl;have hto:((arr.toList.drop off).take (cap*sz)).length=cap*sz:=yv
 have htc:((cs.drop off).take (cap*sz)).length=cap*sz:=yv
 have hK2:(Vw.mk F β s.lv w).jN (Vw.mk F β s.lv w.drew):=Vw.j0 (λ_ h=>h) (λ_ _=>rfl) (λ_=>LB.cF _) (λ_ _ _=>rfl) (λ_=>bf _)
 have hal:=hd.alloc (κ:=κ) hκ (arr:=(((arr.toList.drop off).take (cap*sz)).toArray++vs.toArray++Builtin.zeroCells z.cells (grownCap w (cap+m) cap e-(cap+m)))) e (cs:=(cs.drop off).take (cap*sz)++xs)
  (by simp only[adl,htc,afT,afz,hto];omega) (λj p q=>by
   simp only[adl]at p
   by_cases hj:j<cap*sz
   ·have e1:(((arr.toList.drop off).take (cap*sz)).toArray++vs.toArray++Builtin.zeroCells z.cells (grownCap w (cap+m) cap e-(cap+m)))[j]=arr[off+j]' zd:=by
     rw[aeX yv,aeX yv];simp
    rw[e1,aeF zd];simp only[agt,afR];exact hK2.cv (g3 _ _ _)
   ·have e1:(((arr.toList.drop off).take (cap*sz)).toArray++vs.toArray++Builtin.zeroCells z.cells (grownCap w (cap+m) cap e-(cap+m)))[j]=vs[j-cap*sz]' zd:=by
     rw[aeX yv,agG yv];simp[hto]
    rw[e1,ae4 zd];simp only[htc];exact hK2.cv (h6 _ _ _))
 refine⟨_,_,_,_,hr,hal,⟨?_,rfl⟩⟩;simp only[Vw.cT,aI];refine⟨_,rfl,grownCap_ge w (cap+m) cap e,?_⟩;have hge:=grownCap_ge w (cap+m) cap e;simp only[dN,heap_alloc,af7,if_true,afT,afz,size_zeroCells,hl',hsize,hzs,hto];rw[<-adn,<-adn]
 grind
theorem CO{n:Nat}(hd:∀d,o.dst=some d->d<c.n)
 (ho:o.op=.call { callee:=.builtin .append,args:=#[y,x],argTypes:=#[T,T] }) (hκ:s.lv κ=.hole) (hT:fU c.P T=some (e,sz))
 (hi:c.P.info? e=some i) (hz:i.zero=some z) (hy:s.val c.G y=.c (.lsf k off n sz)) (hk:s.lv k=.cells own fz T' cs) (hfull:off+n*sz<=cs.length)
 (hx:cC s.lv sz (s.val c.G x)=some (m,xs)) (hm0:m≠0) (hzs:z.cells.size=sz) (h63:n+m<=9223372036854775807) (hb:(n+m)*i.bytes<=140737488355328) :
 di c o s (aJ.put ⟨s.fr,aM s.lv κ (.cells true false e ((cs.drop off).take (n*sz)++xs))⟩ o.dst (.c (.aO κ 0 (n+m) sz))):=
 di.gN hd λF β a w hs=>by
  obtain⟨v,F',β',w',h1,h2,h3⟩:=hs.D3 (ty:=o.type) hκ hT hi hz hy hk hfull hx hm0 hzs h63 hb;exact⟨v,F',β',w',ne,h2,h3⟩
theorem Bf(hd:∀d,o.dst=some d->d<c.n)
 (ho:o.op=.call { callee:=.builtin .append,args:=#[y,x],argTypes:=#[T,T] }) (hκ:s.lv κ=.hole) (hy:s.val c.G y=.c (.d .nilsl)) (hT:fU c.P T=some (e,sz))
 (hi:c.P.info? e=some i) (hz:i.zero=some z) (hx:cC s.lv sz (s.val c.G x)=some (m,xs)) (hzs:z.cells.size=sz) (h63:m<=9223372036854775807) (hb:m*i.bytes<=140737488355328) :
 di c o s (aJ.put ⟨s.fr,aM s.lv κ (if m=0 then .nils else .cells true false e xs)⟩ o.dst (.c (.aO κ 0 m sz))):=
 di.gN hd λF β a w hs=>by
  obtain⟨v,F',β',w',h1,h2,h3⟩:=hs.qO (ty:=o.type) hκ hT hi hz hx hzs h63 hb;refine⟨v,F',β',w',?_,h2,h3⟩;have hv:=hy▸hs.val y;obtain⟨hv,_⟩:=hv;obtain⟨u,hu⟩:∃u,a.eval y=u:=⟨_,rfl⟩
  rw[hu]at hv
  cases hv
  simp[execOp,ho,resolve,invoke,builtin,hu,h1]
theorem zJ{n:Nat}(hd:∀d,o.dst=some d->d<c.n)
 (ho:o.op=.call { callee:=.builtin .append,args:=#[y,x],argTypes:=#[T,T] }) (hκ:s.lv κ=.hole) (hT:fU c.P T=some (e,sz))
 (hi:c.P.info? e=some i) (hz:i.zero=some z) (hy:s.val c.G y=.c (.aO k 0 n sz)) (hk:s.lv k=.cells own false e cs) (hfull:cs.length=n*sz)
 (hx:cC s.lv sz (s.val c.G x)=some (m,xs)) (hzs:z.cells.size=sz) (h63:n+m<=9223372036854775807) (hb:(n+m)*i.bytes<=140737488355328) :
 di c o s (aJ.put ⟨s.fr,aM (aM s.lv k .dead) κ (.cells own false e (cs++xs))⟩ o.dst (.c (.aO κ 0 (n+m) sz))):=
 di.gN hd λF β a w hs=>by
  obtain⟨v,F',β',w',h1,h2,h3⟩:=hs.AI (ty:=o.type) hκ hT hi hz hy hk hfull hx hzs h63 hb;exact⟨v,F',β',w',ne,h2,h3⟩
theorem yB(hd:∀d,o.dst=some d->d<c.n)
 (ho:o.op=.call { callee:=.builtin .append,args:=#[y,x],argTypes:=#[T,T] }) (hκ:s.lv κ=.hole) (hT:fU c.P T=some (e,sz))
 (hi:c.P.info? e=some i) (hz:i.zero=some z) (hy:s.val c.G y=.c (.aO k 0 0 sz)) (hk:s.lv k=.nils)
 (hx:cC s.lv sz (s.val c.G x)=some (m,xs)) (hzs:z.cells.size=sz) (h63:m<=9223372036854775807) (hb:m*i.bytes<=140737488355328) :
 di c o s (aJ.put ⟨s.fr,aM s.lv κ (if m=0 then .nils else .cells true false e xs)⟩ o.dst (.c (.aO κ 0 m sz))):=
 di.gN hd λF β a w hs=>by
  obtain⟨v,F',β',w',h1,h2,h3⟩:=hs.qO (ty:=o.type) hκ hT hi hz hx hzs h63 hb;refine⟨v,F',β',w',?_,h2,h3⟩;have hv:=hy▸hs.val y;obtain⟨hv,_⟩:=hv;simp only[Vw.cT,hk]at hv;simp[execOp,ho,resolve,invoke,builtin,hv.1,h1]
end
section
variable {c:Ctx}{F:Nat->Prop}{β:Key->Nat}{s:aJ}{a:Act}{w:World}
theorem He{α:Type}(off:Nat):∀(vs:List α) (n:Nat) (cells:Array α) (i:Nat),
 ((vs.zipIdx n).foldl (λcs (p:α×Nat)=>cs.setIfInBounds (off+p.2) p.1) cells)[i]? =
  if off+n<=i/\i<off+n+vs.length/\i<cells.size then vs[i-(off+n)]? else cells[i]?
 |[],n,cells,i=>by
  rw[if_neg yv];rfl
 |v::vs,n,cells,i=>by
  rw[List.zipIdx_cons,afU,He off vs (n+1)]
  grind
theorem Fa(off:Nat)(vs cells:Array α)(h:off+vs.size<=cells.size):
 vs.zipIdx.foldl (λcs (p:α×Nat)=>cs.setIfInBounds (off+p.2) p.1) cells=(ai cells.toList off vs.toList).toArray:=by
 apply Array.ext_getElem?;intro i;rw[<-Array.foldl_toList,Array.toList_zipIdx,He];have hle:off+vs.toList.length<=cells.toList.length:=ta
 have hlen:=eW cells.toList off vs.toList hle
 have hR:(ai cells.toList off vs.toList).toArray[i]?=if off<=i/\i<off+vs.size/\i<cells.size then vs.toList[i-off]? else cells[i]?:=by
  rw[List.getElem?_toArray]
  by_cases hi:i<cells.size
  ·have hi':i<(ai cells.toList off vs.toList).length:=by rw[hlen];simpa using hi
   rw[fy hi',gF _ _ _ hle]
   grind
  ·grind
 grind
def ic(place:Nat->Option (Nat×Nat))(cells:List CV):List (Nat×AV)->Option (List CV)
 |[]=>some cells
 |(i,v)::rest=>
  match place i,v.cells with
  |some (off,size),some cs=>if cs.length=size/\off+size<=cells.length then ic place (ai cells off cs) rest else none
  |_,_=>none
theorem Ep{V:Vw}{place:Nat->Option (Nat×Nat)}:∀{parts:List (Nat×AV)}{vparts:List (Nat×Value)}{cells cells':List CV}{arr:Array Value},
 ic place cells parts=some cells'->vparts.map (·.1)=parts.map (·.1)->(∀i (h:i<parts.length) (h':i<vparts.length),V.av vparts[i].2 parts[i].2) ->
 arr.size=cells.length->(∀i (h:i<cells.length) (h':i<arr.size),V.cv arr[i] cells[i]) ->
 ∃arr',Instr.fill place arr vparts=some arr'/\arr'.size=cells'.length/\(∀i (h:i<cells'.length) (h':i<arr'.size),V.cv arr'[i] cells'[i])
 |[],vparts,cells,cells',arr,h,hi,_,h1,h2=>by
  simp only[ic,aj]at h;subst h
  cases vparts with
  |nil=>exact⟨arr,rfl,h1,h2⟩
  |cons x y=>simp at hi
 |(i,v)::rest,[],cells,cells',arr,h,hi,_,h1,h2=>by simp at hi
 |(i,v)::rest,(j,u)::vrest,cells,cells',arr,h,hi,hv,h1,h2=>by
  simp only[ic]at h;split at h
  ·rename_i off size cs hp hcs
   split at h
   ·rename_i hc
    simp only[adi,aep]at hi;obtain⟨rfl,hi⟩:=hi;have hu:V.av u v:=hv 0 zp zp;obtain⟨h3,h4⟩:=Vw.nr hu hcs;have hle:off+cs.length<=cells.length:=zd
    have hle':off+u.cells.toList.length<=arr.toList.length:=yv
    have hf:Instr.fill place arr ((j,u)::vrest)=Instr.fill place (ai arr.toList off u.cells.toList).toArray vrest:=by
     simp only[Instr.fill,hp];rw[if_neg yv,<-Fa off u.cells arr zd]
    rw[hf];refine Ep h hi (λk p q=>hv (k+1) yn yn) ?_ ?_
    ·rw[eW _ _ _ hle];simp[eW _ _ _ hle',h1]
    ·intro k p q;simp only[af4];rw[gF _ _ _ hle' k zd,gF _ _ _ hle k p]
     grind
   grind
  grind
def y7(P:Program)(t:TypeId):Option (Nat->Option (Nat×Nat)):=
 match P.underlying t with
 |some (.array _ e)=>match P.info? e with|some ie=>some (λi=>some (i*ie.size,ie.size))|none=>none
 |some (.struct fields)=>match fields.toList.mapM (λf=>(P.info? f.type).map λi=>(f.offset,i.size))with
  |some places=>some (places.toArray[·]?)
  |none=>none
 |_=>none
theorem LU{place:Nat->Option (Nat×Nat)}(hd:∀d,o.dst=some d->d<c.n)(ho:o.op=.build T parts)
 (hz:(c.P.info? T).bind (·.zero)=some z) (hzs:(yL z).cells=some zs) (hp:y7 c.P T=some place)
 (hf:ic place zs (parts.toList.map λp=>(p.1,s.val c.G p.2))=some cs):di c o s (s.put o.dst (.agg cs)):=
 di.bA hd λF β a w hs=>by
  obtain⟨it,hit,hz⟩:=Option.bind_eq_some_iff.1 hz;obtain⟨h1,h2⟩:=Vw.nr (AM (Vw.mk F β s.lv w) z) hzs;obtain⟨arr,h3,h4,h5⟩:=Ep (V:=Vw.mk F β s.lv w) (vparts:=parts.toList.map λp=>(p.1,a.eval p.2)) hf zp (λi p q=>by simp only[rP];exact hs.val _) h1 h2;refine⟨.agg arr,?_,arr,rfl,h4,h5⟩
  have hb:c.P.built T (parts.map λ(i,x)=>(i,a.eval x)).toList=some arr:=by
   unfold Program.built;unfold y7 at hp;have e1:(parts.map λ(i,x)=>(i,a.eval x)).toList=parts.toList.map λp=>(p.1,a.eval p.2):=zp
   rw[e1]
   cases hu:c.P.underlying T with
   |none=>grind
   |some d=>
    grind
  simp only[execOp,ho,cy,run_build w T _ arr hb,nZ];rfl
theorem A0{n:Nat}(hd:∀d,o.dst=some d->d<c.n)(ho:o.op=.buildSlice T n parts)
 (hκ:s.lv κ=.hole) (hT:fU c.P T=some (e,sz)) (hz:(c.P.info? e).bind (·.zero)=some z) (hzs:(yL z).cells=some zs) (hsz:zs.length=sz) (hpos:0<sz) (hn:n*sz<=16777216)
 (hf:ic (λi=>some (i*sz,sz)) (gh n zs) (parts.toList.map λp=>(p.1,s.val c.G p.2))=some cs) :
 di c o s (aJ.put ⟨s.fr,aM s.lv κ (.cells true false e cs)⟩ o.dst (.c (.aO κ 0 n sz))):=
 di.gN hd λF β a w hs=>by
  obtain⟨it,hit,hz⟩:=Option.bind_eq_some_iff.1 hz;obtain⟨hu,hie,hsz'⟩:=eJ hT;obtain⟨h1,h2⟩:=Vw.nr (AM (Vw.mk F β s.lv w) z) hzs;have hzl:z.cells.size=sz:=zd
  obtain⟨arr,h3,h4,h5⟩:=Ep (V:=Vw.mk F β s.lv w) (vparts:=parts.toList.map λp=>(p.1,a.eval p.2)) (arr:=(Array.range (n*sz)).map (z.cells[· % z.cells.size]!)) hf zp (λi p q=>by simp only[rP];exact hs.val _)
   (by rw[qo,hsz];simp) (λj p q=>by
    have hm:j%zs.length<zs.length:=adx _ zd;rw[Ff _ _ _ p hm]
    grind)
  have hcl:cs.length=n*sz:=by
   have:∀(parts:List (Nat×AV)) (cells cells':List CV),ic (λi=>some (i*sz,sz)) cells parts=some cells'->cells'.length=cells.length:=by
    intro parts
    induction parts with
    |nil=>intro cells cells' h;simp only[ic,aj]at h;rw[h]
    |cons p rest ih=>
     intro cells cells' h;obtain⟨i,v⟩:=p;simp only[ic]at h;split at h
     ·rename_i off size cs' hp hcs
      split at h
      ·rename_i hc
       rw[ih _ _ h,eW _ _ _ zd]
      grind
     grind
   rw[this _ _ _ hf,qo,hsz]
  refine⟨.slice (some ⟨w.heap.size,0,none⟩) n n,F,aM β κ w.heap.size,w.alloc (.cells arr e),?_,hs.alloc hκ e zd h5,⟨?_,rfl⟩⟩
  ·have e1:(parts.map λ(i,x)=>(i,a.eval x)).toList=parts.toList.map λp=>(p.1,a.eval p.2):=by simp
   have hni:¬(n*sz > 2^24):=zd
   have harr:Instr.fill (λi=>some (i*sz,sz)) ((Array.range (n*sz)).map ((if n*sz=0 then #[]else z.cells)[· % (if n*sz=0 then(#[]:Array Value)else z.cells).size]!)) (parts.toList.map λp=>(p.1,a.eval p.2))=some arr:=by
    by_cases h0:n*sz=0
    ·rw[h0]at h3⊢;simp only[Array.range_zero',Array.map_empty]at h3⊢;exact h3
    ·rw[if_neg h0];exact h3
   by_cases h0:n*sz=0
   ·simp only[if_pos h0]at harr;simp only[execOp,ho,Instr.buildSlice,cy,run_underlying hu,nZ,run_sizeOf hie,hsz',if_neg hni,if_pos h0,ad6,e1];rw[harr];rfl
   ·simp only[if_neg h0]at harr;have hzv:(zeroValue e).run c.P w=.ok z w:=by simp[zeroValue,typeInfo,hit,hz]
    simp only[execOp,ho,Instr.buildSlice,cy,run_underlying hu,nZ,run_sizeOf hie,hsz',if_neg hni,if_neg h0,ad6,hzv,e1];rw[harr];rfl
  ·simp only[Vw.cT,aI];refine⟨n,rfl,bf _,?_⟩;simp only[dN,heap_alloc,if_true];omega
end
section
variable {c:Ctx}{F:Nat->Prop}{β:Key->Nat}{s:aJ}{a:Act}{w:World}
def Zr(op:UnOp)(d:DV):Option DV:=
 match op,d with
 |.not,.bool b=>some (.bool !b)
 |.neg,.int k n=>some (.int k (k.wrap (0-n)))
 |_,_=>none
theorem PK{op:UnOp}{d':DV}(hd:∀d,o.dst=some d->d<c.n)(ho:o.op=.unOp op T x)
 (hx:s.val c.G x=.c (.d d)) (hr:Zr op d=some d'):di c o s (s.put o.dst (.c (.d d'))):=
 di.bA hd λF β a w hs=>by
  have h1:=hx▸hs.val x;unfold Zr at hr;split at hr
  ·simp only[aj]at hr;subst hr;exact⟨_,by simp only[execOp,ho,Vw.A8 h1,Op.unary];rfl,Vw.o7 _ _⟩
  ·simp only[aj]at hr;subst hr;exact⟨_,by simp only[execOp,ho,Vw.gR h1,Op.unary,Op.intArith];rfl,Vw.pF _ _ _ (wrap_wrap _ _)⟩
  grind
def vz(P:Program)(T:TypeId):Option IntKind:=match P.underlying T with|some (.int k)=>some k|_=>none
theorem Cs{k:IntKind}(h:vz P T=some k):P.underlying T=some (.int k):=by
 unfold vz at h
 grind
theorem Eh{k:IntKind}(hd:∀d,o.dst=some d->d<c.n)(ho:o.op=.convert S T x)
 (hx:s.val c.G x=.c (.d (.int k n))) (hS:(vz c.P S).isSome=true) (hT:vz c.P T=some k'):di c o s (s.put o.dst (.c (.d (.int k' (k'.wrap n))))):=
 di.bA hd λF β a w hs=>by
  have h1:=Vw.gR (hx▸hs.val x);obtain⟨ks,hS⟩:=Option.isSome_iff_exists.1 hS;refine⟨.int k' (k'.wrap n),?_,Vw.pF _ _ _ (wrap_wrap _ _)⟩;simp only[execOp,ho,h1,convert,cy,run_underlying (Cs hS),run_underlying (Cs hT),nZ,Conv.intToInt];rfl
theorem De{l:List UInt8}(hd:∀d,o.dst=some d->d<c.n)(ho:o.op=.convert S T x)
 (hx:s.val c.G x=.c (.d (.str l))) (hS:lX c.P S=true) (hT:lX c.P T=true):di c o s (s.put o.dst (.c (.d (.str l)))):=
 di.bA hd λF β a w hs=>by
  have h1:=Vw.pY (hx▸hs.val x);refine⟨.string ⟨l.toArray⟩,?_,Vw.qC _ _ (Vw.Ej (hx▸hs.val x))⟩;simp only[execOp,ho,h1,convert,cy,run_underlying (jm hS),run_underlying (jm hT),nZ];rfl
def tg:List CV->Option (List DV)
 |[]=>some []
 |.d x::r=>(tg r).map (x::·)
 |_=>none
theorem B3:∀{cs:List CV}{ds:List DV},tg cs=some ds->cs=ds.map CV.d
 |[],ds,h=>by simp only[tg,aj]at h;grind
 |.d x::r,ds,h=>by
  simp only[tg]at h
  cases e:tg r with
  |none=>grind
  |some l=>rw[e]at h;simp only[ad2,aj]at h;subst h;rw[B3 e];rfl
 |.ptr ..::r,ds,h=>by cases h
 |.aO ..::r,ds,h=>by cases h
 |.mapr ..::r,ds,h=>by cases h
 |.lsf ..::r,ds,h=>by cases h
 |.func ..::r,ds,h=>by cases h
 |.junk::r,ds,h=>by cases h
 |.ifc ..::r,ds,h=>by cases h
def qH:AV->Option DV
 |.c (.d x)=>some x
 |.agg cs=>(tg cs).map .agg
 |_=>none
theorem Vw.deep{x:AV}(h:V.av v x)(hd:qH x=some d):Rd V.mem v d:=by
 cases x with
 |c y=>
  cases y<;>simp only[qH,aj,reduceCtorEq]at hd
  subst hd;exact h.1
 |agg cs=>
  simp only[qH]at hd
  cases e:tg cs with
  |none=>grind
  |some ds=>
   rw[e]at hd;simp only[ad2,aj]at hd;subst hd;have:=B3 e;subst this;obtain⟨arr,rfl,h1,h2⟩:=h;simp only[sC]at h1;refine .agg arr ds h1 (λi hi=>Vw.iE (h2 i yv hi)) (λi hi=>?_);have:=h2 i yn zd;simp only[rP]at this;exact this.1
 |tup l=>cases hd
 |undef=>cases hd
 |junk=>cases hd
theorem GK(hd:∀d,o.dst=some d->d<c.n)(ho:o.op=.makeInterface T x)
 (hx:qH (s.val c.G x)=some d) (hT:c.P.concrete T=true):di c o s (s.put o.dst (.c (.d (.iface T d)))):=
 di.bA hd λF β a w hs=>by
  have h1:=Vw.deep (hs.val x) hx;exact⟨.iface T (a.eval x),by simp only[execOp,ho,cy,run_makeInterface w T _ hT,nZ];rfl,.iface _ _ _ h1,rfl⟩
def oP:CV->Option qd
 |.d x=>some (.d x)
 |.ptr k o=>some (.ptr k o)
 |.aO k o l z=>some (.aO k o l z)
 |_=>none
def GL:List CV->Option (List qd)
 |[]=>some []
 |x::r=>match oP x,GL r with|some y,some l=>some (y::l)|_,_=>none
theorem Vw.SL{x:CV}{r:qd}(h:V.cv v x)(hr:Am.oP x=some r):V.oP v r:=by
 cases x<;>simp only[Am.oP,aj,reduceCtorEq]at hr
 all_goals subst hr
 all_goals exact h
theorem Cy:∀{xs:List CV}{rs:List qd},GL xs=some rs->rs.length=xs.length/\∀i (h:i<rs.length) (h':i<xs.length),oP xs[i]=some rs[i]
 |[],rs,h=>by simp only[GL,aj]at h;grind
 |x::xs,rs,h=>by
  simp only[GL]at h;split at h
  ·rename_i y l hy hl
   simp only[aj]at h;subst h;obtain⟨h1,h2⟩:=Cy hl
   grind
  grind
def lZ:AV->Option Ref
 |.c (.d x)=>some (.d x)
 |.c (.ptr k o)=>some (.ptr k o)
 |.c (.aO k o l z)=>some (.aO k o l z)
 |.c (.ifc t x)=>some (.ifc t x)
 |.agg cs=>match tg cs with|some l=>some (.d (.agg l))|none=>(GL cs).map .agg
 |_=>none
theorem Vw.lZ{x:AV}{r:Ref}(h:V.av v x)(hr:Am.lZ x=some r):V.ref v r:=by
 cases x with
 |c y=>
  cases y<;>simp only[Am.lZ,aj,reduceCtorEq]at hr
  all_goals subst hr
  ·exact h.1
  ·exact h
  ·exact h
  ·exact h
 |agg cs=>
  simp only[Am.lZ]at hr
  cases e:tg cs with
  |none=>
   rw[e]at hr;simp only[adY]at hr;obtain⟨rs,h1,rfl⟩:=hr;obtain⟨arr,rfl,h2,h3⟩:=h;obtain⟨h4,h5⟩:=Cy h1;exact⟨arr,rfl,zd,λi p q=>Vw.SL (h3 i zd q) (h5 i p zd)⟩
  |some ds=>
   rw[e]at hr;simp only[aj]at hr;subst hr;exact Vw.deep (x:=.agg cs) h (by simp[qH,e])
 |tup l=>cases hr
 |undef=>cases hr
 |junk=>cases hr
def lK:List AV->Option (List Ref)
 |[]=>some []
 |x::r=>match lZ x,lK r with|some y,some l=>some (y::l)|_,_=>none
theorem Al{V:Vw}:∀{vs:List Value}{xs:List AV}{rs:List Ref},lK xs=some rs->vs.length=xs.length ->
 (∀i (h:i<xs.length) (h':i<vs.length),V.av vs[i] xs[i])->rs.length=vs.length/\∀i (h:i<rs.length) (h':i<vs.length),V.ref vs[i] rs[i]
 |[],[],rs,h,_,_=>by simp only[lK,aj]at h;grind
 |[],x::xs,rs,_,hl,_=>by simp at hl
 |v::vs,[],rs,_,hl,_=>by simp at hl
 |v::vs,x::xs,rs,h,hl,hv=>by
  simp only[lK]at h;split at h
  ·rename_i y l hy hl'
   simp only[aj]at h;subst h;obtain⟨h1,h2⟩:=Al hl' yn (λi p q=>hv (i+1) yn yn);refine⟨by simp[h1],λi p q=>?_⟩
   cases i with
   |zero=>exact Vw.lZ (hv 0 zp zp) hy
   |succ i=>grind
  grind
def cQ:List Ref->Option (List DV)
 |[]=>some []
 |.d x::r=>(cQ r).map (x::·)
 |_=>none
theorem pg:∀{rs:List Ref}{ds:List DV},cQ rs=some ds->rs=ds.map Ref.d
 |[],ds,h=>by simp only[cQ,aj]at h;grind
 |.d x::r,ds,h=>by
  simp only[cQ]at h
  cases e:cQ r with
  |none=>grind
  |some l=>rw[e]at h;simp only[ad2,aj]at h;subst h;rw[pg e];rfl
 |.ptr ..::r,ds,h=>by cases h
 |.aO ..::r,ds,h=>by cases h
 |.agg ..::r,ds,h=>by cases h
 |.ifc ..::r,ds,h=>by cases h
def mZ(fn:Fn)(fs cs:List Ref):CV:=
 match cQ fs,cQ cs with
 |some fd,some cd=>.d (.func fn fd cd)
 |_,_=>.func fn fs cs
theorem Vw.mZ{fs cs:Array Value}{fr:List Ref}(h1:fs.size=fr.length)(h2:cs.size=cr.length)
 (h3:∀i (h:i<fr.length) (h':i<fs.size),V.ref fs[i] fr[i]) (h4:∀i (h:i<cr.length) (h':i<cs.size),V.ref cs[i] cr[i]) :
 V.cv (.func fn fs cs) (Am.mZ fn fr cr):=by
 unfold Am.mZ;split
 ·rename_i fd cd hf hc
  have:=pg hf;subst this;have:=pg hc;subst this;simp only[sC]at h1 h2;refine⟨.func fn fs cs fd cd h1 h2 (λi hi=>?_) (λi hi=>?_),rfl⟩
  ·have:=h3 i yn zd;simp only[rP]at this;exact this
  ·have:=h4 i yn zd;simp only[rP]at this;exact this
 ·exact⟨fs,cs,rfl,h1,h2,h3,h4⟩
theorem HE{first caps:Array Operand}{fr:List Ref}(hd:∀d,o.dst=some d->d<c.n)(ho:o.op=.makeFunc fn first caps)
 (hf:lK (first.toList.map (s.val c.G))=some fr) (hc:lK (caps.toList.map (s.val c.G))=some cr):di c o s (s.put o.dst (.c (mZ fn fr cr))):=
 di.bA hd λF β a w hs=>by
  obtain⟨h1,h2⟩:=Al (V:=Vw.mk F β s.lv w) (vs:=first.toList.map a.eval) hf zp (λi p q=>by simp only[rP];exact hs.val _);obtain⟨h3,h4⟩:=Al (V:=Vw.mk F β s.lv w) (vs:=caps.toList.map a.eval) hc zp (λi p q=>by simp only[rP];exact hs.val _);refine⟨.func fn (first.map a.eval) (caps.map a.eval),by simp[execOp,ho,Instr.makeFunc],?_⟩;refine Vw.mZ yn yn (λi p q=>?_) (λi p q=>?_)
  ·grind
  grind
def Qn(P:Program):Nat->TypeId->AV->AV->Option Bool
 |0,_,_,_=>none
 |d+1,t,x,y=>
  match P.underlying t,x,y with
  |some .bool,.c (.d (.bool a)),.c (.d (.bool b))=>some (a==b)
  |some (.int _),.c (.d (.int k a)),.c (.d (.int k' b))=>if k=k' then some (a==b)else none
  |some .string,.c (.d (.str a)),.c (.d (.str b))=>some (a==b)
  |some (.pointer _),.c (.d .nilp),.c (.d .nilp)=>some true
  |some (.pointer _),.c (.d .nilp),.c (.d (.ptr _))=>some false
  |some (.pointer _),.c (.d (.ptr _)),.c (.d .nilp)=>some false
  |some (.slice _),.c (.d .nilsl),.c (.d .nilsl)=>some true
  |some (.slice _),.c (.d .nilsl),.c (.d (.sl _))=>some false
  |some (.slice _),.c (.d (.sl _)),.c (.d .nilsl)=>some false
  |some (.interface _),.c (.d .nilIface),.c (.d (.iface _ _))=>some false
  |some (.interface _),.c (.d (.iface _ _)),.c (.d .nilIface)=>some false
  |some (.struct fields),.agg xs,.agg ys=>if P.stoodInHeld t then none else
   fields.toList.foldr (λf r=>if f.name ≠ "_" then(match tq P f.type xs f.offset,tq P f.type ys f.offset with
    |some u,some v=>match Qn P d f.type u v,r with|some b,some r=>some (b&&r)|_,_=>none
    |_,_=>none)else r) (some true)
  |_,_,_=>none
theorem D0{P:Program}(V:Vw):∀(d:Nat) (t:TypeId) (x y:AV) (b:Bool),Qn P d t x y=some b->∀(u v:Value),V.av u x->V.av v y->∀n,d<=n ->
 (Op.equalIn n t u v).run P V.w=.ok b V.w
 |0,_,_,_,_,h=>by cases h
 |d+1,t,x,y,b,h=>by
  intro u v hu hv n hn;obtain⟨m,rfl⟩:∃m,n=m+1:=⟨n-1,zd⟩
  unfold Qn at h;split at h
  ·rename_i hT
   simp only[aj]at h;subst h;rw[Vw.A8 hu,Vw.A8 hv];exact run_equalIn_bool' V.w m t _ _ hT
  ·rename_i hT
   split at h
   ·rename_i hk;subst hk
    simp only[aj]at h;subst h;rw[Vw.gR hu,Vw.gR hv];exact run_equalIn_int V.w m t _ _ _ _ hT
   grind
  ·rename_i hT
   simp only[aj]at h;subst h;rw[Vw.pY hu,Vw.pY hv,run_equalIn_string V.w m t _ _ hT,toList_mk,toList_mk]
  ·rename_i hT;simp only[aj]at h;subst h
   obtain⟨hu,_⟩:=hu;obtain⟨hv,_⟩:=hv;cases hu<;>cases hv<;>simp[Op.equalIn,run_underlying hT]
  ·rename_i hT;simp only[aj]at h;subst h
   obtain⟨hu,_⟩:=hu;obtain⟨hv,_⟩:=hv;cases hu<;>cases hv<;>simp[Op.equalIn,run_underlying hT]
  ·rename_i hT;simp only[aj]at h;subst h
   obtain⟨hu,_⟩:=hu;obtain⟨hv,_⟩:=hv;cases hu<;>cases hv<;>simp[Op.equalIn,run_underlying hT]
  ·rename_i hT;simp only[aj]at h;subst h
   obtain⟨hu,_⟩:=hu;obtain⟨hv,_⟩:=hv;cases hu<;>cases hv<;>simp[Op.equalIn,run_underlying hT]
  ·rename_i hT;simp only[aj]at h;subst h
   obtain⟨hu,_⟩:=hu;obtain⟨hv,_⟩:=hv;cases hu<;>cases hv<;>simp[Op.equalIn,run_underlying hT]
  ·rename_i hT;simp only[aj]at h;subst h
   obtain⟨hu,_⟩:=hu;obtain⟨hv,_⟩:=hv;cases hu<;>cases hv<;>simp[Op.equalIn,run_underlying hT]
  ·rename_i hT;simp only[aj]at h;subst h
   obtain⟨hu,_⟩:=hu;obtain⟨hv,_⟩:=hv;cases hu<;>cases hv<;>simp[Op.equalIn,run_underlying hT]
  ·rename_i hT;simp only[aj]at h;subst h
   obtain⟨hu,_⟩:=hu;obtain⟨hv,_⟩:=hv;cases hu<;>cases hv<;>simp[Op.equalIn,run_underlying hT]
  ·rename_i fields xs ys hT
   split at h
   ·cases h
   ·rename_i hst
    obtain⟨ax,rfl,hx1,hx2⟩:=hu;obtain⟨ay,rfl,hy1,hy2⟩:=hv;have hfo:P.fieldsOf t=fields:=by simp[Program.fieldsOf,hT]
    rw[run_equalIn_struct V.w m t ax ay yn yn,hfo];clear hT hfo;generalize fields.toList=fs at h
    induction fs generalizing b with
    |nil=>simp only[List.foldr_nil,aj]at h;subst h;rfl
    |cons f fs ih=>
     simp only[List.foldr_cons]at h;simp only[Op.eqFields];split at h
     ·rename_i hnm
      rw[if_pos hnm];split at h
      ·rename_i p q hp hq
       split at h
       ·rename_i b1 r1 he hr
        simp only[aj]at h;subst h;obtain⟨v1,e1,e2⟩:=uF V hp ax hx1 hx2;obtain⟨v2,e3,e4⟩:=uF V hq ay hy1 hy2;have e5:=D0 V d f.type p q b1 he v1 v2 e2 e4 m zd;simp only[cy,e1,e3,e5,nZ]
        cases b1 with
        |false=>simp
        |true=>grind
       grind
      grind
     grind
  grind
theorem Nv{T0:TypeId}{n:Nat}(hd:∀d,o.dst=some d->d<c.n)(ho:o.op=.call { callee:=.builtin .copy,args:=#[y,x],argTypes:=#[T,T'] })
 (hy:s.val c.G y=.c (.aO k off n 1)) (hk:s.lv k=.cells own false T0 cs) (hT:fU c.P T=some (e,1)) (hx:cC s.lv 1 (s.val c.G x)=some (m,xs)) (hm:0<m) (hoff:off+min m n<=cs.length) (hn:n<=9223372036854775807) :
 di c o s (aJ.put ⟨s.fr,aM s.lv k (.cells own false T0 (ai cs off (xs.take (min m n))))⟩ o.dst (.c (.d (.int .i64 ((min m n:Nat):Int))))):=
 di.gN hd λF β a w hs=>by
  have h1:=hy▸hs.val y;obtain⟨h1,_⟩:=h1;simp only[Vw.cT,hk]at h1;obtain⟨cap,h1,_,_⟩:=h1;have hb:=hs.dj k;unfold Vw.dj at hb;simp only[hk]at hb;obtain⟨arr,h2,h3,h4,_⟩:=hb;obtain⟨hu,hie,hsz⟩:=eJ hT;obtain⟨hl,ao,scap,hsx,hnone,hspot,vs,hvl,hvc,hvr⟩:=hs.src hx
  cases ao with
  |none=>grind
  |some ad=>
   have hlen:(vs.take (min m n)).length=min m n:=by rw[acM,hvl,hl];omega
   have hone:∀v∈vs.take (min m n),v.oneCell'=true:=by
    intro v hv;obtain⟨i,hi,rfl⟩:=List.mem_iff_getElem.1 (afw hv);exact Vw.iE (hvr i zd hi)
   have hs1:(c.P.info? e).map (·.size)=some 1:=by
    obtain⟨i,hi⟩:=Option.isSome_iff_exists.1 hie;rw[hi];simp[lM,hi]at hsz;simp[hsz]
   have hrun:=run_copy_row c.P w T T' o.type e (β k) off n cap ad m scap arr T0 (vs.take (min m n)) hu hs1 h2 hlen
    (λj v hj=>hvc ad rfl j v yn) zd hone
   have hset:arr.toList.take off++vs.take (min m n)++arr.toList.drop (off+(vs.take (min m n)).length)=ai arr.toList off (vs.take (min m n)):=rfl;have hle:off+(vs.take (min m n)).length<=arr.toList.length:=by rw[hlen,afv];omega
   have hxl:(xs.take (min m n)).length=min m n:=by rw[acM,hl];omega
   have hle2:off+(xs.take (min m n)).length<=cs.length:=by rw[hxl];omega
   refine⟨.int .i64 ((min m n:Nat):Int),F,β,_,?_,hs.setRow (arr:=(ai arr.toList off (vs.take (min m n))).toArray) hk h2 yn (by rw[eW _ _ _ hle2];grind) ?_,?_⟩
   ·rw[hlen]at hrun;simp[execOp,ho,resolve,invoke,builtin,h1,hsx,hrun,goInt,ai,hlen]
   ·intro i p q;simp only[af4];rw[gF _ _ _ hle i zd,gF _ _ _ hle2 i p]
    grind
   ·exact Vw.pF _ _ _ (eG (by simp only[BB,rM];omega))
end
def qd.dA(g:Key->Key):qd->qd
 |.d x=>.d x
 |.ptr k o=>.ptr (g k) o
 |.aO k o l z=>.aO (g k) o l z
def Ref.dA(g:Key->Key):Ref->Ref
 |.d x=>.d x
 |.ptr k o=>.ptr (g k) o
 |.aO k o l z=>.aO (g k) o l z
 |.agg cs=>.agg (cs.map (qd.dA g))
 |.ifc t x=>.ifc t (x.dA g)
def CV.dA(g:Key->Key):CV->CV
 |.d x=>.d x
 |.ptr k o=>.ptr (g k) o
 |.aO k o l z=>.aO (g k) o l z
 |.mapr k=>.mapr (g k)
 |.lsf k o l z=>.lsf (g k) o l z
 |.func fn f c=>.func fn (f.map (Ref.dA g)) (c.map (Ref.dA g))
 |.ifc t x=>.ifc t (x.dA g)
 |.junk=>.junk
def AV.sX(g:Key->Key):AV->AV
 |.c x=>.c (x.dA g)
 |.agg cs=>.agg (cs.map (CV.dA g))
 |.tup _=>.junk
 |.undef=>.undef
 |.junk=>.junk
def AV.dA(g:Key->Key):AV->AV
 |.tup l=>.tup (l.map (AV.sX g))
 |x=>x.sX g
def LB.BN(x y:LB):Prop:=
 match x,y with
 |.hole,.hole=>True
 |_,.dead=>x≠.hole
 |.nils,.nils=>True
 |.cells ..,.cells ..=>True
 |.map ..,.map ..=>True
 |_,_=>False
structure Vw.Ren(V V2:Vw)(g:Key->Key):Prop where
 F:V2.F=V.F
 w:V2.w=V.w
 β:∀k,V2.lv k≠.hole->V2.β k=V.β (g k)
 BN:∀k,(V.lv (g k)).BN (V2.lv k)
section
variable {V V2:Vw}{g:Key->Key}
theorem Vw.Ren.mem(h:V.Ren V2 g):V2.mem=V.mem:=by
 unfold Vw.mem;rw[h.F,h.w]
theorem Vw.Ren.ptr(h:V.Ren V2 g)(hv:V.ff v (g k) off):V2.ff v k off:=by
 have h1:=h.BN k;have h2:=h.β k;unfold Vw.ff at*
 cases e:V.lv (g k)<;>cases e':V2.lv k<;>simp[e,e',LB.BN]at h1 h2 hv⊢<;>(try rw[h2])<;>assumption
theorem Vw.Ren.aO(h:V.Ren V2 g)(hv:V.cT v (g k) off len sz):V2.cT v k off len sz:=by
 have h1:=h.BN k;have h2:=h.β k;unfold Vw.cT at*
 rw[h.w]
 cases e:V.lv (g k)<;>cases e':V2.lv k<;>simp[e,e',LB.BN]at h1 h2 hv⊢<;>(try rw[h2])<;>assumption
theorem Vw.Ren.map(h:V.Ren V2 g)(hv:V.qJ v (g k)):V2.qJ v k:=by
 have h1:=h.BN k;have h2:=h.β k;unfold Vw.qJ at*
 cases e:V.lv (g k)<;>cases e':V2.lv k<;>simp[e,e',LB.BN]at h1 h2 hv⊢<;>(try rw[h2])<;>assumption
theorem Vw.Ren.oP(h:V.Ren V2 g){x:qd}(hv:V.oP v (x.dA g)):V2.oP v x:=by
 cases x with
 |d x=>exact⟨no,hv.2⟩
 |ptr k off=>exact⟨h.ptr hv.1,hv.2⟩
 |aO k off len sz=>exact⟨h.aO hv.1,hv.2⟩
theorem Vw.Ren.ref(h:V.Ren V2 g){x:Ref}(hv:V.ref v (x.dA g)):V2.ref v x:=by
 induction x generalizing v with
 |d x=>show Rd V2.mem v x;rw[h.mem];exact hv
 |ptr k off=>exact⟨h.ptr hv.1,hv.2⟩
 |aO k off len sz=>exact⟨h.aO hv.1,hv.2⟩
 |agg cs=>
  obtain⟨arr,rfl,h1,h2⟩:=hv;refine⟨arr,rfl,yn,λi a b=>?_⟩;have:=h2 i zd b;simp only[rP]at this;exact h.oP this
 |ifc t x ih=>obtain⟨v',rfl,h1⟩:=hv;exact⟨v',rfl,ih h1⟩
theorem Vw.Ren.cv(h:V.Ren V2 g){x:CV}(hv:V.cv v (x.dA g)):V2.cv v x:=by
 cases x with
 |d x=>exact⟨no,hv.2⟩
 |ptr k off=>exact⟨h.ptr hv.1,hv.2⟩
 |aO k off len sz=>exact⟨h.aO hv.1,hv.2⟩
 |mapr k=>exact⟨h.map hv.1,hv.2⟩
 |lsf k off len sz=>exact⟨⟨h.aO hv.1.1,hv.1.2⟩,hv.2⟩
 |func fn f c=>
  obtain⟨fs,cs,rfl,h1,h2,h3,h4⟩:=hv;simp only[sC]at h1 h2;refine⟨fs,cs,rfl,h1,h2,λi a b=>h.ref ?_,λi a b=>h.ref ?_⟩
  ·grind
  grind
 |ifc t x=>
  obtain⟨v',rfl,h1⟩:=hv;exact⟨v',rfl,h.ref h1⟩
 |junk=>exact hv
theorem Vw.Ren.wj(h:V.Ren V2 g){x:AV}(hv:V.wj v (x.sX g)):V2.wj v x\/∃l,x=.tup l:=by
 cases x with
 |c x=>exact .inl (h.cv (x:=x) hv)
 |agg cs=>
  obtain⟨arr,rfl,h1,h2⟩:=hv;simp only[sC]at h1;refine .inl ⟨arr,rfl,h1,λi a b=>h.cv ?_⟩
  grind
 |tup l=>simp
 |undef=>exact .inl hv
 |junk=>exact .inl trivial
def AV.cG:AV->Bool
 |.tup l=>l.all λx=>match x with|.tup _=>false|_=>true
 |_=>true
theorem Vw.Ren.av(h:V.Ren V2 g){x:AV}(hx:x.cG=true)(hv:V.av v (x.dA g)):V2.av v x:=by
 cases x with
 |tup l=>
  obtain⟨arr,rfl,h1,h2⟩:=hv;simp only[sC]at h1;refine⟨arr,rfl,h1,λi a b=>?_⟩;have h3:=h2 i yn b;simp only[rP]at h3;rcases h.wj h3 with h4|⟨l',h4⟩
  ·exact h4
  ·simp only[AV.cG,adG]at hx;have:=hx _ (cn a)
   grind
 |c x=>
  rcases h.wj (x:=.c x) hv with h|⟨l,h⟩
  ·exact h
  grind
 |agg cs=>
  rcases h.wj (x:=.agg cs) hv with h|⟨l,h⟩
  ·exact h
  grind
 |undef=>exact hv
 |junk=>trivial
end
def LB.dA(g:Key->Key):LB->LB
 |.cells own fz T cs=>.cells own fz T (cs.map (CV.dA g))
 |.map own es=>.map own (es.map λp=>(p.1,p.2.sX g))
 |x=>x
def LB.as(x y:LB)(g:Key->Key):Prop:=
 match y with
 |.hole=>x=.hole
 |.dead=>x≠.hole
 |.nils=>x=.nils
 |.cells own fz T cs=>∃own' cs',x=.cells own' fz T cs'/\cs'=cs.map (CV.dA g)/\(own=true->own'=true)
 |.map own es=>∃own' es',x=.map own' es'/\es'=es.map (λp=>(p.1,p.2.sX g))/\(own=true->own'=true)/\∀p∈es,∀l,p.2≠.tup l
theorem LB.An{x y:LB}(h:x.as y g):x.BN y:=by
 cases y<;>cases x<;>simp[LB.as,LB.BN]at h ⊢
theorem Bo{own':Bool}{b:Nat}(h:iM c own' b)(hw:own=true->own'=true):iM c own b:=by
 unfold iM at*
 grind
structure gX(c:Ctx)(s s2:aJ)(g:Key->Key):Prop where
 as:∀k,(s.lv (g k)).as (s2.lv k) g
 inj:∀k k',(s2.lv k).live=true->(s2.lv k').live=true->g k=g k'->k=k'
 fr:∀t,s2.fr t=.junk\/((s2.fr t).cG=true/\s.fr t=(s2.fr t).dA g)
 keep:∀k,c.jd k≠.hole->s2.lv k=.dead\/g k=k
theorem aR.coarse{s2:aJ}(h:aR c F β s a w)(hc:gX c s s2 g):
 aR c F (λk=>β (g k)) s2 a w:=by
 have hR:(Vw.mk F β s.lv w).Ren (Vw.mk F (λk=>β (g k)) s2.lv w) g:=⟨rfl,rfl,λ_ _=>rfl,λk=>LB.An (hc.as k)⟩
 have hlive:∀k,(s2.lv k).live=true->(s.lv (g k)).live=true:=by
  intro k hk;have:=hc.as k
  cases e:s2.lv k with
  |cells own fz T cs=>
   rw[e]at this hk;obtain⟨own',cs',h1,_⟩:=this
   cases fz with
   |false=>rw[h1];rfl
   |true=>cases hk
  |map own es=>rw[e]at this;obtain⟨own',es',h1,_⟩:=this;rw[h1];rfl
  |hole=>rw[e]at hk;cases hk
  |dead=>rw[e]at hk;cases hk
  |nils=>rw[e]at hk;cases hk
 refine⟨?_,?_,?_,h.size,h.defers,h.tC,h.F0,h.old,h.ge,h.uX,?_,h.Ls,h.Hs⟩
 ·intro k;have hb:=h.dj (g k);have ha:=hc.as k;unfold Vw.dj at hb ⊢
  cases e:s2.lv k with
  |cells own fz T cs=>
   rw[e]at ha;obtain⟨own',cs',h1,h2,h3⟩:=ha;simp only[h1]at hb;obtain⟨arr,b1,b2,b3,b4,b5⟩:=hb;subst h2;simp only[e];refine⟨arr,b1,yn,λi p q=>hR.cv ?_,b4,Bo b5 h3⟩
   grind
  |map own es=>
   rw[e]at ha;obtain⟨own',es',h1,h2,h3,h4⟩:=ha;simp only[h1]at hb;obtain⟨ents,clock,b1,b2,b3,b4,b5⟩:=hb;subst h2;simp only[sC]at b2;simp only[e];refine⟨ents,clock,b1,b2,λi p q=>?_,b4,Bo b5 h3⟩;have:=b3 i yn q;simp only[rP]at this;refine⟨this.1,?_⟩;rcases hR.wj this.2 with h5|⟨l,h5⟩
   ·exact h5
   grind
  |hole=>grind
  |dead=>grind
  |nils=>grind
 ·intro k k' h1 h2 he;exact hc.inj k k' h1 h2 (h.inj _ _ (hlive k h1) (hlive k' h2) he)
 ·intro t;rcases hc.fr t with h1|⟨h1,h2⟩
  ·rw[h1];trivial
  ·exact hR.av h1 (h2▸h.fr t)
 ·intro k h0;rcases hc.keep k h0 with h1|h1
  ·grind
  ·have ha:=hc.as k;rw[h1]at ha;rcases h.keep k h0 with h2|⟨h2,h3⟩
   ·left;rw[h2]at ha
    cases e:s2.lv k<;>rw[e]at ha<;>simp[LB.as]at ha ⊢
   ·by_cases hd:s2.lv k=.dead
    ·grind
    ·right;refine⟨yn,?_⟩;have hk:=LB.An ha;refine LB.Ci h3 ?_ h0
     cases e:s2.lv k<;>cases e':s.lv k<;>rw[e,e']at hk<;>simp[LB.BN,LB.sub]at hk ⊢
def cY(σ ν:List LB):Key->LB:=λk=>if k<1000 then σ.getD k .hole else ν.getD (k-1000) .hole
def fY(P:Program)(G:List (List DV))(w:World)(F:Nat->Prop)(β:Key->Nat)(lv:Key->LB):Ctx:=
 ⟨P,G,w,F,λb=>∃k,(lv k).live=true/\β k=b,0,lv,β,[]⟩
def fF(c:Ctx)(F:Nat->Prop)(β:Key->Nat)(lv:Key->LB)(w:World):Prop:=
 aR { c with n:=0,ds:=[] } F β ⟨λ_=>.junk,lv⟩ ⟨#[],[]⟩ w
theorem aR.ux(h:aR c F β s a w):fF c F β s.lv w:=
 ⟨h.dj,h.inj,λ_=>trivial,rfl,rfl,h.tC,h.F0,h.old,h.ge,h.uX,h.keep,h.Ls,h.Hs⟩
theorem fF.with(h:fF c F β lv w)(h1:a.tmps.size=c.n)(h2:a.defers=c.ds)
 (h3:∀t,(Vw.mk F β lv w).av (a.tmps.getD t undef) (fr t)):aR c F β ⟨fr,lv⟩ a w:=
 ⟨h.dj,h.inj,h3,h1,h2,h.tC,h.F0,h.old,h.ge,h.uX,h.keep,h.Ls,h.Hs⟩
inductive Out where
 |ret (x:AV) (σ ν:List LB)
 |pan (d:DV)
def LB.VX(x:LB):LB:=match x with|.hole=>.hole|_=>.dead
def ab3(P:Program)(G:List (List DV))(σ:List LB)(F:Nat->Prop)(β:Key->Nat)(w:World)(o:Out)(e:Ending)(w':World):Prop:=
 match o with
 |.ret x σ' ν=>∃v F' β',e=.returned v/\fF (fY P G w F β (cY σ [])) F' β' (cY σ' ν) w'/\(Vw.mk F' β' (cY σ' ν) w').av v x
 |.pan d=>∃v F' β',e=.panicked [{ v:=v,recovered:=false }]/\fF (fY P G w F β (cY σ [])) F' β' (λk=>(cY σ [] k).VX) w'/\Rd (yT w' F') v d
def aQ(P:Program)(G:List (List DV))(f:FuncId)(args:List AV)(σ:List LB)(o:Out):Prop:=
 ∀(F:Nat->Prop) (β:Key->Nat) (w:World) (vs:Array Value),fF (fY P G w F β (cY σ [])) F β (cY σ []) w->vs.size=args.length ->
  (∀i (h:i<args.length) (h':i<vs.size),(Vw.mk F β (cY σ []) w).av vs[i] args[i])->Calls P f vs w (ab3 P G σ F β w o)
def aa(P:Program)(G:List (List DV))(f:FuncId)(args:List AV)(x:AV):Prop:=aQ P G f args [] (.ret x [] [])
def chunk(sz n:Nat)(l:List α):List (List α):=(List.range n).map λi=>(l.drop (i*sz)).take sz
def ji(f:CV->Option (DV×List Key)):List CV->Option (List DV×List Key)
 |[]=>some ([],[])
 |x::r=>match f x,ji f r with
  |some (d,k),some (l,ks)=>some (d::l,k++ks)
  |_,_=>none
def fX(lv:Key->LB):Nat->CV->Option (DV×List Key)
 |_,.d x=>some (x,[])
 |n+1,.ptr k off=>match lv k with
  |.cells _ _ _ cs=>if off<=cs.length then(ji (fX lv n) (cs.drop off)).map λp=>(.ptr p.1,k::p.2)else none
  |_=>none
 |n+1,.aO k off len sz=>match lv k with
  |.cells _ _ _ cs=>if off+len*sz<=cs.length/\len<=9223372036854775807 then(ji (fX lv n) ((cs.drop off).take (len*sz))).map λp=>(.sl (chunk sz len p.1),k::p.2)else none
  |.nils=>some (.nilsl,[])
  |_=>none
 |_,_=>none
theorem sA{f:CV->Option (DV×List Key)}:∀{cs:List CV}{l:List DV}{ks:List Key},ji f cs=some (l,ks)->l.length=cs.length /\
 ∀i (h:i<l.length) (h':i<cs.length),∃k,f cs[i]=some (l[i],k)/\∀x∈k,x∈ks
 |[],l,ks,h=>by simp only[ji,aj,rK]at h;grind
 |x::r,l,ks,h=>by
  simp only[ji]at h;split at h
  ·rename_i d k l' ks' h1 h2
   simp only[aj,rK]at h;obtain⟨rfl,rfl⟩:=h;obtain⟨h3,h4⟩:=sA h2;refine⟨by simp[h3],λi p q=>?_⟩
   cases i with
   |zero=>grind
   |succ i=>
    obtain⟨k',h5,h6⟩:=h4 i yn yn
    grind
  grind
section
variable {c:Ctx}{F:Nat->Prop}{β:Key->Nat}{s:aJ}{a:Act}{w:World}
theorem fF.fX(h:fF c F β s.lv w)(hF:∀b,F b->Fz b):∀(n:Nat) (x:CV) (d:DV) (ks:List Key) (v:Value),Am.fX s.lv n x=some (d,ks)->(∀k∈ks,Fz (β k)) ->
 (Vw.mk F β s.lv w).cv v x->Rd (yT w Fz) v d
 |n,.d x,d,ks,v,ht,hk,hv=>by
  simp only[Am.fX,aj,rK]at ht;obtain⟨rfl,rfl⟩:=ht;exact Rd.mono (lz hF (λ_ _=>rfl)) hv.1
 |n+1,.ptr k off,d,ks,v,ht,hk,hv=>by
  simp only[Am.fX]at ht;split at ht
  ·rename_i own fz T cs e
   split at ht
   ·rename_i hoff
    rw[adY]at ht;obtain⟨⟨l,ks'⟩,ht,he⟩:=ht;simp only[rK]at he;obtain⟨rfl,rfl⟩:=he;obtain⟨h1,h2⟩:=sA ht;have hb:=h.dj k;unfold Vw.dj at hb;simp only[e]at hb;obtain⟨arr,b1,b2,b3,_⟩:=hb;obtain⟨hv,_⟩:=hv;simp only[Vw.ff,e]at hv;subst hv;simp only[afl]at h1;refine .ptr (β k) off (λi=>arr.getD (off+i) undef) l (λi hi=>⟨hk k zp,?_⟩) (λi hi=>?_) (λi hi=>?_)
    ·have hi':off+i<arr.size:=by omega
     rw[gz b1 hi'];simp_all
    ·have hi':off+i<arr.size:=by omega
     simp only[Array.getD,hi',dite_true];exact Vw.iE (b3 (off+i) zd hi')
    ·have hi':off+i<arr.size:=by omega
     obtain⟨k',h3,h4⟩:=h2 i hi yv;simp only[Array.getD,hi',dite_true];simp only[afR]at h3;exact fF.fX h hF n _ _ _ _ h3 (λx hx=>hk x yn) (b3 (off+i) zd hi')
   grind
  grind
 |n+1,.aO k off len sz,d,ks,v,ht,hk,hv=>by
  simp only[Am.fX]at ht;split at ht
  ·rename_i own fz T cs e
   split at ht
   ·rename_i hoff
    rw[adY]at ht;obtain⟨⟨l,ks'⟩,ht,he⟩:=ht;simp only[rK]at he;obtain⟨rfl,rfl⟩:=he;obtain⟨h1,h2⟩:=sA ht;have hb:=h.dj k;unfold Vw.dj at hb;simp only[e]at hb;obtain⟨arr,b1,b2,b3,_⟩:=hb;obtain⟨hv,_⟩:=hv;simp only[Vw.cT,e]at hv;obtain⟨cap,rfl,hcap,_⟩:=hv;have hl:l.length=len*sz:=by rw[h1];simp;omega
    have hcl:(chunk sz len l).length=len:=by simp[chunk]
    have hce:∀i (hi:i<(chunk sz len l).length),(chunk sz len l)[i]=(l.drop (i*sz)).take sz:=by intro i hi;simp[chunk]
    have hsz:∀i,i<len->i*sz+sz<=len*sz:=by
     intro i hi;have:(i+1)*sz<=len*sz:=adh _ hi
     rwa[adn,aes]at this
    have key:=Rd.sl (M:=yT w Fz) (β k) off cap sz (chunk sz len l) (λi j=>arr.getD (off+i*sz+j) undef) ?_ zd zd ?_ ?_ ?_
    ·rwa[hcl]at key
    ·intro x hx;obtain⟨i,hi,rfl⟩:=List.mem_iff_getElem.1 hx
     grind
    ·intro i hi j hj;rw[hcl]at hi;have:=hsz i hi;have hi':off+i*sz+j<arr.size:=by omega
     refine⟨hk k zp,?_⟩;rw[gz b1 hi'];simp[Array.getD,hi']
    ·intro i hi j hj;rw[hcl]at hi;have:=hsz i hi;have hi':off+i*sz+j<arr.size:=by omega
     simp only[Array.getD,hi',dite_true];exact Vw.iE (b3 _ zd hi')
    ·intro i hi j hj;have hi2:=hi;rw[hcl]at hi2;have h5:=hsz i hi2;simp only[hce]at hj⊢;have hj':j<sz:=by simp at hj;omega
     have hi':off+i*sz+j<arr.size:=zd
     simp only[Array.getD,hi',dite_true,agt,afR];obtain⟨k',h3,h4⟩:=h2 (i*sz+j) zd yv;simp only[agt,afR]at h3;have h6:=b3 (off+i*sz+j) zd hi';have e2:off+i*sz+j=off+(i*sz+j):=zd
     simp only[e2]at h6⊢;exact fF.fX h hF n _ _ _ _ h3 (λx hx=>hk x yn) h6
   grind
  ·rename_i e
   simp only[aj,rK]at ht;obtain⟨rfl,rfl⟩:=ht;obtain⟨hv,_⟩:=hv;simp only[Vw.cT,e]at hv;rw[hv.1];exact .nilsl
  grind
 |0,.ptr ..,_,_,_,ht,_,_=>by cases ht
 |0,.aO ..,_,_,_,ht,_,_=>by cases ht
 |n,.mapr _,_,_,_,ht,_,_=>by cases n<;>cases ht
 |n,.lsf ..,_,_,_,ht,_,_=>by cases n<;>cases ht
 |n,.func ..,_,_,_,ht,_,_=>by cases n<;>cases ht
 |n,.ifc ..,_,_,_,ht,_,_=>by cases n<;>cases ht
 |n,.junk,_,_,_,ht,_,_=>by cases n<;>cases ht
end
structure Vw.Up(V V2:Vw)(g:Key->Key):Prop where
 F:V2.F=V.F
 w:V2.w=V.w
 BN:∀k,V.lv k≠.hole->(V.lv k).BN (V2.lv (g k))
 β:∀k,V.lv k≠.hole->V2.β (g k)=V.β k
section
variable {V V2:Vw}{g:Key->Key}
theorem Vw.Up.mem(h:V.Up V2 g):V2.mem=V.mem:=by
 unfold Vw.mem;rw[h.F,h.w]
theorem Vw.Up.ptr(h:V.Up V2 g)(hv:V.ff v k off):V2.ff v (g k) off:=by
 have h1:=h.BN k;have h2:=h.β k;unfold Vw.ff at*
 cases e:V.lv k<;>cases e':V2.lv (g k)<;>simp[e,e',LB.BN]at h1 h2 hv⊢<;>(try rw[h2])<;>assumption
theorem Vw.Up.aO(h:V.Up V2 g)(hv:V.cT v k off len sz):V2.cT v (g k) off len sz:=by
 have h1:=h.BN k;have h2:=h.β k;unfold Vw.cT at*
 rw[h.w]
 cases e:V.lv k<;>cases e':V2.lv (g k)<;>simp[e,e',LB.BN]at h1 h2 hv⊢<;>(try rw[h2])<;>assumption
theorem Vw.Up.map(h:V.Up V2 g)(hv:V.qJ v k):V2.qJ v (g k):=by
 have h1:=h.BN k;have h2:=h.β k;unfold Vw.qJ at*
 cases e:V.lv k<;>cases e':V2.lv (g k)<;>simp[e,e',LB.BN]at h1 h2 hv⊢<;>(try rw[h2])<;>assumption
theorem Vw.Up.oP(h:V.Up V2 g){x:qd}(hv:V.oP v x):V2.oP v (x.dA g):=by
 cases x with
 |d x=>exact⟨no,hv.2⟩
 |ptr k off=>exact⟨h.ptr hv.1,hv.2⟩
 |aO k off len sz=>exact⟨h.aO hv.1,hv.2⟩
theorem Vw.Up.ref(h:V.Up V2 g){x:Ref}(hv:V.ref v x):V2.ref v (x.dA g):=by
 induction x generalizing v with
 |d x=>show Rd V2.mem v x;rw[h.mem];exact hv
 |ptr k off=>exact⟨h.ptr hv.1,hv.2⟩
 |aO k off len sz=>exact⟨h.aO hv.1,hv.2⟩
 |agg cs=>
  obtain⟨arr,rfl,h1,h2⟩:=hv;exact⟨arr,rfl,yn,λi a b=>by simp only[rP];exact h.oP (h2 i zd b)⟩
 |ifc t x ih=>obtain⟨v',rfl,h1⟩:=hv;exact⟨v',rfl,ih h1⟩
theorem Vw.Up.cv(h:V.Up V2 g){x:CV}(hv:V.cv v x):V2.cv v (x.dA g):=by
 cases x with
 |d x=>exact⟨no,hv.2⟩
 |ptr k off=>exact⟨h.ptr hv.1,hv.2⟩
 |aO k off len sz=>exact⟨h.aO hv.1,hv.2⟩
 |mapr k=>exact⟨h.map hv.1,hv.2⟩
 |lsf k off len sz=>exact⟨⟨h.aO hv.1.1,hv.1.2⟩,hv.2⟩
 |func fn f c=>
  obtain⟨fs,cs,rfl,h1,h2,h3,h4⟩:=hv;refine⟨fs,cs,rfl,yn,yn,λi a b=>?_,λi a b=>?_⟩
  ·simp only[rP];exact h.ref (h3 i zd b)
  ·simp only[rP];exact h.ref (h4 i zd b)
 |ifc t x=>
  obtain⟨v',rfl,h1⟩:=hv;exact⟨v',rfl,h.ref h1⟩
 |junk=>exact hv
theorem Vw.Up.wj(h:V.Up V2 g){x:AV}(hv:V.wj v x):V2.wj v (x.sX g):=by
 cases x with
 |c x=>exact h.cv (x:=x) hv
 |agg cs=>
  obtain⟨arr,rfl,h1,h2⟩:=hv;exact⟨arr,rfl,yn,λi a b=>by simp only[rP];exact h.cv (h2 i zd b)⟩
 |tup l=>exact hv.elim
 |undef=>exact hv
 |junk=>trivial
theorem Vw.Up.av(h:V.Up V2 g){x:AV}(hv:V.av v x):V2.av v (x.dA g):=by
 cases x with
 |c x=>exact h.cv (x:=x) hv
 |agg cs=>exact h.wj (x:=.agg cs) hv
 |tup l=>
  obtain⟨arr,rfl,h1,h2⟩:=hv;exact⟨arr,rfl,yn,λi a b=>by simp only[rP];exact h.wj (h2 i zd b)⟩
 |undef=>exact hv
 |junk=>trivial
end
def LB.pass:LB->Bool
 |.cells own fz _ _=>!own&&!fz
 |.map own _=>!own
 |.dead=>false
 |_=>true
def LB.HT:LB->Bool
 |.cells own ..=>own
 |.map own _=>own
 |_=>true
def LB.fix(b:Bool):LB->LB
 |.cells own fz T cs=>.cells (own ||b) fz T cs
 |.map own es=>.map (own ||b) es
 |x=>x
theorem LB.Nr(b:Bool)(x:LB):(x.fix b).live=x.live:=by
 cases x with
 |cells own fz T cs=>cases fz<;>rfl
 |_=>rfl
theorem LB.Oa(g:Key->Key)(x:LB):(x.dA g).live=x.live:=by
 cases x with
 |cells own fz T cs=>cases fz<;>rfl
 |_=>rfl
section
variable {c:Ctx}{F:Nat->Prop}{β:Key->Nat}{s:aJ}{a:Act}{w:World}
structure xZ(s:aJ)(g:Key->Key)(gi:Key->Option Key)(L L':Key->LB)(own:Bool):Prop where
 pass:∀k,(L k).pass=true
 as:∀k,(s.lv (g k)).as (L k) g
 X7:∀k' k,gi k'=some k->g k=k'/\L' k≠.hole
 WD:∀k,L' k≠.hole->gi (g k)=some k
 stay:∀k,L k≠.hole->L' k≠.hole
 own:own=true->∀k,(L k).live=true->(s.lv (g k)).HT=true
theorem xZ.live(hB:xZ s g gi L L' own)(hk:(L k).live=true):(s.lv (g k)).live=true:=by
 have:=hB.as k
 cases e:L k with
 |cells own fz T cs=>
  rw[e]at this hk;obtain⟨own',cs',h1,_⟩:=this
  cases fz with
  |false=>rw[h1];rfl
  |true=>cases hk
 |map own es=>rw[e]at this;obtain⟨own',es',h1,_⟩:=this;rw[h1];rfl
 |hole=>rw[e]at hk;cases hk
 |dead=>rw[e]at hk;cases hk
 |nils=>rw[e]at hk;cases hk
theorem xZ.inj{g:Key->Key}{gi:Key->Option Key}{L L':Key->LB}{own:Bool}(hB:xZ s g gi L L' own){k k':Key}(h1:L k≠.hole)(h2:L k'≠.hole)(h:g k=g k'):k=k':=by
 have e1:=hB.WD k (hB.stay k h1);have e2:=hB.WD k' (hB.stay k' h2)
 grind
theorem jW{x:LB}(h:x.live=true):x≠.hole:=λe=>by rw[e]at h;cases h
theorem xZ.dA(hB:xZ s g gi L L' own):
 (Vw.mk F β s.lv w).Ren (Vw.mk F (λk=>β (g k)) L w) g:=⟨rfl,rfl,λ_ _=>rfl,λk=>LB.An (hB.as k)⟩
theorem aR.enter(h:aR c F β s a w)(hB:xZ s g gi L L' own):
 fF (fY c.P c.G w F (λk=>β (g k)) L) F (λk=>β (g k)) L w:=by
 have hR:=hB.dA (F:=F) (β:=β) (w:=w);refine⟨?_,?_,λ_=>trivial,rfl,rfl,λb hb=>⟨(h.tC b hb).1,.inl hb⟩,λ_ hb=>hb,λ_ _ _=>rfl,bf _,h.uX,λk _=>.inr ⟨rfl,LB.cF _⟩,λ_=>bf _,⟨rfl,rfl⟩⟩
 ·intro k;have hb:=h.dj (g k);have ha:=hB.as k;have hp:=hB.pass k;unfold Vw.dj at hb ⊢
  cases e:L k with
  |cells own fz T cs=>
   rw[e]at ha hp;simp only[LB.pass,adS,aeM]at hp;obtain⟨own',cs',h1,h2,h3⟩:=ha;simp only[h1]at hb;obtain⟨arr,b1,b2,b3,b4,b5⟩:=hb;subst h2;simp only[e];refine⟨arr,b1,yn,λi p q=>hR.cv ?_,b4,?_⟩
   ·grind
   ·rw[hp.1];simp only[iM,aey,if_false];exact .inr ⟨k,by rw[e,hp.2];rfl,rfl⟩
  |map own es=>
   rw[e]at ha hp;simp only[LB.pass,aeM]at hp;obtain⟨own',es',h1,h2,h3,h4⟩:=ha;simp only[h1]at hb;obtain⟨ents,clock,b1,b2,b3,b4,b5⟩:=hb;subst h2;simp only[sC]at b2;simp only[e];refine⟨ents,clock,b1,b2,λi p q=>?_,b4,?_⟩
   ·have:=b3 i yn q;simp only[rP]at this;refine⟨this.1,?_⟩;rcases hR.wj this.2 with h5|⟨l,h5⟩
    ·exact h5
    grind
   ·rw[hp];simp only[iM,aey,if_false];exact .inr ⟨k,ti,rfl⟩
  |hole=>grind
  |dead=>grind
  |nils=>grind
 ·intro k k' h1 h2 he;exact hB.inj (jW h1) (jW h2) (h.inj _ _ (hB.live h1) (hB.live h2) he)
def iG(s:aJ)(g:Key->Key)(gi:Key->Option Key)(L':Key->LB)(own:Bool):Key->LB:=
 λk'=>match gi k' with|some k=>((L' k).dA g).fix own|none=>s.lv k'
def jz(β β':Key->Nat)(gi:Key->Option Key):Key->Nat:=
 λk'=>match gi k' with|some k=>β' k|none=>β k'
theorem xZ.up(hB:xZ s g gi L L' own)(F':Nat->Prop)(β':Key->Nat)(w':World):
 (Vw.mk F' β' L' w').Up (Vw.mk F' (jz β β' gi) (iG s g gi L' own) w') g:=by
 refine⟨rfl,rfl,λk hk=>?_,λk hk=>?_⟩
 ·simp only at hk;simp only[iG,hB.WD k hk]
  cases e:L' k<;>simp[e,LB.dA,LB.fix,LB.BN]at hk ⊢
 ·simp only at hk;simp only[jz,hB.WD k hk]
theorem aR.back(h:aR c F β s a w)(hB:xZ s g gi L L' own)
 (hx:fF (fY c.P c.G w F (λk=>β (g k)) L) F' β' L' w'):aR c F' (jz β β' gi) ⟨s.fr,iG s g gi L' own⟩ a w':=by
 have hF:∀b,F b->F' b:=hx.F0
 have hW:∀b,(∃k,(L k).live=true/\β (g k)=b)->¬F b:=by
  rintro b ⟨k,hk,rfl⟩;exact h.vp (hB.live hk)
 have hold:∀b,b<w.heap.size->¬(∃k,(L k).live=true/\β (g k)=b)->w'.heap[b]?=w.heap[b]?:=hx.old;have hm:∀b,F b->w'.heap[b]?=w.heap[b]?:=λb hb=>hold b (h.tC b hb).1 (λhw=>hW b hw hb)
 have hUp:=hB.up (β:=β) F' β' w';have hkeep:∀k,L k≠.hole->L' k=.dead\/(β' k=β (g k)/\(L k).sub (L' k)):=hx.keep;refine h.step (hoo:=hx.Hs) hF hm ?_ ?_ hx.Ls ?_ ?_ ?_ hx.ge ?_
 ·intro k';simp only[iG];split
  ·rename_i k e
   obtain⟨rfl,hk⟩:=hB.X7 _ _ e
   by_cases h0:L k=.hole
   ·have:=hB.as k;rw[h0]at this;have hh:s.lv (g k)=.hole:=this;rw[hh];simp[LB.sub]
   ·have ha:=LB.An (hB.as k);rcases hkeep k h0 with hd|⟨_,hs⟩
    ·rw[hd];cases s.lv (g k)<;>simp[LB.dA,LB.fix,LB.sub]
    ·cases e1:s.lv (g k)<;>cases e2:L k<;>cases e3:L' k<;>simp[e1,e2,e3,LB.BN,LB.sub,LB.dA,LB.fix]at ha hs h0 hk ⊢
     all_goals (have:=hB.pass k;rw[e2]at this;cases this)
  ·exact LB.cF _
 ·intro k' hh hd;simp only[iG]at hd;simp only[jz];split
  ·rename_i k e
   rw[e]at hd;obtain⟨rfl,hk⟩:=hB.X7 _ _ e
   have h0:L k≠.hole:=λh0=>by
    have:=hB.as k;rw[h0]at this;exact hh this
   rcases hkeep k h0 with hd'|⟨h1,_⟩
   ·have hd2:((L' k).dA g).fix own≠.dead:=hd;rw[hd']at hd2;exact absurd rfl hd2
   omega
  ·rfl
 ·intro k' hK
  cases e:gi k' with
  |some k=>
   obtain⟨rfl,hk⟩:=hB.X7 _ _ e;have hb:=hx.dj k
   have hownk:∀o:Bool,iM (fY c.P c.G w F (λk=>β (g k)) L) o (β' k)->iM c (o ||own) (β' k):=by
    intro o ho;have hge:=h.ge;unfold iM at ho ⊢
    cases o with
    |true=>simp only[if_true]at ho;simp only[Bool.true_or,if_true];exact HQ hge ho
    |false=>
     simp only[aey,if_false]at ho;simp only[Bool.false_or];rcases ho with ho|⟨j,hj,hj2⟩
     ·cases own
      ·exact .inl (HQ hge ho)
      ·exact HQ hge ho
     ·have hl:=hB.live hj
      cases hw:own with
      |false=>simp only[aey,if_false];rw[<-hj2];exact h.jk hl
      |true=>
       simp only[if_true];have ho':=hB.own hw j hj;have hb':=h.dj (g j);unfold Vw.dj at hb';rw[<-hj2]
       cases e1:s.lv (g j)with
       |cells o fz T cs=>
        rw[e1]at ho';simp only[e1]at hb';obtain⟨x,p1,p2,p3,p4,p5⟩:=hb';simp only[LB.HT]at ho';rw[ho']at p5;simpa[iM]using p5
       |map o es=>
        rw[e1]at ho';simp only[e1]at hb';obtain⟨x,y,p1,p2,p3,p4,p5⟩:=hb';simp only[LB.HT]at ho';rw[ho']at p5;simpa[iM]using p5
       |hole=>rw[e1]at hl;cases hl
       |dead=>rw[e1]at hl;cases hl
       |nils=>rw[e1]at hl;cases hl
   unfold Vw.dj at hb⊢;simp only[iG,jz,e]
   cases e':L' k with
   |cells o fz T cs=>
    simp only[e']at hb;obtain⟨arr,b1,b2,b3,b4,b5⟩:=hb;simp only[LB.dA,LB.fix];refine⟨arr,b1,yn,λi p q=>?_,b4,hownk o b5⟩;simp only[rP];exact hUp.cv (b3 i yn q)
   |map o es=>
    simp only[e']at hb;obtain⟨ents,clock,b1,b2,b3,b4,b5⟩:=hb;simp only[LB.dA,LB.fix];refine⟨ents,clock,b1,yn,λi p q=>?_,b4,hownk o b5⟩;simp only[rP];have:=b3 i zd q;exact⟨by have h5:=this.1;exact h5,hUp.wj this.2⟩
   |hole=>grind
   |dead=>simp[LB.dA,LB.fix]
   |nils=>simp[LB.dA,LB.fix]
  |none=>
   have hl:(Vw.mk F' (jz β β' gi) (iG s g gi L' own) w').lv k'=(Vw.mk F β s.lv w).lv k':=by simp only[iG,e]
   have hβe:(Vw.mk F' (jz β β' gi) (iG s g gi L' own) w').β k'=(Vw.mk F β s.lv w).β k':=by simp only[jz,e]
   have hnW:(s.lv k').live=true->¬∃k,(L k).live=true/\β (g k)=β k':=by
    rintro hlv ⟨k,hk,he⟩;have:=h.inj _ _ (hB.live hk) hlv he;rw[<-this,hB.WD k (hB.stay k (jW hk))]at e
    cases e
   have hb:=h.dj k'
   by_cases hlv:(s.lv k').live=true
   ·refine Vw.dR hb hK hl hβe (hold _ (h.mF hlv) (hnW hlv)) (λ_ hf=>?_);rcases(hx.tC _ hf).2 with h1|h1
    ·exact h1
    ·have:w.heap.size<=β k':=h1;have:=h.mF hlv;omega
   ·cases ek:s.lv k' with
    |cells o fz T cs=>
     cases fz with
     |false=>rw[ek]at hlv;exact absurd rfl hlv
     |true=>
      have hFk:F (β k'):=by
       unfold Vw.dj at hb;simp only[ek]at hb;obtain⟨x,p1,p2,p3,p4,p5⟩:=hb;exact p4
      refine Vw.dR hb hK hl hβe (hm _ hFk) (λhlv'=>absurd hlv' hlv)
    |map o es=>rw[ek]at hlv;exact absurd rfl hlv
    |hole=>unfold Vw.dj;grind
    |dead=>unfold Vw.dj;grind
    |nils=>unfold Vw.dj;grind
 ·intro k1 k2 h1 h2 he
  have side:∀k',(iG s g gi L' own k').live=true->gi k'=none->(s.lv k').live=true:=by
   intro k' hk' e;simp only[iG,e]at hk';exact hk'
  have bord:∀k' k,(iG s g gi L' own k').live=true->gi k'=some k->(L' k).live=true:=by
   intro k' k hk' e;simp only[iG,e,LB.Nr,LB.Oa]at hk';exact hk'
  have apart:∀k' k,gi k'=none->(s.lv k').live=true->(L' k).live=true->β' k≠β k':=by
   intro k' k e hk' hk heq;have hbo:=aR.jk hx hk;rcases hbo with h3|⟨j,hj,hj2⟩
   ·have h3':w.heap.size<=β' k:=h3;have:=h.mF hk';omega
   ·have:=h.inj _ _ (hB.live hj) hk' (hj2.trans heq);rw[<-this,hB.WD j (hB.stay j (jW hj))]at e
    cases e
  cases e1:gi k1 with
  |none=>
   cases e2:gi k2 with
   |none=>
    simp only[jz,e1,e2]at he;exact h.inj _ _ (side _ h1 e1) (side _ h2 e2) he
   |some j2=>
    simp only[jz,e1,e2]at he
    grind
  |some j1=>
   cases e2:gi k2 with
   |none=>
    simp only[jz,e1,e2]at he
    grind
   |some j2=>
    simp only[jz,e1,e2]at he;have:=hx.inj _ _ (bord _ _ h1 e1) (bord _ _ h2 e2) he;rw[<-(hB.X7 _ _ e1).1,<-(hB.X7 _ _ e2).1,this]
 ·intro b hb;rcases(hx.tC b hb).2 with h1|h1
  ·exact .inl h1
  ·have h1':w.heap.size<=b:=h1;have:=h.ge;exact .inr ⟨(hx.tC b hb).1,zd⟩
 ·intro b hb hnW;have hlt:b<w.heap.size:=adA hb h.ge;refine hold b hlt ?_;rintro⟨k,hk,rfl⟩;rcases h.jk (hB.live hk)with h1|h1
  ·omega
  grind
end
def dI(P:Program)(T:TypeId):Option (List CV):=((P.info? T).bind (·.zero)).bind λz=>(yL z).cells
theorem oa(h:dI P T=some xs):∃z,(P.info? T).bind (·.zero)=some z/\(yL z).cells=some xs:=
 Option.bind_eq_some_iff.1 h
def lf(P:Program)(T:TypeId):Option Nat:=
 match P.info? T with
 |some i=>match i.zero with
  |some z=>if z.cells.size=i.size then some i.bytes else none
  |none=>none
 |none=>none
theorem xP{n:Nat}(h:lf P T=some n):∃i z,P.info? T=some i/\i.zero=some z/\z.cells.size=i.size/\i.bytes=n:=by
 unfold lf at h
 grind
def FX(lo hi:Option Operand)(rest:List AV):Option (Option AV×Option AV):=
 match lo,hi,rest with
 |none,none,[]=>some (none,none)
 |some _,none,[x]=>some (some x,none)
 |none,some _,[y]=>some (none,some y)
 |some _,some _,[x,y]=>some (some x,some y)
 |_,_,_=>none
def xz:AV->Bool
 |.c (.d (.bool _))|.agg _|.c (.d .nilp)|.c (.d (.ptr _))|.c (.d .nilsl)|.c (.d (.sl _))|.c (.d .nilIface)|.c (.d (.iface ..))=>true
 |_=>false
def keyOf:AV->List Key
 |.c (.aO k ..)=>[k]
 |_=>[]
abbrev dn:=AV×List (Key×LB)×List Key×Prop
variable {r:dn}
def aU(P:Program)(op:BinOp)(T:TypeId)(x y:AV):Option dn:=
 match x,y with
 |.c (.d (.int k m)),.c (.d (.int k' n))=>
  match op with
  |.shl|.shr=>match shI op k m n with|some d=>some (.c (.d d),[],[],0<=n)|none=>none
  |_=>if k=k' then(match om op k m n with|some d=>some (.c (.d d),[],[],jl op n)|none=>none)else none
 |.c (.d (.str m)),.c (.d (.str n))=>match P3 op m n with|some d=>some (.c (.d d),[],[],Ba op m n)|none=>none
 |x,y=>
  match op with
  |.eql=>if P.eqGuardType P.depth T || !xz x then none else match Qn P 20 T x y with|some b=>some (.c (.d (.bool b)),[],[],True)|none=>none
  |.neq=>if P.eqGuardType P.depth T || !xz x then none else match Qn P 20 T x y with|some b=>some (.c (.d (.bool (!b))),[],[],True)|none=>none
  |_=>none
def aA(P:Program)(T:TypeId)(lv:Key->LB):AV->Option dn
 |.c (.d (.ptr cs))=>match iq P T (cs.map CV.d)with|some y=>some (y,[],[],True)|none=>none
 |.c (.ptr k off)=>match lv k with
  |.cells _ _ _ cs=>match iq P T (cs.drop off)with|some y=>some (y,[],[k],True)|none=>none
  |_=>none
 |_=>none
def aG(P:Program)(T:TypeId)(lv:Key->LB)(x y:AV):Option dn:=
 match x with
 |.c (.ptr k off)=>match lv k with
  |.cells own false T' cs=>match y.cells with
   |some xs=>if (P.info? T).isSome&&xs.length==lM P T then some (.undef,[(k,.cells own false T' (ai cs off xs))],[],off+xs.length<=cs.length)else none
   |none=>none
  |_=>none
 |_=>none
def j8(lv:Key->LB):AV->Option dn
 |.c (.d (.ptr cs))=>some (.c (.d (.ptr cs)),[],[],True)
 |.c (.ptr k n)=>match lv k with|.cells ..=>some (.c (.ptr k n),[],[k],True)|_=>none
 |.c (.d (.func (.func f) fs cs))=>some (.c (.d (.func (.func f) fs cs)),[],[],True)
 |.c (.func (.func f) fs cs)=>some (.c (.func (.func f) fs cs),[],[],True)
 |_=>none
def dJ(P:Program)(T:TypeId)(f:Nat)(lv:Key->LB):AV->Option dn
 |.c (.d (.ptr cs))=>match eH P T f with|some (off,_)=>some (.c (.d (.ptr (cs.drop off))),[],[],off<=cs.length)|none=>none
 |.c (.ptr k n)=>match lv k,eH P T f with|.cells ..,some (off,_)=>some (.c (.ptr k (n+off)),[],[k],True)|_,_=>none
 |_=>none
def aq(P:Program)(T:TypeId)(lv:Key->LB)(x i:AV):Option dn:=
 match i with
 |.c (.d (.int _ n))=>
  match x with
  |.c (.d (.sl es))=>match fU P T with
   |some (_,sz)=>some (.c (.d (.ptr (es.getD n.toNat []))),[],[],0<=n/\n<es.length/\(es.getD n.toNat []).length=sz)
   |none=>none
  |.c (.aO k off len sz)=>match lv k,fU P T with
   |.cells ..,some (_,sz')=>if sz=sz' then some (.c (.ptr k (off+n.toNat*sz)),[],[k],0<=n/\n<len)else none
   |_,_=>none
  |.c (.d (.ptr cs))=>match wW P T with
   |some (len,_,sz)=>some (.c (.d (.ptr (cs.drop (n.toNat*sz)))),[],[],0<=n/\n<len/\n.toNat*sz<=cs.length)
   |none=>none
  |.c (.ptr k off)=>match lv k,wW P T with
   |.cells ..,some (len,_,sz)=>some (.c (.ptr k (off+n.toNat*sz)),[],[k],0<=n/\n<len)
   |_,_=>none
  |_=>none
 |_=>none
def jO(P:Program)(T:TypeId)(x i:AV):Option dn:=
 match i with
 |.c (.d (.int _ n))=>
  match x with
  |.c (.d (.str l))=>if lX P T then some (.c (.d (.int .u8 (l.getD n.toNat 0).toNat)),[],[],0<=n/\n<l.length)else none
  |.agg cs=>match wW P T with
   |some (len,e,sz)=>match tq P e cs (n.toNat*sz)with|some y=>some (y,[],[],0<=n/\n<len)|none=>none
   |none=>none
  |_=>none
 |_=>none
def ct(P:Program)(T:TypeId)(lv:Key->LB)(x:AV)(lo hi:Option AV):Option dn:=
 match x with
 |.c (.d (.str bs))=>if lX P T then(match fW lo 0,fW hi bs.length with
  |some l,some h=>some (.c (.d (.str ((bs.take h.toNat).drop l.toNat))),[],[],0<=l/\l<=h/\h<=bs.length)
  |_,_=>none)else none
 |.c (.d (.sl es))=>match fU P T with
  |some (_,sz)=>match fW lo 0,fW hi es.length with
   |some l,some h=>some (.c (.d (.sl ((es.take h.toNat).drop l.toNat))),[],[],0<=l/\l<=h/\h<=es.length/\∀e∈es,e.length=sz)
   |_,_=>none
  |none=>none
 |.c (.d .nilsl)=>match fU P T with
  |some _=>match fW lo 0,fW hi 0 with
   |some l,some h=>some (.c (.d .nilsl),[],[],l=0/\h=0)
   |_,_=>none
  |none=>none
 |.c (.aO k off len sz)=>match lv k,fU P T with
  |.cells ..,some (_,sz')=>if sz=sz' then(match fW lo 0,fW hi len with
   |some l,some h=>some (.c (.aO k (off+l.toNat*sz) (h.toNat-l.toNat) sz),[],[k],0<=l/\l<=h/\h<=len/\(l<h\/l=0))
   |_,_=>none)else none
  |_,_=>none
 |_=>none
def jX(P:Program)(T:TypeId)(lv:Key->LB)(κ:Key)(x y:AV):Option dn:=
 match x,y with
 |.c (.d (.int _ l)),.c (.d (.int _ m))=>match fU P T,lv κ with
  |some (e,sz),.hole=>match dI P e,lf P e with
   |some zs,some b=>if zs.length=sz/\0<sz then some (.c (.aO κ 0 l.toNat sz),[(κ,.cells true false e (gh l.toNat zs))],[],0<=l/\l<=m/\(b:Int)*m<=281474976710656/\m<=9223372036854775807)else none
   |_,_=>none
  |_,_=>none
 |_,_=>none
def iC(P:Program)(T:TypeId)(lv:Key->LB)(κ:Key)(y x:AV):Option dn:=
 match fU P T,lv κ with
 |some (e,sz),.hole=>match lf P e,cC lv sz x with
  |some b,some (m,xs)=>
   match y with
   |.c (.d .nilsl)=>some (.c (.aO κ 0 m sz),[(κ,if m=0 then .nils else .cells true false e xs)],keyOf x,m<=9223372036854775807/\m*b<=140737488355328)
   |.c (.aO k off n sz')=>match lv k with
    |.nils=>if off=0/\n=0/\sz'=sz then some (.c (.aO κ 0 m sz),[(κ,if m=0 then .nils else .cells true false e xs)],k::keyOf x,m<=9223372036854775807/\m*b<=140737488355328)else none
    |.cells own false e' cs=>if off=0/\sz'=sz/\e'=e then
     some (.c (.aO κ 0 (n+m) sz),[(k,.dead),(κ,.cells own false e (cs++xs))],keyOf x,cs.length=n*sz/\n+m<=9223372036854775807/\(n+m)*b<=140737488355328)else none
    |_=>none
   |_=>none
  |_,_=>none
 |_,_=>none
def aB(P:Program)(T:TypeId)(n:Nat)(ixs:List Nat)(lv:Key->LB)(κ:Key)(vals:List AV):Option dn:=
 match fU P T,lv κ with
 |some (e,sz),.hole=>match dI P e with
  |some zs=>if zs.length=sz/\0<sz/\n*sz<=16777216/\ixs.length=vals.length then(match ic (λi=>some (i*sz,sz)) (gh n zs) (ixs.zip vals)with
   |some cs=>some (.c (.aO κ 0 n sz),[(κ,.cells true false e cs)],[],True)
   |none=>none)else none
  |none=>none
 |_,_=>none
def m6(P:Program)(T:TypeId)(lv:Key->LB)(y x:AV):Option dn:=
 match y,fU P T with
 |.c (.aO k off n sz),some (_,sz')=>if sz=1/\sz'=1 then(match lv k,cC lv 1 x with
  |.cells own false T' cs,some (m,xs)=>some (.c (.d (.int .i64 ((min m n:Nat):Int))),[(k,.cells own false T' (ai cs off (xs.take (min m n))))],keyOf x,0<m/\off+min m n<=cs.length/\n<=9223372036854775807)
  |_,_=>none)else none
 |_,_=>none
def eN:List AV->Option (IntKind×List Int)
 |[.c (.d (.int k n))]=>some (k,[n])
 |.c (.d (.int k n))::r=>match eN r with|some (k',l)=>if k=k' then some (k,n::l)else none|none=>none
 |_=>none
def tc(P:Program)(cl:Call)(vals:List AV)(lv:Key->LB)(κ:Key):Option dn:=
 match cl.callee with
 |.builtin .len=>match cl.args.toList,cl.argTypes.toList,vals with
  |[_],[T],[x]=>match jU P T lv x with
   |some n=>some (.c (.d (.int .i64 n)),[],keyOf x,vL x n)
   |none=>none
  |_,_,_=>none
 |.builtin .append=>match cl.args.toList,cl.argTypes.toList,vals with
  |[_,_],[T,T'],[y,x]=>if T=T' then iC P T lv κ y x else none
  |_,_,_=>none
 |.builtin .copy=>match cl.args.toList,cl.argTypes.toList,vals with
  |[_,_],[T,_],[y,x]=>m6 P T lv y x
  |_,_,_=>none
 |.builtin .max=>match eN vals with
  |some (k,n::l)=>some (.c (.d (.int k (l.foldl (λa b=>if b > a then b else a) n))),[],[],True)
  |_=>none
 |.builtin .min=>match eN vals with
  |some (k,n::l)=>some (.c (.d (.int k (l.foldl (λa b=>if b<a then b else a) n))),[],[],True)
  |_=>none
 |_=>none
def dg(P:Program)(op:Op)(vals:List AV)(lv:Key->LB)(κ:Key):Option dn:=
 match op,vals with
 |.move _,[x]|.assign _,[x]=>some (x,[],[],True)
 |.pick _ _ _,[t,x,y]=>match t with|.c (.d (.bool true))=>some (x,[],[],True)|.c (.d (.bool false))=>some (y,[],[],True)|_=>none
 |.alloc T,[]=>match dI P T,lv κ with|some xs,.hole=>some (.c (.ptr κ 0),[(κ,.cells true false T xs)],[],True)|_,_=>none
 |.box T _,[x]=>match x.cells,lv κ with|some xs,.hole=>some (.c (.ptr κ 0),[(κ,.cells true false T xs)],[],True)|_,_=>none
 |.build T parts,vals=>match dI P T,y7 P T with
  |some zs,some place=>if parts.size=vals.length then(match ic place zs ((parts.toList.map (·.1)).zip vals)with|some cs=>some (.agg cs,[],[],True)|none=>none)else none
  |_,_=>none
 |.buildSlice T n parts,vals=>aB P T n (parts.toList.map (·.1)) lv κ vals
 |.load T _,[x]=>aA P T lv x
 |.store T _ _,[x,y]=>aG P T lv x y
 |.nilCheck _,[x]=>j8 lv x
 |.binOp op T _ _ _,[x,y]=>aU P op T x y
 |.unOp op _ _,[x]=>match x with|.c (.d d)=>(match Zr op d with|some d'=>some (.c (.d d'),[],[],True)|none=>none)|_=>none
 |.convert S T _,[x]=>match x with
  |.c (.d (.int _ n))=>match vz P S,vz P T with|some _,some k'=>some (.c (.d (.int k' (k'.wrap n))),[],[],True)|_,_=>none
  |.c (.d (.str l))=>if lX P S&&lX P T then some (.c (.d (.str l)),[],[],True)else none
  |_=>none
 |.makeInterface T _,[x]=>match qH x with|some d=>if P.concrete T then some (.c (.d (.iface T d)),[],[],True)else none|none=>none
 |.makeFunc fn first caps,vals=>if vals.length=first.size+caps.size then(match lK (vals.take first.size),lK (vals.drop first.size)with
  |some fr,some cr=>some (.c (mZ fn fr cr),[],[],True)
  |_,_=>none)else none
 |.makeSlice T _ _,[x,y]=>jX P T lv κ x y
 |.slice T _ lo hi none,x::rest=>match FX lo hi rest with|some (l,h)=>ct P T lv x l h|none=>none
 |.fieldAddr T _ f,[x]=>dJ P T f lv x
 |.field T _ f,[x]=>match x with|.agg cs=>(match eH P T f with|some (off,ft)=>(match tq P ft cs off with|some y=>some (y,[],[],True)|none=>none)|none=>none)|_=>none
 |.indexAddr T _ _,[x,i]=>aq P T lv x i
 |.index T _ _,[x,i]=>jO P T x i
 |.extract _ i,[x]=>match x with|.tup l=>(match l[i]? with|some (.tup _)=>none|some y=>some (y,[],[],True)|none=>none)|_=>none
 |.call cl,vals=>tc P cl vals lv κ
 |_,_=>none
def b8(lv:Key->LB)(us:List (Key×LB)):Key->LB:=us.foldl (λf p=>aM f p.1 p.2) lv
section
variable {c:Ctx}{s:aJ}{o:Oper}
theorem zX{x:Option α}(h:(x.isSome&&b)=true):x.isSome=true/\b=true:=yn
theorem RY{d:Nat}(h:Qn P d T (.c (.d .nilIface)) (.c (.d .nilIface))=some b):False:=by
 cases d with
 |zero=>cases h
 |succ d=>unfold Qn at h;grind
theorem Be{p q:AV}{u:Value}{d:Nat}(hu:V.av u p)(hv:V.av v q)(he:Qn P d T p q=some b)(hp:xz p=true)
 (hg:P.eqGuardType P.depth T=false) (hr:(Op.equalIn 10000 T u v).run P V.w=.ok b V.w) :
 (do eqGuard .eql T x y u v;binOp .eql T u v:Sem Value).run P V.w=.ok (.bool b) V.w/\(do eqGuard .neq T x y u v;binOp .neq T u v:Sem Value).run P V.w=.ok (.bool (!b)) V.w:=by
 have hq:(Op.equal T u v).run P V.w=.ok b V.w:=hr
 have key:∀op,op=.eql\/op=.neq->(eqGuard op T x y u v).run P V.w=.ok () V.w:=by
  intro op hop
  have hne:¬(u=.nilIface/\v=.nilIface):=by
   rintro⟨rfl,rfl⟩
   have e1:p=.c (.d .nilIface):=by
    cases p with
    | c z=>cases z <;> simp [xz] at hp
           rename_i z;cases z<;>simp at hp<;>(obtain⟨hu,_⟩:=hu;cases hu);rfl
    |agg cs=>obtain⟨arr,h,_⟩:=hu;cases h
    |tup l=>cases hp
    |undef=>cases hp
    |junk=>cases hp
   subst e1
   have e2:q=.c (.d .nilIface):=by
    cases d with
    |zero=>cases he
    |succ d=>
     unfold Qn at he;split at he<;>first|(simp at*;done)|skip
     all_goals (first|(rename_i h1 h2 h3;simp_all;done)|skip)
     all_goals (obtain⟨hv,_⟩:=hv;cases hv)
   subst e2;exact RY he
  unfold eqGuard;rcases hop with rfl|rfl<;>simp only[Bool.not_true,aey,if_false]<;>split<;>first|(exfalso;exact hne ⟨rfl,rfl⟩)|(simp[hg];done)|rfl
 have hb:binOp .eql T u v=(do pure (.bool (<-Op.equal T u v)))/\binOp .neq T u v=(do pure (.bool (!(<-Op.equal T u v)))):=by
  cases p with
  |c z=>
   cases z<;>simp[xz]at hp
   rename_i z
   cases z<;>simp at hp<;>(obtain⟨hu,_⟩:=hu;cases hu)<;>exact⟨rfl,rfl⟩
  |agg cs=>obtain⟨arr,rfl,_⟩:=hu;exact⟨rfl,rfl⟩
  |tup l=>cases hp
  |undef=>cases hp
  |junk=>cases hp
 simp_all
theorem RJ{κ:dn}(hd:∀d,o.dst=some d->d<c.n)(ho:o.op=.binOp op T x y T')
 (h:aU c.P op T (s.val c.G x) (s.val c.G y)=some κ) (hvc:κ.2.2.2):di c o s (aJ.put ⟨s.fr,b8 s.lv κ.2.1⟩ o.dst κ.1):=by
 have hst:(⟨s.fr,s.lv⟩:aJ)=s:=rfl;unfold aU at h;split at h
 ·rename_i k m k' n hx hy
  split at h
  ·split at h
   ·simp only[aj]at h;subst h;exact Jn hd ho hx hy wa hvc
   grind
  ·split at h
   ·simp only[aj]at h;subst h;exact Jn hd ho hx hy wa hvc
   grind
  ·split at h
   ·rename_i hk;subst hk
    split at h
    ·simp only[aj]at h;subst h;exact OB hd ho hx hy wa hvc
    grind
   grind
 ·rename_i m n hx hy
  split at h
  ·simp only[aj]at h;subst h;exact MT hd ho hx hy wa hvc
  grind
 ·split at h
  ·split at h
   ·cases h
   ·rename_i hg
    split at h
    ·rename_i b hb
     simp only[aj]at h;subst h;refine di.bA hd λF β a w hs=>⟨.bool b,?_,Vw.o7 _ _⟩
     have hr:=D0 (Vw.mk F β s.lv w) 20 T _ _ b hb _ _ (hs.val x) (hs.val y) 10000 zd;have:=(Be (x:=x) (y:=y) (hs.val x) (hs.val y) hb yn yn hr).1;simp only[execOp,ho];rw[cy,this];rfl
    grind
  ·split at h
   ·cases h
   ·rename_i hg
    split at h
    ·rename_i b hb
     simp only[aj]at h;subst h;refine di.bA hd λF β a w hs=>⟨.bool (!b),?_,Vw.o7 _ _⟩
     have hr:=D0 (Vw.mk F β s.lv w) 20 T _ _ b hb _ _ (hs.val x) (hs.val y) 10000 zd;have:=(Be (x:=x) (y:=y) (hs.val x) (hs.val y) hb yn yn hr).2;simp only[execOp,ho];rw[cy,this];rfl
    grind
  grind
theorem Ke{ρ:Operand->AV}{l h:Option AV}(hb:FX lo hi ((lo.toArray++hi.toArray).toList.map ρ)=some (l,h)):l=lo.map ρ/\h=hi.map ρ:=by
 cases lo<;>cases hi<;>simp[FX]at hb⊢<;>(obtain⟨rfl,rfl⟩:=hb;simp)
theorem fR{β:Type}{f:α->β}{x:α}{y:β}(h:[x].map f=[y]):f x=y:=yn
theorem r8{b:Callee}{xs:List Operand}{ts:List TypeId}(h1:cl.callee=b)(h2:cl.args.toList=xs)(h3:cl.argTypes.toList=ts):
 cl={ callee:=b,args:=xs.toArray,argTypes:=ts.toArray }:=by
 cases cl;simp only at h1 h2 h3;subst h1 h2 h3;simp
theorem qN{V:Vw}:∀{vals:List AV}{k:IntKind}{l:List Int}{vs:List Value},eN vals=some (k,l)->vs.length=vals.length->(∀i (h:i<vs.length) (h':i<vals.length),V.av vs[i] vals[i]) ->
 vs=l.map (Value.int k)
 |[],_,_,_,h,_,_=>by cases h
 |[x],k,l,vs,h,hl,hv=>by
  match vs,hl with
  |[v],_=>
   have h0:=hv 0 zp zp;unfold eN at h;split at h
   ·rename_i e
    simp only[aep,and_true]at e;simp only[aj,rK]at h;obtain⟨rfl,rfl⟩:=h;simp only[aeC,e]at h0;rw[Vw.gR h0];rfl
   ·grind
   grind
 |x::y::r,k,l,vs,h,hl,hv=>by
  match vs,hl with
  |v::vr,hl=>
   have h0:=hv 0 zp zp;unfold eN at h;split at h
   ·grind
   ·rename_i hne e
    simp only[aep]at e;obtain⟨rfl,rfl⟩:=e;split at h
    ·rename_i k' l' hr
     split at h
     ·rename_i hk;subst hk
      simp only[aj,rK]at h;obtain⟨rfl,rfl⟩:=h;simp only[aeC]at h0;rw[Vw.gR h0,qN hr yn (λi p q=>hv (i+1) yn yn)];rfl
     grind
    grind
   grind
theorem uc{V:Vw}:∀{vals:List AV}{k:IntKind}{l:List Int}{vs:List Value},eN vals=some (k,l)->vs.length=vals.length->(∀i (h:i<vs.length) (h':i<vals.length),V.av vs[i] vals[i]) ->
 ∀m∈l,k.wrap m=m
 |[],_,_,_,h,_,_=>by cases h
 |[x],k,l,vs,h,hl,hv=>by
  match vs,hl with
  |[v],_=>
   have h0:=hv 0 zp zp;unfold eN at h;split at h
   ·rename_i e
    simp only[aep,and_true]at e;simp only[aj,rK]at h;obtain⟨rfl,rfl⟩:=h;simp only[aeC,e]at h0;simp only[aeH];rintro m rfl;exact Vw.uP h0
   ·grind
   grind
 |x::y::r,k,l,vs,h,hl,hv=>by
  match vs,hl with
  |v::vr,hl=>
   have h0:=hv 0 zp zp;unfold eN at h;split at h
   ·grind
   ·rename_i hne e
    simp only[aep]at e;obtain⟨rfl,rfl⟩:=e;split at h
    ·rename_i k' l' hr
     split at h
     ·rename_i hk;subst hk
      simp only[aj,rK]at h;obtain⟨rfl,rfl⟩:=h;simp only[aeC]at h0;intro m hm;rcases List.mem_cons.1 hm with rfl|hm
      ·exact Vw.uP h0
      ·exact uc hr yn (λi p q=>hv (i+1) yn yn) m hm
     grind
    grind
   grind
theorem tX{f:Int->Int->Int}(hf:∀a b,f a b=a\/f a b=b):∀(l:List Int) (n:Int),l.foldl f n∈n::l
 |[],n=>by simp
 |x::l,n=>by
  have h:=tX hf l (f n x)
  grind
theorem AL{P:Program}{k:IntKind}(w:World):∀(l:List Int) (n:Int),((l.map (Value.int k)).foldlM Builtin.max2 (.int k n)).run P w=.ok (.int k (l.foldl (λa b=>if b > a then b else a) n)) w
 |[],n=>rfl
 |x::l,n=>by
  simp only[adi,List.foldlM_cons,afU,cy];have:(Builtin.max2 (.int k n) (.int k x)).run P w=.ok (.int k (if x > n then x else n)) w:=rfl;rw[this,nZ];exact AL w l _
theorem AK{P:Program}{k:IntKind}(w:World):∀(l:List Int) (n:Int),((l.map (Value.int k)).foldlM Builtin.min2 (.int k n)).run P w=.ok (.int k (l.foldl (λa b=>if b<a then b else a) n)) w
 |[],n=>rfl
 |x::l,n=>by
  simp only[adi,List.foldlM_cons,afU,cy];have:(Builtin.min2 (.int k n) (.int k x)).run P w=.ok (.int k (if x<n then x else n)) w:=rfl;rw[this,nZ];exact AK w l _
theorem Mf(hd:∀d,o.dst=some d->d<c.n)(ho:o.op=.call cl)(hv:(Op.call cl).operands.toList.map (s.val c.G)=vals)
 (h:tc c.P cl vals s.lv κ=some r) (hvc:r.2.2.2):di c o s (aJ.put ⟨s.fr,b8 s.lv r.2.1⟩ o.dst r.1):=by
 unfold tc at h;split at h
 ·rename_i hcal
  split at h
  ·rename_i a0 T x ha ht
   have hcl:=r8 hcal ha ht;subst hcl;have h1:s.val c.G a0=x:=sd
   split at h
   ·simp only[aj]at h;subst h;exact Rc hd ho yn yn
   grind
  ·cases h
 ·rename_i hcal
  split at h
  ·rename_i a0 a1 T T' y x ha ht
   have hcl:=r8 hcal ha ht;subst hcl;have h12:s.val c.G a0=y/\s.val c.G a1=x:=sd
   obtain⟨h1,h2⟩:=h12;split at h
   ·rename_i hTT;subst hTT
    unfold iC at h;split at h
    ·rename_i e sz hT hk
     split at h
     ·rename_i b m xs hb hx
      obtain⟨i,z,hi,hz1,hz2,hz3⟩:=xP hb;obtain⟨hu,hie,hsz⟩:=eJ hT;have hsize:z.cells.size=sz:=by rw[hz2,<-hsz];simp[lM,hi]
      split at h
      ·simp only[aj]at h;subst h;exact Bf hd ho hk h1 hT hi hz1 yn hsize hvc.1 yn
      ·split at h
       ·split at h
        ·rename_i hc
         obtain⟨rfl,rfl,rfl⟩:=hc;simp only[aj]at h;subst h;exact yB hd ho hk hT hi hz1 h1 wa yn hsize hvc.1 yn
        grind
       ·split at h
        ·rename_i hc
         obtain⟨rfl,rfl,rfl⟩:=hc;simp only[aj]at h;subst h;exact zJ hd ho hk hT hi hz1 h1 wa hvc.1 yn hsize hvc.2.1 yn
        grind
       grind
      grind
     grind
    grind
   grind
  ·cases h
 ·rename_i hcal
  split at h
  ·rename_i a0 a1 T T' y x ha ht
   have hcl:=r8 hcal ha ht;subst hcl;have h12:s.val c.G a0=y/\s.val c.G a1=x:=sd
   obtain⟨h1,h2⟩:=h12;unfold m6 at h;split at h
   ·rename_i k off n sz e sz' hT
    split at h
    ·rename_i hsz
     obtain⟨rfl,rfl⟩:=hsz;split at h
     ·rename_i own T0 cs m xs hk hx
      simp only[aj]at h;subst h;obtain⟨g1,g2,g3⟩:=hvc;exact Nv hd ho h1 hk hT yn g1 g2 g3
     grind
    grind
   grind
  ·cases h
 ·rename_i hcal
  split at h
  ·rename_i k n l hi
   simp only[aj]at h;subst h;refine di.bA hd λF β a w hs=>?_
   have hall:(cl.args.toList.map a.eval).length=vals.length/\∀i (h:i<(cl.args.toList.map a.eval).length) (h':i<vals.length),(Vw.mk F β s.lv w).av (cl.args.toList.map a.eval)[i] vals[i]:=by
    refine⟨?_,?_⟩
    ·rw[<-hv];simp[Op.operands,Call.operands,hcal]
    ·intro i p q;subst hv;simp only[Op.operands,Call.operands,hcal,af8,rP]at q⊢;exact hs.val _
   have hargs:cl.args.toList.map a.eval=(n::l).map (Value.int k):=qN (V:=Vw.mk F β s.lv w) hi hall.1 hall.2;have hrng:=uc (V:=Vw.mk F β s.lv w) hi hall.1 hall.2 _ (tX (f:=λa b=>if b > a then b else a) (λa b=>by by_cases h:b > a<;>simp[h]) l n);refine⟨.int k (l.foldl (λa b=>if b > a then b else a) n),?_,Vw.pF _ _ _ hrng⟩
   have hm:(Builtin.max_ cl.argTypes o.type (cl.args.map a.eval)).run c.P w=.ok (.int k (l.foldl (λa b=>if b > a then b else a) n)) w:=by
    simp only[Builtin.max_,Array.toList_map,hargs,adi];exact AL w l n
   simp[execOp,ho,resolve,hcal,invoke,builtin,hm]
  ·cases h
 ·rename_i hcal
  split at h
  ·rename_i k n l hi
   simp only[aj]at h;subst h;refine di.bA hd λF β a w hs=>?_
   have hall:(cl.args.toList.map a.eval).length=vals.length/\∀i (h:i<(cl.args.toList.map a.eval).length) (h':i<vals.length),(Vw.mk F β s.lv w).av (cl.args.toList.map a.eval)[i] vals[i]:=by
    refine⟨?_,?_⟩
    ·rw[<-hv];simp[Op.operands,Call.operands,hcal]
    ·intro i p q;subst hv;simp only[Op.operands,Call.operands,hcal,af8,rP]at q⊢;exact hs.val _
   have hargs:cl.args.toList.map a.eval=(n::l).map (Value.int k):=qN (V:=Vw.mk F β s.lv w) hi hall.1 hall.2;have hrng:=uc (V:=Vw.mk F β s.lv w) hi hall.1 hall.2 _ (tX (f:=λa b=>if b<a then b else a) (λa b=>by by_cases h:b<a<;>simp[h]) l n);refine⟨.int k (l.foldl (λa b=>if b<a then b else a) n),?_,Vw.pF _ _ _ hrng⟩
   have hm:(Builtin.min_ cl.argTypes o.type (cl.args.map a.eval)).run c.P w=.ok (.int k (l.foldl (λa b=>if b<a then b else a) n)) w:=by
    simp only[Builtin.min_,Array.toList_map,hargs,adi];exact AK w l n
   simp[execOp,ho,resolve,hcal,invoke,builtin,hm]
  ·cases h
 ·cases h
theorem LQ{op:Op}(hd:∀d,o.dst=some d->d<c.n)(ho:o.op=op)(hv:op.operands.toList.map (s.val c.G)=vals)
 (h:dg c.P op vals s.lv κ=some r) (hvc:r.2.2.2):di c o s (aJ.put ⟨s.fr,b8 s.lv r.2.1⟩ o.dst r.1):=by
 unfold dg at h;split at h
 ·
  simp only[aj]at h;subst h;have:=fR hv;subst this;exact GO hd (.inl ho)
 ·simp only[aj]at h;subst h;have:=fR hv;subst this;exact GO hd (.inr ho)
 ·
  simp only[Op.operands,adi,ael,aep,and_true]at hv;obtain⟨h1,h2,h3⟩:=hv;split at h
  ·simp only[aj]at h;subst h;subst h2;exact Fv hd ho h1
  ·simp only[aj]at h;subst h;subst h3;exact Fv hd ho h1
  ·cases h
 ·
  split at h
  ·rename_i xs hz hk
   simp only[aj]at h;subst h;obtain⟨z,hz1,hz2⟩:=oa hz;exact L6 hd ho hk hz1 hz2
  ·cases h
 ·
  have h1:=fR hv;split at h
  ·rename_i xs hx hk
   simp only[aj]at h;subst h;exact Q5 hd ho hk yn
  grind
 ·
  split at h
  ·rename_i zs place hz hp
   split at h
   ·split at h
    ·rename_i cs hf
     simp only[aj]at h;subst h;obtain⟨z,hz1,hz2⟩:=oa hz;refine LU hd ho hz1 hz2 hp ?_;rw[<-hf];congr 1;rw[<-hv];simp only[Op.operands,adT]
     grind
    ·cases h
   ·cases h
  ·cases h
 ·
  unfold aB at h;split at h
  ·rename_i e sz hT hk
   split at h
   ·rename_i zs hz
    split at h
    ·rename_i hc
     split at h
     ·rename_i cs hf
      simp only[aj]at h;subst h;obtain⟨z,hz1,hz2⟩:=oa hz;refine A0 hd ho hk hT hz1 hz2 hc.1 hc.2.1 hc.2.2.1 ?_;rw[<-hf];congr 1;rw[<-hv];simp only[Op.operands,adT]
      grind
     ·cases h
    ·cases h
   ·cases h
  ·cases h
 ·
  have h1:=fR hv;unfold aA at h;split at h
  ·split at h
   ·simp only[aj]at h;subst h;exact IS hd ho h1 wa
   grind
  ·split at h
   ·split at h
    ·simp only[aj]at h;subst h;exact HP hd ho h1 wa wa
    grind
   grind
  grind
 ·
  simp only[Op.operands,adi,ael,aep,and_true]at hv;obtain⟨h1,h2⟩:=hv;unfold aG at h;split at h
  ·split at h
   ·split at h
    ·split at h
     ·rename_i hc
      simp only[aj]at h;subst h;obtain⟨h3,h4⟩:=zX hc;exact Mz hd ho h1 wa yn h3 yn hvc
     ·cases h
    ·cases h
   ·cases h
  ·cases h
 ·
  have h1:=fR hv;unfold j8 at h;split at h
  ·simp only[aj]at h;subst h;exact AU hd ho h1
  ·split at h
   ·simp only[aj]at h;subst h;exact A1 hd ho h1 wa
   grind
  ·simp only[aj]at h;subst h;exact Ae hd ho h1 (λm e=>by cases e)
  ·simp only[aj]at h;subst h;exact yO hd ho h1 (λm e=>by cases e)
  grind
 ·
  simp only[Op.operands,adi,ael,aep,and_true]at hv;obtain⟨h1,h2⟩:=hv;subst h1 h2;exact RJ hd ho h hvc
 ·
  have h1:=fR hv;split at h
  ·split at h
   ·simp only[aj]at h;subst h;exact PK hd ho h1 wa
   grind
  grind
 ·
  have h1:=fR hv;split at h
  ·split at h
   ·rename_i e1 e2
    simp only[aj]at h;subst h;exact Eh hd ho h1 yn e2
   grind
  ·split at h
   ·rename_i hc
    simp only[aj]at h;subst h;simp only[adS]at hc;exact De hd ho h1 hc.1 hc.2
   grind
  grind
 ·
  have h1:=fR hv;split at h
  ·split at h
   ·simp only[aj]at h;subst h;exact GK hd ho yn wa
   grind
  grind
 ·
  split at h
  ·rename_i hl
   split at h
   ·rename_i fr cr e1 e2
    simp only[aj]at h;subst h;simp only[Op.operands,Array.toList_append,aeD]at hv;subst hv;rw[List.take_left' zp]at e1;rw[afA zp]at e2;exact HE hd ho e1 e2
   ·cases h
  ·cases h
 ·
  simp only[Op.operands,adi,ael,aep,and_true]at hv;obtain⟨h1,h2⟩:=hv;unfold jX at h;split at h
  ·split at h
   ·rename_i e sz hT hk
    split at h
    ·rename_i zs b hz hb
     split at h
     ·rename_i hc
      simp only[aj]at h;subst h;obtain⟨i,z,hi,hz1,hz2,hz3⟩:=xP hb;obtain⟨z',hz4,hz5⟩:=oa hz;rw[hi]at hz4;simp only[Option.bind_some]at hz4;rw[hz1]at hz4;cases hz4;obtain⟨v1,v2,v3,v4⟩:=hvc;exact Ni hd ho hk h1 h2 hT hi hz1 hz5 hc.1 hc.2 v1 v2 yn v4
     ·cases h
    ·cases h
   ·cases h
  ·cases h
 ·
  rename_i T x lo hi v rest
  simp only[Op.operands,Option.toArray_none,Array.append_empty,Array.append_assoc,Array.toList_append,aeD,adi,afB,aew,aep]at hv;obtain⟨h1,h2⟩:=hv;split at h
  ·rename_i l hh hb
   rw[<-h2,<-aeD,<-Array.toList_append]at hb;obtain⟨rfl,rfl⟩:=Ke hb;unfold ct at h;split at h
   ·split at h
    ·rename_i hs
     split at h
     ·simp only[aj]at h;subst h;obtain⟨v1,v2,v3⟩:=hvc;exact BM hd ho h1 (jm hs) wa wa v1 v2 v3
     ·cases h
    ·cases h
   ·split at h
    ·rename_i hT
     split at h
     ·simp only[aj]at h;subst h;obtain⟨v1,v2,v3,v4⟩:=hvc;exact Gn hd ho h1 hT v4 wa wa v1 v2 v3
     ·cases h
    ·cases h
   ·split at h
    ·rename_i hT
     split at h
     ·simp only[aj]at h;subst h;exact By hd ho h1 hT wa wa hvc.1 hvc.2
     ·cases h
    ·cases h
   ·split at h
    ·rename_i hk hT
     split at h
     ·rename_i hsz;subst hsz
      split at h
      ·simp only[aj]at h;subst h;obtain⟨v1,v2,v3,v4⟩:=hvc;exact Ho hd ho h1 hk hT wa wa v1 v2 v3 v4
      ·cases h
     ·cases h
    ·cases h
   ·cases h
  ·cases h
 ·
  have h1:=fR hv;unfold dJ at h;split at h
  ·split at h
   ·simp only[aj]at h;subst h;exact yU hd ho h1 wa hvc
   grind
  ·split at h
   ·simp only[aj]at h;subst h;exact x9 hd ho h1 wa wa
   grind
  grind
 ·
  have h1:=fR hv;split at h
  ·split at h
   ·split at h
    ·simp only[aj]at h;subst h;exact Mu hd ho h1 wa wa
    grind
   grind
  grind
 ·
  simp only[Op.operands,adi,ael,aep,and_true]at hv;obtain⟨h1,h2⟩:=hv;unfold aq at h;split at h
  ·split at h
   ·rename_i es _
    split at h
    ·simp only[aj]at h;subst h;obtain⟨v1,v2,v3⟩:=hvc;refine yh hd ho h1 h2 wa v1 ?_ v3
     grind
    ·cases h
   ·split at h
    ·split at h
     ·rename_i hsz;subst hsz
      simp only[aj]at h;subst h;exact x8 hd ho h1 wa h2 wa hvc.1 hvc.2
     ·cases h
    ·cases h
   ·split at h
    ·simp only[aj]at h;subst h;exact wD hd ho h1 h2 wa hvc.1 hvc.2.1 hvc.2.2
    ·cases h
   ·split at h
    ·simp only[aj]at h;subst h;exact xo hd ho h1 wa h2 wa hvc.1 hvc.2
    ·cases h
   ·cases h
  ·cases h
 ·
  simp only[Op.operands,adi,ael,aep,and_true]at hv;obtain⟨h1,h2⟩:=hv;unfold jO at h;split at h
  ·split at h
   ·split at h
    ·rename_i hs
     simp only[aj]at h;subst h;refine BH hd ho h1 h2 (jm hs) hvc.1 ?_
     grind
    ·cases h
   ·split at h
    ·split at h
     ·simp only[aj]at h;subst h;exact BD hd ho h1 h2 wa hvc.1 hvc.2 wa
     ·cases h
    ·cases h
   ·cases h
  ·cases h
 ·
  have h1:=fR hv;split at h
  ·split at h
   ·cases h
   ·rename_i y hnt hy
    simp only[aj]at h;subst h;exact Gh hd ho h1 hy (λl' e=>hnt l' e)
   grind
  grind
 ·
  rename_i cl vals'
  exact Mf hd ho hv h hvc
 ·cases h
def Agree(lv lv':Key->LB)(us:List (Key×LB))(rds:List Key):Prop:=(∀k∈rds,lv' k=lv k)/\∀p∈us,lv' p.1=lv p.1
theorem m9{x:AV}{r:Nat×List CV}(h:cC lv sz x=some r)(hk:∀k∈keyOf x,lv' k=lv k):cC lv' sz x=some r:=by
 rw[<-h];unfold cC;split<;>first|rfl|skip;rw[hk _ (by simp[keyOf])]
theorem IJ{x:AV}{r:Int}(h:jU P T lv x=some r)(hk:∀k∈keyOf x,lv' k=lv k):jU P T lv' x=some r:=by
 rw[<-h];unfold jU;split<;>first|rfl|skip;rw[hk _ (by simp[keyOf])]
theorem Ac{x:AV}(h:aA P T lv x=some r)(ha:Agree lv lv' r.2.1 r.2.2.1):aA P T lv' x=some r:=by
 have h0:=h;unfold aA at h⊢;split at h
 ·exact h
 ·split at h
  ·rename_i e
   split at h
   ·rename_i e2
    simp only[aj]at h;subst h;have:=ha.1 _ (List.mem_singleton.2 rfl)
    grind
   grind
  grind
 omega
theorem yN{x y:AV}(h:aG P T lv x y=some r)(ha:Agree lv lv' r.2.1 r.2.2.1):aG P T lv' x y=some r:=by
 unfold aG at h⊢;split at h
 ·split at h
  ·rename_i e
   split at h
   ·rename_i e2
    split at h
    ·rename_i e3
     simp only[aj]at h;subst h;have:=ha.2 _ (List.mem_singleton.2 rfl)
     grind
    grind
   grind
  grind
 omega
theorem BQ{x:AV}(h:j8 lv x=some r)(ha:Agree lv lv' r.2.1 r.2.2.1):j8 lv' x=some r:=by
 unfold j8 at h⊢;split at h
 ·exact h
 ·split at h
  ·rename_i e
   simp only[aj]at h;subst h;have:=ha.1 _ (List.mem_singleton.2 rfl)
   grind
  grind
 ·exact h
 ·exact h
 omega
theorem sV{f:Nat}{x:AV}(h:dJ P T f lv x=some r)(ha:Agree lv lv' r.2.1 r.2.2.1):dJ P T f lv' x=some r:=by
 unfold dJ at h⊢;split at h
 ·exact h
 ·split at h
  ·rename_i e e2
   simp only[aj]at h;subst h;have:=ha.1 _ (List.mem_singleton.2 rfl)
   grind
  grind
 omega
theorem sW{x i:AV}(h:aq P T lv x i=some r)(ha:Agree lv lv' r.2.1 r.2.2.1):aq P T lv' x i=some r:=by
 unfold aq at h⊢;split at h
 ·split at h
  ·exact h
  ·split at h
   ·rename_i e e2
    split at h
    ·rename_i e3
     simp only[aj]at h;subst h;have:=ha.1 _ (List.mem_singleton.2 rfl)
     grind
    grind
   grind
  ·exact h
  ·split at h
   ·rename_i e e2
    simp only[aj]at h;subst h;have:=ha.1 _ (List.mem_singleton.2 rfl)
    grind
   grind
  omega
 omega
theorem yf{x:AV}{lo hi:Option AV}(h:ct P T lv x lo hi=some r)(ha:Agree lv lv' r.2.1 r.2.2.1):ct P T lv' x lo hi=some r:=by
 unfold ct at h⊢;split at h
 ·exact h
 ·exact h
 ·exact h
 ·split at h
  ·rename_i e e2
   split at h
   ·rename_i e3
    split at h
    ·rename_i e4 e5
     simp only[aj]at h;subst h;have:=ha.1 _ (List.mem_singleton.2 rfl)
     grind
    grind
   grind
  grind
 omega
theorem Ar{x y:AV}(h:jX P T lv κ x y=some r)(ha:Agree lv lv' r.2.1 r.2.2.1):jX P T lv' κ x y=some r:=by
 unfold jX at h⊢;split at h
 ·split at h
  ·rename_i e e2
   split at h
   ·rename_i e3 e4
    split at h
    ·rename_i e5
     simp only[aj]at h;subst h;have:=ha.2 _ (List.mem_singleton.2 rfl)
     grind
    grind
   grind
  grind
 omega
theorem qR{n:Nat}{ixs:List Nat}(h:aB P T n ixs lv κ vals=some r)(ha:Agree lv lv' r.2.1 r.2.2.1):aB P T n ixs lv' κ vals=some r:=by
 unfold aB at h⊢;split at h
 ·rename_i e e2
  split at h
  ·rename_i e3
   split at h
   ·rename_i e4
    split at h
    ·rename_i e5
     simp only[aj]at h;subst h;have:=ha.2 _ (List.mem_singleton.2 rfl)
     grind
    grind
   grind
  grind
 grind
theorem wV{y x:AV}(h:iC P T lv κ y x=some r)(ha:Agree lv lv' r.2.1 r.2.2.1):iC P T lv' κ y x=some r:=by
 unfold iC at h⊢;split at h
 ·rename_i e e2
  split at h
  ·rename_i e3 e4
   split at h
   ·simp only[aj]at h;subst h;have h1:=ha.2 _ (List.mem_singleton.2 rfl);simp only at h1;have h2:=m9 e4 (λk hk=>ha.1 k hk)
    grind
   ·split at h
    ·rename_i e5
     split at h
     ·rename_i e6
      simp only[aj]at h;subst h;have h1:=ha.2 _ (List.mem_singleton.2 rfl);simp only at h1;have h2:=m9 e4 (λk hk=>ha.1 k (afd _ hk));have h3:=ha.1 _ (afm)
      grind
     grind
    ·rename_i e5
     split at h
     ·rename_i e6
      simp only[aj]at h;subst h;have h1:=ha.2 _ (afd _ (List.mem_singleton.2 rfl));simp only at h1;have h2:=m9 e4 (λk hk=>ha.1 k hk);have h3:=ha.2 _ (afm)
      grind
     grind
    grind
   grind
  grind
 grind
theorem Ai{y x:AV}(h:m6 P T lv y x=some r)(ha:Agree lv lv' r.2.1 r.2.2.1):m6 P T lv' y x=some r:=by
 unfold m6 at h⊢;split at h
 ·rename_i k off n sz e sz' hT
  split at h
  ·rename_i hsz
   split at h
   ·rename_i own T0 cs m xs hk hx
    simp only[aj]at h;subst h;have h1:=ha.2 _ (List.mem_singleton.2 rfl);simp only at h1;have h2:=m9 hx ha.1
    grind
   grind
  grind
 omega
theorem F7(h:tc P cl vals lv κ=some r)(ha:Agree lv lv' r.2.1 r.2.2.1):tc P cl vals lv' κ=some r:=by
 unfold tc at h⊢;split at h
 ·split at h
  ·split at h
   ·rename_i e
    simp only[aj]at h;subst h;rw[IJ e ha.1]
   grind
  omega
 ·split at h
  ·split at h
   ·rename_i e;exact(by rw[if_pos e];exact wV h ha)
   grind
  omega
 ·split at h
  ·exact Ai h ha
  omega
 ·exact h
 ·exact h
 omega
theorem FF{op:Op}(h:dg P op vals lv κ=some r)(ha:Agree lv lv' r.2.1 r.2.2.1):dg P op vals lv' κ=some r:=by
 unfold dg at h⊢;split at h
 ·exact h
 ·exact h
 ·exact h
 ·split at h
  ·rename_i e e2
   simp only[aj]at h;subst h;have:=ha.2 _ (List.mem_singleton.2 rfl)
   grind
  grind
 ·split at h
  ·rename_i e e2
   simp only[aj]at h;subst h;have:=ha.2 _ (List.mem_singleton.2 rfl)
   grind
  grind
 ·exact h
 ·exact qR h ha
 ·exact Ac h ha
 ·exact yN h ha
 ·exact BQ h ha
 ·exact h
 ·exact h
 ·exact h
 ·exact h
 ·exact h
 ·exact Ar h ha
 ·split at h
  ·exact yf h ha
  omega
 ·exact sV h ha
 ·exact h
 ·exact sW h ha
 ·exact h
 ·exact h
 ·exact F7 h ha
 omega
end
def Lj:DV->AV
 |.agg l=>.agg (l.map .d)
 |x=>.c (.d x)
def qd.cv:qd->CV
 |.d x=>.d x
 |.ptr k o=>.ptr k o
 |.aO k o l z=>.aO k o l z
theorem Vw.Sv{x:qd}(h:V.oP v x):V.cv v x.cv:=by
 cases x<;>exact h
def oS:Ref->AV
 |.d x=>Lj x
 |.ptr k o=>.c (.ptr k o)
 |.aO k o l z=>.c (.aO k o l z)
 |.agg cs=>.agg (cs.map qd.cv)
 |.ifc t x=>.c (.ifc t x)
theorem Vw.Lj(h:Rd V.mem v d):V.av v (Am.Lj d):=by
 cases d with
 |agg l=>
  cases h with
  |agg arr cs hl ho hr=>
   refine⟨arr,rfl,yn,λi p q=>?_⟩;simp only[rP];exact⟨hr i zd,ho i q⟩
 |_=>exact⟨h,by rw[Rd.SZ h];rfl⟩
theorem Vw.oS{r:Ref}(h:V.ref v r):V.av v (Am.oS r):=by
 cases r with
 |d x=>exact V.Lj h
 |ptr k o=>exact h
 |aO k o l z=>exact h
 |agg cs=>
  obtain⟨arr,rfl,h1,h2⟩:=h;exact⟨arr,rfl,yn,λi a b=>by simp only[rP];exact V.Sv (h2 i zd b)⟩
 |ifc t x=>exact h
def mu:AV->Option (FuncId×List AV×List AV)
 |.c (.d (.func (.func f) fs cs))=>some (f,fs.map Lj,cs.map Lj)
 |.c (.func (.func f) fs cs)=>some (f,fs.map oS,cs.map oS)
 |_=>none
def aE(P:Program)(f:FuncId):Bool:=
 match P.funcs[f]? with
 |some fn=>fn.body.isSome&&fn.name != "runtime.NumGoroutine"
 |none=>false
theorem o4(h:aE P f=true)(args:Array Value)(w:World):(callFunc f args).run P w=.ok (.enter f args) w:=by
 unfold aE at h;unfold callFunc;split at h
 ·rename_i fn hf
  simp only[adS,bne_iff_ne]at h;simp only[cy,run_program,nZ,hf];have h1:(fn.name == "runtime.NumGoroutine")=false:=by simpa using h.2
  have h2:fn.body.isNone=false:=by
   cases e:fn.body with
   |none=>rw[e]at h;simp at h
   |some b=>rfl
  rw[h1,h2];rfl
 grind
theorem ES{fv:Value}{x:AV}{cs:List AV}(h:V.av fv x)(ht:mu x=some (f,fs,cs)):
 ∃fs' cs':Array Value,fv=.func (.func f) fs' cs'/\fs'.size=fs.length/\cs'.size=cs.length/\(∀i (h:i<fs.length) (h':i<fs'.size),V.av fs'[i] fs[i])/\(∀i (h:i<cs.length) (h':i<cs'.size),V.av cs'[i] cs[i]):=by
 unfold mu at ht;split at ht
 ·simp only[aj,rK]at ht;obtain⟨rfl,rfl,rfl⟩:=ht;obtain⟨h,_⟩:=h
  cases h with
  |func _ fs' cs' fd cd hf hc hrf hrc=>
   refine⟨fs',cs',rfl,yn,yn,λi p q=>?_,λi p q=>?_⟩
   ·simp only[rP];exact V.Lj (hrf i zd)
   ·simp only[rP];exact V.Lj (hrc i zd)
 ·simp only[aj,rK]at ht;obtain⟨rfl,rfl,rfl⟩:=ht;obtain⟨fs',cs',rfl,h1,h2,h3,h4⟩:=h;refine⟨fs',cs',rfl,yn,yn,λi p q=>?_,λi p q=>?_⟩
  ·simp only[rP];exact V.oS (h3 i zd q)
  ·simp only[rP];exact V.oS (h4 i zd q)
 grind
def UR:TypeDesc->Bool
 |.pointer _=>true
 |_=>false
def wH(P:Program)(t:TypeId)(name:String):Option FuncId:=
 (P.info? t).bind λi=>(P.underlying t).bind λd=>(i.methods.find? (·.name==name)).bind λm=>m.func.bind λp=>
  if UR d ||p.2 || !m.path.isEmpty then none else some p.1
theorem HA(h:wH P t name=some f)(n:Nat)(v:Value)(w:World):(method (n+1) t v name).run P w=.ok (f,v) w:=by
 unfold wH at h;obtain⟨i,hi,h⟩:=Option.bind_eq_some_iff.1 h;obtain⟨d,hd,h⟩:=Option.bind_eq_some_iff.1 h;obtain⟨m,hm,h⟩:=Option.bind_eq_some_iff.1 h;obtain⟨⟨g,b⟩,hf,h⟩:=Option.bind_eq_some_iff.1 h;split at h
 ·cases h
 rename_i hc
 cases h
 simp only[aeY,aeM,not_or,Bool.not_eq_true,Bool.not_eq_false]at hc;obtain⟨⟨h1,rfl⟩,h2⟩:=hc;have hp':m.path.toList=[]:=lm
 unfold method;simp only[cy,typeInfo,run_program,nZ,hi,ad6,hm,hp',follow,hf,receiverAt,run_underlying hd]
 cases d<;>first|(cases h1;done)|simp[Place.get]
def lS(P:Program)(name:String):AV->Option (FuncId×List AV×List AV)
 |.c (.d (.iface t d))=>(wH P t name).map λf=>(f,[Lj d],[])
 |.c (.ifc t x)=>(wH P t name).map λf=>(f,[oS x],[])
 |_=>none
def xm(P:Program)(val:Operand->AV):Callee->Option (FuncId×List AV×List AV)
 |.value fo=>mu (val fo)
 |.invoke x n=>lS P n (val x)
 |.builtin _=>none
theorem Jk{val val':Operand->AV}(h:∀y∈(Op.call cl).operands.toList,val y=val' y):xm P val cl.callee=xm P val' cl.callee/\cl.args.toList.map val=cl.args.toList.map val':=by
 have ha:∀y∈cl.args.toList,val y=val' y:=λy hy=>h y (by
  cases hc:cl.callee<;>simp only[Op.operands,Call.operands,hc]<;>simp at hy⊢<;>simp[hy])
 refine⟨?_,aen ha⟩
 cases hc:cl.callee with
 |builtin b=>rfl
 |value x=>simp only[xm,h x kd]
 |invoke x n=>simp only[xm,h x kd]
theorem H8{rv:Value}{x:AV}{cs:List AV}(h:V.av rv x)(ht:lS P name x=some (f,fs,cs)):
 ∃t v y,rv=.iface t v/\wH P t name=some f/\fs=[y]/\cs=[]/\V.av v y:=by
 unfold lS at ht;split at ht
 ·rename_i t d
  simp only[adY,rK]at ht;obtain⟨g,hg,rfl,rfl,rfl⟩:=ht;obtain⟨h,_⟩:=h
  cases h with
  |iface _ v' _ hr=>exact⟨t,v',_,rfl,hg,rfl,rfl,V.Lj hr⟩
 ·rename_i t y
  simp only[adY,rK]at ht;obtain⟨g,hg,rfl,rfl,rfl⟩:=ht;obtain⟨v',rfl,h1⟩:=h;exact⟨t,v',_,rfl,hg,rfl,rfl,V.oS h1⟩
 ·cases ht
def CV.flat:CV->Bool
 |.d x=>x.qW
 |_=>false
def AV.Km:AV->Bool
 |.c x=>x.flat
 |.agg cs=>cs.all CV.flat
 |_=>false
def AV.flat:AV->Bool
 |.tup l=>l.all AV.Km
 |x=>x.Km
theorem Rd.LW(h:Rd M v d)(hd:d.qW=true):Rd M' v d:=by
 cases h<;>simp[DV.qW]at hd
 ·exact .bool _
 ·exact .int _ _ wa
 ·exact .str _ wa
theorem Vw.EF{x:CV}(h:V.cv v x)(hx:x.flat=true):V'.cv v x:=by
 cases x<;>simp[CV.flat]at hx
 exact⟨Rd.LW h.1 hx,h.2⟩
theorem Vw.G9{x:AV}(h:V.wj v x)(hx:x.Km=true):V'.wj v x:=by
 cases x with
 |c x=>exact Vw.EF (x:=x) h hx
 |agg cs=>
  obtain⟨arr,rfl,h1,h2⟩:=h;simp only[AV.Km,adG]at hx;exact⟨arr,rfl,h1,λi p q=>Vw.EF (h2 i p q) (hx _ (cn p))⟩
 |tup l=>cases hx
 |undef=>cases hx
 |junk=>cases hx
theorem Vw.S4{x:AV}(h:V.av v x)(hx:x.flat=true):V'.av v x:=by
 cases x with
 |c x=>exact Vw.EF (x:=x) h hx
 |agg cs=>exact Vw.G9 (x:=.agg cs) h hx
 |tup l=>
  obtain⟨arr,rfl,h1,h2⟩:=h;simp only[AV.flat,adG]at hx;exact⟨arr,rfl,h1,λi p q=>Vw.G9 (h2 i p q) (hx _ (cn p))⟩
 |undef=>cases hx
 |junk=>cases hx
def fO(lv:Key->LB):AV->Option (AV×List Key)
 |.c x=>(fX lv 8 x).map λp=>(.c (.d p.1),p.2)
 |.agg cs=>(ji (fX lv 8) cs).map λp=>(.agg (p.1.map .d),p.2)
 |_=>none
def l8(lv:Key->LB):List AV->Option (List AV×List Key)
 |[]=>some ([],[])
 |x::r=>match fO lv x,l8 lv r with
  |some (y,k),some (l,ks)=>some (y::l,k++ks)
  |_,_=>none
theorem fF.fO(h:fF c F β s.lv w)(hF:∀b,F b->Fz b){x y:AV}(ht:Am.fO s.lv x=some (y,ks))
 (hk:∀k∈ks,Fz (β k)) (hv:(Vw.mk F β s.lv w).av v x):(Vw.mk Fz β' lv' w).av v y:=by
 cases x with
 |c x=>
  simp only[Am.fO,adY]at ht;obtain⟨⟨d,ks'⟩,ht,he⟩:=ht;simp only[rK]at he;obtain⟨rfl,rfl⟩:=he;exact⟨h.fX hF 8 x d ks' v ht hk hv,Vw.iE (x:=x) hv⟩
 |agg cs=>
  simp only[Am.fO,adY]at ht;obtain⟨⟨l,ks'⟩,ht,he⟩:=ht;simp only[rK]at he;obtain⟨rfl,rfl⟩:=he;obtain⟨h1,h2⟩:=sA ht;obtain⟨arr,rfl,h3,h4⟩:=hv;refine⟨arr,rfl,yv,λi p q=>?_⟩;simp only[sC]at p;simp only[rP];obtain⟨k',h5,h6⟩:=h2 i p zd;exact⟨h.fX hF 8 _ _ _ _ h5 (λk hk'=>hk k (h6 k hk')) (h4 i zd q),Vw.iE (h4 i zd q)⟩
 |tup l=>cases ht
 |undef=>cases ht
 |junk=>cases ht
theorem w8{lv:Key->LB}:∀{xs ys:List AV}{ks:List Key},l8 lv xs=some (ys,ks)->ys.length=xs.length /\
 ∀i (h:i<ys.length) (h':i<xs.length),∃k,fO lv xs[i]=some (ys[i],k)/\∀x∈k,x∈ks
 |[],ys,ks,h=>by simp only[l8,aj,rK]at h;grind
 |x::r,ys,ks,h=>by
  simp only[l8]at h;split at h
  ·rename_i d k l' ks' h1 h2
   simp only[aj,rK]at h;obtain⟨rfl,rfl⟩:=h;obtain⟨h3,h4⟩:=w8 h2;refine⟨by simp[h3],λi p q=>?_⟩
   cases i with
   |zero=>grind
   |succ i=>
    obtain⟨k',h5,h6⟩:=h4 i yn yn
    grind
  grind
def aY(sel nk:List Key)(kh:Key):Key->Key:=λk=>if k<1000 then sel.getD k kh else nk.getD (k-1000) kh
def tU(sel nk:List Key):Key->Option Key:=λk'=>
 match sel.idxOf? k' with
 |some j=>some j
 |none=>match nk.idxOf? k' with
  |some j=>some (1000+j)
  |none=>none
def W8(lv:Key->LB)(g:Key->Key)(a u:AV):Prop:=
 (u.cG=true/\a=u.dA g)\/∃ks,fO lv a=some (u,ks)/\∀k∈ks,∃own T cs,lv k=.cells own true T cs
def hJ(Z:List (Key×TypeId×List CV)):List (Key×LB):=Z.map λz=>(z.1,.cells true true z.2.1 z.2.2)
def cM(g:Key->Key)(own:Bool)(ks:List Key)(bs:List LB):List (Key×LB):=List.zipWith (λk b=>(k,(b.dA g).fix own)) ks bs
def jB(lv:Key->LB):Nat->CV->List Key
 |n+1,.ptr k _=>k::(match lv k with|.cells _ _ _ cs=>cs.flatMap (jB lv n)|_=>[])
 |n+1,.aO k _ _ _=>k::(match lv k with|.cells _ _ _ cs=>cs.flatMap (jB lv n)|_=>[])
 |_,_=>[]
def ql(lv:Key->LB):AV->List Key
 |.c x=>jB lv 8 x
 |.agg cs=>cs.flatMap (jB lv 8)
 |_=>[]
inductive dS(c:Ctx)(f:FuncId)(as:List AV)(lv:Key->LB):AV->List (Key×LB)->List Key->Prop where
 |flat (us:List AV) (ks rds:List Key) (x:AV) (ha:l8 lv as=some (us,ks)) (hc:aa c.P c.G f us x) (hx:x.flat=true) (hr:∀a∈as,∀k∈ql lv a,k∈rds):dS c f as lv x [] rds
 |gen (us:List AV) (Z:List (Key×TypeId×List CV)) (sel nk:List Key) (kh:Key) (σ σ' ν:List LB) (x:AV) (own:Bool) (rds:List Key)
  (hZ:∀z∈Z,lv z.1=.cells true false z.2.1 z.2.2) (hZn:(Z.map (·.1)).Nodup) (hn:(sel++nk).Nodup) (hZs:∀z∈Z,z.1∉sel++nk) (hkh:kh∉sel++nk) (hkZ:∀z∈Z,z.1≠kh)
  (hl1:sel.length=σ.length) (hl2:σ'.length=σ.length) (hl3:nk.length=ν.length) (hb:σ.length<=1000)
  (hsel:∀i (h:i<sel.length) (h':i<σ.length),(lv sel[i]).as σ[i] (aY sel nk kh)) (hnk:∀k∈nk,lv k=.hole) (hh:lv kh=.hole)
  (hpass:∀b∈σ,b.pass=true) (hnh:∀b,b∈σ++σ'++ν->b≠.hole) (hown:own=true->∀k∈sel,(lv k).HT=true)
  (hlen:us.length=as.length) (hargs:∀i (h:i<as.length) (h':i<us.length),W8 (b8 lv (hJ Z)) (aY sel nk kh) as[i] us[i])
  (hrd:∀a∈as,∀k∈ql (b8 lv (hJ Z)) a,k∈rds\/k∈Z.map (·.1)) (hrh:kh∈rds)
  (hc:aQ c.P c.G f us σ (.ret x σ' ν)) :
  dS c f as lv (x.dA (aY sel nk kh)) (hJ Z++cM (aY sel nk kh) own sel σ'++cM (aY sel nk kh) own nk ν) rds
theorem pQ{f:CV->Option (DV×List Key)}{p:Key->Prop}(hf:∀x d ks,f x=some (d,ks)->∀k∈ks,p k):∀{cs:List CV}{l:List DV}{ks:List Key},ji f cs=some (l,ks)->∀k∈ks,p k
 |[],l,ks,h=>by simp only[ji,aj,rK]at h;grind
 |x::r,l,ks,h=>by
  simp only[ji]at h;split at h
  ·rename_i d k l' ks' h1 h2
   simp only[aj,rK]at h;obtain⟨rfl,rfl⟩:=h;intro y hy;rcases List.mem_append.1 hy with h|h
   ·grind
   ·exact pQ hf h2 y h
  grind
theorem su{lv:Key->LB}:∀(n:Nat) (x:CV) (d:DV) (ks:List Key),fX lv n x=some (d,ks)->∀k∈ks,∃own fz T cs,lv k=.cells own fz T cs
 |n,.d x,d,ks,h=>by simp only[fX,aj,rK]at h;grind
 |n+1,.ptr k off,d,ks,h=>by
  simp only[fX]at h;split at h
  ·rename_i own fz T cs e
   split at h
   ·rw[adY]at h;obtain⟨⟨l,ks'⟩,ht,he⟩:=h;simp only[rK]at he;obtain⟨rfl,rfl⟩:=he;intro y hy;rcases List.mem_cons.1 hy with rfl|hy
    ·grind
    ·exact pQ (su n) ht y hy
   grind
  grind
 |n+1,.aO k off len sz,d,ks,h=>by
  simp only[fX]at h;split at h
  ·rename_i own fz T cs e
   split at h
   ·rw[adY]at h;obtain⟨⟨l,ks'⟩,ht,he⟩:=h;simp only[rK]at he;obtain⟨rfl,rfl⟩:=he;intro y hy;rcases List.mem_cons.1 hy with rfl|hy
    ·grind
    ·exact pQ (su n) ht y hy
   grind
  ·grind
  grind
 |0,.ptr ..,_,_,h=>by cases h
 |0,.aO ..,_,_,h=>by cases h
 |n,.mapr _,_,_,h=>by cases n<;>cases h
 |n,.lsf ..,_,_,h=>by cases n<;>cases h
 |n,.func ..,_,_,h=>by cases n<;>cases h
 |n,.ifc ..,_,_,h=>by cases n<;>cases h
 |n,.junk,_,_,h=>by cases n<;>cases h
theorem xD{x y:AV}(h:fO lv x=some (y,ks)):∀k∈ks,∃own fz T cs,lv k=.cells own fz T cs:=by
 cases x with
 |c x=>
  simp only[fO,adY]at h;obtain⟨⟨d,ks'⟩,ht,he⟩:=h;simp only[rK]at he;obtain⟨rfl,rfl⟩:=he;exact su _ _ _ _ ht
 |agg cs=>
  simp only[fO,adY]at h;obtain⟨⟨l,ks'⟩,ht,he⟩:=h;simp only[rK]at he;obtain⟨rfl,rfl⟩:=he;exact pQ (su _) ht
 |tup l=>cases h
 |undef=>cases h
 |junk=>cases h
theorem tL{lv:Key->LB}:∀{xs ys:List AV}{ks:List Key},l8 lv xs=some (ys,ks)->∀k∈ks,∃own fz T cs,lv k=.cells own fz T cs
 |[],ys,ks,h=>by simp only[l8,aj,rK]at h;grind
 |x::r,ys,ks,h=>by
  simp only[l8]at h;split at h
  ·rename_i d k l' ks' h1 h2
   simp only[aj,rK]at h;obtain⟨rfl,rfl⟩:=h;intro y hy;rcases List.mem_append.1 hy with h|h
   ·exact xD h1 y h
   ·exact tL h2 y h
  grind
section
variable {c:Ctx}{F:Nat->Prop}{β:Key->Nat}{s:aJ}{a:Act}{w:World}
theorem aR.vI(h:aR c F β s a w)(hk:s.lv k=.cells own fz T cs):β k<w.heap.size:=by
 have hb:=h.dj k;unfold Vw.dj at hb;grind
theorem Cg{fs' args' cs':Array Value}{as cs:List AV}(h1:fs'.size=fs.length)(h2:args'.size=as.length)(h3:cs'.size=cs.length)
 (g1:∀i (h:i<fs.length) (h':i<fs'.size),V.av fs'[i] fs[i]) (g2:∀i (h:i<as.length) (h':i<args'.size),V.av args'[i] as[i]) (g3:∀i (h:i<cs.length) (h':i<cs'.size),V.av cs'[i] cs[i]) :
 (fs'++args'++cs').size=(fs++as++cs).length/\∀i (h:i<(fs++as++cs).length) (h':i<(fs'++args'++cs').size),V.av (fs'++args'++cs')[i] (fs++as++cs)[i]:=by
 grind
theorem GZ{cs:List AV}(h:aR c F β s a w)(ho:o.op=.call cl)(ht:xm c.P (s.val c.G) cl.callee=some (f,fs,cs))(hf:aE c.P f=true):
 ∃vs:Array Value,(execOp a.eval o).run c.P w=.ok (.enter f vs) w/\vs.size=(fs++cl.args.toList.map (s.val c.G)++cs).length /\
  ∀i (h:i<(fs++cl.args.toList.map (s.val c.G)++cs).length) (h':i<vs.size),(Vw.mk F β s.lv w).av vs[i] (fs++cl.args.toList.map (s.val c.G)++cs)[i]:=by
 cases hcal:cl.callee with
 |builtin b=>rw[hcal]at ht;cases ht
 |value fo=>
  rw[hcal]at ht;obtain⟨fs',cs',h1,h2,h3,h4,h5⟩:=ES (h.val fo) ht;have hv:=Cg (V:=Vw.mk F β s.lv w) (args':=cl.args.map a.eval) (as:=cl.args.toList.map (s.val c.G)) h2 zp h3 h4 (λi p q=>by simp only[agq,rP,afu];exact h.val _) h5;refine⟨_,?_,hv⟩;simp only[execOp,ho,resolve,hcal,h1,Deferred.ofValue,cy,ad6,nZ,invoke];rw[o4 hf]
 |invoke x n=>
  rw[hcal]at ht;obtain⟨t,v,y,h1,h2,rfl,rfl,h3⟩:=H8 (h.val x) ht
  have hv:=Cg (V:=Vw.mk F β s.lv w) (fs':=#[v]) (cs':=#[]) (fs:=[y]) (cs:=[]) (args':=cl.args.map a.eval) (as:=cl.args.toList.map (s.val c.G)) rfl zp rfl
   (fun i p q=>by have p':i<1:=p
                  have:i=0:=zd
                  subst this;exact h3) (λi p q=>by simp only[agq,rP,afu];exact h.val _) (λi p q=>by cases p)
  refine⟨_,?_,hv⟩;have h0:(#[Value.iface t v]++cl.args.map a.eval)[0]?=some (Value.iface t v):=by rw[agu (by show 0<1;decide)];rfl
  have h4:(#[Value.iface t v]++cl.args.map a.eval).extract 1 (#[Value.iface t v]++cl.args.map a.eval).size=cl.args.map a.eval:=by
   apply Array.ext';simp;exact aeE zp
  simp only[execOp,ho,resolve,hcal,h1,cy,ad6,nZ,invoke,h0,h4,callMethod,run_program];rw[show c.P.types.size+Made.depth=(c.P.types.size+(Made.depth-1))+1 from rfl,HA h2];simp only[nZ];rw[o4 hf];simp
theorem JQ{cs:List AV}(h:aR c F β s a w)(ho:o.op=.call cl)
 (ht:xm c.P (s.val c.G) cl.callee=some (f,fs,cs)) (hf:aE c.P f=true) {K:Act->World->Prop}{Q:Exit->Act->World->Prop}
 (hK:∀vs:Array Value,vs.size=(fs++cl.args.toList.map (s.val c.G)++cs).length->(∀i (h:i<(fs++cl.args.toList.map (s.val c.G)++cs).length) (h':i<vs.size),(Vw.mk F β s.lv w).av vs[i] (fs++cl.args.toList.map (s.val c.G)++cs)[i]) ->
  Calls c.P f vs w λe w'=>∃v,e=.returned v/\K (a.put o.dst v) w'):o.wp c.P a w K Q:=by
 obtain⟨vs,hr,h1,h2⟩:=GZ h ho ht hf;have hc:=hK _ h1 h2;unfold Oper.wp;rw[hr,Oper.upon_enter];refine hc.mono λe w' he=>?_;obtain⟨v,rfl,hk⟩:=he;exact hk
theorem uY(k:Key):cY [] [] k=.hole:=by simp[cY]
theorem dS.Qf{cs us:List AV}{x:AV}(hd:∀d,o.dst=some d->d<c.n)(ho:o.op=.call cl)
 (ht:xm c.P (s.val c.G) cl.callee=some (f,fs,cs)) (hf:aE c.P f=true) (ha:l8 s.lv (fs++cl.args.toList.map (s.val c.G)++cs)=some (us,ks)) (hc:aa c.P c.G f us x) (hx:x.flat=true) :
 di c o s (s.put o.dst x):=by
 intro F β a w K Q h hK;refine JQ h ho ht hf λvs hl hv=>?_;obtain⟨h1,h2⟩:=w8 ha
 let Fz:Nat->Prop:=λb=>F b\/∃k∈ks,b=β k
 have hFz:∀b,F b->Fz b:=λb hb=>.inl hb
 have hFlt:∀b,Fz b->b<w.heap.size:=by
  rintro b (hb|⟨k,hk,rfl⟩)
  ·exact(h.tC b hb).1
  ·obtain⟨own,fz,T,cs',e⟩:=tL ha k hk;exact h.vI e
 have hS:fF (fY c.P c.G w Fz (λ_=>0) (cY [] [])) Fz (λ_=>0) (cY [] []) w:=by
  refine⟨λk=>?_,λk k' hk=>?_,λ_=>trivial,rfl,rfl,λb hb=>⟨hFlt b hb,.inl hb⟩,λ_ hb=>hb,λ_ _ _=>rfl,bf _,λg cs hg=>Rd.mono (lz hFz (λ_ _=>rfl)) (h.uX g cs hg),λk _=>.inr ⟨rfl,LB.cF _⟩,λ_=>bf _,⟨rfl,rfl⟩⟩
  ·unfold Vw.dj;simp only[uY]
  ·simp only[uY]at hk;cases hk
 refine(hc Fz (λ_=>0) w vs hS zd (λi p q=>?_)).mono λe w' he=>?_
 ·obtain⟨k,h3,h4⟩:=h2 i p zd;exact h.ux.fO hFz h3 (λk' hk'=>.inr ⟨k',h4 k' hk',rfl⟩) (hv i zd q)
 ·obtain⟨v,F',β',rfl,hS',hav⟩:=he;refine⟨v,rfl,hK F β _ _ (aR.IE ?_ hd (Vw.S4 hav hx))⟩
  have hold:∀b,b<w.heap.size->w'.heap[b]?=w.heap[b]?:=by
   intro b hb;refine hS'.old b hb ?_;rintro⟨k,hk,_⟩;simp only[uY]at hk;cases hk
  exact h.step (hoo:=hS'.Hs) (λ_ hb=>hb) (λb hb=>hold b (h.tC b hb).1) (λk=>LB.cF _) (λ_ _ _=>rfl) hS'.Ls
   (λk hK=>by
    have hb:=h.dj k
    cases ek:s.lv k with
    |cells own fz T cs=>exact Vw.dR hb hK rfl rfl (hold _ (h.vI ek)) (λ_ h=>h)
    |map own es=>
     refine Vw.dR hb hK rfl rfl (hold _ (h.mF (by rw[ek];rfl))) (λ_ h=>h)
    |hole=>unfold Vw.dj;simp only[ek]
    |dead=>unfold Vw.dj;simp only[ek]
    |nils=>unfold Vw.dj;simp only[ek])
   h.inj (λb hb=>.inl hb) hS'.ge (λb hb _=>hold b (adA hb h.ge))
end
theorem rQ(lv:Key->LB)(p:Key×LB)(us:List (Key×LB)):b8 lv (p::us)=b8 (aM lv p.1 p.2) us:=rfl
theorem Gd(lv:Key->LB)(us vs:List (Key×LB)):b8 lv (us++vs)=b8 (b8 lv us) vs:=by
 simp[b8,List.foldl_append]
theorem eZ:∀{lv:Key->LB}{k:Key},k∉us.map (·.1)->b8 lv us k=lv k:=by
 induction us with
 |nil=>intro lv k _;rfl
 |cons p us ih=>
  intro lv k h;simp only[adi,aZ,not_or]at h;rw[rQ,ih h.2,bt _ _ h.1]
theorem mO:∀{lv:Key->LB}{k:Key}{b:LB},(us.map (·.1)).Nodup->(k,b)∈us->b8 lv us k=b:=by
 induction us with
 |nil=>simp
 |cons p us ih=>
  intro lv k b hn h;simp only[adi,List.nodup_cons]at hn;rw[rQ];rcases List.mem_cons.1 h with rfl|h
  ·rw[eZ hn.1,aI]
  grind
section
variable {c:Ctx}{F:Nat->Prop}{β:Key->Nat}{s:aJ}{a:Act}{w:World}
theorem aR.Kb:∀{Z:List (Key×TypeId×List CV)}{F:Nat->Prop}{lv:Key->LB},aR c F β ⟨fr,lv⟩ a w->(Z.map (·.1)).Nodup->(∀z∈Z,lv z.1=.cells true false z.2.1 z.2.2) ->
 ∃F',aR c F' β ⟨fr,b8 lv (hJ Z)⟩ a w/\∀b,F b->F' b
 |[],F,lv,h,_,_=>⟨F,h,λ_ hb=>hb⟩
 |z::Z,F,lv,h,hn,hz=>by
  simp only[adi,List.nodup_cons]at hn;have h1:=h.freeze (k:=z.1) (hz z zp)
  obtain⟨F',h2,h3⟩:=aR.Kb (Z:=Z) h1 hn.2 (λy hy=>by
   have hne:y.1≠z.1:=λe=>hn.1 (e▸List.mem_map_of_mem hy)
   rw[bt _ _ hne];grind)
  exact⟨F',h2,λb hb=>h3 b (.inl hb)⟩
theorem idxOf_getElem{l:List Key}(hn:l.Nodup){i:Nat}(hi:i<l.length):l.idxOf? l[i]=some i:=by
 rw[af9];refine⟨hi,zp,λj hj=>?_⟩
 have:l[j]' zd≠l[i]:=λe=>by
  have:=List.pairwise_iff_getElem.1 hn j i zd hi hj
  grind
 omega
theorem Ja{l:List Key}(h:k∉l):l.idxOf? k=none:=by
 grind
theorem n5(h:k<1000):cY σ ν k=σ.getD k .hole:=by simp[cY,h]
theorem uU(h:¬k<1000):cY σ ν k=ν.getD (k-1000) .hole:=by simp[cY,h]
theorem iy{l:List α}{i:Nat}{d:α}(h:i<l.length):l.getD i d=l[i]:=by
 grind
theorem nN{l:List α}{i:Nat}{d:α}(h:¬i<l.length):l.getD i d=d:=by
 grind
theorem SO(hn:(sel++nk).Nodup)
 (hl1:sel.length=σ.length) (hl2:σ'.length=σ.length) (hl3:nk.length=ν.length) (hb:σ.length<=1000)
 (hsel:∀i (h:i<sel.length) (h':i<σ.length),(lv sel[i]).as σ[i] (aY sel nk kh)) (hnk:∀k∈nk,lv k=.hole) (hh:lv kh=.hole)
 (hpass:∀b∈σ,b.pass=true) (hnh:∀b,b∈σ++σ'++ν->b≠.hole) (hown:own=true->∀k∈sel,(lv k).HT=true) :
 xZ ⟨fr,lv⟩ (aY sel nk kh) (tU sel nk) (cY σ []) (cY σ' ν) own:=by
 have hns:sel.Nodup:=(List.nodup_append.1 hn).1;have hnn:nk.Nodup:=(List.nodup_append.1 hn).2.1;have hdis:∀x∈sel,∀y∈nk,x≠y:=(List.nodup_append.1 hn).2.2
 have hL:∀k:Nat,cY σ [] k≠.hole->k<1000/\k<σ.length:=by
  intro k hk
  by_cases h1:k<1000
  ·rw[n5 h1]at hk
   grind
  ·rw[uU h1]at hk;grind
 refine⟨?_,?_,?_,?_,?_,?_⟩
 ·intro k;change Nat at k
  by_cases hk:cY σ [] k=.hole
  ·rw[hk];rfl
  ·obtain⟨h1,h2⟩:=hL k hk;rw[n5 h1,iy h2]
   grind
 ·intro k;change Nat at k
  by_cases h1:k<1000
  ·by_cases h2:k<σ.length
   ·have h3:aY sel nk kh k=sel[k]' zd:=by simp only[aY,if_pos h1];exact iy zd
    rw[n5 h1,iy h2]
    grind
   ·have h3:aY sel nk kh k=kh:=by simp only[aY,if_pos h1];exact nN zd
    rw[n5 h1,nN h2];show lv (aY sel nk kh k)=.hole
    grind
  ·rw[uU h1];show(lv (aY sel nk kh k)).as (List.getD [] (k-1000) .hole) _;have h4:List.getD ([]:List LB) (k-1000) .hole=.hole:=by simp
   rw[h4];show lv (aY sel nk kh k)=.hole
   by_cases h2:k-1000<nk.length
   ·have h3:aY sel nk kh k=nk[k-1000]:=by simp only[aY,if_neg h1];exact iy h2
    grind
   ·have h3:aY sel nk kh k=kh:=by simp only[aY,if_neg h1];exact nN h2
    grind
 ·intro k' k h;change Nat at k;unfold tU at h;split at h
  ·rename_i j hj
   simp only[aj]at h;subst h;rw[af9]at hj;obtain⟨hlt,he,_⟩:=hj;have h1:j<1000:=zd
   refine⟨?_,?_⟩
   ·simp only[aY,if_pos h1];grind
   ·rw[n5 h1,iy zd]
    grind
  ·split at h
   ·rename_i j hj
    simp only[aj]at h;subst h;rw[af9]at hj;obtain⟨hlt,he,_⟩:=hj;have h1:¬1000+j<1000:=zd
    refine⟨?_,?_⟩
    ·simp only[aY,if_neg h1,afC];grind
    ·rw[uU h1,afC,iy zd]
     grind
   grind
 ·intro k hk;change Nat at k
  by_cases h1:k<1000
  ·rw[n5 h1]at hk
   have h2:k<σ'.length:=by
    rcases Nat.lt_or_ge k σ'.length with h|h
    ·exact h
    ·rw[nN zd]at hk;exact absurd rfl hk
   have h3:aY sel nk kh k=sel[k]' zd:=by simp only[aY,if_pos h1];exact iy zd
   rw[h3];unfold tU;rw[idxOf_getElem hns zd]
  ·obtain⟨m,rfl⟩:∃m:Nat,k=1000+m:=⟨k-1000,zd⟩
   rw[uU h1,afC]at hk
   have h2:m<ν.length:=by
    rcases Nat.lt_or_ge m ν.length with h|h
    ·exact h
    ·rw[nN zd]at hk;exact absurd rfl hk
   have h4:m<nk.length:=zd
   have h3:aY sel nk kh (1000+m)=nk[m]'h4:=by
    unfold aY;rw[if_neg h1,afC];exact iy h4
   rw[h3];unfold tU;rw[Ja (λhm=>hdis _ hm _ (cn h4) rfl),idxOf_getElem hnn h4]
 ·intro k hk;change Nat at k;obtain⟨h1,h2⟩:=hL k hk;rw[n5 h1,iy zd]
  grind
 ·intro ho k hk;change Nat at k;obtain⟨h1,h2⟩:=hL k (jW hk);have h3:aY sel nk kh k=sel[k]' zd:=by simp only[aY,if_pos h1];exact iy zd
  grind
theorem mU(g:Key->Key)(own:Bool):∀(ks:List Key) (bs:List LB),ks.length=bs.length->(cM g own ks bs).map (·.1)=ks
 |[],[],_=>rfl
 |k::ks,b::bs,h=>by
  have:=mU g own ks bs yn;simp only[cM,agv,adi]at this⊢;rw[this]
 |[],_::_,h=>by simp at h
 |_::_,[],h=>by simp at h
theorem Co(g:Key->Key)(own:Bool){bs:List LB}{i:Nat}(h:i<ks.length)(h':i<bs.length):(ks[i],(bs[i].dA g).fix own)∈cM g own ks bs:=by
 unfold cM;rw[List.mem_iff_getElem]
 grind
theorem HK(hn:(sel++nk).Nodup)
 (hl2:sel.length=σ'.length) (hl3:nk.length=ν.length) (hb:σ'.length<=1000) :
 iG ⟨fr,lv⟩ (aY sel nk kh) (tU sel nk) (cY σ' ν) own=b8 lv (cM (aY sel nk kh) own sel σ'++cM (aY sel nk kh) own nk ν):=by
 funext k'
 have hkeys:(cM (aY sel nk kh) own sel σ'++cM (aY sel nk kh) own nk ν).map (·.1)=sel++nk:=by
  rw[aeD,mU _ _ _ _ hl2,mU _ _ _ _ hl3]
 unfold iG tU
 cases h1:sel.idxOf? k' with
 |some j=>
  rw[af9]at h1;obtain⟨hlt,he,_⟩:=h1;have he:sel[j]=k':=by simpa using he
  subst he;simp only;rw[mO yn (agw _ (Co _ own hlt zd))];have hlt':j<σ'.length:=zd
  have hlt2:(show Nat from j)<1000:=by show j<1000;omega
  rw[n5 hlt2,iy hlt']
 |none=>
  have h1':k'∉sel:=by rwa[List.idxOf?_eq_none_iff]at h1
  simp only
  cases h2:nk.idxOf? k' with
  |some j=>
   rw[af9]at h2;obtain⟨hlt,he,_⟩:=h2;have he:nk[j]=k':=by simpa using he
   subst he;simp only;rw[mO yn (List.mem_append_right _ (Co _ own hlt zd))];have hlt':j<ν.length:=zd
   have hlt2:¬(show Nat from 1000+j)<1000:=by show ¬1000+j<1000;omega
   rw[uU hlt2,afC,iy hlt']
  |none=>
   have h2':k'∉nk:=by rwa[List.idxOf?_eq_none_iff]at h2
   simp only;rw[eZ (by rw[hkeys];simp[h1',h2'])]
theorem oK(Z:List (Key×TypeId×List CV)):(hJ Z).map (·.1)=Z.map (·.1):=by simp[hJ]
theorem dS.sim{cs:List AV}{x:AV}(hd:∀d,o.dst=some d->d<c.n)(ho:o.op=.call cl)(ht:xm c.P (s.val c.G) cl.callee=some (f,fs,cs))(hf:aE c.P f=true)(he:dS c f (fs++cl.args.toList.map (s.val c.G)++cs) s.lv x us rds):
 di c o s (aJ.put ⟨s.fr,b8 s.lv us⟩ o.dst x):=by
 cases he with
 |flat us' ks rds x ha hc hx hr=>exact dS.Qf hd ho ht hf ha hc hx
 |gen us Z sel nk kh σ σ' ν x own rds hZ hZn hn hZs hkh hkZ hl1 hl2 hl3 hb hsel hnk hh hpass hnh hown hlen hargs hrd hrh hc=>
  intro F β a w K Q h hK;refine JQ h ho ht hf λvs hl hv=>?_;obtain⟨F1,h1,hF1⟩:=aR.Kb (Z:=Z) (lv:=s.lv) h hZn hZ
  have hsame:∀k,(∀z∈Z,z.1≠k)->b8 s.lv (hJ Z) k=s.lv k:=λk hk=>eZ (by
   rw[oK];intro hm;obtain⟨z,hz,e⟩:=List.mem_map.1 hm;exact hk z hz e)
  have hB:xZ ⟨s.fr,b8 s.lv (hJ Z)⟩ (aY sel nk kh) (tU sel nk) (cY σ []) (cY σ' ν) own:=by
   refine SO hn hl1 hl2 hl3 hb (λi p q=>?_) (λk hk=>?_) ?_ hpass hnh (λho k hk=>?_)
   ·rw[hsame _ (λz hz e=>hZs z hz (by rw[e];simp[cn]))];exact hsel i p q
   ·rw[hsame _ (λz hz e=>hZs z hz (by rw[e];simp[hk]))];exact hnk k hk
   ·rw[hsame _ hkZ];exact hh
   ·rw[hsame _ (λz hz e=>hZs z hz (by rw[e];simp[hk]))];exact hown ho k hk
  have hR:=hB.dA (F:=F1) (β:=β) (w:=w)
  have hK1:∀v x,(Vw.mk F β s.lv w).av v x->(Vw.mk F1 β (b8 s.lv (hJ Z)) w).av v x:=by
   intro v x hv;refine(Vw.j0 (V:=Vw.mk F β s.lv w) (V':=Vw.mk F1 β (b8 s.lv (hJ Z)) w) hF1 (λ_ _=>rfl) (λk=>?_) (λ_ _ _=>rfl) (λ_=>bf _)).av hv;show(s.lv k).sub (b8 s.lv (hJ Z) k)
   by_cases hk:k∈Z.map (·.1)
   ·obtain⟨z,hz,rfl⟩:=List.mem_map.1 hk;rw[hZ z hz,mO (b:=.cells true true z.2.1 z.2.2) (by rw[oK];exact hZn) (by simp only[hJ,aeA];exact⟨z,hz,rfl⟩)];simp[LB.sub]
   ·rw[eZ (by rw[oK];exact hk)];exact LB.cF _
  refine(hc F1 (λk=>β (aY sel nk kh k)) w vs (h1.enter hB) zd (λi p q=>?_)).mono λe w' he=>?_
  ·have EM:=hK1 _ _ (hv i zd q);rcases hargs i zd p with⟨g1,g2⟩|⟨ks,g1,g2⟩
   ·rw[g2]at EM;exact hR.av g1 EM
   ·exact h1.ux.fO (λ_ hb=>hb) g1 (λk hk=>by
     obtain⟨own',T,cs',e⟩:=g2 k hk;have hb:=h1.dj k;unfold Vw.dj at hb;simp only[e]at hb;obtain⟨arr,p1,p2,p3,p4,p5⟩:=hb;exact p4) EM
  ·obtain⟨v,F',β',rfl,hS',hav⟩:=he;have hbk:=h1.back hB hS';have hup:=(hB.up (β:=β) F' β' w').av hav;rw[HK hn zd hl3 zd]at hbk hup;rw[<-Gd,<-acR]at hbk hup;exact⟨v,rfl,hK _ _ _ _ (hbk.IE hd hup)⟩
end
theorem nO{f g:CV->Option (DV×List Key)}:∀{cs:List CV},(∀x∈cs,f x=g x)->ji f cs=ji g cs
 |[],_=>rfl
 |x::r,h=>by simp only[ji,h x zp,nO (cs:=r) (λy hy=>h y (by simp[hy]))]
theorem kF{α β:Type}{f g:α->List β}:∀{l:List α},(∀x∈l,f x=g x)->l.flatMap f=l.flatMap g
 |[],_=>rfl
 |x::r,h=>by simp only[afV,h x zp,kF (l:=r) (λy hy=>h y (by simp[hy]))]
theorem pR{lv lv':Key->LB}:∀(n:Nat) (x:CV),(∀k∈jB lv n x,lv' k=lv k)->fX lv' n x=fX lv n x/\jB lv' n x=jB lv n x
 |n+1,.ptr k off,h=>by
  have h1:lv' k=lv k:=h k (by simp[jB]);simp only[fX,jB,h1]
  cases e:lv k with
  |cells own fz T cs=>
   have ih:∀x∈cs,fX lv' n x=fX lv n x/\jB lv' n x=jB lv n x:=λx hx=>pR n x λk' hk'=>h k' (by
    simp only[jB,e,aZ,aeO];grind)
   simp only;refine⟨?_,?_⟩
   ·rw[nO (λx hx=>(ih x (afj hx)).1)]
   ·congr 1;exact kF λx hx=>(ih x hx).2
  |_=>simp
 |n+1,.aO k off len sz,h=>by
  have h1:lv' k=lv k:=h k (by simp[jB]);simp only[fX,jB,h1]
  cases e:lv k with
  |cells own fz T cs=>
   have ih:∀x∈cs,fX lv' n x=fX lv n x/\jB lv' n x=jB lv n x:=λx hx=>pR n x λk' hk'=>h k' (by
    simp only[jB,e,aZ,aeO];grind)
   simp only;refine⟨?_,?_⟩
   ·rw[nO (λx hx=>(ih x (afj (afw hx))).1)]
   ·congr 1;exact kF λx hx=>(ih x hx).2
  |_=>simp
 |n,.d x,_=>by cases n<;>exact⟨rfl,rfl⟩
 |0,.ptr ..,_=>⟨rfl,rfl⟩
 |0,.aO ..,_=>⟨rfl,rfl⟩
 |n,.mapr _,_=>by cases n<;>exact⟨rfl,rfl⟩
 |n,.lsf ..,_=>by cases n<;>exact⟨rfl,rfl⟩
 |n,.func ..,_=>by cases n<;>exact⟨rfl,rfl⟩
 |n,.ifc ..,_=>by cases n<;>exact⟨rfl,rfl⟩
 |n,.junk,_=>by cases n<;>exact⟨rfl,rfl⟩
theorem sL{f:CV->Option (DV×List Key)}{g:CV->List Key}:∀{cs:List CV}{l:List DV}{ks:List Key},(∀x∈cs,∀d ks,f x=some (d,ks)->∀k∈ks,k∈g x)->ji f cs=some (l,ks)->∀k∈ks,k∈cs.flatMap g
 |[],l,ks,_,h=>by simp only[ji,aj,rK]at h;grind
 |x::r,l,ks,hf,h=>by
  simp only[ji]at h;split at h
  ·rename_i d k l' ks' h1 h2
   simp only[aj,rK]at h;obtain⟨rfl,rfl⟩:=h;intro y hy;simp only[afV,afW];rcases List.mem_append.1 hy with h|h
   ·grind
   ·exact .inr (sL (λx hx=>hf x rc) h2 y h)
  grind
theorem vP{lv:Key->LB}:∀(n:Nat) (x:CV) (d:DV) (ks:List Key),fX lv n x=some (d,ks)->∀k∈ks,k∈jB lv n x
 |n,.d x,d,ks,h=>by simp only[fX,aj,rK]at h;grind
 |n+1,.ptr k off,d,ks,h=>by
  simp only[fX]at h;simp only[jB];split at h
  ·rename_i own fz T cs e
   split at h
   ·rw[adY]at h;obtain⟨⟨l,ks'⟩,ht,he⟩:=h;simp only[rK]at he;obtain⟨rfl,rfl⟩:=he;intro y hy;rcases List.mem_cons.1 hy with rfl|hy
    ·simp
    ·have:=sL (g:=jB lv n) (λx _ d ks hx=>vP n x d ks hx) ht y hy
     grind
   grind
  grind
 |n+1,.aO k off len sz,d,ks,h=>by
  simp only[fX]at h;simp only[jB];split at h
  ·rename_i own fz T cs e
   split at h
   ·rw[adY]at h;obtain⟨⟨l,ks'⟩,ht,he⟩:=h;simp only[rK]at he;obtain⟨rfl,rfl⟩:=he;intro y hy;rcases List.mem_cons.1 hy with rfl|hy
    ·simp
    ·have:=sL (g:=jB lv n) (λx _ d ks hx=>vP n x d ks hx) ht y hy
     grind
   grind
  ·grind
  grind
 |0,.ptr ..,_,_,h=>by cases h
 |0,.aO ..,_,_,h=>by cases h
 |n,.mapr _,_,_,h=>by cases n<;>cases h
 |n,.lsf ..,_,_,h=>by cases n<;>cases h
 |n,.func ..,_,_,h=>by cases n<;>cases h
 |n,.ifc ..,_,_,h=>by cases n<;>cases h
 |n,.junk,_,_,h=>by cases n<;>cases h
theorem pn{x:AV}(h:∀k∈ql lv x,lv' k=lv k):fO lv' x=fO lv x/\ql lv' x=ql lv x:=by
 cases x with
 |c x=>obtain⟨h1,h2⟩:=pR 8 x h;exact⟨by simp only[fO,h1],h2⟩
 |agg cs=>
  have ih:∀x∈cs,fX lv' 8 x=fX lv 8 x/\jB lv' 8 x=jB lv 8 x:=λx hx=>pR 8 x λk hk=>h k (List.mem_flatMap.2 ⟨x,hx,hk⟩)
  exact⟨by simp only[fO,nO (λx hx=>(ih x hx).1)],kF λx hx=>(ih x hx).2⟩
 |tup l=>exact⟨rfl,rfl⟩
 |undef=>exact⟨rfl,rfl⟩
 |junk=>exact⟨rfl,rfl⟩
theorem Pb{x y:AV}(h:fO lv x=some (y,ks)):∀k∈ks,k∈ql lv x:=by
 cases x with
 |c x=>
  simp only[fO,adY]at h;obtain⟨⟨d,ks'⟩,ht,he⟩:=h;simp only[rK]at he;obtain⟨rfl,rfl⟩:=he;exact vP _ _ _ _ ht
 |agg cs=>
  simp only[fO,adY]at h;obtain⟨⟨d,ks'⟩,ht,he⟩:=h;simp only[rK]at he;obtain⟨rfl,rfl⟩:=he;exact sL (λx _ d ks hx=>vP 8 x d ks hx) ht
 |tup l=>cases h
 |undef=>cases h
 |junk=>cases h
theorem xJ{lv lv':Key->LB}:∀{xs:List AV},(∀a∈xs,∀k∈ql lv a,lv' k=lv k)->l8 lv' xs=l8 lv xs
 |[],_=>rfl
 |x::r,h=>by simp only[l8,(pn (h x zp)).1,xJ (xs:=r) (λa ha=>h a (by simp[ha]))]
theorem dS.local{xs:List AV}{x:AV}(h:dS c f xs lv x us rds)(ha:Agree lv lv' us rds):dS c f xs lv' x us rds:=by
 obtain⟨ha1,ha2⟩:=ha
 cases h with
 |flat us' ks rds x hd hc hx hr=>
  have hl:∀a∈xs,∀k∈ql lv a,lv' k=lv k:=λa h k hk=>ha1 k (hr a h k hk)
  exact .flat us' ks rds x (by rw[xJ hl];exact hd) hc hx (λa h k hk=>hr a h k (by rw[(pn (hl a h)).2]at hk;exact hk))
 |gen us Z sel nk kh σ σ' ν x own rds hZ hZn hn hZs hkh hkZ hl1 hl2 hl3 hb hsel hnk hh hpass hnh hown hlen hargs hrd hrh hc=>
  have hkeysZ:∀z∈Z,lv' z.1=lv z.1:=λz hz=>ha2 (z.1,.cells true true z.2.1 z.2.2) (by
   refine agw _ (agw _ ?_);simp only[hJ,aeA];grind)
  have hks:∀i (h:i<sel.length),lv' sel[i]=lv sel[i]:=λi h=>by
   have hm:sel[i]∈(cM (aY sel nk kh) own sel σ').map (·.1):=by rw[mU _ _ _ _ zd];exact cn h
   obtain⟨p,hp,e⟩:=List.mem_map.1 hm
   grind
  have hkn:∀k∈nk,lv' k=lv k:=λk hk=>by
   have hm:k∈(cM (aY sel nk kh) own nk ν).map (·.1):=by rw[mU _ _ _ _ zd];exact hk
   obtain⟨p,hp,e⟩:=List.mem_map.1 hm
   grind
  have hfr:∀k,(k∈rds\/k∈Z.map (·.1))->b8 lv' (hJ Z) k=b8 lv (hJ Z) k:=by
   intro k hk
   by_cases hz:k∈(hJ Z).map (·.1)
   ·obtain⟨p,hp,e⟩:=List.mem_map.1 hz;have hn':((hJ Z).map (·.1)).Nodup:=by rw[oK];exact hZn
    obtain⟨k',b⟩:=p;simp only at e;subst e;rw[mO hn' hp,mO hn' hp]
   ·rw[eZ hz,eZ hz]
    grind
  have hla:∀a∈xs,∀k∈ql (b8 lv (hJ Z)) a,b8 lv' (hJ Z) k=b8 lv (hJ Z) k:=λa h k hk=>hfr k (hrd a h k hk)
  refine .gen us Z sel nk kh σ σ' ν x own rds (λz hz=>by grind) hZn hn hZs hkh hkZ hl1 hl2 hl3 hb (λi p q=>by grind)
   (λk hk=>by grind) yn hpass hnh (λho k hk=>?_) hlen (λi p q=>?_) (λa h k hk=>?_) hrh hc
  ·obtain⟨i,hi,rfl⟩:=List.mem_iff_getElem.1 hk
   grind
  ·rcases hargs i p q with⟨g1,g2⟩|⟨ks,g1,g2⟩
   ·exact .inl ⟨g1,g2⟩
   ·refine .inr ⟨ks,by rw[(pn (hla _ (cn p))).1];exact g1,λk hk=>?_⟩;rw[hla _ (cn p) k (Pb g1 k hk)]
    grind
  ·rw[(pn (hla a h)).2]at hk
   grind
end Go.Am
