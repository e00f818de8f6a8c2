/- Helpers: an abstract machine for Go functions, and walks of functions of the program. -/
import Derived.Test.YtfkfimmphlpllaaGreatDoorCn03
import Derived.Test.YtfkfimmphlpllaaGreatDoorProg

set_option linter.all false

namespace Go.Am.Ty
@[simp] theorem Zl:gb Go.Proofs.Tryz.prog 2=1:=by kernel_rfl
@[simp] theorem Wf:(Go.Proofs.Tryz.prog.info? 2).isSome=true:=by kernel_rfl
@[simp] theorem X0:cO Go.Proofs.Tryz.prog 2=some false:=by kernel_rfl
@[simp] theorem Xw:ck Go.Proofs.Tryz.prog 2=false:=by kernel_rfl
@[simp] theorem YP:nU Go.Proofs.Tryz.prog 2=some .i64:=by kernel_rfl
@[simp] theorem Rs:bh Go.Proofs.Tryz.prog 2=some [.d (.int .i64 0)]:=by kernel_rfl
@[simp] theorem Q5:bq Go.Proofs.Tryz.prog 2=some 8:=by kernel_rfl
@[simp] theorem Nb:Go.Proofs.Tryz.prog.concrete 2=true:=by kernel_rfl
@[simp] theorem P5:Go.Proofs.Tryz.prog.eqGuardType Go.Proofs.Tryz.prog.depth 2=false:=by kernel_rfl
@[simp] theorem ZB:gb Go.Proofs.Tryz.prog 3=1:=by kernel_rfl
@[simp] theorem Vn:(Go.Proofs.Tryz.prog.info? 3).isSome=true:=by kernel_rfl
@[simp] theorem YX:cO Go.Proofs.Tryz.prog 3=some false:=by kernel_rfl
@[simp] theorem Y4:ck Go.Proofs.Tryz.prog 3=false:=by kernel_rfl
@[simp] theorem Xf:nU Go.Proofs.Tryz.prog 3=some .i64:=by kernel_rfl
@[simp] theorem SA:bh Go.Proofs.Tryz.prog 3=some [.d (.int .i64 0)]:=by kernel_rfl
@[simp] theorem UL:bq Go.Proofs.Tryz.prog 3=some 8:=by kernel_rfl
@[simp] theorem NL:Go.Proofs.Tryz.prog.concrete 3=true:=by kernel_rfl
@[simp] theorem Pw:Go.Proofs.Tryz.prog.eqGuardType Go.Proofs.Tryz.prog.depth 3=false:=by kernel_rfl
@[simp] theorem Zd:gb Go.Proofs.Tryz.prog 4=1:=by kernel_rfl
@[simp] theorem WW:(Go.Proofs.Tryz.prog.info? 4).isSome=true:=by kernel_rfl
@[simp] theorem Yy:cO Go.Proofs.Tryz.prog 4=some false:=by kernel_rfl
@[simp] theorem Xk:ck Go.Proofs.Tryz.prog 4=false:=by kernel_rfl
@[simp] theorem RQ:bh Go.Proofs.Tryz.prog 4=some [.d (.bool false)]:=by kernel_rfl
@[simp] theorem TK:bq Go.Proofs.Tryz.prog 4=some 1:=by kernel_rfl
@[simp] theorem NS:Go.Proofs.Tryz.prog.concrete 4=true:=by kernel_rfl
@[simp] theorem Pp:Go.Proofs.Tryz.prog.eqGuardType Go.Proofs.Tryz.prog.depth 4=false:=by kernel_rfl
@[simp] theorem Ze:gb Go.Proofs.Tryz.prog 5=1:=by kernel_rfl
@[simp] theorem VI:(Go.Proofs.Tryz.prog.info? 5).isSome=true:=by kernel_rfl
@[simp] theorem Xs:cO Go.Proofs.Tryz.prog 5=some false:=by kernel_rfl
@[simp] theorem YR:ck Go.Proofs.Tryz.prog 5=false:=by kernel_rfl
@[simp] theorem Yg:nU Go.Proofs.Tryz.prog 5=some .u8:=by kernel_rfl
@[simp] theorem UQ:bh Go.Proofs.Tryz.prog 5=some [.d (.int .u8 0)]:=by kernel_rfl
@[simp] theorem SW:bq Go.Proofs.Tryz.prog 5=some 1:=by kernel_rfl
@[simp] theorem OM:Go.Proofs.Tryz.prog.concrete 5=true:=by kernel_rfl
@[simp] theorem P9:Go.Proofs.Tryz.prog.eqGuardType Go.Proofs.Tryz.prog.depth 5=false:=by kernel_rfl
@[simp] theorem Zr:gb Go.Proofs.Tryz.prog 9=1:=by kernel_rfl
@[simp] theorem W2:(Go.Proofs.Tryz.prog.info? 9).isSome=true:=by kernel_rfl
@[simp] theorem Xh:cO Go.Proofs.Tryz.prog 9=some false:=by kernel_rfl
@[simp] theorem YJ:ck Go.Proofs.Tryz.prog 9=true:=by kernel_rfl
@[simp] theorem TN:bh Go.Proofs.Tryz.prog 9=some [.d (.str [])]:=by kernel_rfl
@[simp] theorem RW:bq Go.Proofs.Tryz.prog 9=some 16:=by kernel_rfl
@[simp] theorem N5:Go.Proofs.Tryz.prog.concrete 9=true:=by kernel_rfl
@[simp] theorem PS:Go.Proofs.Tryz.prog.eqGuardType Go.Proofs.Tryz.prog.depth 9=false:=by kernel_rfl
@[simp] theorem Xl:gb Go.Proofs.Tryz.prog 22=1:=by kernel_rfl
@[simp] theorem TE:(Go.Proofs.Tryz.prog.info? 22).isSome=true:=by kernel_rfl
@[simp] theorem WT:cO Go.Proofs.Tryz.prog 22=some false:=by kernel_rfl
@[simp] theorem YM:eG Go.Proofs.Tryz.prog 22=some (81,2):=by kernel_rfl
@[simp] theorem VC:ck Go.Proofs.Tryz.prog 22=false:=by kernel_rfl
@[simp] theorem Pz:bh Go.Proofs.Tryz.prog 22=some [.d (.nilsl)]:=by kernel_rfl
@[simp] theorem Qb:bq Go.Proofs.Tryz.prog 22=some 24:=by kernel_rfl
@[simp] theorem Mc:Go.Proofs.Tryz.prog.concrete 22=true:=by kernel_rfl
@[simp] theorem OW:Go.Proofs.Tryz.prog.eqGuardType Go.Proofs.Tryz.prog.depth 22=false:=by kernel_rfl
@[simp] theorem YH:gb Go.Proofs.Tryz.prog 23=1:=by kernel_rfl
@[simp] theorem UB:(Go.Proofs.Tryz.prog.info? 23).isSome=true:=by kernel_rfl
@[simp] theorem Wx:cO Go.Proofs.Tryz.prog 23=some false:=by kernel_rfl
@[simp] theorem YV:eG Go.Proofs.Tryz.prog 23=some (67,3):=by kernel_rfl
@[simp] theorem U6:ck Go.Proofs.Tryz.prog 23=false:=by kernel_rfl
@[simp] theorem PZ:bh Go.Proofs.Tryz.prog 23=some [.d (.nilsl)]:=by kernel_rfl
@[simp] theorem QT:bq Go.Proofs.Tryz.prog 23=some 24:=by kernel_rfl
@[simp] theorem Mh:Go.Proofs.Tryz.prog.concrete 23=true:=by kernel_rfl
@[simp] theorem ND:Go.Proofs.Tryz.prog.eqGuardType Go.Proofs.Tryz.prog.depth 23=false:=by kernel_rfl
@[simp] theorem XP:gb Go.Proofs.Tryz.prog 24=1:=by kernel_rfl
@[simp] theorem Uy:(Go.Proofs.Tryz.prog.info? 24).isSome=true:=by kernel_rfl
@[simp] theorem VW:cO Go.Proofs.Tryz.prog 24=some false:=by kernel_rfl
@[simp] theorem X4:eG Go.Proofs.Tryz.prog 24=some (55,7):=by kernel_rfl
@[simp] theorem Ws:ck Go.Proofs.Tryz.prog 24=false:=by kernel_rfl
@[simp] theorem QW:bh Go.Proofs.Tryz.prog 24=some [.d (.nilsl)]:=by kernel_rfl
@[simp] theorem Pr:bq Go.Proofs.Tryz.prog 24=some 24:=by kernel_rfl
@[simp] theorem LZ:Go.Proofs.Tryz.prog.concrete 24=true:=by kernel_rfl
@[simp] theorem NR:Go.Proofs.Tryz.prog.eqGuardType Go.Proofs.Tryz.prog.depth 24=false:=by kernel_rfl
@[simp] theorem YT:gb Go.Proofs.Tryz.prog 25=1:=by kernel_rfl
@[simp] theorem TM:(Go.Proofs.Tryz.prog.info? 25).isSome=true:=by kernel_rfl
@[simp] theorem UU:cO Go.Proofs.Tryz.prog 25=some false:=by kernel_rfl
@[simp] theorem Xg:eG Go.Proofs.Tryz.prog 25=some (69,2):=by kernel_rfl
@[simp] theorem Ve:ck Go.Proofs.Tryz.prog 25=false:=by kernel_rfl
@[simp] theorem QM:bh Go.Proofs.Tryz.prog 25=some [.d (.nilsl)]:=by kernel_rfl
@[simp] theorem Qr:bq Go.Proofs.Tryz.prog 25=some 24:=by kernel_rfl
@[simp] theorem Mr:Go.Proofs.Tryz.prog.concrete 25=true:=by kernel_rfl
@[simp] theorem NT:Go.Proofs.Tryz.prog.eqGuardType Go.Proofs.Tryz.prog.depth 25=false:=by kernel_rfl
@[simp] theorem XF:gb Go.Proofs.Tryz.prog 27=8:=by kernel_rfl
@[simp] theorem Uq:(Go.Proofs.Tryz.prog.info? 27).isSome=true:=by kernel_rfl
@[simp] theorem U9:cO Go.Proofs.Tryz.prog 27=some true:=by kernel_rfl
@[simp] theorem Qd:de Go.Proofs.Tryz.prog 27 0=some (0,22):=by kernel_rfl
@[simp] theorem PX:de Go.Proofs.Tryz.prog 27 1=some (1,3):=by kernel_rfl
@[simp] theorem Pd:de Go.Proofs.Tryz.prog 27 2=some (2,23):=by kernel_rfl
@[simp] theorem PL:de Go.Proofs.Tryz.prog 27 3=some (3,24):=by kernel_rfl
@[simp] theorem PT:de Go.Proofs.Tryz.prog 27 4=some (4,3):=by kernel_rfl
@[simp] theorem Qh:de Go.Proofs.Tryz.prog 27 5=some (5,3):=by kernel_rfl
@[simp] theorem Ql:de Go.Proofs.Tryz.prog 27 6=some (6,25):=by kernel_rfl
@[simp] theorem Qn:de Go.Proofs.Tryz.prog 27 7=some (7,3):=by kernel_rfl
@[simp] theorem Wc:ck Go.Proofs.Tryz.prog 27=false:=by kernel_rfl
@[simp] theorem PN:bh Go.Proofs.Tryz.prog 27=some [.d (.nilsl),.d (.int .i64 0),.d (.nilsl),.d (.nilsl),.d (.int .i64 0),.d (.int .i64 0),.d (.nilsl),.d (.int .i64 0)]:=by kernel_rfl
@[simp] theorem Ph:bq Go.Proofs.Tryz.prog 27=some 128:=by kernel_rfl
@[simp] theorem L4:Go.Proofs.Tryz.prog.concrete 27=true:=by kernel_rfl
@[simp] theorem Ox:Go.Proofs.Tryz.prog.eqGuardType Go.Proofs.Tryz.prog.depth 27=false:=by kernel_rfl
@[simp] theorem XU:gb Go.Proofs.Tryz.prog 30=1:=by kernel_rfl
@[simp] theorem Un:(Go.Proofs.Tryz.prog.info? 30).isSome=true:=by kernel_rfl
@[simp] theorem U2:cO Go.Proofs.Tryz.prog 30=some false:=by kernel_rfl
@[simp] theorem Xj:eG Go.Proofs.Tryz.prog 30=some (3,1):=by kernel_rfl
@[simp] theorem W8:ck Go.Proofs.Tryz.prog 30=false:=by kernel_rfl
@[simp] theorem Qg:bh Go.Proofs.Tryz.prog 30=some [.d (.nilsl)]:=by kernel_rfl
@[simp] theorem O9:bq Go.Proofs.Tryz.prog 30=some 24:=by kernel_rfl
@[simp] theorem LN:Go.Proofs.Tryz.prog.concrete 30=true:=by kernel_rfl
@[simp] theorem Oa:Go.Proofs.Tryz.prog.eqGuardType Go.Proofs.Tryz.prog.depth 30=false:=by kernel_rfl
@[simp] theorem YB:gb Go.Proofs.Tryz.prog 53=1:=by kernel_rfl
@[simp] theorem UI:(Go.Proofs.Tryz.prog.info? 53).isSome=true:=by kernel_rfl
@[simp] theorem VV:cO Go.Proofs.Tryz.prog 53=some false:=by kernel_rfl
@[simp] theorem VP:ck Go.Proofs.Tryz.prog 53=true:=by kernel_rfl
@[simp] theorem O8:bh Go.Proofs.Tryz.prog 53=some [.d (.str [])]:=by kernel_rfl
@[simp] theorem PM:bq Go.Proofs.Tryz.prog 53=some 16:=by kernel_rfl
@[simp] theorem MD:Go.Proofs.Tryz.prog.concrete 53=true:=by kernel_rfl
@[simp] theorem M9:Go.Proofs.Tryz.prog.eqGuardType Go.Proofs.Tryz.prog.depth 53=false:=by kernel_rfl
@[simp] theorem YQ:gb Go.Proofs.Tryz.prog 55=7:=by kernel_rfl
@[simp] theorem SM:(Go.Proofs.Tryz.prog.info? 55).isSome=true:=by kernel_rfl
@[simp] theorem V3:cO Go.Proofs.Tryz.prog 55=some true:=by kernel_rfl
@[simp] theorem Qs:de Go.Proofs.Tryz.prog 55 0=some (0,3):=by kernel_rfl
@[simp] theorem Qi:de Go.Proofs.Tryz.prog 55 1=some (1,3):=by kernel_rfl
@[simp] theorem Pe:de Go.Proofs.Tryz.prog 55 2=some (2,3):=by kernel_rfl
@[simp] theorem P8:de Go.Proofs.Tryz.prog 55 3=some (3,3):=by kernel_rfl
@[simp] theorem Pq:de Go.Proofs.Tryz.prog 55 4=some (4,3):=by kernel_rfl
@[simp] theorem PC:de Go.Proofs.Tryz.prog 55 5=some (5,3):=by kernel_rfl
@[simp] theorem Qv:de Go.Proofs.Tryz.prog 55 6=some (6,53):=by kernel_rfl
@[simp] theorem W3:ck Go.Proofs.Tryz.prog 55=false:=by kernel_rfl
@[simp] theorem P7:bh Go.Proofs.Tryz.prog 55=some [.d (.int .i64 0),.d (.int .i64 0),.d (.int .i64 0),.d (.int .i64 0),.d (.int .i64 0),.d (.int .i64 0),.d (.str [])]:=by kernel_rfl
@[simp] theorem Pf:bq Go.Proofs.Tryz.prog 55=some 64:=by kernel_rfl
@[simp] theorem Ml:Go.Proofs.Tryz.prog.concrete 55=true:=by kernel_rfl
@[simp] theorem Nw:Go.Proofs.Tryz.prog.eqGuardType Go.Proofs.Tryz.prog.depth 55=false:=by kernel_rfl
@[simp] theorem X8:gb Go.Proofs.Tryz.prog 59=1:=by kernel_rfl
@[simp] theorem Uf:(Go.Proofs.Tryz.prog.info? 59).isSome=true:=by kernel_rfl
@[simp] theorem Wr:cO Go.Proofs.Tryz.prog 59=some false:=by kernel_rfl
@[simp] theorem YE:eG Go.Proofs.Tryz.prog 59=some (53,1):=by kernel_rfl
@[simp] theorem VT:ck Go.Proofs.Tryz.prog 59=false:=by kernel_rfl
@[simp] theorem Qx:bh Go.Proofs.Tryz.prog 59=some [.d (.nilsl)]:=by kernel_rfl
@[simp] theorem QE:bq Go.Proofs.Tryz.prog 59=some 24:=by kernel_rfl
@[simp] theorem Mw:Go.Proofs.Tryz.prog.concrete 59=true:=by kernel_rfl
@[simp] theorem MX:Go.Proofs.Tryz.prog.eqGuardType Go.Proofs.Tryz.prog.depth 59=false:=by kernel_rfl
@[simp] theorem Xu:gb Go.Proofs.Tryz.prog 67=3:=by kernel_rfl
@[simp] theorem Uk:(Go.Proofs.Tryz.prog.info? 67).isSome=true:=by kernel_rfl
@[simp] theorem U4:cO Go.Proofs.Tryz.prog 67=some true:=by kernel_rfl
@[simp] theorem QU:de Go.Proofs.Tryz.prog 67 0=some (0,3):=by kernel_rfl
@[simp] theorem Qj:de Go.Proofs.Tryz.prog 67 1=some (1,53):=by kernel_rfl
@[simp] theorem Qy:de Go.Proofs.Tryz.prog 67 2=some (2,53):=by kernel_rfl
@[simp] theorem Vz:ck Go.Proofs.Tryz.prog 67=false:=by kernel_rfl
@[simp] theorem Pt:bh Go.Proofs.Tryz.prog 67=some [.d (.int .i64 0),.d (.str []),.d (.str [])]:=by kernel_rfl
@[simp] theorem QI:bq Go.Proofs.Tryz.prog 67=some 40:=by kernel_rfl
@[simp] theorem Md:Go.Proofs.Tryz.prog.concrete 67=true:=by kernel_rfl
@[simp] theorem OG:Go.Proofs.Tryz.prog.eqGuardType Go.Proofs.Tryz.prog.depth 67=false:=by kernel_rfl
@[simp] theorem Yr:gb Go.Proofs.Tryz.prog 69=2:=by kernel_rfl
@[simp] theorem Um:(Go.Proofs.Tryz.prog.info? 69).isSome=true:=by kernel_rfl
@[simp] theorem WI:cO Go.Proofs.Tryz.prog 69=some true:=by kernel_rfl
@[simp] theorem PG:de Go.Proofs.Tryz.prog 69 0=some (0,3):=by kernel_rfl
@[simp] theorem PY:de Go.Proofs.Tryz.prog 69 1=some (1,3):=by kernel_rfl
@[simp] theorem WU:ck Go.Proofs.Tryz.prog 69=false:=by kernel_rfl
@[simp] theorem QF:bh Go.Proofs.Tryz.prog 69=some [.d (.int .i64 0),.d (.int .i64 0)]:=by kernel_rfl
@[simp] theorem Pm:bq Go.Proofs.Tryz.prog 69=some 16:=by kernel_rfl
@[simp] theorem Ma:Go.Proofs.Tryz.prog.concrete 69=true:=by kernel_rfl
@[simp] theorem Ni:Go.Proofs.Tryz.prog.eqGuardType Go.Proofs.Tryz.prog.depth 69=false:=by kernel_rfl
@[simp] theorem XM:gb Go.Proofs.Tryz.prog 81=2:=by kernel_rfl
@[simp] theorem Td:(Go.Proofs.Tryz.prog.info? 81).isSome=true:=by kernel_rfl
@[simp] theorem Vv:cO Go.Proofs.Tryz.prog 81=some true:=by kernel_rfl
@[simp] theorem QB:de Go.Proofs.Tryz.prog 81 0=some (0,3):=by kernel_rfl
@[simp] theorem Qt:de Go.Proofs.Tryz.prog 81 1=some (1,3):=by kernel_rfl
@[simp] theorem Vd:ck Go.Proofs.Tryz.prog 81=false:=by kernel_rfl
@[simp] theorem PW:bh Go.Proofs.Tryz.prog 81=some [.d (.int .i64 0),.d (.int .i64 0)]:=by kernel_rfl
@[simp] theorem Qm:bq Go.Proofs.Tryz.prog 81=some 16:=by kernel_rfl
@[simp] theorem LS:Go.Proofs.Tryz.prog.concrete 81=true:=by kernel_rfl
@[simp] theorem M8:Go.Proofs.Tryz.prog.eqGuardType Go.Proofs.Tryz.prog.depth 81=false:=by kernel_rfl
@[simp] theorem Xn:gb Go.Proofs.Tryz.prog 85=4:=by kernel_rfl
@[simp] theorem Uv:(Go.Proofs.Tryz.prog.info? 85).isSome=true:=by kernel_rfl
@[simp] theorem Wj:cO Go.Proofs.Tryz.prog 85=some true:=by kernel_rfl
@[simp] theorem Xx:qK Go.Proofs.Tryz.prog 85=some (4,3,1):=by kernel_rfl
@[simp] theorem WO:ck Go.Proofs.Tryz.prog 85=false:=by kernel_rfl
@[simp] theorem O5:bh Go.Proofs.Tryz.prog 85=some [.d (.int .i64 0),.d (.int .i64 0),.d (.int .i64 0),.d (.int .i64 0)]:=by kernel_rfl
@[simp] theorem Qq:bq Go.Proofs.Tryz.prog 85=some 32:=by kernel_rfl
@[simp] theorem L6:Go.Proofs.Tryz.prog.concrete 85=true:=by kernel_rfl
@[simp] theorem Ny:Go.Proofs.Tryz.prog.eqGuardType Go.Proofs.Tryz.prog.depth 85=false:=by kernel_rfl
@[simp] theorem VS:gb Go.Proofs.Tryz.prog 154=8:=by kernel_rfl
@[simp] theorem Qa:(Go.Proofs.Tryz.prog.info? 154).isSome=true:=by kernel_rfl
@[simp] theorem RT:cO Go.Proofs.Tryz.prog 154=some true:=by kernel_rfl
@[simp] theorem Np:de Go.Proofs.Tryz.prog 154 0=some (0,27):=by kernel_rfl
@[simp] theorem UH:ck Go.Proofs.Tryz.prog 154=false:=by kernel_rfl
@[simp] theorem Nl:bh Go.Proofs.Tryz.prog 154=some [.d (.nilsl),.d (.int .i64 0),.d (.nilsl),.d (.nilsl),.d (.int .i64 0),.d (.int .i64 0),.d (.nilsl),.d (.int .i64 0)]:=by kernel_rfl
@[simp] theorem Nx:bq Go.Proofs.Tryz.prog 154=some 128:=by kernel_rfl
@[simp] theorem J6:Go.Proofs.Tryz.prog.concrete 154=true:=by kernel_rfl
@[simp] theorem My:Go.Proofs.Tryz.prog.eqGuardType Go.Proofs.Tryz.prog.depth 154=false:=by kernel_rfl
@[simp] theorem V8:gb Go.Proofs.Tryz.prog 156=1:=by kernel_rfl
@[simp] theorem O6:(Go.Proofs.Tryz.prog.info? 156).isSome=true:=by kernel_rfl
@[simp] theorem Rz:cO Go.Proofs.Tryz.prog 156=some false:=by kernel_rfl
@[simp] theorem Sj:ck Go.Proofs.Tryz.prog 156=false:=by kernel_rfl
@[simp] theorem Nr:bh Go.Proofs.Tryz.prog 156=some [.d (.nilFunc)]:=by kernel_rfl
@[simp] theorem OQ:bq Go.Proofs.Tryz.prog 156=some 8:=by kernel_rfl
@[simp] theorem JH:Go.Proofs.Tryz.prog.concrete 156=true:=by kernel_rfl
@[simp] theorem LX:Go.Proofs.Tryz.prog.eqGuardType Go.Proofs.Tryz.prog.depth 156=false:=by kernel_rfl
@[simp] theorem VK:gb Go.Proofs.Tryz.prog 157=2:=by kernel_rfl
@[simp] theorem P6:(Go.Proofs.Tryz.prog.info? 157).isSome=true:=by kernel_rfl
@[simp] theorem R9:cO Go.Proofs.Tryz.prog 157=some true:=by kernel_rfl
@[simp] theorem Od:de Go.Proofs.Tryz.prog 157 0=some (0,3):=by kernel_rfl
@[simp] theorem N8:de Go.Proofs.Tryz.prog 157 1=some (1,156):=by kernel_rfl
@[simp] theorem Rr:ck Go.Proofs.Tryz.prog 157=false:=by kernel_rfl
@[simp] theorem OR:bh Go.Proofs.Tryz.prog 157=some [.d (.int .i64 0),.d (.nilFunc)]:=by kernel_rfl
@[simp] theorem N1:bq Go.Proofs.Tryz.prog 157=some 16:=by kernel_rfl
@[simp] theorem KC:Go.Proofs.Tryz.prog.concrete 157=true:=by kernel_rfl
@[simp] theorem LL:Go.Proofs.Tryz.prog.eqGuardType Go.Proofs.Tryz.prog.depth 157=false:=by kernel_rfl
@[simp] theorem Vi:gb Go.Proofs.Tryz.prog 158=1:=by kernel_rfl
@[simp] theorem PK:(Go.Proofs.Tryz.prog.info? 158).isSome=true:=by kernel_rfl
@[simp] theorem RH:cO Go.Proofs.Tryz.prog 158=some false:=by kernel_rfl
@[simp] theorem U7:eG Go.Proofs.Tryz.prog 158=some (157,2):=by kernel_rfl
@[simp] theorem So:ck Go.Proofs.Tryz.prog 158=false:=by kernel_rfl
@[simp] theorem NC:bh Go.Proofs.Tryz.prog 158=some [.d (.nilsl)]:=by kernel_rfl
@[simp] theorem Ov:bq Go.Proofs.Tryz.prog 158=some 24:=by kernel_rfl
@[simp] theorem Kt:Go.Proofs.Tryz.prog.concrete 158=true:=by kernel_rfl
@[simp] theorem LM:Go.Proofs.Tryz.prog.eqGuardType Go.Proofs.Tryz.prog.depth 158=false:=by kernel_rfl
@[simp] theorem WA:gb Go.Proofs.Tryz.prog 168=2:=by kernel_rfl
@[simp] theorem Py:(Go.Proofs.Tryz.prog.info? 168).isSome=true:=by kernel_rfl
@[simp] theorem Tj:cO Go.Proofs.Tryz.prog 168=some true:=by kernel_rfl
@[simp] theorem Ng:de Go.Proofs.Tryz.prog 168 0=some (0,3):=by kernel_rfl
@[simp] theorem Oq:de Go.Proofs.Tryz.prog 168 1=some (1,3):=by kernel_rfl
@[simp] theorem S7:ck Go.Proofs.Tryz.prog 168=false:=by kernel_rfl
@[simp] theorem Ns:bh Go.Proofs.Tryz.prog 168=some [.d (.int .i64 0),.d (.int .i64 0)]:=by kernel_rfl
@[simp] theorem Ol:bq Go.Proofs.Tryz.prog 168=some 16:=by kernel_rfl
@[simp] theorem Kj:Go.Proofs.Tryz.prog.concrete 168=true:=by kernel_rfl
@[simp] theorem L9:Go.Proofs.Tryz.prog.eqGuardType Go.Proofs.Tryz.prog.depth 168=false:=by kernel_rfl
@[simp] theorem U3:gb Go.Proofs.Tryz.prog 219=1:=by kernel_rfl
@[simp] theorem P2:(Go.Proofs.Tryz.prog.info? 219).isSome=true:=by kernel_rfl
@[simp] theorem Q0:cO Go.Proofs.Tryz.prog 219=some false:=by kernel_rfl
@[simp] theorem UA:ck Go.Proofs.Tryz.prog 219=false:=by kernel_rfl
@[simp] theorem Ok:bh Go.Proofs.Tryz.prog 219=some [.d (.nilp)]:=by kernel_rfl
@[simp] theorem Nh:bq Go.Proofs.Tryz.prog 219=some 8:=by kernel_rfl
@[simp] theorem Kw:Go.Proofs.Tryz.prog.concrete 219=true:=by kernel_rfl
@[simp] theorem LY:Go.Proofs.Tryz.prog.eqGuardType Go.Proofs.Tryz.prog.depth 219=false:=by kernel_rfl
@[simp] theorem Vb:gb Go.Proofs.Tryz.prog 220=1:=by kernel_rfl
@[simp] theorem QD:(Go.Proofs.Tryz.prog.info? 220).isSome=true:=by kernel_rfl
@[simp] theorem TG:cO Go.Proofs.Tryz.prog 220=some false:=by kernel_rfl
@[simp] theorem VD:eG Go.Proofs.Tryz.prog 220=some (219,1):=by kernel_rfl
@[simp] theorem Ud:ck Go.Proofs.Tryz.prog 220=false:=by kernel_rfl
@[simp] theorem O0:bh Go.Proofs.Tryz.prog 220=some [.d (.nilsl)]:=by kernel_rfl
@[simp] theorem Og:bq Go.Proofs.Tryz.prog 220=some 24:=by kernel_rfl
@[simp] theorem J4:Go.Proofs.Tryz.prog.concrete 220=true:=by kernel_rfl
@[simp] theorem MC:Go.Proofs.Tryz.prog.eqGuardType Go.Proofs.Tryz.prog.depth 220=false:=by kernel_rfl
@[simp] theorem Wa:gb Go.Proofs.Tryz.prog 221=1:=by kernel_rfl
@[simp] theorem PF:(Go.Proofs.Tryz.prog.info? 221).isSome=true:=by kernel_rfl
@[simp] theorem Rh:cO Go.Proofs.Tryz.prog 221=some false:=by kernel_rfl
@[simp] theorem tE:eG Go.Proofs.Tryz.prog 221=some (322,1):=by kernel_rfl
@[simp] theorem SJ:ck Go.Proofs.Tryz.prog 221=false:=by kernel_rfl
@[simp] theorem MM:bh Go.Proofs.Tryz.prog 221=some [.d (.nilsl)]:=by kernel_rfl
@[simp] theorem Oy:bq Go.Proofs.Tryz.prog 221=some 24:=by kernel_rfl
@[simp] theorem JX:Go.Proofs.Tryz.prog.concrete 221=true:=by kernel_rfl
@[simp] theorem Mv:Go.Proofs.Tryz.prog.eqGuardType Go.Proofs.Tryz.prog.depth 221=false:=by kernel_rfl
@[simp] theorem Vq:gb Go.Proofs.Tryz.prog 222=1:=by kernel_rfl
@[simp] theorem P0:(Go.Proofs.Tryz.prog.info? 222).isSome=true:=by kernel_rfl
@[simp] theorem S2:cO Go.Proofs.Tryz.prog 222=some false:=by kernel_rfl
@[simp] theorem fu:eG Go.Proofs.Tryz.prog 222=some (322,1):=by kernel_rfl
@[simp] theorem Q6:ck Go.Proofs.Tryz.prog 222=false:=by kernel_rfl
@[simp] theorem OH:bh Go.Proofs.Tryz.prog 222=some [.d (.nilsl)]:=by kernel_rfl
@[simp] theorem NB:bq Go.Proofs.Tryz.prog 222=some 24:=by kernel_rfl
@[simp] theorem KN:Go.Proofs.Tryz.prog.concrete 222=true:=by kernel_rfl
@[simp] theorem LH:Go.Proofs.Tryz.prog.eqGuardType Go.Proofs.Tryz.prog.depth 222=false:=by kernel_rfl
@[simp] theorem WR:gb Go.Proofs.Tryz.prog 224=3:=by kernel_rfl
@[simp] theorem PU:(Go.Proofs.Tryz.prog.info? 224).isSome=true:=by kernel_rfl
@[simp] theorem SR:cO Go.Proofs.Tryz.prog 224=some true:=by kernel_rfl
@[simp] theorem MH:de Go.Proofs.Tryz.prog 224 0=some (0,4):=by kernel_rfl
@[simp] theorem M1:de Go.Proofs.Tryz.prog 224 1=some (1,222):=by kernel_rfl
@[simp] theorem MW:de Go.Proofs.Tryz.prog 224 2=some (2,222):=by kernel_rfl
@[simp] theorem Ra:ck Go.Proofs.Tryz.prog 224=false:=by kernel_rfl
@[simp] theorem NN:bh Go.Proofs.Tryz.prog 224=some [.d (.bool false),.d (.nilsl),.d (.nilsl)]:=by kernel_rfl
@[simp] theorem MN:bq Go.Proofs.Tryz.prog 224=some 56:=by kernel_rfl
@[simp] theorem Ju:Go.Proofs.Tryz.prog.concrete 224=true:=by kernel_rfl
@[simp] theorem LG:Go.Proofs.Tryz.prog.eqGuardType Go.Proofs.Tryz.prog.depth 224=false:=by kernel_rfl
@[simp] theorem Wb:gb Go.Proofs.Tryz.prog 225=6:=by kernel_rfl
@[simp] theorem Pj:(Go.Proofs.Tryz.prog.info? 225).isSome=true:=by kernel_rfl
@[simp] theorem Ry:cO Go.Proofs.Tryz.prog 225=some true:=by kernel_rfl
@[simp] theorem Vk:qK Go.Proofs.Tryz.prog 225=some (2,224,3):=by kernel_rfl
@[simp] theorem R7:ck Go.Proofs.Tryz.prog 225=false:=by kernel_rfl
@[simp] theorem OV:bh Go.Proofs.Tryz.prog 225=some [.d (.bool false),.d (.nilsl),.d (.nilsl),.d (.bool false),.d (.nilsl),.d (.nilsl)]:=by kernel_rfl
@[simp] theorem MZ:bq Go.Proofs.Tryz.prog 225=some 112:=by kernel_rfl
@[simp] theorem Li:Go.Proofs.Tryz.prog.concrete 225=true:=by kernel_rfl
@[simp] theorem Mg:Go.Proofs.Tryz.prog.eqGuardType Go.Proofs.Tryz.prog.depth 225=false:=by kernel_rfl
@[simp] theorem W6:gb Go.Proofs.Tryz.prog 271=1:=by kernel_rfl
@[simp] theorem Qe:(Go.Proofs.Tryz.prog.info? 271).isSome=true:=by kernel_rfl
@[simp] theorem RE:cO Go.Proofs.Tryz.prog 271=some false:=by kernel_rfl
@[simp] theorem Re:ck Go.Proofs.Tryz.prog 271=false:=by kernel_rfl
@[simp] theorem qi:nU Go.Proofs.Tryz.prog 271=some .u64:=by kernel_rfl
@[simp] theorem MG:bh Go.Proofs.Tryz.prog 271=some [.d (.int .u64 0)]:=by kernel_rfl
@[simp] theorem NG:bq Go.Proofs.Tryz.prog 271=some 8:=by kernel_rfl
@[simp] theorem Lt:Go.Proofs.Tryz.prog.concrete 271=true:=by kernel_rfl
@[simp] theorem MB:Go.Proofs.Tryz.prog.eqGuardType Go.Proofs.Tryz.prog.depth 271=false:=by kernel_rfl
@[simp] theorem Vt:gb Go.Proofs.Tryz.prog 282=4:=by kernel_rfl
@[simp] theorem O2:(Go.Proofs.Tryz.prog.info? 282).isSome=true:=by kernel_rfl
@[simp] theorem RR:cO Go.Proofs.Tryz.prog 282=some true:=by kernel_rfl
@[simp] theorem NQ:de Go.Proofs.Tryz.prog 282 0=some (0,81):=by kernel_rfl
@[simp] theorem OX:de Go.Proofs.Tryz.prog 282 1=some (2,3):=by kernel_rfl
@[simp] theorem OE:de Go.Proofs.Tryz.prog 282 2=some (3,3):=by kernel_rfl
@[simp] theorem Sk:ck Go.Proofs.Tryz.prog 282=false:=by kernel_rfl
@[simp] theorem OA:bh Go.Proofs.Tryz.prog 282=some [.d (.int .i64 0),.d (.int .i64 0),.d (.int .i64 0),.d (.int .i64 0)]:=by kernel_rfl
@[simp] theorem Nz:bq Go.Proofs.Tryz.prog 282=some 32:=by kernel_rfl
@[simp] theorem JQ:Go.Proofs.Tryz.prog.concrete 282=true:=by kernel_rfl
@[simp] theorem LK:Go.Proofs.Tryz.prog.eqGuardType Go.Proofs.Tryz.prog.depth 282=false:=by kernel_rfl
@[simp] theorem Eg:gb Go.Proofs.Tryz.prog 322=1:=by kernel_rfl
@[simp] theorem xu:(Go.Proofs.Tryz.prog.info? 322).isSome=true:=by kernel_rfl
@[simp] theorem kC:cO Go.Proofs.Tryz.prog 322=some false:=by kernel_rfl
@[simp] theorem Q2:ck Go.Proofs.Tryz.prog 322=false:=by kernel_rfl
@[simp] theorem pI:nU Go.Proofs.Tryz.prog 322=some .u32:=by kernel_rfl
@[simp] theorem Ci:bh Go.Proofs.Tryz.prog 322=some [.d (.int .u32 0)]:=by kernel_rfl
@[simp] theorem CQ:bq Go.Proofs.Tryz.prog 322=some 4:=by kernel_rfl
@[simp] theorem KM:Go.Proofs.Tryz.prog.concrete 322=true:=by kernel_rfl
@[simp] theorem Mx:Go.Proofs.Tryz.prog.eqGuardType Go.Proofs.Tryz.prog.depth 322=false:=by kernel_rfl
@[simp] theorem Vo:gb Go.Proofs.Tryz.prog 324=1:=by kernel_rfl
@[simp] theorem PO:(Go.Proofs.Tryz.prog.info? 324).isSome=true:=by kernel_rfl
@[simp] theorem RZ:cO Go.Proofs.Tryz.prog 324=some false:=by kernel_rfl
@[simp] theorem Sh:ck Go.Proofs.Tryz.prog 324=false:=by kernel_rfl
@[simp] theorem Sg:nU Go.Proofs.Tryz.prog 324=some .u64:=by kernel_rfl
@[simp] theorem Na:bh Go.Proofs.Tryz.prog 324=some [.d (.int .u64 0)]:=by kernel_rfl
@[simp] theorem MF:bq Go.Proofs.Tryz.prog 324=some 8:=by kernel_rfl
@[simp] theorem Kz:Go.Proofs.Tryz.prog.concrete 324=true:=by kernel_rfl
@[simp] theorem Mu:Go.Proofs.Tryz.prog.eqGuardType Go.Proofs.Tryz.prog.depth 324=false:=by kernel_rfl
@[simp] theorem UT:gb Go.Proofs.Tryz.prog 325=1:=by kernel_rfl
@[simp] theorem Qw:(Go.Proofs.Tryz.prog.info? 325).isSome=true:=by kernel_rfl
@[simp] theorem UE:cO Go.Proofs.Tryz.prog 325=some false:=by kernel_rfl
@[simp] theorem Vp:eG Go.Proofs.Tryz.prog 325=some (327,2):=by kernel_rfl
@[simp] theorem SY:ck Go.Proofs.Tryz.prog 325=false:=by kernel_rfl
@[simp] theorem Nq:bh Go.Proofs.Tryz.prog 325=some [.d (.nilsl)]:=by kernel_rfl
@[simp] theorem OO:bq Go.Proofs.Tryz.prog 325=some 24:=by kernel_rfl
@[simp] theorem JE:Go.Proofs.Tryz.prog.concrete 325=true:=by kernel_rfl
@[simp] theorem MA:Go.Proofs.Tryz.prog.eqGuardType Go.Proofs.Tryz.prog.depth 325=false:=by kernel_rfl
@[simp] theorem Wn:gb Go.Proofs.Tryz.prog 342=256:=by kernel_rfl
@[simp] theorem P4:(Go.Proofs.Tryz.prog.info? 342).isSome=true:=by kernel_rfl
@[simp] theorem Uc:cO Go.Proofs.Tryz.prog 342=some true:=by kernel_rfl
@[simp] theorem V4:qK Go.Proofs.Tryz.prog 342=some (256,4,1):=by kernel_rfl
@[simp] theorem Sn:ck Go.Proofs.Tryz.prog 342=false:=by kernel_rfl
@[simp] theorem Ot:bq Go.Proofs.Tryz.prog 342=some 256:=by kernel_rfl
@[simp] theorem KA:Go.Proofs.Tryz.prog.concrete 342=true:=by kernel_rfl
@[simp] theorem Mo:Go.Proofs.Tryz.prog.eqGuardType Go.Proofs.Tryz.prog.depth 342=false:=by kernel_rfl
@[simp] theorem WQ:aS Go.Proofs.Tryz.prog 16=true:=by kernel_rfl
@[simp] theorem VQ:aS Go.Proofs.Tryz.prog 17=true:=by kernel_rfl
@[simp] theorem WY:aS Go.Proofs.Tryz.prog 26=true:=by kernel_rfl
@[simp] theorem Wm:aS Go.Proofs.Tryz.prog 31=true:=by kernel_rfl
@[simp] theorem Ww:aS Go.Proofs.Tryz.prog 35=true:=by kernel_rfl
@[simp] theorem Vm:aS Go.Proofs.Tryz.prog 37=true:=by kernel_rfl
@[simp] theorem WX:aS Go.Proofs.Tryz.prog 45=true:=by kernel_rfl
@[simp] theorem VO:aS Go.Proofs.Tryz.prog 47=true:=by kernel_rfl
@[simp] theorem Wp:aS Go.Proofs.Tryz.prog 48=true:=by kernel_rfl
@[simp] theorem UY:aS Go.Proofs.Tryz.prog 78=true:=by kernel_rfl
@[simp] theorem V7:aS Go.Proofs.Tryz.prog 79=true:=by kernel_rfl
@[simp] theorem W9:aS Go.Proofs.Tryz.prog 80=true:=by kernel_rfl
@[simp] theorem VZ:aS Go.Proofs.Tryz.prog 82=true:=by kernel_rfl
@[simp] theorem W4:aS Go.Proofs.Tryz.prog 83=true:=by kernel_rfl
@[simp] theorem V9:aS Go.Proofs.Tryz.prog 84=true:=by kernel_rfl
@[simp] theorem W1:aS Go.Proofs.Tryz.prog 85=true:=by kernel_rfl
@[simp] theorem Wy:aS Go.Proofs.Tryz.prog 86=true:=by kernel_rfl
@[simp] theorem WK:aS Go.Proofs.Tryz.prog 87=true:=by kernel_rfl
@[simp] theorem U5:aS Go.Proofs.Tryz.prog 88=true:=by kernel_rfl
@[simp] theorem UW:aS Go.Proofs.Tryz.prog 96=true:=by kernel_rfl
@[simp] theorem WS:aS Go.Proofs.Tryz.prog 97=true:=by kernel_rfl
@[simp] theorem RJ:aS Go.Proofs.Tryz.prog 100=true:=by kernel_rfl
@[simp] theorem Sa:aS Go.Proofs.Tryz.prog 101=true:=by kernel_rfl
@[simp] theorem Q9:aS Go.Proofs.Tryz.prog 102=true:=by kernel_rfl
@[simp] theorem S8:aS Go.Proofs.Tryz.prog 103=true:=by kernel_rfl
@[simp] theorem Us:aS Go.Proofs.Tryz.prog 156=true:=by kernel_rfl
@[simp] theorem Se:aS Go.Proofs.Tryz.prog 157=true:=by kernel_rfl
@[simp] theorem S6:aS Go.Proofs.Tryz.prog 158=true:=by kernel_rfl
@[simp] theorem R4:aS Go.Proofs.Tryz.prog 159=true:=by kernel_rfl
@[simp] theorem Rb:aS Go.Proofs.Tryz.prog 160=true:=by kernel_rfl
@[simp] theorem Si:aS Go.Proofs.Tryz.prog 161=true:=by kernel_rfl
@[simp] theorem RU:aS Go.Proofs.Tryz.prog 162=true:=by kernel_rfl
@[simp] theorem SB:aS Go.Proofs.Tryz.prog 163=true:=by kernel_rfl
@[simp] theorem TQ:aS Go.Proofs.Tryz.prog 164=true:=by kernel_rfl
@[simp] theorem RC:aS Go.Proofs.Tryz.prog 165=true:=by kernel_rfl
@[simp] theorem S4:aS Go.Proofs.Tryz.prog 166=true:=by kernel_rfl
@[simp] theorem QY:aS Go.Proofs.Tryz.prog 198=true:=by kernel_rfl
@[simp] theorem SF:aS Go.Proofs.Tryz.prog 222=true:=by kernel_rfl
@[simp] theorem Rv:aS Go.Proofs.Tryz.prog 223=true:=by kernel_rfl
@[simp] theorem S3:aS Go.Proofs.Tryz.prog 224=true:=by kernel_rfl
@[simp] theorem TT:aS Go.Proofs.Tryz.prog 225=true:=by kernel_rfl
@[simp] theorem Rj:aS Go.Proofs.Tryz.prog 226=true:=by kernel_rfl
@[simp] theorem RM:aS Go.Proofs.Tryz.prog 227=true:=by kernel_rfl
@[simp] theorem TA:aS Go.Proofs.Tryz.prog 228=true:=by kernel_rfl
@[simp] theorem Q7:aS Go.Proofs.Tryz.prog 229=true:=by kernel_rfl
@[simp] theorem Te:aS Go.Proofs.Tryz.prog 230=true:=by kernel_rfl
@[simp] theorem RF:aS Go.Proofs.Tryz.prog 231=true:=by kernel_rfl
@[simp] theorem Ro:aS Go.Proofs.Tryz.prog 232=true:=by kernel_rfl
@[simp] theorem SD:aS Go.Proofs.Tryz.prog 233=true:=by kernel_rfl
@[simp] theorem Sb:aS Go.Proofs.Tryz.prog 234=true:=by kernel_rfl
@[simp] theorem TW:aS Go.Proofs.Tryz.prog 235=true:=by kernel_rfl
@[simp] theorem SH:aS Go.Proofs.Tryz.prog 236=true:=by kernel_rfl
@[simp] theorem QZ:aS Go.Proofs.Tryz.prog 237=true:=by kernel_rfl
@[simp] theorem TB:aS Go.Proofs.Tryz.prog 238=true:=by kernel_rfl
@[simp] theorem RN:aS Go.Proofs.Tryz.prog 239=true:=by kernel_rfl
@[simp] theorem RX:aS Go.Proofs.Tryz.prog 240=true:=by kernel_rfl
@[simp] theorem SX:aS Go.Proofs.Tryz.prog 241=true:=by kernel_rfl
@[simp] theorem Ur:aS Go.Proofs.Tryz.prog 253=true:=by kernel_rfl
@[simp] theorem Rm:aS Go.Proofs.Tryz.prog 254=true:=by kernel_rfl
@[simp] theorem TL:aS Go.Proofs.Tryz.prog 255=true:=by kernel_rfl
@[simp] theorem S0:aS Go.Proofs.Tryz.prog 261=true:=by kernel_rfl
@[simp] theorem TP:aS Go.Proofs.Tryz.prog 263=true:=by kernel_rfl
@[simp] theorem Ug:aS Go.Proofs.Tryz.prog 276=true:=by kernel_rfl
@[simp] theorem Rl:aS Go.Proofs.Tryz.prog 277=true:=by kernel_rfl
@[simp] theorem SI:aS Go.Proofs.Tryz.prog 278=true:=by kernel_rfl
@[simp] theorem SZ:aS Go.Proofs.Tryz.prog 280=true:=by kernel_rfl
@[simp] theorem Hx:aS Go.Proofs.Tryz.prog 281=true:=by kernel_rfl
@[simp] theorem SO:aS Go.Proofs.Tryz.prog 283=true:=by kernel_rfl
@[simp] theorem Sx:aS Go.Proofs.Tryz.prog 284=true:=by kernel_rfl
@[simp] theorem TS:aS Go.Proofs.Tryz.prog 285=true:=by kernel_rfl
@[simp] theorem Uz:aS Go.Proofs.Tryz.prog 286=true:=by kernel_rfl
@[simp] theorem Ts:aS Go.Proofs.Tryz.prog 287=true:=by kernel_rfl
@[simp] theorem Q4:aS Go.Proofs.Tryz.prog 307=true:=by kernel_rfl
@[simp] theorem RL:aS Go.Proofs.Tryz.prog 308=true:=by kernel_rfl
@[simp] theorem Su:aS Go.Proofs.Tryz.prog 309=true:=by kernel_rfl
@[simp] theorem R6:aS Go.Proofs.Tryz.prog 314=true:=by kernel_rfl
@[simp] theorem UG:aS Go.Proofs.Tryz.prog 325=true:=by kernel_rfl
@[simp] theorem Tm:aS Go.Proofs.Tryz.prog 326=true:=by kernel_rfl
@[simp] theorem Ti:aS Go.Proofs.Tryz.prog 327=true:=by kernel_rfl
@[simp] theorem Sy:aS Go.Proofs.Tryz.prog 328=true:=by kernel_rfl
@[simp] theorem Sd:aS Go.Proofs.Tryz.prog 329=true:=by kernel_rfl
@[simp] theorem Hg:aS Go.Proofs.Tryz.prog 331=true:=by kernel_rfl
@[simp] theorem Tw:aS Go.Proofs.Tryz.prog 332=true:=by kernel_rfl
@[simp] theorem SU:aS Go.Proofs.Tryz.prog 333=true:=by kernel_rfl
@[simp] theorem Sl:aS Go.Proofs.Tryz.prog 334=true:=by kernel_rfl
@[simp] theorem TF:aS Go.Proofs.Tryz.prog 335=true:=by kernel_rfl
@[simp] theorem Ux:aS Go.Proofs.Tryz.prog 344=true:=by kernel_rfl
@[simp] theorem SN:aS Go.Proofs.Tryz.prog 357=true:=by kernel_rfl
@[simp] theorem Rn:aS Go.Proofs.Tryz.prog 358=true:=by kernel_rfl
@[simp] theorem Sf:aS Go.Proofs.Tryz.prog 359=true:=by kernel_rfl
end Go.Am.Ty
