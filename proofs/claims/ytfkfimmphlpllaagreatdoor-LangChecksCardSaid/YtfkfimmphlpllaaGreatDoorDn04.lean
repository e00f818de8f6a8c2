/- Helpers: an abstract machine for Go functions, and walks of functions of the program. -/
import Derived.Test.YtfkfimmphlpllaaGreatDoorDn03
import Derived.Test.YtfkfimmphlpllaaGreatDoorProg

set_option linter.all false

namespace Go.Am.Ty
@[simp] theorem aai:gw Go.Proofs.Tryz.prog 2=1:=by kernel_rfl
@[simp] theorem Xc:(Go.Proofs.Tryz.prog.info? 2).isSome=true:=by kernel_rfl
@[simp] theorem Hp:cW Go.Proofs.Tryz.prog 2=some false:=by kernel_rfl
@[simp] theorem YN:cj Go.Proofs.Tryz.prog 2=false:=by kernel_rfl
@[simp] theorem Zz:nY Go.Proofs.Tryz.prog 2=some .i64:=by kernel_rfl
@[simp] theorem U1:bx Go.Proofs.Tryz.prog 2=some [.d (.int .i64 0)]:=by kernel_rfl
@[simp] theorem U6:bE Go.Proofs.Tryz.prog 2=some 8:=by kernel_rfl
@[simp] theorem Nh:Go.Proofs.Tryz.prog.concrete 2=true:=by kernel_rfl
@[simp] theorem PO:Go.Proofs.Tryz.prog.eqGuardType Go.Proofs.Tryz.prog.depth 2=false:=by kernel_rfl
@[simp] theorem aab:gw Go.Proofs.Tryz.prog 3=1:=by kernel_rfl
@[simp] theorem Xt:(Go.Proofs.Tryz.prog.info? 3).isSome=true:=by kernel_rfl
@[simp] theorem Zh:cW Go.Proofs.Tryz.prog 3=some false:=by kernel_rfl
@[simp] theorem Yu:cj Go.Proofs.Tryz.prog 3=false:=by kernel_rfl
@[simp] theorem Zf:nY Go.Proofs.Tryz.prog 3=some .i64:=by kernel_rfl
@[simp] theorem Ts:bx Go.Proofs.Tryz.prog 3=some [.d (.int .i64 0)]:=by kernel_rfl
@[simp] theorem R6:bE Go.Proofs.Tryz.prog 3=some 8:=by kernel_rfl
@[simp] theorem O5:Go.Proofs.Tryz.prog.concrete 3=true:=by kernel_rfl
@[simp] theorem Qw:Go.Proofs.Tryz.prog.eqGuardType Go.Proofs.Tryz.prog.depth 3=false:=by kernel_rfl
@[simp] theorem Z6:gw Go.Proofs.Tryz.prog 4=1:=by kernel_rfl
@[simp] theorem V9:(Go.Proofs.Tryz.prog.info? 4).isSome=true:=by kernel_rfl
@[simp] theorem Yo:cW Go.Proofs.Tryz.prog 4=some false:=by kernel_rfl
@[simp] theorem Yv:cj Go.Proofs.Tryz.prog 4=false:=by kernel_rfl
@[simp] theorem Tc:bx Go.Proofs.Tryz.prog 4=some [.d (.bool false)]:=by kernel_rfl
@[simp] theorem T3:bE Go.Proofs.Tryz.prog 4=some 1:=by kernel_rfl
@[simp] theorem NV:Go.Proofs.Tryz.prog.concrete 4=true:=by kernel_rfl
@[simp] theorem Q5:Go.Proofs.Tryz.prog.eqGuardType Go.Proofs.Tryz.prog.depth 4=false:=by kernel_rfl
@[simp] theorem Z3:gw Go.Proofs.Tryz.prog 5=1:=by kernel_rfl
@[simp] theorem XT:(Go.Proofs.Tryz.prog.info? 5).isSome=true:=by kernel_rfl
@[simp] theorem Yb:cW Go.Proofs.Tryz.prog 5=some false:=by kernel_rfl
@[simp] theorem ZH:cj Go.Proofs.Tryz.prog 5=false:=by kernel_rfl
@[simp] theorem Zn:nY Go.Proofs.Tryz.prog 5=some .u8:=by kernel_rfl
@[simp] theorem Ua:bx Go.Proofs.Tryz.prog 5=some [.d (.int .u8 0)]:=by kernel_rfl
@[simp] theorem RH:bE Go.Proofs.Tryz.prog 5=some 1:=by kernel_rfl
@[simp] theorem O9:Go.Proofs.Tryz.prog.concrete 5=true:=by kernel_rfl
@[simp] theorem PM:Go.Proofs.Tryz.prog.eqGuardType Go.Proofs.Tryz.prog.depth 5=false:=by kernel_rfl
@[simp] theorem Z7:gw Go.Proofs.Tryz.prog 9=1:=by kernel_rfl
@[simp] theorem XO:(Go.Proofs.Tryz.prog.info? 9).isSome=true:=by kernel_rfl
@[simp] theorem ZF:cW Go.Proofs.Tryz.prog 9=some false:=by kernel_rfl
@[simp] theorem Zw:cj Go.Proofs.Tryz.prog 9=true:=by kernel_rfl
@[simp] theorem R8:bx Go.Proofs.Tryz.prog 9=some [.d (.str [])]:=by kernel_rfl
@[simp] theorem UQ:bE Go.Proofs.Tryz.prog 9=some 16:=by kernel_rfl
@[simp] theorem Ny:Go.Proofs.Tryz.prog.concrete 9=true:=by kernel_rfl
@[simp] theorem QL:Go.Proofs.Tryz.prog.eqGuardType Go.Proofs.Tryz.prog.depth 9=false:=by kernel_rfl
@[simp] theorem ZT:gw Go.Proofs.Tryz.prog 22=1:=by kernel_rfl
@[simp] theorem RA:(Go.Proofs.Tryz.prog.info? 22).isSome=true:=by kernel_rfl
@[simp] theorem Xb:cW Go.Proofs.Tryz.prog 22=some false:=by kernel_rfl
@[simp] theorem Yl:eJ Go.Proofs.Tryz.prog 22=some (81,2):=by kernel_rfl
@[simp] theorem W6:cj Go.Proofs.Tryz.prog 22=false:=by kernel_rfl
@[simp] theorem Qs:bx Go.Proofs.Tryz.prog 22=some [.d (.nilsl)]:=by kernel_rfl
@[simp] theorem QW:bE Go.Proofs.Tryz.prog 22=some 24:=by kernel_rfl
@[simp] theorem Mx:Go.Proofs.Tryz.prog.concrete 22=true:=by kernel_rfl
@[simp] theorem Pj:Go.Proofs.Tryz.prog.eqGuardType Go.Proofs.Tryz.prog.depth 22=false:=by kernel_rfl
@[simp] theorem ZL:gw Go.Proofs.Tryz.prog 23=1:=by kernel_rfl
@[simp] theorem Vd:(Go.Proofs.Tryz.prog.info? 23).isSome=true:=by kernel_rfl
@[simp] theorem WM:cW Go.Proofs.Tryz.prog 23=some false:=by kernel_rfl
@[simp] theorem YZ:eJ Go.Proofs.Tryz.prog 23=some (67,3):=by kernel_rfl
@[simp] theorem Wa:cj Go.Proofs.Tryz.prog 23=false:=by kernel_rfl
@[simp] theorem Qt:bx Go.Proofs.Tryz.prog 23=some [.d (.nilsl)]:=by kernel_rfl
@[simp] theorem Qc:bE Go.Proofs.Tryz.prog 23=some 24:=by kernel_rfl
@[simp] theorem Mi:Go.Proofs.Tryz.prog.concrete 23=true:=by kernel_rfl
@[simp] theorem NS:Go.Proofs.Tryz.prog.eqGuardType Go.Proofs.Tryz.prog.depth 23=false:=by kernel_rfl
@[simp] theorem Zx:gw Go.Proofs.Tryz.prog 24=1:=by kernel_rfl
@[simp] theorem TI:(Go.Proofs.Tryz.prog.info? 24).isSome=true:=by kernel_rfl
@[simp] theorem Xa:cW Go.Proofs.Tryz.prog 24=some false:=by kernel_rfl
@[simp] theorem ZW:eJ Go.Proofs.Tryz.prog 24=some (55,7):=by kernel_rfl
@[simp] theorem V8:cj Go.Proofs.Tryz.prog 24=false:=by kernel_rfl
@[simp] theorem Q2:bx Go.Proofs.Tryz.prog 24=some [.d (.nilsl)]:=by kernel_rfl
@[simp] theorem Qu:bE Go.Proofs.Tryz.prog 24=some 24:=by kernel_rfl
@[simp] theorem L4:Go.Proofs.Tryz.prog.concrete 24=true:=by kernel_rfl
@[simp] theorem Pd:Go.Proofs.Tryz.prog.eqGuardType Go.Proofs.Tryz.prog.depth 24=false:=by kernel_rfl
@[simp] theorem Zo:gw Go.Proofs.Tryz.prog 25=1:=by kernel_rfl
@[simp] theorem SU:(Go.Proofs.Tryz.prog.info? 25).isSome=true:=by kernel_rfl
@[simp] theorem VZ:cW Go.Proofs.Tryz.prog 25=some false:=by kernel_rfl
@[simp] theorem Zy:eJ Go.Proofs.Tryz.prog 25=some (69,2):=by kernel_rfl
@[simp] theorem Ws:cj Go.Proofs.Tryz.prog 25=false:=by kernel_rfl
@[simp] theorem Rj:bx Go.Proofs.Tryz.prog 25=some [.d (.nilsl)]:=by kernel_rfl
@[simp] theorem Q0:bE Go.Proofs.Tryz.prog 25=some 24:=by kernel_rfl
@[simp] theorem L3:Go.Proofs.Tryz.prog.concrete 25=true:=by kernel_rfl
@[simp] theorem OQ:Go.Proofs.Tryz.prog.eqGuardType Go.Proofs.Tryz.prog.depth 25=false:=by kernel_rfl
@[simp] theorem Yf:gw Go.Proofs.Tryz.prog 27=8:=by kernel_rfl
@[simp] theorem SR:(Go.Proofs.Tryz.prog.info? 27).isSome=true:=by kernel_rfl
@[simp] theorem XD:cW Go.Proofs.Tryz.prog 27=some true:=by kernel_rfl
@[simp] theorem QF:c8 Go.Proofs.Tryz.prog 27 0=some (0,22):=by kernel_rfl
@[simp] theorem PA:c8 Go.Proofs.Tryz.prog 27 1=some (1,3):=by kernel_rfl
@[simp] theorem Qp:c8 Go.Proofs.Tryz.prog 27 2=some (2,23):=by kernel_rfl
@[simp] theorem P7:c8 Go.Proofs.Tryz.prog 27 3=some (3,24):=by kernel_rfl
@[simp] theorem Qn:c8 Go.Proofs.Tryz.prog 27 4=some (4,3):=by kernel_rfl
@[simp] theorem P5:c8 Go.Proofs.Tryz.prog 27 5=some (5,3):=by kernel_rfl
@[simp] theorem QC:c8 Go.Proofs.Tryz.prog 27 6=some (6,25):=by kernel_rfl
@[simp] theorem QK:c8 Go.Proofs.Tryz.prog 27 7=some (7,3):=by kernel_rfl
@[simp] theorem Xo:cj Go.Proofs.Tryz.prog 27=false:=by kernel_rfl
@[simp] theorem QH:bx Go.Proofs.Tryz.prog 27=some [.d (.nilsl),.d (.int .i64 0),.d (.nilsl),.d (.nilsl),.d (.int .i64 0),.d (.int .i64 0),.d (.nilsl),.d (.int .i64 0)]:=by kernel_rfl
@[simp] theorem Rg:bE Go.Proofs.Tryz.prog 27=some 128:=by kernel_rfl
@[simp] theorem Ma:Go.Proofs.Tryz.prog.concrete 27=true:=by kernel_rfl
@[simp] theorem NR:Go.Proofs.Tryz.prog.eqGuardType Go.Proofs.Tryz.prog.depth 27=false:=by kernel_rfl
@[simp] theorem Y6:gw Go.Proofs.Tryz.prog 30=1:=by kernel_rfl
@[simp] theorem TE:(Go.Proofs.Tryz.prog.info? 30).isSome=true:=by kernel_rfl
@[simp] theorem VO:cW Go.Proofs.Tryz.prog 30=some false:=by kernel_rfl
@[simp] theorem YD:eJ Go.Proofs.Tryz.prog 30=some (3,1):=by kernel_rfl
@[simp] theorem Xf:cj Go.Proofs.Tryz.prog 30=false:=by kernel_rfl
@[simp] theorem PX:bx Go.Proofs.Tryz.prog 30=some [.d (.nilsl)]:=by kernel_rfl
@[simp] theorem Q9:bE Go.Proofs.Tryz.prog 30=some 24:=by kernel_rfl
@[simp] theorem L5:Go.Proofs.Tryz.prog.concrete 30=true:=by kernel_rfl
@[simp] theorem Nl:Go.Proofs.Tryz.prog.eqGuardType Go.Proofs.Tryz.prog.depth 30=false:=by kernel_rfl
@[simp] theorem Z0:gw Go.Proofs.Tryz.prog 53=1:=by kernel_rfl
@[simp] theorem Ut:(Go.Proofs.Tryz.prog.info? 53).isSome=true:=by kernel_rfl
@[simp] theorem Wc:cW Go.Proofs.Tryz.prog 53=some false:=by kernel_rfl
@[simp] theorem W4:cj Go.Proofs.Tryz.prog 53=true:=by kernel_rfl
@[simp] theorem QG:bx Go.Proofs.Tryz.prog 53=some [.d (.str [])]:=by kernel_rfl
@[simp] theorem PN:bE Go.Proofs.Tryz.prog 53=some 16:=by kernel_rfl
@[simp] theorem L9:Go.Proofs.Tryz.prog.concrete 53=true:=by kernel_rfl
@[simp] theorem O8:Go.Proofs.Tryz.prog.eqGuardType Go.Proofs.Tryz.prog.depth 53=false:=by kernel_rfl
@[simp] theorem Yi:gw Go.Proofs.Tryz.prog 55=7:=by kernel_rfl
@[simp] theorem Vo:(Go.Proofs.Tryz.prog.info? 55).isSome=true:=by kernel_rfl
@[simp] theorem WV:cW Go.Proofs.Tryz.prog 55=some true:=by kernel_rfl
@[simp] theorem Qv:c8 Go.Proofs.Tryz.prog 55 0=some (0,3):=by kernel_rfl
@[simp] theorem Pq:c8 Go.Proofs.Tryz.prog 55 1=some (1,3):=by kernel_rfl
@[simp] theorem P6:c8 Go.Proofs.Tryz.prog 55 2=some (2,3):=by kernel_rfl
@[simp] theorem QD:c8 Go.Proofs.Tryz.prog 55 3=some (3,3):=by kernel_rfl
@[simp] theorem Q7:c8 Go.Proofs.Tryz.prog 55 4=some (4,3):=by kernel_rfl
@[simp] theorem Rb:c8 Go.Proofs.Tryz.prog 55 5=some (5,3):=by kernel_rfl
@[simp] theorem Qz:c8 Go.Proofs.Tryz.prog 55 6=some (6,53):=by kernel_rfl
@[simp] theorem WU:cj Go.Proofs.Tryz.prog 55=false:=by kernel_rfl
@[simp] theorem Q4:bx Go.Proofs.Tryz.prog 55=some [.d (.int .i64 0),.d (.int .i64 0),.d (.int .i64 0),.d (.int .i64 0),.d (.int .i64 0),.d (.int .i64 0),.d (.str [])]:=by kernel_rfl
@[simp] theorem QM:bE Go.Proofs.Tryz.prog 55=some 64:=by kernel_rfl
@[simp] theorem Mm:Go.Proofs.Tryz.prog.concrete 55=true:=by kernel_rfl
@[simp] theorem Ox:Go.Proofs.Tryz.prog.eqGuardType Go.Proofs.Tryz.prog.depth 55=false:=by kernel_rfl
@[simp] theorem Zm:gw Go.Proofs.Tryz.prog 59=1:=by kernel_rfl
@[simp] theorem S7:(Go.Proofs.Tryz.prog.info? 59).isSome=true:=by kernel_rfl
@[simp] theorem X1:cW Go.Proofs.Tryz.prog 59=some false:=by kernel_rfl
@[simp] theorem Yc:eJ Go.Proofs.Tryz.prog 59=some (53,1):=by kernel_rfl
@[simp] theorem XJ:cj Go.Proofs.Tryz.prog 59=false:=by kernel_rfl
@[simp] theorem Rc:bx Go.Proofs.Tryz.prog 59=some [.d (.nilsl)]:=by kernel_rfl
@[simp] theorem QN:bE Go.Proofs.Tryz.prog 59=some 24:=by kernel_rfl
@[simp] theorem Me:Go.Proofs.Tryz.prog.concrete 59=true:=by kernel_rfl
@[simp] theorem Pe:Go.Proofs.Tryz.prog.eqGuardType Go.Proofs.Tryz.prog.depth 59=false:=by kernel_rfl
@[simp] theorem ZS:gw Go.Proofs.Tryz.prog 67=3:=by kernel_rfl
@[simp] theorem Uf:(Go.Proofs.Tryz.prog.info? 67).isSome=true:=by kernel_rfl
@[simp] theorem XB:cW Go.Proofs.Tryz.prog 67=some true:=by kernel_rfl
@[simp] theorem QI:c8 Go.Proofs.Tryz.prog 67 0=some (0,3):=by kernel_rfl
@[simp] theorem P1:c8 Go.Proofs.Tryz.prog 67 1=some (1,53):=by kernel_rfl
@[simp] theorem Q1:c8 Go.Proofs.Tryz.prog 67 2=some (2,53):=by kernel_rfl
@[simp] theorem VS:cj Go.Proofs.Tryz.prog 67=false:=by kernel_rfl
@[simp] theorem P4:bx Go.Proofs.Tryz.prog 67=some [.d (.int .i64 0),.d (.str []),.d (.str [])]:=by kernel_rfl
@[simp] theorem QA:bE Go.Proofs.Tryz.prog 67=some 40:=by kernel_rfl
@[simp] theorem L8:Go.Proofs.Tryz.prog.concrete 67=true:=by kernel_rfl
@[simp] theorem N3:Go.Proofs.Tryz.prog.eqGuardType Go.Proofs.Tryz.prog.depth 67=false:=by kernel_rfl
@[simp] theorem YS:gw Go.Proofs.Tryz.prog 69=2:=by kernel_rfl
@[simp] theorem R9:(Go.Proofs.Tryz.prog.info? 69).isSome=true:=by kernel_rfl
@[simp] theorem Xv:cW Go.Proofs.Tryz.prog 69=some true:=by kernel_rfl
@[simp] theorem Qd:c8 Go.Proofs.Tryz.prog 69 0=some (0,3):=by kernel_rfl
@[simp] theorem Rf:c8 Go.Proofs.Tryz.prog 69 1=some (1,3):=by kernel_rfl
@[simp] theorem VU:cj Go.Proofs.Tryz.prog 69=false:=by kernel_rfl
@[simp] theorem QO:bx Go.Proofs.Tryz.prog 69=some [.d (.int .i64 0),.d (.int .i64 0)]:=by kernel_rfl
@[simp] theorem Py:bE Go.Proofs.Tryz.prog 69=some 16:=by kernel_rfl
@[simp] theorem MO:Go.Proofs.Tryz.prog.concrete 69=true:=by kernel_rfl
@[simp] theorem NK:Go.Proofs.Tryz.prog.eqGuardType Go.Proofs.Tryz.prog.depth 69=false:=by kernel_rfl
@[simp] theorem Ya:gw Go.Proofs.Tryz.prog 81=2:=by kernel_rfl
@[simp] theorem Rn:(Go.Proofs.Tryz.prog.info? 81).isSome=true:=by kernel_rfl
@[simp] theorem X6:cW Go.Proofs.Tryz.prog 81=some true:=by kernel_rfl
@[simp] theorem QU:c8 Go.Proofs.Tryz.prog 81 0=some (0,3):=by kernel_rfl
@[simp] theorem PW:c8 Go.Proofs.Tryz.prog 81 1=some (1,3):=by kernel_rfl
@[simp] theorem Xy:cj Go.Proofs.Tryz.prog 81=false:=by kernel_rfl
@[simp] theorem P8:bx Go.Proofs.Tryz.prog 81=some [.d (.int .i64 0),.d (.int .i64 0)]:=by kernel_rfl
@[simp] theorem Qm:bE Go.Proofs.Tryz.prog 81=some 16:=by kernel_rfl
@[simp] theorem ME:Go.Proofs.Tryz.prog.concrete 81=true:=by kernel_rfl
@[simp] theorem O3:Go.Proofs.Tryz.prog.eqGuardType Go.Proofs.Tryz.prog.depth 81=false:=by kernel_rfl
@[simp] theorem ZC:gw Go.Proofs.Tryz.prog 85=4:=by kernel_rfl
@[simp] theorem RC:(Go.Proofs.Tryz.prog.info? 85).isSome=true:=by kernel_rfl
@[simp] theorem XW:cW Go.Proofs.Tryz.prog 85=some true:=by kernel_rfl
@[simp] theorem Zi:ry Go.Proofs.Tryz.prog 85=some (4,3,1):=by kernel_rfl
@[simp] theorem X3:cj Go.Proofs.Tryz.prog 85=false:=by kernel_rfl
@[simp] theorem PY:bx Go.Proofs.Tryz.prog 85=some [.d (.int .i64 0),.d (.int .i64 0),.d (.int .i64 0),.d (.int .i64 0)]:=by kernel_rfl
@[simp] theorem Pr:bE Go.Proofs.Tryz.prog 85=some 32:=by kernel_rfl
@[simp] theorem L0:Go.Proofs.Tryz.prog.concrete 85=true:=by kernel_rfl
@[simp] theorem Nc:Go.Proofs.Tryz.prog.eqGuardType Go.Proofs.Tryz.prog.depth 85=false:=by kernel_rfl
@[simp] theorem XP:gw Go.Proofs.Tryz.prog 138=1:=by kernel_rfl
@[simp] theorem Rh:(Go.Proofs.Tryz.prog.info? 138).isSome=true:=by kernel_rfl
@[simp] theorem TJ:cW Go.Proofs.Tryz.prog 138=some false:=by kernel_rfl
@[simp] theorem Wj:eJ Go.Proofs.Tryz.prog 138=some (5,1):=by kernel_rfl
@[simp] theorem SO:cj Go.Proofs.Tryz.prog 138=false:=by kernel_rfl
@[simp] theorem N2:bx Go.Proofs.Tryz.prog 138=some [.d (.nilsl)]:=by kernel_rfl
@[simp] theorem NC:bE Go.Proofs.Tryz.prog 138=some 24:=by kernel_rfl
@[simp] theorem LF:Go.Proofs.Tryz.prog.concrete 138=true:=by kernel_rfl
@[simp] theorem MF:Go.Proofs.Tryz.prog.eqGuardType Go.Proofs.Tryz.prog.depth 138=false:=by kernel_rfl
@[simp] theorem XH:gw Go.Proofs.Tryz.prog 154=8:=by kernel_rfl
@[simp] theorem QT:(Go.Proofs.Tryz.prog.info? 154).isSome=true:=by kernel_rfl
@[simp] theorem Uh:cW Go.Proofs.Tryz.prog 154=some true:=by kernel_rfl
@[simp] theorem On:c8 Go.Proofs.Tryz.prog 154 0=some (0,27):=by kernel_rfl
@[simp] theorem Ul:cj Go.Proofs.Tryz.prog 154=false:=by kernel_rfl
@[simp] theorem Oa:bx Go.Proofs.Tryz.prog 154=some [.d (.nilsl),.d (.int .i64 0),.d (.nilsl),.d (.nilsl),.d (.int .i64 0),.d (.int .i64 0),.d (.nilsl),.d (.int .i64 0)]:=by kernel_rfl
@[simp] theorem Pf:bE Go.Proofs.Tryz.prog 154=some 128:=by kernel_rfl
@[simp] theorem LN:Go.Proofs.Tryz.prog.concrete 154=true:=by kernel_rfl
@[simp] theorem Mo:Go.Proofs.Tryz.prog.eqGuardType Go.Proofs.Tryz.prog.depth 154=false:=by kernel_rfl
@[simp] theorem Wu:gw Go.Proofs.Tryz.prog 156=1:=by kernel_rfl
@[simp] theorem P2:(Go.Proofs.Tryz.prog.info? 156).isSome=true:=by kernel_rfl
@[simp] theorem RY:cW Go.Proofs.Tryz.prog 156=some false:=by kernel_rfl
@[simp] theorem Vc:cj Go.Proofs.Tryz.prog 156=false:=by kernel_rfl
@[simp] theorem Nj:bx Go.Proofs.Tryz.prog 156=some [.d (.nilFunc)]:=by kernel_rfl
@[simp] theorem OD:bE Go.Proofs.Tryz.prog 156=some 8:=by kernel_rfl
@[simp] theorem Lr:Go.Proofs.Tryz.prog.concrete 156=true:=by kernel_rfl
@[simp] theorem Mk:Go.Proofs.Tryz.prog.eqGuardType Go.Proofs.Tryz.prog.depth 156=false:=by kernel_rfl
@[simp] theorem XL:gw Go.Proofs.Tryz.prog 157=2:=by kernel_rfl
@[simp] theorem Pz:(Go.Proofs.Tryz.prog.info? 157).isSome=true:=by kernel_rfl
@[simp] theorem RP:cW Go.Proofs.Tryz.prog 157=some true:=by kernel_rfl
@[simp] theorem NJ:c8 Go.Proofs.Tryz.prog 157 0=some (0,3):=by kernel_rfl
@[simp] theorem MX:c8 Go.Proofs.Tryz.prog 157 1=some (1,156):=by kernel_rfl
@[simp] theorem Vz:cj Go.Proofs.Tryz.prog 157=false:=by kernel_rfl
@[simp] theorem OA:bx Go.Proofs.Tryz.prog 157=some [.d (.int .i64 0),.d (.nilFunc)]:=by kernel_rfl
@[simp] theorem Pm:bE Go.Proofs.Tryz.prog 157=some 16:=by kernel_rfl
@[simp] theorem KC:Go.Proofs.Tryz.prog.concrete 157=true:=by kernel_rfl
@[simp] theorem Mw:Go.Proofs.Tryz.prog.eqGuardType Go.Proofs.Tryz.prog.depth 157=false:=by kernel_rfl
@[simp] theorem WD:gw Go.Proofs.Tryz.prog 158=1:=by kernel_rfl
@[simp] theorem PL:(Go.Proofs.Tryz.prog.info? 158).isSome=true:=by kernel_rfl
@[simp] theorem Tu:cW Go.Proofs.Tryz.prog 158=some false:=by kernel_rfl
@[simp] theorem VV:eJ Go.Proofs.Tryz.prog 158=some (157,2):=by kernel_rfl
@[simp] theorem Sf:cj Go.Proofs.Tryz.prog 158=false:=by kernel_rfl
@[simp] theorem Oe:bx Go.Proofs.Tryz.prog 158=some [.d (.nilsl)]:=by kernel_rfl
@[simp] theorem Ph:bE Go.Proofs.Tryz.prog 158=some 24:=by kernel_rfl
@[simp] theorem Li:Go.Proofs.Tryz.prog.concrete 158=true:=by kernel_rfl
@[simp] theorem My:Go.Proofs.Tryz.prog.eqGuardType Go.Proofs.Tryz.prog.depth 158=false:=by kernel_rfl
@[simp] theorem WH:gw Go.Proofs.Tryz.prog 168=2:=by kernel_rfl
@[simp] theorem QX:(Go.Proofs.Tryz.prog.info? 168).isSome=true:=by kernel_rfl
@[simp] theorem TX:cW Go.Proofs.Tryz.prog 168=some true:=by kernel_rfl
@[simp] theorem NI:c8 Go.Proofs.Tryz.prog 168 0=some (0,3):=by kernel_rfl
@[simp] theorem M5:c8 Go.Proofs.Tryz.prog 168 1=some (1,3):=by kernel_rfl
@[simp] theorem Sj:cj Go.Proofs.Tryz.prog 168=false:=by kernel_rfl
@[simp] theorem Ng:bx Go.Proofs.Tryz.prog 168=some [.d (.int .i64 0),.d (.int .i64 0)]:=by kernel_rfl
@[simp] theorem MS:bE Go.Proofs.Tryz.prog 168=some 16:=by kernel_rfl
@[simp] theorem Lh:Go.Proofs.Tryz.prog.concrete 168=true:=by kernel_rfl
@[simp] theorem Mg:Go.Proofs.Tryz.prog.eqGuardType Go.Proofs.Tryz.prog.depth 168=false:=by kernel_rfl
@[simp] theorem XR:gw Go.Proofs.Tryz.prog 213=1:=by kernel_rfl
@[simp] theorem PG:(Go.Proofs.Tryz.prog.info? 213).isSome=true:=by kernel_rfl
@[simp] theorem Tn:cW Go.Proofs.Tryz.prog 213=some false:=by kernel_rfl
@[simp] theorem Au:eJ Go.Proofs.Tryz.prog 213=some (2,1):=by kernel_rfl
@[simp] theorem Vj:cj Go.Proofs.Tryz.prog 213=false:=by kernel_rfl
@[simp] theorem NB:bx Go.Proofs.Tryz.prog 213=some [.d (.nilsl)]:=by kernel_rfl
@[simp] theorem Ou:bE Go.Proofs.Tryz.prog 213=some 24:=by kernel_rfl
@[simp] theorem KM:Go.Proofs.Tryz.prog.concrete 213=true:=by kernel_rfl
@[simp] theorem Mn:Go.Proofs.Tryz.prog.eqGuardType Go.Proofs.Tryz.prog.depth 213=false:=by kernel_rfl
@[simp] theorem WC:gw Go.Proofs.Tryz.prog 215=3:=by kernel_rfl
@[simp] theorem PK:(Go.Proofs.Tryz.prog.info? 215).isSome=true:=by kernel_rfl
@[simp] theorem U5:cW Go.Proofs.Tryz.prog 215=some true:=by kernel_rfl
@[simp] theorem Nf:c8 Go.Proofs.Tryz.prog 215 0=some (0,3):=by kernel_rfl
@[simp] theorem O0:c8 Go.Proofs.Tryz.prog 215 1=some (1,213):=by kernel_rfl
@[simp] theorem OO:c8 Go.Proofs.Tryz.prog 215 2=some (2,213):=by kernel_rfl
@[simp] theorem Td:cj Go.Proofs.Tryz.prog 215=false:=by kernel_rfl
@[simp] theorem Na:bx Go.Proofs.Tryz.prog 215=some [.d (.int .i64 0),.d (.nilsl),.d (.nilsl)]:=by kernel_rfl
@[simp] theorem M9:bE Go.Proofs.Tryz.prog 215=some 56:=by kernel_rfl
@[simp] theorem Kf:Go.Proofs.Tryz.prog.concrete 215=true:=by kernel_rfl
@[simp] theorem Mu:Go.Proofs.Tryz.prog.eqGuardType Go.Proofs.Tryz.prog.depth 215=false:=by kernel_rfl
@[simp] theorem WN:gw Go.Proofs.Tryz.prog 221=1:=by kernel_rfl
@[simp] theorem Pu:(Go.Proofs.Tryz.prog.info? 221).isSome=true:=by kernel_rfl
@[simp] theorem Rt:cW Go.Proofs.Tryz.prog 221=some false:=by kernel_rfl
@[simp] theorem uq:eJ Go.Proofs.Tryz.prog 221=some (322,1):=by kernel_rfl
@[simp] theorem RR:cj Go.Proofs.Tryz.prog 221=false:=by kernel_rfl
@[simp] theorem Ns:bx Go.Proofs.Tryz.prog 221=some [.d (.nilsl)]:=by kernel_rfl
@[simp] theorem Pn:bE Go.Proofs.Tryz.prog 221=some 24:=by kernel_rfl
@[simp] theorem LK:Go.Proofs.Tryz.prog.concrete 221=true:=by kernel_rfl
@[simp] theorem Mr:Go.Proofs.Tryz.prog.eqGuardType Go.Proofs.Tryz.prog.depth 221=false:=by kernel_rfl
@[simp] theorem Wk:gw Go.Proofs.Tryz.prog 222=1:=by kernel_rfl
@[simp] theorem Qx:(Go.Proofs.Tryz.prog.info? 222).isSome=true:=by kernel_rfl
@[simp] theorem SW:cW Go.Proofs.Tryz.prog 222=some false:=by kernel_rfl
@[simp] theorem fQ:eJ Go.Proofs.Tryz.prog 222=some (322,1):=by kernel_rfl
@[simp] theorem Uc:cj Go.Proofs.Tryz.prog 222=false:=by kernel_rfl
@[simp] theorem NQ:bx Go.Proofs.Tryz.prog 222=some [.d (.nilsl)]:=by kernel_rfl
@[simp] theorem OR:bE Go.Proofs.Tryz.prog 222=some 24:=by kernel_rfl
@[simp] theorem Ky:Go.Proofs.Tryz.prog.concrete 222=true:=by kernel_rfl
@[simp] theorem MK:Go.Proofs.Tryz.prog.eqGuardType Go.Proofs.Tryz.prog.depth 222=false:=by kernel_rfl
@[simp] theorem Xq:gw Go.Proofs.Tryz.prog 224=3:=by kernel_rfl
@[simp] theorem PT:(Go.Proofs.Tryz.prog.info? 224).isSome=true:=by kernel_rfl
@[simp] theorem Tk:cW Go.Proofs.Tryz.prog 224=some true:=by kernel_rfl
@[simp] theorem OH:c8 Go.Proofs.Tryz.prog 224 0=some (0,4):=by kernel_rfl
@[simp] theorem OZ:c8 Go.Proofs.Tryz.prog 224 1=some (1,222):=by kernel_rfl
@[simp] theorem OT:c8 Go.Proofs.Tryz.prog 224 2=some (2,222):=by kernel_rfl
@[simp] theorem RO:cj Go.Proofs.Tryz.prog 224=false:=by kernel_rfl
@[simp] theorem Oc:bx Go.Proofs.Tryz.prog 224=some [.d (.bool false),.d (.nilsl),.d (.nilsl)]:=by kernel_rfl
@[simp] theorem M1:bE Go.Proofs.Tryz.prog 224=some 56:=by kernel_rfl
@[simp] theorem Lw:Go.Proofs.Tryz.prog.concrete 224=true:=by kernel_rfl
@[simp] theorem Mb:Go.Proofs.Tryz.prog.eqGuardType Go.Proofs.Tryz.prog.depth 224=false:=by kernel_rfl
@[simp] theorem Wx:gw Go.Proofs.Tryz.prog 225=6:=by kernel_rfl
@[simp] theorem Ri:(Go.Proofs.Tryz.prog.info? 225).isSome=true:=by kernel_rfl
@[simp] theorem U9:cW Go.Proofs.Tryz.prog 225=some true:=by kernel_rfl
@[simp] theorem Wz:ry Go.Proofs.Tryz.prog 225=some (2,224,3):=by kernel_rfl
@[simp] theorem UR:cj Go.Proofs.Tryz.prog 225=false:=by kernel_rfl
@[simp] theorem NZ:bx Go.Proofs.Tryz.prog 225=some [.d (.bool false),.d (.nilsl),.d (.nilsl),.d (.bool false),.d (.nilsl),.d (.nilsl)]:=by kernel_rfl
@[simp] theorem NN:bE Go.Proofs.Tryz.prog 225=some 112:=by kernel_rfl
@[simp] theorem JW:Go.Proofs.Tryz.prog.concrete 225=true:=by kernel_rfl
@[simp] theorem MP:Go.Proofs.Tryz.prog.eqGuardType Go.Proofs.Tryz.prog.depth 225=false:=by kernel_rfl
@[simp] theorem Wm:gw Go.Proofs.Tryz.prog 271=1:=by kernel_rfl
@[simp] theorem Ra:(Go.Proofs.Tryz.prog.info? 271).isSome=true:=by kernel_rfl
@[simp] theorem RS:cW Go.Proofs.Tryz.prog 271=some false:=by kernel_rfl
@[simp] theorem Vs:cj Go.Proofs.Tryz.prog 271=false:=by kernel_rfl
@[simp] theorem qN:nY Go.Proofs.Tryz.prog 271=some .u64:=by kernel_rfl
@[simp] theorem Np:bx Go.Proofs.Tryz.prog 271=some [.d (.int .u64 0)]:=by kernel_rfl
@[simp] theorem Nv:bE Go.Proofs.Tryz.prog 271=some 8:=by kernel_rfl
@[simp] theorem JP:Go.Proofs.Tryz.prog.concrete 271=true:=by kernel_rfl
@[simp] theorem MM:Go.Proofs.Tryz.prog.eqGuardType Go.Proofs.Tryz.prog.depth 271=false:=by kernel_rfl
@[simp] theorem V3:gw Go.Proofs.Tryz.prog 282=4:=by kernel_rfl
@[simp] theorem Pw:(Go.Proofs.Tryz.prog.info? 282).isSome=true:=by kernel_rfl
@[simp] theorem SX:cW Go.Proofs.Tryz.prog 282=some true:=by kernel_rfl
@[simp] theorem No:c8 Go.Proofs.Tryz.prog 282 0=some (0,81):=by kernel_rfl
@[simp] theorem MZ:c8 Go.Proofs.Tryz.prog 282 1=some (2,3):=by kernel_rfl
@[simp] theorem N5:c8 Go.Proofs.Tryz.prog 282 2=some (3,3):=by kernel_rfl
@[simp] theorem UN:cj Go.Proofs.Tryz.prog 282=false:=by kernel_rfl
@[simp] theorem Ov:bx Go.Proofs.Tryz.prog 282=some [.d (.int .i64 0),.d (.int .i64 0),.d (.int .i64 0),.d (.int .i64 0)]:=by kernel_rfl
@[simp] theorem Nk:bE Go.Proofs.Tryz.prog 282=some 32:=by kernel_rfl
@[simp] theorem J4:Go.Proofs.Tryz.prog.concrete 282=true:=by kernel_rfl
@[simp] theorem MD:Go.Proofs.Tryz.prog.eqGuardType Go.Proofs.Tryz.prog.depth 282=false:=by kernel_rfl
@[simp] theorem Ej:gw Go.Proofs.Tryz.prog 322=1:=by kernel_rfl
@[simp] theorem xU:(Go.Proofs.Tryz.prog.info? 322).isSome=true:=by kernel_rfl
@[simp] theorem kI:cW Go.Proofs.Tryz.prog 322=some false:=by kernel_rfl
@[simp] theorem Sb:cj Go.Proofs.Tryz.prog 322=false:=by kernel_rfl
@[simp] theorem qd:nY Go.Proofs.Tryz.prog 322=some .u32:=by kernel_rfl
@[simp] theorem CG:bx Go.Proofs.Tryz.prog 322=some [.d (.int .u32 0)]:=by kernel_rfl
@[simp] theorem Dh:bE Go.Proofs.Tryz.prog 322=some 4:=by kernel_rfl
@[simp] theorem KS:Go.Proofs.Tryz.prog.concrete 322=true:=by kernel_rfl
@[simp] theorem Mj:Go.Proofs.Tryz.prog.eqGuardType Go.Proofs.Tryz.prog.depth 322=false:=by kernel_rfl
@[simp] theorem Xm:gw Go.Proofs.Tryz.prog 324=1:=by kernel_rfl
@[simp] theorem Qg:(Go.Proofs.Tryz.prog.info? 324).isSome=true:=by kernel_rfl
@[simp] theorem Si:cW Go.Proofs.Tryz.prog 324=some false:=by kernel_rfl
@[simp] theorem SF:cj Go.Proofs.Tryz.prog 324=false:=by kernel_rfl
@[simp] theorem Sk:nY Go.Proofs.Tryz.prog 324=some .u64:=by kernel_rfl
@[simp] theorem Ol:bx Go.Proofs.Tryz.prog 324=some [.d (.int .u64 0)]:=by kernel_rfl
@[simp] theorem Ob:bE Go.Proofs.Tryz.prog 324=some 8:=by kernel_rfl
@[simp] theorem LI:Go.Proofs.Tryz.prog.concrete 324=true:=by kernel_rfl
@[simp] theorem L7:Go.Proofs.Tryz.prog.eqGuardType Go.Proofs.Tryz.prog.depth 324=false:=by kernel_rfl
@[simp] theorem WI:gw Go.Proofs.Tryz.prog 325=1:=by kernel_rfl
@[simp] theorem Qf:(Go.Proofs.Tryz.prog.info? 325).isSome=true:=by kernel_rfl
@[simp] theorem U7:cW Go.Proofs.Tryz.prog 325=some false:=by kernel_rfl
@[simp] theorem X0:eJ Go.Proofs.Tryz.prog 325=some (327,2):=by kernel_rfl
@[simp] theorem TM:cj Go.Proofs.Tryz.prog 325=false:=by kernel_rfl
@[simp] theorem OP:bx Go.Proofs.Tryz.prog 325=some [.d (.nilsl)]:=by kernel_rfl
@[simp] theorem O4:bE Go.Proofs.Tryz.prog 325=some 24:=by kernel_rfl
@[simp] theorem KF:Go.Proofs.Tryz.prog.concrete 325=true:=by kernel_rfl
@[simp] theorem MG:Go.Proofs.Tryz.prog.eqGuardType Go.Proofs.Tryz.prog.depth 325=false:=by kernel_rfl
@[simp] theorem WL:gw Go.Proofs.Tryz.prog 342=256:=by kernel_rfl
@[simp] theorem QV:(Go.Proofs.Tryz.prog.info? 342).isSome=true:=by kernel_rfl
@[simp] theorem RF:cW Go.Proofs.Tryz.prog 342=some true:=by kernel_rfl
@[simp] theorem W9:ry Go.Proofs.Tryz.prog 342=some (256,4,1):=by kernel_rfl
@[simp] theorem RE:cj Go.Proofs.Tryz.prog 342=false:=by kernel_rfl
@[simp] theorem M7:bE Go.Proofs.Tryz.prog 342=some 256:=by kernel_rfl
@[simp] theorem Lm:Go.Proofs.Tryz.prog.concrete 342=true:=by kernel_rfl
@[simp] theorem Mz:Go.Proofs.Tryz.prog.eqGuardType Go.Proofs.Tryz.prog.depth 342=false:=by kernel_rfl
@[simp] theorem Wf:aK Go.Proofs.Tryz.prog 16=true:=by kernel_rfl
@[simp] theorem WG:aK Go.Proofs.Tryz.prog 17=true:=by kernel_rfl
@[simp] theorem WX:aK Go.Proofs.Tryz.prog 21=true:=by kernel_rfl
@[simp] theorem WJ:aK Go.Proofs.Tryz.prog 31=true:=by kernel_rfl
@[simp] theorem VX:aK Go.Proofs.Tryz.prog 32=true:=by kernel_rfl
@[simp] theorem WS:aK Go.Proofs.Tryz.prog 33=true:=by kernel_rfl
@[simp] theorem V4:aK Go.Proofs.Tryz.prog 34=true:=by kernel_rfl
@[simp] theorem W7:aK Go.Proofs.Tryz.prog 35=true:=by kernel_rfl
@[simp] theorem Xi:aK Go.Proofs.Tryz.prog 36=true:=by kernel_rfl
@[simp] theorem XI:aK Go.Proofs.Tryz.prog 45=true:=by kernel_rfl
@[simp] theorem VJ:aK Go.Proofs.Tryz.prog 51=true:=by kernel_rfl
@[simp] theorem XM:aK Go.Proofs.Tryz.prog 82=true:=by kernel_rfl
@[simp] theorem XF:aK Go.Proofs.Tryz.prog 83=true:=by kernel_rfl
@[simp] theorem Wv:aK Go.Proofs.Tryz.prog 84=true:=by kernel_rfl
@[simp] theorem WB:aK Go.Proofs.Tryz.prog 85=true:=by kernel_rfl
@[simp] theorem XZ:aK Go.Proofs.Tryz.prog 86=true:=by kernel_rfl
@[simp] theorem Xu:aK Go.Proofs.Tryz.prog 87=true:=by kernel_rfl
@[simp] theorem VW:aK Go.Proofs.Tryz.prog 88=true:=by kernel_rfl
@[simp] theorem Xh:aK Go.Proofs.Tryz.prog 89=true:=by kernel_rfl
@[simp] theorem Wp:aK Go.Proofs.Tryz.prog 90=true:=by kernel_rfl
@[simp] theorem V5:aK Go.Proofs.Tryz.prog 91=true:=by kernel_rfl
@[simp] theorem XV:aK Go.Proofs.Tryz.prog 92=true:=by kernel_rfl
@[simp] theorem Wy:aK Go.Proofs.Tryz.prog 93=true:=by kernel_rfl
@[simp] theorem WO:aK Go.Proofs.Tryz.prog 94=true:=by kernel_rfl
@[simp] theorem VQ:aK Go.Proofs.Tryz.prog 95=true:=by kernel_rfl
@[simp] theorem X4:aK Go.Proofs.Tryz.prog 96=true:=by kernel_rfl
@[simp] theorem VN:aK Go.Proofs.Tryz.prog 97=true:=by kernel_rfl
@[simp] theorem Wq:aK Go.Proofs.Tryz.prog 98=true:=by kernel_rfl
@[simp] theorem Xn:aK Go.Proofs.Tryz.prog 99=true:=by kernel_rfl
@[simp] theorem U3:aK Go.Proofs.Tryz.prog 153=true:=by kernel_rfl
@[simp] theorem TY:aK Go.Proofs.Tryz.prog 154=true:=by kernel_rfl
@[simp] theorem RN:aK Go.Proofs.Tryz.prog 158=true:=by kernel_rfl
@[simp] theorem Ub:aK Go.Proofs.Tryz.prog 159=true:=by kernel_rfl
@[simp] theorem Sn:aK Go.Proofs.Tryz.prog 160=true:=by kernel_rfl
@[simp] theorem Tp:aK Go.Proofs.Tryz.prog 161=true:=by kernel_rfl
@[simp] theorem Sc:aK Go.Proofs.Tryz.prog 162=true:=by kernel_rfl
@[simp] theorem RV:aK Go.Proofs.Tryz.prog 163=true:=by kernel_rfl
@[simp] theorem Tv:aK Go.Proofs.Tryz.prog 164=true:=by kernel_rfl
@[simp] theorem R3:aK Go.Proofs.Tryz.prog 165=true:=by kernel_rfl
@[simp] theorem Uw:aK Go.Proofs.Tryz.prog 166=true:=by kernel_rfl
@[simp] theorem SB:aK Go.Proofs.Tryz.prog 167=true:=by kernel_rfl
@[simp] theorem SY:aK Go.Proofs.Tryz.prog 168=true:=by kernel_rfl
@[simp] theorem Sd:aK Go.Proofs.Tryz.prog 169=true:=by kernel_rfl
@[simp] theorem RW:aK Go.Proofs.Tryz.prog 170=true:=by kernel_rfl
@[simp] theorem Ui:aK Go.Proofs.Tryz.prog 171=true:=by kernel_rfl
@[simp] theorem RI:aK Go.Proofs.Tryz.prog 172=true:=by kernel_rfl
@[simp] theorem Rp:aK Go.Proofs.Tryz.prog 198=true:=by kernel_rfl
@[simp] theorem TV:aK Go.Proofs.Tryz.prog 217=true:=by kernel_rfl
@[simp] theorem Rl:aK Go.Proofs.Tryz.prog 218=true:=by kernel_rfl
@[simp] theorem UJ:aK Go.Proofs.Tryz.prog 219=true:=by kernel_rfl
@[simp] theorem UU:aK Go.Proofs.Tryz.prog 221=true:=by kernel_rfl
@[simp] theorem TH:aK Go.Proofs.Tryz.prog 222=true:=by kernel_rfl
@[simp] theorem U4:aK Go.Proofs.Tryz.prog 223=true:=by kernel_rfl
@[simp] theorem Uu:aK Go.Proofs.Tryz.prog 224=true:=by kernel_rfl
@[simp] theorem Ux:aK Go.Proofs.Tryz.prog 225=true:=by kernel_rfl
@[simp] theorem Vp:aK Go.Proofs.Tryz.prog 226=true:=by kernel_rfl
@[simp] theorem S4:aK Go.Proofs.Tryz.prog 227=true:=by kernel_rfl
@[simp] theorem SA:aK Go.Proofs.Tryz.prog 228=true:=by kernel_rfl
@[simp] theorem Sr:aK Go.Proofs.Tryz.prog 229=true:=by kernel_rfl
@[simp] theorem Tm:aK Go.Proofs.Tryz.prog 230=true:=by kernel_rfl
@[simp] theorem Uy:aK Go.Proofs.Tryz.prog 231=true:=by kernel_rfl
@[simp] theorem SG:aK Go.Proofs.Tryz.prog 232=true:=by kernel_rfl
@[simp] theorem Tg:aK Go.Proofs.Tryz.prog 233=true:=by kernel_rfl
@[simp] theorem Ud:aK Go.Proofs.Tryz.prog 234=true:=by kernel_rfl
@[simp] theorem TT:aK Go.Proofs.Tryz.prog 235=true:=by kernel_rfl
@[simp] theorem TQ:aK Go.Proofs.Tryz.prog 236=true:=by kernel_rfl
@[simp] theorem Tx:aK Go.Proofs.Tryz.prog 237=true:=by kernel_rfl
@[simp] theorem UG:aK Go.Proofs.Tryz.prog 238=true:=by kernel_rfl
@[simp] theorem Tj:aK Go.Proofs.Tryz.prog 239=true:=by kernel_rfl
@[simp] theorem Rr:aK Go.Proofs.Tryz.prog 240=true:=by kernel_rfl
@[simp] theorem UL:aK Go.Proofs.Tryz.prog 241=true:=by kernel_rfl
@[simp] theorem Rv:aK Go.Proofs.Tryz.prog 242=true:=by kernel_rfl
@[simp] theorem S9:aK Go.Proofs.Tryz.prog 243=true:=by kernel_rfl
@[simp] theorem Tt:aK Go.Proofs.Tryz.prog 244=true:=by kernel_rfl
@[simp] theorem RG:aK Go.Proofs.Tryz.prog 245=true:=by kernel_rfl
@[simp] theorem Te:aK Go.Proofs.Tryz.prog 246=true:=by kernel_rfl
@[simp] theorem US:aK Go.Proofs.Tryz.prog 247=true:=by kernel_rfl
@[simp] theorem Ry:aK Go.Proofs.Tryz.prog 248=true:=by kernel_rfl
@[simp] theorem Vi:aK Go.Proofs.Tryz.prog 249=true:=by kernel_rfl
@[simp] theorem SN:aK Go.Proofs.Tryz.prog 253=true:=by kernel_rfl
@[simp] theorem St:aK Go.Proofs.Tryz.prog 254=true:=by kernel_rfl
@[simp] theorem UD:aK Go.Proofs.Tryz.prog 255=true:=by kernel_rfl
@[simp] theorem TU:aK Go.Proofs.Tryz.prog 261=true:=by kernel_rfl
@[simp] theorem SH:aK Go.Proofs.Tryz.prog 263=true:=by kernel_rfl
@[simp] theorem R5:aK Go.Proofs.Tryz.prog 270=true:=by kernel_rfl
@[simp] theorem Ti:aK Go.Proofs.Tryz.prog 273=true:=by kernel_rfl
@[simp] theorem Sw:aK Go.Proofs.Tryz.prog 274=true:=by kernel_rfl
@[simp] theorem SK:aK Go.Proofs.Tryz.prog 275=true:=by kernel_rfl
@[simp] theorem VB:aK Go.Proofs.Tryz.prog 276=true:=by kernel_rfl
@[simp] theorem RQ:aK Go.Proofs.Tryz.prog 277=true:=by kernel_rfl
@[simp] theorem Vg:aK Go.Proofs.Tryz.prog 278=true:=by kernel_rfl
@[simp] theorem Vh:aK Go.Proofs.Tryz.prog 280=true:=by kernel_rfl
@[simp] theorem HZ:aK Go.Proofs.Tryz.prog 281=true:=by kernel_rfl
@[simp] theorem T9:aK Go.Proofs.Tryz.prog 283=true:=by kernel_rfl
@[simp] theorem TK:aK Go.Proofs.Tryz.prog 284=true:=by kernel_rfl
@[simp] theorem Uz:aK Go.Proofs.Tryz.prog 285=true:=by kernel_rfl
@[simp] theorem R1:aK Go.Proofs.Tryz.prog 286=true:=by kernel_rfl
@[simp] theorem Uq:aK Go.Proofs.Tryz.prog 287=true:=by kernel_rfl
@[simp] theorem SJ:aK Go.Proofs.Tryz.prog 288=true:=by kernel_rfl
@[simp] theorem UT:aK Go.Proofs.Tryz.prog 289=true:=by kernel_rfl
@[simp] theorem UM:aK Go.Proofs.Tryz.prog 290=true:=by kernel_rfl
@[simp] theorem SE:aK Go.Proofs.Tryz.prog 291=true:=by kernel_rfl
@[simp] theorem VC:aK Go.Proofs.Tryz.prog 292=true:=by kernel_rfl
@[simp] theorem VD:aK Go.Proofs.Tryz.prog 293=true:=by kernel_rfl
@[simp] theorem VH:aK Go.Proofs.Tryz.prog 294=true:=by kernel_rfl
@[simp] theorem SI:aK Go.Proofs.Tryz.prog 295=true:=by kernel_rfl
@[simp] theorem SV:aK Go.Proofs.Tryz.prog 296=true:=by kernel_rfl
@[simp] theorem UX:aK Go.Proofs.Tryz.prog 307=true:=by kernel_rfl
@[simp] theorem VF:aK Go.Proofs.Tryz.prog 308=true:=by kernel_rfl
@[simp] theorem Ta:aK Go.Proofs.Tryz.prog 309=true:=by kernel_rfl
@[simp] theorem Tf:aK Go.Proofs.Tryz.prog 314=true:=by kernel_rfl
@[simp] theorem Sx:aK Go.Proofs.Tryz.prog 321=true:=by kernel_rfl
@[simp] theorem Sm:aK Go.Proofs.Tryz.prog 322=true:=by kernel_rfl
@[simp] theorem VG:aK Go.Proofs.Tryz.prog 323=true:=by kernel_rfl
@[simp] theorem TR:aK Go.Proofs.Tryz.prog 324=true:=by kernel_rfl
@[simp] theorem RM:aK Go.Proofs.Tryz.prog 325=true:=by kernel_rfl
@[simp] theorem Sq:aK Go.Proofs.Tryz.prog 326=true:=by kernel_rfl
@[simp] theorem S2:aK Go.Proofs.Tryz.prog 327=true:=by kernel_rfl
@[simp] theorem S5:aK Go.Proofs.Tryz.prog 328=true:=by kernel_rfl
@[simp] theorem UH:aK Go.Proofs.Tryz.prog 329=true:=by kernel_rfl
@[simp] theorem GP:aK Go.Proofs.Tryz.prog 331=true:=by kernel_rfl
@[simp] theorem SD:aK Go.Proofs.Tryz.prog 332=true:=by kernel_rfl
@[simp] theorem Va:aK Go.Proofs.Tryz.prog 333=true:=by kernel_rfl
@[simp] theorem Se:aK Go.Proofs.Tryz.prog 334=true:=by kernel_rfl
@[simp] theorem UZ:aK Go.Proofs.Tryz.prog 335=true:=by kernel_rfl
@[simp] theorem TC:aK Go.Proofs.Tryz.prog 336=true:=by kernel_rfl
@[simp] theorem UP:aK Go.Proofs.Tryz.prog 337=true:=by kernel_rfl
@[simp] theorem Vx:aK Go.Proofs.Tryz.prog 338=true:=by kernel_rfl
@[simp] theorem UW:aK Go.Proofs.Tryz.prog 339=true:=by kernel_rfl
@[simp] theorem S1:aK Go.Proofs.Tryz.prog 340=true:=by kernel_rfl
@[simp] theorem Sh:aK Go.Proofs.Tryz.prog 344=true:=by kernel_rfl
@[simp] theorem TN:aK Go.Proofs.Tryz.prog 357=true:=by kernel_rfl
@[simp] theorem Sy:aK Go.Proofs.Tryz.prog 358=true:=by kernel_rfl
@[simp] theorem VA:aK Go.Proofs.Tryz.prog 359=true:=by kernel_rfl
@[simp] theorem TF:aK Go.Proofs.Tryz.prog 360=true:=by kernel_rfl
@[simp] theorem So:aK Go.Proofs.Tryz.prog 361=true:=by kernel_rfl
end Go.Am.Ty
