/- Helpers. -/
import Derived.Test.YtldhlnmnfokbeaaGreatDoorTn02
import Derived.Test.YtldhlnmnfokbeaaGreatDoorProg

set_option linter.all false
set_option maxHeartbeats 8000000
set_option maxRecDepth 100000
namespace Go.Am.Ty
open Go.Proofs.Tryz
@[simp]def aeS:lM prog 2=1/\(prog.info? 2).isSome=true/\vz prog 2=some .i64/\dI prog 2=some [.d (.int .i64 0)]/\lf prog 2=some 8:=by and_intros<;>kernel_rfl
@[simp]def aeZ:lM prog 3=1/\(prog.info? 3).isSome=true/\fV prog 3=some false/\vz prog 3=some .i64/\dI prog 3=some [.d (.int .i64 0)]/\lf prog 3=some 8:=by and_intros<;>kernel_rfl
@[simp]def aeN:lM prog 4=1/\(prog.info? 4).isSome=true/\fV prog 4=some false/\dI prog 4=some [.d (.bool false)]/\lf prog 4=some 1:=by and_intros<;>kernel_rfl
@[simp]def ae5:lM prog 5=1/\(prog.info? 5).isSome=true/\vz prog 5=some .u8:=by and_intros<;>kernel_rfl
@[simp]def aeP:lM prog 9=1/\(prog.info? 9).isSome=true/\fV prog 9=some false/\lX prog 9=true/\lf prog 9=some 16:=by and_intros<;>kernel_rfl
@[simp]def ad8:fV prog 22=some false/\fU prog 22=some (119,2):=by and_intros<;>kernel_rfl
@[simp]def adr:fV prog 23=some false/\fU prog 23=some (121,3):=by and_intros<;>kernel_rfl
@[simp]def adv:fV prog 24=some false/\fU prog 24=some (85,7):=by and_intros<;>kernel_rfl
@[simp]def adH:fV prog 25=some false/\fU prog 25=some (192,2):=by and_intros<;>kernel_rfl
@[simp]def ad7:lM prog 27=8/\(prog.info? 27).isSome=true/\fV prog 27=some true/\eH prog 27 0=some (0,22)/\eH prog 27 1=some (1,3)/\eH prog 27 2=some (2,23)/\eH prog 27 3=some (3,24)/\eH prog 27 4=some (4,3)/\eH prog 27 5=some (5,3)/\eH prog 27 6=some (6,25)/\eH prog 27 7=some (7,3)/\dI prog 27=some [.d (.nilsl),.d (.int .i64 0),.d (.nilsl),.d (.nilsl),.d (.int .i64 0),.d (.int .i64 0),.d (.nilsl),.d (.int .i64 0)]:=by and_intros<;>kernel_rfl
@[simp]def aek:fV prog 28=some false/\fU prog 28=some (72,2):=by and_intros<;>kernel_rfl
@[simp]def adO:eH prog 30 0=some (0,27)/\eH prog 30 1=some (8,28)/\eH prog 30 2=some (9,3)/\eH prog 30 3=some (10,3):=by and_intros<;>kernel_rfl
@[simp]def aec:lM prog 32=1/\(prog.info? 32).isSome=true/\fV prog 32=some false:=by and_intros<;>kernel_rfl
@[simp]def adB:lM prog 34=3/\(prog.info? 34).isSome=true/\fV prog 34=some true/\eH prog 34 0=some (0,4)/\eH prog 34 1=some (1,32)/\eH prog 34 2=some (2,32)/\dI prog 34=some [.d (.bool false),.d (.nilsl),.d (.nilsl)]/\lf prog 34=some 56:=by and_intros<;>kernel_rfl
@[simp]def adC:lM prog 36=6/\(prog.info? 36).isSome=true/\fV prog 36=some true/\eH prog 36 0=some (0,34)/\eH prog 36 1=some (3,34)/\dI prog 36=some [.d (.bool false),.d (.nilsl),.d (.nilsl),.d (.bool false),.d (.nilsl),.d (.nilsl)]/\lf prog 36=some 112:=by and_intros<;>kernel_rfl
@[simp]def aem:fV prog 40=some false:=zt
@[simp]def adU:lM prog 42=3/\(prog.info? 42).isSome=true/\fV prog 42=some true/\eH prog 42 0=some (0,3)/\eH prog 42 1=some (1,40)/\eH prog 42 2=some (2,40)/\dI prog 42=some [.d (.int .i64 0),.d (.nilsl),.d (.nilsl)]:=by and_intros<;>kernel_rfl
@[simp]def adm:lM prog 44=6/\(prog.info? 44).isSome=true/\fV prog 44=some true/\eH prog 44 0=some (0,42)/\eH prog 44 1=some (3,42)/\dI prog 44=some [.d (.int .i64 0),.d (.nilsl),.d (.nilsl),.d (.int .i64 0),.d (.nilsl),.d (.nilsl)]/\lf prog 44=some 112:=by and_intros<;>kernel_rfl
@[simp]def aei:fV prog 53=some false/\dI prog 53=some [.d (.nilFunc)]:=by and_intros<;>kernel_rfl
@[simp]def aeb:fU prog 54=some (44,6):=zt
@[simp]def ads:fV prog 59=some false:=zt
@[simp]def adV:lM prog 61=1/\(prog.info? 61).isSome=true/\fV prog 61=some false/\fU prog 61=some (36,6)/\dI prog 61=some [.d (.nilsl)]:=by and_intros<;>kernel_rfl
@[simp]def ad3:fU prog 66=some (36,6)/\prog.concrete 66=true:=by and_intros<;>kernel_rfl
@[simp]def adF:lM prog 72=2/\(prog.info? 72).isSome=true/\fV prog 72=some true/\eH prog 72 0=some (0,59)/\eH prog 72 1=some (1,59)/\dI prog 72=some [.d (.str []),.d (.str [])]:=by and_intros<;>kernel_rfl
@[simp]def adg:fU prog 82=some (4,1):=zt
@[simp]def adq:lM prog 85=7/\(prog.info? 85).isSome=true/\fV prog 85=some true/\eH prog 85 0=some (0,3)/\eH prog 85 1=some (1,3)/\eH prog 85 2=some (2,3)/\eH prog 85 3=some (3,3)/\eH prog 85 4=some (4,3)/\eH prog 85 5=some (5,3)/\eH prog 85 6=some (6,59)/\dI prog 85=some [.d (.int .i64 0),.d (.int .i64 0),.d (.int .i64 0),.d (.int .i64 0),.d (.int .i64 0),.d (.int .i64 0),.d (.str [])]:=by and_intros<;>kernel_rfl
@[simp]def aef:fU prog 92=some (3,1):=zt
@[simp]def acZ:lM prog 119=2/\(prog.info? 119).isSome=true/\fV prog 119=some true/\eH prog 119 0=some (0,3)/\eH prog 119 1=some (1,3)/\dI prog 119=some [.d (.int .i64 0),.d (.int .i64 0)]:=by and_intros<;>kernel_rfl
@[simp]def ac2:lM prog 121=3/\(prog.info? 121).isSome=true/\fV prog 121=some true/\eH prog 121 0=some (0,3)/\eH prog 121 1=some (1,59)/\eH prog 121 2=some (2,59)/\dI prog 121=some [.d (.int .i64 0),.d (.str []),.d (.str [])]:=by and_intros<;>kernel_rfl
@[simp]def aaV:lM prog 128=8/\(prog.info? 128).isSome=true/\fV prog 128=some true/\eH prog 128 0=some (0,27)/\dI prog 128=some [.d (.nilsl),.d (.int .i64 0),.d (.nilsl),.d (.nilsl),.d (.int .i64 0),.d (.int .i64 0),.d (.nilsl),.d (.int .i64 0)]:=by and_intros<;>kernel_rfl
@[simp]def aaU:fV prog 130=some false:=zt
@[simp]def acQ:lM prog 131=2/\(prog.info? 131).isSome=true/\fV prog 131=some true/\eH prog 131 0=some (0,3)/\eH prog 131 1=some (1,130)/\dI prog 131=some [.d (.int .i64 0),.d (.nilFunc)]:=by and_intros<;>kernel_rfl
@[simp]def acP:fU prog 132=some (131,2):=zt
@[simp]def acJ:fV prog 143=some false:=zt
@[simp]def ac7:lM prog 147=4/\(prog.info? 147).isSome=true/\wW prog 147=some (4,3,1)/\dI prog 147=some [.d (.int .i64 0),.d (.int .i64 0),.d (.int .i64 0),.d (.int .i64 0)]:=by and_intros<;>kernel_rfl
@[simp]def acg:eH prog 150 0=some (0,3)/\eH prog 150 1=some (1,3):=by and_intros<;>kernel_rfl
@[simp]def acE:lM prog 156=1/\(prog.info? 156).isSome=true/\fV prog 156=some false/\fU prog 156=some (34,3):=by and_intros<;>kernel_rfl
@[simp]def abb:fU prog 176=some (53,1):=zt
@[simp]def acX:wW prog 187=some (2,34,3)/\dI prog 187=some [.d (.bool false),.d (.nilsl),.d (.nilsl),.d (.bool false),.d (.nilsl),.d (.nilsl)]:=by and_intros<;>kernel_rfl
@[simp]def abt:fU prog 188=some (59,1):=zt
@[simp]def aaL:lM prog 192=2/\(prog.info? 192).isSome=true/\fV prog 192=some true/\eH prog 192 0=some (0,3)/\eH prog 192 1=some (1,3)/\dI prog 192=some [.d (.int .i64 0),.d (.int .i64 0)]:=by and_intros<;>kernel_rfl
@[simp]def aba:vz prog 202=some .u64:=zt
@[simp]def ace:fU prog 212=some (42,3):=zt
@[simp]def aaJ:lM prog 218=7/\(prog.info? 218).isSome=true/\fV prog 218=some true/\eH prog 218 0=some (0,34)/\eH prog 218 1=some (3,156)/\eH prog 218 2=some (4,34)/\dI prog 218=some [.d (.bool false),.d (.nilsl),.d (.nilsl),.d (.nilsl),.d (.bool false),.d (.nilsl),.d (.nilsl)]/\lf prog 218=some 136:=by and_intros<;>kernel_rfl
@[simp]def acS:fU prog 223=some (9,1):=zt
@[simp]def ac9:lM prog 229=1/\(prog.info? 229).isSome=true/\fV prog 229=some false/\fU prog 229=some (5,1):=by and_intros<;>kernel_rfl
@[simp]def aaM:eH prog 231 1=some (1,229)/\dI prog 231=some [.d (.nilp),.d (.nilsl)]:=by and_intros<;>kernel_rfl
@[simp]def ab0:lM prog 238=4/\(prog.info? 238).isSome=true/\fV prog 238=some true/\eH prog 238 0=some (0,119)/\eH prog 238 2=some (3,3)/\dI prog 238=some [.d (.int .i64 0),.d (.int .i64 0),.d (.int .i64 0),.d (.int .i64 0)]:=by and_intros<;>kernel_rfl
@[simp]def acv:lM prog 247=256/\(prog.info? 247).isSome=true/\fV prog 247=some true/\wW prog 247=some (256,4,1):=by and_intros<;>kernel_rfl
@[simp]def ab1:fU prog 264=some (218,7):=zt
@[simp]def ab9:fU prog 267=some (36,6)/\prog.concrete 267=true:=by and_intros<;>kernel_rfl
@[simp]def aaK:fU prog 273=some (275,2):=zt
@[simp]def ack:wW prog 292=some (24,5,1)/\dI prog 292=some [.d (.int .u8 0),.d (.int .u8 0),.d (.int .u8 0),.d (.int .u8 0),.d (.int .u8 0),.d (.int .u8 0),.d (.int .u8 0),.d (.int .u8 0),.d (.int .u8 0),.d (.int .u8 0),.d (.int .u8 0),.d (.int .u8 0),.d (.int .u8 0),.d (.int .u8 0),.d (.int .u8 0),.d (.int .u8 0),.d (.int .u8 0),.d (.int .u8 0),.d (.int .u8 0),.d (.int .u8 0),.d (.int .u8 0),.d (.int .u8 0),.d (.int .u8 0),.d (.int .u8 0)]:=by and_intros<;>kernel_rfl
@[simp]def ae6:aE prog 4=true/\aE prog 5=true/\aE prog 6=true/\aE prog 7=true/\aE prog 8=true/\aE prog 9=true/\aE prog 10=true/\aE prog 11=true/\aE prog 12=true/\aE prog 13=true/\aE prog 14=true/\aE prog 15=true/\aE prog 16=true/\aE prog 17=true/\aE prog 18=true/\aE prog 19=true/\aE prog 20=true/\aE prog 21=true/\aE prog 22=true/\aE prog 23=true/\aE prog 24=true/\aE prog 25=true/\aE prog 26=true/\aE prog 27=true/\aE prog 28=true:=by and_intros<;>kernel_rfl
@[simp]def adX:aE prog 29=true/\aE prog 30=true/\aE prog 31=true/\aE prog 32=true/\aE prog 33=true/\aE prog 34=true/\aE prog 35=true/\aE prog 36=true/\aE prog 37=true/\aE prog 38=true/\aE prog 39=true/\aE prog 40=true/\aE prog 41=true/\aE prog 42=true/\aE prog 43=true/\aE prog 44=true/\aE prog 45=true/\aE prog 46=true/\aE prog 47=true/\aE prog 48=true/\aE prog 49=true/\aE prog 50=true/\aE prog 51=true/\aE prog 52=true/\aE prog 53=true:=by and_intros<;>kernel_rfl
@[simp]def adt:aE prog 54=true/\aE prog 55=true/\aE prog 56=true/\aE prog 57=true/\aE prog 58=true/\aE prog 59=true/\aE prog 60=true/\aE prog 61=true/\aE prog 62=true/\aE prog 63=true/\aE prog 64=true/\aE prog 65=true/\aE prog 66=true/\aE prog 67=true/\aE prog 68=true/\aE prog 69=true/\aE prog 70=true/\aE prog 71=true/\aE prog 72=true/\aE prog 73=true/\aE prog 74=true/\aE prog 75=true/\aE prog 76=true/\aE prog 77=true/\aE prog 78=true:=by and_intros<;>kernel_rfl
@[simp]def adp:aE prog 79=true/\aE prog 80=true/\aE prog 81=true/\aE prog 82=true/\aE prog 83=true/\aE prog 85=true/\aE prog 86=true/\aE prog 87=true/\aE prog 88=true/\aE prog 89=true/\aE prog 90=true/\aE prog 91=true/\aE prog 92=true/\aE prog 93=true/\aE prog 94=true/\aE prog 95=true/\aE prog 96=true/\aE prog 97=true/\aE prog 98=true/\aE prog 99=true/\aE prog 100=true/\aE prog 101=true/\aE prog 102=true/\aE prog 103=true/\aE prog 104=true:=by and_intros<;>kernel_rfl
@[simp]def adf:aE prog 105=true/\aE prog 106=true/\aE prog 107=true/\aE prog 108=true/\aE prog 109=true/\aE prog 110=true/\aE prog 111=true/\aE prog 112=true/\aE prog 113=true/\aE prog 114=true/\aE prog 115=true/\aE prog 116=true/\aE prog 117=true/\aE prog 118=true/\aE prog 119=true/\aE prog 120=true/\aE prog 121=true/\aE prog 122=true/\aE prog 123=true/\aE prog 124=true/\aE prog 125=true/\aE prog 126=true/\aE prog 127=true/\aE prog 128=true/\aE prog 129=true:=by and_intros<;>kernel_rfl
@[simp]def ac1:aE prog 130=true/\aE prog 131=true/\aE prog 132=true/\aE prog 133=true/\aE prog 134=true/\aE prog 135=true/\aE prog 136=true/\aE prog 137=true/\aE prog 138=true/\aE prog 139=true/\aE prog 140=true/\aE prog 141=true/\aE prog 142=true/\aE prog 143=true/\aE prog 144=true/\aE prog 145=true/\aE prog 146=true/\aE prog 147=true/\aE prog 148=true/\aE prog 149=true/\aE prog 150=true/\aE prog 151=true/\aE prog 152=true/\aE prog 153=true/\aE prog 154=true:=by and_intros<;>kernel_rfl
@[simp]def abK:aE prog 155=true/\aE prog 156=true/\aE prog 157=true/\aE prog 158=true/\aE prog 159=true/\aE prog 160=true/\aE prog 161=true/\aE prog 162=true/\aE prog 163=true/\aE prog 164=true/\aE prog 165=true/\aE prog 166=true/\aE prog 167=true/\aE prog 168=true/\aE prog 169=true/\aE prog 170=true/\aE prog 171=true/\aE prog 172=true/\aE prog 173=true/\aE prog 174=true/\aE prog 175=true/\aE prog 176=true/\aE prog 179=true/\aE prog 180=true/\aE prog 181=true:=by and_intros<;>kernel_rfl
@[simp]def aa8:aE prog 182=true/\aE prog 183=true/\aE prog 184=true/\aE prog 185=true/\aE prog 186=true/\aE prog 187=true/\aE prog 188=true/\aE prog 189=true/\aE prog 190=true/\aE prog 191=true/\aE prog 192=true/\aE prog 193=true/\aE prog 194=true/\aE prog 195=true/\aE prog 196=true/\aE prog 197=true/\aE prog 198=true/\aE prog 199=true/\aE prog 200=true/\aE prog 201=true/\aE prog 202=true/\aE prog 203=true/\aE prog 204=true/\aE prog 205=true/\aE prog 206=true:=by and_intros<;>kernel_rfl
@[simp]def aa4:aE prog 207=true/\aE prog 208=true/\aE prog 209=true/\aE prog 210=true/\aE prog 211=true/\aE prog 212=true/\aE prog 213=true/\aE prog 214=true/\aE prog 215=true/\aE prog 216=true/\aE prog 217=true/\aE prog 218=true/\aE prog 219=true/\aE prog 222=true/\aE prog 223=true/\aE prog 224=true/\aE prog 227=true/\aE prog 228=true/\aE prog 229=true/\aE prog 230=true/\aE prog 231=true/\aE prog 234=true/\aE prog 235=true/\aE prog 236=true/\aE prog 237=true:=by and_intros<;>kernel_rfl
@[simp]def ac8:aE prog 238=true/\aE prog 239=true/\aE prog 240=true/\aE prog 241=true/\aE prog 242=true/\aE prog 243=true/\aE prog 244=true/\aE prog 245=true/\aE prog 246=true/\aE prog 247=true/\aE prog 248=true/\aE prog 249=true/\aE prog 250=true/\aE prog 251=true/\aE prog 254=true/\aE prog 256=true/\aE prog 257=true/\aE prog 258=true/\aE prog 259=true/\aE prog 263=true/\aE prog 267=true/\aE prog 268=true/\aE prog 269=true/\aE prog 270=true/\aE prog 271=true:=by and_intros<;>kernel_rfl
@[simp]def aaG:aE prog 272=true/\aE prog 273=true/\aE prog 274=true/\aE prog 275=true/\aE prog 276=true/\aE prog 279=true/\aE prog 282=true/\aE prog 288=true/\aE prog 289=true/\aE prog 290=true/\aE prog 291=true/\aE prog 292=true/\aE prog 315=true/\aE prog 316=true/\aE prog 317=true/\aE prog 318=true/\aE prog 319=true/\aE prog 320=true/\aE prog 321=true/\aE prog 322=true/\aE prog 323=true/\aE prog 324=true/\aE prog 325=true/\aE prog 326=true/\aE prog 327=true:=by and_intros<;>kernel_rfl
@[simp]def aa9:aE prog 331=true/\aE prog 332=true/\aE prog 333=true/\aE prog 334=true/\aE prog 335=true/\aE prog 336=true/\aE prog 337=true/\aE prog 339=true/\aE prog 340=true/\aE prog 341=true/\aE prog 343=true/\aE prog 345=true/\aE prog 346=true:=by and_intros<;>kernel_rfl
@[simp]def O1:fV prog 2=some false:=zt
@[simp]def DR:fU prog 31=some (200,1):=zt
@[simp]def nJ:fU prog 32=some (200,1):=zt
@[simp]def Jb:fU prog 40=some (2,1):=zt
@[simp]def vX:vz prog 143=some .u64:=zt
@[simp]def JV:lM prog 200=1:=zt
@[simp]def Cr:(prog.info? 200).isSome=true:=zt
@[simp]def uD:fV prog 200=some false:=zt
@[simp]def vF:vz prog 200=some .u32:=zt
@[simp]def Jd:dI prog 200=some [.d (.int .u32 0)]:=zt
@[simp]def H7:lf prog 200=some 4:=zt
@[simp]def OW:aE prog 178=true:=zt
@[simp]def NH:aE prog 233=true:=zt
end Go.Am.Ty
