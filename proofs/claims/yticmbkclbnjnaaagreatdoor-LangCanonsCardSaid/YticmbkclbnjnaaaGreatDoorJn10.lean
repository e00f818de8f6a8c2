/- Helpers. -/
import Derived.Test.YticmbkclbnjnaaaGreatDoorJn09

set_option linter.all false
set_option maxHeartbeats 8000000
set_option maxRecDepth 100000
namespace Go.Am
open Go.Proofs
def H7:List UInt8:=[102,111,114,109,97,116,32,115,32,56,32,50,52,10,105,110,112,117,116,32,120,32,58,32,115,32,102,114,111,109,32,49,32,116,111,32,50,10,115,116,97,116,101,32,116,32,58,32,115,32,61,32,120,10,108,111,111,112,10,110,101,120,116,32,116,32,61,32,40,116,32,43,32,120,32,47,32,116,41,32,47,32,50,10,101,110,100,10,114,101,115,117,108,116,32,116,10]
def GC:AV:=(.tup [.agg [.d (.sl [[.int .i64 (.ofNat 8),.int .i64 (.ofNat 24)]]),.d (.int .i64 (.ofNat 0)),.d (.sl [[.int .i64 (.ofNat 0),.str [49],.str [50]]]),.d (.sl [[.int .i64 (.ofNat 1),.int .i64 (.ofNat 0),.int .i64 (.ofNat 0),.int .i64 (.ofNat 0),.int .i64 (.ofNat 0),.int .i64 (.ofNat 0),.str []],[.int .i64 (.ofNat 2),.int .i64 (.ofNat 0),.int .i64 (.ofNat 0),.int .i64 (.ofNat 0),.int .i64 (.ofNat 0),.int .i64 (.ofNat 0),.str []],[.int .i64 (.ofNat 11),.int .i64 (.ofNat 0),.int .i64 (.ofNat 1),.int .i64 (.ofNat 0),.int .i64 (.ofNat 0),.int .i64 (.ofNat 0),.str []],[.int .i64 (.ofNat 8),.int .i64 (.ofNat 1),.int .i64 (.ofNat 2),.int .i64 (.ofNat 0),.int .i64 (.ofNat 0),.int .i64 (.ofNat 0),.str []],[.int .i64 (.ofNat 3),.int .i64 (.ofNat 0),.int .i64 (.ofNat 0),.int .i64 (.ofNat 0),.int .i64 (.ofNat 0),.int .i64 (.ofNat 0),.str [50]],[.int .i64 (.ofNat 11),.int .i64 (.ofNat 3),.int .i64 (.ofNat 4),.int .i64 (.ofNat 0),.int .i64 (.ofNat 0),.int .i64 (.ofNat 0),.str []],[.int .i64 (.ofNat 2),.int .i64 (.ofNat 0),.int .i64 (.ofNat 0),.int .i64 (.ofNat 0),.int .i64 (.ofNat 0),.int .i64 (.ofNat 0),.str []]]),.d (.int .i64 (.ofNat 1)),.d (.int .i64 (.ofNat 6)),.d (.sl [[.int .i64 (.ofNat 0),.int .i64 (.ofNat 5)]]),.d (.int .i64 (.ofNat 6))],.c (.d (.int .i64 (.ofNat 0))),.c (.d (.int .i64 (.ofNat 0)))])
def N4(m:Int):aa Tryz.prog (GG m) 10 [.c (.d (.str H7))] GC:=aa.F4 (DQ m 80) (by kernel_rfl)
end Go.Am
