import Derived.Test.YtlldhkhmhgcpaaaDoorN4
import Derived.Test.YtlldhkhmhgcpaaaDoorXD
namespace Go.Sym
set_option linter.unusedVariables false
set_option linter.unusedSimpArgs false
open Go.Proofs
set_option maxRecDepth 100000
def andU (a b:Int):Int:=IntKind.u64.wrap (BitVec.ofInt IntKind.u64.bits a&&&BitVec.ofInt IntKind.u64.bits b).toNat
def shrU (a b:Int):Int:=a.fdiv (2 ^ min b.toNat IntKind.u64.bits)
def ones1 (x:Int):Int:=IntKind.u64.wrap (andU (shrU x 1) 6148914691236517205+andU x 6148914691236517205)
def ones2 (x:Int):Int:=IntKind.u64.wrap (andU (shrU x 2) 3689348814741910323+andU x 3689348814741910323)
def ones3 (x:Int):Int:=andU (IntKind.u64.wrap (shrU x 4+x)) 1085102592571150095
def ones4 (x:Int):Int:=IntKind.u64.wrap (x+shrU x 8)
def ones5 (x:Int):Int:=IntKind.u64.wrap (x+shrU x 16)
def ones6 (x:Int):Int:=IntKind.u64.wrap (x+shrU x 32)
def ones7 (x:Int):Int:=IntKind.i64.wrap (BitVec.ofInt IntKind.i64.bits (IntKind.i64.wrap x)&&&BitVec.ofInt IntKind.i64.bits 127).toNat
def onesF (x:Nat):Int:=ones7 (ones6 (ones5 (ones4 (ones3 (ones2 (ones1 (x:Int)))))))
def onesC:CT where
 X:=Nat
 pre:=fun x=>x<18446744073709551616
 args:=fun x=>[.i .u64 x]
 g0:=fun _=>[]
 res:=fun x=>.i .i64 (onesF x)
 g1:=fun _=>[]
def cfgOnes:Cfg:=⟨T,[8,14,18,23,27,31,33],[],noInv,40,{}⟩
set_option maxRecDepth 100000 in
theorem ones_keeps:Keeps cfgOnes Tryd.f64 onesC noIv:=Eq.mp (show((∀ x1:Nat,((x1<(18446744073709551616:Nat))->(((0:Int)<=(1:Int))/\(((0:Int)<=(2:Int))/\(((0:Int)<=(4:Int))/\(((0:Int)<=(8:Int))/\(((0:Int)<=(16:Int))/\(((0:Int)<=(32:Int))/\((IntKind.wrap .i64 (↑(BitVec.toNat (BitVec.ofInt (IntKind.bits .i64) (IntKind.wrap .i64 (IntKind.wrap .u64 (IntKind.wrap .u64 (IntKind.wrap .u64 (IntKind.wrap .u64 (↑(BitVec.toNat (BitVec.ofInt (IntKind.bits .u64) (IntKind.wrap .u64 (Int.fdiv (IntKind.wrap .u64 (IntKind.wrap .u64 (↑(BitVec.toNat (BitVec.ofInt (IntKind.bits .u64) (Int.fdiv (IntKind.wrap .u64 (IntKind.wrap .u64 (↑(BitVec.toNat (BitVec.ofInt (IntKind.bits .u64) (Int.fdiv (x1:Int) ((2:Int) ^ min (Int.toNat (1:Int)) (IntKind.bits .u64)))&&&BitVec.ofInt (IntKind.bits .u64) (6148914691236517205:Int))):Int)+IntKind.wrap .u64 (↑(BitVec.toNat (BitVec.ofInt (IntKind.bits .u64) (x1:Int)&&&BitVec.ofInt (IntKind.bits .u64) (6148914691236517205:Int))):Int))) ((2:Int) ^ min (Int.toNat (2:Int)) (IntKind.bits .u64)))&&&BitVec.ofInt (IntKind.bits .u64) (3689348814741910323:Int))):Int)+IntKind.wrap .u64 (↑(BitVec.toNat (BitVec.ofInt (IntKind.bits .u64) (IntKind.wrap .u64 (IntKind.wrap .u64 (↑(BitVec.toNat (BitVec.ofInt (IntKind.bits .u64) (Int.fdiv (x1:Int) ((2:Int) ^ min (Int.toNat (1:Int)) (IntKind.bits .u64)))&&&BitVec.ofInt (IntKind.bits .u64) (6148914691236517205:Int))):Int)+IntKind.wrap .u64 (↑(BitVec.toNat (BitVec.ofInt (IntKind.bits .u64) (x1:Int)&&&BitVec.ofInt (IntKind.bits .u64) (6148914691236517205:Int))):Int)))&&&BitVec.ofInt (IntKind.bits .u64) (3689348814741910323:Int))):Int))) ((2:Int) ^ min (Int.toNat (4:Int)) (IntKind.bits .u64))+IntKind.wrap .u64 (IntKind.wrap .u64 (↑(BitVec.toNat (BitVec.ofInt (IntKind.bits .u64) (Int.fdiv (IntKind.wrap .u64 (IntKind.wrap .u64 (↑(BitVec.toNat (BitVec.ofInt (IntKind.bits .u64) (Int.fdiv (x1:Int) ((2:Int) ^ min (Int.toNat (1:Int)) (IntKind.bits .u64)))&&&BitVec.ofInt (IntKind.bits .u64) (6148914691236517205:Int))):Int)+IntKind.wrap .u64 (↑(BitVec.toNat (BitVec.ofInt (IntKind.bits .u64) (x1:Int)&&&BitVec.ofInt (IntKind.bits .u64) (6148914691236517205:Int))):Int))) ((2:Int) ^ min (Int.toNat (2:Int)) (IntKind.bits .u64)))&&&BitVec.ofInt (IntKind.bits .u64) (3689348814741910323:Int))):Int)+IntKind.wrap .u64 (↑(BitVec.toNat (BitVec.ofInt (IntKind.bits .u64) (IntKind.wrap .u64 (IntKind.wrap .u64 (↑(BitVec.toNat (BitVec.ofInt (IntKind.bits .u64) (Int.fdiv (x1:Int) ((2:Int) ^ min (Int.toNat (1:Int)) (IntKind.bits .u64)))&&&BitVec.ofInt (IntKind.bits .u64) (6148914691236517205:Int))):Int)+IntKind.wrap .u64 (↑(BitVec.toNat (BitVec.ofInt (IntKind.bits .u64) (x1:Int)&&&BitVec.ofInt (IntKind.bits .u64) (6148914691236517205:Int))):Int)))&&&BitVec.ofInt (IntKind.bits .u64) (3689348814741910323:Int))):Int))))&&&BitVec.ofInt (IntKind.bits .u64) (1085102592571150095:Int))):Int)+Int.fdiv (IntKind.wrap .u64 (↑(BitVec.toNat (BitVec.ofInt (IntKind.bits .u64) (IntKind.wrap .u64 (Int.fdiv (IntKind.wrap .u64 (IntKind.wrap .u64 (↑(BitVec.toNat (BitVec.ofInt (IntKind.bits .u64) (Int.fdiv (IntKind.wrap .u64 (IntKind.wrap .u64 (↑(BitVec.toNat (BitVec.ofInt (IntKind.bits .u64) (Int.fdiv (x1:Int) ((2:Int) ^ min (Int.toNat (1:Int)) (IntKind.bits .u64)))&&&BitVec.ofInt (IntKind.bits .u64) (6148914691236517205:Int))):Int)+IntKind.wrap .u64 (↑(BitVec.toNat (BitVec.ofInt (IntKind.bits .u64) (x1:Int)&&&BitVec.ofInt (IntKind.bits .u64) (6148914691236517205:Int))):Int))) ((2:Int) ^ min (Int.toNat (2:Int)) (IntKind.bits .u64)))&&&BitVec.ofInt (IntKind.bits .u64) (3689348814741910323:Int))):Int)+IntKind.wrap .u64 (↑(BitVec.toNat (BitVec.ofInt (IntKind.bits .u64) (IntKind.wrap .u64 (IntKind.wrap .u64 (↑(BitVec.toNat (BitVec.ofInt (IntKind.bits .u64) (Int.fdiv (x1:Int) ((2:Int) ^ min (Int.toNat (1:Int)) (IntKind.bits .u64)))&&&BitVec.ofInt (IntKind.bits .u64) (6148914691236517205:Int))):Int)+IntKind.wrap .u64 (↑(BitVec.toNat (BitVec.ofInt (IntKind.bits .u64) (x1:Int)&&&BitVec.ofInt (IntKind.bits .u64) (6148914691236517205:Int))):Int)))&&&BitVec.ofInt (IntKind.bits .u64) (3689348814741910323:Int))):Int))) ((2:Int) ^ min (Int.toNat (4:Int)) (IntKind.bits .u64))+IntKind.wrap .u64 (IntKind.wrap .u64 (↑(BitVec.toNat (BitVec.ofInt (IntKind.bits .u64) (Int.fdiv (IntKind.wrap .u64 (IntKind.wrap .u64 (↑(BitVec.toNat (BitVec.ofInt (IntKind.bits .u64) (Int.fdiv (x1:Int) ((2:Int) ^ min (Int.toNat (1:Int)) (IntKind.bits .u64)))&&&BitVec.ofInt (IntKind.bits .u64) (6148914691236517205:Int))):Int)+IntKind.wrap .u64 (↑(BitVec.toNat (BitVec.ofInt (IntKind.bits .u64) (x1:Int)&&&BitVec.ofInt (IntKind.bits .u64) (6148914691236517205:Int))):Int))) ((2:Int) ^ min (Int.toNat (2:Int)) (IntKind.bits .u64)))&&&BitVec.ofInt (IntKind.bits .u64) (3689348814741910323:Int))):Int)+IntKind.wrap .u64 (↑(BitVec.toNat (BitVec.ofInt (IntKind.bits .u64) (IntKind.wrap .u64 (IntKind.wrap .u64 (↑(BitVec.toNat (BitVec.ofInt (IntKind.bits .u64) (Int.fdiv (x1:Int) ((2:Int) ^ min (Int.toNat (1:Int)) (IntKind.bits .u64)))&&&BitVec.ofInt (IntKind.bits .u64) (6148914691236517205:Int))):Int)+IntKind.wrap .u64 (↑(BitVec.toNat (BitVec.ofInt (IntKind.bits .u64) (x1:Int)&&&BitVec.ofInt (IntKind.bits .u64) (6148914691236517205:Int))):Int)))&&&BitVec.ofInt (IntKind.bits .u64) (3689348814741910323:Int))):Int))))&&&BitVec.ofInt (IntKind.bits .u64) (1085102592571150095:Int))):Int)) ((2:Int) ^ min (Int.toNat (8:Int)) (IntKind.bits .u64)))+Int.fdiv (IntKind.wrap .u64 (IntKind.wrap .u64 (↑(BitVec.toNat (BitVec.ofInt (IntKind.bits .u64) (IntKind.wrap .u64 (Int.fdiv (IntKind.wrap .u64 (IntKind.wrap .u64 (↑(BitVec.toNat (BitVec.ofInt (IntKind.bits .u64) (Int.fdiv (IntKind.wrap .u64 (IntKind.wrap .u64 (↑(BitVec.toNat (BitVec.ofInt (IntKind.bits .u64) (Int.fdiv (x1:Int) ((2:Int) ^ min (Int.toNat (1:Int)) (IntKind.bits .u64)))&&&BitVec.ofInt (IntKind.bits .u64) (6148914691236517205:Int))):Int)+IntKind.wrap .u64 (↑(BitVec.toNat (BitVec.ofInt (IntKind.bits .u64) (x1:Int)&&&BitVec.ofInt (IntKind.bits .u64) (6148914691236517205:Int))):Int))) ((2:Int) ^ min (Int.toNat (2:Int)) (IntKind.bits .u64)))&&&BitVec.ofInt (IntKind.bits .u64) (3689348814741910323:Int))):Int)+IntKind.wrap .u64 (↑(BitVec.toNat (BitVec.ofInt (IntKind.bits .u64) (IntKind.wrap .u64 (IntKind.wrap .u64 (↑(BitVec.toNat (BitVec.ofInt (IntKind.bits .u64) (Int.fdiv (x1:Int) ((2:Int) ^ min (Int.toNat (1:Int)) (IntKind.bits .u64)))&&&BitVec.ofInt (IntKind.bits .u64) (6148914691236517205:Int))):Int)+IntKind.wrap .u64 (↑(BitVec.toNat (BitVec.ofInt (IntKind.bits .u64) (x1:Int)&&&BitVec.ofInt (IntKind.bits .u64) (6148914691236517205:Int))):Int)))&&&BitVec.ofInt (IntKind.bits .u64) (3689348814741910323:Int))):Int))) ((2:Int) ^ min (Int.toNat (4:Int)) (IntKind.bits .u64))+IntKind.wrap .u64 (IntKind.wrap .u64 (↑(BitVec.toNat (BitVec.ofInt (IntKind.bits .u64) (Int.fdiv (IntKind.wrap .u64 (IntKind.wrap .u64 (↑(BitVec.toNat (BitVec.ofInt (IntKind.bits .u64) (Int.fdiv (x1:Int) ((2:Int) ^ min (Int.toNat (1:Int)) (IntKind.bits .u64)))&&&BitVec.ofInt (IntKind.bits .u64) (6148914691236517205:Int))):Int)+IntKind.wrap .u64 (↑(BitVec.toNat (BitVec.ofInt (IntKind.bits .u64) (x1:Int)&&&BitVec.ofInt (IntKind.bits .u64) (6148914691236517205:Int))):Int))) ((2:Int) ^ min (Int.toNat (2:Int)) (IntKind.bits .u64)))&&&BitVec.ofInt (IntKind.bits .u64) (3689348814741910323:Int))):Int)+IntKind.wrap .u64 (↑(BitVec.toNat (BitVec.ofInt (IntKind.bits .u64) (IntKind.wrap .u64 (IntKind.wrap .u64 (↑(BitVec.toNat (BitVec.ofInt (IntKind.bits .u64) (Int.fdiv (x1:Int) ((2:Int) ^ min (Int.toNat (1:Int)) (IntKind.bits .u64)))&&&BitVec.ofInt (IntKind.bits .u64) (6148914691236517205:Int))):Int)+IntKind.wrap .u64 (↑(BitVec.toNat (BitVec.ofInt (IntKind.bits .u64) (x1:Int)&&&BitVec.ofInt (IntKind.bits .u64) (6148914691236517205:Int))):Int)))&&&BitVec.ofInt (IntKind.bits .u64) (3689348814741910323:Int))):Int))))&&&BitVec.ofInt (IntKind.bits .u64) (1085102592571150095:Int))):Int)+Int.fdiv (IntKind.wrap .u64 (↑(BitVec.toNat (BitVec.ofInt (IntKind.bits .u64) (IntKind.wrap .u64 (Int.fdiv (IntKind.wrap .u64 (IntKind.wrap .u64 (↑(BitVec.toNat (BitVec.ofInt (IntKind.bits .u64) (Int.fdiv (IntKind.wrap .u64 (IntKind.wrap .u64 (↑(BitVec.toNat (BitVec.ofInt (IntKind.bits .u64) (Int.fdiv (x1:Int) ((2:Int) ^ min (Int.toNat (1:Int)) (IntKind.bits .u64)))&&&BitVec.ofInt (IntKind.bits .u64) (6148914691236517205:Int))):Int)+IntKind.wrap .u64 (↑(BitVec.toNat (BitVec.ofInt (IntKind.bits .u64) (x1:Int)&&&BitVec.ofInt (IntKind.bits .u64) (6148914691236517205:Int))):Int))) ((2:Int) ^ min (Int.toNat (2:Int)) (IntKind.bits .u64)))&&&BitVec.ofInt (IntKind.bits .u64) (3689348814741910323:Int))):Int)+IntKind.wrap .u64 (↑(BitVec.toNat (BitVec.ofInt (IntKind.bits .u64) (IntKind.wrap .u64 (IntKind.wrap .u64 (↑(BitVec.toNat (BitVec.ofInt (IntKind.bits .u64) (Int.fdiv (x1:Int) ((2:Int) ^ min (Int.toNat (1:Int)) (IntKind.bits .u64)))&&&BitVec.ofInt (IntKind.bits .u64) (6148914691236517205:Int))):Int)+IntKind.wrap .u64 (↑(BitVec.toNat (BitVec.ofInt (IntKind.bits .u64) (x1:Int)&&&BitVec.ofInt (IntKind.bits .u64) (6148914691236517205:Int))):Int)))&&&BitVec.ofInt (IntKind.bits .u64) (3689348814741910323:Int))):Int))) ((2:Int) ^ min (Int.toNat (4:Int)) (IntKind.bits .u64))+IntKind.wrap .u64 (IntKind.wrap .u64 (↑(BitVec.toNat (BitVec.ofInt (IntKind.bits .u64) (Int.fdiv (IntKind.wrap .u64 (IntKind.wrap .u64 (↑(BitVec.toNat (BitVec.ofInt (IntKind.bits .u64) (Int.fdiv (x1:Int) ((2:Int) ^ min (Int.toNat (1:Int)) (IntKind.bits .u64)))&&&BitVec.ofInt (IntKind.bits .u64) (6148914691236517205:Int))):Int)+IntKind.wrap .u64 (↑(BitVec.toNat (BitVec.ofInt (IntKind.bits .u64) (x1:Int)&&&BitVec.ofInt (IntKind.bits .u64) (6148914691236517205:Int))):Int))) ((2:Int) ^ min (Int.toNat (2:Int)) (IntKind.bits .u64)))&&&BitVec.ofInt (IntKind.bits .u64) (3689348814741910323:Int))):Int)+IntKind.wrap .u64 (↑(BitVec.toNat (BitVec.ofInt (IntKind.bits .u64) (IntKind.wrap .u64 (IntKind.wrap .u64 (↑(BitVec.toNat (BitVec.ofInt (IntKind.bits .u64) (Int.fdiv (x1:Int) ((2:Int) ^ min (Int.toNat (1:Int)) (IntKind.bits .u64)))&&&BitVec.ofInt (IntKind.bits .u64) (6148914691236517205:Int))):Int)+IntKind.wrap .u64 (↑(BitVec.toNat (BitVec.ofInt (IntKind.bits .u64) (x1:Int)&&&BitVec.ofInt (IntKind.bits .u64) (6148914691236517205:Int))):Int)))&&&BitVec.ofInt (IntKind.bits .u64) (3689348814741910323:Int))):Int))))&&&BitVec.ofInt (IntKind.bits .u64) (1085102592571150095:Int))):Int)) ((2:Int) ^ min (Int.toNat (8:Int)) (IntKind.bits .u64)))) ((2:Int) ^ min (Int.toNat (16:Int)) (IntKind.bits .u64)))+Int.fdiv (IntKind.wrap .u64 (IntKind.wrap .u64 (IntKind.wrap .u64 (↑(BitVec.toNat (BitVec.ofInt (IntKind.bits .u64) (IntKind.wrap .u64 (Int.fdiv (IntKind.wrap .u64 (IntKind.wrap .u64 (↑(BitVec.toNat (BitVec.ofInt (IntKind.bits .u64) (Int.fdiv (IntKind.wrap .u64 (IntKind.wrap .u64 (↑(BitVec.toNat (BitVec.ofInt (IntKind.bits .u64) (Int.fdiv (x1:Int) ((2:Int) ^ min (Int.toNat (1:Int)) (IntKind.bits .u64)))&&&BitVec.ofInt (IntKind.bits .u64) (6148914691236517205:Int))):Int)+IntKind.wrap .u64 (↑(BitVec.toNat (BitVec.ofInt (IntKind.bits .u64) (x1:Int)&&&BitVec.ofInt (IntKind.bits .u64) (6148914691236517205:Int))):Int))) ((2:Int) ^ min (Int.toNat (2:Int)) (IntKind.bits .u64)))&&&BitVec.ofInt (IntKind.bits .u64) (3689348814741910323:Int))):Int)+IntKind.wrap .u64 (↑(BitVec.toNat (BitVec.ofInt (IntKind.bits .u64) (IntKind.wrap .u64 (IntKind.wrap .u64 (↑(BitVec.toNat (BitVec.ofInt (IntKind.bits .u64) (Int.fdiv (x1:Int) ((2:Int) ^ min (Int.toNat (1:Int)) (IntKind.bits .u64)))&&&BitVec.ofInt (IntKind.bits .u64) (6148914691236517205:Int))):Int)+IntKind.wrap .u64 (↑(BitVec.toNat (BitVec.ofInt (IntKind.bits .u64) (x1:Int)&&&BitVec.ofInt (IntKind.bits .u64) (6148914691236517205:Int))):Int)))&&&BitVec.ofInt (IntKind.bits .u64) (3689348814741910323:Int))):Int))) ((2:Int) ^ min (Int.toNat (4:Int)) (IntKind.bits .u64))+IntKind.wrap .u64 (IntKind.wrap .u64 (↑(BitVec.toNat (BitVec.ofInt (IntKind.bits .u64) (Int.fdiv (IntKind.wrap .u64 (IntKind.wrap .u64 (↑(BitVec.toNat (BitVec.ofInt (IntKind.bits .u64) (Int.fdiv (x1:Int) ((2:Int) ^ min (Int.toNat (1:Int)) (IntKind.bits .u64)))&&&BitVec.ofInt (IntKind.bits .u64) (6148914691236517205:Int))):Int)+IntKind.wrap .u64 (↑(BitVec.toNat (BitVec.ofInt (IntKind.bits .u64) (x1:Int)&&&BitVec.ofInt (IntKind.bits .u64) (6148914691236517205:Int))):Int))) ((2:Int) ^ min (Int.toNat (2:Int)) (IntKind.bits .u64)))&&&BitVec.ofInt (IntKind.bits .u64) (3689348814741910323:Int))):Int)+IntKind.wrap .u64 (↑(BitVec.toNat (BitVec.ofInt (IntKind.bits .u64) (IntKind.wrap .u64 (IntKind.wrap .u64 (↑(BitVec.toNat (BitVec.ofInt (IntKind.bits .u64) (Int.fdiv (x1:Int) ((2:Int) ^ min (Int.toNat (1:Int)) (IntKind.bits .u64)))&&&BitVec.ofInt (IntKind.bits .u64) (6148914691236517205:Int))):Int)+IntKind.wrap .u64 (↑(BitVec.toNat (BitVec.ofInt (IntKind.bits .u64) (x1:Int)&&&BitVec.ofInt (IntKind.bits .u64) (6148914691236517205:Int))):Int)))&&&BitVec.ofInt (IntKind.bits .u64) (3689348814741910323:Int))):Int))))&&&BitVec.ofInt (IntKind.bits .u64) (1085102592571150095:Int))):Int)+Int.fdiv (IntKind.wrap .u64 (↑(BitVec.toNat (BitVec.ofInt (IntKind.bits .u64) (IntKind.wrap .u64 (Int.fdiv (IntKind.wrap .u64 (IntKind.wrap .u64 (↑(BitVec.toNat (BitVec.ofInt (IntKind.bits .u64) (Int.fdiv (IntKind.wrap .u64 (IntKind.wrap .u64 (↑(BitVec.toNat (BitVec.ofInt (IntKind.bits .u64) (Int.fdiv (x1:Int) ((2:Int) ^ min (Int.toNat (1:Int)) (IntKind.bits .u64)))&&&BitVec.ofInt (IntKind.bits .u64) (6148914691236517205:Int))):Int)+IntKind.wrap .u64 (↑(BitVec.toNat (BitVec.ofInt (IntKind.bits .u64) (x1:Int)&&&BitVec.ofInt (IntKind.bits .u64) (6148914691236517205:Int))):Int))) ((2:Int) ^ min (Int.toNat (2:Int)) (IntKind.bits .u64)))&&&BitVec.ofInt (IntKind.bits .u64) (3689348814741910323:Int))):Int)+IntKind.wrap .u64 (↑(BitVec.toNat (BitVec.ofInt (IntKind.bits .u64) (IntKind.wrap .u64 (IntKind.wrap .u64 (↑(BitVec.toNat (BitVec.ofInt (IntKind.bits .u64) (Int.fdiv (x1:Int) ((2:Int) ^ min (Int.toNat (1:Int)) (IntKind.bits .u64)))&&&BitVec.ofInt (IntKind.bits .u64) (6148914691236517205:Int))):Int)+IntKind.wrap .u64 (↑(BitVec.toNat (BitVec.ofInt (IntKind.bits .u64) (x1:Int)&&&BitVec.ofInt (IntKind.bits .u64) (6148914691236517205:Int))):Int)))&&&BitVec.ofInt (IntKind.bits .u64) (3689348814741910323:Int))):Int))) ((2:Int) ^ min (Int.toNat (4:Int)) (IntKind.bits .u64))+IntKind.wrap .u64 (IntKind.wrap .u64 (↑(BitVec.toNat (BitVec.ofInt (IntKind.bits .u64) (Int.fdiv (IntKind.wrap .u64 (IntKind.wrap .u64 (↑(BitVec.toNat (BitVec.ofInt (IntKind.bits .u64) (Int.fdiv (x1:Int) ((2:Int) ^ min (Int.toNat (1:Int)) (IntKind.bits .u64)))&&&BitVec.ofInt (IntKind.bits .u64) (6148914691236517205:Int))):Int)+IntKind.wrap .u64 (↑(BitVec.toNat (BitVec.ofInt (IntKind.bits .u64) (x1:Int)&&&BitVec.ofInt (IntKind.bits .u64) (6148914691236517205:Int))):Int))) ((2:Int) ^ min (Int.toNat (2:Int)) (IntKind.bits .u64)))&&&BitVec.ofInt (IntKind.bits .u64) (3689348814741910323:Int))):Int)+IntKind.wrap .u64 (↑(BitVec.toNat (BitVec.ofInt (IntKind.bits .u64) (IntKind.wrap .u64 (IntKind.wrap .u64 (↑(BitVec.toNat (BitVec.ofInt (IntKind.bits .u64) (Int.fdiv (x1:Int) ((2:Int) ^ min (Int.toNat (1:Int)) (IntKind.bits .u64)))&&&BitVec.ofInt (IntKind.bits .u64) (6148914691236517205:Int))):Int)+IntKind.wrap .u64 (↑(BitVec.toNat (BitVec.ofInt (IntKind.bits .u64) (x1:Int)&&&BitVec.ofInt (IntKind.bits .u64) (6148914691236517205:Int))):Int)))&&&BitVec.ofInt (IntKind.bits .u64) (3689348814741910323:Int))):Int))))&&&BitVec.ofInt (IntKind.bits .u64) (1085102592571150095:Int))):Int)) ((2:Int) ^ min (Int.toNat (8:Int)) (IntKind.bits .u64)))+Int.fdiv (IntKind.wrap .u64 (IntKind.wrap .u64 (↑(BitVec.toNat (BitVec.ofInt (IntKind.bits .u64) (IntKind.wrap .u64 (Int.fdiv (IntKind.wrap .u64 (IntKind.wrap .u64 (↑(BitVec.toNat (BitVec.ofInt (IntKind.bits .u64) (Int.fdiv (IntKind.wrap .u64 (IntKind.wrap .u64 (↑(BitVec.toNat (BitVec.ofInt (IntKind.bits .u64) (Int.fdiv (x1:Int) ((2:Int) ^ min (Int.toNat (1:Int)) (IntKind.bits .u64)))&&&BitVec.ofInt (IntKind.bits .u64) (6148914691236517205:Int))):Int)+IntKind.wrap .u64 (↑(BitVec.toNat (BitVec.ofInt (IntKind.bits .u64) (x1:Int)&&&BitVec.ofInt (IntKind.bits .u64) (6148914691236517205:Int))):Int))) ((2:Int) ^ min (Int.toNat (2:Int)) (IntKind.bits .u64)))&&&BitVec.ofInt (IntKind.bits .u64) (3689348814741910323:Int))):Int)+IntKind.wrap .u64 (↑(BitVec.toNat (BitVec.ofInt (IntKind.bits .u64) (IntKind.wrap .u64 (IntKind.wrap .u64 (↑(BitVec.toNat (BitVec.ofInt (IntKind.bits .u64) (Int.fdiv (x1:Int) ((2:Int) ^ min (Int.toNat (1:Int)) (IntKind.bits .u64)))&&&BitVec.ofInt (IntKind.bits .u64) (6148914691236517205:Int))):Int)+IntKind.wrap .u64 (↑(BitVec.toNat (BitVec.ofInt (IntKind.bits .u64) (x1:Int)&&&BitVec.ofInt (IntKind.bits .u64) (6148914691236517205:Int))):Int)))&&&BitVec.ofInt (IntKind.bits .u64) (3689348814741910323:Int))):Int))) ((2:Int) ^ min (Int.toNat (4:Int)) (IntKind.bits .u64))+IntKind.wrap .u64 (IntKind.wrap .u64 (↑(BitVec.toNat (BitVec.ofInt (IntKind.bits .u64) (Int.fdiv (IntKind.wrap .u64 (IntKind.wrap .u64 (↑(BitVec.toNat (BitVec.ofInt (IntKind.bits .u64) (Int.fdiv (x1:Int) ((2:Int) ^ min (Int.toNat (1:Int)) (IntKind.bits .u64)))&&&BitVec.ofInt (IntKind.bits .u64) (6148914691236517205:Int))):Int)+IntKind.wrap .u64 (↑(BitVec.toNat (BitVec.ofInt (IntKind.bits .u64) (x1:Int)&&&BitVec.ofInt (IntKind.bits .u64) (6148914691236517205:Int))):Int))) ((2:Int) ^ min (Int.toNat (2:Int)) (IntKind.bits .u64)))&&&BitVec.ofInt (IntKind.bits .u64) (3689348814741910323:Int))):Int)+IntKind.wrap .u64 (↑(BitVec.toNat (BitVec.ofInt (IntKind.bits .u64) (IntKind.wrap .u64 (IntKind.wrap .u64 (↑(BitVec.toNat (BitVec.ofInt (IntKind.bits .u64) (Int.fdiv (x1:Int) ((2:Int) ^ min (Int.toNat (1:Int)) (IntKind.bits .u64)))&&&BitVec.ofInt (IntKind.bits .u64) (6148914691236517205:Int))):Int)+IntKind.wrap .u64 (↑(BitVec.toNat (BitVec.ofInt (IntKind.bits .u64) (x1:Int)&&&BitVec.ofInt (IntKind.bits .u64) (6148914691236517205:Int))):Int)))&&&BitVec.ofInt (IntKind.bits .u64) (3689348814741910323:Int))):Int))))&&&BitVec.ofInt (IntKind.bits .u64) (1085102592571150095:Int))):Int)+Int.fdiv (IntKind.wrap .u64 (↑(BitVec.toNat (BitVec.ofInt (IntKind.bits .u64) (IntKind.wrap .u64 (Int.fdiv (IntKind.wrap .u64 (IntKind.wrap .u64 (↑(BitVec.toNat (BitVec.ofInt (IntKind.bits .u64) (Int.fdiv (IntKind.wrap .u64 (IntKind.wrap .u64 (↑(BitVec.toNat (BitVec.ofInt (IntKind.bits .u64) (Int.fdiv (x1:Int) ((2:Int) ^ min (Int.toNat (1:Int)) (IntKind.bits .u64)))&&&BitVec.ofInt (IntKind.bits .u64) (6148914691236517205:Int))):Int)+IntKind.wrap .u64 (↑(BitVec.toNat (BitVec.ofInt (IntKind.bits .u64) (x1:Int)&&&BitVec.ofInt (IntKind.bits .u64) (6148914691236517205:Int))):Int))) ((2:Int) ^ min (Int.toNat (2:Int)) (IntKind.bits .u64)))&&&BitVec.ofInt (IntKind.bits .u64) (3689348814741910323:Int))):Int)+IntKind.wrap .u64 (↑(BitVec.toNat (BitVec.ofInt (IntKind.bits .u64) (IntKind.wrap .u64 (IntKind.wrap .u64 (↑(BitVec.toNat (BitVec.ofInt (IntKind.bits .u64) (Int.fdiv (x1:Int) ((2:Int) ^ min (Int.toNat (1:Int)) (IntKind.bits .u64)))&&&BitVec.ofInt (IntKind.bits .u64) (6148914691236517205:Int))):Int)+IntKind.wrap .u64 (↑(BitVec.toNat (BitVec.ofInt (IntKind.bits .u64) (x1:Int)&&&BitVec.ofInt (IntKind.bits .u64) (6148914691236517205:Int))):Int)))&&&BitVec.ofInt (IntKind.bits .u64) (3689348814741910323:Int))):Int))) ((2:Int) ^ min (Int.toNat (4:Int)) (IntKind.bits .u64))+IntKind.wrap .u64 (IntKind.wrap .u64 (↑(BitVec.toNat (BitVec.ofInt (IntKind.bits .u64) (Int.fdiv (IntKind.wrap .u64 (IntKind.wrap .u64 (↑(BitVec.toNat (BitVec.ofInt (IntKind.bits .u64) (Int.fdiv (x1:Int) ((2:Int) ^ min (Int.toNat (1:Int)) (IntKind.bits .u64)))&&&BitVec.ofInt (IntKind.bits .u64) (6148914691236517205:Int))):Int)+IntKind.wrap .u64 (↑(BitVec.toNat (BitVec.ofInt (IntKind.bits .u64) (x1:Int)&&&BitVec.ofInt (IntKind.bits .u64) (6148914691236517205:Int))):Int))) ((2:Int) ^ min (Int.toNat (2:Int)) (IntKind.bits .u64)))&&&BitVec.ofInt (IntKind.bits .u64) (3689348814741910323:Int))):Int)+IntKind.wrap .u64 (↑(BitVec.toNat (BitVec.ofInt (IntKind.bits .u64) (IntKind.wrap .u64 (IntKind.wrap .u64 (↑(BitVec.toNat (BitVec.ofInt (IntKind.bits .u64) (Int.fdiv (x1:Int) ((2:Int) ^ min (Int.toNat (1:Int)) (IntKind.bits .u64)))&&&BitVec.ofInt (IntKind.bits .u64) (6148914691236517205:Int))):Int)+IntKind.wrap .u64 (↑(BitVec.toNat (BitVec.ofInt (IntKind.bits .u64) (x1:Int)&&&BitVec.ofInt (IntKind.bits .u64) (6148914691236517205:Int))):Int)))&&&BitVec.ofInt (IntKind.bits .u64) (3689348814741910323:Int))):Int))))&&&BitVec.ofInt (IntKind.bits .u64) (1085102592571150095:Int))):Int)) ((2:Int) ^ min (Int.toNat (8:Int)) (IntKind.bits .u64)))) ((2:Int) ^ min (Int.toNat (16:Int)) (IntKind.bits .u64)))) ((2:Int) ^ min (Int.toNat (32:Int)) (IntKind.bits .u64)))))&&&BitVec.ofInt (IntKind.bits .i64) (127:Int))):Int)=onesF x1)/\True))))))))))=(Keeps cfgOnes Tryd.f64 onesC noIv) by kernel_rfl) (fun x1=>fun h2=>⟨(by omega),
(by omega),
(by omega),
(by omega),
(by omega),
(by omega),
(by
       exact rfl),
trivial⟩)
theorem ones_good:Good Tryd.prog 64 onesC/\FnOk Tryd.prog 64:=good_of tok (ConL.ok .nil) (fn:=Tryd.f64) rfl (by decide+kernel) (fun _=>rfl) ones_keeps
theorem ones7_rng (x:Int):0<=ones7 x/\ones7 x<=127:=by
 unfold ones7
 have h:(BitVec.ofInt IntKind.i64.bits (IntKind.i64.wrap x)&&&BitVec.ofInt IntKind.i64.bits 127).toNat<=127:=by
  rw[BitVec.toNat_and]
  exact Nat.le_trans Nat.and_le_right (by decide)
 generalize(BitVec.ofInt IntKind.i64.bits (IntKind.i64.wrap x)&&&BitVec.ofInt IntKind.i64.bits 127).toNat=n at*
 have:IntKind.i64.wrap (n:Int)=n:=IntWalk.i64_in _ (by omega)
 omega
theorem onesF_rng (x:Nat):0<=onesF x/\onesF x<=127:=ones7_rng _
def lenAt (ws:List Nat) (k:Nat):Int:=((List.range k).map fun i=>onesF (ws.getD i default)).sum
theorem lenAt_succ (ws:List Nat) (k:Nat):lenAt ws (k+1)=lenAt ws k+onesF (ws.getD k default):=by
 unfold lenAt;rw[List.range_succ,List.map_append,List.sum_append];simp
theorem lenAt_rng (ws:List Nat):∀ k:Nat,0<=lenAt ws k/\lenAt ws k<=127*k
 |0=>by simp[lenAt]
 |k+1=>by have:=lenAt_rng ws k;have:=onesF_rng (ws.getD k default);rw[lenAt_succ];omega
def lenW (ws:List Nat):Int:=if ws=nilW then 0 else lenAt ws 64
theorem lenW_rng (ws:List Nat):0<=lenW ws/\lenW ws<=8128:=by
 unfold lenW;split
 ·omega
 ·have:=lenAt_rng ws 64;omega
theorem lenW_none {ws:List Nat} (h:szW ws=0):lenW ws=0:=by unfold lenW;rw[if_pos (szW_zero.1 h)]
theorem lenW_some {ws:List Nat} (h:¬ szW ws=0):lenW ws=lenAt ws 64:=by unfold lenW;rw[if_neg (fun q=>h (szW_zero.2 q))]
def cfgN5:Cfg:=⟨T,[],[(64,.one onesC)],noInv,11,{}⟩
theorem conN5:ConOk Tryd.prog cfgN5:=ConL.ok (.cons (ConL.one ones_good) .nil)
def lenC:CT where
 X:=List Nat
 pre:=WOk
 args:=fun ws=>[setV ws 100000]
 g0:=fun ws=>setH ws .bor 100000
 res:=fun ws=>.i .i64 (lenW ws)
 g1:=fun _=>[]
def lenI (ws:List Nat) (id:Nat):Option Inv:=match id with
 |0=>some { X:=Nat,ok:=fun k=>k<=64,fr:=fun k=>[(3,.i .i64 (lenAt ws k)),(11,.i .i64 k)],hp:=fun k=>[],me:=fun k=>64-k }
 |_=>none
theorem nat0 (k:Nat):0+((k:Nat):Int).toNat=k:=by simp
set_option maxRecDepth 100000 in
theorem len_keeps:Keeps cfgN5 Tryd.f49 lenC lenI:=Eq.mp (show((∀ x1:List Nat,((WOk x1)->((((!decide (szW x1=(0:Nat)))=true)->(∃ x4:Nat,(((x4<=(64:Nat))/\((((0:Int)=lenAt x1 x4)/\((0=(x4:Int))/\((szW x1=szW x1)/\((0=0/\0=0)/\(((!decide (szW x1=(0:Nat)))= !decide (szW x1=(0:Nat)))/\((szW x1=szW x1)/\((0=0/\0=0)/\(((0:Int)=0)/\((0=0/\0=0)/\(((szW x1=szW x1)/\True)/\True))))))))))/\(((szW x1=szW x1)/\True)/\(((RLe (szW x1) (szW x1))/\(RowsEq [.int .u64] (szW x1) (encL encW x1) (encL encW x1)))/\True))))/\(∀ x5:Nat,((x5<=(64:Nat))->(((decide ((x5:Int)<64)=true)->((szW x1≠(0:Nat))/\((((0:Int)<=(x5:Int))/\((x5:Int)<(↑(64:Nat):Int)))/\((0+Int.toNat (x5:Int)<szW x1)/\(∃ x8:Nat,((x8<(18446744073709551616:Nat))/\((((↑(x1.getD (0+Int.toNat (x5:Int)) default):Int)=(x8:Int))/\True)/\(True/\((((-9223372036854775808:Int)<=lenAt x1 x5+onesF x8)/\(lenAt x1 x5+onesF x8<=(9223372036854775807:Int)))/\((((-9223372036854775808:Int)<=(x5:Int)+1)/\((x5:Int)+1<=(9223372036854775807:Int)))/\(∃ x9:Nat,(((64:Nat)-x9<(64:Nat)-x5)/\((x9<=(64:Nat))/\(((lenAt x1 x5+onesF x8=lenAt x1 x9)/\(((x5:Int)+1=(x9:Int))/\((szW x1=szW x1)/\((0=0/\0=0)/\(((!decide (szW x1=(0:Nat)))= !decide (szW x1=(0:Nat)))/\((szW x1=szW x1)/\((0=0/\0=0)/\(((0:Int)=0)/\((0=0/\0=0)/\(((szW x1=szW x1)/\True)/\True))))))))))/\(((szW x1=szW x1)/\True)/\(((RLe (szW x1) (szW x1))/\(RowsEq [.int .u64] (szW x1) (encL encW x1) (encL encW x1)))/\True))))))))))))))))/\((decide ((x5:Int)<64)=false)->((lenAt x1 x5=lenW x1)/\True))))))))/\(((!decide (szW x1=(0:Nat)))=false)->(((0:Int)=lenW x1)/\True))))))=(Keeps cfgN5 Tryd.f49 lenC lenI) by kernel_rfl) (fun x1=>fun h2=>⟨fun g3=>have h3:=nT g3;⟨((0:Nat)),
⟨(by(try dsimp only at *);omega),
⟨(by
       rfl),
(by(try dsimp only at *);omega),
rfl,
⟨rfl,
rfl⟩,
rfl,
rfl,
⟨rfl,
rfl⟩,
rfl,
⟨rfl,
rfl⟩,
⟨rfl,
trivial⟩,
trivial⟩,
⟨rfl,
trivial⟩,
⟨rl,
rr⟩,
trivial⟩,
fun x5=>fun h6=>⟨fun g7=>have h7:=dT g7;⟨(by(try dsimp only at *);omega),
⟨(by(try dsimp only at *);omega),
(by(try dsimp only at *);omega)⟩,
(by
       (rw[szW_full h3];omega)),
(List.getD x1 ((0:Nat)+Int.toNat (↑x5:Int)) default),
(by
       exact h2.lt _),
⟨rfl,
trivial⟩,
trivial,
⟨(by
       (have q1:=lenAt_rng x1 x5;have q2:=onesF_rng (x1.getD (0+(x5:Int).toNat) default);omega)),
(by
       (have q1:=lenAt_rng x1 x5;have q2:=onesF_rng (x1.getD (0+(x5:Int).toNat) default);omega))⟩,
⟨(by(try dsimp only at *);omega),
(by(try dsimp only at *);omega)⟩,
(x5+(1:Nat)),
(by(try dsimp only at *);omega),
(by(try dsimp only at *);omega),
⟨(by
       (rw[lenAt_succ,nat0])),
(by(try dsimp only at *);omega),
rfl,
⟨rfl,
rfl⟩,
rfl,
rfl,
⟨rfl,
rfl⟩,
rfl,
⟨rfl,
rfl⟩,
⟨rfl,
trivial⟩,
trivial⟩,
⟨rfl,
trivial⟩,
⟨rl,
rr⟩,
trivial⟩,
fun g10 => have h10 := dF g10; ⟨(by
       (obtain rfl:x5=64:=(by omega);rw[lenW_some h3])),
trivial⟩⟩⟩,
fun g11=>have h11:=nF g11;⟨(by(try dsimp only at *);exact(lenW_none h11).symm),
trivial⟩⟩)
theorem len_good:Good Tryd.prog 49 lenC/\FnOk Tryd.prog 49:=good_of tok conN5 (fn:=Tryd.f49) rfl (by decide+kernel) (fun _=>rfl) len_keeps
end Go.Sym