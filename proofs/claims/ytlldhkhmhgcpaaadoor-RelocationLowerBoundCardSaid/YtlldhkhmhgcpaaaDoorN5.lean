import Derived.Test.YtlldhkhmhgcpaaaDoorN4
import Derived.Test.YtlldhkhmhgcpaaaDoorXD
namespace Go.Sym
set_option linter.unusedVariables false
set_option linter.unusedSimpArgs false
open Go.Proofs
set_option maxRecDepth 100000
def andU (a b:Int):Int:=IntKind.u64.wrap (BitVec.ofInt IntKind.u64.bits a&&&BitVec.ofInt IntKind.u64.bits b).toNat
def shrU (a b:Int):Int:=a.fdiv (2 ^ min b.toNat IntKind.u64.bits)
def ones1 (x:Int):Int:=IntKind.u64.wrap (andU (shrU x 1) 6148914691236517205+andU x 6148914691236517205)
def ones2 (x:Int):Int:=IntKind.u64.wrap (andU (shrU x 2) 3689348814741910323+andU x 3689348814741910323)
def ones3 (x:Int):Int:=andU (IntKind.u64.wrap (shrU x 4+x)) 1085102592571150095
def ones4 (x:Int):Int:=IntKind.u64.wrap (x+shrU x 8)
def ones5 (x:Int):Int:=IntKind.u64.wrap (x+shrU x 16)
def ones6 (x:Int):Int:=IntKind.u64.wrap (x+shrU x 32)
def ones7 (x:Int):Int:=IntKind.i64.wrap (BitVec.ofInt IntKind.i64.bits (IntKind.i64.wrap x)&&&BitVec.ofInt IntKind.i64.bits 127).toNat
def onesF (x:Nat):Int:=ones7 (ones6 (ones5 (ones4 (ones3 (ones2 (ones1 (x:Int)))))))
def onesC:CT where
 X:=Nat
 pre:=fun x=>x<18446744073709551616
 args:=fun x=>[.i .u64 x]
 g0:=fun _=>[]
 res:=fun x=>.i .i64 (onesF x)
 g1:=fun _=>[]
def cfgOnes:Cfg:=⟨T,[8,14,18,23,27,31,33],[],noInv,40,{}⟩
set_option maxRecDepth 100000 in
theorem ones_keeps:Keeps cfgOnes Tryd.f64 onesC noIv:=Eq.mp (show((∀ x1:Nat,((x1<(18446744073709551616:Nat))->(((0:Int)<=(1:Int))/\(((0:Int)<=(2:Int))/\(((0:Int)<=(4:Int))/\(((0:Int)<=(8:Int))/\(((0:Int)<=(16:Int))/\(((0:Int)<=(32:Int))/\((IntKind.wrap .i64 (↑(BitVec.toNat (BitVec.ofInt (IntKind.bits .i64) (IntKind.wrap .i64 (IntKind.wrap .u64 (IntKind.wrap .u64 (IntKind.wrap .u64 (IntKind.wrap .u64 (↑(BitVec.toNat (BitVec.ofInt (IntKind.bits .u64) (IntKind.wrap .u64 (Int.fdiv (IntKind.wrap .u64 (IntKind.wrap .u64 (↑(BitVec.toNat (BitVec.ofInt (IntKind.bits .u64) (Int.fdiv (IntKind.wrap .u64 (IntKind.wrap .u64 (↑(BitVec.toNat (BitVec.ofInt (IntKind.bits .u64) (Int.fdiv (x1:Int) ((2:Int) ^ min (Int.toNat (1:Int)) (IntKind.bits .u64)))&&&BitVec.ofInt (IntKind.bits .u64) (6148914691236517205:Int))):Int)+IntKind.wrap .u64 (↑(BitVec.toNat (BitVec.ofInt (IntKind.bits .u64) (x1:Int)&&&BitVec.ofInt (IntKind.bits .u64) (6148914691236517205:Int))):Int))) ((2:Int) ^ min (Int.toNat (2:Int)) (IntKind.bits .u64)))&&&BitVec.ofInt (IntKind.bits .u64) (3689348814741910323:Int))):Int)+IntKind.wrap .u64 (↑(BitVec.toNat (BitVec.ofInt (IntKind.bits .u64) (IntKind.wrap .u64 (IntKind.wrap .u64 (↑(BitVec.toNat (BitVec.ofInt (IntKind.bits .u64) (Int.fdiv (x1:Int) ((2:Int) ^ min (Int.toNat (1:Int)) (IntKind.bits .u64)))&&&BitVec.ofInt (IntKind.bits .u64) (6148914691236517205:Int))):Int)+IntKind.wrap .u64 (↑(BitVec.toNat (BitVec.ofInt (IntKind.bits .u64) (x1:Int)&&&BitVec.ofInt (IntKind.bits .u64) (6148914691236517205:Int))):Int)))&&&BitVec.ofInt (IntKind.bits .u64) (3689348814741910323:Int))):Int))) ((2:Int) ^ min (Int.toNat (4:Int)) (IntKind.bits .u64))+IntKind.wrap .u64 (IntKind.wrap .u64 (↑(BitVec.toNat (BitVec.ofInt (IntKind.bits .u64) (Int.fdiv (IntKind.wrap .u64 (IntKind.wrap .u64 (↑(BitVec.toNat (BitVec.ofInt (IntKind.bits .u64) (Int.fdiv (x1:Int) ((2:Int) ^ min (Int.toNat (1:Int)) (IntKind.bits .u64)))&&&BitVec.ofInt (IntKind.bits .u64) (6148914691236517205:Int))):Int)+IntKind.wrap .u64 (↑(BitVec.toNat (BitVec.ofInt (IntKind.bits .u64) (x1:Int)&&&BitVec.ofInt (IntKind.bits .u64) (6148914691236517205:Int))):Int))) ((2:Int) ^ min (Int.toNat (2:Int)) (IntKind.bits .u64)))&&&BitVec.ofInt (IntKind.bits .u64) (3689348814741910323:Int))):Int)+IntKind.wrap .u64 (↑(BitVec.toNat (BitVec.ofInt (IntKind.bits .u64) (IntKind.wrap .u64 (IntKind.wrap .u64 (↑(BitVec.toNat (BitVec.ofInt (IntKind.bits .u64) (Int.fdiv (x1:Int) ((2:Int) ^ min (Int.toNat (1:Int)) (IntKind.bits .u64)))&&&BitVec.ofInt (IntKind.bits .u64) (6148914691236517205:Int))):Int)+IntKind.wrap .u64 (↑(BitVec.toNat (BitVec.ofInt (IntKind.bits .u64) (x1:Int)&&&BitVec.ofInt (IntKind.bits .u64) (6148914691236517205:Int))):Int)))&&&BitVec.ofInt (IntKind.bits .u64) (3689348814741910323:Int))):Int))))&&&BitVec.ofInt (IntKind.bits .u64) (1085102592571150095:Int))):Int)+Int.fdiv (IntKind.wrap .u64 (↑(BitVec.toNat (BitVec.ofInt (IntKind.bits .u64) (IntKind.wrap .u64 (Int.fdiv (IntKind.wrap .u64 (IntKind.wrap .u64 (↑(BitVec.toNat (BitVec.ofInt (IntKind.bits .u64) (Int.fdiv (IntKind.wrap .u64 (IntKind.wrap .u64 (↑(BitVec.toNat (BitVec.ofInt (IntKind.bits .u64) (Int.fdiv (x1:Int) ((2:Int) ^ min (Int.toNat (1:Int)) (IntKind.bits .u64)))&&&BitVec.ofInt (IntKind.bits .u64) (6148914691236517205:Int))):Int)+IntKind.wrap .u64 (↑(BitVec.toNat (BitVec.ofInt (IntKind.bits .u64) (x1:Int)&&&BitVec.ofInt (IntKind.bits .u64) (6148914691236517205:Int))):Int))) ((2:Int) ^ min (Int.toNat (2:Int)) (IntKind.bits .u64)))&&&BitVec.ofInt (IntKind.bits .u64) (3689348814741910323:Int))):Int)+IntKind.wrap .u64 (↑(BitVec.toNat (BitVec.ofInt (IntKind.bits .u64) (IntKind.wrap .u64 (IntKind.wrap .u64 (↑(BitVec.toNat (BitVec.ofInt (IntKind.bits .u64) (Int.fdiv (x1:Int) ((2:Int) ^ min (Int.toNat (1:Int)) (IntKind.bits .u64)))&&&BitVec.ofInt (IntKind.bits .u64) (6148914691236517205:Int))):Int)+IntKind.wrap .u64 (↑(BitVec.toNat (BitVec.ofInt (IntKind.bits .u64) (x1:Int)&&&BitVec.ofInt (IntKind.bits .u64) (6148914691236517205:Int))):Int)))&&&BitVec.ofInt (IntKind.bits .u64) (3689348814741910323:Int))):Int))) ((2:Int) ^ min (Int.toNat (4:Int)) (IntKind.bits .u64))+IntKind.wrap .u64 (IntKind.wrap .u64 (↑(BitVec.toNat (BitVec.ofInt (IntKind.bits .u64) (Int.fdiv (IntKind.wrap .u64 (IntKind.wrap .u64 (↑(BitVec.toNat (BitVec.ofInt (IntKind.bits .u64) (Int.fdiv (x1:Int) ((2:Int) ^ min (Int.toNat (1:Int)) (IntKind.bits .u64)))&&&BitVec.ofInt (IntKind.bits .u64) (6148914691236517205:Int))):Int)+IntKind.wrap .u64 (↑(BitVec.toNat (BitVec.ofInt (IntKind.bits .u64) (x1:Int)&&&BitVec.ofInt (IntKind.bits .u64) (6148914691236517205:Int))):Int))) ((2:Int) ^ min (Int.toNat (2:Int)) (IntKind.bits .u64)))&&&BitVec.ofInt (IntKind.bits .u64) (3689348814741910323:Int))):Int)+IntKind.wrap .u64 (↑(BitVec.toNat (BitVec.ofInt (IntKind.bits .u64) (IntKind.wrap .u64 (IntKind.wrap .u64 (↑(BitVec.toNat (BitVec.ofInt (IntKind.bits .u64) (Int.fdiv (x1:Int) ((2:Int) ^ min (Int.toNat (1:Int)) (IntKind.bits .u64)))&&&BitVec.ofInt (IntKind.bits .u64) (6148914691236517205:Int))):Int)+IntKind.wrap .u64 (↑(BitVec.toNat (BitVec.ofInt (IntKind.bits .u64) (x1:Int)&&&BitVec.ofInt (IntKind.bits .u64) (6148914691236517205:Int))):Int)))&&&BitVec.ofInt (IntKind.bits .u64) (3689348814741910323:Int))):Int))))&&&BitVec.ofInt (IntKind.bits .u64) (1085102592571150095:Int))):Int)) ((2:Int) ^ min (Int.toNat (8:Int)) (IntKind.bits .u64)))+Int.fdiv (IntKind.wrap .u64 (IntKind.wrap .u64 (↑(BitVec.toNat (BitVec.ofInt (IntKind.bits .u64) (IntKind.wrap .u64 (Int.fdiv (IntKind.wrap .u64 (IntKind.wrap .u64 (↑(BitVec.toNat (BitVec.ofInt (IntKind.bits .u64) (Int.fdiv (IntKind.wrap .u64 (IntKind.wrap .u64 (↑(BitVec.toNat (BitVec.ofInt (IntKind.bits .u64) (Int.fdiv (x1:Int) ((2:Int) ^ min (Int.toNat (1:Int)) (IntKind.bits .u64)))&&&BitVec.ofInt (IntKind.bits .u64) (6148914691236517205:Int))):Int)+IntKind.wrap .u64 (↑(BitVec.toNat (BitVec.ofInt (IntKind.bits .u64) (x1:Int)&&&BitVec.ofInt (IntKind.bits .u64) (6148914691236517205:Int))):Int))) ((2:Int) ^ min (Int.toNat (2:Int)) (IntKind.bits .u64)))&&&BitVec.ofInt (IntKind.bits .u64) (3689348814741910323:Int))):Int)+IntKind.wrap .u64 (↑(BitVec.toNat (BitVec.ofInt (IntKind.bits .u64) (IntKind.wrap .u64 (IntKind.wrap .u64 (↑(BitVec.toNat (BitVec.ofInt (IntKind.bits .u64) (Int.fdiv (x1:Int) ((2:Int) ^ min (Int.toNat (1:Int)) (IntKind.bits .u64)))&&&BitVec.ofInt (IntKind.bits .u64) (6148914691236517205:Int))):Int)+IntKind.wrap .u64 (↑(BitVec.toNat (BitVec.ofInt (IntKind.bits .u64) (x1:Int)&&&BitVec.ofInt (IntKind.bits .u64) (6148914691236517205:Int))):Int)))&&&BitVec.ofInt (IntKind.bits .u64) (3689348814741910323:Int))):Int))) ((2:Int) ^ min (Int.toNat (4:Int)) (IntKind.bits .u64))+IntKind.wrap .u64 (IntKind.wrap .u64 (↑(BitVec.toNat (BitVec.ofInt (IntKind.bits .u64) (Int.fdiv (IntKind.wrap .u64 (IntKind.wrap .u64 (↑(BitVec.toNat (BitVec.ofInt (IntKind.bits .u64) (Int.fdiv (x1:Int) ((2:Int) ^ min (Int.toNat (1:Int)) (IntKind.bits .u64)))&&&BitVec.ofInt (IntKind.bits .u64) (6148914691236517205:Int))):Int)+IntKind.wrap .u64 (↑(BitVec.toNat (BitVec.ofInt (IntKind.bits .u64) (x1:Int)&&&BitVec.ofInt (IntKind.bits .u64) (6148914691236517205:Int))):Int))) ((2:Int) ^ min (Int.toNat (2:Int)) (IntKind.bits .u64)))&&&BitVec.ofInt (IntKind.bits .u64) (3689348814741910323:Int))):Int)+IntKind.wrap .u64 (↑(BitVec.toNat (BitVec.ofInt (IntKind.bits .u64) (IntKind.wrap .u64 (IntKind.wrap .u64 (↑(BitVec.toNat (BitVec.ofInt (IntKind.bits .u64) (Int.fdiv (x1:Int) ((2:Int) ^ min (Int.toNat (1:Int)) (IntKind.bits .u64)))&&&BitVec.ofInt (IntKind.bits .u64) (6148914691236517205:Int))):Int)+IntKind.wrap .u64 (↑(BitVec.toNat (BitVec.ofInt (IntKind.bits .u64) (x1:Int)&&&BitVec.ofInt (IntKind.bits .u64) (6148914691236517205:Int))):Int)))&&&BitVec.ofInt (IntKind.bits .u64) (3689348814741910323:Int))):Int))))&&&BitVec.ofInt (IntKind.bits .u64) (1085102592571150095:Int))):Int)+Int.fdiv (IntKind.wrap .u64 (↑(BitVec.toNat (BitVec.ofInt (IntKind.bits .u64) (IntKind.wrap .u64 (Int.fdiv (IntKind.wrap .u64 (IntKind.wrap .u64 (↑(BitVec.toNat (BitVec.ofInt (IntKind.bits .u64) (Int.fdiv (IntKind.wrap .u64 (IntKind.wrap .u64 (↑(BitVec.toNat (BitVec.ofInt (IntKind.bits .u64) (Int.fdiv (x1:Int) ((2:Int) ^ min (Int.toNat (1:Int)) (IntKind.bits .u64)))&&&BitVec.ofInt (IntKind.bits .u64) (6148914691236517205:Int))):Int)+IntKind.wrap .u64 (↑(BitVec.toNat (BitVec.ofInt (IntKind.bits .u64) (x1:Int)&&&BitVec.ofInt (IntKind.bits .u64) (6148914691236517205:Int))):Int))) ((2:Int) ^ min (Int.toNat (2:Int)) (IntKind.bits .u64)))&&&BitVec.ofInt (IntKind.bits .u64) (3689348814741910323:Int))):Int)+IntKind.wrap .u64 (↑(BitVec.toNat (BitVec.ofInt (IntKind.bits .u64) (IntKind.wrap .u64 (IntKind.wrap .u64 (↑(BitVec.toNat (BitVec.ofInt (IntKind.bits .u64) (Int.fdiv (x1:Int) ((2:Int) ^ min (Int.toNat (1:Int)) (IntKind.bits .u64)))&&&BitVec.ofInt (IntKind.bits .u64) (6148914691236517205:Int))):Int)+IntKind.wrap .u64 (↑(BitVec.toNat (BitVec.ofInt (IntKind.bits .u64) (x1:Int)&&&BitVec.ofInt (IntKind.bits .u64) (6148914691236517205:Int))):Int)))&&&BitVec.ofInt (IntKind.bits .u64) (3689348814741910323:Int))):Int))) ((2:Int) ^ min (Int.toNat (4:Int)) (IntKind.bits .u64))+IntKind.wrap .u64 (IntKind.wrap .u64 (↑(BitVec.toNat (BitVec.ofInt (IntKind.bits .u64) (Int.fdiv (IntKind.wrap .u64 (IntKind.wrap .u64 (↑(BitVec.toNat (BitVec.ofInt (IntKind.bits .u64) (Int.fdiv (x1:Int) ((2:Int) ^ min (Int.toNat (1:Int)) (IntKind.bits .u64)))&&&BitVec.ofInt (IntKind.bits .u64) (6148914691236517205:Int))):Int)+IntKind.wrap .u64 (↑(BitVec.toNat (BitVec.ofInt (IntKind.bits .u64) (x1:Int)&&&BitVec.ofInt (IntKind.bits .u64) (6148914691236517205:Int))):Int))) ((2:Int) ^ min (Int.toNat (2:Int)) (IntKind.bits .u64)))&&&BitVec.ofInt (IntKind.bits .u64) (3689348814741910323:Int))):Int)+IntKind.wrap .u64 (↑(BitVec.toNat (BitVec.ofInt (IntKind.bits .u64) (IntKind.wrap .u64 (IntKind.wrap .u64 (↑(BitVec.toNat (BitVec.ofInt (IntKind.bits .u64) (Int.fdiv (x1:Int) ((2:Int) ^ min (Int.toNat (1:Int)) (IntKind.bits .u64)))&&&BitVec.ofInt (IntKind.bits .u64) (6148914691236517205:Int))):Int)+IntKind.wrap .u64 (↑(BitVec.toNat (BitVec.ofInt (IntKind.bits .u64) (x1:Int)&&&BitVec.ofInt (IntKind.bits .u64) (6148914691236517205:Int))):Int)))&&&BitVec.ofInt (IntKind.bits .u64) (3689348814741910323:Int))):Int))))&&&BitVec.ofInt (IntKind.bits .u64) (1085102592571150095:Int))):Int)) ((2:Int) ^ min (Int.toNat (8:Int)) (IntKind.bits .u64)))) ((2:Int) ^ min (Int.toNat (16:Int)) (IntKind.bits .u64)))+Int.fdiv (IntKind.wrap .u64 (IntKind.wrap .u64 (IntKind.wrap .u64 (↑(BitVec.toNat (BitVec.ofInt (IntKind.bits .u64) (IntKind.wrap .u64 (Int.fdiv (IntKind.wrap .u64 (IntKind.wrap .u64 (↑(BitVec.toNat (BitVec.ofInt (IntKind.bits .u64) (Int.fdiv (IntKind.wrap .u64 (IntKind.wrap .u64 (↑(BitVec.toNat (BitVec.ofInt (IntKind.bits .u64) (Int.fdiv (x1:Int) ((2:Int) ^ min (Int.toNat (1:Int)) (IntKind.bits .u64)))&&&BitVec.ofInt (IntKind.bits .u64) (6148914691236517205:Int))):Int)+IntKind.wrap .u64 (↑(BitVec.toNat (BitVec.ofInt (IntKind.bits .u64) (x1:Int)&&&BitVec.ofInt (IntKind.bits .u64) (6148914691236517205:Int))):Int))) ((2:Int) ^ min (Int.toNat (2:Int)) (IntKind.bits .u64)))&&&BitVec.ofInt (IntKind.bits .u64) (3689348814741910323:Int))):Int)+IntKind.wrap .u64 (↑(BitVec.toNat (BitVec.ofInt (IntKind.bits .u64) (IntKind.wrap .u64 (IntKind.wrap .u64 (↑(BitVec.toNat (BitVec.ofInt (IntKind.bits .u64) (Int.fdiv (x1:Int) ((2:Int) ^ min (Int.toNat (1:Int)) (IntKind.bits .u64)))&&&BitVec.ofInt (IntKind.bits .u64) (6148914691236517205:Int))):Int)+IntKind.wrap .u64 (↑(BitVec.toNat (BitVec.ofInt (IntKind.bits .u64) (x1:Int)&&&BitVec.ofInt (IntKind.bits .u64) (6148914691236517205:Int))):Int)))&&&BitVec.ofInt (IntKind.bits .u64) (3689348814741910323:Int))):Int))) ((2:Int) ^ min (Int.toNat (4:Int)) (IntKind.bits .u64))+IntKind.wrap .u64 (IntKind.wrap .u64 (↑(BitVec.toNat (BitVec.ofInt (IntKind.bits .u64) (Int.fdiv (IntKind.wrap .u64 (IntKind.wrap .u64 (↑(BitVec.toNat (BitVec.ofInt (IntKind.bits .u64) (Int.fdiv (x1:Int) ((2:Int) ^ min (Int.toNat (1:Int)) (IntKind.bits .u64)))&&&BitVec.ofInt (IntKind.bits .u64) (6148914691236517205:Int))):Int)+IntKind.wrap .u64 (↑(BitVec.toNat (BitVec.ofInt (IntKind.bits .u64) (x1:Int)&&&BitVec.ofInt (IntKind.bits .u64) (6148914691236517205:Int))):Int))) ((2:Int) ^ min (Int.toNat (2:Int)) (IntKind.bits .u64)))&&&BitVec.ofInt (IntKind.bits .u64) (3689348814741910323:Int))):Int)+IntKind.wrap .u64 (↑(BitVec.toNat (BitVec.ofInt (IntKind.bits .u64) (IntKind.wrap .u64 (IntKind.wrap .u64 (↑(BitVec.toNat (BitVec.ofInt (IntKind.bits .u64) (Int.fdiv (x1:Int) ((2:Int) ^ min (Int.toNat (1:Int)) (IntKind.bits .u64)))&&&BitVec.ofInt (IntKind.bits .u64) (6148914691236517205:Int))):Int)+IntKind.wrap .u64 (↑(BitVec.toNat (BitVec.ofInt (IntKind.bits .u64) (x1:Int)&&&BitVec.ofInt (IntKind.bits .u64) (6148914691236517205:Int))):Int)))&&&BitVec.ofInt (IntKind.bits .u64) (3689348814741910323:Int))):Int))))&&&BitVec.ofInt (IntKind.bits .u64) (1085102592571150095:Int))):Int)+Int.fdiv (IntKind.wrap .u64 (↑(BitVec.toNat (BitVec.ofInt (IntKind.bits .u64) (IntKind.wrap .u64 (Int.fdiv (IntKind.wrap .u64 (IntKind.wrap .u64 (↑(BitVec.toNat (BitVec.ofInt (IntKind.bits .u64) (Int.fdiv (IntKind.wrap .u64 (IntKind.wrap .u64 (↑(BitVec.toNat (BitVec.ofInt (IntKind.bits .u64) (Int.fdiv (x1:Int) ((2:Int) ^ min (Int.toNat (1:Int)) (IntKind.bits .u64)))&&&BitVec.ofInt (IntKind.bits .u64) (6148914691236517205:Int))):Int)+IntKind.wrap .u64 (↑(BitVec.toNat (BitVec.ofInt (IntKind.bits .u64) (x1:Int)&&&BitVec.ofInt (IntKind.bits .u64) (6148914691236517205:Int))):Int))) ((2:Int) ^ min (Int.toNat (2:Int)) (IntKind.bits .u64)))&&&BitVec.ofInt (IntKind.bits .u64) (3689348814741910323:Int))):Int)+IntKind.wrap .u64 (↑(BitVec.toNat (BitVec.ofInt (IntKind.bits .u64) (IntKind.wrap .u64 (IntKind.wrap .u64 (↑(BitVec.toNat (BitVec.ofInt (IntKind.bits .u64) (Int.fdiv (x1:Int) ((2:Int) ^ min (Int.toNat (1:Int)) (IntKind.bits .u64)))&&&BitVec.ofInt (IntKind.bits .u64) (6148914691236517205:Int))):Int)+IntKind.wrap .u64 (↑(BitVec.toNat (BitVec.ofInt (IntKind.bits .u64) (x1:Int)&&&BitVec.ofInt (IntKind.bits .u64) (6148914691236517205:Int))):Int)))&&&BitVec.ofInt (IntKind.bits .u64) (3689348814741910323:Int))):Int))) ((2:Int) ^ min (Int.toNat (4:Int)) (IntKind.bits .u64))+IntKind.wrap .u64 (IntKind.wrap .u64 (↑(BitVec.toNat (BitVec.ofInt (IntKind.bits .u64) (Int.fdiv (IntKind.wrap .u64 (IntKind.wrap .u64 (↑(BitVec.toNat (BitVec.ofInt (IntKind.bits .u64) (Int.fdiv (x1:Int) ((2:Int) ^ min (Int.toNat (1:Int)) (IntKind.bits .u64)))&&&BitVec.ofInt (IntKind.bits .u64) (6148914691236517205:Int))):Int)+IntKind.wrap .u64 (↑(BitVec.toNat (BitVec.ofInt (IntKind.bits .u64) (x1:Int)&&&BitVec.ofInt (IntKind.bits .u64) (6148914691236517205:Int))):Int))) ((2:Int) ^ min (Int.toNat (2:Int)) (IntKind.bits .u64)))&&&BitVec.ofInt (IntKind.bits .u64) (3689348814741910323:Int))):Int)+IntKind.wrap .u64 (↑(BitVec.toNat (BitVec.ofInt (IntKind.bits .u64) (IntKind.wrap .u64 (IntKind.wrap .u64 (↑(BitVec.toNat (BitVec.ofInt (IntKind.bits .u64) (Int.fdiv (x1:Int) ((2:Int) ^ min (Int.toNat (1:Int)) (IntKind.bits .u64)))&&&BitVec.ofInt (IntKind.bits .u64) (6148914691236517205:Int))):Int)+IntKind.wrap .u64 (↑(BitVec.toNat (BitVec.ofInt (IntKind.bits .u64) (x1:Int)&&&BitVec.ofInt (IntKind.bits .u64) (6148914691236517205:Int))):Int)))&&&BitVec.ofInt (IntKind.bits .u64) (3689348814741910323:Int))):Int))))&&&BitVec.ofInt (IntKind.bits .u64) (1085102592571150095:Int))):Int)) ((2:Int) ^ min (Int.toNat (8:Int)) (IntKind.bits .u64)))+Int.fdiv (IntKind.wrap .u64 (IntKind.wrap .u64 (↑(BitVec.toNat (BitVec.ofInt (IntKind.bits .u64) (IntKind.wrap .u64 (Int.fdiv (IntKind.wrap .u64 (IntKind.wrap .u64 (↑(BitVec.toNat (BitVec.ofInt (IntKind.bits .u64) (Int.fdiv (IntKind.wrap .u64 (IntKind.wrap .u64 (↑(BitVec.toNat (BitVec.ofInt (IntKind.bits .u64) (Int.fdiv (x1:Int) ((2:Int) ^ min (Int.toNat (1:Int)) (IntKind.bits .u64)))&&&BitVec.ofInt (IntKind.bits .u64) (6148914691236517205:Int))):Int)+IntKind.wrap .u64 (↑(BitVec.toNat (BitVec.ofInt (IntKind.bits .u64) (x1:Int)&&&BitVec.ofInt (IntKind.bits .u64) (6148914691236517205:Int))):Int))) ((2:Int) ^ min (Int.toNat (2:Int)) (IntKind.bits .u64)))&&&BitVec.ofInt (IntKind.bits .u64) (3689348814741910323:Int))):Int)+IntKind.wrap .u64 (↑(BitVec.toNat (BitVec.ofInt (IntKind.bits .u64) (IntKind.wrap .u64 (IntKind.wrap .u64 (↑(BitVec.toNat (BitVec.ofInt (IntKind.bits .u64) (Int.fdiv (x1:Int) ((2:Int) ^ min (Int.toNat (1:Int)) (IntKind.bits .u64)))&&&BitVec.ofInt (IntKind.bits .u64) (6148914691236517205:Int))):Int)+IntKind.wrap .u64 (↑(BitVec.toNat (BitVec.ofInt (IntKind.bits .u64) (x1:Int)&&&BitVec.ofInt (IntKind.bits .u64) (6148914691236517205:Int))):Int)))&&&BitVec.ofInt (IntKind.bits .u64) (3689348814741910323:Int))):Int))) ((2:Int) ^ min (Int.toNat (4:Int)) (IntKind.bits .u64))+IntKind.wrap .u64 (IntKind.wrap .u64 (↑(BitVec.toNat (BitVec.ofInt (IntKind.bits .u64) (Int.fdiv (IntKind.wrap .u64 (IntKind.wrap .u64 (↑(BitVec.toNat (BitVec.ofInt (IntKind.bits .u64) (Int.fdiv (x1:Int) ((2:Int) ^ min (Int.toNat (1:Int)) (IntKind.bits .u64)))&&&BitVec.ofInt (IntKind.bits .u64) (6148914691236517205:Int))):Int)+IntKind.wrap .u64 (↑(BitVec.toNat (BitVec.ofInt (IntKind.bits .u64) (x1:Int)&&&BitVec.ofInt (IntKind.bits .u64) (6148914691236517205:Int))):Int))) ((2:Int) ^ min (Int.toNat (2:Int)) (IntKind.bits .u64)))&&&BitVec.ofInt (IntKind.bits .u64) (3689348814741910323:Int))):Int)+IntKind.wrap .u64 (↑(BitVec.toNat (BitVec.ofInt (IntKind.bits .u64) (IntKind.wrap .u64 (IntKind.wrap .u64 (↑(BitVec.toNat (BitVec.ofInt (IntKind.bits .u64) (Int.fdiv (x1:Int) ((2:Int) ^ min (Int.toNat (1:Int)) (IntKind.bits .u64)))&&&BitVec.ofInt (IntKind.bits .u64) (6148914691236517205:Int))):Int)+IntKind.wrap .u64 (↑(BitVec.toNat (BitVec.ofInt (IntKind.bits .u64) (x1:Int)&&&BitVec.ofInt (IntKind.bits .u64) (6148914691236517205:Int))):Int)))&&&BitVec.ofInt (IntKind.bits .u64) (3689348814741910323:Int))):Int))))&&&BitVec.ofInt (IntKind.bits .u64) (1085102592571150095:Int))):Int)+Int.fdiv (IntKind.wrap .u64 (↑(BitVec.toNat (BitVec.ofInt (IntKind.bits .u64) (IntKind.wrap .u64 (Int.fdiv (IntKind.wrap .u64 (IntKind.wrap .u64 (↑(BitVec.toNat (BitVec.ofInt (IntKind.bits .u64) (Int.fdiv (IntKind.wrap .u64 (IntKind.wrap .u64 (↑(BitVec.toNat (BitVec.ofInt (IntKind.bits .u64) (Int.fdiv (x1:Int) ((2:Int) ^ min (Int.toNat (1:Int)) (IntKind.bits .u64)))&&&BitVec.ofInt (IntKind.bits .u64) (6148914691236517205:Int))):Int)+IntKind.wrap .u64 (↑(BitVec.toNat (BitVec.ofInt (IntKind.bits .u64) (x1:Int)&&&BitVec.ofInt (IntKind.bits .u64) (6148914691236517205:Int))):Int))) ((2:Int) ^ min (Int.toNat (2:Int)) (IntKind.bits .u64)))&&&BitVec.ofInt (IntKind.bits .u64) (3689348814741910323:Int))):Int)+IntKind.wrap .u64 (↑(BitVec.toNat (BitVec.ofInt (IntKind.bits .u64) (IntKind.wrap .u64 (IntKind.wrap .u64 (↑(BitVec.toNat (BitVec.ofInt (IntKind.bits .u64) (Int.fdiv (x1:Int) ((2:Int) ^ min (Int.toNat (1:Int)) (IntKind.bits .u64)))&&&BitVec.ofInt (IntKind.bits .u64) (6148914691236517205:Int))):Int)+IntKind.wrap .u64 (↑(BitVec.toNat (BitVec.ofInt (IntKind.bits .u64) (x1:Int)&&&BitVec.ofInt (IntKind.bits .u64) (6148914691236517205:Int))):Int)))&&&BitVec.ofInt (IntKind.bits .u64) (3689348814741910323:Int))):Int))) ((2:Int) ^ min (Int.toNat (4:Int)) (IntKind.bits .u64))+IntKind.wrap .u64 (IntKind.wrap .u64 (↑(BitVec.toNat (BitVec.ofInt (IntKind.bits .u64) (Int.fdiv (IntKind.wrap .u64 (IntKind.wrap .u64 (↑(BitVec.toNat (BitVec.ofInt (IntKind.bits .u64) (Int.fdiv (x1:Int) ((2:Int) ^ min (Int.toNat (1:Int)) (IntKind.bits .u64)))&&&BitVec.ofInt (IntKind.bits .u64) (6148914691236517205:Int))):Int)+IntKind.wrap .u64 (↑(BitVec.toNat (BitVec.ofInt (IntKind.bits .u64) (x1:Int)&&&BitVec.ofInt (IntKind.bits .u64) (6148914691236517205:Int))):Int))) ((2:Int) ^ min (Int.toNat (2:Int)) (IntKind.bits .u64)))&&&BitVec.ofInt (IntKind.bits .u64) (3689348814741910323:Int))):Int)+IntKind.wrap .u64 (↑(BitVec.toNat (BitVec.ofInt (IntKind.bits .u64) (IntKind.wrap .u64 (IntKind.wrap .u64 (↑(BitVec.toNat (BitVec.ofInt (IntKind.bits .u64) (Int.fdiv (x1:Int) ((2:Int) ^ min (Int.toNat (1:Int)) (IntKind.bits .u64)))&&&BitVec.ofInt (IntKind.bits .u64) (6148914691236517205:Int))):Int)+IntKind.wrap .u64 (↑(BitVec.toNat (BitVec.ofInt (IntKind.bits .u64) (x1:Int)&&&BitVec.ofInt (IntKind.bits .u64) (6148914691236517205:Int))):Int)))&&&BitVec.ofInt (IntKind.bits .u64) (3689348814741910323:Int))):Int))))&&&BitVec.ofInt (IntKind.bits .u64) (1085102592571150095:Int))):Int)) ((2:Int) ^ min (Int.toNat (8:Int)) (IntKind.bits .u64)))) ((2:Int) ^ min (Int.toNat (16:Int)) (IntKind.bits .u64)))) ((2:Int) ^ min (Int.toNat (32:Int)) (IntKind.bits .u64)))))&&&BitVec.ofInt (IntKind.bits .i64) (127:Int))):Int)=onesF x1)/\True))))))))))=(Keeps cfgOnes Tryd.f64 onesC noIv) by kernel_rfl) (fun x1=>fun h2=>⟨(by omega),
(by omega),
(by omega),
(by omega),
(by omega),
(by omega),
(by
       exact rfl),trivial⟩)
theorem ones_good:Good Tryd.prog 64 onesC/\FnOk Tryd.prog 64:=good_of tok (ConL.ok .nil) (fn:=Tryd.f64) rfl (by decide+kernel) (fun _=>rfl) ones_keeps
theorem ones7_rng (x:Int):0<=ones7 x/\ones7 x<=127:=by
 unfold ones7
 have h:(BitVec.ofInt IntKind.i64.bits (IntKind.i64.wrap x)&&&BitVec.ofInt IntKind.i64.bits 127).toNat<=127:=by
  rw[BitVec.toNat_and]
  exact Nat.le_trans Nat.and_le_right (by decide)
 generalize(BitVec.ofInt IntKind.i64.bits (IntKind.i64.wrap x)&&&BitVec.ofInt IntKind.i64.bits 127).toNat=n at*
 have:IntKind.i64.wrap (n:Int)=n:=IntWalk.i64_in _ (by omega)
 omega
theorem onesF_rng (x:Nat):0<=onesF x/\onesF x<=127:=ones7_rng _
def lenAt (ws:List Nat) (k:Nat):Int:=((List.range k).map fun i=>onesF (ws.getD i default)).sum
theorem lenAt_succ (ws:List Nat) (k:Nat):lenAt ws (k+1)=lenAt ws k+onesF (ws.getD k default):=by
 unfold lenAt;rw[List.range_succ,List.map_append,List.sum_append];simp
theorem lenAt_rng (ws:List Nat):∀ k:Nat,0<=lenAt ws k/\lenAt ws k<=127*k
 |0=>by simp[lenAt]
 |k+1=>by have:=lenAt_rng ws k;have:=onesF_rng (ws.getD k default);rw[lenAt_succ];omega
def lenW (ws:List Nat):Int:=if ws=nilW then 0 else lenAt ws 64
theorem lenW_rng (ws:List Nat):0<=lenW ws/\lenW ws<=8128:=by
 unfold lenW;split
 ·omega
 ·have:=lenAt_rng ws 64;omega
theorem lenW_none {ws:List Nat} (h:szW ws=0):lenW ws=0:=by unfold lenW;rw[if_pos (szW_zero.1 h)]
theorem lenW_some {ws:List Nat} (h:¬ szW ws=0):lenW ws=lenAt ws 64:=by unfold lenW;rw[if_neg (fun q=>h (szW_zero.2 q))]
def cfgN5:Cfg:=⟨T,[],[(64,.one onesC)],noInv,11,{}⟩
theorem conN5:ConOk Tryd.prog cfgN5:=ConL.ok (.cons (ConL.one ones_good) .nil)
def lenC:CT where
 X:=List Nat
 pre:=WOk
 args:=fun ws=>[setV ws 100000]
 g0:=fun ws=>setH ws .bor 100000
 res:=fun ws=>.i .i64 (lenW ws)
 g1:=fun _=>[]
def lenI (ws:List Nat) (id:Nat):Option Inv:=match id with
 |0=>some { X:=Nat,ok:=fun k=>k<=64,fr:=fun k=>[(3,.i .i64 (lenAt ws k)),(11,.i .i64 k)],hp:=fun k=>[],me:=fun k=>64-k }
 |_=>none
theorem nat0 (k:Nat):0+((k:Nat):Int).toNat=k:=by simp
set_option maxRecDepth 100000 in
theorem len_keeps:Keeps cfgN5 Tryd.f49 lenC lenI:=Eq.mp (show((∀ x1:List Nat,((WOk x1)->((((!decide (szW x1=(0:Nat)))=true)->(∃ x4:Nat,(((x4<=(64:Nat))/\((((0:Int)=lenAt x1 x4)/\((0=(x4:Int))/\((szW x1=szW x1)/\((0=0/\0=0)/\(((!decide (szW x1=(0:Nat)))= !decide (szW x1=(0:Nat)))/\((szW x1=szW x1)/\((0=0/\0=0)/\(((0:Int)=0)/\((0=0/\0=0)/\(((szW x1=szW x1)/\True)/\True))))))))))/\(((szW x1=szW x1)/\True)/\(((RLe (szW x1) (szW x1))/\(RowsEq [.int .u64] (szW x1) (encL encW x1) (encL encW x1)))/\True))))/\(∀ x5:Nat,((x5<=(64:Nat))->(((decide ((x5:Int)<64)=true)->((szW x1≠(0:Nat))/\((((0:Int)<=(x5:Int))/\((x5:Int)<(↑(64:Nat):Int)))/\((0+Int.toNat (x5:Int)<szW x1)/\(∃ x8:Nat,((x8<(18446744073709551616:Nat))/\((((↑(x1.getD (0+Int.toNat (x5:Int)) default):Int)=(x8:Int))/\True)/\(True/\((((-9223372036854775808:Int)<=lenAt x1 x5+onesF x8)/\(lenAt x1 x5+onesF x8<=(9223372036854775807:Int)))/\((((-9223372036854775808:Int)<=(x5:Int)+1)/\((x5:Int)+1<=(9223372036854775807:Int)))/\(∃ x9:Nat,(((64:Nat)-x9<(64:Nat)-x5)/\((x9<=(64:Nat))/\(((lenAt x1 x5+onesF x8=lenAt x1 x9)/\(((x5:Int)+1=(x9:Int))/\((szW x1=szW x1)/\((0=0/\0=0)/\(((!decide (szW x1=(0:Nat)))= !decide (szW x1=(0:Nat)))/\((szW x1=szW x1)/\((0=0/\0=0)/\(((0:Int)=0)/\((0=0/\0=0)/\(((szW x1=szW x1)/\True)/\True))))))))))/\(((szW x1=szW x1)/\True)/\(((RLe (szW x1) (szW x1))/\(RowsEq [.int .u64] (szW x1) (encL encW x1) (encL encW x1)))/\True))))))))))))))))/\((decide ((x5:Int)<64)=false)->((lenAt x1 x5=lenW x1)/\True))))))))/\(((!decide (szW x1=(0:Nat)))=false)->(((0:Int)=lenW x1)/\True))))))=(Keeps cfgN5 Tryd.f49 lenC lenI) by kernel_rfl) (fun x1=>fun h2=>⟨fun g3=>have h3:=nT g3;⟨((0:Nat)),
⟨(by(try dsimp only at *);omega),
⟨(by
       rfl),
(by(try dsimp only at *);omega),rfl,
⟨rfl,rfl⟩,rfl,rfl,
⟨rfl,rfl⟩,rfl,
⟨rfl,rfl⟩,
⟨rfl,trivial⟩,trivial⟩,
⟨rfl,trivial⟩,
⟨rl,rr⟩,trivial⟩,
fun x5=>fun h6=>⟨fun g7=>have h7:=dT g7;⟨(by(try dsimp only at *);omega),
⟨(by(try dsimp only at *);omega),
(by(try dsimp only at *);omega)⟩,
(by
       (rw[szW_full h3];omega)),
(List.getD x1 ((0:Nat)+Int.toNat (↑x5:Int)) default),
(by
       exact h2.lt _),
⟨rfl,trivial⟩,trivial,
⟨(by
       (have q1:=lenAt_rng x1 x5;have q2:=onesF_rng (x1.getD (0+(x5:Int).toNat) default);omega)),
(by
       (have q1:=lenAt_rng x1 x5;have q2:=onesF_rng (x1.getD (0+(x5:Int).toNat) default);omega))⟩,
⟨(by(try dsimp only at *);omega),
(by(try dsimp only at *);omega)⟩,
(x5+(1:Nat)),
(by(try dsimp only at *);omega),
(by(try dsimp only at *);omega),
⟨(by
       (rw[lenAt_succ,nat0])),
(by(try dsimp only at *);omega),rfl,
⟨rfl,rfl⟩,rfl,rfl,
⟨rfl,rfl⟩,rfl,
⟨rfl,rfl⟩,
⟨rfl,trivial⟩,trivial⟩,
⟨rfl,trivial⟩,
⟨rl,rr⟩,trivial⟩,
fun g10 => have h10 := dF g10; ⟨(by
       (obtain rfl:x5=64:=(by omega);rw[lenW_some h3])),trivial⟩⟩⟩,
fun g11=>have h11:=nF g11;⟨(by(try dsimp only at *);exact(lenW_none h11).symm),trivial⟩⟩)
theorem len_good:Good Tryd.prog 49 lenC/\FnOk Tryd.prog 49:=good_of tok conN5 (fn:=Tryd.f49) rfl (by decide+kernel) (fun _=>rfl) len_keeps
end Go.Sym
namespace Go.Sym
set_option linter.unusedVariables false
def bitsOf (w:Nat):List Nat:=(List.range 64).filter w.testBit
theorem filter_first {p:Nat->Bool} {c n:Nat} (hc:c<n) (h1:∀ j,j<c->p j=false) (h2:p c=true):(List.range n).filter p=c::(List.range n).filter (fun j=>p j&&decide (j≠c)):=by
 have e:List.range n=List.range c++(c::List.range' (c+1) (n-c-1)):=by
  rw[List.range_eq_range',List.range_eq_range']
  have:n=c+((n-c-1)+1):=by omega
  conv=>lhs;rw[this,<- List.range'_append_1]
  rw[List.range'_succ]
  simp
 rw[e,List.filter_append,List.filter_append,List.filter_cons,List.filter_cons,if_pos h2]
 have z1:(List.range c).filter p=[]:=by rw[List.filter_eq_nil_iff];intro a ha;rw[h1 a (List.mem_range.1 ha)];simp
 have z2:(List.range c).filter (fun j=>p j&&decide (j≠c))=[]:=by rw[List.filter_eq_nil_iff];intro a ha;rw[h1 a (List.mem_range.1 ha)];simp
 rw[z1,z2,if_neg (by simp)]
 simp only[List.nil_append]
 congr 1
 apply List.filter_congr
 intro a ha
 have:c+1<=a:=(List.mem_range'_1.1 ha).1
 simp[show a≠c by omega]
theorem low_bit {x:Nat} (h0:x≠0) (h:x<18446744073709551616):
  Lib.ctz 64 x<64/\x.testBit (Lib.ctz 64 x)=true/\(∀ j,j<Lib.ctz 64 x->x.testBit j=false)/\∀ j,(x&&&(x-1)).testBit j=(x.testBit j&&decide (j≠Lib.ctz 64 x)):=by
 have ec:Lib.ctz 64 x=Lib.ctzFrom 64 x:=by simp[Lib.ctz,h0]
 obtain⟨m,hm,hk⟩:=Lib.ctzFrom_spec 64 x (by omega) (by rw[two64]at h;exact h)
 rw[ec]
 generalize Lib.ctzFrom 64 x=c at*
 have e1:∀ j,x.testBit j=if j<c then false else(2*m+1).testBit (j-c):=by
  intro j
  have:=Nat.testBit_two_pow_mul_add (2*m+1) (b:=0) (i:=c) (Nat.two_pow_pos c) j
  rw[Nat.add_zero,<- hm,Nat.zero_testBit]at this
  exact this
 have e2:∀ j,(x-1).testBit j=if j<c then(2 ^ c-1).testBit j else(2*m).testBit (j-c):=by
  intro j
  have hp:=Nat.two_pow_pos c
  have e:x-1=2 ^ c*(2*m)+(2 ^ c-1):=by
   rw[hm,Nat.mul_add,Nat.mul_one];omega
  rw[e]
  exact Nat.testBit_two_pow_mul_add (2*m) (by omega) j
 refine⟨hk,?_,fun j hj=>?_,fun j=>?_⟩
 ·rw[e1,if_neg (by omega),Nat.sub_self];simp[Nat.testBit_zero]
 ·rw[e1,if_pos hj]
 ·rw[Nat.testBit_and,e1,e2]
  by_cases hj:j<c
  ·simp[hj]
  ·rw[if_neg hj,if_neg hj]
   by_cases he:j=c
   ·subst he;simp[Nat.testBit_zero]
   ·obtain⟨i,rfl⟩:∃ i,j=c+(i+1):=⟨j-c-1,by omega⟩
    rw[show c+(i+1)-c=i+1 by omega,Nat.testBit_succ,Nat.testBit_succ,show(2*m+1) / 2=m by omega,show(2*m) / 2=m by omega]
    simp
theorem bitsOf_cons {x:Nat} (h0:x≠0) (h:x<18446744073709551616):bitsOf x=Lib.ctz 64 x::bitsOf (x&&&(x-1)):=by
 obtain⟨h1,h2,h3,h4⟩:=low_bit h0 h
 unfold bitsOf
 rw[filter_first h1 h3 h2]
 congr 1
 apply List.filter_congr
 intro a _
 exact(h4 a).symm
theorem bitsOf_zero:bitsOf 0=[]:=by unfold bitsOf;rw[List.filter_eq_nil_iff];intro a _;simp
theorem bitsOf_lt {x j:Nat} (h:j∈bitsOf x):j<64/\x.testBit j=true:=by
 unfold bitsOf at h;rw[List.mem_filter,List.mem_range]at h;exact h
theorem and_pred_lt {x:Nat} (h0:x≠0):x&&&(x-1)<x:=Nat.lt_of_le_of_lt Nat.and_le_right (by omega)
def rowsFrom (ws:List Nat) (i:Nat):List Nat:=(List.range' i (64-i)).flatMap fun i=>(bitsOf (ws.getD i default)).map (64*i+·)
def elemsW (ws:List Nat):List Nat:=rowsFrom ws 0
theorem rowsFrom_succ {ws:List Nat} {i:Nat} (h:i<64):rowsFrom ws i=(bitsOf (ws.getD i default)).map (64*i+·)++rowsFrom ws (i+1):=by
 unfold rowsFrom
 rw[show 64-i=(64-(i+1))+1 by omega,List.range'_succ,List.flatMap_cons]
theorem rowsFrom_end (ws:List Nat):rowsFrom ws 64=[]:=rfl
theorem elemsW_mem {ws:List Nat} {k:Nat}:k∈elemsW ws↔k<4096/\hasW ws k=true:=by
 unfold elemsW rowsFrom hasW
 simp only[List.mem_flatMap,List.mem_map,List.mem_range'_1]
 constructor
 ·rintro⟨i,hi,j,hj,rfl⟩
  obtain⟨h1,h2⟩:=bitsOf_lt hj
  refine⟨by omega,?_⟩
  rw[show(64*i+j) / 64=i by omega,show(64*i+j)%64=j by omega]
  exact h2
 ·rintro⟨h1,h2⟩
  refine⟨k / 64,by omega,k%64,?_,by omega⟩
  unfold bitsOf
  rw[List.mem_filter,List.mem_range]
  exact⟨by omega,h2⟩
theorem bitsOf_len (x:Nat):(bitsOf x).length<=64:=by
 unfold bitsOf;have:=List.length_filter_le x.testBit (List.range 64);simpa using this
theorem rowsFrom_len (ws:List Nat):∀(d i:Nat),64-i=d->(rowsFrom ws i).length<=64*d
 |0,i,h=>by unfold rowsFrom;rw[h];simp
 |d+1,i,h=>by
  rw[rowsFrom_succ (by omega),List.length_append,List.length_map]
  have:=rowsFrom_len ws d (i+1) (by omega)
  have:=bitsOf_len (ws.getD i default)
  omega
theorem elemsW_len (ws:List Nat):(elemsW ws).length<=4096:=rowsFrom_len ws 64 0 rfl
def elemsZ (ws:List Nat):List Int:=(elemsW ws).map fun(n:Nat)=>(n:Int)
theorem elemsZ_len (ws:List Nat):(elemsZ ws).length=(elemsW ws).length:=List.length_map _
theorem sorted_bits (x:Nat):(bitsOf x).Pairwise (· <·):=by
 unfold bitsOf
 exact List.Pairwise.filter _ List.pairwise_lt_range
theorem rowsFrom_sorted (ws:List Nat):∀(d i:Nat),64-i=d->(rowsFrom ws i).Pairwise (· <·)/\∀ k∈rowsFrom ws i,64*i<=k
 |0,i,h=>by unfold rowsFrom;rw[h];simp
 |d+1,i,h=>by
  rw[rowsFrom_succ (by omega)]
  obtain⟨h1,h2⟩:=rowsFrom_sorted ws d (i+1) (by omega)
  refine⟨?_,fun k hk=>?_⟩
  ·rw[List.pairwise_append]
   refine⟨?_,h1,?_⟩
   ·rw[List.pairwise_map]
    exact(sorted_bits _).imp (fun h=>by omega)
   ·intro a ha b hb
    rw[List.mem_map]at ha
    obtain⟨j,hj,rfl⟩:=ha
    have:=h2 b hb
    have:=(bitsOf_lt hj).1
    omega
  ·rcases List.mem_append.1 hk with hk|hk
   ·rw[List.mem_map]at hk
    obtain⟨j,hj,rfl⟩:=hk
    omega
   ·have:=h2 k hk;omega
theorem elemsW_sorted (ws:List Nat):(elemsW ws).Pairwise (· <·):=(rowsFrom_sorted ws 64 0 rfl).1
theorem nilW_elems:elemsW nilW=[]:=by
 apply List.eq_nil_iff_forall_not_mem.2
 intro k hk
 have:=(elemsW_mem.1 hk).2
 rw[hasW_nil]at this;cases this
end Go.Sym