import Derived.Test.YtakbmbmpcenljaaT07
import Derived.Test.YtakbmbmpcenljaaXD
namespace Go.Sym
set_option linter.unusedVariables false
set_option linter.unusedSimpArgs false
open Go.Proofs
set_option maxRecDepth 100000
set_option maxHeartbeats 8000000
theorem np_good:Good Try.prog 59 npC/\FnOk Try.prog 59:=good_of tok conNp (fn:=Try.f59) rfl (by decide+kernel) (fun _=>rfl) np_keeps
theorem ofInt_nat {a:Nat} (h:a<18446744073709551616):(BitVec.ofInt IntKind.u64.bits (a:Int)).toNat=a:=by
 have e:IntKind.u64.bits=64:=rfl
 rw[e,BitVec.ofInt_natCast,BitVec.toNat_ofNat]
 exact Nat.mod_eq_of_lt (by omega)
theorem and_u64 {a b:Nat} (ha:a<18446744073709551616) (hb:b<18446744073709551616):IntKind.u64.wrap ((BitVec.ofInt IntKind.u64.bits (a:Int)&&&BitVec.ofInt IntKind.u64.bits (b:Int)).toNat:Int)=(a&&&b:Nat):=by
 rw[BitVec.toNat_and,ofInt_nat ha,ofInt_nat hb]
 exact u64_wrap (Nat.lt_of_le_of_lt Nat.and_le_left ha)
theorem xor_u64 {a b:Nat} (ha:a<18446744073709551616) (hb:b<18446744073709551616):IntKind.u64.wrap ((BitVec.ofInt IntKind.u64.bits (a:Int) ^^^ BitVec.ofInt IntKind.u64.bits (b:Int)).toNat:Int)=(a ^^^ b:Nat):=by
 rw[BitVec.toNat_xor,ofInt_nat ha,ofInt_nat hb]
 exact u64_wrap (Nat.xor_lt_two_pow (n:=64) ha hb)
theorem shl_u64 (a k:Nat):IntKind.u64.wrap ((a:Int)*((2 ^ k:Nat):Int))=((a<<<k%18446744073709551616:Nat):Int):=by
 simp only[IntKind.wrap,IntKind.signed,IntKind.bits]
 rw[Nat.shiftLeft_eq]
 simp
theorem shr_u64 (a k:Nat):(a:Int).fdiv ((2 ^ k:Nat):Int)=((a>>>k:Nat):Int):=by
 rw[Nat.shiftRight_eq_div_pow,Int.fdiv_eq_ediv_of_nonneg _ (Int.natCast_nonneg _),Int.natCast_ediv]
def xn1 (r:Nat):Nat:=r ^^^ (r<<<13%18446744073709551616)
def xn2 (r:Nat):Nat:=xn1 r ^^^ (xn1 r>>>7)
def xn3 (r:Nat):Nat:=xn2 r ^^^ (xn2 r<<<17%18446744073709551616)
theorem xn1_lt {r:Nat} (h:r<18446744073709551616):xn1 r<18446744073709551616:=Nat.xor_lt_two_pow (n:=64) h (Nat.mod_lt _ (by decide))
theorem shr_lt {r k:Nat} (h:r<18446744073709551616):r>>>k<18446744073709551616:=Nat.lt_of_le_of_lt (by rw[Nat.shiftRight_eq_div_pow];exact Nat.div_le_self _ _) h
theorem xn2_lt {r:Nat} (h:r<18446744073709551616):xn2 r<18446744073709551616:=Nat.xor_lt_two_pow (n:=64) (xn1_lt h) (shr_lt (xn1_lt h))
theorem xn3_lt {r:Nat} (h:r<18446744073709551616):xn3 r<18446744073709551616:=Nat.xor_lt_two_pow (n:=64) (xn2_lt h) (Nat.mod_lt _ (by decide))
theorem xn_eq (r:UInt64):(Sort.xorNext r).toNat=xn3 r.toNat:=by
 unfold Sort.xorNext xn3 xn2 xn1
 simp only[UInt64.toNat_xor,UInt64.toNat_shiftLeft,UInt64.toNat_shiftRight]
 rfl
def nxC:CT where
 X:=Nat
 pre:=fun r=>r<18446744073709551616
 args:=fun _=>[.p 100000 0 0]
 g0:=fun r=>[(100000,.one .own [.i .u64 r])]
 res:=fun r=>.i .u64 (xn3 r)
 g1:=fun r=>[(100000,.one .own [.i .u64 (xn3 r)])]
theorem st1 {r:Nat} (h:r<18446744073709551616):IntKind.u64.wrap ((BitVec.ofInt IntKind.u64.bits (r:Int) ^^^ BitVec.ofInt IntKind.u64.bits (IntKind.u64.wrap ((r:Int)*2 ^ min (13:Int).toNat IntKind.u64.bits))).toNat:Int)=(xn1 r:Int):=by
 rw[show(2:Int) ^ min (13:Int).toNat IntKind.u64.bits=((2 ^ 13:Nat):Int)from rfl,shl_u64,xor_u64 h (Nat.mod_lt _ (by decide))];rfl
theorem st2 {r:Nat} (h:r<18446744073709551616):IntKind.u64.wrap ((BitVec.ofInt IntKind.u64.bits (r:Int) ^^^ BitVec.ofInt IntKind.u64.bits ((r:Int).fdiv (2 ^ min (7:Int).toNat IntKind.u64.bits))).toNat:Int)=((r ^^^ (r>>>7):Nat):Int):=by
 rw[show(2:Int) ^ min (7:Int).toNat IntKind.u64.bits=((2 ^ 7:Nat):Int)from rfl,shr_u64,xor_u64 h (shr_lt h)]
theorem st3 {r:Nat} (h:r<18446744073709551616):IntKind.u64.wrap ((BitVec.ofInt IntKind.u64.bits (r:Int) ^^^ BitVec.ofInt IntKind.u64.bits (IntKind.u64.wrap ((r:Int)*2 ^ min (17:Int).toNat IntKind.u64.bits))).toNat:Int)=((r ^^^ (r<<<17%18446744073709551616):Nat):Int):=by
 rw[show(2:Int) ^ min (17:Int).toNat IntKind.u64.bits=((2 ^ 17:Nat):Int)from rfl,shl_u64,xor_u64 h (Nat.mod_lt _ (by decide))]
set_option maxRecDepth 100000 in
theorem nx_keeps:Keeps cfgN0 Try.f60 nxC noIv:=Eq.mp (show((∀ x1:Nat,((x1<(18446744073709551616:Nat))->(((0:Int)<=(13:Int))/\(((0:Int)<=(7:Int))/\(((0:Int)<=(17:Int))/\((IntKind.wrap .u64 (↑(BitVec.toNat (BitVec.ofInt (IntKind.bits .u64) (IntKind.wrap .u64 (↑(BitVec.toNat (BitVec.ofInt (IntKind.bits .u64) (IntKind.wrap .u64 (↑(BitVec.toNat (BitVec.ofInt (IntKind.bits .u64) (x1:Int) ^^^ BitVec.ofInt (IntKind.bits .u64) (IntKind.wrap .u64 ((x1:Int)*2 ^ min (Int.toNat (13:Int)) (IntKind.bits .u64))))):Int)) ^^^ BitVec.ofInt (IntKind.bits .u64) (Int.fdiv (IntKind.wrap .u64 (↑(BitVec.toNat (BitVec.ofInt (IntKind.bits .u64) (x1:Int) ^^^ BitVec.ofInt (IntKind.bits .u64) (IntKind.wrap .u64 ((x1:Int)*2 ^ min (Int.toNat (13:Int)) (IntKind.bits .u64))))):Int)) ((2:Int) ^ min (Int.toNat (7:Int)) (IntKind.bits .u64))))):Int)) ^^^ BitVec.ofInt (IntKind.bits .u64) (IntKind.wrap .u64 (IntKind.wrap .u64 (↑(BitVec.toNat (BitVec.ofInt (IntKind.bits .u64) (IntKind.wrap .u64 (↑(BitVec.toNat (BitVec.ofInt (IntKind.bits .u64) (x1:Int) ^^^ BitVec.ofInt (IntKind.bits .u64) (IntKind.wrap .u64 ((x1:Int)*2 ^ min (Int.toNat (13:Int)) (IntKind.bits .u64))))):Int)) ^^^ BitVec.ofInt (IntKind.bits .u64) (Int.fdiv (IntKind.wrap .u64 (↑(BitVec.toNat (BitVec.ofInt (IntKind.bits .u64) (x1:Int) ^^^ BitVec.ofInt (IntKind.bits .u64) (IntKind.wrap .u64 ((x1:Int)*2 ^ min (Int.toNat (13:Int)) (IntKind.bits .u64))))):Int)) ((2:Int) ^ min (Int.toNat (7:Int)) (IntKind.bits .u64))))):Int)*2 ^ min (Int.toNat (17:Int)) (IntKind.bits .u64))))):Int)=(↑(xn3 x1):Int))/\(((IntKind.wrap .u64 (↑(BitVec.toNat (BitVec.ofInt (IntKind.bits .u64) (IntKind.wrap .u64 (↑(BitVec.toNat (BitVec.ofInt (IntKind.bits .u64) (IntKind.wrap .u64 (↑(BitVec.toNat (BitVec.ofInt (IntKind.bits .u64) (x1:Int) ^^^ BitVec.ofInt (IntKind.bits .u64) (IntKind.wrap .u64 ((x1:Int)*2 ^ min (Int.toNat (13:Int)) (IntKind.bits .u64))))):Int)) ^^^ BitVec.ofInt (IntKind.bits .u64) (Int.fdiv (IntKind.wrap .u64 (↑(BitVec.toNat (BitVec.ofInt (IntKind.bits .u64) (x1:Int) ^^^ BitVec.ofInt (IntKind.bits .u64) (IntKind.wrap .u64 ((x1:Int)*2 ^ min (Int.toNat (13:Int)) (IntKind.bits .u64))))):Int)) ((2:Int) ^ min (Int.toNat (7:Int)) (IntKind.bits .u64))))):Int)) ^^^ BitVec.ofInt (IntKind.bits .u64) (IntKind.wrap .u64 (IntKind.wrap .u64 (↑(BitVec.toNat (BitVec.ofInt (IntKind.bits .u64) (IntKind.wrap .u64 (↑(BitVec.toNat (BitVec.ofInt (IntKind.bits .u64) (x1:Int) ^^^ BitVec.ofInt (IntKind.bits .u64) (IntKind.wrap .u64 ((x1:Int)*2 ^ min (Int.toNat (13:Int)) (IntKind.bits .u64))))):Int)) ^^^ BitVec.ofInt (IntKind.bits .u64) (Int.fdiv (IntKind.wrap .u64 (↑(BitVec.toNat (BitVec.ofInt (IntKind.bits .u64) (x1:Int) ^^^ BitVec.ofInt (IntKind.bits .u64) (IntKind.wrap .u64 ((x1:Int)*2 ^ min (Int.toNat (13:Int)) (IntKind.bits .u64))))):Int)) ((2:Int) ^ min (Int.toNat (7:Int)) (IntKind.bits .u64))))):Int)*2 ^ min (Int.toNat (17:Int)) (IntKind.bits .u64))))):Int)=(↑(xn3 x1):Int))/\True)/\True))))))))=(Keeps cfgN0 Try.f60 nxC noIv) by kernel_rfl) (fun x1=>fun h2=>⟨(by omega),
(by omega),
(by omega),
(by(rw[st1 h2,st2 (xn1_lt h2)];exact st3 (xn2_lt h2))),
⟨(by(rw[st1 h2,st2 (xn1_lt h2)];exact st3 (xn2_lt h2))),trivial⟩,trivial⟩)
theorem nx_good:Good Try.prog 60 nxC/\FnOk Try.prog 60:=good_of tok conN0 (fn:=Try.f60) rfl (by decide+kernel) (fun _=>rfl) nx_keeps
def brF (d:Array Pl) (a b:Nat):Array Pl:=Sort.breakPatterns d a b
def bkM (x:SAx):Nat:=2 ^ len5 (x.b-x.a)
def bkI (x:SAx):Nat:=x.a+(x.b-x.a) / 4*2-1
def bkS (x:SAx):Nat->UInt64 × Array Pl
 |0=>(UInt64.ofNat (x.b-x.a),x.d)
 |k+1=>Sort.breakStep x.a (x.b-x.a) (bkM x) (bkS x k) (bkI x+k)
def bkO (x:SAx) (k:Nat):Nat:=(Sort.xorNext (bkS x k).1).toNat&&&(bkM x-1)
def bkP (x:SAx) (k:Nat):Nat:=if bkO x k ≥ x.b-x.a then bkO x k-(x.b-x.a)else bkO x k
theorem bkS_succ (x:SAx) (k:Nat):bkS x (k+1)=(Sort.xorNext (bkS x k).1,Sort.swp (bkS x k).2 (bkI x+k) (x.a+bkP x k)):=rfl
theorem bkS_size (x:SAx):∀ k,(bkS x k).2.size=x.d.size
 |0=>rfl
 |k+1=>by rw[bkS_succ];exact(swp_size _ _ _).trans (bkS_size x k)
theorem bkM_rng (x:SAx):1<=bkM x/\bkM x<=32:=by
 have:=len5_le (x.b-x.a)
 unfold bkM
 rcases(show len5 (x.b-x.a)=0∨len5 (x.b-x.a)=1∨len5 (x.b-x.a)=2∨len5 (x.b-x.a)=3∨len5 (x.b-x.a)=4∨len5 (x.b-x.a)=5 by omega)with e|e|e|e|e|e <;>rw[e] <;>decide
theorem bkM_two {x:SAx} (h:SAok x):bkM x<=2*(x.b-x.a):=by
 have h1:=h.n;have h2:=h.b;have h3:=h.a
 unfold bkM
 have:((List.range 31).all fun n=>decide (n=0∨2 ^ len5 n<=2*n))=true:=by decide+kernel
 have:=of_decide_eq_true (List.all_eq_true.1 this (x.b-x.a) (List.mem_range.2 (by omega)))
 omega
theorem bkO_lt {x:SAx} (h:SAok x) (k:Nat):bkO x k<2*(x.b-x.a)/\bkO x k<=31:=by
 have a:=bkM_rng x
 have b:=bkM_two h
 have:bkO x k<=bkM x-1:=Nat.and_le_right
 omega
theorem bkP_lt {x:SAx} (h:SAok x) (k:Nat):bkP x k<x.b-x.a:=by
 have a:=bkO_lt h k
 have:=h.a
 unfold bkP
 split <;>omega
theorem br_big {x:SAx} (h:SAok x) (h8:8<=x.b-x.a):brF x.d x.a x.b=(bkS x 3).2:=by
 have h1:=h.n;have h2:=h.b
 unfold brF Sort.breakPatterns
 simp only[if_pos h8]
 have e:1<<<Sort.bitsLen (x.b-x.a)=bkM x:=by rw[len5_eq _ (by omega),Nat.one_shiftLeft];rfl
 rw[e];rfl
theorem br_small {x:SAx} (h8:¬ 8<=x.b-x.a):brF x.d x.a x.b=x.d:=by
 unfold brF Sort.breakPatterns
 simp only[if_neg h8]
theorem wd (x:SAx) (k:Nat):IntKind.u64.wrap ((BitVec.ofInt IntKind.u64.bits (xn3 (bkS x k).1.toNat:Int)&&&BitVec.ofInt IntKind.u64.bits (((2 ^ len5 (x.b-x.a):Nat):Int)-1)).toNat:Int)=(bkO x k:Int):=by
 have hm:=bkM_rng x
 have e:(((2 ^ len5 (x.b-x.a):Nat):Int)-1)=((bkM x-1:Nat):Int):=by show((bkM x:Nat):Int)-1=_;omega
 rw[e,and_u64 (xn3_lt (UInt64.toNat_lt _)) (by omega),<- xn_eq];rfl
theorem bk_out {x:SAx} {k:Nat} (h:(x.b:Int)-x.a<=bkO x k) (ha:x.a<x.b):0+((x.a:Int)+((bkO x k:Int)-((x.b:Int)-x.a))).toNat=x.a+bkP x k:=by
 unfold bkP;rw[if_pos (by omega)];omega
theorem bk_in {x:SAx} {k:Nat} (h:¬ (x.b:Int)-x.a<=bkO x k) (ha:x.a<x.b):0+((x.a:Int)+(bkO x k:Int)).toNat=x.a+bkP x k:=by
 unfold bkP;rw[if_neg (by omega)];omega
theorem bk_lt {x:SAx} (h:SAok x) (h8:(8:Int)<=(x.b:Int)-x.a) {k:Nat} (hk:((bkI x+k:Nat):Int)<=(x.a:Int)+((x.b:Int)-x.a) / 4*2+1):bkI x+k<x.b/\k<=2/\x.a<bkI x+k:=by
 have:=h.a
 have e:bkI x=x.a+(x.b-x.a) / 4*2-1:=rfl
 omega
theorem bk_rows {x:SAx} (h:SAok x) (h8:(8:Int)<=(x.b:Int)-x.a) {k:Nat} (hk:((bkI x+k:Nat):Int)<=(x.a:Int)+((x.b:Int)-x.a) / 4*2+1):RowsEq kP x.d.size (setRow (setRow (encL encP (bkS x k).2.toList) (bkI x+k) 0 [.i ((bkS x k).2.toList.getD (x.a+bkP x k) default).rk,.i ((bkS x k).2.toList.getD (x.a+bkP x k) default).si,.i ((bkS x k).2.toList.getD (x.a+bkP x k) default).ca]) (x.a+bkP x k) 0 [.i ((bkS x k).2.toList.getD (bkI x+k) default).rk,.i ((bkS x k).2.toList.getD (bkI x+k) default).si,.i ((bkS x k).2.toList.getD (bkI x+k) default).ca]) (encL encP (bkS x (k+1)).2.toList):=by
 have a:=bk_lt h h8 hk
 have b:=bkP_lt h k
 have:=h.b
 exact swp_rowsT (bkS_size x k) (by omega) (by omega)
theorem bk_done {x:SAx} (h:SAok x) (h8:(8:Int)<=(x.b:Int)-x.a) {k:Nat} (h3:k<=3) (hk:¬ ((bkI x+k:Nat):Int)<=(x.a:Int)+((x.b:Int)-x.a) / 4*2+1):(bkS x k).2=brF x.d x.a x.b:=by
 have:=h.a
 have e:bkI x=x.a+(x.b-x.a) / 4*2-1:=rfl
 rw[br_big h (by omega),show k=3 by omega]
theorem bk_nat (x:SAx) (k:Nat):0+((bkI x+k:Nat):Int).toNat=bkI x+k:=by omega
def brI (x:SAx) (id:Nat):Option Inv:=match id with
 |0=>some { X:=Nat,ok:=fun k=>k<=3,fr:=fun k=>[(11,.i .i64 ((bkI x+k:Nat):Int))],hp:=fun k=>[(9,.one .own [.i .u64 ((bkS x k).1.toNat:Int)]),(100000,.rows .own kP x.d.size (aR (bkS x k).2))],me:=fun k=>3-k }
 |_=>none
def cfgBr:Cfg:=⟨T,[],[(59,.one npC),(60,.one nxC)],noInv,40,{}⟩
theorem conBr:ConOk Try.prog cfgBr:=ConL.ok (.cons (ConL.one np_good) (.cons (ConL.one nx_good) .nil))
set_option maxRecDepth 100000 in
theorem br_keeps:Keeps cfgBr Try.f49 (srtC SAok fun x=>brF x.d x.a x.b) brI:=Eq.mp (show((∀ x1:SAx,((SAok x1)->((((-9223372036854775808:Int)<=(x1.b:Int)-(x1.a:Int))/\((x1.b:Int)-(x1.a:Int)<=(9223372036854775807:Int)))/\(((decide ((8:Int)<=(x1.b:Int)-(x1.a:Int))=true)->((((0:Int)<=(x1.b:Int)-(x1.a:Int))/\((x1.b:Int)-(x1.a:Int)<=(18446744073709551615:Int)))/\(∃ x4:Nat,((x4<=(30:Nat))/\((((x1.b:Int)-(x1.a:Int)=(x4:Int))/\True)/\(True/\((((0:Int)<=(x1.b:Int)-(x1.a:Int))/\(((0:Int)<4)/\(((-9223372036854775808:Int)<=((x1.b:Int)-(x1.a:Int)) / 4)/\(((x1.b:Int)-(x1.a:Int)) / 4<=(9223372036854775807:Int)))))/\((((-9223372036854775808:Int)<=((x1.b:Int)-(x1.a:Int)) / 4*2)/\(((x1.b:Int)-(x1.a:Int)) / 4*2<=(9223372036854775807:Int)))/\((((-9223372036854775808:Int)<=(x1.a:Int)+((x1.b:Int)-(x1.a:Int)) / 4*2)/\((x1.a:Int)+((x1.b:Int)-(x1.a:Int)) / 4*2<=(9223372036854775807:Int)))/\((((-9223372036854775808:Int)<=(x1.a:Int)+((x1.b:Int)-(x1.a:Int)) / 4*2-1)/\((x1.a:Int)+((x1.b:Int)-(x1.a:Int)) / 4*2-1<=(9223372036854775807:Int)))/\(∃ x5:Nat,(((x5<=(3:Nat))/\((((x1.a:Int)+((x1.b:Int)-(x1.a:Int)) / 4*2-1=(↑(bkI x1+x5):Int))/\(((x1.a:Int)+((x1.b:Int)-(x1.a:Int)) / 4*2-1=(x1.a:Int)+((x1.b:Int)-(x1.a:Int)) / 4*2-1)/\(((x1.a:Int)+((x1.b:Int)-(x1.a:Int)) / 4*2=(x1.a:Int)+((x1.b:Int)-(x1.a:Int)) / 4*2)/\((((x1.b:Int)-(x1.a:Int)) / 4*2=((x1.b:Int)-(x1.a:Int)) / 4*2)/\((((x1.b:Int)-(x1.a:Int)) / 4=((x1.b:Int)-(x1.a:Int)) / 4)/\(((x1.b:Int)-(x1.a:Int)=(x1.b:Int)-(x1.a:Int))/\(((x1.a:Int)=(x1.a:Int))/\(((↑((2:Nat) ^ len5 x4):Int)=(↑((2:Nat) ^ len5 x4):Int))/\(((↑((2:Nat) ^ len5 x4):Int)=(↑((2:Nat) ^ len5 x4):Int))/\(((x1.b:Int)-(x1.a:Int)=(x1.b:Int)-(x1.a:Int))/\((0=0/\0=0)/\(((x1.b:Int)-(x1.a:Int)=(x1.b:Int)-(x1.a:Int))/\(((x1.b:Int)-(x1.a:Int)=(x1.b:Int)-(x1.a:Int))/\((decide ((8:Int)<=(x1.b:Int)-(x1.a:Int))=decide ((8:Int)<=(x1.b:Int)-(x1.a:Int)))/\(((x1.b:Int)-(x1.a:Int)=(x1.b:Int)-(x1.a:Int))/\(((x1.b:Int)-(x1.a:Int)=(x1.b:Int)-(x1.a:Int))/\(((x1.b:Int)-(x1.a:Int)=(x1.b:Int)-(x1.a:Int))/\(((x1.a:Int)=(x1.a:Int))/\(((x1.b:Int)=(x1.b:Int))/\((0=0/\(Array.size x1.d=Array.size x1.d))/\(((x1.a:Int)=(x1.a:Int))/\(((x1.b:Int)=(x1.b:Int))/\(True/\True)))))))))))))))))))))))/\((((x1.b:Int)-(x1.a:Int)=(↑(UInt64.toNat (Prod.fst (bkS x1 x5))):Int))/\True)/\(((RLe (Array.size x1.d) (Array.size x1.d))/\(RowsEq [.int .i64,.int .i64,.int .i64] (Array.size x1.d) (aR x1.d) (aR (Prod.snd (bkS x1 x5)))))/\True))))/\(∀ x6:Nat,((x6<=(3:Nat))->((((0:Int)<=(x1.b:Int)-(x1.a:Int))/\(((0:Int)<4)/\(((-9223372036854775808:Int)<=((x1.b:Int)-(x1.a:Int)) / 4)/\(((x1.b:Int)-(x1.a:Int)) / 4<=(9223372036854775807:Int)))))/\((((-9223372036854775808:Int)<=((x1.b:Int)-(x1.a:Int)) / 4*2)/\(((x1.b:Int)-(x1.a:Int)) / 4*2<=(9223372036854775807:Int)))/\((((-9223372036854775808:Int)<=(x1.a:Int)+((x1.b:Int)-(x1.a:Int)) / 4*2)/\((x1.a:Int)+((x1.b:Int)-(x1.a:Int)) / 4*2<=(9223372036854775807:Int)))/\((((-9223372036854775808:Int)<=(x1.a:Int)+((x1.b:Int)-(x1.a:Int)) / 4*2+1)/\((x1.a:Int)+((x1.b:Int)-(x1.a:Int)) / 4*2+1<=(9223372036854775807:Int)))/\(((decide ((↑(bkI x1+x6):Int)<=(x1.a:Int)+((x1.b:Int)-(x1.a:Int)) / 4*2+1)=true)->(∃ x9:Nat,((x9<(18446744073709551616:Nat))/\(((0=0/\0=0)/\True)/\(((((↑(UInt64.toNat (Prod.fst (bkS x1 x6))):Int)=(x9:Int))/\True)/\True)/\((((0:Int)<=(↑((2:Nat) ^ len5 x4):Int)-1)/\((↑((2:Nat) ^ len5 x4):Int)-1<=(18446744073709551615:Int)))/\((((-9223372036854775808:Int)<=IntKind.wrap .u64 (↑(BitVec.toNat (BitVec.ofInt (IntKind.bits .u64) (↑(xn3 x9):Int)&&&BitVec.ofInt (IntKind.bits .u64) ((↑((2:Nat) ^ len5 x4):Int)-1))):Int))/\(IntKind.wrap .u64 (↑(BitVec.toNat (BitVec.ofInt (IntKind.bits .u64) (↑(xn3 x9):Int)&&&BitVec.ofInt (IntKind.bits .u64) ((↑((2:Nat) ^ len5 x4):Int)-1))):Int)<=(9223372036854775807:Int)))/\(((decide ((x1.b:Int)-(x1.a:Int)<=IntKind.wrap .u64 (↑(BitVec.toNat (BitVec.ofInt (IntKind.bits .u64) (↑(xn3 x9):Int)&&&BitVec.ofInt (IntKind.bits .u64) ((↑((2:Nat) ^ len5 x4):Int)-1))):Int))=true)->((((-9223372036854775808:Int)<=IntKind.wrap .u64 (↑(BitVec.toNat (BitVec.ofInt (IntKind.bits .u64) (↑(xn3 x9):Int)&&&BitVec.ofInt (IntKind.bits .u64) ((↑((2:Nat) ^ len5 x4):Int)-1))):Int)-((x1.b:Int)-(x1.a:Int)))/\(IntKind.wrap .u64 (↑(BitVec.toNat (BitVec.ofInt (IntKind.bits .u64) (↑(xn3 x9):Int)&&&BitVec.ofInt (IntKind.bits .u64) ((↑((2:Nat) ^ len5 x4):Int)-1))):Int)-((x1.b:Int)-(x1.a:Int))<=(9223372036854775807:Int)))/\((((-9223372036854775808:Int)<=(x1.a:Int)+(IntKind.wrap .u64 (↑(BitVec.toNat (BitVec.ofInt (IntKind.bits .u64) (↑(xn3 x9):Int)&&&BitVec.ofInt (IntKind.bits .u64) ((↑((2:Nat) ^ len5 x4):Int)-1))):Int)-((x1.b:Int)-(x1.a:Int))))/\((x1.a:Int)+(IntKind.wrap .u64 (↑(BitVec.toNat (BitVec.ofInt (IntKind.bits .u64) (↑(xn3 x9):Int)&&&BitVec.ofInt (IntKind.bits .u64) ((↑((2:Nat) ^ len5 x4):Int)-1))):Int)-((x1.b:Int)-(x1.a:Int)))<=(9223372036854775807:Int)))/\((((-9223372036854775808:Int)<=(x1.a:Int)+(IntKind.wrap .u64 (↑(BitVec.toNat (BitVec.ofInt (IntKind.bits .u64) (↑(xn3 x9):Int)&&&BitVec.ofInt (IntKind.bits .u64) ((↑((2:Nat) ^ len5 x4):Int)-1))):Int)-((x1.b:Int)-(x1.a:Int))))/\((x1.a:Int)+(IntKind.wrap .u64 (↑(BitVec.toNat (BitVec.ofInt (IntKind.bits .u64) (↑(xn3 x9):Int)&&&BitVec.ofInt (IntKind.bits .u64) ((↑((2:Nat) ^ len5 x4):Int)-1))):Int)-((x1.b:Int)-(x1.a:Int)))<=(9223372036854775807:Int)))/\((((0:Int)<=(x1.a:Int)+(IntKind.wrap .u64 (↑(BitVec.toNat (BitVec.ofInt (IntKind.bits .u64) (↑(xn3 x9):Int)&&&BitVec.ofInt (IntKind.bits .u64) ((↑((2:Nat) ^ len5 x4):Int)-1))):Int)-((x1.b:Int)-(x1.a:Int))))/\((x1.a:Int)+(IntKind.wrap .u64 (↑(BitVec.toNat (BitVec.ofInt (IntKind.bits .u64) (↑(xn3 x9):Int)&&&BitVec.ofInt (IntKind.bits .u64) ((↑((2:Nat) ^ len5 x4):Int)-1))):Int)-((x1.b:Int)-(x1.a:Int)))<(↑(Array.size x1.d):Int)))/\((0+Int.toNat ((x1.a:Int)+(IntKind.wrap .u64 (↑(BitVec.toNat (BitVec.ofInt (IntKind.bits .u64) (↑(xn3 x9):Int)&&&BitVec.ofInt (IntKind.bits .u64) ((↑((2:Nat) ^ len5 x4):Int)-1))):Int)-((x1.b:Int)-(x1.a:Int))))<Array.size x1.d)/\((((0:Int)<=(↑(bkI x1+x6):Int))/\((↑(bkI x1+x6):Int)<(↑(Array.size x1.d):Int)))/\((0+Int.toNat (↑(bkI x1+x6):Int)<Array.size x1.d)/\((((0:Int)<=(↑(bkI x1+x6):Int))/\((↑(bkI x1+x6):Int)<(↑(Array.size x1.d):Int)))/\(((0+Int.toNat (↑(bkI x1+x6):Int)<Array.size x1.d)/\(True/\(True/\(True/\True))))/\((((0:Int)<=(x1.a:Int)+(IntKind.wrap .u64 (↑(BitVec.toNat (BitVec.ofInt (IntKind.bits .u64) (↑(xn3 x9):Int)&&&BitVec.ofInt (IntKind.bits .u64) ((↑((2:Nat) ^ len5 x4):Int)-1))):Int)-((x1.b:Int)-(x1.a:Int))))/\((x1.a:Int)+(IntKind.wrap .u64 (↑(BitVec.toNat (BitVec.ofInt (IntKind.bits .u64) (↑(xn3 x9):Int)&&&BitVec.ofInt (IntKind.bits .u64) ((↑((2:Nat) ^ len5 x4):Int)-1))):Int)-((x1.b:Int)-(x1.a:Int)))<(↑(Array.size x1.d):Int)))/\(((0+Int.toNat ((x1.a:Int)+(IntKind.wrap .u64 (↑(BitVec.toNat (BitVec.ofInt (IntKind.bits .u64) (↑(xn3 x9):Int)&&&BitVec.ofInt (IntKind.bits .u64) ((↑((2:Nat) ^ len5 x4):Int)-1))):Int)-((x1.b:Int)-(x1.a:Int))))<Array.size x1.d)/\(True/\(True/\(True/\True))))/\((((-9223372036854775808:Int)<=(↑(bkI x1+x6):Int)+1)/\((↑(bkI x1+x6):Int)+1<=(9223372036854775807:Int)))/\(∃ x11:Nat,(((3:Nat)-x11<(3:Nat)-x6)/\((x11<=(3:Nat))/\((((↑(bkI x1+x6):Int)+1=(↑(bkI x1+x11):Int))/\(((x1.a:Int)+((x1.b:Int)-(x1.a:Int)) / 4*2-1=(x1.a:Int)+((x1.b:Int)-(x1.a:Int)) / 4*2-1)/\(((x1.a:Int)+((x1.b:Int)-(x1.a:Int)) / 4*2=(x1.a:Int)+((x1.b:Int)-(x1.a:Int)) / 4*2)/\((((x1.b:Int)-(x1.a:Int)) / 4*2=((x1.b:Int)-(x1.a:Int)) / 4*2)/\((((x1.b:Int)-(x1.a:Int)) / 4=((x1.b:Int)-(x1.a:Int)) / 4)/\(((x1.b:Int)-(x1.a:Int)=(x1.b:Int)-(x1.a:Int))/\(((x1.a:Int)=(x1.a:Int))/\(((↑((2:Nat) ^ len5 x4):Int)=(↑((2:Nat) ^ len5 x4):Int))/\(((↑((2:Nat) ^ len5 x4):Int)=(↑((2:Nat) ^ len5 x4):Int))/\(((x1.b:Int)-(x1.a:Int)=(x1.b:Int)-(x1.a:Int))/\((0=0/\0=0)/\(((x1.b:Int)-(x1.a:Int)=(x1.b:Int)-(x1.a:Int))/\(((x1.b:Int)-(x1.a:Int)=(x1.b:Int)-(x1.a:Int))/\((decide ((8:Int)<=(x1.b:Int)-(x1.a:Int))=decide ((8:Int)<=(x1.b:Int)-(x1.a:Int)))/\(((x1.b:Int)-(x1.a:Int)=(x1.b:Int)-(x1.a:Int))/\(((x1.b:Int)-(x1.a:Int)=(x1.b:Int)-(x1.a:Int))/\(((x1.b:Int)-(x1.a:Int)=(x1.b:Int)-(x1.a:Int))/\(((x1.a:Int)=(x1.a:Int))/\(((x1.b:Int)=(x1.b:Int))/\((0=0/\(Array.size x1.d=Array.size x1.d))/\(((x1.a:Int)=(x1.a:Int))/\(((x1.b:Int)=(x1.b:Int))/\(True/\True)))))))))))))))))))))))/\((((↑(xn3 x9):Int)=(↑(UInt64.toNat (Prod.fst (bkS x1 x11))):Int))/\True)/\(((RLe (Array.size x1.d) (Array.size x1.d))/\(RowsEq [.int .i64,.int .i64,.int .i64] (Array.size x1.d) (setRow (setRow (aR (Prod.snd (bkS x1 x6))) (0+Int.toNat (↑(bkI x1+x6):Int)) 0 (D.i ((Array.toList (Prod.snd (bkS x1 x6))).getD (0+Int.toNat ((x1.a:Int)+(IntKind.wrap .u64 (↑(BitVec.toNat (BitVec.ofInt (IntKind.bits .u64) (↑(xn3 x9):Int)&&&BitVec.ofInt (IntKind.bits .u64) ((↑((2:Nat) ^ len5 x4):Int)-1))):Int)-((x1.b:Int)-(x1.a:Int))))) default).rk::D.i ((Array.toList (Prod.snd (bkS x1 x6))).getD (0+Int.toNat ((x1.a:Int)+(IntKind.wrap .u64 (↑(BitVec.toNat (BitVec.ofInt (IntKind.bits .u64) (↑(xn3 x9):Int)&&&BitVec.ofInt (IntKind.bits .u64) ((↑((2:Nat) ^ len5 x4):Int)-1))):Int)-((x1.b:Int)-(x1.a:Int))))) default).si::D.i ((Array.toList (Prod.snd (bkS x1 x6))).getD (0+Int.toNat ((x1.a:Int)+(IntKind.wrap .u64 (↑(BitVec.toNat (BitVec.ofInt (IntKind.bits .u64) (↑(xn3 x9):Int)&&&BitVec.ofInt (IntKind.bits .u64) ((↑((2:Nat) ^ len5 x4):Int)-1))):Int)-((x1.b:Int)-(x1.a:Int))))) default).ca::@List.nil D)) (0+Int.toNat ((x1.a:Int)+(IntKind.wrap .u64 (↑(BitVec.toNat (BitVec.ofInt (IntKind.bits .u64) (↑(xn3 x9):Int)&&&BitVec.ofInt (IntKind.bits .u64) ((↑((2:Nat) ^ len5 x4):Int)-1))):Int)-((x1.b:Int)-(x1.a:Int))))) 0 (D.i ((Array.toList (Prod.snd (bkS x1 x6))).getD (0+Int.toNat (↑(bkI x1+x6):Int)) default).rk::D.i ((Array.toList (Prod.snd (bkS x1 x6))).getD (0+Int.toNat (↑(bkI x1+x6):Int)) default).si::D.i ((Array.toList (Prod.snd (bkS x1 x6))).getD (0+Int.toNat (↑(bkI x1+x6):Int)) default).ca::@List.nil D)) (aR (Prod.snd (bkS x1 x11)))))/\True)))))))))))))))))))/\((decide ((x1.b:Int)-(x1.a:Int)<=IntKind.wrap .u64 (↑(BitVec.toNat (BitVec.ofInt (IntKind.bits .u64) (↑(xn3 x9):Int)&&&BitVec.ofInt (IntKind.bits .u64) ((↑((2:Nat) ^ len5 x4):Int)-1))):Int))=false)->((((-9223372036854775808:Int)<=(x1.a:Int)+IntKind.wrap .u64 (↑(BitVec.toNat (BitVec.ofInt (IntKind.bits .u64) (↑(xn3 x9):Int)&&&BitVec.ofInt (IntKind.bits .u64) ((↑((2:Nat) ^ len5 x4):Int)-1))):Int))/\((x1.a:Int)+IntKind.wrap .u64 (↑(BitVec.toNat (BitVec.ofInt (IntKind.bits .u64) (↑(xn3 x9):Int)&&&BitVec.ofInt (IntKind.bits .u64) ((↑((2:Nat) ^ len5 x4):Int)-1))):Int)<=(9223372036854775807:Int)))/\((((-9223372036854775808:Int)<=(x1.a:Int)+IntKind.wrap .u64 (↑(BitVec.toNat (BitVec.ofInt (IntKind.bits .u64) (↑(xn3 x9):Int)&&&BitVec.ofInt (IntKind.bits .u64) ((↑((2:Nat) ^ len5 x4):Int)-1))):Int))/\((x1.a:Int)+IntKind.wrap .u64 (↑(BitVec.toNat (BitVec.ofInt (IntKind.bits .u64) (↑(xn3 x9):Int)&&&BitVec.ofInt (IntKind.bits .u64) ((↑((2:Nat) ^ len5 x4):Int)-1))):Int)<=(9223372036854775807:Int)))/\((((0:Int)<=(x1.a:Int)+IntKind.wrap .u64 (↑(BitVec.toNat (BitVec.ofInt (IntKind.bits .u64) (↑(xn3 x9):Int)&&&BitVec.ofInt (IntKind.bits .u64) ((↑((2:Nat) ^ len5 x4):Int)-1))):Int))/\((x1.a:Int)+IntKind.wrap .u64 (↑(BitVec.toNat (BitVec.ofInt (IntKind.bits .u64) (↑(xn3 x9):Int)&&&BitVec.ofInt (IntKind.bits .u64) ((↑((2:Nat) ^ len5 x4):Int)-1))):Int)<(↑(Array.size x1.d):Int)))/\((0+Int.toNat ((x1.a:Int)+IntKind.wrap .u64 (↑(BitVec.toNat (BitVec.ofInt (IntKind.bits .u64) (↑(xn3 x9):Int)&&&BitVec.ofInt (IntKind.bits .u64) ((↑((2:Nat) ^ len5 x4):Int)-1))):Int))<Array.size x1.d)/\((((0:Int)<=(↑(bkI x1+x6):Int))/\((↑(bkI x1+x6):Int)<(↑(Array.size x1.d):Int)))/\((0+Int.toNat (↑(bkI x1+x6):Int)<Array.size x1.d)/\((((0:Int)<=(↑(bkI x1+x6):Int))/\((↑(bkI x1+x6):Int)<(↑(Array.size x1.d):Int)))/\(((0+Int.toNat (↑(bkI x1+x6):Int)<Array.size x1.d)/\(True/\(True/\(True/\True))))/\((((0:Int)<=(x1.a:Int)+IntKind.wrap .u64 (↑(BitVec.toNat (BitVec.ofInt (IntKind.bits .u64) (↑(xn3 x9):Int)&&&BitVec.ofInt (IntKind.bits .u64) ((↑((2:Nat) ^ len5 x4):Int)-1))):Int))/\((x1.a:Int)+IntKind.wrap .u64 (↑(BitVec.toNat (BitVec.ofInt (IntKind.bits .u64) (↑(xn3 x9):Int)&&&BitVec.ofInt (IntKind.bits .u64) ((↑((2:Nat) ^ len5 x4):Int)-1))):Int)<(↑(Array.size x1.d):Int)))/\(((0+Int.toNat ((x1.a:Int)+IntKind.wrap .u64 (↑(BitVec.toNat (BitVec.ofInt (IntKind.bits .u64) (↑(xn3 x9):Int)&&&BitVec.ofInt (IntKind.bits .u64) ((↑((2:Nat) ^ len5 x4):Int)-1))):Int))<Array.size x1.d)/\(True/\(True/\(True/\True))))/\((((-9223372036854775808:Int)<=(↑(bkI x1+x6):Int)+1)/\((↑(bkI x1+x6):Int)+1<=(9223372036854775807:Int)))/\(∃ x13:Nat,(((3:Nat)-x13<(3:Nat)-x6)/\((x13<=(3:Nat))/\((((↑(bkI x1+x6):Int)+1=(↑(bkI x1+x13):Int))/\(((x1.a:Int)+((x1.b:Int)-(x1.a:Int)) / 4*2-1=(x1.a:Int)+((x1.b:Int)-(x1.a:Int)) / 4*2-1)/\(((x1.a:Int)+((x1.b:Int)-(x1.a:Int)) / 4*2=(x1.a:Int)+((x1.b:Int)-(x1.a:Int)) / 4*2)/\((((x1.b:Int)-(x1.a:Int)) / 4*2=((x1.b:Int)-(x1.a:Int)) / 4*2)/\((((x1.b:Int)-(x1.a:Int)) / 4=((x1.b:Int)-(x1.a:Int)) / 4)/\(((x1.b:Int)-(x1.a:Int)=(x1.b:Int)-(x1.a:Int))/\(((x1.a:Int)=(x1.a:Int))/\(((↑((2:Nat) ^ len5 x4):Int)=(↑((2:Nat) ^ len5 x4):Int))/\(((↑((2:Nat) ^ len5 x4):Int)=(↑((2:Nat) ^ len5 x4):Int))/\(((x1.b:Int)-(x1.a:Int)=(x1.b:Int)-(x1.a:Int))/\((0=0/\0=0)/\(((x1.b:Int)-(x1.a:Int)=(x1.b:Int)-(x1.a:Int))/\(((x1.b:Int)-(x1.a:Int)=(x1.b:Int)-(x1.a:Int))/\((decide ((8:Int)<=(x1.b:Int)-(x1.a:Int))=decide ((8:Int)<=(x1.b:Int)-(x1.a:Int)))/\(((x1.b:Int)-(x1.a:Int)=(x1.b:Int)-(x1.a:Int))/\(((x1.b:Int)-(x1.a:Int)=(x1.b:Int)-(x1.a:Int))/\(((x1.b:Int)-(x1.a:Int)=(x1.b:Int)-(x1.a:Int))/\(((x1.a:Int)=(x1.a:Int))/\(((x1.b:Int)=(x1.b:Int))/\((0=0/\(Array.size x1.d=Array.size x1.d))/\(((x1.a:Int)=(x1.a:Int))/\(((x1.b:Int)=(x1.b:Int))/\(True/\True)))))))))))))))))))))))/\((((↑(xn3 x9):Int)=(↑(UInt64.toNat (Prod.fst (bkS x1 x13))):Int))/\True)/\(((RLe (Array.size x1.d) (Array.size x1.d))/\(RowsEq [.int .i64,.int .i64,.int .i64] (Array.size x1.d) (setRow (setRow (aR (Prod.snd (bkS x1 x6))) (0+Int.toNat (↑(bkI x1+x6):Int)) 0 (D.i ((Array.toList (Prod.snd (bkS x1 x6))).getD (0+Int.toNat ((x1.a:Int)+IntKind.wrap .u64 (↑(BitVec.toNat (BitVec.ofInt (IntKind.bits .u64) (↑(xn3 x9):Int)&&&BitVec.ofInt (IntKind.bits .u64) ((↑((2:Nat) ^ len5 x4):Int)-1))):Int))) default).rk::D.i ((Array.toList (Prod.snd (bkS x1 x6))).getD (0+Int.toNat ((x1.a:Int)+IntKind.wrap .u64 (↑(BitVec.toNat (BitVec.ofInt (IntKind.bits .u64) (↑(xn3 x9):Int)&&&BitVec.ofInt (IntKind.bits .u64) ((↑((2:Nat) ^ len5 x4):Int)-1))):Int))) default).si::D.i ((Array.toList (Prod.snd (bkS x1 x6))).getD (0+Int.toNat ((x1.a:Int)+IntKind.wrap .u64 (↑(BitVec.toNat (BitVec.ofInt (IntKind.bits .u64) (↑(xn3 x9):Int)&&&BitVec.ofInt (IntKind.bits .u64) ((↑((2:Nat) ^ len5 x4):Int)-1))):Int))) default).ca::@List.nil D)) (0+Int.toNat ((x1.a:Int)+IntKind.wrap .u64 (↑(BitVec.toNat (BitVec.ofInt (IntKind.bits .u64) (↑(xn3 x9):Int)&&&BitVec.ofInt (IntKind.bits .u64) ((↑((2:Nat) ^ len5 x4):Int)-1))):Int))) 0 (D.i ((Array.toList (Prod.snd (bkS x1 x6))).getD (0+Int.toNat (↑(bkI x1+x6):Int)) default).rk::D.i ((Array.toList (Prod.snd (bkS x1 x6))).getD (0+Int.toNat (↑(bkI x1+x6):Int)) default).si::D.i ((Array.toList (Prod.snd (bkS x1 x6))).getD (0+Int.toNat (↑(bkI x1+x6):Int)) default).ca::@List.nil D)) (aR (Prod.snd (bkS x1 x13)))))/\True))))))))))))))))))))))))))/\((decide ((↑(bkI x1+x6):Int)<=(x1.a:Int)+((x1.b:Int)-(x1.a:Int)) / 4*2+1)=false)->(True/\(((RLe (Array.size x1.d) (Array.size x1.d))/\(RowsEq [.int .i64,.int .i64,.int .i64] (Array.size x1.d) (aR (Prod.snd (bkS x1 x6))) (aR (brF x1.d x1.a x1.b))))/\True))))))))))))))))))))))/\((decide ((8:Int)<=(x1.b:Int)-(x1.a:Int))=false)->(True/\(((RLe (Array.size x1.d) (Array.size x1.d))/\(RowsEq [.int .i64,.int .i64,.int .i64] (Array.size x1.d) (aR x1.d) (aR (brF x1.d x1.a x1.b))))/\True))))))))=(Keeps cfgBr Try.f49 (srtC SAok fun x=>brF x.d x.a x.b) brI) by kernel_rfl) (fun x1=>fun h2=>⟨⟨(by(have:=h2.n;have:=h2.b;have:=h2.a;omega)),
(by(have:=h2.n;have:=h2.b;have:=h2.a;omega))⟩,
fun g3=>have h3:=dT g3;⟨⟨(by omega),
(by(have:=h2.n;have:=h2.b;have:=h2.a;omega))⟩,
(SAx.b x1-SAx.a x1),
(by(try dsimp only at *);(have:=h2.n;have:=h2.b;have:=h2.a;omega)),
⟨(by(try dsimp only at *);omega),trivial⟩,trivial,
⟨(by(try dsimp only at *);omega),
(by(try dsimp only at *);omega),
(by(try dsimp only at *);omega),
(by(try dsimp only at *);(have:=h2.n;have:=h2.b;have:=h2.a;omega))⟩,
⟨(by(try dsimp only at *);omega),
(by(try dsimp only at *);(have:=h2.n;have:=h2.b;have:=h2.a;omega))⟩,
⟨(by(try dsimp only at *);omega),
(by(try dsimp only at *);(have:=h2.n;have:=h2.b;have:=h2.a;omega))⟩,
⟨(by(try dsimp only at *);omega),
(by(try dsimp only at *);(have:=h2.n;have:=h2.b;have:=h2.a;omega))⟩,
((0:Nat)),
⟨(by(try dsimp only at *);omega),
⟨(by(try dsimp only at *);(show(x1.a:Int)+((x1.b:Int)-x1.a) / 4*2-1=((x1.a+(x1.b-x1.a) / 4*2-1+0:Nat):Int);have:=h2.a;omega)),rfl,rfl,rfl,rfl,rfl,rfl,rfl,rfl,rfl,
⟨rfl,rfl⟩,rfl,rfl,rfl,rfl,rfl,rfl,rfl,rfl,
⟨rfl,rfl⟩,rfl,rfl,trivial,trivial⟩,
⟨(by(try dsimp only at *);(show(x1.b:Int)-x1.a=((x1.b-x1.a)%18446744073709551616:Nat);have:=h2.n;have:=h2.b;have:=h2.a;omega)),trivial⟩,
⟨rl,
(by(try dsimp only at *);exact rr)⟩,trivial⟩,
fun x6=>fun h7=>⟨⟨(by(try dsimp only at *);omega),
(by(try dsimp only at *);omega),
(by(try dsimp only at *);omega),
(by(try dsimp only at *);(have:=h2.n;have:=h2.b;have:=h2.a;omega))⟩,
⟨(by(try dsimp only at *);omega),
(by(try dsimp only at *);(have:=h2.n;have:=h2.b;have:=h2.a;omega))⟩,
⟨(by(try dsimp only at *);omega),
(by(try dsimp only at *);(have:=h2.n;have:=h2.b;have:=h2.a;omega))⟩,
⟨(by(try dsimp only at *);omega),
(by(try dsimp only at *);(have:=h2.n;have:=h2.b;have:=h2.a;omega))⟩,
fun g8=>have h8:=dT g8;⟨(UInt64.toNat (Prod.fst (bkS x1 x6))),
(by(try dsimp only at *);exact UInt64.toNat_lt _),
⟨⟨rfl,rfl⟩,trivial⟩,
⟨⟨rfl,trivial⟩,trivial⟩,
⟨(by(try dsimp only at *);(have q:=bkM_rng x1;unfold bkM at q;omega)),
(by(try dsimp only at *);(have q:=bkM_rng x1;unfold bkM at q;omega))⟩,
⟨(by(try dsimp only at *);(simp only[wd]at *;have:=bkO_lt h2 x6;have:=bk_lt h2 h3 h8;have:=h2.n;have:=h2.b;have:=h2.a;omega)),
(by(try dsimp only at *);(simp only[wd]at *;have:=bkO_lt h2 x6;have:=bk_lt h2 h3 h8;have:=h2.n;have:=h2.b;have:=h2.a;omega))⟩,
fun g10=>have h10:=dT g10;⟨⟨(by(try dsimp only at *);omega),
(by(try dsimp only at *);(simp only[wd]at *;have:=bkO_lt h2 x6;have:=bk_lt h2 h3 h8;have:=h2.n;have:=h2.b;have:=h2.a;omega))⟩,
⟨(by(try dsimp only at *);omega),
(by(try dsimp only at *);(simp only[wd]at *;have:=bkO_lt h2 x6;have:=bk_lt h2 h3 h8;have:=h2.n;have:=h2.b;have:=h2.a;omega))⟩,
⟨(by(try dsimp only at *);omega),
(by(try dsimp only at *);(simp only[wd]at *;have:=bkO_lt h2 x6;have:=bk_lt h2 h3 h8;have:=h2.n;have:=h2.b;have:=h2.a;omega))⟩,
⟨(by(try dsimp only at *);omega),
(by(try dsimp only at *);(simp only[wd]at *;have:=bkO_lt h2 x6;have:=bk_lt h2 h3 h8;have:=h2.n;have:=h2.b;have:=h2.a;omega))⟩,
(by(try dsimp only at *);(simp only[wd]at *;have:=bkO_lt h2 x6;have:=bk_lt h2 h3 h8;have:=h2.n;have:=h2.b;have:=h2.a;omega)),
⟨(by(try dsimp only at *);omega),
(by(try dsimp only at *);(have:=h2.n;have:=h2.b;have:=h2.a;omega))⟩,
(by(try dsimp only at *);(have:=h2.n;have:=h2.b;have:=h2.a;omega)),
⟨(by(try dsimp only at *);omega),
(by(try dsimp only at *);(have:=h2.n;have:=h2.b;have:=h2.a;omega))⟩,
⟨(by(try dsimp only at *);(have:=h2.n;have:=h2.b;have:=h2.a;omega)),trivial,trivial,trivial,trivial⟩,
⟨(by(try dsimp only at *);omega),
(by(try dsimp only at *);(simp only[wd]at *;have:=bkO_lt h2 x6;have:=bk_lt h2 h3 h8;have:=h2.n;have:=h2.b;have:=h2.a;omega))⟩,
⟨(by(try dsimp only at *);(simp only[wd]at *;have:=bkO_lt h2 x6;have:=bk_lt h2 h3 h8;have:=h2.n;have:=h2.b;have:=h2.a;omega)),trivial,trivial,trivial,trivial⟩,
⟨(by(try dsimp only at *);omega),
(by(try dsimp only at *);(have:=h2.n;have:=h2.b;have:=h2.a;omega))⟩,
(x6+(1:Nat)),
(by(try dsimp only at *);(simp only[wd]at *;have:=bkO_lt h2 x6;have:=bk_lt h2 h3 h8;have:=h2.n;have:=h2.b;have:=h2.a;omega)),
(by(try dsimp only at *);(simp only[wd]at *;have:=bkO_lt h2 x6;have:=bk_lt h2 h3 h8;have:=h2.n;have:=h2.b;have:=h2.a;omega)),
⟨(by(try dsimp only at *);omega),rfl,rfl,rfl,rfl,rfl,rfl,rfl,rfl,rfl,
⟨rfl,rfl⟩,rfl,rfl,rfl,rfl,rfl,rfl,rfl,rfl,
⟨rfl,rfl⟩,rfl,rfl,trivial,trivial⟩,
⟨(by(try dsimp only at *);rfl),trivial⟩,
⟨rl,
(by(try dsimp only at *);(simp only[wd]at *;rw[bk_out h10 h2.a,bk_nat];exact bk_rows h2 h3 h8))⟩,trivial⟩,
fun g12=>have h12:=dF g12;⟨⟨(by(try dsimp only at *);(simp only[wd]at *;have:=bkO_lt h2 x6;have:=bk_lt h2 h3 h8;have:=h2.n;have:=h2.b;have:=h2.a;omega)),
(by(try dsimp only at *);(have:=h2.n;have:=h2.b;have:=h2.a;omega))⟩,
⟨(by(try dsimp only at *);(simp only[wd]at *;have:=bkO_lt h2 x6;have:=bk_lt h2 h3 h8;have:=h2.n;have:=h2.b;have:=h2.a;omega)),
(by(try dsimp only at *);(have:=h2.n;have:=h2.b;have:=h2.a;omega))⟩,
⟨(by(try dsimp only at *);(simp only[wd]at *;have:=bkO_lt h2 x6;have:=bk_lt h2 h3 h8;have:=h2.n;have:=h2.b;have:=h2.a;omega)),
(by(try dsimp only at *);(have:=h2.n;have:=h2.b;have:=h2.a;omega))⟩,
(by(try dsimp only at *);(have:=h2.n;have:=h2.b;have:=h2.a;omega)),
⟨(by(try dsimp only at *);omega),
(by(try dsimp only at *);(have:=h2.n;have:=h2.b;have:=h2.a;omega))⟩,
(by(try dsimp only at *);(have:=h2.n;have:=h2.b;have:=h2.a;omega)),
⟨(by(try dsimp only at *);omega),
(by(try dsimp only at *);(have:=h2.n;have:=h2.b;have:=h2.a;omega))⟩,
⟨(by(try dsimp only at *);(have:=h2.n;have:=h2.b;have:=h2.a;omega)),trivial,trivial,trivial,trivial⟩,
⟨(by(try dsimp only at *);(simp only[wd]at *;have:=bkO_lt h2 x6;have:=bk_lt h2 h3 h8;have:=h2.n;have:=h2.b;have:=h2.a;omega)),
(by(try dsimp only at *);(have:=h2.n;have:=h2.b;have:=h2.a;omega))⟩,
⟨(by(try dsimp only at *);(have:=h2.n;have:=h2.b;have:=h2.a;omega)),trivial,trivial,trivial,trivial⟩,
⟨(by(try dsimp only at *);omega),
(by(try dsimp only at *);(have:=h2.n;have:=h2.b;have:=h2.a;omega))⟩,
(x6+(1:Nat)),
(by(try dsimp only at *);(simp only[wd]at *;have:=bkO_lt h2 x6;have:=bk_lt h2 h3 h8;have:=h2.n;have:=h2.b;have:=h2.a;omega)),
(by(try dsimp only at *);(simp only[wd]at *;have:=bkO_lt h2 x6;have:=bk_lt h2 h3 h8;have:=h2.n;have:=h2.b;have:=h2.a;omega)),
⟨(by(try dsimp only at *);omega),rfl,rfl,rfl,rfl,rfl,rfl,rfl,rfl,rfl,
⟨rfl,rfl⟩,rfl,rfl,rfl,rfl,rfl,rfl,rfl,rfl,
⟨rfl,rfl⟩,rfl,rfl,trivial,trivial⟩,
⟨(by(try dsimp only at *);rfl),trivial⟩,
⟨rl,
(by(try dsimp only at *);(simp only[wd]at *;rw[bk_in h12 h2.a,bk_nat];exact bk_rows h2 h3 h8))⟩,trivial⟩⟩,
fun g14=>have h14:=dF g14;⟨trivial,
⟨rl,
(by(try dsimp only at *);(rw[<- bk_done h2 h3 h7 h14];exact rr))⟩,trivial⟩⟩⟩,
fun g15=>have h15:=dF g15;⟨trivial,
⟨rl,
(by(try dsimp only at *);(rw[br_small (by omega)];exact rr))⟩,trivial⟩⟩)
theorem br_good:Good Try.prog 49 (srtC SAok fun x=>brF x.d x.a x.b)/\FnOk Try.prog 49:=good_of tok conBr (fn:=Try.f49) rfl (by decide+kernel) (fun _=>rfl) br_keeps
end Go.Sym