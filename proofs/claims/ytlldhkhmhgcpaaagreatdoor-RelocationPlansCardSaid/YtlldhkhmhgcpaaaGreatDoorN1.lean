import Derived.Test.YtlldhkhmhgcpaaaGreatDoorT40
import Derived.Test.YtlldhkhmhgcpaaaGreatDoorXD
namespace Go.Sym
set_option linter.unusedVariables false
set_option linter.unusedSimpArgs false
open Go.Proofs
set_option maxRecDepth 100000
def kW:List Kd:=[.int .u64]
def encW (n:Nat) (_:Nat):D:=.i n
def cfgN0:Cfg:=⟨T,[],[],noInv,40,{}⟩
structure BitX where
 ws:List Nat
 n:Int
def addC:CT where
 X:=BitX
 pre:=fun x=>WOk x.ws/\0<=x.n/\x.n<4096
 args:=fun x=>[.p 100000 0 0,.i .i64 x.n]
 g0:=fun x=>[(100000,.rows .own kW 64 (encL encW x.ws))]
 res:=fun x=>.tup []
 g1:=fun x=>[(100000,.rows .own kW 64 (encL encW (addW x.ws x.n)))]
set_option maxRecDepth 100000 in
theorem add_keeps : Keeps cfgN0 Tryz.f32 addC noIv := Eq.mp (show (∀ x1 : BitX, (((WOk x1.ws)/\(Ix x1.n (4096 : Int)))-> ((((0 : Int) <= x1.n)/\(((0 : Int) < 64)/\(R6 (x1.n / 64))))/\((Ix (x1.n / 64) (↑(64 : Nat) : Int))/\((0 + Int.toNat (x1.n / 64) < (64 : Nat))/\((((0 : Int) <= x1.n)/\((0 : Int) < 64))/\(((0 : Int) <= x1.n % 64)/\((Ix (x1.n / 64) (↑(64 : Nat) : Int))/\(((0 + Int.toNat (x1.n / 64) < (64 : Nat))/\(True/\True))/\(True/\((RW [.int .u64] 64 64 (setRow (encL encW x1.ws) (0 + Int.toNat (x1.n / 64)) 0 (D.i (IntKind.wrap .u64 (↑(BitVec.toNat (BitVec.ofInt (IntKind.bits .u64) (↑(x1.ws.getD (0 + Int.toNat (x1.n / 64)) default) : Int) ||| BitVec.ofInt (IntKind.bits .u64) (IntKind.wrap .u64 ((1 : Int) * 2 ^ min (Int.toNat (x1.n % 64)) (IntKind.bits .u64))))) : Int)) :: @List.nil D)) (encL encW (addW x1.ws x1.n)))/\True))))))))))) = (Keeps cfgN0 Tryz.f32 addC noIv) by kernel_rfl) (fun x1 => fun h2 => ⟨⟨(by omega),(by omega),(by omega),(by omega)⟩,⟨(by omega),(by omega)⟩,(by omega),⟨(by omega),(by omega)⟩,(by omega),⟨(by omega),(by omega)⟩,⟨(by omega),trivial,trivial⟩,trivial,⟨rl,(by
        (have e1:(x1.n / 64).toNat=x1.n.toNat / 64:=(by omega);have e2:(x1.n%64).toNat=x1.n.toNat%64:=(by omega);have h64:0<=x1.n%64/\x1.n%64<64:=(by omega);rw[shl_u64 h64,or_u64 (h2.1.lt _) (pow_lt64 (by omega)),e2,Nat.zero_add,e1];exact rowsEq_set (v:=_) (by rw[h2.1.len];omega) (by simp only[rowEq,Kd.eqv,kW];exact⟨rfl,trivial⟩)))⟩,trivial⟩)
theorem conN0:ConOk Tryz.prog cfgN0:=ConL.ok .nil
theorem add_good:Good Tryz.prog 32 addC/\FnOk Tryz.prog 32:=good_of tok conN0 (fn:=Tryz.f32) rfl (by decide+kernel) (fun _=>rfl) add_keeps
end Go.Sym
namespace Go.Sym
set_option linter.unusedVariables false
set_option linter.unusedSimpArgs false
open Go.Proofs
set_option maxRecDepth 100000
def szW (ws:List Nat):Nat:=if ws=nilW then 0 else 64
theorem szW_zero {ws:List Nat}:szW ws=0↔ws=nilW:=by unfold szW;split <;>simp_all
theorem szW_le (ws:List Nat):szW ws<=64:=by unfold szW;split <;>omega
theorem szW_full {ws:List Nat} (h:¬ szW ws=0):szW ws=64:=by unfold szW at *;split at h <;>simp_all
def setV (ws:List Nat) (l:Nat):SV:=.agg [.q l (szW ws)]
def setH (ws:List Nat) (m:Md) (l:Nat):List (Nat × Blk):=[(l,.rows m kW (szW ws) (encL encW ws))]
def setOfC:CT where
 X:=List Nat
 pre:=WOk
 args:=fun ws=>[.p 100000 0 0]
 g0:=fun ws=>[(100000,.rows .own kW 64 (encL encW ws))]
 res:=fun ws=>setV ws 1
 g1:=fun ws=>[(100000,.dead),(1,.rows .own kW (szW ws) (encL encW ws))]
set_option maxRecDepth 100000 in
theorem setOf_keeps:Keeps cfgN0 Tryz.f33 setOfC noIv:=Eq.mp (show(∀ x1:List Nat,((WOk x1)->((0=0/\((64:Nat)<=(64:Nat)))/\(CB (decide (∀(r:Nat),r<(64:Nat)->(↑(x1.getD r default):Int)=D.toI (D.i 0))) (((szW x1=(0:Nat))/\True)/\(True/\((szW x1=(0:Nat))/\True))) (((0=0/\(0=0/\(szW x1≠(0:Nat))))/\True)/\(True/\((RW [.int .u64] (szW x1) 64 (encL encW x1) (encL encW x1))/\True)))))))=(Keeps cfgN0 Tryz.f33 setOfC noIv) by kernel_rfl) (fun x1=>fun h2=>⟨⟨rfl,(by omega)⟩,fun g3=>have h3:=dT g3;⟨⟨(by exact szW_zero.2 (all_zero h2 h3)),trivial⟩,trivial,(by exact szW_zero.2 (all_zero h2 h3)),trivial⟩,fun g4=>have h4:=dF g4;⟨⟨⟨rfl,rfl,(by exact fun hh=>h4 (fun r _=>by rw[szW_zero.1 hh,nilW_at];rfl))⟩,trivial⟩,trivial,⟨⟨(by exact szW_le _)⟩,rr⟩,trivial⟩⟩)
structure TwoX where
 a:List Nat
 b:List Nat
end Go.Sym
namespace Go.Sym
set_option linter.unusedVariables false
set_option linter.unusedSimpArgs false
open Go.Proofs
set_option maxRecDepth 100000
theorem setOf_good:Good Tryz.prog 33 setOfC/\FnOk Tryz.prog 33:=good_of tok conN0 (fn:=Tryz.f33) rfl (by decide+kernel) (fun _=>rfl) setOf_keeps
def k1:List Kd:=[.int .i64]
def CN1:List (Nat × Con):=[(32,.one addC),(33,.one setOfC)]
def cfgN1:Cfg:=⟨T,[],CN1,noInv,22,{}⟩
theorem conN1:ConOk Tryz.prog cfgN1:=ConL.ok (.cons (ConL.one add_good) (.cons (ConL.one setOf_good) .nil))
def addOk (ws:List Nat) (n:Int):List Nat:=if 0<=n/\n<4096 then addW ws n else ws
def ofW (l:List Int) (k:Nat):List Nat:=(l.take k).foldl addOk nilW
theorem WOk.addOk {ws:List Nat} (h:WOk ws) (n:Int):WOk (addOk ws n):=by unfold Go.Sym.addOk;split;exact h.add n;exact h
theorem take_succ_getD {α:Type} {xs:List α} {k:Nat} {d:α} (h:k<xs.length):xs.take (k+1)=xs.take k++[xs.getD k d]:=by
 rw[List.take_succ_eq_append_getElem h];simp[List.getD_eq_getElem?_getD,h]
theorem ofW_succ {l:List Int} {k:Nat} (h:k<l.length):ofW l (k+1)=addOk (ofW l k) (l.getD k default):=by
 unfold ofW;rw[take_succ_getD (d:=default) h,List.foldl_append];rfl
theorem ofW_ok (l:List Int):∀ k,WOk (ofW l k):=by
 intro k
 unfold ofW
 have:∀(l:List Int) (ws:List Nat),WOk ws->WOk (l.foldl addOk ws):=by
  intro l
  induction l with
  |nil=>intro ws h;exact h
  |cons a r ih=>intro ws h;exact ih _ (h.addOk a)
 exact this _ _ .nil
theorem nil_rows:RowsEq kW 64 (fun _ j=>zRow kW j) (encL encW nilW):=⟨fun r hr=>by
 unfold encL
 rw[nilW_at]
 simp only[rowEq,Kd.eqv,kW];exact⟨rfl,trivial⟩⟩
theorem of_yes {l:List Int} {k:Nat} (hk:(k:Int)<l.length) (h1:0<=l.getD (0+(k:Int).toNat) default) (h2:l.getD (0+(k:Int).toNat) default<4096):addW (ofW l k) (l.getD (0+(k:Int).toNat) default)=ofW l (k+1):=by
 rw[Nat.zero_add,Int.toNat_natCast]at*
 rw[ofW_succ (by omega)];unfold addOk;rw[if_pos ⟨h1,h2⟩]
theorem of_no {l:List Int} {k:Nat} (hk:(k:Int)<l.length) (h1:¬ (0<=l.getD (0+(k:Int).toNat) default/\l.getD (0+(k:Int).toNat) default<4096)):ofW l k=ofW l (k+1):=by
 rw[Nat.zero_add,Int.toNat_natCast]at*
 rw[ofW_succ (by omega)];unfold addOk;rw[if_neg h1]
def ofC:CT where
 X:=List Int
 pre:=fun l=>l.length<=1048576
 args:=fun l=>[.sl 100000 0 l.length]
 g0:=fun l=>[(100000,.rows .bor k1 l.length (encL encI l))]
 res:=fun l=>setV (ofW l l.length) 1
 g1:=fun l=>setH (ofW l l.length) .own 1
def ofI (l:List Int) (id:Nat):Option Inv:=match id with
 |0=>some { X:=Nat,ok:=fun k=>k<=l.length,fr:=fun k=>[(8,.i .i64 k),(3,.p 3 0 0),(2,.p 2 0 0)],hp:=fun k=>[(2,.one .own [.np]),(3,.rows .own kW 64 (encL encW (ofW l k)))],me:=fun k=>l.length-k }
 |_=>none
def allW (k:Nat):List Nat:=(List.range k).foldl (fun(ws:List Nat) (i:Nat)=>addW ws (i:Int)) nilW
theorem allW_succ (k:Nat):allW (k+1)=addW (allW k) k:=by unfold allW;rw[List.range_succ,List.foldl_append];rfl
theorem allW_ok:∀ k,WOk (allW k)
 |0=>.nil
 |k+1=>by rw[allW_succ];exact(allW_ok k).add _
def allNC:CT where
 X:=Int
 pre:=fun n=>0<=n
 args:=fun n=>[.i .i64 n]
 g0:=fun n=>[]
 res:=fun n=>setV (allW (min n 4096).toNat) 1
 g1:=fun n=>setH (allW (min n 4096).toNat) .own 1
def allNI (n:Int) (id:Nat):Option Inv:=match id with
 |0=>some { X:=Nat,ok:=fun k=>k<=(min n 4096).toNat,fr:=fun k=>[(7,.i .i64 k),(3,.p 3 0 0),(2,.p 2 0 0)],hp:=fun k=>[(2,.one .own [.np]),(3,.rows .own kW 64 (encL encW (allW k)))],me:=fun k=>(min n 4096).toNat-k }
 |_=>none
abbrev q4F0 (x1:Int):Prop:=((0=0/\0=0)/\((0=0/\0=0)/\((min x1 (4096:Int)=min x1 (4096:Int))/\(x1=x1/\(x1=x1/\True)))))
theorem q4f0 {x1:Int}:q4F0 x1:=⟨⟨rfl,rfl⟩,⟨rfl,rfl⟩,rfl,rfl,rfl,trivial⟩
set_option maxRecDepth 100000 in
theorem all_keeps : Keeps cfgN1 Tryz.f20 allNC allNI := Eq.mp (show (∀ x1 : Int, (((0 : Int) <= x1)-> (∃ x3 : Nat, (((x3 <= Int.toNat (min x1 (4096 : Int)))/\(((0 = (x3 : Int))/\(q4F0 x1))/\((True/\True)/\((RW [.int .u64] 64 64 (fun (x j : Nat) => zRow [.int .u64] j) (encL encW (allW x3)))/\True))))/\(∀ x4 : Nat, ((x4 <= Int.toNat (min x1 (4096 : Int)))-> (CB (decide ((x4 : Int) < min x1 (4096 : Int))) (∃ x7 : BitX, (((WOk x7.ws)/\(Ix x7.n (4096 : Int)))/\(((0=0 /\ 0=0)/\(((x4 : Int) = x7.n)/\True))/\(((RW [.int .u64] 64 64 (encL encW (allW x4)) (encL encW x7.ws))/\True)/\((R6 ((x4 : Int) + 1))/\(∃ x8 : Nat, ((Int.toNat (min x1 (4096 : Int)) - x8 < Int.toNat (min x1 (4096 : Int)) - x4)/\((x8 <= Int.toNat (min x1 (4096 : Int)))/\((((x4 : Int) + 1 = (x8 : Int))/\(q4F0 x1))/\((True/\True)/\((RW [.int .u64] 64 64 (encL encW (addW x7.ws x7.n)) (encL encW (allW x8)))/\True))))))))))) (∃ x10 : List Nat, ((WOk x10)/\(((0=0 /\ 0=0)/\True)/\(((RW [.int .u64] 64 64 (encL encW (allW x4)) (encL encW x10))/\True)/\(((szW x10 = szW (allW (Int.toNat (min x1 (4096 : Int)))))/\True)/\((RW [.int .u64] (szW (allW (Int.toNat (min x1 (4096 : Int))))) (szW x10) (encL encW x10) (encL encW (allW (Int.toNat (min x1 (4096 : Int))))))/\True))))))))))))) = (Keeps cfgN1 Tryz.f20 allNC allNI) by kernel_rfl) (fun x1 => fun h2 => ⟨((0 : Nat)),⟨(by (try dsimp only at *); omega),⟨(by (try dsimp only at *); omega),q4f0⟩,⟨trivial,trivial⟩,⟨rl,(by (try dsimp only at *); exact nil_rows)⟩,trivial⟩,fun x4 => fun h5 => ⟨fun g6 => have h6 := dT g6; ⟨({ ws := allW x4, n := (↑x4 : Int) : BitX }),⟨(by (try dsimp only at *); exact allW_ok _),(by (try dsimp only at *); omega),(by (try dsimp only at *); omega)⟩,⟨⟨rfl,rfl⟩,rfl,trivial⟩,⟨⟨rl,rr⟩,trivial⟩,⟨(by (try dsimp only at *); omega),(by (try dsimp only at *); omega)⟩,(x4 + (1 : Nat)),(by (try dsimp only at *); omega),(by (try dsimp only at *); omega),⟨(by (try dsimp only at *); omega),q4f0⟩,⟨trivial,trivial⟩,⟨rl,(by
        (dsimp only;rw[allW_succ];exact rr))⟩,trivial⟩,fun g9=>have h9:=dF g9;⟨(allW x4),(by(try dsimp only at *);exact allW_ok _),⟨⟨rfl,rfl⟩,trivial⟩,⟨⟨rl,rr⟩,trivial⟩,⟨(by(try dsimp only at *);grind),trivial⟩,⟨⟨(by(try dsimp only at *);grind)⟩,(by(try dsimp only at *);(obtain rfl:x4=(min x1 4096).toNat:=(by omega);exact rr))⟩,trivial⟩⟩⟩)
theorem all_good:Good Tryz.prog 20 allNC/\FnOk Tryz.prog 20:=good_of tok conN1 (fn:=Tryz.f20) rfl (by decide+kernel) (fun _=>rfl) all_keeps
end Go.Sym