import Derived.Test.YtlldhkhmhgcpaaaGreatDoorN1
import Derived.Test.YtlldhkhmhgcpaaaGreatDoorXD
import Derived.Test.YtlldhkhmhgcpaaaGreatDoorCM
namespace Go.Sym
set_option linter.unusedVariables false
set_option linter.unusedSimpArgs false
open Go.Proofs
set_option maxRecDepth 100000
set_option maxHeartbeats 4000000
def ofLC:CT:={ ofC with pre:=fun l=>l.length<=9223372036854775807 }
abbrev q76F0 (x1:List Int):Prop:=((0=0/\0=0)/\((0=0/\0=0)/\(((x1.length:Int)=(x1.length:Int))/\((0=0/\x1.length=x1.length)/\((0=0/\x1.length=x1.length)/\True)))))
theorem q76f0 {x1:List Int}:q76F0 x1:=⟨⟨rfl,rfl⟩,⟨rfl,rfl⟩,rfl,⟨rfl,rfl⟩,⟨rfl,rfl⟩,trivial⟩
abbrev q76F1 (x1:List Int):Prop:=(((RLe x1.length x1.length)/\(RI x1.length x1 x1))/\True)
theorem q76f1 {x1:List Int}:q76F1 x1:=⟨⟨rl,rr⟩,trivial⟩
set_option maxRecDepth 100000 in
theorem ofL_keeps : Keeps cfgN1 Tryz.f10 ofLC ofI := Eq.mp (show (∀ x1 : List Int, ((x1.length <= (9223372036854775807 : Nat))-> (∃ x3 : Nat, (((x3 <= x1.length)/\(((0 = (x3 : Int))/\(q76F0 x1))/\((True/\True)/\((RW [.int .u64] 64 64 (fun (x j : Nat) => zRow [.int .u64] j) (encL encW (ofW x1 x3)))/\(q76F1 x1)))))/\(∀ x4 : Nat, ((x4 <= x1.length)-> (CB (decide ((x4 : Int) < (x1.length : Int))) ((Ix (x4 : Int) (x1.length : Int))/\((0 + Int.toNat (x4 : Int) < x1.length)/\(CB (decide ((0 : Int) <= x1.getD (0 + Int.toNat (x4 : Int)) default)) (CB (decide (x1.getD (0 + Int.toNat (x4 : Int)) default < 4096)) (∃ x9 : BitX, (((WOk x9.ws)/\(Ix x9.n (4096 : Int)))/\(((0=0 /\ 0=0)/\((x1.getD (0 + Int.toNat (x4 : Int)) default = x9.n)/\True))/\(((RW [.int .u64] 64 64 (encL encW (ofW x1 x4)) (encL encW x9.ws))/\True)/\((R6 ((x4 : Int) + 1))/\(∃ x10 : Nat, ((x1.length - x10 < x1.length - x4)/\((x10 <= x1.length)/\((((x4 : Int) + 1 = (x10 : Int))/\(q76F0 x1))/\((True/\True)/\((RW [.int .u64] 64 64 (encL encW (addW x9.ws x9.n)) (encL encW (ofW x1 x10)))/\(q76F1 x1)))))))))))) ((R6 ((x4 : Int) + 1))/\(∃ x12 : Nat, ((x1.length - x12 < x1.length - x4)/\((x12 <= x1.length)/\((((x4 : Int) + 1 = (x12 : Int))/\(q76F0 x1))/\((True/\True)/\((RW [.int .u64] 64 64 (encL encW (ofW x1 x4)) (encL encW (ofW x1 x12)))/\(q76F1 x1))))))))) ((R6 ((x4 : Int) + 1))/\(∃ x14 : Nat, ((x1.length - x14 < x1.length - x4)/\((x14 <= x1.length)/\((((x4 : Int) + 1 = (x14 : Int))/\(q76F0 x1))/\((True/\True)/\((RW [.int .u64] 64 64 (encL encW (ofW x1 x4)) (encL encW (ofW x1 x14)))/\(q76F1 x1))))))))))) (∃ x16 : List Nat, ((WOk x16)/\(((0=0 /\ 0=0)/\True)/\(((RW [.int .u64] 64 64 (encL encW (ofW x1 x4)) (encL encW x16))/\True)/\(((szW x16 = szW (ofW x1 x1.length))/\True)/\((RW [.int .u64] (szW (ofW x1 x1.length)) (szW x16) (encL encW x16) (encL encW (ofW x1 x1.length)))/\True))))))))))))) = (Keeps cfgN1 Tryz.f10 ofLC ofI) by kernel_rfl) (fun x1 => fun h2 => ⟨((0 : Nat)),⟨(by (try dsimp only at *); omega),⟨(by (try dsimp only at *); omega),q76f0⟩,⟨trivial,trivial⟩,⟨rl,(by (try dsimp only at *); exact nil_rows)⟩,q76f1⟩,fun x4 => fun h5 => ⟨fun g6 => have h6 := dT g6; ⟨⟨(by (try dsimp only at *); omega),(by (try dsimp only at *); omega)⟩,(by (try dsimp only at *); omega),fun g7 => have h7 := dT g7; ⟨fun g8 => have h8 := dT g8; ⟨({ ws := ofW x1 x4, n := List.getD x1 ((0 : Nat) + Int.toNat (↑x4 : Int)) default : BitX }),⟨(by (try dsimp only at *); exact ofW_ok _ _),(by (try dsimp only at *); omega),(by (try dsimp only at *); omega)⟩,⟨⟨rfl,rfl⟩,rfl,trivial⟩,⟨⟨rl,rr⟩,trivial⟩,⟨(by (try dsimp only at *); omega),(by (try dsimp only at *); omega)⟩,(x4 + (1 : Nat)),(by (try dsimp only at *); omega),(by (try dsimp only at *); omega),⟨(by (try dsimp only at *); omega),q76f0⟩,⟨trivial,trivial⟩,⟨rl,(by
        (dsimp only;rw[of_yes h6 h7 h8];exact rr))⟩,q76f1⟩,fun g11=>have h11:=dF g11;⟨⟨(by(try dsimp only at *);omega),(by(try dsimp only at *);omega)⟩,(x4+(1:Nat)),(by(try dsimp only at *);omega),(by(try dsimp only at *);omega),⟨(by(try dsimp only at *);omega),q76f0⟩,⟨trivial,trivial⟩,⟨rl,(by
        (rw[<- of_no h6 (fun h=>h11 h.2)];exact rr))⟩,q76f1⟩⟩,fun g13=>have h13:=dF g13;⟨⟨(by(try dsimp only at *);omega),(by(try dsimp only at *);omega)⟩,(x4+(1:Nat)),(by(try dsimp only at *);omega),(by(try dsimp only at *);omega),⟨(by(try dsimp only at *);omega),q76f0⟩,⟨trivial,trivial⟩,⟨rl,(by
        (rw[<- of_no h6 (fun h=>h13 h.1)];exact rr))⟩,q76f1⟩⟩,fun g15=>have h15:=dF g15;⟨(ofW x1 x4),(by(try dsimp only at *);exact ofW_ok _ _),⟨⟨rfl,rfl⟩,trivial⟩,⟨⟨rl,rr⟩,trivial⟩,⟨(by(try dsimp only at *);grind),trivial⟩,⟨⟨(by(try dsimp only at *);grind)⟩,(by
        (obtain rfl:x4=x1.length:=(by omega);exact rr))⟩,trivial⟩⟩⟩)
theorem ofL_good:Good Tryz.prog 10 ofLC/\FnOk Tryz.prog 10:=good_of tok conN1 (fn:=Tryz.f10) rfl (by decide+kernel) (fun _=>rfl) ofL_keeps
end Go.Sym
namespace Go.Sym
set_option linter.unusedVariables false
set_option linter.unusedSimpArgs false
open Go.Proofs
set_option maxRecDepth 100000
set_option maxHeartbeats 4000000
def owC:CT where
 X:=List Mv
 pre:=fun l=>l.length<=60
 args:=fun l=>[.sl 100001 0 l.length]
 g0:=fun l=>[(100001,.rows .bor kM l.length (encL encM l))]
 res:=fun l=>.sl 1 0 l.length
 g1:=fun l=>[(1,.rows .own kM l.length (encL encM l))]
theorem ow_s {l:List Mv} {k:Nat} (h:(k:Int)<l.length):l.take k++[((l.getD (0+(k:Int).toNat) default).1,(l.getD (0+(k:Int).toNat) default).2)]=l.take (k+1):=by
 rw[Nat.zero_add,show(k:Int).toNat=k from rfl,take_succ_getD (d:=default) (by omega)]
theorem ow_len {l:List Mv} {k:Nat} (h:k<=l.length):(l.take k).length=k:=by rw[List.length_take];omega
theorem ow_r {l:List Mv} {k m:Nat} (h:(k:Int)<l.length) (hm:m<=(l.take k).length+1):RowsEq kM m (appRows k (encL encM (l.take k)) 0 (litRows [[D.i (l.getD (0+(k:Int).toNat) default).1,D.i (l.getD (0+(k:Int).toNat) default).2]])) (encL encM (l.take (k+1))):=by
 rw[<- ow_s h]
 exact rowsEq_push (ow_len (by omega)).symm hm ⟨rfl,rfl,trivial⟩
theorem ow_t {l:List Mv} {k:Nat} (h:¬ (k:Int)<l.length):l.take k=l:=List.take_of_length_le (by omega)
def owI (l:List Mv) (id:Nat):Option Inv:=match id with
 |0=>some { X:=Nat,ok:=fun i=>i<=l.length,fr:=fun i=>[(3,.sl 361 0 i),(6,.sl 100001 0 l.length),(7,.i .i64 l.length),(8,.i .i64 i)],hp:=fun i=>[(100001,.rows .bor kM l.length (encL encM l)),(361,.rows .own kM i (encL encM (l.take i)))],me:=fun i=>l.length-i }
 |_=>none
abbrev q77F0 (x1:List Mv):Prop:=(True/\((0=0/\x1.length=x1.length)/\True))
theorem q77f0 {x1:List Mv}:q77F0 x1:=⟨trivial,⟨rfl,rfl⟩,trivial⟩
abbrev q77F1 (x1:List Mv):Prop:=((RLe x1.length x1.length)/\(RowsEq [.int .i64,.int .i64] x1.length (encL encM x1) (encL encM x1)))
theorem q77f1 {x1:List Mv}:q77F1 x1:=⟨rl,rr⟩
set_option maxRecDepth 100000 in
theorem ow_keeps:Keeps cfg0 Tryz.f17 owC owI:=Eq.mp (show(∀ x1:List Mv,((x1.length<=(60:Nat))->(∃ x3:Nat,(((x3<=x1.length)/\(((True/\(0=0/\(x3=(0:Nat))))/\((0=0/\x1.length=x1.length)/\(((x1.length:Int)=(x1.length:Int))/\((0=(x3:Int))/\(q77F0 x1)))))/\((q77F1 x1)/\((x3=(0:Nat))/\True))))/\(∀ x4:Nat,((x4<=x1.length)->(CB (decide ((x4:Int)<(x1.length:Int))) ((Ix (x4:Int) (x1.length:Int))/\((0+Int.toNat (x4:Int)<x1.length)/\(((True/\(True/\True))/\True)/\((0=0/\((x4<=x4)/\(((1:Nat)<=(1:Nat))/\(x4+(1:Nat)<=(1073741824:Nat)))))/\((R6 ((x4:Int)+1))/\(∃ x7:Nat,((x1.length-x7<x1.length-x4)/\((x7<=x1.length)/\(((0=0/\(x4+(1:Nat)=x7))/\((0=0/\x1.length=x1.length)/\(((x1.length:Int)=(x1.length:Int))/\(((x4:Int)+1=(x7:Int))/\(q77F0 x1)))))/\((q77F1 x1)/\((RW [.int .i64,.int .i64] x7 (x4+(1:Nat)) (appRows x4 (encL encM (List.take x4 x1)) 0 (litRows ((D.i (Prod.fst (x1.getD (0+Int.toNat (x4:Int)) default))::D.i (Prod.snd (x1.getD (0+Int.toNat (x4:Int)) default))::@List.nil D)::@List.nil (List D)))) (encL encM (List.take x7 x1)))/\True))))))))))) ((0=0/\x4=x1.length)/\((RW [.int .i64,.int .i64] x1.length x4 (encL encM (List.take x4 x1)) (encL encM x1))/\True)))))))))=(Keeps cfg0 Tryz.f17 owC owI) by kernel_rfl) (fun x1=>fun h2=>⟨((0:Nat)),⟨(by(try dsimp only at *);omega),⟨⟨trivial,rfl,rfl⟩,⟨rfl,rfl⟩,rfl,(by(try dsimp only at *);omega),q77f0⟩,q77f1,rfl,trivial⟩,fun x4=>fun h5=>⟨fun g6=>have h6:=dT g6;⟨⟨(by(try dsimp only at *);omega),(by(try dsimp only at *);omega)⟩,(by(try dsimp only at *);omega),⟨⟨trivial,trivial,trivial⟩,trivial⟩,⟨rfl,(by(try dsimp only at *);omega),(by(try dsimp only at *);omega),(by(try dsimp only at *);omega)⟩,⟨(by(try dsimp only at *);omega),(by(try dsimp only at *);omega)⟩,(x4+(1:Nat)),(by(try dsimp only at *);omega),(by(try dsimp only at *);omega),⟨⟨rfl,rfl⟩,⟨rfl,rfl⟩,rfl,(by(try dsimp only at *);omega),q77f0⟩,q77f1,⟨rl,(by(try dsimp only at *);exact ow_r h6 (by rw[ow_len (by omega)];omega))⟩,trivial⟩,fun g8=>have h8:=dF g8;⟨⟨rfl,(by(try dsimp only at *);omega)⟩,⟨⟨(by(try dsimp only at *);omega)⟩,(by(try dsimp only at *);(rw[ow_t h8];exact rr))⟩,trivial⟩⟩⟩)
theorem ow_good:Good Tryz.prog 17 owC/\FnOk Tryz.prog 17:=good_of tok con0 (fn:=Tryz.f17) rfl (by decide+kernel) (fun _=>rfl) ow_keeps
end Go.Sym