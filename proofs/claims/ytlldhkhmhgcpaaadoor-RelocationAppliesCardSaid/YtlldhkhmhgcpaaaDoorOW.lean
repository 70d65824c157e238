import Derived.Test.YtlldhkhmhgcpaaaDoorCM
import Derived.Test.YtlldhkhmhgcpaaaDoorXD
namespace Go.Sym
set_option linter.unusedVariables false
set_option linter.unusedSimpArgs false
open Go.Proofs
set_option maxRecDepth 100000
set_option maxHeartbeats 4000000
def owC:CT where
 X:=List Mv
 pre:=fun l=>l.length<=60
 args:=fun l=>[.sl 100001 0 l.length]
 g0:=fun l=>[(100001,.rows .bor kM l.length (encL encM l))]
 res:=fun l=>.sl 1 0 l.length
 g1:=fun l=>[(1,.rows .own kM l.length (encL encM l))]
theorem ow_s {l:List Mv} {k:Nat} (h:(k:Int)<l.length):l.take k++[((l.getD (0+(k:Int).toNat) default).1,(l.getD (0+(k:Int).toNat) default).2)]=l.take (k+1):=by
 rw[Nat.zero_add,show(k:Int).toNat=k from rfl,take_succ_getD (d:=default) (by omega)]
theorem ow_len {l:List Mv} {k:Nat} (h:k<=l.length):(l.take k).length=k:=by rw[List.length_take];omega
theorem ow_r {l:List Mv} {k m:Nat} (h:(k:Int)<l.length) (hm:m<=(l.take k).length+1):RowsEq kM m (appRows k (encL encM (l.take k)) 0 (litRows [[D.i (l.getD (0+(k:Int).toNat) default).1,D.i (l.getD (0+(k:Int).toNat) default).2]])) (encL encM (l.take (k+1))):=by
 rw[<- ow_s h]
 exact rowsEq_push (ow_len (by omega)).symm hm ⟨rfl,rfl,trivial⟩
theorem ow_t {l:List Mv} {k:Nat} (h:¬ (k:Int)<l.length):l.take k=l:=List.take_of_length_le (by omega)
def owI (l:List Mv) (id:Nat):Option Inv:=match id with
 |0=>some { X:=Nat,ok:=fun i=>i<=l.length,fr:=fun i=>[(3,.sl 361 0 i),(6,.sl 100001 0 l.length),(7,.i .i64 l.length),(8,.i .i64 i)],hp:=fun i=>[(100001,.rows .bor kM l.length (encL encM l)),(361,.rows .own kM i (encL encM (l.take i)))],me:=fun i=>l.length-i }
 |_=>none
set_option maxRecDepth 100000 in
theorem ow_keeps:Keeps cfg0 Tryd.f8 owC owI:=Eq.mp (show((∀ x1:List Mv,((x1.length<=(60:Nat))->(∃ x3:Nat,(((x3<=x1.length)/\(((True/\(0=0/\(x3=(0:Nat))))/\((0=0/\x1.length=x1.length)/\(((x1.length:Int)=(x1.length:Int))/\((0=(x3:Int))/\(True/\((0=0/\x1.length=x1.length)/\True))))))/\(((RLe x1.length x1.length)/\(RowsEq [.int .i64,.int .i64] x1.length (encL encM x1) (encL encM x1)))/\((x3=(0:Nat))/\True))))/\(∀ x4:Nat,((x4<=x1.length)->(((decide ((x4:Int)<(x1.length:Int))=true)->((((0:Int)<=(x4:Int))/\((x4:Int)<(x1.length:Int)))/\((0+Int.toNat (x4:Int)<x1.length)/\(((True/\(True/\True))/\True)/\((0=0/\((x4<=x4)/\(((1:Nat)<=(1:Nat))/\(x4+(1:Nat)<=(1073741824:Nat)))))/\((((-9223372036854775808:Int)<=(x4:Int)+1)/\((x4:Int)+1<=(9223372036854775807:Int)))/\(∃ x7:Nat,((x1.length-x7<x1.length-x4)/\((x7<=x1.length)/\(((0=0/\(x4+(1:Nat)=x7))/\((0=0/\x1.length=x1.length)/\(((x1.length:Int)=(x1.length:Int))/\(((x4:Int)+1=(x7:Int))/\(True/\((0=0/\x1.length=x1.length)/\True))))))/\(((RLe x1.length x1.length)/\(RowsEq [.int .i64,.int .i64] x1.length (encL encM x1) (encL encM x1)))/\(((RLe x7 (x4+(1:Nat)))/\(RowsEq [.int .i64,.int .i64] x7 (appRows x4 (encL encM (List.take x4 x1)) 0 (litRows ((D.i (Prod.fst (x1.getD (0+Int.toNat (x4:Int)) default))::D.i (Prod.snd (x1.getD (0+Int.toNat (x4:Int)) default))::@List.nil D)::@List.nil (List D)))) (encL encM (List.take x7 x1))))/\True))))))))))))/\((decide ((x4:Int)<(x1.length:Int))=false)->((0=0/\x4=x1.length)/\(((RLe x1.length x4)/\(RowsEq [.int .i64,.int .i64] x1.length (encL encM (List.take x4 x1)) (encL encM x1)))/\True)))))))))))=(Keeps cfg0 Tryd.f8 owC owI) by kernel_rfl) (fun x1=>fun h2=>⟨((0:Nat)),
⟨(by(try dsimp only at *);omega),
⟨⟨trivial,rfl,rfl⟩,
⟨rfl,rfl⟩,rfl,
(by(try dsimp only at *);omega),trivial,
⟨rfl,rfl⟩,trivial⟩,
⟨rl,rr⟩,rfl,trivial⟩,
fun x4=>fun h5=>⟨fun g6=>have h6:=dT g6;⟨⟨(by(try dsimp only at *);omega),
(by(try dsimp only at *);omega)⟩,
(by(try dsimp only at *);omega),
⟨⟨trivial,trivial,trivial⟩,trivial⟩,
⟨rfl,
(by(try dsimp only at *);omega),
(by(try dsimp only at *);omega),
(by(try dsimp only at *);omega)⟩,
⟨(by(try dsimp only at *);omega),
(by(try dsimp only at *);omega)⟩,
(x4+(1:Nat)),
(by(try dsimp only at *);omega),
(by(try dsimp only at *);omega),
⟨⟨rfl,rfl⟩,
⟨rfl,rfl⟩,rfl,
(by(try dsimp only at *);omega),trivial,
⟨rfl,rfl⟩,trivial⟩,
⟨rl,rr⟩,
⟨rl,
(by(try dsimp only at *);exact ow_r h6 (by rw[ow_len (by omega)];omega))⟩,trivial⟩,
fun g8=>have h8:=dF g8;⟨⟨rfl,
(by(try dsimp only at *);omega)⟩,
⟨⟨(by(try dsimp only at *);omega)⟩,
(by(try dsimp only at *);(rw[ow_t h8];exact rr))⟩,trivial⟩⟩⟩)
theorem ow_good:Good Tryd.prog 8 owC/\FnOk Tryd.prog 8:=good_of tok con0 (fn:=Tryd.f8) rfl (by decide+kernel) (fun _=>rfl) ow_keeps
end Go.Sym