import Derived.Test.YtlldhkhmhgcpaaaDoorNM
import Derived.Test.YtlldhkhmhgcpaaaDoorFM
import Derived.Test.YtlldhkhmhgcpaaaDoorXD
namespace Go.Sym
set_option linter.unusedVariables false
set_option linter.unusedSimpArgs false
open Go.Proofs
set_option maxRecDepth 100000
set_option maxHeartbeats 4000000
def jnA (l:List Mv) (k:Nat):ByteArray:=joiS ((l.take k).map stpW) comB
theorem jnA_s {l:List Mv} {k:Nat} (h:(k:Int)<l.length) (h0:0<(k:Int)):jnA l k++comB++stpW (l.getD (0+(k:Int).toNat) default)=jnA l (k+1):=by
 unfold jnA
 rw[Nat.zero_add,show(k:Int).toNat=k from rfl,take_succ_getD (d:=default) (by omega),List.map_append]
 refine(joi_snoc _ _ _ fun e=>?_).symm
 have:=congrArg List.length e
 rw[List.length_map,List.length_take]at this
 have:min k l.length=0:=this
 omega
theorem jnA_s0 {l:List Mv} {k:Nat} (h:(k:Int)<l.length) (h0:¬ 0<(k:Int)):jnA l k++stpW (l.getD (0+(k:Int).toNat) default)=jnA l (k+1):=by
 have e:k=0:=by omega
 subst e
 unfold jnA
 rw[Nat.zero_add,show((0:Nat):Int).toNat=0 from rfl,take_succ_getD (d:=default) (by omega),List.map_append]
 show joiS [] comB++_=joiS [_] comB
 rw[joi_one,joi_nil,nil_ba]
theorem jn_z {l:List Mv} (hl:MvsOk l) (k:Nat):(jnA l k).size<=10000:=by
 have:=joi_size (b:=51) comB ((l.take k).map stpW) (fun x hx=>by
  obtain⟨m,hm,rfl⟩:=List.mem_map.1 hx
  exact stpW_size (hl.2 m (List.mem_of_mem_take hm)))
 have e1:comB.size=2:=rfl
 have e2:=hl.1
 rw[e1,List.length_map,List.length_take]at this
 have e3:min k l.length*(51+2)<=60*53:=Nat.mul_le_mul (by omega) (by decide)
 unfold jnA
 omega
theorem tx_ass (a:ByteArray) (m:Mv):a++uniB++itoS m.1++tooB++itoS m.2=a++stpW m:=by
 unfold stpW
 simp only[ba_assoc]
theorem tx_1 {l:List Mv} {k:Nat} (h:(k:Int)<l.length) (h0:0<(k:Int)):jnA l k++comB++uniB++itoS (l.getD (0+(k:Int).toNat) default).1++tooB++itoS (l.getD (0+(k:Int).toNat) default).2=jnA l (k+1):=by rw[tx_ass,jnA_s h h0]
theorem tx_2 {l:List Mv} {k:Nat} (h:(k:Int)<l.length) (h0:¬ 0<(k:Int)):jnA l k++uniB++itoS (l.getD (0+(k:Int).toNat) default).1++tooB++itoS (l.getD (0+(k:Int).toNat) default).2=jnA l (k+1):=by rw[tx_ass,jnA_s0 h h0]
theorem tx_z {l:List Mv} (hl:MvsOk l) {k:Nat} (h:(k:Int)<l.length) {a:ByteArray} (ha:a.size<=20000):a.size+uniB.size<=9223372036854775807/\(a++uniB).size+(itoS (l.getD (0+(k:Int).toNat) default).1).size<=9223372036854775807/\(a++uniB++itoS (l.getD (0+(k:Int).toNat) default).1).size+tooB.size<=9223372036854775807/\(a++uniB++itoS (l.getD (0+(k:Int).toNat) default).1++tooB).size+(itoS (l.getD (0+(k:Int).toNat) default).2).size<=9223372036854775807:=by
 have h1:=ito_size (mv_el hl h).1
 have h2:=ito_size (mv_el hl h).2
 have e1:uniB.size=5:=rfl
 have e2:tooB.size=4:=rfl
 refine⟨by omega,?_,?_,?_⟩
 ·rw[ba_size];omega
 ·rw[ba_size,ba_size];omega
 ·rw[ba_size,ba_size,ba_size];omega
theorem tx_c {l:List Mv} (hl:MvsOk l) (k:Nat):(jnA l k).size+comB.size<=9223372036854775807/\(jnA l k).size<=20000/\(jnA l k++comB).size<=20000:=by
 have:=jn_z hl k
 have e1:comB.size=2:=rfl
 rw[ba_size]
 omega
theorem tx_0 {l:List Mv} (h:(l.length:Int)=0):nobB=fmtF l:=fo_0 h
theorem tx_t {l:List Mv} {k:Nat} (h:¬ (l.length:Int)=0) (hk:¬ (k:Int)<l.length):jnA l k=fmtF l:=by
 unfold fmtF jnA
 rw[if_neg (fun e=>h (by rw[e];rfl)),List.take_of_length_le (by omega)]
def txI (l:List Mv) (id:Nat):Option Inv:=match id with
 |0=>some { X:=Nat,ok:=fun i=>i<=l.length,fr:=fun i=>[(0,.sl 100001 0 l.length),(3,.s (jnA l i)),(6,.sl 100001 0 l.length),(7,.i .i64 l.length),(8,.i .i64 i)],hp:=fun i=>[(100001,.rows .bor kM l.length (encL encM l))],me:=fun i=>l.length-i }
 |_=>none
def cfgTx:Cfg:=⟨T,[],[(20,.one itC1)],noInv,60,{ kn:=true }⟩
theorem conTx:ConOk Tryd.prog cfgTx:=ConL.ok (.cons (ConL.one nm_good) .nil)
set_option maxRecDepth 100000 in
theorem tx_keeps:Keeps cfgTx Tryd.f9 foC txI:=Eq.mp (show((∀ x1:List Mv,((MvsOk x1)->(∃ x3:Nat,(((x3<=x1.length)/\(((0=0/\x1.length=x1.length)/\(((ByteArray.mk (List.toArray (@List.nil UInt8)))=jnA x1 x3)/\((0=0/\x1.length=x1.length)/\(((x1.length:Int)=(x1.length:Int))/\((0=(x3:Int))/\(((ByteArray.mk (List.toArray (@List.nil UInt8)))=(ByteArray.mk (List.toArray (@List.nil UInt8))))/\True))))))/\(((RLe x1.length x1.length)/\(RowsEq [.int .i64,.int .i64] x1.length (encL encM x1) (encL encM x1)))/\True)))/\(∀ x4:Nat,((x4<=x1.length)->(((decide ((x4:Int)<(x1.length:Int))=true)->((((0:Int)<=(x4:Int))/\((x4:Int)<(x1.length:Int)))/\((0+Int.toNat (x4:Int)<x1.length)/\(((decide (0<(x4:Int))=true)->((ByteArray.size (jnA x1 x4)+ByteArray.size (ByteArray.mk (List.toArray ((44:UInt8)::(32:UInt8)::@List.nil UInt8)))<=(9223372036854775807:Nat))/\((ByteArray.size (jnA x1 x4++(ByteArray.mk (List.toArray ((44:UInt8)::(32:UInt8)::@List.nil UInt8))))+ByteArray.size (ByteArray.mk (List.toArray ((117:UInt8)::(110:UInt8)::(105:UInt8)::(116:UInt8)::(32:UInt8)::@List.nil UInt8)))<=(9223372036854775807:Nat))/\(∃ x8:Int,((r64 x8)/\(((Prod.fst (x1.getD (0+Int.toNat (x4:Int)) default)=x8)/\True)/\(True/\((ByteArray.size (jnA x1 x4++(ByteArray.mk (List.toArray ((44:UInt8)::(32:UInt8)::@List.nil UInt8)))++(ByteArray.mk (List.toArray ((117:UInt8)::(110:UInt8)::(105:UInt8)::(116:UInt8)::(32:UInt8)::@List.nil UInt8))))+ByteArray.size (itoS x8)<=(9223372036854775807:Nat))/\((ByteArray.size (jnA x1 x4++(ByteArray.mk (List.toArray ((44:UInt8)::(32:UInt8)::@List.nil UInt8)))++(ByteArray.mk (List.toArray ((117:UInt8)::(110:UInt8)::(105:UInt8)::(116:UInt8)::(32:UInt8)::@List.nil UInt8)))++itoS x8)+ByteArray.size (ByteArray.mk (List.toArray ((32:UInt8)::(116:UInt8)::(111:UInt8)::(32:UInt8)::@List.nil UInt8)))<=(9223372036854775807:Nat))/\(∃ x9:Int,((r64 x9)/\(((Prod.snd (x1.getD (0+Int.toNat (x4:Int)) default)=x9)/\True)/\(True/\((ByteArray.size (jnA x1 x4++(ByteArray.mk (List.toArray ((44:UInt8)::(32:UInt8)::@List.nil UInt8)))++(ByteArray.mk (List.toArray ((117:UInt8)::(110:UInt8)::(105:UInt8)::(116:UInt8)::(32:UInt8)::@List.nil UInt8)))++itoS x8++(ByteArray.mk (List.toArray ((32:UInt8)::(116:UInt8)::(111:UInt8)::(32:UInt8)::@List.nil UInt8))))+ByteArray.size (itoS x9)<=(9223372036854775807:Nat))/\((((-9223372036854775808:Int)<=(x4:Int)+1)/\((x4:Int)+1<=(9223372036854775807:Int)))/\(∃ x10:Nat,((x1.length-x10<x1.length-x4)/\((x10<=x1.length)/\(((0=0/\x1.length=x1.length)/\((jnA x1 x4++(ByteArray.mk (List.toArray ((44:UInt8)::(32:UInt8)::@List.nil UInt8)))++(ByteArray.mk (List.toArray ((117:UInt8)::(110:UInt8)::(105:UInt8)::(116:UInt8)::(32:UInt8)::@List.nil UInt8)))++itoS x8++(ByteArray.mk (List.toArray ((32:UInt8)::(116:UInt8)::(111:UInt8)::(32:UInt8)::@List.nil UInt8)))++itoS x9=jnA x1 x10)/\((0=0/\x1.length=x1.length)/\(((x1.length:Int)=(x1.length:Int))/\(((x4:Int)+1=(x10:Int))/\(((ByteArray.mk (List.toArray (@List.nil UInt8)))=(ByteArray.mk (List.toArray (@List.nil UInt8))))/\True))))))/\(((RLe x1.length x1.length)/\(RowsEq [.int .i64,.int .i64] x1.length (encL encM x1) (encL encM x1)))/\True))))))))))))))))))))/\((decide (0<(x4:Int))=false)->((ByteArray.size (jnA x1 x4)+ByteArray.size (ByteArray.mk (List.toArray ((117:UInt8)::(110:UInt8)::(105:UInt8)::(116:UInt8)::(32:UInt8)::@List.nil UInt8)))<=(9223372036854775807:Nat))/\(∃ x12:Int,((r64 x12)/\(((Prod.fst (x1.getD (0+Int.toNat (x4:Int)) default)=x12)/\True)/\(True/\((ByteArray.size (jnA x1 x4++(ByteArray.mk (List.toArray ((117:UInt8)::(110:UInt8)::(105:UInt8)::(116:UInt8)::(32:UInt8)::@List.nil UInt8))))+ByteArray.size (itoS x12)<=(9223372036854775807:Nat))/\((ByteArray.size (jnA x1 x4++(ByteArray.mk (List.toArray ((117:UInt8)::(110:UInt8)::(105:UInt8)::(116:UInt8)::(32:UInt8)::@List.nil UInt8)))++itoS x12)+ByteArray.size (ByteArray.mk (List.toArray ((32:UInt8)::(116:UInt8)::(111:UInt8)::(32:UInt8)::@List.nil UInt8)))<=(9223372036854775807:Nat))/\(∃ x13:Int,((r64 x13)/\(((Prod.snd (x1.getD (0+Int.toNat (x4:Int)) default)=x13)/\True)/\(True/\((ByteArray.size (jnA x1 x4++(ByteArray.mk (List.toArray ((117:UInt8)::(110:UInt8)::(105:UInt8)::(116:UInt8)::(32:UInt8)::@List.nil UInt8)))++itoS x12++(ByteArray.mk (List.toArray ((32:UInt8)::(116:UInt8)::(111:UInt8)::(32:UInt8)::@List.nil UInt8))))+ByteArray.size (itoS x13)<=(9223372036854775807:Nat))/\((((-9223372036854775808:Int)<=(x4:Int)+1)/\((x4:Int)+1<=(9223372036854775807:Int)))/\(∃ x14:Nat,((x1.length-x14<x1.length-x4)/\((x14<=x1.length)/\(((0=0/\x1.length=x1.length)/\((jnA x1 x4++(ByteArray.mk (List.toArray ((117:UInt8)::(110:UInt8)::(105:UInt8)::(116:UInt8)::(32:UInt8)::@List.nil UInt8)))++itoS x12++(ByteArray.mk (List.toArray ((32:UInt8)::(116:UInt8)::(111:UInt8)::(32:UInt8)::@List.nil UInt8)))++itoS x13=jnA x1 x14)/\((0=0/\x1.length=x1.length)/\(((x1.length:Int)=(x1.length:Int))/\(((x4:Int)+1=(x14:Int))/\(((ByteArray.mk (List.toArray (@List.nil UInt8)))=(ByteArray.mk (List.toArray (@List.nil UInt8))))/\True))))))/\(((RLe x1.length x1.length)/\(RowsEq [.int .i64,.int .i64] x1.length (encL encM x1) (encL encM x1)))/\True)))))))))))))))))))))))/\((decide ((x4:Int)<(x1.length:Int))=false)->(((decide ((x1.length:Int)=0)=true)->(((ByteArray.mk (List.toArray ((110:UInt8)::(111:UInt8)::(98:UInt8)::(111:UInt8)::(100:UInt8)::(121:UInt8)::@List.nil UInt8)))=fmtF x1)/\True))/\((decide ((x1.length:Int)=0)=false)->((jnA x1 x4=fmtF x1)/\True))))))))))))=(Keeps cfgTx Tryd.f9 foC txI) by kernel_rfl) (fun x1=>fun h2=>⟨((0:Nat)),
⟨(by(try dsimp only at *);omega),
⟨⟨rfl,rfl⟩,
(by(try dsimp only at *);rfl),
⟨rfl,rfl⟩,rfl,
(by(try dsimp only at *);omega),rfl,trivial⟩,
⟨rl,rr⟩,trivial⟩,
fun x4=>fun h5=>⟨fun g6=>have h6:=dT g6;⟨⟨(by(try dsimp only at *);omega),
(by(try dsimp only at *);omega)⟩,
(by(try dsimp only at *);omega),
fun g7=>have h7:=dT g7;⟨(by(try dsimp only at *);exact(tx_c h2 _).1),
(by(try dsimp only at *);exact(tx_z h2 h6 (tx_c h2 _).2.2).1),
(Prod.fst (List.getD x1 ((0:Nat)+Int.toNat (↑x4:Int)) default)),
(by(try dsimp only at *);exact(mv_el h2 h6).1),
⟨rfl,trivial⟩,trivial,
(by(try dsimp only at *);exact(tx_z h2 h6 (tx_c h2 _).2.2).2.1),
(by(try dsimp only at *);exact(tx_z h2 h6 (tx_c h2 _).2.2).2.2.1),
(Prod.snd (List.getD x1 ((0:Nat)+Int.toNat (↑x4:Int)) default)),
(by(try dsimp only at *);exact(mv_el h2 h6).2),
⟨rfl,trivial⟩,trivial,
(by(try dsimp only at *);exact(tx_z h2 h6 (tx_c h2 _).2.2).2.2.2),
⟨(by(try dsimp only at *);omega),
(by(try dsimp only at *);(have:=h2.1;omega))⟩,
(x4+(1:Nat)),
(by(try dsimp only at *);omega),
(by(try dsimp only at *);omega),
⟨⟨rfl,rfl⟩,
(by(try dsimp only at *);exact tx_1 h6 h7),
⟨rfl,rfl⟩,rfl,
(by(try dsimp only at *);omega),rfl,trivial⟩,
⟨rl,rr⟩,trivial⟩,
fun g11=>have h11:=dF g11;⟨(by(try dsimp only at *);exact(tx_z h2 h6 (tx_c h2 _).2.1).1),
(Prod.fst (List.getD x1 ((0:Nat)+Int.toNat (↑x4:Int)) default)),
(by(try dsimp only at *);exact(mv_el h2 h6).1),
⟨rfl,trivial⟩,trivial,
(by(try dsimp only at *);exact(tx_z h2 h6 (tx_c h2 _).2.1).2.1),
(by(try dsimp only at *);exact(tx_z h2 h6 (tx_c h2 _).2.1).2.2.1),
(Prod.snd (List.getD x1 ((0:Nat)+Int.toNat (↑x4:Int)) default)),
(by(try dsimp only at *);exact(mv_el h2 h6).2),
⟨rfl,trivial⟩,trivial,
(by(try dsimp only at *);exact(tx_z h2 h6 (tx_c h2 _).2.1).2.2.2),
⟨(by(try dsimp only at *);omega),
(by(try dsimp only at *);omega)⟩,
(x4+(1:Nat)),
(by(try dsimp only at *);omega),
(by(try dsimp only at *);omega),
⟨⟨rfl,rfl⟩,
(by(try dsimp only at *);exact tx_2 h6 h11),
⟨rfl,rfl⟩,rfl,
(by(try dsimp only at *);omega),rfl,trivial⟩,
⟨rl,rr⟩,trivial⟩⟩,
fun g15=>have h15:=dF g15;⟨fun g16=>have h16:=dT g16;⟨(by(try dsimp only at *);exact tx_0 h16),trivial⟩,
fun g17=>have h17:=dF g17;⟨(by(try dsimp only at *);exact tx_t h17 h15),trivial⟩⟩⟩⟩)
theorem tx_good:Good Tryd.prog 9 foC/\FnOk Tryd.prog 9:=good_of tok conTx (fn:=Tryd.f9) rfl (by decide+kernel) (fun _=>rfl) tx_keeps
end Go.Sym