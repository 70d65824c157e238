import Derived.Test.YtlldhkhmhgcpaaaDoorVS
import Derived.Test.YtlldhkhmhgcpaaaDoorCM
import Derived.Test.YtlldhkhmhgcpaaaDoorXD
namespace Go.Sym
set_option linter.unusedVariables false
set_option linter.unusedSimpArgs false
open Go.Proofs
set_option maxRecDepth 100000
set_option maxHeartbeats 4000000
def kT:List Kd:=[.str]
def uniB:ByteArray:=⟨#[117,110,105,116,32]⟩
def tooB:ByteArray:=⟨#[32,116,111,32]⟩
def comB:ByteArray:=⟨#[44,32]⟩
def nobB:ByteArray:=⟨#[110,111,98,111,100,121]⟩
def stpW (m:Mv):ByteArray:=uniB++itoS m.1++tooB++itoS m.2
def fmtF (l:List Mv):ByteArray:=if l=[]then nobB else joiS (l.map stpW) comB
def MvsOk (l:List Mv):Prop:=l.length<=60/\∀ m∈l,r64 m.1/\r64 m.2
def wdA (l:List Mv) (k:Nat):List ByteArray:=(l.take k).map stpW++List.replicate (l.length-k) default
theorem wdA_len {l:List Mv} {k:Nat} (h:k<=l.length):(wdA l k).length=l.length:=by
 unfold wdA
 rw[List.length_append,List.length_map,List.length_take,List.length_replicate]
 omega
theorem wdA_0 (l:List Mv):wdA l 0=List.replicate l.length default:=by simp[wdA]
theorem wdA_t {l:List Mv} {k:Nat} (h:¬ (k:Int)<l.length):wdA l k=l.map stpW:=by
 unfold wdA
 rw[List.take_of_length_le (by omega),show l.length-k=0 by omega]
 simp
theorem wdA_s {l:List Mv} {k:Nat} (h:(k:Int)<l.length):(wdA l k).set k (stpW (l.getD (0+(k:Int).toNat) default))=wdA l (k+1):=by
 have h:k<l.length:=by omega
 have e:((l.take k).map stpW).length=k:=by simp;omega
 unfold wdA
 rw[Nat.zero_add,show(k:Int).toNat=k from rfl,take_succ_getD (d:=default) h,List.map_append,List.append_assoc,show l.length-k=(l.length-(k+1))+1 by omega,List.replicate_succ]
 conv=>lhs;arg 2;rw[<- e]
 rw[List.set_append_right _ _ (Nat.le_refl _),e,Nat.sub_self]
 rfl
theorem stpW_size {m:Mv} (h:r64 m.1/\r64 m.2):(stpW m).size<=51:=by
 have h1:=ito_size h.1
 have h2:=ito_size h.2
 unfold stpW
 rw[ba_size,ba_size,ba_size]
 have e1:uniB.size=5:=rfl
 have e2:tooB.size=4:=rfl
 omega
theorem mv_el {l:List Mv} {i:Nat} (h:MvsOk l) (hi:(i:Int)<l.length):r64 (l.getD (0+(i:Int).toNat) default).1/\r64 (l.getD (0+(i:Int).toNat) default).2:=by
 have hi:i<l.length:=by omega
 rw[Nat.zero_add,List.getD_eq_getElem?_getD,show(i:Int).toNat=i from rfl,List.getElem?_eq_getElem hi]
 exact h.2 _ (List.getElem_mem _)
def foC:CT where
 X:=List Mv
 pre:=MvsOk
 args:=fun l=>[.sl 100001 0 l.length]
 g0:=fun l=>[(100001,.rows .bor kM l.length (encL encM l))]
 res:=fun l=>.s (fmtF l)
 g1:=fun _=>[]
def foI (l:List Mv) (id:Nat):Option Inv:=match id with
 |0=>some { X:=Nat,ok:=fun i=>i<=l.length,fr:=fun i=>[(3,.sl 361 0 l.length),(12,.sl 100001 0 l.length),(13,.i .i64 l.length),(14,.i .i64 i)],hp:=fun i=>[(100001,.rows .bor kM l.length (encL encM l)),(361,.rows .own kT l.length (encL encS (wdA l i)))],me:=fun i=>l.length-i }
 |_=>none
def cfgFo:Cfg:=⟨T,[],[(18,.one itC1),(19,.one joC)],noInv,60,{ kn:=true }⟩
theorem conFo:ConOk Tryd.prog cfgFo:=ConL.ok (.cons (ConL.one it_good) (.cons (ConL.one jo_good) .nil))
theorem fo_0 {l:List Mv} (h:(l.length:Int)=0):nobB=fmtF l:=by
 have:l=[]:=List.length_eq_zero_iff.1 (by omega)
 unfold fmtF
 rw[if_pos this]
theorem fo_t {l:List Mv} {k:Nat} (h:¬ (l.length:Int)=0) (hk:¬ (k:Int)<l.length):joiS (wdA l k) comB=fmtF l:=by
 unfold fmtF
 rw[if_neg (fun e=>h (by rw[e];rfl)),wdA_t hk]
theorem fo_b {l:List Mv} (h:MvsOk l) {k:Nat} (hk:¬ (k:Int)<l.length):(wdA l k).length<=1000/\(joiS (wdA l k) comB).size<=1000000:=by
 rw[wdA_t hk,List.length_map]
 have:=joi_size (b:=51) comB (l.map stpW) (fun x hx=>by
  obtain⟨m,hm,rfl⟩:=List.mem_map.1 hx
  exact stpW_size (h.2 m hm))
 have e1:comB.size=2:=rfl
 have e2:=h.1
 rw[e1,List.length_map]at this
 have e3:l.length*(51+2)<=60*53:=Nat.mul_le_mul e2 (by decide)
 omega
theorem fo_z (l:List Mv) {n:Nat}:RowsEq kT n (fun _ j=>zRow kT j) (encL encS (wdA l 0)):=by
 rw[wdA_0]
 exact rowsEq_zero ⟨rfl,trivial⟩
theorem fo_s {l:List Mv} {k:Nat} (h:(k:Int)<l.length) {n:Nat}:RowsEq kT n (setRow (encL encS (wdA l k)) (0+(k:Int).toNat) 0 [D.s (stpW (l.getD (0+(k:Int).toNat) default))]) (encL encS (wdA l (k+1))):=by
 rw[<- wdA_s h,Nat.zero_add,show(k:Int).toNat=k from rfl]
 exact rowsEq_set (by rw[wdA_len (by omega)];omega) ⟨rfl,trivial⟩
theorem fo_a {l:List Mv} (hl:MvsOk l) {k:Nat} (h:(k:Int)<l.length):uniB.size+(itoS (l.getD (0+(k:Int).toNat) default).1).size<=9223372036854775807/\(uniB++itoS (l.getD (0+(k:Int).toNat) default).1).size+tooB.size<=9223372036854775807/\(uniB++itoS (l.getD (0+(k:Int).toNat) default).1++tooB).size+(itoS (l.getD (0+(k:Int).toNat) default).2).size<=9223372036854775807:=by
 have h1:=ito_size (mv_el hl h).1
 have h2:=ito_size (mv_el hl h).2
 have e1:uniB.size=5:=rfl
 have e2:tooB.size=4:=rfl
 refine⟨by omega,?_,?_⟩
 ·rw[ba_size];omega
 ·rw[ba_size,ba_size];omega
set_option maxRecDepth 100000 in
theorem fo_keeps:Keeps cfgFo Tryd.f7 foC foI:=Eq.mp (show((∀ x1:List Mv,((MvsOk x1)->(((decide ((x1.length:Int)=0)=true)->(((ByteArray.mk (List.toArray ((110:UInt8)::(111:UInt8)::(98:UInt8)::(111:UInt8)::(100:UInt8)::(121:UInt8)::@List.nil UInt8)))=fmtF x1)/\True))/\((decide ((x1.length:Int)=0)=false)->((((0:Int)<=(x1.length:Int))/\(((x1.length:Int)<=(x1.length:Int))/\((x1.length:Int)<=(↑(1073741824:Nat):Int))))/\(∃ x5:Nat,(((x5<=x1.length)/\(((0=0/\(Int.toNat (x1.length:Int)=x1.length))/\((0=0/\x1.length=x1.length)/\(((x1.length:Int)=(x1.length:Int))/\((0=(x5:Int))/\(((x1.length:Int)=(x1.length:Int))/\((0=0/\x1.length=x1.length)/\(false=false/\(((x1.length:Int)=(x1.length:Int))/\((0=0/\x1.length=x1.length)/\(((ByteArray.mk (List.toArray (@List.nil UInt8)))=(ByteArray.mk (List.toArray (@List.nil UInt8))))/\((0=0/\x1.length=x1.length)/\True)))))))))))/\(((RLe x1.length x1.length)/\(RowsEq [.int .i64,.int .i64] x1.length (encL encM x1) (encL encM x1)))/\(((RLe x1.length (Int.toNat (x1.length:Int)))/\(RowsEq (Kd.str::[]) x1.length (fun(x j:Nat)=>zRow (Kd.str::[]) j) (encL encS (wdA x1 x5))))/\True))))/\(∀ x6:Nat,((x6<=x1.length)->(((decide ((x6:Int)<(x1.length:Int))=true)->((((0:Int)<=(x6:Int))/\((x6:Int)<(x1.length:Int)))/\((0+Int.toNat (x6:Int)<x1.length)/\(∃ x9:Int,((r64 x9)/\(((Prod.fst (x1.getD (0+Int.toNat (x6:Int)) default)=x9)/\True)/\(True/\((ByteArray.size (ByteArray.mk (List.toArray ((117:UInt8)::(110:UInt8)::(105:UInt8)::(116:UInt8)::(32:UInt8)::@List.nil UInt8)))+ByteArray.size (itoS x9)<=(9223372036854775807:Nat))/\((ByteArray.size ((ByteArray.mk (List.toArray ((117:UInt8)::(110:UInt8)::(105:UInt8)::(116:UInt8)::(32:UInt8)::@List.nil UInt8)))++itoS x9)+ByteArray.size (ByteArray.mk (List.toArray ((32:UInt8)::(116:UInt8)::(111:UInt8)::(32:UInt8)::@List.nil UInt8)))<=(9223372036854775807:Nat))/\(∃ x10:Int,((r64 x10)/\(((Prod.snd (x1.getD (0+Int.toNat (x6:Int)) default)=x10)/\True)/\(True/\((ByteArray.size ((ByteArray.mk (List.toArray ((117:UInt8)::(110:UInt8)::(105:UInt8)::(116:UInt8)::(32:UInt8)::@List.nil UInt8)))++itoS x9++(ByteArray.mk (List.toArray ((32:UInt8)::(116:UInt8)::(111:UInt8)::(32:UInt8)::@List.nil UInt8))))+ByteArray.size (itoS x10)<=(9223372036854775807:Nat))/\((((0:Int)<=(x6:Int))/\((x6:Int)<(x1.length:Int)))/\(((0+Int.toNat (x6:Int)<x1.length)/\(True/\True))/\((((-9223372036854775808:Int)<=(x6:Int)+1)/\((x6:Int)+1<=(9223372036854775807:Int)))/\(∃ x11:Nat,((x1.length-x11<x1.length-x6)/\((x11<=x1.length)/\(((0=0/\x1.length=x1.length)/\((0=0/\x1.length=x1.length)/\(((x1.length:Int)=(x1.length:Int))/\(((x6:Int)+1=(x11:Int))/\(((x1.length:Int)=(x1.length:Int))/\((0=0/\x1.length=x1.length)/\(false=false/\(((x1.length:Int)=(x1.length:Int))/\((0=0/\x1.length=x1.length)/\(((ByteArray.mk (List.toArray (@List.nil UInt8)))=(ByteArray.mk (List.toArray (@List.nil UInt8))))/\((0=0/\x1.length=x1.length)/\True)))))))))))/\(((RLe x1.length x1.length)/\(RowsEq [.int .i64,.int .i64] x1.length (encL encM x1) (encL encM x1)))/\(((RLe x1.length x1.length)/\(RowsEq (Kd.str::[]) x1.length (setRow (encL encS (wdA x1 x6)) (0+Int.toNat (x6:Int)) 0 (D.s ((ByteArray.mk (List.toArray ((117:UInt8)::(110:UInt8)::(105:UInt8)::(116:UInt8)::(32:UInt8)::@List.nil UInt8)))++itoS x9++(ByteArray.mk (List.toArray ((32:UInt8)::(116:UInt8)::(111:UInt8)::(32:UInt8)::@List.nil UInt8)))++itoS x10)::@List.nil D)) (encL encS (wdA x1 x11))))/\True)))))))))))))))))))))))/\((decide ((x6:Int)<(x1.length:Int))=false)->(∃ x13:List ByteArray × ByteArray,((((Prod.fst x13).length<=(1000:Nat))/\(ByteArray.size (joiS (Prod.fst x13) (Prod.snd x13))<=(1000000:Nat)))/\(((0=0/\(x1.length=(Prod.fst x13).length))/\(((ByteArray.mk (List.toArray ((44:UInt8)::(32:UInt8)::@List.nil UInt8)))=Prod.snd x13)/\True))/\((((RLe (Prod.fst x13).length x1.length)/\(RowsEq (Kd.str::[]) (Prod.fst x13).length (encL encS (wdA x1 x6)) (encL encS (Prod.fst x13))))/\True)/\((joiS (Prod.fst x13) (Prod.snd x13)=fmtF x1)/\True)))))))))))))))))=(Keeps cfgFo Tryd.f7 foC foI) by kernel_rfl) (fun x1=>fun h2=>⟨fun g3=>have h3:=dT g3;⟨(by exact fo_0 h3),
 trivial⟩,
fun g4=>have h4:=dF g4;⟨⟨(by omega),
(by omega),
(by(have:=h2.1;omega))⟩,
((0:Nat)),
⟨(by(try dsimp only at *);omega),
⟨⟨rfl,
(by(try dsimp only at *);omega)⟩,
⟨rfl,rfl⟩,rfl,
(by(try dsimp only at *);omega),rfl,
⟨rfl,rfl⟩,rfl,rfl,
⟨rfl,rfl⟩,rfl,
⟨rfl,rfl⟩,trivial⟩,
⟨rl,rr⟩,
⟨⟨(by(try dsimp only at *);omega)⟩,
(by(try dsimp only at *);exact fo_z _)⟩,trivial⟩,
fun x6=>fun h7=>⟨fun g8=>have h8:=dT g8;⟨⟨(by(try dsimp only at *);omega),
(by(try dsimp only at *);omega)⟩,
(by(try dsimp only at *);omega),
(Prod.fst (List.getD x1 ((0:Nat)+Int.toNat (↑x6:Int)) default)),
(by(try dsimp only at *);exact(mv_el h2 h8).1),
⟨rfl,trivial⟩,trivial,
(by(try dsimp only at *);exact(fo_a h2 h8).1),
(by(try dsimp only at *);exact(fo_a h2 h8).2.1),
(Prod.snd (List.getD x1 ((0:Nat)+Int.toNat (↑x6:Int)) default)),
(by(try dsimp only at *);exact(mv_el h2 h8).2),
⟨rfl,trivial⟩,trivial,
(by(try dsimp only at *);exact(fo_a h2 h8).2.2),
⟨(by(try dsimp only at *);omega),
(by(try dsimp only at *);omega)⟩,
⟨(by(try dsimp only at *);omega),trivial,trivial⟩,
⟨(by(try dsimp only at *);omega),
(by(try dsimp only at *);(have:=h2.1;omega))⟩,
(x6+(1:Nat)),
(by(try dsimp only at *);omega),
(by(try dsimp only at *);omega),
⟨⟨rfl,rfl⟩,
⟨rfl,rfl⟩,rfl,
(by(try dsimp only at *);omega),rfl,
⟨rfl,rfl⟩,rfl,rfl,
⟨rfl,rfl⟩,rfl,
⟨rfl,rfl⟩,trivial⟩,
⟨rl,rr⟩,
⟨rl,
(by(try dsimp only at *);exact fo_s h8)⟩,trivial⟩,
fun g12=>have h12:=dF g12;⟨((wdA x1 x6,{ data:=List.toArray ((44:UInt8)::(32:UInt8)::@List.nil UInt8):ByteArray })),
⟨(by(try dsimp only at *);exact(fo_b h2 h12).1),
(by(try dsimp only at *);exact(fo_b h2 h12).2)⟩,
⟨⟨rfl,
(by(try dsimp only at *);exact(wdA_len h7).symm)⟩,rfl,trivial⟩,
⟨⟨⟨(by(try dsimp only at *);exact Nat.le_of_eq (wdA_len h7))⟩,rr⟩,trivial⟩,
(by(try dsimp only at *);exact fo_t h4 h12),trivial⟩⟩⟩⟩)
theorem fo_good:Good Tryd.prog 7 foC/\FnOk Tryd.prog 7:=good_of tok conFo (fn:=Tryd.f7) rfl (by decide+kernel) (fun _=>rfl) fo_keeps
end Go.Sym