import Derived.Test.YtcghhlodddpmaaaDoorV11
import Derived.Test.YtcghhlodddpmaaaDoorXD
namespace Go.Sym
set_option linter.unusedVariables false
set_option linter.unusedSimpArgs false
open Go.Proofs
set_option maxRecDepth 100000
set_option maxHeartbeats 4000000
def namL:List ByteArray:=[⟨#[]⟩,⟨#[111,112,101,110]⟩,⟨#[117,112,100,97,116,101]⟩,⟨#[109,101,114,103,101]⟩,⟨#[115,112,108,105,116]⟩,⟨#[115,116,97,116,117,115]⟩,⟨#[100,105,115,112,97,116,99,104]⟩,⟨#[115,116,97,110,100,100,111,119,110]⟩,
 ⟨#[116,97,107,101,111,118,101,114]⟩,⟨#[114,101,110,101,119]⟩,⟨#[114,101,108,101,97,115,101]⟩,⟨#[116,114,97,118,101,108,116,105,109,101]⟩,⟨#[99,108,111,99,107]⟩,⟨#[99,108,111,115,101]⟩,⟨#[114,101,108,111,99,97,116,101]⟩,⟨#[99,108,111,115,101,99,97,108,108]⟩]
def nmT (k:Int):ByteArray:=if k<1∨16<=k then⟨#[]⟩else namL.getD k.toNat default
def nmC:CT where
 X:=Int
 pre:=fun _=>True
 args:=fun k=>[.i .i64 k]
 g0:=fun _=>[]
 res:=fun k=>.s (nmT k)
 g1:=fun _=>[]
theorem nm_y {k:Int} (h:¬ (k<1)) (h1:¬ 16<=k) {rs:List (List D)} (hr:rs=namL.map fun s=>[D.s s]):(litRows rs (0+k.toNat) 0).toS=nmT k:=by
 subst hr
 unfold nmT litRows
 rw[if_neg (by omega),Nat.zero_add]
 have hk:k.toNat<namL.length:=by show k.toNat<16;omega
 simp[List.getD_eq_getElem?_getD,List.getElem?_map,List.getElem?_eq_getElem hk,D.toS]
set_option maxRecDepth 100000 in
theorem nm_keeps:Keeps cfg0 Tryd.f43 nmC noIv:=Eq.mp (show((∀ x1:Int,(True->(((True/\True)/\((True/\True)/\((True/\True)/\((True/\True)/\((True/\True)/\((True/\True)/\((True/\True)/\((True/\True)/\((True/\True)/\((True/\True)/\((True/\True)/\((True/\True)/\((True/\True)/\((True/\True)/\((True/\True)/\((True/\True)/\True))))))))))))))))/\((0=0/\((16:Nat)=(16:Nat)))/\(((decide (x1<1)=false)->(((decide ((16:Int)<=x1)=true)->(((ByteArray.mk (List.toArray (@List.nil UInt8)))=nmT x1)/\True))/\((decide ((16:Int)<=x1)=false)->((((0:Int)<=x1)/\(x1<(↑(16:Nat):Int)))/\((0+Int.toNat x1<(16:Nat))/\((D.toS ((((D.s (ByteArray.mk (List.toArray (@List.nil UInt8)))::@List.nil D)::(D.s (ByteArray.mk (List.toArray ((111:UInt8)::(112:UInt8)::(101:UInt8)::(110:UInt8)::@List.nil UInt8)))::@List.nil D)::(D.s (ByteArray.mk (List.toArray ((117:UInt8)::(112:UInt8)::(100:UInt8)::(97:UInt8)::(116:UInt8)::(101:UInt8)::@List.nil UInt8)))::@List.nil D)::(D.s (ByteArray.mk (List.toArray ((109:UInt8)::(101:UInt8)::(114:UInt8)::(103:UInt8)::(101:UInt8)::@List.nil UInt8)))::@List.nil D)::(D.s (ByteArray.mk (List.toArray ((115:UInt8)::(112:UInt8)::(108:UInt8)::(105:UInt8)::(116:UInt8)::@List.nil UInt8)))::@List.nil D)::(D.s (ByteArray.mk (List.toArray ((115:UInt8)::(116:UInt8)::(97:UInt8)::(116:UInt8)::(117:UInt8)::(115:UInt8)::@List.nil UInt8)))::@List.nil D)::(D.s (ByteArray.mk (List.toArray ((100:UInt8)::(105:UInt8)::(115:UInt8)::(112:UInt8)::(97:UInt8)::(116:UInt8)::(99:UInt8)::(104:UInt8)::@List.nil UInt8)))::@List.nil D)::(D.s (ByteArray.mk (List.toArray ((115:UInt8)::(116:UInt8)::(97:UInt8)::(110:UInt8)::(100:UInt8)::(100:UInt8)::(111:UInt8)::(119:UInt8)::(110:UInt8)::@List.nil UInt8)))::@List.nil D)::(D.s (ByteArray.mk (List.toArray ((116:UInt8)::(97:UInt8)::(107:UInt8)::(101:UInt8)::(111:UInt8)::(118:UInt8)::(101:UInt8)::(114:UInt8)::@List.nil UInt8)))::@List.nil D)::(D.s (ByteArray.mk (List.toArray ((114:UInt8)::(101:UInt8)::(110:UInt8)::(101:UInt8)::(119:UInt8)::@List.nil UInt8)))::@List.nil D)::(D.s (ByteArray.mk (List.toArray ((114:UInt8)::(101:UInt8)::(108:UInt8)::(101:UInt8)::(97:UInt8)::(115:UInt8)::(101:UInt8)::@List.nil UInt8)))::@List.nil D)::(D.s (ByteArray.mk (List.toArray ((116:UInt8)::(114:UInt8)::(97:UInt8)::(118:UInt8)::(101:UInt8)::(108:UInt8)::(116:UInt8)::(105:UInt8)::(109:UInt8)::(101:UInt8)::@List.nil UInt8)))::@List.nil D)::(D.s (ByteArray.mk (List.toArray ((99:UInt8)::(108:UInt8)::(111:UInt8)::(99:UInt8)::(107:UInt8)::@List.nil UInt8)))::@List.nil D)::(D.s (ByteArray.mk (List.toArray ((99:UInt8)::(108:UInt8)::(111:UInt8)::(115:UInt8)::(101:UInt8)::@List.nil UInt8)))::@List.nil D)::(D.s (ByteArray.mk (List.toArray ((114:UInt8)::(101:UInt8)::(108:UInt8)::(111:UInt8)::(99:UInt8)::(97:UInt8)::(116:UInt8)::(101:UInt8)::@List.nil UInt8)))::@List.nil D)::(D.s (ByteArray.mk (List.toArray ((99:UInt8)::(108:UInt8)::(111:UInt8)::(115:UInt8)::(101:UInt8)::(99:UInt8)::(97:UInt8)::(108:UInt8)::(108:UInt8)::@List.nil UInt8)))::@List.nil D)::@List.nil (List D)).getD (0+Int.toNat x1) (@List.nil D)).getD 0 (D.i 0))=nmT x1)/\True))))))/\((decide (x1<1)=true)->(((ByteArray.mk (List.toArray (@List.nil UInt8)))=nmT x1)/\True))))))))=(Keeps cfg0 Tryd.f43 nmC noIv) by kernel_rfl) (fun x1=>fun h2=>⟨⟨⟨trivial,trivial⟩,
⟨trivial,trivial⟩,
⟨trivial,trivial⟩,
⟨trivial,trivial⟩,
⟨trivial,trivial⟩,
⟨trivial,trivial⟩,
⟨trivial,trivial⟩,
⟨trivial,trivial⟩,
⟨trivial,trivial⟩,
⟨trivial,trivial⟩,
⟨trivial,trivial⟩,
⟨trivial,trivial⟩,
⟨trivial,trivial⟩,
⟨trivial,trivial⟩,
⟨trivial,trivial⟩,
⟨trivial,trivial⟩,trivial⟩,
⟨rfl,rfl⟩,
fun g3=>have h3:=dF g3;⟨fun g4=>have h4:=dT g4;⟨(by simp[nmT, *]),trivial⟩,
fun g5=>have h5:=dF g5;⟨⟨(by omega),
(by omega)⟩,
(by omega),
(by exact nm_y ‹_› ‹_› rfl),trivial⟩⟩,
fun g6=>have h6:=dT g6;⟨(by simp[nmT, *]),trivial⟩⟩)
theorem nm_good:Good Tryd.prog 43 nmC/\FnOk Tryd.prog 43:=good_of tok con0 (fn:=Tryd.f43) rfl (by decide+kernel) (fun _=>rfl) nm_keeps
end Go.Sym