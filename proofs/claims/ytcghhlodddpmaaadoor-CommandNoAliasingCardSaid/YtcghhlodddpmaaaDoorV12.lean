import Derived.Test.YtcghhlodddpmaaaDoorV11
import Derived.Test.YtcghhlodddpmaaaDoorXD
namespace Go.Sym
set_option linter.unusedVariables false
set_option linter.unusedSimpArgs false
open Go.Proofs
set_option maxRecDepth 100000
set_option maxHeartbeats 4000000
def namL:List ByteArray:=[⟨#[]⟩,⟨#[111,112,101,110]⟩,⟨#[117,112,100,97,116,101]⟩,⟨#[109,101,114,103,101]⟩,⟨#[115,112,108,105,116]⟩,⟨#[115,116,97,116,117,115]⟩,⟨#[100,105,115,112,97,116,99,104]⟩,⟨#[115,116,97,110,100,100,111,119,110]⟩,
 ⟨#[116,97,107,101,111,118,101,114]⟩,⟨#[114,101,110,101,119]⟩,⟨#[114,101,108,101,97,115,101]⟩,⟨#[116,114,97,118,101,108,116,105,109,101]⟩,⟨#[99,108,111,99,107]⟩,⟨#[99,108,111,115,101]⟩,⟨#[114,101,108,111,99,97,116,101]⟩,⟨#[99,108,111,115,101,99,97,108,108]⟩]
def nmT (k:Int):ByteArray:=if k<1∨16<=k then⟨#[]⟩else namL.getD k.toNat default
def nmC:CT where
 X:=Int
 pre:=fun _=>True
 args:=fun k=>[.i .i64 k]
 g0:=fun _=>[]
 res:=fun k=>.s (nmT k)
 g1:=fun _=>[]
theorem nm_y {k:Int} (h:¬ (k<1)) (h1:¬ 16<=k) {rs:List (List D)} (hr:rs=namL.map fun s=>[D.s s]):(litRows rs (0+k.toNat) 0).toS=nmT k:=by
 subst hr
 unfold nmT litRows
 rw[if_neg (by omega),Nat.zero_add]
 have hk:k.toNat<namL.length:=by show k.toNat<16;omega
 simp[List.getD_eq_getElem?_getD,List.getElem?_map,List.getElem?_eq_getElem hk,D.toS]
set_option maxRecDepth 100000 in
theorem nm_keeps:Keeps cfg0 Tryd.f43 nmC noIv:=Eq.mp (show((∀ x1:Int,(True->(((True/\True)/\((True/\True)/\((True/\True)/\((True/\True)/\((True/\True)/\((True/\True)/\((True/\True)/\((True/\True)/\((True/\True)/\((True/\True)/\((True/\True)/\((True/\True)/\((True/\True)/\((True/\True)/\((True/\True)/\((True/\True)/\True))))))))))))))))/\((0=0/\((16:Nat)=(16:Nat)))/\(((decide (x1<1)=false)->(((decide ((16:Int)<=x1)=true)->(((ByteArray.mk (List.toArray (@List.nil UInt8)))=nmT x1)/\True))/\((decide ((16:Int)<=x1)=false)->((((0:Int)<=x1)/\(x1<(↑(16:Nat):Int)))/\((0+Int.toNat x1<(16:Nat))/\((D.toS ((((D.s (ByteArray.mk (List.toArray (@List.nil UInt8)))::@List.nil D)::(D.s (ByteArray.mk (List.toArray ((111:UInt8)::(112:UInt8)::(101:UInt8)::(110:UInt8)::@List.nil UInt8)))::@List.nil D)::(D.s (ByteArray.mk (List.toArray ((117:UInt8)::(112:UInt8)::(100:UInt8)::(97:UInt8)::(116:UInt8)::(101:UInt8)::@List.nil UInt8)))::@List.nil D)::(D.s (ByteArray.mk (List.toArray ((109:UInt8)::(101:UInt8)::(114:UInt8)::(103:UInt8)::(101:UInt8)::@List.nil UInt8)))::@List.nil D)::(D.s (ByteArray.mk (List.toArray ((115:UInt8)::(112:UInt8)::(108:UInt8)::(105:UInt8)::(116:UInt8)::@List.nil UInt8)))::@List.nil D)::(D.s (ByteArray.mk (List.toArray ((115:UInt8)::(116:UInt8)::(97:UInt8)::(116:UInt8)::(117:UInt8)::(115:UInt8)::@List.nil UInt8)))::@List.nil D)::(D.s (ByteArray.mk (List.toArray ((100:UInt8)::(105:UInt8)::(115:UInt8)::(112:UInt8)::(97:UInt8)::(116:UInt8)::(99:UInt8)::(104:UInt8)::@List.nil UInt8)))::@List.nil D)::(D.s (ByteArray.mk (List.toArray ((115:UInt8)::(116:UInt8)::(97:UInt8)::(110:UInt8)::(100:UInt8)::(100:UInt8)::(111:UInt8)::(119:UInt8)::(110:UInt8)::@List.nil UInt8)))::@List.nil D)::(D.s (ByteArray.mk (List.toArray ((116:UInt8)::(97:UInt8)::(107:UInt8)::(101:UInt8)::(111:UInt8)::(118:UInt8)::(101:UInt8)::(114:UInt8)::@List.nil UInt8)))::@List.nil D)::(D.s (ByteArray.mk (List.toArray ((114:UInt8)::(101:UInt8)::(110:UInt8)::(101:UInt8)::(119:UInt8)::@List.nil UInt8)))::@List.nil D)::(D.s (ByteArray.mk (List.toArray ((114:UInt8)::(101:UInt8)::(108:UInt8)::(101:UInt8)::(97:UInt8)::(115:UInt8)::(101:UInt8)::@List.nil UInt8)))::@List.nil D)::(D.s (ByteArray.mk (List.toArray ((116:UInt8)::(114:UInt8)::(97:UInt8)::(118:UInt8)::(101:UInt8)::(108:UInt8)::(116:UInt8)::(105:UInt8)::(109:UInt8)::(101:UInt8)::@List.nil UInt8)))::@List.nil D)::(D.s (ByteArray.mk (List.toArray ((99:UInt8)::(108:UInt8)::(111:UInt8)::(99:UInt8)::(107:UInt8)::@List.nil UInt8)))::@List.nil D)::(D.s (ByteArray.mk (List.toArray ((99:UInt8)::(108:UInt8)::(111:UInt8)::(115:UInt8)::(101:UInt8)::@List.nil UInt8)))::@List.nil D)::(D.s (ByteArray.mk (List.toArray ((114:UInt8)::(101:UInt8)::(108:UInt8)::(111:UInt8)::(99:UInt8)::(97:UInt8)::(116:UInt8)::(101:UInt8)::@List.nil UInt8)))::@List.nil D)::(D.s (ByteArray.mk (List.toArray ((99:UInt8)::(108:UInt8)::(111:UInt8)::(115:UInt8)::(101:UInt8)::(99:UInt8)::(97:UInt8)::(108:UInt8)::(108:UInt8)::@List.nil UInt8)))::@List.nil D)::@List.nil (List D)).getD (0+Int.toNat x1) (@List.nil D)).getD 0 (D.i 0))=nmT x1)/\True))))))/\((decide (x1<1)=true)->(((ByteArray.mk (List.toArray (@List.nil UInt8)))=nmT x1)/\True))))))))=(Keeps cfg0 Tryd.f43 nmC noIv) by kernel_rfl) (fun x1=>fun h2=>⟨⟨⟨trivial,trivial⟩,
⟨trivial,trivial⟩,
⟨trivial,trivial⟩,
⟨trivial,trivial⟩,
⟨trivial,trivial⟩,
⟨trivial,trivial⟩,
⟨trivial,trivial⟩,
⟨trivial,trivial⟩,
⟨trivial,trivial⟩,
⟨trivial,trivial⟩,
⟨trivial,trivial⟩,
⟨trivial,trivial⟩,
⟨trivial,trivial⟩,
⟨trivial,trivial⟩,
⟨trivial,trivial⟩,
⟨trivial,trivial⟩,trivial⟩,
⟨rfl,rfl⟩,
fun g3=>have h3:=dF g3;⟨fun g4=>have h4:=dT g4;⟨(by simp[nmT, *]),trivial⟩,
fun g5=>have h5:=dF g5;⟨⟨(by omega),
(by omega)⟩,
(by omega),
(by exact nm_y ‹_› ‹_› rfl),trivial⟩⟩,
fun g6=>have h6:=dT g6;⟨(by simp[nmT, *]),trivial⟩⟩)
theorem nm_good:Good Tryd.prog 43 nmC/\FnOk Tryd.prog 43:=good_of tok con0 (fn:=Tryd.f43) rfl (by decide+kernel) (fun _=>rfl) nm_keeps
def c5:Cmd:={ kind:=12,tick:=5 }
def txt5:ByteArray:=⟨#[99,108,111,99,107,32,53]⟩
theorem c5_v:vC c5=true:=by decide+kernel
def fmW (i:Nat):List ByteArray:=if i=0 then [nmT 12]else [nmT 12,itoS 5]
def fmI (_:Unit) (id:Nat):Option Inv:=match id with
 | 0 => some { X := Nat, ok := fun i => i <= 1, fr := fun i => [(1, .p 311 0 0), (3, .sl 361 0 (fmW i).length), (21, .sl 313 0 (fsC 12).length), (22, .i .i64 (fsC 12).length), (23, .i .i64 i)],
               hp:=fun i=>[(311,.one .own (cl c5 100001)),nB 100001 c5,(313,.rows .own kN (fsC 12).length (encL encI (fsC 12))),(361,.rows .own [.str] (fmW i).length (encL encS (fmW i)))],me:=fun i=>1-i }
 |_=>none
def fmC5:CT where
 X:=Unit
 pre:=fun _=>True
 args:=fun _=>[.agg (cl c5 100001)]
 g0:=fun _=>[nB 100001 c5]
 res:=fun _=>.s txt5
 g1:=fun _=>[]
def cfgF:Cfg:=⟨T,[],[(12,.one vdC),(43,.one nmC),(28,.one fsCt),(32,.one numC),(46,.one fiC),(47,.one joC)],noInv,60,{}⟩
theorem conF:ConOk Tryd.prog cfgF:=ConL.ok (.cons (ConL.one vd_good) (.cons (ConL.one nm_good) (.cons (ConL.one fs_good) (.cons (ConL.one num_good) (.cons (ConL.one fi_good) (.cons (ConL.one jo_good) .nil))))))
theorem fm_9 {i:Nat} (h:(i:Int)<(fsC 12).length):(fsC 12).getD (0+(i:Int).toNat) default=9:=by
 have h:i<1:=by have:(fsC 12).length=1:=rfl;omega
 have:i=0:=by omega
 subst this
 rfl
theorem fm_i {i:Nat} (h:(i:Int)<(fsC 12).length):i=0:=by have:(fsC 12).length=1:=rfl;omega
theorem fm_no {i:Nat} {k:Int} {p:Prop} (h:(i:Int)<(fsC 12).length) (h1:(fsC 12).getD (0+(i:Int).toNat) default=k) (hk:k≠9):p:=absurd (h1.symm.trans (fm_9 h)) hk
theorem fm_w {i:Nat} (h:¬ (i:Int)<(fsC 12).length):fmW i=[nmT 12,itoS 5]:=by
 have:(fsC 12).length=1:=rfl
 unfold fmW
 rw[if_neg (by omega)]
theorem fm_t {i:Nat} (h:¬ (i:Int)<(fsC 12).length):joiS (fmW i) ⟨#[32]⟩=txt5:=by
 rw[fm_w h]
 decide+kernel
theorem fm_p {i:Nat} (h:¬ (i:Int)<(fsC 12).length):(fmW i).length<=1000/\(joiS (fmW i) ⟨#[32]⟩).size<=1000000:=by
 rw[fm_t h,fm_w h]
 decide+kernel
theorem c5_no {p:Prop} (h:(!vC c5)=true):p:=by
 rw[c5_v]at h
 cases h
theorem fm_n {i:Nat} (h:(i:Int)<(fsC 12).length):r64 (numF c5 ((fsC 12).getD (0+(i:Int).toNat) default)):=by
 rw[fm_9 h]
 exact⟨by decide,by decide⟩
theorem fm_l {i:Nat} (h:(i:Int)<(fsC 12).length):(fmW i).length+1=(fmW (i+1)).length:=by
 rw[fm_i h]
 rfl
theorem fm_c {i:Nat} (h:(i:Int)<(fsC 12).length):(fmW i).length+1<=1073741824:=by
 rw[fm_i h]
 decide
theorem fm_r0 {k:Int} (h:k=12):RowsEq [.str] (fmW 0).length (litRows [[D.s (nmT k)]]) (encL encS (fmW 0)):=by
 subst h
 refine⟨fun r hr=>?_⟩
 have hr:r<1:=hr
 have:r=0:=by omega
 subst this
 exact⟨rfl,trivial⟩
theorem fm_r1 {i:Nat} (h:(i:Int)<(fsC 12).length):RowsEq [.str] (fmW (i+1)).length (appRows (fmW i).length (encL encS (fmW i)) 0 (litRows [[D.s (itoS (numF c5 ((fsC 12).getD (0+(i:Int).toNat) default)))]])) (encL encS (fmW (i+1))):=by
 rw[fm_9 h,fm_i h]
 show RowsEq [.str] 2 (appRows 1 (encL encS [nmT 12]) 0 (litRows [[D.s (itoS (numF c5 9))]])) (encL encS ([nmT 12]++[itoS 5]))
 exact rowsEq_push rfl (by decide) ⟨rfl,trivial⟩
set_option maxRecDepth 100000 in
theorem fm_keeps:Keeps cfgF Tryd.f16 fmC5 fmI:=Eq.mp (show((∀ x1:Unit,(True->(∃ x3:Cmd,((x3.nodes.length<=(1000000:Nat))/\((((Cmd.kind c5=x3.kind)/\((Cmd.call c5=x3.call)/\((Cmd.inc c5=x3.inc)/\((Cmd.oth c5=x3.oth)/\((Cmd.urg c5=x3.urg)/\((Cmd.code c5=x3.code)/\((0=0/\((Cmd.nodes c5).length=x3.nodes.length))/\((Cmd.dist c5=x3.dist)/\((Cmd.cen c5=x3.cen)/\((Cmd.ep c5=x3.ep)/\((Cmd.tick c5=x3.tick)/\((Cmd.su c5=x3.su)/\((Cmd.sq c5=x3.sq)/\((Cmd.ss c5=x3.ss)/\((Cmd.sn c5=x3.sn)/\((Cmd.se c5=x3.se)/\((Cmd.edge c5=x3.edge)/\((Cmd.time c5=x3.time)/\((Cmd.node c5=x3.node)/\True)))))))))))))))))))/\True)/\((((RLe x3.nodes.length (Cmd.nodes c5).length)/\(RI x3.nodes.length (Cmd.nodes c5) x3.nodes))/\True)/\((((!vC x3)=true)->(((ByteArray.mk (List.toArray (@List.nil UInt8)))=txt5)/\True))/\(((!vC x3)=false)->(∃ x6:Int,(True/\(((Cmd.kind c5=x6)/\True)/\(True/\(((True/\True)/\True)/\(∃ x7:Int,(True/\(((Cmd.kind c5=x7)/\True)/\(True/\(∃ x8:Nat,(((x8<=(1:Nat))/\(((0=0/\0=0)/\((0=0/\((1:Nat)=(fmW x8).length))/\((0=0/\((fsC x7).length=(fsC (12:Int)).length))/\(((↑(fsC x7).length:Int)=(↑(fsC (12:Int)).length:Int))/\((0=(x8:Int))/\((kOk x7=kOk x7)/\((kOk x7=kOk x7)/\((Cmd.kind c5=Cmd.kind c5)/\((nmT x6=nmT x6)/\((Cmd.kind c5=Cmd.kind c5)/\(((!vC x3)= !vC x3)/\((vC x3=vC x3)/\(((Cmd.kind c5=Cmd.kind c5)/\((Cmd.call c5=Cmd.call c5)/\((Cmd.inc c5=Cmd.inc c5)/\((Cmd.oth c5=Cmd.oth c5)/\((Cmd.urg c5=Cmd.urg c5)/\((Cmd.code c5=Cmd.code c5)/\((0=0/\((Cmd.nodes c5).length=(Cmd.nodes c5).length))/\((Cmd.dist c5=Cmd.dist c5)/\((Cmd.cen c5=Cmd.cen c5)/\((Cmd.ep c5=Cmd.ep c5)/\((Cmd.tick c5=Cmd.tick c5)/\((Cmd.su c5=Cmd.su c5)/\((Cmd.sq c5=Cmd.sq c5)/\((Cmd.ss c5=Cmd.ss c5)/\((Cmd.sn c5=Cmd.sn c5)/\((Cmd.se c5=Cmd.se c5)/\((Cmd.edge c5=Cmd.edge c5)/\((Cmd.time c5=Cmd.time c5)/\((Cmd.node c5=Cmd.node c5)/\True)))))))))))))))))))/\(((ByteArray.mk (List.toArray (@List.nil UInt8)))=(ByteArray.mk (List.toArray (@List.nil UInt8))))/\(((Cmd.kind c5=Cmd.kind c5)/\((Cmd.call c5=Cmd.call c5)/\((Cmd.inc c5=Cmd.inc c5)/\((Cmd.oth c5=Cmd.oth c5)/\((Cmd.urg c5=Cmd.urg c5)/\((Cmd.code c5=Cmd.code c5)/\((0=0/\((Cmd.nodes c5).length=(Cmd.nodes c5).length))/\((Cmd.dist c5=Cmd.dist c5)/\((Cmd.cen c5=Cmd.cen c5)/\((Cmd.ep c5=Cmd.ep c5)/\((Cmd.tick c5=Cmd.tick c5)/\((Cmd.su c5=Cmd.su c5)/\((Cmd.sq c5=Cmd.sq c5)/\((Cmd.ss c5=Cmd.ss c5)/\((Cmd.sn c5=Cmd.sn c5)/\((Cmd.se c5=Cmd.se c5)/\((Cmd.edge c5=Cmd.edge c5)/\((Cmd.time c5=Cmd.time c5)/\((Cmd.node c5=Cmd.node c5)/\True)))))))))))))))))))/\True)))))))))))))))/\(((Cmd.kind c5=Cmd.kind c5)/\((Cmd.call c5=Cmd.call c5)/\((Cmd.inc c5=Cmd.inc c5)/\((Cmd.oth c5=Cmd.oth c5)/\((Cmd.urg c5=Cmd.urg c5)/\((Cmd.code c5=Cmd.code c5)/\((0=0/\((Cmd.nodes c5).length=(Cmd.nodes c5).length))/\((Cmd.dist c5=Cmd.dist c5)/\((Cmd.cen c5=Cmd.cen c5)/\((Cmd.ep c5=Cmd.ep c5)/\((Cmd.tick c5=Cmd.tick c5)/\((Cmd.su c5=Cmd.su c5)/\((Cmd.sq c5=Cmd.sq c5)/\((Cmd.ss c5=Cmd.ss c5)/\((Cmd.sn c5=Cmd.sn c5)/\((Cmd.se c5=Cmd.se c5)/\((Cmd.edge c5=Cmd.edge c5)/\((Cmd.time c5=Cmd.time c5)/\((Cmd.node c5=Cmd.node c5)/\True)))))))))))))))))))/\(((RLe (Cmd.nodes c5).length (Cmd.nodes c5).length)/\(RowsEq [.int .i64] (Cmd.nodes c5).length (encL encI (Cmd.nodes c5)) (encL encI (Cmd.nodes c5))))/\(((RLe (fsC (12:Int)).length (fsC x7).length)/\(RowsEq [.int .i64] (fsC (12:Int)).length (encL encI (fsC x7)) (encL encI (fsC (12:Int)))))/\(((RLe (fmW x8).length 1)/\(RowsEq (Kd.str::[]) (fmW x8).length (litRows ((D.s (nmT x6)::@List.nil D)::@List.nil (List D))) (encL encS (fmW x8))))/\True))))))/\(∀ x9:Nat,((x9<=(1:Nat))->(((decide ((x9:Int)<(↑(fsC (12:Int)).length:Int))=true)->((((0:Int)<=(x9:Int))/\((x9:Int)<(↑(fsC (12:Int)).length:Int)))/\((0+Int.toNat (x9:Int)<(fsC (12:Int)).length)/\(((decide ((fsC (12:Int)).getD (0+Int.toNat (x9:Int)) default=4)=true)->(((True/\True)/\True)/\((0=0/\(((fmW x9).length<=(fmW x9).length)/\(((1:Nat)<=(1:Nat))/\((fmW x9).length+(1:Nat)<=(1073741824:Nat)))))/\((((-9223372036854775808:Int)<=(x9:Int)+1)/\((x9:Int)+1<=(9223372036854775807:Int)))/\(∃ x13:Nat,(((1:Nat)-x13<(1:Nat)-x9)/\((x13<=(1:Nat))/\(((0=0/\0=0)/\((0=0/\((fmW x9).length+(1:Nat)=(fmW x13).length))/\((0=0/\((fsC (12:Int)).length=(fsC (12:Int)).length))/\(((↑(fsC (12:Int)).length:Int)=(↑(fsC (12:Int)).length:Int))/\(((x9:Int)+1=(x13:Int))/\((kOk x7=kOk x7)/\((kOk x7=kOk x7)/\((Cmd.kind c5=Cmd.kind c5)/\((nmT x6=nmT x6)/\((Cmd.kind c5=Cmd.kind c5)/\(((!vC x3)= !vC x3)/\((vC x3=vC x3)/\(((Cmd.kind c5=Cmd.kind c5)/\((Cmd.call c5=Cmd.call c5)/\((Cmd.inc c5=Cmd.inc c5)/\((Cmd.oth c5=Cmd.oth c5)/\((Cmd.urg c5=Cmd.urg c5)/\((Cmd.code c5=Cmd.code c5)/\((0=0/\((Cmd.nodes c5).length=(Cmd.nodes c5).length))/\((Cmd.dist c5=Cmd.dist c5)/\((Cmd.cen c5=Cmd.cen c5)/\((Cmd.ep c5=Cmd.ep c5)/\((Cmd.tick c5=Cmd.tick c5)/\((Cmd.su c5=Cmd.su c5)/\((Cmd.sq c5=Cmd.sq c5)/\((Cmd.ss c5=Cmd.ss c5)/\((Cmd.sn c5=Cmd.sn c5)/\((Cmd.se c5=Cmd.se c5)/\((Cmd.edge c5=Cmd.edge c5)/\((Cmd.time c5=Cmd.time c5)/\((Cmd.node c5=Cmd.node c5)/\True)))))))))))))))))))/\(((ByteArray.mk (List.toArray (@List.nil UInt8)))=(ByteArray.mk (List.toArray (@List.nil UInt8))))/\(((Cmd.kind c5=Cmd.kind c5)/\((Cmd.call c5=Cmd.call c5)/\((Cmd.inc c5=Cmd.inc c5)/\((Cmd.oth c5=Cmd.oth c5)/\((Cmd.urg c5=Cmd.urg c5)/\((Cmd.code c5=Cmd.code c5)/\((0=0/\((Cmd.nodes c5).length=(Cmd.nodes c5).length))/\((Cmd.dist c5=Cmd.dist c5)/\((Cmd.cen c5=Cmd.cen c5)/\((Cmd.ep c5=Cmd.ep c5)/\((Cmd.tick c5=Cmd.tick c5)/\((Cmd.su c5=Cmd.su c5)/\((Cmd.sq c5=Cmd.sq c5)/\((Cmd.ss c5=Cmd.ss c5)/\((Cmd.sn c5=Cmd.sn c5)/\((Cmd.se c5=Cmd.se c5)/\((Cmd.edge c5=Cmd.edge c5)/\((Cmd.time c5=Cmd.time c5)/\((Cmd.node c5=Cmd.node c5)/\True)))))))))))))))))))/\True)))))))))))))))/\(((Cmd.kind c5=Cmd.kind c5)/\((Cmd.call c5=Cmd.call c5)/\((Cmd.inc c5=Cmd.inc c5)/\((Cmd.oth c5=Cmd.oth c5)/\((Cmd.urg c5=Cmd.urg c5)/\((Cmd.code c5=Cmd.code c5)/\((0=0/\((Cmd.nodes c5).length=(Cmd.nodes c5).length))/\((Cmd.dist c5=Cmd.dist c5)/\((Cmd.cen c5=Cmd.cen c5)/\((Cmd.ep c5=Cmd.ep c5)/\((Cmd.tick c5=Cmd.tick c5)/\((Cmd.su c5=Cmd.su c5)/\((Cmd.sq c5=Cmd.sq c5)/\((Cmd.ss c5=Cmd.ss c5)/\((Cmd.sn c5=Cmd.sn c5)/\((Cmd.se c5=Cmd.se c5)/\((Cmd.edge c5=Cmd.edge c5)/\((Cmd.time c5=Cmd.time c5)/\((Cmd.node c5=Cmd.node c5)/\True)))))))))))))))))))/\(((RLe (Cmd.nodes c5).length (Cmd.nodes c5).length)/\(RowsEq [.int .i64] (Cmd.nodes c5).length (encL encI (Cmd.nodes c5)) (encL encI (Cmd.nodes c5))))/\(((RLe (fsC (12:Int)).length (fsC (12:Int)).length)/\(RowsEq [.int .i64] (fsC (12:Int)).length (encL encI (fsC (12:Int))) (encL encI (fsC (12:Int)))))/\(((RLe (fmW x13).length ((fmW x9).length+(1:Nat)))/\(RowsEq (Kd.str::[]) (fmW x13).length (appRows (fmW x9).length (encL encS (fmW x9)) 0 (litRows ((D.s (Cmd.code c5)::@List.nil D)::@List.nil (List D)))) (encL encS (fmW x13))))/\True))))))))))))/\((decide ((fsC (12:Int)).getD (0+Int.toNat (x9:Int)) default=4)=false)->(((decide ((fsC (12:Int)).getD (0+Int.toNat (x9:Int)) default=5)=true)->(Stuck 2 44))/\((decide ((fsC (12:Int)).getD (0+Int.toNat (x9:Int)) default=5)=false)->(((decide ((fsC (12:Int)).getD (0+Int.toNat (x9:Int)) default=16)=true)->(((decide (Cmd.time c5=4611686018427387904)=true)->(((True/\True)/\True)/\((0=0/\(((fmW x9).length<=(fmW x9).length)/\(((1:Nat)<=(1:Nat))/\((fmW x9).length+(1:Nat)<=(1073741824:Nat)))))/\((((-9223372036854775808:Int)<=(x9:Int)+1)/\((x9:Int)+1<=(9223372036854775807:Int)))/\(∃ x19:Nat,(((1:Nat)-x19<(1:Nat)-x9)/\((x19<=(1:Nat))/\(((0=0/\0=0)/\((0=0/\((fmW x9).length+(1:Nat)=(fmW x19).length))/\((0=0/\((fsC (12:Int)).length=(fsC (12:Int)).length))/\(((↑(fsC (12:Int)).length:Int)=(↑(fsC (12:Int)).length:Int))/\(((x9:Int)+1=(x19:Int))/\((kOk x7=kOk x7)/\((kOk x7=kOk x7)/\((Cmd.kind c5=Cmd.kind c5)/\((nmT x6=nmT x6)/\((Cmd.kind c5=Cmd.kind c5)/\(((!vC x3)= !vC x3)/\((vC x3=vC x3)/\(((Cmd.kind c5=Cmd.kind c5)/\((Cmd.call c5=Cmd.call c5)/\((Cmd.inc c5=Cmd.inc c5)/\((Cmd.oth c5=Cmd.oth c5)/\((Cmd.urg c5=Cmd.urg c5)/\((Cmd.code c5=Cmd.code c5)/\((0=0/\((Cmd.nodes c5).length=(Cmd.nodes c5).length))/\((Cmd.dist c5=Cmd.dist c5)/\((Cmd.cen c5=Cmd.cen c5)/\((Cmd.ep c5=Cmd.ep c5)/\((Cmd.tick c5=Cmd.tick c5)/\((Cmd.su c5=Cmd.su c5)/\((Cmd.sq c5=Cmd.sq c5)/\((Cmd.ss c5=Cmd.ss c5)/\((Cmd.sn c5=Cmd.sn c5)/\((Cmd.se c5=Cmd.se c5)/\((Cmd.edge c5=Cmd.edge c5)/\((Cmd.time c5=Cmd.time c5)/\((Cmd.node c5=Cmd.node c5)/\True)))))))))))))))))))/\(((ByteArray.mk (List.toArray (@List.nil UInt8)))=(ByteArray.mk (List.toArray (@List.nil UInt8))))/\(((Cmd.kind c5=Cmd.kind c5)/\((Cmd.call c5=Cmd.call c5)/\((Cmd.inc c5=Cmd.inc c5)/\((Cmd.oth c5=Cmd.oth c5)/\((Cmd.urg c5=Cmd.urg c5)/\((Cmd.code c5=Cmd.code c5)/\((0=0/\((Cmd.nodes c5).length=(Cmd.nodes c5).length))/\((Cmd.dist c5=Cmd.dist c5)/\((Cmd.cen c5=Cmd.cen c5)/\((Cmd.ep c5=Cmd.ep c5)/\((Cmd.tick c5=Cmd.tick c5)/\((Cmd.su c5=Cmd.su c5)/\((Cmd.sq c5=Cmd.sq c5)/\((Cmd.ss c5=Cmd.ss c5)/\((Cmd.sn c5=Cmd.sn c5)/\((Cmd.se c5=Cmd.se c5)/\((Cmd.edge c5=Cmd.edge c5)/\((Cmd.time c5=Cmd.time c5)/\((Cmd.node c5=Cmd.node c5)/\True)))))))))))))))))))/\True)))))))))))))))/\(((Cmd.kind c5=Cmd.kind c5)/\((Cmd.call c5=Cmd.call c5)/\((Cmd.inc c5=Cmd.inc c5)/\((Cmd.oth c5=Cmd.oth c5)/\((Cmd.urg c5=Cmd.urg c5)/\((Cmd.code c5=Cmd.code c5)/\((0=0/\((Cmd.nodes c5).length=(Cmd.nodes c5).length))/\((Cmd.dist c5=Cmd.dist c5)/\((Cmd.cen c5=Cmd.cen c5)/\((Cmd.ep c5=Cmd.ep c5)/\((Cmd.tick c5=Cmd.tick c5)/\((Cmd.su c5=Cmd.su c5)/\((Cmd.sq c5=Cmd.sq c5)/\((Cmd.ss c5=Cmd.ss c5)/\((Cmd.sn c5=Cmd.sn c5)/\((Cmd.se c5=Cmd.se c5)/\((Cmd.edge c5=Cmd.edge c5)/\((Cmd.time c5=Cmd.time c5)/\((Cmd.node c5=Cmd.node c5)/\True)))))))))))))))))))/\(((RLe (Cmd.nodes c5).length (Cmd.nodes c5).length)/\(RowsEq [.int .i64] (Cmd.nodes c5).length (encL encI (Cmd.nodes c5)) (encL encI (Cmd.nodes c5))))/\(((RLe (fsC (12:Int)).length (fsC (12:Int)).length)/\(RowsEq [.int .i64] (fsC (12:Int)).length (encL encI (fsC (12:Int))) (encL encI (fsC (12:Int)))))/\(((RLe (fmW x19).length ((fmW x9).length+(1:Nat)))/\(RowsEq (Kd.str::[]) (fmW x19).length (appRows (fmW x9).length (encL encS (fmW x9)) 0 (litRows ((D.s (ByteArray.mk (List.toArray ((110:UInt8)::(101:UInt8)::(118:UInt8)::(101:UInt8)::(114:UInt8)::@List.nil UInt8)))::@List.nil D)::@List.nil (List D)))) (encL encS (fmW x19))))/\True))))))))))))/\((decide (Cmd.time c5=4611686018427387904)=false)->(∃ x21:Cmd × Int,(True/\((((Cmd.kind c5=(Prod.fst x21).kind)/\((Cmd.call c5=(Prod.fst x21).call)/\((Cmd.inc c5=(Prod.fst x21).inc)/\((Cmd.oth c5=(Prod.fst x21).oth)/\((Cmd.urg c5=(Prod.fst x21).urg)/\((Cmd.code c5=(Prod.fst x21).code)/\((0=0/\((Cmd.nodes c5).length=(Prod.fst x21).nodes.length))/\((Cmd.dist c5=(Prod.fst x21).dist)/\((Cmd.cen c5=(Prod.fst x21).cen)/\((Cmd.ep c5=(Prod.fst x21).ep)/\((Cmd.tick c5=(Prod.fst x21).tick)/\((Cmd.su c5=(Prod.fst x21).su)/\((Cmd.sq c5=(Prod.fst x21).sq)/\((Cmd.ss c5=(Prod.fst x21).ss)/\((Cmd.sn c5=(Prod.fst x21).sn)/\((Cmd.se c5=(Prod.fst x21).se)/\((Cmd.edge c5=(Prod.fst x21).edge)/\((Cmd.time c5=(Prod.fst x21).time)/\((Cmd.node c5=(Prod.fst x21).node)/\True)))))))))))))))))))/\(((fsC (12:Int)).getD (0+Int.toNat (x9:Int)) default=Prod.snd x21)/\True))/\((((RLe (Prod.fst x21).nodes.length (Cmd.nodes c5).length)/\(RowsEq [.int .i64] (Prod.fst x21).nodes.length (encL encI (Cmd.nodes c5)) (encL encI (Prod.fst x21).nodes)))/\True)/\(∃ x22:Int,((r64 x22)/\(((numF (Prod.fst x21) (Prod.snd x21)=x22)/\(((10:Int)=10)/\True))/\(True/\(((True/\True)/\True)/\((0=0/\(((fmW x9).length<=(fmW x9).length)/\(((1:Nat)<=(1:Nat))/\((fmW x9).length+(1:Nat)<=(1073741824:Nat)))))/\((((-9223372036854775808:Int)<=(x9:Int)+1)/\((x9:Int)+1<=(9223372036854775807:Int)))/\(∃ x23:Nat,(((1:Nat)-x23<(1:Nat)-x9)/\((x23<=(1:Nat))/\(((0=0/\0=0)/\((0=0/\((fmW x9).length+(1:Nat)=(fmW x23).length))/\((0=0/\((fsC (12:Int)).length=(fsC (12:Int)).length))/\(((↑(fsC (12:Int)).length:Int)=(↑(fsC (12:Int)).length:Int))/\(((x9:Int)+1=(x23:Int))/\((kOk x7=kOk x7)/\((kOk x7=kOk x7)/\((Cmd.kind c5=Cmd.kind c5)/\((nmT x6=nmT x6)/\((Cmd.kind c5=Cmd.kind c5)/\(((!vC x3)= !vC x3)/\((vC x3=vC x3)/\(((Cmd.kind c5=Cmd.kind c5)/\((Cmd.call c5=Cmd.call c5)/\((Cmd.inc c5=Cmd.inc c5)/\((Cmd.oth c5=Cmd.oth c5)/\((Cmd.urg c5=Cmd.urg c5)/\((Cmd.code c5=Cmd.code c5)/\((0=0/\((Cmd.nodes c5).length=(Cmd.nodes c5).length))/\((Cmd.dist c5=Cmd.dist c5)/\((Cmd.cen c5=Cmd.cen c5)/\((Cmd.ep c5=Cmd.ep c5)/\((Cmd.tick c5=Cmd.tick c5)/\((Cmd.su c5=Cmd.su c5)/\((Cmd.sq c5=Cmd.sq c5)/\((Cmd.ss c5=Cmd.ss c5)/\((Cmd.sn c5=Cmd.sn c5)/\((Cmd.se c5=Cmd.se c5)/\((Cmd.edge c5=Cmd.edge c5)/\((Cmd.time c5=Cmd.time c5)/\((Cmd.node c5=Cmd.node c5)/\True)))))))))))))))))))/\(((ByteArray.mk (List.toArray (@List.nil UInt8)))=(ByteArray.mk (List.toArray (@List.nil UInt8))))/\(((Cmd.kind c5=Cmd.kind c5)/\((Cmd.call c5=Cmd.call c5)/\((Cmd.inc c5=Cmd.inc c5)/\((Cmd.oth c5=Cmd.oth c5)/\((Cmd.urg c5=Cmd.urg c5)/\((Cmd.code c5=Cmd.code c5)/\((0=0/\((Cmd.nodes c5).length=(Cmd.nodes c5).length))/\((Cmd.dist c5=Cmd.dist c5)/\((Cmd.cen c5=Cmd.cen c5)/\((Cmd.ep c5=Cmd.ep c5)/\((Cmd.tick c5=Cmd.tick c5)/\((Cmd.su c5=Cmd.su c5)/\((Cmd.sq c5=Cmd.sq c5)/\((Cmd.ss c5=Cmd.ss c5)/\((Cmd.sn c5=Cmd.sn c5)/\((Cmd.se c5=Cmd.se c5)/\((Cmd.edge c5=Cmd.edge c5)/\((Cmd.time c5=Cmd.time c5)/\((Cmd.node c5=Cmd.node c5)/\True)))))))))))))))))))/\True)))))))))))))))/\(((Cmd.kind c5=Cmd.kind c5)/\((Cmd.call c5=Cmd.call c5)/\((Cmd.inc c5=Cmd.inc c5)/\((Cmd.oth c5=Cmd.oth c5)/\((Cmd.urg c5=Cmd.urg c5)/\((Cmd.code c5=Cmd.code c5)/\((0=0/\((Cmd.nodes c5).length=(Cmd.nodes c5).length))/\((Cmd.dist c5=Cmd.dist c5)/\((Cmd.cen c5=Cmd.cen c5)/\((Cmd.ep c5=Cmd.ep c5)/\((Cmd.tick c5=Cmd.tick c5)/\((Cmd.su c5=Cmd.su c5)/\((Cmd.sq c5=Cmd.sq c5)/\((Cmd.ss c5=Cmd.ss c5)/\((Cmd.sn c5=Cmd.sn c5)/\((Cmd.se c5=Cmd.se c5)/\((Cmd.edge c5=Cmd.edge c5)/\((Cmd.time c5=Cmd.time c5)/\((Cmd.node c5=Cmd.node c5)/\True)))))))))))))))))))/\(((RLe (Cmd.nodes c5).length (Cmd.nodes c5).length)/\(RowsEq [.int .i64] (Cmd.nodes c5).length (encL encI (Cmd.nodes c5)) (encL encI (Cmd.nodes c5))))/\(((RLe (fsC (12:Int)).length (fsC (12:Int)).length)/\(RowsEq [.int .i64] (fsC (12:Int)).length (encL encI (fsC (12:Int))) (encL encI (fsC (12:Int)))))/\(((RLe (fmW x23).length ((fmW x9).length+(1:Nat)))/\(RowsEq (Kd.str::[]) (fmW x23).length (appRows (fmW x9).length (encL encS (fmW x9)) 0 (litRows ((D.s (itoS x22)::@List.nil D)::@List.nil (List D)))) (encL encS (fmW x23))))/\True))))))))))))))))))))))/\((decide ((fsC (12:Int)).getD (0+Int.toNat (x9:Int)) default=16)=false)->(∃ x25:Cmd × Int,(True/\((((Cmd.kind c5=(Prod.fst x25).kind)/\((Cmd.call c5=(Prod.fst x25).call)/\((Cmd.inc c5=(Prod.fst x25).inc)/\((Cmd.oth c5=(Prod.fst x25).oth)/\((Cmd.urg c5=(Prod.fst x25).urg)/\((Cmd.code c5=(Prod.fst x25).code)/\((0=0/\((Cmd.nodes c5).length=(Prod.fst x25).nodes.length))/\((Cmd.dist c5=(Prod.fst x25).dist)/\((Cmd.cen c5=(Prod.fst x25).cen)/\((Cmd.ep c5=(Prod.fst x25).ep)/\((Cmd.tick c5=(Prod.fst x25).tick)/\((Cmd.su c5=(Prod.fst x25).su)/\((Cmd.sq c5=(Prod.fst x25).sq)/\((Cmd.ss c5=(Prod.fst x25).ss)/\((Cmd.sn c5=(Prod.fst x25).sn)/\((Cmd.se c5=(Prod.fst x25).se)/\((Cmd.edge c5=(Prod.fst x25).edge)/\((Cmd.time c5=(Prod.fst x25).time)/\((Cmd.node c5=(Prod.fst x25).node)/\True)))))))))))))))))))/\(((fsC (12:Int)).getD (0+Int.toNat (x9:Int)) default=Prod.snd x25)/\True))/\((((RLe (Prod.fst x25).nodes.length (Cmd.nodes c5).length)/\(RowsEq [.int .i64] (Prod.fst x25).nodes.length (encL encI (Cmd.nodes c5)) (encL encI (Prod.fst x25).nodes)))/\True)/\(∃ x26:Int,((r64 x26)/\(((numF (Prod.fst x25) (Prod.snd x25)=x26)/\(((10:Int)=10)/\True))/\(True/\(((True/\True)/\True)/\((0=0/\(((fmW x9).length<=(fmW x9).length)/\(((1:Nat)<=(1:Nat))/\((fmW x9).length+(1:Nat)<=(1073741824:Nat)))))/\((((-9223372036854775808:Int)<=(x9:Int)+1)/\((x9:Int)+1<=(9223372036854775807:Int)))/\(∃ x27:Nat,(((1:Nat)-x27<(1:Nat)-x9)/\((x27<=(1:Nat))/\(((0=0/\0=0)/\((0=0/\((fmW x9).length+(1:Nat)=(fmW x27).length))/\((0=0/\((fsC (12:Int)).length=(fsC (12:Int)).length))/\(((↑(fsC (12:Int)).length:Int)=(↑(fsC (12:Int)).length:Int))/\(((x9:Int)+1=(x27:Int))/\((kOk x7=kOk x7)/\((kOk x7=kOk x7)/\((Cmd.kind c5=Cmd.kind c5)/\((nmT x6=nmT x6)/\((Cmd.kind c5=Cmd.kind c5)/\(((!vC x3)= !vC x3)/\((vC x3=vC x3)/\(((Cmd.kind c5=Cmd.kind c5)/\((Cmd.call c5=Cmd.call c5)/\((Cmd.inc c5=Cmd.inc c5)/\((Cmd.oth c5=Cmd.oth c5)/\((Cmd.urg c5=Cmd.urg c5)/\((Cmd.code c5=Cmd.code c5)/\((0=0/\((Cmd.nodes c5).length=(Cmd.nodes c5).length))/\((Cmd.dist c5=Cmd.dist c5)/\((Cmd.cen c5=Cmd.cen c5)/\((Cmd.ep c5=Cmd.ep c5)/\((Cmd.tick c5=Cmd.tick c5)/\((Cmd.su c5=Cmd.su c5)/\((Cmd.sq c5=Cmd.sq c5)/\((Cmd.ss c5=Cmd.ss c5)/\((Cmd.sn c5=Cmd.sn c5)/\((Cmd.se c5=Cmd.se c5)/\((Cmd.edge c5=Cmd.edge c5)/\((Cmd.time c5=Cmd.time c5)/\((Cmd.node c5=Cmd.node c5)/\True)))))))))))))))))))/\(((ByteArray.mk (List.toArray (@List.nil UInt8)))=(ByteArray.mk (List.toArray (@List.nil UInt8))))/\(((Cmd.kind c5=Cmd.kind c5)/\((Cmd.call c5=Cmd.call c5)/\((Cmd.inc c5=Cmd.inc c5)/\((Cmd.oth c5=Cmd.oth c5)/\((Cmd.urg c5=Cmd.urg c5)/\((Cmd.code c5=Cmd.code c5)/\((0=0/\((Cmd.nodes c5).length=(Cmd.nodes c5).length))/\((Cmd.dist c5=Cmd.dist c5)/\((Cmd.cen c5=Cmd.cen c5)/\((Cmd.ep c5=Cmd.ep c5)/\((Cmd.tick c5=Cmd.tick c5)/\((Cmd.su c5=Cmd.su c5)/\((Cmd.sq c5=Cmd.sq c5)/\((Cmd.ss c5=Cmd.ss c5)/\((Cmd.sn c5=Cmd.sn c5)/\((Cmd.se c5=Cmd.se c5)/\((Cmd.edge c5=Cmd.edge c5)/\((Cmd.time c5=Cmd.time c5)/\((Cmd.node c5=Cmd.node c5)/\True)))))))))))))))))))/\True)))))))))))))))/\(((Cmd.kind c5=Cmd.kind c5)/\((Cmd.call c5=Cmd.call c5)/\((Cmd.inc c5=Cmd.inc c5)/\((Cmd.oth c5=Cmd.oth c5)/\((Cmd.urg c5=Cmd.urg c5)/\((Cmd.code c5=Cmd.code c5)/\((0=0/\((Cmd.nodes c5).length=(Cmd.nodes c5).length))/\((Cmd.dist c5=Cmd.dist c5)/\((Cmd.cen c5=Cmd.cen c5)/\((Cmd.ep c5=Cmd.ep c5)/\((Cmd.tick c5=Cmd.tick c5)/\((Cmd.su c5=Cmd.su c5)/\((Cmd.sq c5=Cmd.sq c5)/\((Cmd.ss c5=Cmd.ss c5)/\((Cmd.sn c5=Cmd.sn c5)/\((Cmd.se c5=Cmd.se c5)/\((Cmd.edge c5=Cmd.edge c5)/\((Cmd.time c5=Cmd.time c5)/\((Cmd.node c5=Cmd.node c5)/\True)))))))))))))))))))/\(((RLe (Cmd.nodes c5).length (Cmd.nodes c5).length)/\(RowsEq [.int .i64] (Cmd.nodes c5).length (encL encI (Cmd.nodes c5)) (encL encI (Cmd.nodes c5))))/\(((RLe (fsC (12:Int)).length (fsC (12:Int)).length)/\(RowsEq [.int .i64] (fsC (12:Int)).length (encL encI (fsC (12:Int))) (encL encI (fsC (12:Int)))))/\(((RLe (fmW x27).length ((fmW x9).length+(1:Nat)))/\(RowsEq (Kd.str::[]) (fmW x27).length (appRows (fmW x9).length (encL encS (fmW x9)) 0 (litRows ((D.s (itoS x26)::@List.nil D)::@List.nil (List D)))) (encL encS (fmW x27))))/\True))))))))))))))))))))))))))))/\((decide ((x9:Int)<(↑(fsC (12:Int)).length:Int))=false)->(∃ x29:List ByteArray × ByteArray,((((Prod.fst x29).length<=(1000:Nat))/\(ByteArray.size (joiS (Prod.fst x29) (Prod.snd x29))<=(1000000:Nat)))/\(((0=0/\((fmW x9).length=(Prod.fst x29).length))/\(((ByteArray.mk (List.toArray ((32:UInt8)::@List.nil UInt8)))=Prod.snd x29)/\True))/\((((RLe (Prod.fst x29).length (fmW x9).length)/\(RowsEq (Kd.str::[]) (Prod.fst x29).length (encL encS (fmW x9)) (encL encS (Prod.fst x29))))/\True)/\((joiS (Prod.fst x29) (Prod.snd x29)=txt5)/\True)))))))))))))))))))))))))))))=(Keeps cfgF Tryd.f16 fmC5 fmI) by kernel_rfl) (fun x1=>fun h2=>⟨(c5),
(by(try dsimp only at *);exact Nat.zero_le _),
⟨⟨rfl,rfl,rfl,rfl,rfl,rfl,
⟨rfl,rfl⟩,rfl,rfl,rfl,rfl,rfl,rfl,rfl,rfl,rfl,rfl,rfl,rfl,trivial⟩,trivial⟩,
⟨⟨rl,rr⟩,trivial⟩,
fun h4=>⟨(by(try dsimp only at *);exact c5_no h4),trivial⟩,
fun h5=>⟨(Cmd.kind c5),trivial,
⟨rfl,trivial⟩,trivial,
⟨⟨trivial,trivial⟩,trivial⟩,
(Cmd.kind c5),trivial,
⟨rfl,trivial⟩,trivial,
((0:Nat)),
⟨(by(try dsimp only at *);omega),
⟨⟨rfl,rfl⟩,
⟨rfl,
(by(try dsimp only at *);rfl)⟩,
⟨rfl,
(by(try dsimp only at *);rfl)⟩,
(by(try dsimp only at *);rfl),
(by(try dsimp only at *);omega),rfl,rfl,rfl,rfl,rfl,rfl,rfl,
⟨rfl,rfl,rfl,rfl,rfl,rfl,
⟨rfl,rfl⟩,rfl,rfl,rfl,rfl,rfl,rfl,rfl,rfl,rfl,rfl,rfl,rfl,trivial⟩,rfl,
⟨rfl,rfl,rfl,rfl,rfl,rfl,
⟨rfl,rfl⟩,rfl,rfl,rfl,rfl,rfl,rfl,rfl,rfl,rfl,rfl,rfl,rfl,trivial⟩,trivial⟩,
⟨rfl,rfl,rfl,rfl,rfl,rfl,
⟨rfl,rfl⟩,rfl,rfl,rfl,rfl,rfl,rfl,rfl,rfl,rfl,rfl,rfl,rfl,trivial⟩,
⟨rl,rr⟩,
⟨⟨(by(try dsimp only at *);exact Nat.le_refl _)⟩,
(by(try dsimp only at *);exact rr)⟩,
⟨⟨(by(try dsimp only at *);exact Nat.le_refl _)⟩,
(by(try dsimp only at *);exact fm_r0 rfl)⟩,trivial⟩,
fun x9=>fun h10=>⟨fun g11=>have h11:=dT g11;⟨⟨(by(try dsimp only at *);omega),
(by(try dsimp only at *);omega)⟩,
(by(try dsimp only at *);omega),
fun g12=>have h12:=dT g12;⟨⟨⟨trivial,trivial⟩,trivial⟩,
⟨rfl,
(by(try dsimp only at *);omega),
(by(try dsimp only at *);omega),
(by(try dsimp only at *);exact fm_no h11 h12 (by decide))⟩,
⟨(by(try dsimp only at *);omega),
(by(try dsimp only at *);omega)⟩,
(x9+(1:Nat)),
(by(try dsimp only at *);exact fm_no h11 h12 (by decide)),
(by(try dsimp only at *);exact fm_no h11 h12 (by decide)),
⟨⟨rfl,rfl⟩,
⟨rfl,
(by(try dsimp only at *);exact fm_no h11 h12 (by decide))⟩,
⟨rfl,rfl⟩,rfl,
(by(try dsimp only at *);omega),rfl,rfl,rfl,rfl,rfl,rfl,rfl,
⟨rfl,rfl,rfl,rfl,rfl,rfl,
⟨rfl,rfl⟩,rfl,rfl,rfl,rfl,rfl,rfl,rfl,rfl,rfl,rfl,rfl,rfl,trivial⟩,rfl,
⟨rfl,rfl,rfl,rfl,rfl,rfl,
⟨rfl,rfl⟩,rfl,rfl,rfl,rfl,rfl,rfl,rfl,rfl,rfl,rfl,rfl,rfl,trivial⟩,trivial⟩,
⟨rfl,rfl,rfl,rfl,rfl,rfl,
⟨rfl,rfl⟩,rfl,rfl,rfl,rfl,rfl,rfl,rfl,rfl,rfl,rfl,rfl,rfl,trivial⟩,
⟨rl,rr⟩,
⟨rl,rr⟩,
⟨⟨(by(try dsimp only at *);exact fm_no h11 h12 (by decide))⟩,
(by(try dsimp only at *);exact fm_no h11 h12 (by decide))⟩,trivial⟩,
fun g14=>have h14:=dF g14;⟨fun g15=>have h15:=dT g15;(by(try dsimp only at *);exact fm_no h11 h15 (by decide)),
fun g16=>have h16:=dF g16;⟨fun g17=>have h17:=dT g17;⟨fun g18=>have h18:=dT g18;⟨⟨⟨trivial,trivial⟩,trivial⟩,
⟨rfl,
(by(try dsimp only at *);omega),
(by(try dsimp only at *);omega),
(by(try dsimp only at *);exact fm_no h11 h17 (by decide))⟩,
⟨(by(try dsimp only at *);omega),
(by(try dsimp only at *);omega)⟩,
(x9+(1:Nat)),
(by(try dsimp only at *);exact fm_no h11 h17 (by decide)),
(by(try dsimp only at *);exact fm_no h11 h17 (by decide)),
⟨⟨rfl,rfl⟩,
⟨rfl,
(by(try dsimp only at *);exact fm_no h11 h17 (by decide))⟩,
⟨rfl,rfl⟩,rfl,
(by(try dsimp only at *);omega),rfl,rfl,rfl,rfl,rfl,rfl,rfl,
⟨rfl,rfl,rfl,rfl,rfl,rfl,
⟨rfl,rfl⟩,rfl,rfl,rfl,rfl,rfl,rfl,rfl,rfl,rfl,rfl,rfl,rfl,trivial⟩,rfl,
⟨rfl,rfl,rfl,rfl,rfl,rfl,
⟨rfl,rfl⟩,rfl,rfl,rfl,rfl,rfl,rfl,rfl,rfl,rfl,rfl,rfl,rfl,trivial⟩,trivial⟩,
⟨rfl,rfl,rfl,rfl,rfl,rfl,
⟨rfl,rfl⟩,rfl,rfl,rfl,rfl,rfl,rfl,rfl,rfl,rfl,rfl,rfl,rfl,trivial⟩,
⟨rl,rr⟩,
⟨rl,rr⟩,
⟨⟨(by(try dsimp only at *);exact fm_no h11 h17 (by decide))⟩,
(by(try dsimp only at *);exact fm_no h11 h17 (by decide))⟩,trivial⟩,
fun g20=>have h20:=dF g20;⟨((c5,List.getD (fsC (12:Int)) ((0:Nat)+Int.toNat (↑x9:Int)) default)),trivial,
⟨⟨rfl,rfl,rfl,rfl,rfl,rfl,
⟨rfl,rfl⟩,rfl,rfl,rfl,rfl,rfl,rfl,rfl,rfl,rfl,rfl,rfl,rfl,trivial⟩,rfl,trivial⟩,
⟨⟨rl,rr⟩,trivial⟩,
(numF c5 (List.getD (fsC (12:Int)) ((0:Nat)+Int.toNat (↑x9:Int)) default)),
(by(try dsimp only at *);exact fm_no h11 h17 (by decide)),
⟨rfl,rfl,trivial⟩,trivial,
⟨⟨trivial,trivial⟩,trivial⟩,
⟨rfl,
(by(try dsimp only at *);omega),
(by(try dsimp only at *);omega),
(by(try dsimp only at *);exact fm_no h11 h17 (by decide))⟩,
⟨(by(try dsimp only at *);omega),
(by(try dsimp only at *);omega)⟩,
(x9+(1:Nat)),
(by(try dsimp only at *);exact fm_no h11 h17 (by decide)),
(by(try dsimp only at *);exact fm_no h11 h17 (by decide)),
⟨⟨rfl,rfl⟩,
⟨rfl,
(by(try dsimp only at *);exact fm_no h11 h17 (by decide))⟩,
⟨rfl,rfl⟩,rfl,
(by(try dsimp only at *);omega),rfl,rfl,rfl,rfl,rfl,rfl,rfl,
⟨rfl,rfl,rfl,rfl,rfl,rfl,
⟨rfl,rfl⟩,rfl,rfl,rfl,rfl,rfl,rfl,rfl,rfl,rfl,rfl,rfl,rfl,trivial⟩,rfl,
⟨rfl,rfl,rfl,rfl,rfl,rfl,
⟨rfl,rfl⟩,rfl,rfl,rfl,rfl,rfl,rfl,rfl,rfl,rfl,rfl,rfl,rfl,trivial⟩,trivial⟩,
⟨rfl,rfl,rfl,rfl,rfl,rfl,
⟨rfl,rfl⟩,rfl,rfl,rfl,rfl,rfl,rfl,rfl,rfl,rfl,rfl,rfl,rfl,trivial⟩,
⟨rl,rr⟩,
⟨rl,rr⟩,
⟨⟨(by(try dsimp only at *);exact fm_no h11 h17 (by decide))⟩,
(by(try dsimp only at *);exact fm_no h11 h17 (by decide))⟩,trivial⟩⟩,
fun g24=>have h24:=dF g24;⟨((c5,List.getD (fsC (12:Int)) ((0:Nat)+Int.toNat (↑x9:Int)) default)),trivial,
⟨⟨rfl,rfl,rfl,rfl,rfl,rfl,
⟨rfl,rfl⟩,rfl,rfl,rfl,rfl,rfl,rfl,rfl,rfl,rfl,rfl,rfl,rfl,trivial⟩,rfl,trivial⟩,
⟨⟨rl,rr⟩,trivial⟩,
(numF c5 (List.getD (fsC (12:Int)) ((0:Nat)+Int.toNat (↑x9:Int)) default)),
(by(try dsimp only at *);exact fm_n h11),
⟨rfl,rfl,trivial⟩,trivial,
⟨⟨trivial,trivial⟩,trivial⟩,
⟨rfl,
(by(try dsimp only at *);omega),
(by(try dsimp only at *);omega),
(by(try dsimp only at *);exact fm_c h11)⟩,
⟨(by(try dsimp only at *);omega),
(by(try dsimp only at *);omega)⟩,
(x9+(1:Nat)),
(by(try dsimp only at *);(have:=fm_i h11;omega)),
(by(try dsimp only at *);(have:=fm_i h11;omega)),
⟨⟨rfl,rfl⟩,
⟨rfl,
(by(try dsimp only at *);exact fm_l h11)⟩,
⟨rfl,rfl⟩,rfl,
(by(try dsimp only at *);omega),rfl,rfl,rfl,rfl,rfl,rfl,rfl,
⟨rfl,rfl,rfl,rfl,rfl,rfl,
⟨rfl,rfl⟩,rfl,rfl,rfl,rfl,rfl,rfl,rfl,rfl,rfl,rfl,rfl,rfl,trivial⟩,rfl,
⟨rfl,rfl,rfl,rfl,rfl,rfl,
⟨rfl,rfl⟩,rfl,rfl,rfl,rfl,rfl,rfl,rfl,rfl,rfl,rfl,rfl,rfl,trivial⟩,trivial⟩,
⟨rfl,rfl,rfl,rfl,rfl,rfl,
⟨rfl,rfl⟩,rfl,rfl,rfl,rfl,rfl,rfl,rfl,rfl,rfl,rfl,rfl,rfl,trivial⟩,
⟨rl,rr⟩,
⟨rl,rr⟩,
⟨⟨(by(try dsimp only at *);exact Nat.le_of_eq (fm_l h11).symm)⟩,
(by(try dsimp only at *);exact fm_r1 h11)⟩,trivial⟩⟩⟩⟩,
fun g28=>have h28:=dF g28;⟨((fmW x9,{ data:=List.toArray ((32:UInt8)::@List.nil UInt8):ByteArray })),
⟨(by(try dsimp only at *);exact(fm_p h28).1),
(by(try dsimp only at *);exact(fm_p h28).2)⟩,
⟨⟨rfl,rfl⟩,rfl,trivial⟩,
⟨⟨rl,rr⟩,trivial⟩,
(by(try dsimp only at *);exact fm_t h28),trivial⟩⟩⟩⟩)
theorem fm_good:Good Tryd.prog 16 fmC5/\FnOk Tryd.prog 16:=good_of tok conF (fn:=Tryd.f16) rfl (by decide+kernel) (fun _=>rfl) fm_keeps
theorem dec5:decC [24,10]=c5/\decE [24,10]=0:=by decide+kernel
theorem byR5:byR c5=[24,10]:=by decide+kernel
def cfgK:Cfg:=⟨T,[],[(18,.one dcC),(14,.one enC),(16,.one fmC5)],noInv,60,{}⟩
theorem conK:ConOk Tryd.prog cfgK:=ConL.ok (.cons (ConL.one dc_good) (.cons (ConL.one en_good) (.cons (ConL.one fm_good) .nil)))
def wkC:CT where
 X:=Unit
 pre:=fun _=>True
 args:=fun _=>[]
 g0:=fun _=>[]
 res:=fun _=>.b true
 g1:=fun _=>[]
theorem inB5:inB [24,10]:=by
 refine⟨fun b hb=>?_,by decide⟩
 simp at hb
 omega
theorem rows5:RowsEq kB [(24:Int),10].length (litRows [[D.i 24],[D.i 10]]) (encL encI [24,10]):=by
 refine⟨fun r hr=>?_⟩
 have hr:r<2:=hr
 rcases(show r=0∨r=1 by omega)with rfl|rfl
 ·exact⟨rfl,trivial⟩
 ·exact⟨rfl,trivial⟩
theorem wk_by {p:Prop} (h:((strOf (byR c5).length fun r=>encL encI (byR c5) (0+r)).toList==(ByteArray.mk #[24,10]).toList)=false):p:=by
 rw[seq_eq,byR5,decide_eq_true (by decide+kernel)]at h
 cases h
theorem wk_txt {p:Prop} (h:(txt5.toList==(ByteArray.mk #[99,108,111,99,107,32,53]).toList)=false):p:=by
 rw[seq_eq,decide_eq_true (by rfl)]at h
 cases h
theorem wk_k {p:Prop} (h:¬ (decC [24,10]).kind=12):p:=absurd (by rw[dec5.1];rfl) h
theorem wk_t {p:Prop} (h:¬ (decC [24,10]).tick=5):p:=absurd (by rw[dec5.1];rfl) h
set_option maxRecDepth 100000 in
theorem wk_keeps:Keeps cfgK Tryd.f10 wkC noIv:=Eq.mp (show((∀ x1:Unit,(True->(((True/\True)/\((True/\True)/\True))/\(∃ x3:List Int,((inB x3)/\(((0=0/\((2:Nat)=x3.length))/\True)/\((((RLe x3.length 2)/\(RowsEq (.int IntKind.u8::[]) x3.length (litRows ((D.i 24::@List.nil D)::(D.i 10::@List.nil D)::@List.nil (List D))) (encL encI x3)))/\True)/\(∃ x4:Cmd,((x4.nodes.length<=(1000000:Nat))/\(((12=x4.kind/\(0=x4.call/\(0=x4.inc/\(0=x4.oth/\(0=x4.urg/\(ByteArray.empty=x4.code/\((True/\(0=0/\(x4.nodes.length=(0:Nat))))/\(0=x4.dist/\(0=x4.cen/\(0=x4.ep/\(5=x4.tick/\(0=x4.su/\(0=x4.sq/\(0=x4.ss/\(0=x4.sn/\(0=x4.se/\(0=x4.edge/\(0=x4.time/\(0=x4.node/\True)))))))))))))))))))/\True)/\(((x4.nodes.length=(0:Nat))/\True)/\(((0:Nat)+(byR x4).length<=(byR x4).length)/\((((ByteArray.toList (ByteArray.mk (List.toArray (List.map (fun(r:Nat)=>UInt8.ofNat (Int.toNat ((byR x4).getD ((0:Nat)+r) default))) (List.range (byR x4).length))))==ByteArray.toList (ByteArray.mk (List.toArray ((24:UInt8)::(10:UInt8)::@List.nil UInt8))))=true)->(∃ x6:Unit,(True/\(((((12:Int)=Cmd.kind c5)/\(((0:Int)=Cmd.call c5)/\(((0:Int)=Cmd.inc c5)/\(((0:Int)=Cmd.oth c5)/\(((0:Int)=Cmd.urg c5)/\((ByteArray.empty=Cmd.code c5)/\((True/\(0=0/\((Cmd.nodes c5).length=(0:Nat))))/\(((0:Int)=Cmd.dist c5)/\(((0:Int)=Cmd.cen c5)/\(((0:Int)=Cmd.ep c5)/\(((5:Int)=Cmd.tick c5)/\(((0:Int)=Cmd.su c5)/\(((0:Int)=Cmd.sq c5)/\(((0:Int)=Cmd.ss c5)/\(((0:Int)=Cmd.sn c5)/\(((0:Int)=Cmd.se c5)/\(((0:Int)=Cmd.edge c5)/\(((0:Int)=Cmd.time c5)/\(((0:Int)=Cmd.node c5)/\True)))))))))))))))))))/\True)/\((((Cmd.nodes c5).length=(0:Nat))/\True)/\((((ByteArray.toList txt5==ByteArray.toList (ByteArray.mk (List.toArray ((99:UInt8)::(108:UInt8)::(111:UInt8)::(99:UInt8)::(107:UInt8)::(32:UInt8)::(53:UInt8)::@List.nil UInt8))))=true)->(((decide ((decC x3).kind=(12:Int))=true)->(((decide ((decC x3).tick=(5:Int))=true)->((decide (decE x3=0)=true)/\True))/\((decide ((decC x3).tick=(5:Int))=false)->(false=true/\True))))/\((decide ((decC x3).kind=(12:Int))=false)->(false=true/\True))))/\(((ByteArray.toList txt5==ByteArray.toList (ByteArray.mk (List.toArray ((99:UInt8)::(108:UInt8)::(111:UInt8)::(99:UInt8)::(107:UInt8)::(32:UInt8)::(53:UInt8)::@List.nil UInt8))))=false)->(false=true/\True))))))))/\(((ByteArray.toList (ByteArray.mk (List.toArray (List.map (fun(r:Nat)=>UInt8.ofNat (Int.toNat ((byR x4).getD ((0:Nat)+r) default))) (List.range (byR x4).length))))==ByteArray.toList (ByteArray.mk (List.toArray ((24:UInt8)::(10:UInt8)::@List.nil UInt8))))=false)->(false=true/\True))))))))))))))))=(Keeps cfgK Tryd.f10 wkC noIv) by kernel_rfl) (fun x1=>fun h2=>⟨⟨⟨trivial,trivial⟩,
⟨trivial,trivial⟩,trivial⟩,
((24:Int)::(10:Int)::@List.nil Int),
(by(try dsimp only at *);exact inB5),
⟨⟨rfl,
(by(try dsimp only at *);grind)⟩,trivial⟩,
⟨⟨⟨(by(try dsimp only at *);grind)⟩,
(by(try dsimp only at *);exact rows5)⟩,trivial⟩,
(c5),
(by(try dsimp only at *);exact Nat.zero_le _),
⟨⟨(by(try dsimp only at *);rfl),
(by(try dsimp only at *);rfl),
(by(try dsimp only at *);rfl),
(by(try dsimp only at *);rfl),
(by(try dsimp only at *);rfl),
(by(try dsimp only at *);rfl),
⟨trivial,rfl,
(by(try dsimp only at *);rfl)⟩,
(by(try dsimp only at *);rfl),
(by(try dsimp only at *);rfl),
(by(try dsimp only at *);rfl),
(by(try dsimp only at *);rfl),
(by(try dsimp only at *);rfl),
(by(try dsimp only at *);rfl),
(by(try dsimp only at *);rfl),
(by(try dsimp only at *);rfl),
(by(try dsimp only at *);rfl),
(by(try dsimp only at *);rfl),
(by(try dsimp only at *);rfl),
(by(try dsimp only at *);rfl),trivial⟩,trivial⟩,
⟨(by(try dsimp only at *);rfl),trivial⟩,
(by(try dsimp only at *);omega),
fun h5=>⟨(default),trivial,
⟨⟨(by(try dsimp only at *);rfl),
(by(try dsimp only at *);rfl),
(by(try dsimp only at *);rfl),
(by(try dsimp only at *);rfl),
(by(try dsimp only at *);rfl),
(by(try dsimp only at *);rfl),
⟨trivial,rfl,
(by(try dsimp only at *);rfl)⟩,
(by(try dsimp only at *);rfl),
(by(try dsimp only at *);rfl),
(by(try dsimp only at *);rfl),
(by(try dsimp only at *);rfl),
(by(try dsimp only at *);rfl),
(by(try dsimp only at *);rfl),
(by(try dsimp only at *);rfl),
(by(try dsimp only at *);rfl),
(by(try dsimp only at *);rfl),
(by(try dsimp only at *);rfl),
(by(try dsimp only at *);rfl),
(by(try dsimp only at *);rfl),trivial⟩,trivial⟩,
⟨(by(try dsimp only at *);rfl),trivial⟩,
fun h7=>⟨fun g8=>have h8:=dT g8;⟨fun g9=>have h9:=dT g9;⟨(by(try dsimp only at *);assumption),trivial⟩,
fun g10=>have h10:=dF g10;⟨(by(try dsimp only at *);exact wk_t ‹_›),trivial⟩⟩,
fun g11=>have h11:=dF g11;⟨(by(try dsimp only at *);exact wk_k ‹_›),trivial⟩⟩,
fun h12=>⟨(by(try dsimp only at *);exact wk_txt ‹_›),trivial⟩⟩,
fun h13=>⟨(by(try dsimp only at *);exact wk_by ‹_›),trivial⟩⟩)
theorem wk_good0:Good Tryd.prog 10 wkC/\FnOk Tryd.prog 10:=good_of tok conK (fn:=Tryd.f10) rfl (by decide+kernel) (fun _=>rfl) wk_keeps
end Go.Sym