import Derived.Test.YtakbmbmpcenljaaT15
import Derived.Test.YtakbmbmpcenljaaT14
import Derived.Test.YtakbmbmpcenljaaXD
namespace Go.Sym
set_option linter.unusedVariables false
set_option linter.unusedSimpArgs false
open Go.Proofs
set_option maxRecDepth 100000
set_option maxHeartbeats 4000000
deriving instance DecidableEq for Pl
def selNw:List SV->Hp->Bool:=fun args _=>match args with
 | [_,.i _ (.ofNat 0)]=>true
 |_=>false
def aw0:Qs:=⟨1,10,[]⟩
def aw1:Qs:=⟨1,10,[⟨7,3,0⟩]⟩
def aw2:Qs:=⟨1,10,[⟨7,3,0⟩,⟨8,2,5⟩]⟩
def aw3:Qs:=⟨1,10,[⟨8,2,5⟩]⟩
theorem aw_a1:addL aw0.l 7 3 0=aw1.l/\addR aw0.l 7 3 0=0:=⟨rfl,rfl⟩
theorem aw_a3:addL aw2.l 8 2 5=aw2.l/\addR aw2.l 8 2 5=5:=⟨rfl,rfl⟩
theorem aw_s:setL aw2.l 9 2=aw2.l/\setR aw2.l 9 2=4:=⟨rfl,rfl⟩
theorem ordP_is {l s:List Pl} (h:l.Perm s) (hs:s.Pairwise fun a b=>leP a b=true):ordP l=s:=by
 refine List.Perm.eq_of_pairwise (le:=fun a b=>leP a b=true) (fun a b _ _ h1 h2=>?_) (ordP_sorted l) hs ((ordP_perm l).trans h)
 exact ltP_tot a b (leP_nlt h2) (leP_nlt h1)
theorem aw_o9:plsF aw2 9=[⟨2,5,8⟩,⟨3,0,7⟩]:=by
 unfold plsF
 rw[show aw2.l.map (plF aw2.ages 9)=[⟨3,0,7⟩,⟨2,5,8⟩] by decide+kernel]
 exact ordP_is (List.Perm.swap _ _ _) (by decide+kernel)
theorem aw_o10:plsF aw2 10=[⟨2,0,7⟩,⟨2,5,8⟩]:=by
 unfold plsF
 rw[show aw2.l.map (plF aw2.ages 10)=[⟨2,0,7⟩,⟨2,5,8⟩] by decide+kernel]
 exact ordP_is (List.Perm.refl _) (by decide+kernel)
theorem aw_ok:QOk aw2:=⟨by decide,by decide,by decide,fun c hc=>by
 rcases List.mem_cons.1 hc with e|e
 ·subst e;exact⟨by decide,by decide,by decide⟩
 ·rw[List.mem_singleton]at e;subst e;exact⟨by decide,by decide,by decide⟩⟩
theorem aw_n9:(nextF aw2 9).ca=8:=by unfold nextF;rw[aw_o9];rfl
theorem aw_n10:(nextF aw2 10).ca=7:=by unfold nextF;rw[aw_o10];rfl
theorem aw_p:aheadF ⟨aw2,7,9⟩=1:=by decide+kernel
theorem aw_v:overF aw2 9=[7]:=by unfold overF orderF;rw[aw_o9];rfl
theorem aw_v1:((overF aw2 9).length:Int)=1:=by rw[aw_v];rfl
theorem aw_v2:(overF aw2 9).getD (0+Int.toNat 0) default=7:=by rw[aw_v];rfl
theorem aw_l2:(aw2.l.length:Int)=2:=rfl
theorem aw_p2:(if 7∈idsC aw2.l then(aheadF ⟨aw2,7,9⟩:Int)else 0)=1:=by rw[aw_p];rfl
theorem aw_m8:(8:Int)∈idsC aw2.l:=by decide
def awC:CT where
 X:=Unit
 pre:=fun _=>True
 args:=fun _=>[]
 g0:=fun _=>[]
 res:=fun _=>.b true
 g1:=fun _=>[]
def cfgAw:Cfg:=⟨T,[],[(11,.two selNw (.one qnNoC) (.one qnC)),(26,.one qaC),(27,.one qsC),(25,.one qxC),(21,.one poC),(22,.one qwC),(18,.one qvC),(14,.one qlC),(28,.one qrC)],noInv,60,{}⟩
theorem conAw:ConOk Try.prog cfgAw:=ConL.ok (.cons (ConL.two (ConL.one qnNo_good) (ConL.one qn_good)) (.cons (ConL.one qa_good) (.cons (ConL.one qs_good) (.cons (ConL.one nxt_good) (.cons (ConL.one po_good) (.cons (ConL.one qw_good) (.cons (ConL.one qv_good) (.cons (ConL.one ql_good) (.cons (ConL.one qr_good) .nil)))))))))
set_option maxRecDepth 100000 in
theorem aw_keeps:Keeps cfgAw Try.f10 awC noIv:=Eq.mp (show((∀ x1:Unit,(True->(∃ x3:Nx,((okN x3)/\((1=x3.most/\(10=x3.ages/\True))/\(True/\(∃ x4:Nx,((¬okN x4)/\((1=x4.most/\(0=x4.ages/\True))/\(True/\(((decide ((0:Int)≠(0:Int))=true)->(false=true/\True))/\((decide ((0:Int)≠(0:Int))=false)->(∃ x7:Ax,((List.Nodup (idsC x7.q.l))/\(((0=0/\0=0)/\(7=x7.k/\(3=x7.u/\(0=x7.s/\True))))/\(((x3.most=x7.q.most/\(x3.ages=x7.q.ages/\(True/\True)))/\((MapEq [.int .i64,.int .i64] (idsC (@List.nil Cl)) (idsC x7.q.l) (valC (@List.nil Cl)) (valC x7.q.l))/\True))/\(∃ x8:Ax,((List.Nodup (idsC x8.q.l))/\(((0=0/\0=0)/\(8=x8.k/\(2=x8.u/\(5=x8.s/\True))))/\(((x7.q.most=x8.q.most/\(x7.q.ages=x8.q.ages/\(True/\True)))/\((MapEq [.int .i64,.int .i64] (idsC (addL x7.q.l x7.k x7.u x7.s)) (idsC x8.q.l) (valC (addL x7.q.l x7.k x7.u x7.s)) (valC x8.q.l))/\True))/\(∃ x9:Ax,((List.Nodup (idsC x9.q.l))/\(((0=0/\0=0)/\(8=x9.k/\(2=x9.u/\(5=x9.s/\True))))/\(((x8.q.most=x9.q.most/\(x8.q.ages=x9.q.ages/\(True/\True)))/\((MapEq [.int .i64,.int .i64] (idsC (addL x8.q.l x8.k x8.u x8.s)) (idsC x9.q.l) (valC (addL x8.q.l x8.k x8.u x8.s)) (valC x9.q.l))/\True))/\(∃ x10:Ax,((List.Nodup (idsC x10.q.l))/\(((0=0/\0=0)/\(9=x10.k/\(2=x10.u/\True)))/\(((x9.q.most=x10.q.most/\(x9.q.ages=x10.q.ages/\(True/\True)))/\((MapEq [.int .i64,.int .i64] (idsC (addL x9.q.l x9.k x9.u x9.s)) (idsC x10.q.l) (valC (addL x9.q.l x9.k x9.u x9.s)) (valC x10.q.l))/\True))/\(∃ x11:NwX,((QOk x11.q)/\(((0=0/\0=0)/\(9=x11.now/\True))/\(((x10.q.most=x11.q.most/\(x10.q.ages=x11.q.ages/\(True/\True)))/\((MapEq [.int .i64,.int .i64] (idsC (setL x10.q.l x10.k x10.u)) (idsC x11.q.l) (valC (setL x10.q.l x10.k x10.u)) (valC x11.q.l))/\True))/\(∃ x12:NwX,((QOk x12.q)/\(((0=0/\0=0)/\(10=x12.now/\True))/\(((x10.q.most=x12.q.most/\(x10.q.ages=x12.q.ages/\(True/\True)))/\((MapEq [.int .i64,.int .i64] (idsC (setL x10.q.l x10.k x10.u)) (idsC x12.q.l) (valC (setL x10.q.l x10.k x10.u)) (valC x12.q.l))/\True))/\(∃ x13:Wx,(((QOk x13.q)/\(x13.q.l.length<=(30:Nat)))/\(((0=0/\0=0)/\(7=x13.k/\(9=x13.now/\True)))/\(((x10.q.most=x13.q.most/\(x10.q.ages=x13.q.ages/\(True/\True)))/\((MapEq [.int .i64,.int .i64] (idsC (setL x10.q.l x10.k x10.u)) (idsC x13.q.l) (valC (setL x10.q.l x10.k x10.u)) (valC x13.q.l))/\True))/\(∃ x14:Wx,(True/\(((0=0/\0=0)/\(8=x14.k/\(9=x14.now/\True)))/\(((x10.q.most=x14.q.most/\(x10.q.ages=x14.q.ages/\(True/\True)))/\((MapEq [.int .i64,.int .i64] (idsC (setL x10.q.l x10.k x10.u)) (idsC x14.q.l) (valC (setL x10.q.l x10.k x10.u)) (valC x14.q.l))/\True))/\(∃ x15:NwX,(((QOk x15.q)/\(x15.q.l.length<=(30:Nat)))/\(((0=0/\0=0)/\(9=x15.now/\True))/\(((x10.q.most=x15.q.most/\(x10.q.ages=x15.q.ages/\(True/\True)))/\((MapEq [.int .i64,.int .i64] (idsC (setL x10.q.l x10.k x10.u)) (idsC x15.q.l) (valC (setL x10.q.l x10.k x10.u)) (valC x15.q.l))/\True))/\(((decide ((1:Int)=1)=true)->(((decide (addR x7.q.l x7.k x7.u x7.s=(0:Int))=true)->(((decide (addR x8.q.l x8.k x8.u x8.s=(0:Int))=true)->(((decide (addR x9.q.l x9.k x9.u x9.s=(5:Int))=true)->(((decide (setR x10.q.l x10.k x10.u=(4:Int))=true)->(((decide ((nextF x11.q x11.now).ca=(8:Int))=true)->((((!List.isEmpty x11.q.l)=true)->(((decide ((nextF x12.q x12.now).ca=(7:Int))=true)->((((!List.isEmpty x12.q.l)=true)->(((decide ((if x13.k∈idsC x13.q.l then(↑(aheadF x13):Int)else(0:Int))=(1:Int))=true)->(((decide (x13.k∈idsC x13.q.l)=true)->(((decide (waitF x14=4)=true)->(((decide (x14.k∈idsC x14.q.l)=true)->(((decide ((↑(overF x15.q x15.now).length:Int)=1)=true)->((((0:Int)<=(0:Int))/\(0<(↑(overF x15.q x15.now).length:Int)))/\((0+Int.toNat 0<(overF x15.q x15.now).length)/\(((decide ((overF x15.q x15.now).getD (0+Int.toNat (0:Int)) default=7)=true)->(∃ x31:Qs,(True/\(((0=0/\0=0)/\True)/\(((x10.q.most=x31.most/\(x10.q.ages=x31.ages/\(True/\True)))/\((MapEq [.int .i64,.int .i64] (idsC (setL x10.q.l x10.k x10.u)) (idsC x31.l) (valC (setL x10.q.l x10.k x10.u)) (valC x31.l))/\True))/\(((decide ((x31.l.length:Int)=2)=true)->(∃ x33:Ax,((List.Nodup (idsC x33.q.l))/\(((0=0/\0=0)/\(7=x33.k/\True))/\(((x10.q.most=x33.q.most/\(x10.q.ages=x33.q.ages/\(True/\True)))/\((MapEq [.int .i64,.int .i64] (idsC (setL x10.q.l x10.k x10.u)) (idsC x33.q.l) (valC (setL x10.q.l x10.k x10.u)) (valC x33.q.l))/\True))/\(((decide (x33.k∈idsC x33.q.l)=true)->(∃ x35:Ax,((List.Nodup (idsC x35.q.l))/\(((0=0/\0=0)/\(7=x35.k/\True))/\(((x33.q.most=x35.q.most/\(x33.q.ages=x35.q.ages/\(True/\True)))/\((MapEq [.int .i64,.int .i64] (idsC (delL x33.q.l x33.k)) (idsC x35.q.l) (valC (delL x33.q.l x33.k)) (valC x35.q.l))/\True))/\(((!decide (x35.k∈idsC x35.q.l))=true)/\True))))))/\((decide (x33.k∈idsC x33.q.l)=false)->(false=true/\True))))))))/\((decide ((x31.l.length:Int)=2)=false)->(false=true/\True))))))))/\((decide ((overF x15.q x15.now).getD (0+Int.toNat (0:Int)) default=7)=false)->(false=true/\True))))))/\((decide ((↑(overF x15.q x15.now).length:Int)=1)=false)->(false=true/\True))))/\((decide (x14.k∈idsC x14.q.l)=false)->(false=true/\True))))/\((decide (waitF x14=4)=false)->(false=true/\True))))/\((decide (x13.k∈idsC x13.q.l)=false)->(false=true/\True))))/\((decide ((if x13.k∈idsC x13.q.l then(↑(aheadF x13):Int)else(0:Int))=(1:Int))=false)->(false=true/\True))))/\(((!List.isEmpty x12.q.l)=false)->(false=true/\True))))/\((decide ((nextF x12.q x12.now).ca=(7:Int))=false)->(false=true/\True))))/\(((!List.isEmpty x11.q.l)=false)->(false=true/\True))))/\((decide ((nextF x11.q x11.now).ca=(8:Int))=false)->(false=true/\True))))/\((decide (setR x10.q.l x10.k x10.u=(4:Int))=false)->(false=true/\True))))/\((decide (addR x9.q.l x9.k x9.u x9.s=(5:Int))=false)->(false=true/\True))))/\((decide (addR x8.q.l x8.k x8.u x8.s=(0:Int))=false)->(false=true/\True))))/\((decide (addR x7.q.l x7.k x7.u x7.s=(0:Int))=false)->(false=true/\True))))/\((decide ((1:Int)=1)=false)->(false=true/\True))))))))))))))))))))))))))))))))))))))))))))))))))))=(Keeps cfgAw Try.f10 awC noIv) by kernel_rfl) (fun x1=>fun h2=>⟨({ most:=(1:Int),ages:=(10:Int):Nx }),
(by(try dsimp only at *);decide),
⟨rfl,rfl,trivial⟩,trivial,
({ most:=(1:Int),ages:=(0:Int):Nx }),
(by(try dsimp only at *);decide),
⟨rfl,rfl,trivial⟩,trivial,
fun g5=>have h5:=dT g5;⟨(by(try dsimp only at *);omega),trivial⟩,
fun g6=>have h6:=dF g6;⟨({ q:=aw0,k:=(7:Int),u:=(3:Int),s:=(0:Int):Ax }),
(by(try dsimp only at *);decide),
⟨⟨rfl,rfl⟩,rfl,rfl,rfl,trivial⟩,
⟨⟨(by(try dsimp only at *);rfl),
(by(try dsimp only at *);rfl),trivial,trivial⟩,
(by(try dsimp only at *);exact MapEq.rfl'),trivial⟩,
({ q:=aw1,k:=(8:Int),u:=(2:Int),s:=(5:Int):Ax }),
(by(try dsimp only at *);decide),
⟨⟨rfl,rfl⟩,rfl,rfl,rfl,trivial⟩,
⟨⟨(by(try dsimp only at *);rfl),
(by(try dsimp only at *);rfl),trivial,trivial⟩,
(by(try dsimp only at *);exact MapEq.rfl'),trivial⟩,
({ q:=aw2,k:=(8:Int),u:=(2:Int),s:=(5:Int):Ax }),
(by(try dsimp only at *);decide),
⟨⟨rfl,rfl⟩,rfl,rfl,rfl,trivial⟩,
⟨⟨(by(try dsimp only at *);rfl),
(by(try dsimp only at *);rfl),trivial,trivial⟩,
(by(try dsimp only at *);exact MapEq.rfl'),trivial⟩,
({ q:=aw2,k:=(9:Int),u:=(2:Int),s:=(0:Int):Ax }),
(by(try dsimp only at *);decide),
⟨⟨rfl,rfl⟩,rfl,rfl,trivial⟩,
⟨⟨rfl,rfl,trivial,trivial⟩,
(by(try dsimp only at *);exact MapEq.rfl'),trivial⟩,
({ q:=aw2,now:=(9:Int):NwX }),
(by(try dsimp only at *);exact aw_ok),
⟨⟨rfl,rfl⟩,rfl,trivial⟩,
⟨⟨rfl,rfl,trivial,trivial⟩,
(by(try dsimp only at *);exact MapEq.rfl'),trivial⟩,
({ q:=aw2,now:=(10:Int):NwX }),
(by(try dsimp only at *);exact aw_ok),
⟨⟨rfl,rfl⟩,rfl,trivial⟩,
⟨⟨rfl,rfl,trivial,trivial⟩,
(by(try dsimp only at *);exact MapEq.rfl'),trivial⟩,
({ q:=aw2,k:=(7:Int),now:=(9:Int):Wx }),
⟨(by(try dsimp only at *);exact aw_ok),
(by(try dsimp only at *);decide)⟩,
⟨⟨rfl,rfl⟩,rfl,rfl,trivial⟩,
⟨⟨rfl,rfl,trivial,trivial⟩,
(by(try dsimp only at *);exact MapEq.rfl'),trivial⟩,
({ q:=aw2,k:=(8:Int),now:=(9:Int):Wx }),trivial,
⟨⟨rfl,rfl⟩,rfl,rfl,trivial⟩,
⟨⟨rfl,rfl,trivial,trivial⟩,
(by(try dsimp only at *);exact MapEq.rfl'),trivial⟩,
({ q:=aw2,now:=(9:Int):NwX }),
⟨(by(try dsimp only at *);exact aw_ok),
(by(try dsimp only at *);decide)⟩,
⟨⟨rfl,rfl⟩,rfl,trivial⟩,
⟨⟨rfl,rfl,trivial,trivial⟩,
(by(try dsimp only at *);exact MapEq.rfl'),trivial⟩,
fun g16=>have h16:=dT g16;⟨fun g17=>have h17:=dT g17;⟨fun g18=>have h18:=dT g18;⟨fun g19=>have h19:=dT g19;⟨fun g20=>have h20:=dT g20;⟨fun g21=>have h21:=dT g21;⟨fun h22=>⟨fun g23=>have h23:=dT g23;⟨fun h24=>⟨fun g25=>have h25:=dT g25;⟨fun g26=>have h26:=dT g26;⟨fun g27=>have h27:=dT g27;⟨fun g28=>have h28:=dT g28;⟨fun g29=>have h29:=dT g29;⟨⟨(by(try dsimp only at *);omega),
(by(try dsimp only at *);omega)⟩,
(by(try dsimp only at *);omega),
fun g30=>have h30:=dT g30;⟨(aw2),trivial,
⟨⟨rfl,rfl⟩,trivial⟩,
⟨⟨rfl,rfl,trivial,trivial⟩,
(by(try dsimp only at *);exact MapEq.rfl'),trivial⟩,
fun g32=>have h32:=dT g32;⟨({ q:=aw2,k:=(7:Int),u:=(0:Int),s:=(0:Int):Ax }),
(by(try dsimp only at *);decide),
⟨⟨rfl,rfl⟩,rfl,trivial⟩,
⟨⟨rfl,rfl,trivial,trivial⟩,
(by(try dsimp only at *);exact MapEq.rfl'),trivial⟩,
fun g34=>have h34:=dT g34;⟨({ q:=aw3,k:=(7:Int),u:=(0:Int),s:=(0:Int):Ax }),
(by(try dsimp only at *);decide),
⟨⟨rfl,rfl⟩,rfl,trivial⟩,
⟨⟨(by(try dsimp only at *);assumption),
(by(try dsimp only at *);rfl),trivial,trivial⟩,
(by(try dsimp only at *);exact MapEq.rfl'),trivial⟩,
(by(try dsimp only at *);assumption),trivial⟩,
fun g36=>have h36:=dF g36;⟨(by(try dsimp only at *);grind),trivial⟩⟩,
fun g37=>have h37:=dF g37;⟨(by(try dsimp only at *);exact absurd aw_l2 ‹_›),trivial⟩⟩,
fun g38=>have h38:=dF g38;⟨(by(try dsimp only at *);exact absurd aw_v2 ‹_›),trivial⟩⟩,
fun g39=>have h39:=dF g39;⟨(by(try dsimp only at *);exact absurd aw_v1 ‹_›),trivial⟩⟩,
fun g40=>have h40:=dF g40;⟨(by(try dsimp only at *);exact absurd aw_m8 ‹_›),trivial⟩⟩,
fun g41=>have h41:=dF g41;⟨(by(try dsimp only at *);exact absurd aw_s.2 ‹_›),trivial⟩⟩,
fun g42=>have h42:=dF g42;⟨(by(try dsimp only at *);grind),trivial⟩⟩,
fun g43=>have h43:=dF g43;⟨(by(try dsimp only at *);exact absurd aw_p2 ‹_›),trivial⟩⟩,
fun h44=>⟨(by(try dsimp only at *);grind),trivial⟩⟩,
fun g45=>have h45:=dF g45;⟨(by(try dsimp only at *);exact absurd aw_n10 ‹_›),trivial⟩⟩,
fun h46=>⟨(by(try dsimp only at *);exact absurd ‹(!_)=false› (by decide)),trivial⟩⟩,
fun g47=>have h47:=dF g47;⟨(by(try dsimp only at *);exact absurd aw_n9 ‹_›),trivial⟩⟩,
fun g48=>have h48:=dF g48;⟨(by(try dsimp only at *);exact absurd aw_s.2 ‹_›),trivial⟩⟩,
fun g49=>have h49:=dF g49;⟨(by(try dsimp only at *);exact absurd aw_a3.2 ‹_›),trivial⟩⟩,
fun g50=>have h50:=dF g50;⟨(by(try dsimp only at *);exact absurd aw_a1.2 ‹_›),trivial⟩⟩,
fun g51=>have h51:=dF g51;⟨(by(try dsimp only at *);exact absurd aw_a1.2 ‹_›),trivial⟩⟩,
fun g52=>have h52:=dF g52;⟨(by(try dsimp only at *);omega),trivial⟩⟩⟩)
theorem aw_good:Good Try.prog 10 awC/\FnOk Try.prog 10:=good_of tok conAw (fn:=Try.f10) rfl (by decide+kernel) (fun _=>rfl) aw_keeps
end Go.Sym