import Derived.Test.YtfflknhillcblaaDoorX7
import Derived.Test.YtfflknhillcblaaDoorWQ
import Derived.Test.YtfflknhillcblaaDoorQ2
import Derived.Test.YtfflknhillcblaaDoorXD
namespace Go.Sym
set_option linter.unusedVariables false
set_option linter.unusedSimpArgs false
open Go.Proofs
set_option maxRecDepth 100000
set_option maxHeartbeats 4000000
theorem elemsZ_nn {ws:List Nat}:∀ z∈elemsZ ws,0<=z:=fun z hz=>(elemsZ_mem.1 hz).1
theorem nodup_Z (ws:List Nat):(elemsZ ws).Nodup:=(elemsZ_sorted _).imp fun h=>by omega
def rW (g:Gr) (ws:List Nat):List Nat:=ofW (reachQ g (elemsZ ws)) (reachQ g (elemsZ ws)).length
theorem rW_mem {g:Gr} (hg:GOk g) {ws:List Nat} {z:Int}:z∈elemsZ (rW g ws)↔0<=z/\Rch g (· ∈elemsZ ws) z.toNat:=by
 unfold rW
 rw[ofW_mem,reach_iff hg (nodup_Z _) elemsZ_nn]
 constructor
 ·exact fun h=>h.1
 ·rintro⟨a,r⟩
  have:=r.lt hg
  have:=hg.n
  exact⟨⟨a,r⟩,a,by omega⟩
theorem rW_ok (g:Gr) (ws:List Nat):WOk (rW g ws):=ofW_ok _ _
theorem rW_ahead {g:Gr} (hg:GOk g) (fs:List Int):elemsZ (rW g (ofW fs fs.length))=aheadL g.n g.es fs:=by
 refine sortedE (elemsZ_sorted _) (outA_sorted _ _) fun z=>?_
 rw[rW_mem hg,ahead_iff hg]
 have hn:=hg.n
 have e:∀ v,Rch g (· ∈elemsZ (ofW fs fs.length)) v↔Rch g (· ∈fs) v:=fun v=>by
  constructor
  ·exact fun r=>r.mono fun v h=>(ofW_mem.1 h).1
  ·intro r
   exact r.least (C:=fun v=>Rch g (· ∈elemsZ (ofW fs fs.length)) v) (fun v hv h=>.src hv (ofW_mem.2 ⟨h,by omega,by omega⟩)) (fun i hi ho h=>.step hi ho h)
 rw[e]
theorem rW_idem {g:Gr} (hg:GOk g) (ws:List Nat):rW g (rW g ws)=rW g ws:=by
 refine elems_inj (rW_ok _ _) (rW_ok _ _) (sortedE (elemsZ_sorted _) (elemsZ_sorted _) fun z=>?_)
 rw[rW_mem hg,rW_mem hg]
 constructor
 ·rintro⟨a,r⟩
  refine⟨a,r.least (C:=fun v=>Rch g (· ∈elemsZ ws) v) (fun v hv h=>?_) (fun i hi ho h=>.step hi ho h)⟩
  have:=(rW_mem hg).1 h
  rw[Int.toNat_natCast]at this;exact this.2
 ·rintro⟨a,r⟩
  exact⟨a,.src (r.lt hg) ((rW_mem hg).2 ⟨by omega,by rw[Int.toNat_natCast];exact r⟩)⟩
structure RCx where
 p:NewX
 fs:List Int
def rcB (x:RCx):Bool:=decide ((x.p.n<=12/\x.p.es.length<=40)/\errN x.p=0/\x.fs.length<=20)
def lawRc (b:Bool):CT:=⟨RCx,fun x=>True/\rcB x=b,fun x=>[.agg [.i .i64 x.p.n,.sl 100000 0 x.p.es.length],.sl 100001 0 x.fs.length],fun x=>[(100000,.rows .bor kE x.p.es.length (encL encE x.p.es)),(100001,.rows .bor k1 x.fs.length (encL encI x.fs))],fun _=>.b true,fun _=>[]⟩
theorem rc_out {x:RCx} (h:True/\rcB x=false):¬ ((x.p.n<=12/\x.p.es.length<=40)/\errN x.p=0/\x.fs.length<=20):=of_decide_eq_false h.2
def rcNI (_:RCx) (id:Nat):Option Inv:=match id with
 |100026=>some (cutT 26 true)
 |_=>none
def cfgRn:Cfg:=⟨T,[],[(10,.one wkC),(11,.one madeC),(12,.one smallC)],noInv,8,{}⟩
theorem conRn:ConOk Tryd.prog cfgRn:=ConL.ok (.cons (ConL.one wk_good) (.cons (ConL.one made_good) (.cons (ConL.one small_good) .nil)))
set_option maxRecDepth 100000 in
theorem rc_no:Keeps cfgRn Tryd.f4 (lawRc false) rcNI:=Eq.mp (show((∀ x1:RCx,((True/\rcB x1=false)->(∃ x3:Unit,(True/\(True/\(True/\((false=true->(false=true/\True))/\(false=false->(∃ x6:NewX,(True/\(((x1.p.n=x6.n/\((0=0/\x1.p.es.length=x6.es.length)/\True))/\True)/\((((RLe x6.es.length x1.p.es.length)/\(RowsEq [.int .i64,.int .i64,.int .i64] x6.es.length (encL encE x1.p.es) (encL encE x6.es)))/\True)/\((∃ x7:NewX,(True/\(((x1.p.n=x7.n/\((0=0/\x1.p.es.length=x7.es.length)/\True))/\True)/\((((RLe x7.es.length x1.p.es.length)/\(RowsEq [.int .i64,.int .i64,.int .i64] x7.es.length (encL encE x1.p.es) (encL encE x7.es)))/\True)/\((((!decide (x7.n<=(12:Int)/\x7.es.length<=(40:Nat)))=false)->((((!decide (errN x6=0))=false)->(∃ x10:Unit,(True/\((decide (20<(x1.fs.length:Int))=true)/\True))))/\(((!decide (errN x6=0))=true)->(∃ x12:Unit,(True/\(true=true/\True))))))/\(((!decide (x7.n<=(12:Int)/\x7.es.length<=(40:Nat)))=true)->(∃ x14:Unit,(True/\(true=true/\True)))))))))/\(∀ x15:Unit,(True->(true=true/\True)))))))))))))))))=(Keeps cfgRn Tryd.f4 (lawRc false) rcNI) by kernel_rfl) (fun x1=>fun h2=>⟨(default),trivial,trivial,trivial,
fun h4=>⟨(by(try dsimp only at *);omega),trivial⟩,
fun h5=>⟨(RCx.p x1),trivial,
⟨⟨rfl,
⟨rfl,rfl⟩,trivial⟩,trivial⟩,
⟨⟨rl,rr⟩,trivial⟩,
⟨(RCx.p x1),trivial,
⟨⟨rfl,
⟨rfl,rfl⟩,trivial⟩,trivial⟩,
⟨⟨rl,rr⟩,trivial⟩,
fun g8=>have h8:=nF g8;⟨fun g9=>have h9:=nF g9;⟨(default),trivial,
(by(try dsimp only at *);(have:=rc_out h2;exact decide_eq_true (by simp only[decide_eq_true_eq,decide_eq_false_iff_not]at *;omega))),trivial⟩,
fun g11=>have h11:=nT g11;⟨(default),trivial,rfl,trivial⟩⟩,
fun g13=>have h13:=nT g13;⟨(default),trivial,rfl,trivial⟩⟩,
fun x15=>fun h16=>⟨rfl,trivial⟩⟩⟩)
def rcYI (_:RCx) (id:Nat):Option Inv:=match id with
 |100026=>some (cutT 26 false)
 |_=>none
def cfgRc:Cfg:=⟨T,[],[(10,.one wkC),(11,.one madeYC),(12,.one smallC),(20,.one ofC),(19,.one reachC),(21,.one listC),(22,.one ahC),(15,.one sameC),(23,.one equalC)],noInv,8,{}⟩
theorem conRc:ConOk Tryd.prog cfgRc:=ConL.ok (.cons (ConL.one wk_good) (.cons (ConL.one madeY_good) (.cons (ConL.one small_good) (.cons (ConL.one of_good) (.cons (ConL.one reach_good) (.cons (ConL.one list_good) (.cons (ConL.one ah_good) (.cons (ConL.one same_good) (.cons (ConL.one equal_good) .nil)))))))))
theorem rc_ok {x:RCx} (h:True/\rcB x=true):(x.p.n<=12/\x.p.es.length<=40)/\errN x.p=0/\x.fs.length<=20:=of_decide_eq_true h.2
theorem rc_g {x:RCx} (h:True/\rcB x=true):G12 x.p.g:=by
 have a:=rc_ok h
 have b:=err_g a.2.1
 exact⟨by omega,b.1⟩
def RCx.w (x:RCx):List Nat:=ofW x.fs x.fs.length
theorem rc_lw (x:RCx) (h:True/\rcB x=true):(elemsW (rW x.p.g x.w)).length=(aheadL x.p.g.n x.p.g.es x.fs).length:=by rw[<- elemsZ_len];exact congrArg List.length (rW_ahead (rc_g h).g x.fs)
theorem ahead_le (n:Nat) (es:List Ed) (fs:List Int):(aheadL n es fs).length<=n:=out_le _ _
set_option maxRecDepth 100000 in
theorem rc_yes:Keeps cfgRc Tryd.f4 (lawRc true) rcYI:=Eq.mp (show((∀ x1:RCx,((True/\rcB x1=true)->(∃ x3:Unit,(True/\(True/\(True/\((false=true->(false=true/\True))/\(false=false->(∃ x6:NewX,((errN x6=0)/\(((x1.p.n=x6.n/\((0=0/\x1.p.es.length=x6.es.length)/\True))/\True)/\((((RLe x6.es.length x1.p.es.length)/\(RowsEq [.int .i64,.int .i64,.int .i64] x6.es.length (encL encE x1.p.es) (encL encE x6.es)))/\True)/\((∃ x7:NewX,(True/\(((x1.p.n=x7.n/\((0=0/\x1.p.es.length=x7.es.length)/\True))/\True)/\((((RLe x7.es.length x1.p.es.length)/\(RowsEq [.int .i64,.int .i64,.int .i64] x7.es.length (encL encE x1.p.es) (encL encE x7.es)))/\True)/\((((!decide (x7.n<=(12:Int)/\x7.es.length<=(40:Nat)))=false)->((false=false->(∃ x10:Unit,(True/\((decide (20<(x1.fs.length:Int))=false)/\True))))/\(false=true->(∃ x12:Unit,(True/\(true=false/\True))))))/\(((!decide (x7.n<=(12:Int)/\x7.es.length<=(40:Nat)))=true)->(∃ x14:Unit,(True/\(true=false/\True)))))))))/\(∀ x15:Unit,(True->(∃ x17:List Int,((x17.length<=(1048576:Nat))/\(((0=0/\x1.fs.length=x17.length)/\True)/\((((RLe x17.length x1.fs.length)/\(RI x17.length x1.fs x17))/\True)/\(∃ x18:RLx,((RLok x18)/\(((0=0/\0=0)/\(((szW (ofW x17 x17.length)=szW x18.ws)/\True)/\True))/\(((RLe 1 1/\(RowsEq [.sl [.int .i64,.int .i64,.int .i64],.sl [.sl [.int .i64]],.sl [.sl [.int .i64]]] 1 (encG (NewX.g x6)) (encG x18.g)))/\(((RLe (szW x18.ws) (szW (ofW x17 x17.length)))/\(RowsEq [.int .u64] (szW x18.ws) (encL encW (ofW x17 x17.length)) (encL encW x18.ws)))/\True))/\(∃ x19:List Nat,((WOk x19)/\((((szW (ofW (reachQ x18.g (elemsZ x18.ws)) (reachQ x18.g (elemsZ x18.ws)).length)=szW x19)/\True)/\True)/\((((RLe (szW x19) (szW (ofW (reachQ x18.g (elemsZ x18.ws)) (reachQ x18.g (elemsZ x18.ws)).length)))/\(RowsEq [.int .u64] (szW x19) (encL encW (ofW (reachQ x18.g (elemsZ x18.ws)) (reachQ x18.g (elemsZ x18.ws)).length)) (encL encW x19)))/\True)/\(∃ x20:AHx,((AHok x20)/\(((x1.p.n=(x20.g.n:Int))/\((0=0/\x1.p.es.length=x20.g.es.length)/\((0=0/\x1.fs.length=x20.fs.length)/\True)))/\((((RLe x20.g.es.length x1.p.es.length)/\(RowsEq [.int .i64,.int .i64,.int .i64] x20.g.es.length (encL encE x1.p.es) (encL encE x20.g.es)))/\(((RLe x20.fs.length x1.fs.length)/\(RI x20.fs.length x1.fs x20.fs))/\True))/\(∃ x21:LLX,((x21.a.length<=(1073741824:Nat))/\(((0=0/\((elemsW x19).length=x21.a.length))/\((0=0/\((aheadL x20.g.n x20.g.es x20.fs).length=x21.b.length))/\True))/\((((RLe x21.a.length (elemsW x19).length)/\(RI x21.a.length (elemsZ x19) x21.a))/\(((RLe x21.b.length (aheadL x20.g.n x20.g.es x20.fs).length)/\(RI x21.b.length (aheadL x20.g.n x20.g.es x20.fs) x21.b))/\True))/\(((decide (x21.a=x21.b)=true)->(∃ x23:RLx,((RLok x23)/\(((0=0/\0=0)/\(((szW (ofW (reachQ x18.g (elemsZ x18.ws)) (reachQ x18.g (elemsZ x18.ws)).length)=szW x23.ws)/\True)/\True))/\(((RLe 1 1/\(RowsEq [.sl [.int .i64,.int .i64,.int .i64],.sl [.sl [.int .i64]],.sl [.sl [.int .i64]]] 1 (encG (NewX.g x6)) (encG x23.g)))/\(((RLe (szW x23.ws) (szW (ofW (reachQ x18.g (elemsZ x18.ws)) (reachQ x18.g (elemsZ x18.ws)).length)))/\(RowsEq [.int .u64] (szW x23.ws) (encL encW (ofW (reachQ x18.g (elemsZ x18.ws)) (reachQ x18.g (elemsZ x18.ws)).length)) (encL encW x23.ws)))/\True))/\(∃ x24:TwoX,(((WOk x24.a)/\(WOk x24.b))/\((((szW (ofW (reachQ x23.g (elemsZ x23.ws)) (reachQ x23.g (elemsZ x23.ws)).length)=szW x24.a)/\True)/\(((szW (ofW (reachQ x18.g (elemsZ x18.ws)) (reachQ x18.g (elemsZ x18.ws)).length)=szW x24.b)/\True)/\True))/\((((RLe (szW x24.a) (szW (ofW (reachQ x23.g (elemsZ x23.ws)) (reachQ x23.g (elemsZ x23.ws)).length)))/\(RowsEq [.int .u64] (szW x24.a) (encL encW (ofW (reachQ x23.g (elemsZ x23.ws)) (reachQ x23.g (elemsZ x23.ws)).length)) (encL encW x24.a)))/\(((RLe (szW x24.b) (szW (ofW (reachQ x18.g (elemsZ x18.ws)) (reachQ x18.g (elemsZ x18.ws)).length)))/\(RowsEq [.int .u64] (szW x24.b) (encL encW (ofW (reachQ x18.g (elemsZ x18.ws)) (reachQ x18.g (elemsZ x18.ws)).length)) (encL encW x24.b)))/\True))/\((decide (x24.a=x24.b)=true)/\True))))))))))/\((decide (x21.a=x21.b)=false)->(false=true/\True)))))))))))))))))))))))))))))))))))))))=(Keeps cfgRc Tryd.f4 (lawRc true) rcYI) by kernel_rfl) (fun x1=>fun h2=>⟨(default),
 trivial,trivial,trivial,
fun h4=>⟨(by(try dsimp only at *);omega),trivial⟩,
fun h5=>⟨(RCx.p x1),
(by(try dsimp only at *);exact(rc_ok h2).2.1),
⟨⟨rfl,
⟨rfl,rfl⟩,trivial⟩,trivial⟩,
⟨⟨rl,rr⟩,trivial⟩,
⟨(RCx.p x1),trivial,
⟨⟨rfl,
⟨rfl,rfl⟩,trivial⟩,trivial⟩,
⟨⟨rl,rr⟩,trivial⟩,
fun g8=>have h8:=nF g8;⟨fun h9=>⟨(default),trivial,
(by(try dsimp only at *);exact decide_eq_false (by have:=(rc_ok h2).2.2;omega)),trivial⟩,
fun h11=>⟨(default),trivial,
(by(try dsimp only at *);grind),trivial⟩⟩,
fun g13=>have h13:=nT g13;⟨(default),trivial,
(by(try dsimp only at *);exact absurd (rc_ok h2).1 ‹_›),trivial⟩⟩,
fun x15=>fun h16=>⟨(RCx.fs x1),
(by(try dsimp only at *);(have:=(rc_ok h2).2.2;omega)),
⟨⟨rfl,rfl⟩,trivial⟩,
⟨⟨rl,rr⟩,trivial⟩,
({ g:=NewX.g (RCx.p x1),ws:=RCx.w x1:RLx }),
(by(try dsimp only at *);exact⟨(rc_g h2).g,ofW_ok _ _⟩),
⟨⟨rfl,rfl⟩,
⟨(by(try dsimp only at *);rfl),trivial⟩,trivial⟩,
⟨⟨rl,rr⟩,
⟨⟨(by(try dsimp only at *);exact Nat.le_refl _)⟩,
(by(try dsimp only at *);exact rr)⟩,trivial⟩,
(rW (NewX.g (RCx.p x1)) (RCx.w x1)),
(by(try dsimp only at *);exact rW_ok _ _),
⟨⟨(by(try dsimp only at *);rfl),trivial⟩,trivial⟩,
⟨⟨⟨(by(try dsimp only at *);exact Nat.le_refl _)⟩,
(by(try dsimp only at *);exact rr)⟩,trivial⟩,
({ g:=NewX.g (RCx.p x1),fs:=RCx.fs x1:AHx }),
(by(try dsimp only at *);exact⟨rc_g h2,(rc_ok h2).1.2,(rc_ok h2).2.2⟩),
⟨(by(try dsimp only at *);exact(err_g (rc_ok h2).2.1).2.2.symm),
⟨rfl,
(by(try dsimp only at *);rfl)⟩,
⟨rfl,rfl⟩,trivial⟩,
⟨⟨⟨(by(try dsimp only at *);exact Nat.le_refl _)⟩,
(by(try dsimp only at *);exact rr)⟩,
⟨rl,rr⟩,trivial⟩,
({ a:=aheadL (Gr.n (NewX.g (RCx.p x1))) (Gr.es (NewX.g (RCx.p x1))) (RCx.fs x1),b:=aheadL (Gr.n (NewX.g (RCx.p x1))) (Gr.es (NewX.g (RCx.p x1))) (RCx.fs x1):LLX }),
(by(try dsimp only at *);exact Nat.le_trans (ahead_le _ _ _) (by have:=(rc_g h2).n;omega)),
⟨⟨rfl,
(by(try dsimp only at *);exact rc_lw x1 h2)⟩,
⟨rfl,rfl⟩,trivial⟩,
⟨⟨⟨(by(try dsimp only at *);exact Nat.le_of_eq (rc_lw x1 h2).symm)⟩,
(by(try dsimp only at *);exact rowsE (rW_ahead (rc_g h2).g x1.fs))⟩,
⟨rl,rr⟩,trivial⟩,
fun g22=>have h22:=dT g22;⟨({ g:=NewX.g (RCx.p x1),ws:=rW (NewX.g (RCx.p x1)) (RCx.w x1):RLx }),
(by(try dsimp only at *);exact⟨(rc_g h2).g,ofW_ok _ _⟩),
⟨⟨rfl,rfl⟩,
⟨(by(try dsimp only at *);rfl),trivial⟩,trivial⟩,
⟨⟨rl,rr⟩,
⟨⟨(by(try dsimp only at *);exact Nat.le_refl _)⟩,
(by(try dsimp only at *);exact rr)⟩,trivial⟩,
({ a:=rW (NewX.g (RCx.p x1)) (rW (NewX.g (RCx.p x1)) (RCx.w x1)),b:=rW (NewX.g (RCx.p x1)) (RCx.w x1):TwoX }),
⟨(by(try dsimp only at *);exact rW_ok _ _),
(by(try dsimp only at *);exact rW_ok _ _)⟩,
⟨⟨(by(try dsimp only at *);rfl),trivial⟩,
⟨(by(try dsimp only at *);rfl),trivial⟩,trivial⟩,
⟨⟨⟨(by(try dsimp only at *);exact Nat.le_refl _)⟩,
(by(try dsimp only at *);exact rr)⟩,
⟨⟨(by(try dsimp only at *);exact Nat.le_refl _)⟩,
(by(try dsimp only at *);exact rr)⟩,trivial⟩,
(by(try dsimp only at *);exact decide_eq_true (rW_idem (rc_g h2).g _)),trivial⟩,
fun g25=>have h25:=dF g25;⟨(by(try dsimp only at *);grind),trivial⟩⟩⟩⟩)
theorem rcN_good:Good Tryd.prog 4 (lawRc false)/\FnOk Tryd.prog 4:=good_of tok conRn (fn:=Tryd.f4) rfl (by decide+kernel) (fun _=>rfl) rc_no
theorem rcY_good:Good Tryd.prog 4 (lawRc true)/\FnOk Tryd.prog 4:=good_of tok conRc (fn:=Tryd.f4) rfl (by decide+kernel) (fun _=>rfl) rc_yes
theorem rc_good:Good Tryd.prog 4 ⟨RCx,fun _=>True,(lawRc true).args,(lawRc true).g0,fun _=>.b true,fun _=>[]⟩:=both_b (X:=RCx) (t:=rcB) rcY_good.1 rcN_good.1
end Go.Sym