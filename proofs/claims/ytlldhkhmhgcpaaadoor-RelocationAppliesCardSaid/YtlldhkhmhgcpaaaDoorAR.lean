import Derived.Test.YtlldhkhmhgcpaaaDoorAP
import Derived.Test.YtlldhkhmhgcpaaaDoorXD
namespace Go.Sym
set_option linter.unusedVariables false
set_option linter.unusedSimpArgs false
open Go.Proofs Go.RowKit
set_option maxRecDepth 100000
set_option maxHeartbeats 8000000
structure FdX where
 us:List Un
 id:Int
def fdC:CT where
 X:=FdX
 pre:=fun x=>x.us.length<=1000
 args:=fun x=>[.sl 100000 0 x.us.length,.i .i64 x.id]
 g0:=fun x=>[(100000,.rows .bor kU x.us.length (encL encU x.us))]
 res:=fun x=>.i .i64 (fndU x.us x.id)
 g1:=fun _=>[]
def noF (x:FdX) (k:Nat):Prop:=k<=x.us.length/\∀ j,j<k->(x.us.getD j default).id≠x.id
def fdI (x:FdX) (id:Nat):Option Inv:=match id with
 |0=>some { X:=Nat,ok:=noF x,fr:=fun k=>[(1,.i .i64 x.id),(7,.sl 100000 0 x.us.length),(8,.i .i64 x.us.length),(9,.i .i64 k)],hp:=fun k=>[],me:=fun k=>x.us.length-k }
 |_=>none
theorem fd_y {x:FdX} {k:Nat} (h:noF x k) (hk:(k:Int)<x.us.length) (h1:(x.us.getD (0+(k:Int).toNat) default).id=x.id):(k:Int)=fndU x.us x.id:=by
 rw[nat0]at h1
 exact(fnd_some (by omega) h1 h.2).symm
theorem fd_n {x:FdX} {k:Nat} (h:noF x k) (hk:(k:Int)<x.us.length) (h1:¬ (x.us.getD (0+(k:Int).toNat) default).id=x.id):noF x (k+1):=by
 rw[nat0]at h1
 refine⟨by omega,fun j hj=>?_⟩
 rcases Nat.lt_or_ge j k with q|q
 ·exact h.2 j q
 ·rw[show j=k by omega];exact h1
theorem fd_t {x:FdX} {k:Nat} (h:noF x k) (hk:¬ (k:Int)<x.us.length): -1=fndU x.us x.id:=(fnd_none fun j hj=>h.2 j (by omega)).symm
set_option maxRecDepth 100000 in
theorem fd_keeps:Keeps cfg0 Tryd.f24 fdC fdI:=Eq.mp (show((∀ x1:FdX,((x1.us.length<=(1000:Nat))->(∃ x3:Nat,(((noF x1 x3)/\((x1.id=x1.id/\((0=0/\x1.us.length=x1.us.length)/\(((x1.us.length:Int)=(x1.us.length:Int))/\((0=(x3:Int))/\((0=0/\x1.us.length=x1.us.length)/\True)))))/\(((RLe x1.us.length x1.us.length)/\(RowsEq [.int .i64,.int .i64,.int .i64,.int .i64,.int .i64,.int .i64,.int .i64,.int .i64,.int .i64,.int .i64] x1.us.length (encL encU x1.us) (encL encU x1.us)))/\True)))/\(∀ x4:Nat,((noF x1 x4)->(((decide ((x4:Int)<(x1.us.length:Int))=true)->((((0:Int)<=(x4:Int))/\((x4:Int)<(x1.us.length:Int)))/\((0+Int.toNat (x4:Int)<x1.us.length)/\(((decide ((x1.us.getD (0+Int.toNat (x4:Int)) default).id=x1.id)=true)->(((x4:Int)=fndU x1.us x1.id)/\True))/\((decide ((x1.us.getD (0+Int.toNat (x4:Int)) default).id=x1.id)=false)->((((-9223372036854775808:Int)<=(x4:Int)+1)/\((x4:Int)+1<=(9223372036854775807:Int)))/\(∃ x9:Nat,((x1.us.length-x9<x1.us.length-x4)/\((noF x1 x9)/\((x1.id=x1.id/\((0=0/\x1.us.length=x1.us.length)/\(((x1.us.length:Int)=(x1.us.length:Int))/\(((x4:Int)+1=(x9:Int))/\((0=0/\x1.us.length=x1.us.length)/\True)))))/\(((RLe x1.us.length x1.us.length)/\(RowsEq [.int .i64,.int .i64,.int .i64,.int .i64,.int .i64,.int .i64,.int .i64,.int .i64,.int .i64,.int .i64] x1.us.length (encL encU x1.us) (encL encU x1.us)))/\True)))))))))))/\((decide ((x4:Int)<(x1.us.length:Int))=false)->(((-1:Int)=fndU x1.us x1.id)/\True))))))))))=(Keeps cfg0 Tryd.f24 fdC fdI) by kernel_rfl) (fun x1=>fun h2=>⟨((0:Nat)),
⟨(by(try dsimp only at *);exact⟨Nat.zero_le _,fun j hj=>absurd hj (Nat.not_lt_zero _)⟩),
⟨rfl,
⟨rfl,rfl⟩,rfl,
(by(try dsimp only at *);omega),
⟨rfl,rfl⟩,trivial⟩,
⟨rl,rr⟩,trivial⟩,
fun x4=>fun h5=>⟨fun g6=>have h6:=dT g6;⟨⟨(by(try dsimp only at *);omega),
(by(try dsimp only at *);omega)⟩,
(by(try dsimp only at *);omega),
fun g7=>have h7:=dT g7;⟨(by(try dsimp only at *);exact fd_y h5 h6 h7),trivial⟩,
fun g8=>have h8:=dF g8;⟨⟨(by(try dsimp only at *);omega),
(by(try dsimp only at *);omega)⟩,
(x4+(1:Nat)),
(by(try dsimp only at *);omega),
(by(try dsimp only at *);exact fd_n h5 h6 h8),
⟨rfl,
⟨rfl,rfl⟩,rfl,
(by(try dsimp only at *);omega),
⟨rfl,rfl⟩,trivial⟩,
⟨rl,rr⟩,trivial⟩⟩,
fun g10=>have h10:=dF g10;⟨(by(try dsimp only at *);exact fd_t h5 h10),trivial⟩⟩⟩)
theorem fd_good:Good Tryd.prog 24 fdC/\FnOk Tryd.prog 24:=good_of tok con0 (fn:=Tryd.f24) rfl (by decide+kernel) (fun _=>rfl) fd_keeps
def twC:CT where
 X:=List Un
 pre:=fun us=>us.length<=1000
 args:=fun us=>[.sl 100000 0 us.length]
 g0:=fun us=>[(100000,.rows .bor kU us.length (encL encU us))]
 res:=fun us=>.b (!dstU us)
 g1:=fun _=>[]
def twP (us:List Un) (k:Nat):Prop:=k<=us.length/\∀ j,j<k->fndU us (us.getD j default).id=(j:Int)
def twI (us:List Un) (id:Nat):Option Inv:=match id with
 |0=>some { X:=Nat,ok:=twP us,fr:=fun k=>[(0,.sl 100000 0 us.length),(5,.sl 100000 0 us.length),(6,.i .i64 us.length),(7,.i .i64 k)],hp:=fun k=>[],me:=fun k=>us.length-k }
 |_=>none
def cfgTw:Cfg:=⟨T,[],[(24,.one fdC)],noInv,30,{ kn:=true }⟩
theorem conTw:ConOk Tryd.prog cfgTw:=ConL.ok (.cons (ConL.one fd_good) .nil)
theorem g_at {us:List Un} {j:Nat} (hj:j<us.length):us.getD j default=us[j]:=by rw[List.getD_eq_getElem?_getD,List.getElem?_eq_getElem hj];rfl
theorem tw_y {us:List Un} {k:Nat} (hk:(k:Int)<us.length) (h1:fndU us (us.getD (0+(k:Int).toNat) default).id≠(k:Int)):true= !dstU us:=by
 rw[nat0]at h1
 have hk':k<us.length:=by omega
 have:dstU us=false:=by
  refine decide_eq_false fun hn=>h1 (fnd_some hk' rfl fun j hj q=>?_)
  have hp:=List.pairwise_iff_getElem.1 hn j k (by simp;omega) (by simpa using hk') hj
  simp only[List.getElem_map]at hp
  rw[g_at (by omega),g_at hk']at q
  exact hp q
 rw[this];rfl
theorem tw_s {us:List Un} {k:Nat} (h:twP us k) (hk:(k:Int)<us.length) (h1:¬ fndU us (us.getD (0+(k:Int).toNat) default).id≠(k:Int)):twP us (k+1):=by
 rw[nat0]at h1
 refine⟨by omega,fun j hj=>?_⟩
 rcases Nat.lt_or_ge j k with q|q
 ·exact h.2 j q
 ·rw[show j=k by omega];exact Decidable.not_not.1 h1
theorem tw_t {us:List Un} {k:Nat} (h:twP us k) (hk:¬ (k:Int)<us.length):false= !dstU us:=by
 have:dstU us=true:=by
  refine decide_eq_true (List.pairwise_iff_getElem.2 fun i j hi hj hij=>?_)
  simp only[List.length_map]at hi hj
  simp only[List.getElem_map]
  intro q
  have h1:=h.2 i (by omega)
  have h2:=h.2 j (by omega)
  rw[g_at hi]at h1
  rw[g_at hj,<- q,h1]at h2
  omega
 rw[this];rfl
set_option maxRecDepth 100000 in
theorem tw_keeps:Keeps cfgTw Tryd.f23 twC twI:=Eq.mp (show((∀ x1:List Un,((x1.length<=(1000:Nat))->(∃ x3:Nat,(((twP x1 x3)/\(((0=0/\x1.length=x1.length)/\((0=0/\x1.length=x1.length)/\(((x1.length:Int)=(x1.length:Int))/\((0=(x3:Int))/\True))))/\(((RLe x1.length x1.length)/\(RowsEq [.int .i64,.int .i64,.int .i64,.int .i64,.int .i64,.int .i64,.int .i64,.int .i64,.int .i64,.int .i64] x1.length (encL encU x1) (encL encU x1)))/\True)))/\(∀ x4:Nat,((twP x1 x4)->(((decide ((x4:Int)<(x1.length:Int))=true)->((((0:Int)<=(x4:Int))/\((x4:Int)<(x1.length:Int)))/\((0+Int.toNat (x4:Int)<x1.length)/\(∃ x7:FdX,((x7.us.length<=(1000:Nat))/\(((0=0/\x1.length=x7.us.length)/\(((x1.getD (0+Int.toNat (x4:Int)) default).id=x7.id)/\True))/\((((RLe x7.us.length x1.length)/\(RowsEq [.int .i64,.int .i64,.int .i64,.int .i64,.int .i64,.int .i64,.int .i64,.int .i64,.int .i64,.int .i64] x7.us.length (encL encU x1) (encL encU x7.us)))/\True)/\(((decide (fndU x7.us x7.id≠(x4:Int))=true)->((true= !dstU x1)/\True))/\((decide (fndU x7.us x7.id≠(x4:Int))=false)->((((-9223372036854775808:Int)<=(x4:Int)+1)/\((x4:Int)+1<=(9223372036854775807:Int)))/\(∃ x10:Nat,((x1.length-x10<x1.length-x4)/\((twP x1 x10)/\(((0=0/\x1.length=x1.length)/\((0=0/\x1.length=x1.length)/\(((x1.length:Int)=(x1.length:Int))/\(((x4:Int)+1=(x10:Int))/\True))))/\(((RLe x1.length x1.length)/\(RowsEq [.int .i64,.int .i64,.int .i64,.int .i64,.int .i64,.int .i64,.int .i64,.int .i64,.int .i64,.int .i64] x1.length (encL encU x1) (encL encU x1)))/\True)))))))))))))))/\((decide ((x4:Int)<(x1.length:Int))=false)->((false= !dstU x1)/\True))))))))))=(Keeps cfgTw Tryd.f23 twC twI) by kernel_rfl) (fun x1=>fun h2=>⟨((0:Nat)),
⟨(by(try dsimp only at *);exact⟨Nat.zero_le _,fun j hj=>absurd hj (Nat.not_lt_zero _)⟩),
⟨⟨rfl,rfl⟩,
⟨rfl,rfl⟩,rfl,
(by(try dsimp only at *);omega),trivial⟩,
⟨rl,rr⟩,trivial⟩,
fun x4=>fun h5=>⟨fun g6=>have h6:=dT g6;⟨⟨(by(try dsimp only at *);omega),
(by(try dsimp only at *);omega)⟩,
(by(try dsimp only at *);omega),
({ us:=x1,id:=Un.id (List.getD x1 ((0:Nat)+Int.toNat (↑x4:Int)) default):FdX }),
(by(try dsimp only at *);omega),
⟨⟨rfl,rfl⟩,rfl,trivial⟩,
⟨⟨rl,rr⟩,trivial⟩,
fun g8=>have h8:=dT g8;⟨(by(try dsimp only at *);exact tw_y h6 ‹_›),trivial⟩,
fun g9=>have h9:=dF g9;⟨⟨(by(try dsimp only at *);omega),
(by(try dsimp only at *);omega)⟩,
(x4+(1:Nat)),
(by(try dsimp only at *);omega),
(by(try dsimp only at *);exact tw_s h5 h6 ‹_›),
⟨⟨rfl,rfl⟩,
⟨rfl,rfl⟩,rfl,
(by(try dsimp only at *);omega),trivial⟩,
⟨rl,rr⟩,trivial⟩⟩,
fun g11=>have h11:=dF g11;⟨(by(try dsimp only at *);exact tw_t h5 ‹_›),trivial⟩⟩⟩)
theorem tw_good:Good Tryd.prog 23 twC/\FnOk Tryd.prog 23:=good_of tok conTw (fn:=Tryd.f23) rfl (by decide+kernel) (fun _=>rfl) tw_keeps
def afI (x:IdX) (id:Nat):Option Inv:=match id with
 | 0 => some { X := Nat, ok := idOk x, fr := fun k => [(0, .sl 100000 0 x.us.length), (1, .sl 100001 0 x.l.length), (6, .sl 341 0 x.us.length), (15, .sl 100001 0 x.l.length), (16, .i .i64 x.l.length), (17, .i .i64 k)], hp := fun k => [(341, .rows .own kU x.us.length (encL encU (appA x.us x.l k)))], me := fun k => x.l.length - k,
               inn:=fun i id=>match id with
                |100070=>some (cutB 70 (decide (¬ okM x.us x.l i)))
                |_=>none }
 |_=>none
def cfgAf:Cfg:=⟨T,[],[(24,.one fdC),(23,.one twC)],noInv,90,{ kn:=true }⟩
theorem conAf:ConOk Tryd.prog cfgAf:=ConL.ok (.cons (ConL.one fd_good) (.cons (ConL.one tw_good) .nil))
theorem f_r {us:List Un} {l:List Mv} {k:Nat} (h:¬ fndU us (atM l k).1<0):fndU us (atM l k).1<us.length/\0+(fndU us (atM l k).1).toNat<us.length:=by
 have:=fnd_lt (us:=us) (i:=(atM l k).1) (by omega)
 omega
theorem m_no {us:List Un} {l:List Mv} {k:Nat} (h:¬ okM us l k):true=decide (¬ okM us l k):=(decide_eq_true h).symm
theorem m1 {us:List Un} {l:List Mv} {k:Nat} (h:fndU us (atM l k).1<0):true=decide (¬ okM us l k):=by
 rw[atM_e]at h
 exact m_no fun q=>absurd q.1 (by omega)
theorem m2 {us:List Un} {l:List Mv} {k:Nat} (h:(us.getD (0+(fndU us (atM l k).1).toNat) default).st≠1):true=decide (¬ okM us l k):=by
 rw[atM_e,Nat.zero_add]at h
 exact m_no fun q=>h q.2.1
theorem m3 {us:List Un} {l:List Mv} {k:Nat} (h:0<(k:Int)) (h1:(atM l k).1<=(l.getD (0+((k:Int)-1).toNat) default).1):true=decide (¬ okM us l k):=by
 rw[atM_e,subK]at h1
 exact m_no fun q=>absurd q.2.2.1 (by omega)
theorem m4 {us:List Un} {l:List Mv} {k:Nat} (h:(atM l k).2<0):true=decide (¬ okM us l k):=by
 rw[atM_e]at h
 exact m_no fun q=>absurd q.2.2.2.1 (by omega)
theorem m5 {us:List Un} {l:List Mv} {k:Nat} (h:4096<=(atM l k).2):true=decide (¬ okM us l k):=by
 rw[atM_e]at h
 exact m_no fun q=>absurd q.2.2.2.1 (by omega)
theorem c_l {us:List Un} {l:List Mv} {k:Nat} (h:¬ fndU us (atM l k).1<0) (h1:¬ (us.getD (0+(fndU us (atM l k).1).toNat) default).st≠1) (h2:¬ 0<(k:Int)∨¬ (atM l k).1<=(l.getD (0+((k:Int)-1).toNat) default).1) (h3:¬ (atM l k).2<0) (h4:¬ 4096<=(atM l k).2):
  decide ((atM l k).2=(us.getD (0+(fndU us (atM l k).1).toNat) default).nd)=decide (¬ okM us l k):=by
 rw[subK]at h2
 rw[Nat.zero_add]at h1 ⊢
 rw[atM_e]at*
 refine decide_eq_decide.2 ⟨fun q r=>r.2.2.2.2 q,fun q=>Decidable.byContradiction fun r=>q ⟨by omega,Decidable.not_not.1 h1,?_,by omega,r⟩⟩
 rcases h2 with h2|h2
 ·exact .inl (by omega)
 ·exact .inr (by omega)
theorem af_n {x:IdX} {k:Nat} (h:(k:Int)<x.l.length) (h1:¬ okM x.us x.l k):(appU x.us x.l).length=0/\1=appE2 x.us x.l:=by
 have:=ap_n (ms_f h h1)
 rw[this.1,this.2]
 exact⟨rfl,rfl⟩
theorem af_d {x:IdX} (h:(!dstU x.us)=true):(appU x.us x.l).length=0/\1=appE2 x.us x.l:=by
 have:=ap_n (ms_d h)
 rw[this.1,this.2]
 exact⟨rfl,rfl⟩
theorem d_y {us:List Un} (h:(!dstU us)=false):dstU us=true:=by simpa using h
theorem af_ok {x:IdX} {k:Nat} (h:idOk x k) (hk:(k:Int)<x.l.length) (h1:¬ ¬ okM x.us x.l k):idOk x (k+1):=by
 have:=okM_ab.1 (Decidable.not_not.1 h1)
 exact id_ok h hk (fun q=>q this.1) (fun q=>q this.2)
theorem af_r {x:IdX} {k:Nat} (h1:¬ ¬ okM x.us x.l k):0<=fndU x.us (atM x.l k).1/\fndU x.us (atM x.l k).1<x.us.length/\0+(fndU x.us (atM x.l k).1).toNat<x.us.length:=by
 have h0:=(Decidable.not_not.1 h1).1
 rw[<- atM_e]at h0
 have:=f_r (us:=x.us) (l:=x.l) (k:=k) (by omega)
 omega
theorem af_put {x:IdX} {k:Nat} (hk:(k:Int)<x.l.length) (h1:¬ ¬ okM x.us x.l k) {n:Nat}:RowsEq kU n (setRow (encL encU (appA x.us x.l k)) (0+(fndU x.us (atM x.l k).1).toNat) 4 [D.i (atM x.l k).2]) (encL encU (appA x.us x.l (k+1))):=by
 have hr:=af_r h1
 rw[atM_e]at hr ⊢
 rw[app_s (by omega),Nat.zero_add]
 exact rowsEq_set (by rw[app_len];omega) ⟨rfl,rfl,rfl,rfl,rfl,rfl,rfl,rfl,rfl,rfl,trivial⟩
set_option maxRecDepth 100000 in
theorem af_keeps:Keeps cfgAf Tryd.f11 apC afI:=Eq.mp (show((∀ x1:IdX,((x1.us.length<=(1000:Nat)/\x1.l.length<=(1000:Nat))->(True/\((0=0/\(((0:Nat)<=(0:Nat))/\(((0:Nat)+x1.us.length<=x1.us.length)/\((0:Nat)+x1.us.length<=(1073741824:Nat)))))/\(∃ x3:List Un,((x3.length<=(1000:Nat))/\(((0=0/\x1.us.length=x3.length)/\True)/\((((RLe x3.length x1.us.length)/\(RowsEq [.int .i64,.int .i64,.int .i64,.int .i64,.int .i64,.int .i64,.int .i64,.int .i64,.int .i64,.int .i64] x3.length (encL encU x1.us) (encL encU x3)))/\True)/\((((!dstU x3)=true)->(((True/\(0=0/\((appU x1.us x1.l).length=(0:Nat))))/\(((1:Int)=appE2 x1.us x1.l)/\True))/\(((appU x1.us x1.l).length=(0:Nat))/\True)))/\(((!dstU x3)=false)->(∃ x6:Nat,(((idOk x1 x6)/\(((0=0/\x1.us.length=x1.us.length)/\((0=0/\x1.l.length=x1.l.length)/\((0=0/\((0:Nat)+x1.us.length=x1.us.length))/\((0=0/\x1.l.length=x1.l.length)/\(((x1.l.length:Int)=(x1.l.length:Int))/\((0=(x6:Int))/\(false=false/\((0=0/\x1.us.length=x1.us.length)/\((0=0/\x1.us.length=x1.us.length)/\True)))))))))/\(((RLe x1.us.length ((0:Nat)+x1.us.length))/\(RowsEq [.int .i64,.int .i64,.int .i64,.int .i64,.int .i64,.int .i64,.int .i64,.int .i64,.int .i64,.int .i64] x1.us.length (appRows 0 (litRows (@List.nil (List D))) 0 (encL encU x1.us)) (encL encU (appA x1.us x1.l x6))))/\(((RLe x1.us.length x1.us.length)/\(RowsEq [.int .i64,.int .i64,.int .i64,.int .i64,.int .i64,.int .i64,.int .i64,.int .i64,.int .i64,.int .i64] x1.us.length (encL encU x1.us) (encL encU x1.us)))/\(((RLe x1.l.length x1.l.length)/\(RowsEq [.int .i64,.int .i64] x1.l.length (encL encM x1.l) (encL encM x1.l)))/\True)))))/\(∀ x7:Nat,((idOk x1 x7)->(((decide ((x7:Int)<(x1.l.length:Int))=true)->((((0:Int)<=(x7:Int))/\((x7:Int)<(x1.l.length:Int)))/\((0+Int.toNat (x7:Int)<x1.l.length)/\(∃ x10:FdX,((x10.us.length<=(1000:Nat))/\(((0=0/\x1.us.length=x10.us.length)/\((Prod.fst (x1.l.getD (0+Int.toNat (x7:Int)) default)=x10.id)/\True))/\((((RLe x10.us.length x1.us.length)/\(RowsEq [.int .i64,.int .i64,.int .i64,.int .i64,.int .i64,.int .i64,.int .i64,.int .i64,.int .i64,.int .i64] x10.us.length (encL encU x1.us) (encL encU x10.us)))/\True)/\((((decide (fndU x10.us x10.id<(0:Int))=false)->((((0:Int)<=fndU x10.us x10.id)/\(fndU x10.us x10.id<(x1.us.length:Int)))/\((0+Int.toNat (fndU x10.us x10.id)<x1.us.length)/\(((decide ((x1.us.getD (0+Int.toNat (fndU x10.us x10.id)) default).st≠(1:Int))=false)->(((decide (0<(x7:Int))=true)->((((-9223372036854775808:Int)<=(x7:Int)-1)/\((x7:Int)-1<=(9223372036854775807:Int)))/\((((0:Int)<=(x7:Int)-1)/\((x7:Int)-1<(x1.l.length:Int)))/\((0+Int.toNat ((x7:Int)-1)<x1.l.length)/\(((decide (Prod.fst (x1.l.getD (0+Int.toNat (x7:Int)) default)<=Prod.fst (x1.l.getD (0+Int.toNat ((x7:Int)-1)) default))=false)->(((decide (Prod.snd (x1.l.getD (0+Int.toNat (x7:Int)) default)<(0:Int))=false)->(((decide ((4096:Int)<=Prod.snd (x1.l.getD (0+Int.toNat (x7:Int)) default))=false)->((((0:Int)<=fndU x10.us x10.id)/\(fndU x10.us x10.id<(x1.us.length:Int)))/\((0+Int.toNat (fndU x10.us x10.id)<x1.us.length)/\(∃ x17:Unit,(True/\((decide (Prod.snd (x1.l.getD (0+Int.toNat (x7:Int)) default)=(x1.us.getD (0+Int.toNat (fndU x10.us x10.id)) default).nd)=decide ¬okM x1.us x1.l x7)/\True))))))/\((decide ((4096:Int)<=Prod.snd (x1.l.getD (0+Int.toNat (x7:Int)) default))=true)->(∃ x19:Unit,(True/\((true=decide ¬okM x1.us x1.l x7)/\True))))))/\((decide (Prod.snd (x1.l.getD (0+Int.toNat (x7:Int)) default)<(0:Int))=true)->(∃ x21:Unit,(True/\((true=decide ¬okM x1.us x1.l x7)/\True))))))/\((decide (Prod.fst (x1.l.getD (0+Int.toNat (x7:Int)) default)<=Prod.fst (x1.l.getD (0+Int.toNat ((x7:Int)-1)) default))=true)->(∃ x23:Unit,(True/\((true=decide ¬okM x1.us x1.l x7)/\True)))))))))/\((decide (0<(x7:Int))=false)->(((decide (Prod.snd (x1.l.getD (0+Int.toNat (x7:Int)) default)<(0:Int))=false)->(((decide ((4096:Int)<=Prod.snd (x1.l.getD (0+Int.toNat (x7:Int)) default))=false)->((((0:Int)<=fndU x10.us x10.id)/\(fndU x10.us x10.id<(x1.us.length:Int)))/\((0+Int.toNat (fndU x10.us x10.id)<x1.us.length)/\(∃ x27:Unit,(True/\((decide (Prod.snd (x1.l.getD (0+Int.toNat (x7:Int)) default)=(x1.us.getD (0+Int.toNat (fndU x10.us x10.id)) default).nd)=decide ¬okM x1.us x1.l x7)/\True))))))/\((decide ((4096:Int)<=Prod.snd (x1.l.getD (0+Int.toNat (x7:Int)) default))=true)->(∃ x29:Unit,(True/\((true=decide ¬okM x1.us x1.l x7)/\True))))))/\((decide (Prod.snd (x1.l.getD (0+Int.toNat (x7:Int)) default)<(0:Int))=true)->(∃ x31:Unit,(True/\((true=decide ¬okM x1.us x1.l x7)/\True))))))))/\((decide ((x1.us.getD (0+Int.toNat (fndU x10.us x10.id)) default).st≠(1:Int))=true)->(∃ x33:Unit,(True/\((true=decide ¬okM x1.us x1.l x7)/\True))))))))/\((decide (fndU x10.us x10.id<(0:Int))=true)->(∃ x35:Unit,(True/\((true=decide ¬okM x1.us x1.l x7)/\True)))))/\(∀ x36:Unit,(True->((((decide ¬okM x1.us x1.l x7)=true)->(((True/\(0=0/\((appU x1.us x1.l).length=(0:Nat))))/\(((1:Int)=appE2 x1.us x1.l)/\True))/\(((appU x1.us x1.l).length=(0:Nat))/\True)))/\(((decide ¬okM x1.us x1.l x7)=false)->((((0:Int)<=fndU x10.us x10.id)/\(fndU x10.us x10.id<(x1.us.length:Int)))/\(((0+Int.toNat (fndU x10.us x10.id)<x1.us.length)/\(True/\True))/\((((-9223372036854775808:Int)<=(x7:Int)+1)/\((x7:Int)+1<=(9223372036854775807:Int)))/\(∃ x40:Nat,((x1.l.length-x40<x1.l.length-x7)/\((idOk x1 x40)/\(((0=0/\x1.us.length=x1.us.length)/\((0=0/\x1.l.length=x1.l.length)/\((0=0/\x1.us.length=x1.us.length)/\((0=0/\x1.l.length=x1.l.length)/\(((x1.l.length:Int)=(x1.l.length:Int))/\(((x7:Int)+1=(x40:Int))/\(false=false/\((0=0/\x1.us.length=x1.us.length)/\((0=0/\x1.us.length=x1.us.length)/\True)))))))))/\(((RLe x1.us.length x1.us.length)/\(RowsEq [.int .i64,.int .i64,.int .i64,.int .i64,.int .i64,.int .i64,.int .i64,.int .i64,.int .i64,.int .i64] x1.us.length (setRow (encL encU (appA x1.us x1.l x7)) (0+Int.toNat (fndU x10.us x10.id)) 4 (D.i (Prod.snd (x1.l.getD (0+Int.toNat (x7:Int)) default))::@List.nil D)) (encL encU (appA x1.us x1.l x40))))/\(((RLe x1.us.length x1.us.length)/\(RowsEq [.int .i64,.int .i64,.int .i64,.int .i64,.int .i64,.int .i64,.int .i64,.int .i64,.int .i64,.int .i64] x1.us.length (encL encU x1.us) (encL encU x1.us)))/\(((RLe x1.l.length x1.l.length)/\(RowsEq [.int .i64,.int .i64] x1.l.length (encL encM x1.l) (encL encM x1.l)))/\True))))))))))))))))))))))/\((decide ((x7:Int)<(x1.l.length:Int))=false)->(((0=0/\(x1.us.length=(appU x1.us x1.l).length))/\(((0:Int)=appE2 x1.us x1.l)/\True))/\(((RLe (appU x1.us x1.l).length x1.us.length)/\(RowsEq [.int .i64,.int .i64,.int .i64,.int .i64,.int .i64,.int .i64,.int .i64,.int .i64,.int .i64,.int .i64] (appU x1.us x1.l).length (encL encU (appA x1.us x1.l x7)) (encL encU (appU x1.us x1.l))))/\True)))))))))))))))))))=(Keeps cfgAf Tryd.f11 apC afI) by kernel_rfl) (fun x1=>fun h2=>⟨trivial,
⟨rfl,
(by omega),
(by omega),
(by omega)⟩,
(IdX.us x1),
(by(try dsimp only at *);omega),
⟨⟨rfl,rfl⟩,trivial⟩,
⟨⟨rl,rr⟩,trivial⟩,
fun h4=>⟨⟨⟨trivial,rfl,
(by(try dsimp only at *);exact(af_d h4).1)⟩,
(by(try dsimp only at *);exact(af_d h4).2),trivial⟩,
(by(try dsimp only at *);exact(af_d h4).1),trivial⟩,
fun h5=>⟨((0:Nat)),
⟨(by(try dsimp only at *);exact⟨Nat.zero_le _,d_y h5,fun j hj=>absurd hj (Nat.not_lt_zero _)⟩),
⟨⟨rfl,rfl⟩,
⟨rfl,rfl⟩,
⟨rfl,
(by(try dsimp only at *);omega)⟩,
⟨rfl,rfl⟩,rfl,
(by(try dsimp only at *);omega),rfl,
⟨rfl,rfl⟩,
⟨rfl,rfl⟩,trivial⟩,
⟨⟨(by(try dsimp only at *);omega)⟩,
(by(try dsimp only at *);exact app0)⟩,
⟨rl,rr⟩,
⟨rl,rr⟩,trivial⟩,
fun x7=>fun h8=>⟨fun g9=>have h9:=dT g9;⟨⟨(by(try dsimp only at *);omega),
(by(try dsimp only at *);omega)⟩,
(by(try dsimp only at *);omega),
({ us:=IdX.us x1,id:=Prod.fst (List.getD (IdX.l x1) ((0:Nat)+Int.toNat (↑x7:Int)) default):FdX }),
(by(try dsimp only at *);omega),
⟨⟨rfl,rfl⟩,rfl,trivial⟩,
⟨⟨rl,rr⟩,trivial⟩,
⟨fun g11=>have h11:=dF g11;⟨⟨(by(try dsimp only at *);omega),
(by(try dsimp only at *);exact(f_r h11).1)⟩,
(by(try dsimp only at *);exact(f_r h11).2),
fun g12=>have h12:=dF g12;⟨fun g13=>have h13:=dT g13;⟨⟨(by(try dsimp only at *);omega),
(by(try dsimp only at *);omega)⟩,
⟨(by(try dsimp only at *);omega),
(by(try dsimp only at *);omega)⟩,
(by(try dsimp only at *);omega),
fun g14=>have h14:=dF g14;⟨fun g15=>have h15:=dF g15;⟨fun g16=>have h16:=dF g16;⟨⟨(by(try dsimp only at *);omega),
(by(try dsimp only at *);exact(f_r h11).1)⟩,
(by(try dsimp only at *);exact(f_r h11).2),
(default),trivial,
(by(try dsimp only at *);exact c_l h11 h12 (.inr h14) h15 h16),trivial⟩,
fun g18=>have h18:=dT g18;⟨(default),trivial,
(by(try dsimp only at *);exact m5 h18),trivial⟩⟩,
fun g20=>have h20:=dT g20;⟨(default),trivial,
(by(try dsimp only at *);exact m4 h20),trivial⟩⟩,
fun g22=>have h22:=dT g22;⟨(default),trivial,
(by(try dsimp only at *);exact m3 h13 h22),trivial⟩⟩,
fun g24=>have h24:=dF g24;⟨fun g25=>have h25:=dF g25;⟨fun g26=>have h26:=dF g26;⟨⟨(by(try dsimp only at *);omega),
(by(try dsimp only at *);exact(f_r h11).1)⟩,
(by(try dsimp only at *);exact(f_r h11).2),
(default),trivial,
(by(try dsimp only at *);exact c_l h11 h12 (.inl h24) h25 h26),trivial⟩,
fun g28=>have h28:=dT g28;⟨(default),trivial,
(by(try dsimp only at *);exact m5 h28),trivial⟩⟩,
fun g30=>have h30:=dT g30;⟨(default),trivial,
(by(try dsimp only at *);exact m4 h30),trivial⟩⟩⟩,
fun g32=>have h32:=dT g32;⟨(default),trivial,
(by(try dsimp only at *);exact m2 h32),trivial⟩⟩,
fun g34=>have h34:=dT g34;⟨(default),trivial,
(by(try dsimp only at *);exact m1 h34),trivial⟩⟩,
fun x36=>fun h37=>⟨fun g38=>have h38:=dT g38;⟨⟨⟨trivial,rfl,
(by(try dsimp only at *);exact(af_n h9 h38).1)⟩,
(by(try dsimp only at *);exact(af_n h9 h38).2),trivial⟩,
(by(try dsimp only at *);exact(af_n h9 h38).1),trivial⟩,
fun g39=>have h39:=dF g39;⟨⟨(by(try dsimp only at *);exact(af_r h39).1),
(by(try dsimp only at *);exact(af_r h39).2.1)⟩,
⟨(by(try dsimp only at *);exact(af_r h39).2.2),trivial,trivial⟩,
⟨(by(try dsimp only at *);omega),
(by(try dsimp only at *);omega)⟩,
(x7+(1:Nat)),
(by(try dsimp only at *);omega),
(by(try dsimp only at *);exact af_ok h8 h9 h39),
⟨⟨rfl,rfl⟩,
⟨rfl,rfl⟩,
⟨rfl,rfl⟩,
⟨rfl,rfl⟩,rfl,
(by(try dsimp only at *);omega),rfl,
⟨rfl,rfl⟩,
⟨rfl,rfl⟩,trivial⟩,
⟨rl,
(by(try dsimp only at *);exact af_put h9 h39)⟩,
⟨rl,rr⟩,
⟨rl,rr⟩,trivial⟩⟩⟩,
fun g41=>have h41:=dF g41;⟨⟨⟨rfl,
(by(try dsimp only at *);exact ap_tl (ms_t h8 h41))⟩,
(by(try dsimp only at *);exact(ap_y (ms_t h8 h41)).2.symm),trivial⟩,
⟨⟨(by(try dsimp only at *);exact Nat.le_of_eq (ap_tl (ms_t h8 h41)).symm)⟩,
(by(try dsimp only at *);(rw[ap_t (ms_t h8 h41) h41 h8.1];exact rr))⟩,trivial⟩⟩⟩⟩)
theorem af_good:Good Tryd.prog 11 apC/\FnOk Tryd.prog 11:=good_of tok conAf (fn:=Tryd.f11) rfl (by decide+kernel) (fun _=>rfl) af_keeps
end Go.Sym