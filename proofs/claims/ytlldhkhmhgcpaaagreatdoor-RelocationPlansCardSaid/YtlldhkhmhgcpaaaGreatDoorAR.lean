import Derived.Test.YtlldhkhmhgcpaaaGreatDoorAP
import Derived.Test.YtlldhkhmhgcpaaaGreatDoorXD
import Derived.Test.YtlldhkhmhgcpaaaGreatDoorR5
import Derived.Test.YtlldhkhmhgcpaaaGreatDoorR2
import Derived.Test.YtlldhkhmhgcpaaaGreatDoorSH
import Derived.Test.YtlldhkhmhgcpaaaGreatDoorK1
namespace Go.Sym
set_option linter.unusedVariables false
set_option linter.unusedSimpArgs false
open Go.Proofs Go.RowKit
set_option maxRecDepth 100000
set_option maxHeartbeats 8000000
structure FdX where
 us:List Un
 id:Int
def fdC:CT where
 X:=FdX
 pre:=fun x=>x.us.length<=1000
 args:=fun x=>[.sl 100000 0 x.us.length,.i .i64 x.id]
 g0:=fun x=>[(100000,.rows .bor kU x.us.length (encL encU x.us))]
 res:=fun x=>.i .i64 (fndU x.us x.id)
 g1:=fun _=>[]
def noF (x:FdX) (k:Nat):Prop:=k<=x.us.length/\∀ j,j<k->(x.us.getD j default).id≠x.id
def fdI (x:FdX) (id:Nat):Option Inv:=match id with
 |0=>some { X:=Nat,ok:=noF x,fr:=fun k=>[(1,.i .i64 x.id),(7,.sl 100000 0 x.us.length),(8,.i .i64 x.us.length),(9,.i .i64 k)],hp:=fun k=>[],me:=fun k=>x.us.length-k }
 |_=>none
theorem fd_y {x:FdX} {k:Nat} (h:noF x k) (hk:(k:Int)<x.us.length) (h1:(x.us.getD (0+(k:Int).toNat) default).id=x.id):(k:Int)=fndU x.us x.id:=by
 rw[nat0]at h1
 exact(fnd_some (by omega) h1 h.2).symm
theorem fd_n {x:FdX} {k:Nat} (h:noF x k) (hk:(k:Int)<x.us.length) (h1:¬ (x.us.getD (0+(k:Int).toNat) default).id=x.id):noF x (k+1):=by
 rw[nat0]at h1
 refine⟨by omega,fun j hj=>?_⟩
 rcases Nat.lt_or_ge j k with q|q
 ·exact h.2 j q
 ·rw[show j=k by omega];exact h1
theorem fd_t {x:FdX} {k:Nat} (h:noF x k) (hk:¬ (k:Int)<x.us.length): -1=fndU x.us x.id:=(fnd_none fun j hj=>h.2 j (by omega)).symm
abbrev q64F0 (x1:FdX):Prop:=(0=0/\x1.us.length=x1.us.length)
theorem q64f0 {x1:FdX}:q64F0 x1:=⟨rfl,rfl⟩
abbrev q64F1 (x1:FdX):Prop:=((q64F0 x1)/\True)
theorem q64f1 {x1:FdX}:q64F1 x1:=⟨q64f0,trivial⟩
abbrev q64F2 (x1:FdX):Prop:=(((RLe x1.us.length x1.us.length)/\(RowsEq kU x1.us.length (encL encU x1.us) (encL encU x1.us)))/\True)
theorem q64f2 {x1:FdX}:q64F2 x1:=⟨⟨rl,rr⟩,trivial⟩
set_option maxRecDepth 100000 in
theorem fd_keeps:Keeps cfg0 Tryz.f62 fdC fdI:=Eq.mp (show(∀ x1:FdX,((x1.us.length<=(1000:Nat))->(∃ x3:Nat,(((noF x1 x3)/\((x1.id=x1.id/\((q64F0 x1)/\(((x1.us.length:Int)=(x1.us.length:Int))/\((0=(x3:Int))/\(q64F1 x1)))))/\(q64F2 x1)))/\(∀ x4:Nat,((noF x1 x4)->(CB (decide ((x4:Int)<(x1.us.length:Int))) ((Ix (x4:Int) (x1.us.length:Int))/\((0+Int.toNat (x4:Int)<x1.us.length)/\(CB (decide ((x1.us.getD (0+Int.toNat (x4:Int)) default).id=x1.id)) (((x4:Int)=fndU x1.us x1.id)/\True) ((R6 ((x4:Int)+1))/\(∃ x9:Nat,((x1.us.length-x9<x1.us.length-x4)/\((noF x1 x9)/\((x1.id=x1.id/\((q64F0 x1)/\(((x1.us.length:Int)=(x1.us.length:Int))/\(((x4:Int)+1=(x9:Int))/\(q64F1 x1)))))/\(q64F2 x1))))))))) (((-1:Int)=fndU x1.us x1.id)/\True))))))))=(Keeps cfg0 Tryz.f62 fdC fdI) by kernel_rfl) (fun x1=>fun h2=>⟨((0:Nat)),⟨(⟨Nat.zero_le _,fun j hj=>absurd hj (Nat.not_lt_zero _)⟩),⟨rfl,q64f0,rfl,(by omega),q64f1⟩,q64f2⟩,fun x4=>fun h5=>⟨fun g6=>have h6:=dT g6;⟨⟨(by omega),(by omega)⟩,(by omega),fun g7=>have h7:=dT g7;⟨(fd_y h5 h6 h7),trivial⟩,fun g8=>have h8:=dF g8;⟨⟨(by omega),(by omega)⟩,(x4+(1:Nat)),(by omega),(fd_n h5 h6 h8),⟨rfl,q64f0,rfl,(by omega),q64f1⟩,q64f2⟩⟩,fun g10=>have h10:=dF g10;⟨(fd_t h5 h10),trivial⟩⟩⟩)
theorem fd_good:Good Tryz.prog 62 fdC/\FnOk Tryz.prog 62:=good_of tok con0 (fn:=Tryz.f62) rfl (by decide+kernel) (fun _=>rfl) fd_keeps
def twC:CT where
 X:=List Un
 pre:=fun us=>us.length<=1000
 args:=fun us=>[.sl 100000 0 us.length]
 g0:=fun us=>[(100000,.rows .bor kU us.length (encL encU us))]
 res:=fun us=>.b (!dstU us)
 g1:=fun _=>[]
def twP (us:List Un) (k:Nat):Prop:=k<=us.length/\∀ j,j<k->fndU us (us.getD j default).id=(j:Int)
def twI (us:List Un) (id:Nat):Option Inv:=match id with
 |0=>some { X:=Nat,ok:=twP us,fr:=fun k=>[(0,.sl 100000 0 us.length),(5,.sl 100000 0 us.length),(6,.i .i64 us.length),(7,.i .i64 k)],hp:=fun k=>[],me:=fun k=>us.length-k }
 |_=>none
def cfgTw:Cfg:=⟨T,[],[(62,.one fdC)],noInv,30,{ kn:=true }⟩
theorem conTw:ConOk Tryz.prog cfgTw:=ConL.ok (.cons (ConL.one fd_good) .nil)
theorem g_at {us:List Un} {j:Nat} (hj:j<us.length):us.getD j default=us[j]:=by rw[List.getD_eq_getElem?_getD,List.getElem?_eq_getElem hj];rfl
theorem tw_y {us:List Un} {k:Nat} (hk:(k:Int)<us.length) (h1:fndU us (us.getD (0+(k:Int).toNat) default).id≠(k:Int)):true= !dstU us:=by
 rw[nat0]at h1
 have hk':k<us.length:=by omega
 have:dstU us=false:=by
  refine decide_eq_false fun hn=>h1 (fnd_some hk' rfl fun j hj q=>?_)
  have hp:=List.pairwise_iff_getElem.1 hn j k (by simp;omega) (by simpa using hk') hj
  simp only[List.getElem_map]at hp
  rw[g_at (by omega),g_at hk']at q
  exact hp q
 rw[this];rfl
theorem tw_s {us:List Un} {k:Nat} (h:twP us k) (hk:(k:Int)<us.length) (h1:¬ fndU us (us.getD (0+(k:Int).toNat) default).id≠(k:Int)):twP us (k+1):=by
 rw[nat0]at h1
 refine⟨by omega,fun j hj=>?_⟩
 rcases Nat.lt_or_ge j k with q|q
 ·exact h.2 j q
 ·rw[show j=k by omega];exact Decidable.not_not.1 h1
theorem tw_t {us:List Un} {k:Nat} (h:twP us k) (hk:¬ (k:Int)<us.length):false= !dstU us:=by
 have:dstU us=true:=by
  refine decide_eq_true (List.pairwise_iff_getElem.2 fun i j hi hj hij=>?_)
  simp only[List.length_map]at hi hj
  simp only[List.getElem_map]
  intro q
  have h1:=h.2 i (by omega)
  have h2:=h.2 j (by omega)
  rw[g_at hi]at h1
  rw[g_at hj,<- q,h1]at h2
  omega
 rw[this];rfl
abbrev q65F0 (x1:List Un):Prop:=(((RLe x1.length x1.length)/\(RowsEq kU x1.length (encL encU x1) (encL encU x1)))/\True)
theorem q65f0 {x1:List Un}:q65F0 x1:=⟨⟨rl,rr⟩,trivial⟩
set_option maxRecDepth 100000 in
theorem tw_keeps:Keeps cfgTw Tryz.f34 twC twI:=Eq.mp (show(∀ x1:List Un,((x1.length<=(1000:Nat))->(∃ x3:Nat,(((twP x1 x3)/\(((0=0/\x1.length=x1.length)/\((0=0/\x1.length=x1.length)/\(((x1.length:Int)=(x1.length:Int))/\((0=(x3:Int))/\True))))/\(q65F0 x1)))/\(∀ x4:Nat,((twP x1 x4)->(CB (decide ((x4:Int)<(x1.length:Int))) ((Ix (x4:Int) (x1.length:Int))/\((0+Int.toNat (x4:Int)<x1.length)/\(∃ x7:FdX,((x7.us.length<=(1000:Nat))/\(((0=0/\x1.length=x7.us.length)/\(((x1.getD (0+Int.toNat (x4:Int)) default).id=x7.id)/\True))/\(((RW kU x7.us.length x1.length (encL encU x1) (encL encU x7.us))/\True)/\(CB (decide (fndU x7.us x7.id≠(x4:Int))) ((true= !dstU x1)/\True) ((R6 ((x4:Int)+1))/\(∃ x10:Nat,((x1.length-x10<x1.length-x4)/\((twP x1 x10)/\(((0=0/\x1.length=x1.length)/\((0=0/\x1.length=x1.length)/\(((x1.length:Int)=(x1.length:Int))/\(((x4:Int)+1=(x10:Int))/\True))))/\(q65F0 x1))))))))))))) ((false= !dstU x1)/\True))))))))=(Keeps cfgTw Tryz.f34 twC twI) by kernel_rfl) (fun x1=>fun h2=>⟨((0:Nat)),⟨(⟨Nat.zero_le _,fun j hj=>absurd hj (Nat.not_lt_zero _)⟩),⟨⟨rfl,rfl⟩,⟨rfl,rfl⟩,rfl,(by omega),trivial⟩,q65f0⟩,fun x4=>fun h5=>⟨fun g6=>have h6:=dT g6;⟨⟨(by omega),(by omega)⟩,(by omega),({ us:=x1,id:=Un.id (List.getD x1 ((0:Nat)+Int.toNat (↑x4:Int)) default):FdX }),(by omega),⟨⟨rfl,rfl⟩,rfl,trivial⟩,⟨⟨rl,rr⟩,trivial⟩,fun g8=>have h8:=dT g8;⟨(by exact tw_y h6 ‹_›),trivial⟩,fun g9=>have h9:=dF g9;⟨⟨(by omega),(by omega)⟩,(x4+(1:Nat)),(by omega),(by exact tw_s h5 h6 ‹_›),⟨⟨rfl,rfl⟩,⟨rfl,rfl⟩,rfl,(by omega),trivial⟩,q65f0⟩⟩,fun g11=>have h11:=dF g11;⟨(by exact tw_t h5 ‹_›),trivial⟩⟩⟩)
theorem tw_good:Good Tryz.prog 34 twC/\FnOk Tryz.prog 34:=good_of tok conTw (fn:=Tryz.f34) rfl (by decide+kernel) (fun _=>rfl) tw_keeps
def afI (x:IdX) (id:Nat):Option Inv:=match id with
 | 0 => some { X := Nat, ok := idOk x, fr := fun k => [(0, .sl 100000 0 x.us.length), (1, .sl 100001 0 x.l.length), (6, .sl 341 0 x.us.length), (15, .sl 100001 0 x.l.length), (16, .i .i64 x.l.length), (17, .i .i64 k)], hp := fun k => [(341, .rows .own kU x.us.length (encL encU (appA x.us x.l k)))], me := fun k => x.l.length - k,
               inn:=fun i id=>match id with
                |100070=>some (cutB 70 (decide (¬ okM x.us x.l i)))
                |_=>none }
 |_=>none
def cfgAf:Cfg:=⟨T,[],[(62,.one fdC),(34,.one twC)],noInv,90,{ kn:=true }⟩
theorem conAf:ConOk Tryz.prog cfgAf:=ConL.ok (.cons (ConL.one fd_good) (.cons (ConL.one tw_good) .nil))
theorem f_r {us:List Un} {l:List Mv} {k:Nat} (h:¬ fndU us (atM l k).1<0):fndU us (atM l k).1<us.length/\0+(fndU us (atM l k).1).toNat<us.length:=by
 have:=fnd_lt (us:=us) (i:=(atM l k).1) (by omega)
 omega
theorem m_no {us:List Un} {l:List Mv} {k:Nat} (h:¬ okM us l k):true=decide (¬ okM us l k):=(decide_eq_true h).symm
theorem m1 {us:List Un} {l:List Mv} {k:Nat} (h:fndU us (atM l k).1<0):true=decide (¬ okM us l k):=by
 rw[atM_e]at h
 exact m_no fun q=>absurd q.1 (by omega)
theorem m2 {us:List Un} {l:List Mv} {k:Nat} (h:(us.getD (0+(fndU us (atM l k).1).toNat) default).st≠1):true=decide (¬ okM us l k):=by
 rw[atM_e,Nat.zero_add]at h
 exact m_no fun q=>h q.2.1
theorem m3 {us:List Un} {l:List Mv} {k:Nat} (h:0<(k:Int)) (h1:(atM l k).1<=(l.getD (0+((k:Int)-1).toNat) default).1):true=decide (¬ okM us l k):=by
 rw[atM_e,subK]at h1
 exact m_no fun q=>absurd q.2.2.1 (by omega)
theorem m4 {us:List Un} {l:List Mv} {k:Nat} (h:(atM l k).2<0):true=decide (¬ okM us l k):=by
 rw[atM_e]at h
 exact m_no fun q=>absurd q.2.2.2.1 (by omega)
theorem m5 {us:List Un} {l:List Mv} {k:Nat} (h:4096<=(atM l k).2):true=decide (¬ okM us l k):=by
 rw[atM_e]at h
 exact m_no fun q=>absurd q.2.2.2.1 (by omega)
theorem c_l {us:List Un} {l:List Mv} {k:Nat} (h:¬ fndU us (atM l k).1<0) (h1:¬ (us.getD (0+(fndU us (atM l k).1).toNat) default).st≠1) (h2:¬ 0<(k:Int)∨¬ (atM l k).1<=(l.getD (0+((k:Int)-1).toNat) default).1) (h3:¬ (atM l k).2<0) (h4:¬ 4096<=(atM l k).2):
  decide ((atM l k).2=(us.getD (0+(fndU us (atM l k).1).toNat) default).nd)=decide (¬ okM us l k):=by
 rw[subK]at h2
 rw[Nat.zero_add]at h1 ⊢
 rw[atM_e]at*
 refine decide_eq_decide.2 ⟨fun q r=>r.2.2.2.2 q,fun q=>Decidable.byContradiction fun r=>q ⟨by omega,Decidable.not_not.1 h1,?_,by omega,r⟩⟩
 rcases h2 with h2|h2
 ·exact .inl (by omega)
 ·exact .inr (by omega)
theorem af_n {x:IdX} {k:Nat} (h:(k:Int)<x.l.length) (h1:¬ okM x.us x.l k):(appU x.us x.l).length=0/\1=appE2 x.us x.l:=by
 have:=ap_n (ms_f h h1)
 rw[this.1,this.2]
 exact⟨rfl,rfl⟩
theorem af_d {x:IdX} (h:(!dstU x.us)=true):(appU x.us x.l).length=0/\1=appE2 x.us x.l:=by
 have:=ap_n (ms_d h)
 rw[this.1,this.2]
 exact⟨rfl,rfl⟩
theorem d_y {us:List Un} (h:(!dstU us)=false):dstU us=true:=by simpa using h
theorem af_ok {x:IdX} {k:Nat} (h:idOk x k) (hk:(k:Int)<x.l.length) (h1:¬ ¬ okM x.us x.l k):idOk x (k+1):=by
 have:=okM_ab.1 (Decidable.not_not.1 h1)
 exact id_ok h hk (fun q=>q this.1) (fun q=>q this.2)
theorem af_r {x:IdX} {k:Nat} (h1:¬ ¬ okM x.us x.l k):0<=fndU x.us (atM x.l k).1/\fndU x.us (atM x.l k).1<x.us.length/\0+(fndU x.us (atM x.l k).1).toNat<x.us.length:=by
 have h0:=(Decidable.not_not.1 h1).1
 rw[<- atM_e]at h0
 have:=f_r (us:=x.us) (l:=x.l) (k:=k) (by omega)
 omega
theorem af_put {x:IdX} {k:Nat} (hk:(k:Int)<x.l.length) (h1:¬ ¬ okM x.us x.l k) {n:Nat}:RowsEq kU n (setRow (encL encU (appA x.us x.l k)) (0+(fndU x.us (atM x.l k).1).toNat) 4 [D.i (atM x.l k).2]) (encL encU (appA x.us x.l (k+1))):=by
 have hr:=af_r h1
 rw[atM_e]at hr ⊢
 rw[app_s (by omega),Nat.zero_add]
 exact rowsEq_set (by rw[app_len];omega) ⟨rfl,rfl,rfl,rfl,rfl,rfl,rfl,rfl,rfl,rfl,trivial⟩
abbrev q66F0 (x1:IdX):Prop:=(0=0/\x1.us.length=x1.us.length)
theorem q66f0 {x1:IdX}:q66F0 x1:=⟨rfl,rfl⟩
abbrev q66F1 (x1:IdX):Prop:=(0=0/\x1.l.length=x1.l.length)
theorem q66f1 {x1:IdX}:q66F1 x1:=⟨rfl,rfl⟩
abbrev q66F2 (x1:IdX):Prop:=(false=false/\((q66F0 x1)/\((q66F0 x1)/\True)))
theorem q66f2 {x1:IdX}:q66F2 x1:=⟨rfl,q66f0,q66f0,trivial⟩
abbrev q66F3 (x1:IdX):Prop:=(((RLe x1.us.length x1.us.length)/\(RowsEq kU x1.us.length (encL encU x1.us) (encL encU x1.us)))/\(((RLe x1.l.length x1.l.length)/\(RowsEq [.int .i64,.int .i64] x1.l.length (encL encM x1.l) (encL encM x1.l)))/\True))
theorem q66f3 {x1:IdX}:q66F3 x1:=⟨⟨rl,rr⟩,⟨rl,rr⟩,trivial⟩
set_option maxRecDepth 100000 in
theorem af_keeps:Keeps cfgAf Tryz.f37 apC afI:=Eq.mp (show(∀ x1:IdX,(((x1.us.length<=(1000:Nat))/\(x1.l.length<=(1000:Nat)))->(True/\((0=0/\(((0:Nat)<=(0:Nat))/\(((0:Nat)+x1.us.length<=x1.us.length)/\((0:Nat)+x1.us.length<=(1073741824:Nat)))))/\(∃ x3:List Un,((x3.length<=(1000:Nat))/\(((0=0/\x1.us.length=x3.length)/\True)/\(((RW kU x3.length x1.us.length (encL encU x1.us) (encL encU x3))/\True)/\(CB (!dstU x3) (((True/\(0=0/\((appU x1.us x1.l).length=(0:Nat))))/\(((1:Int)=appE2 x1.us x1.l)/\True))/\(((appU x1.us x1.l).length=(0:Nat))/\True)) (∃ x6:Nat,(((idOk x1 x6)/\(((q66F0 x1)/\((q66F1 x1)/\((0=0/\((0:Nat)+x1.us.length=x1.us.length))/\((q66F1 x1)/\(((x1.l.length:Int)=(x1.l.length:Int))/\((0=(x6:Int))/\(q66F2 x1)))))))/\((RW kU x1.us.length ((0:Nat)+x1.us.length) (appRows 0 (litRows (@List.nil (List D))) 0 (encL encU x1.us)) (encL encU (appA x1.us x1.l x6)))/\(q66F3 x1))))/\(∀ x7:Nat,((idOk x1 x7)->(CB (decide ((x7:Int)<(x1.l.length:Int))) ((Ix (x7:Int) (x1.l.length:Int))/\((0+Int.toNat (x7:Int)<x1.l.length)/\(∃ x10:FdX,((x10.us.length<=(1000:Nat))/\(((0=0/\x1.us.length=x10.us.length)/\((Prod.fst (x1.l.getD (0+Int.toNat (x7:Int)) default)=x10.id)/\True))/\(((RW kU x10.us.length x1.us.length (encL encU x1.us) (encL encU x10.us))/\True)/\((CN (decide (fndU x10.us x10.id<(0:Int))) ((Ix (fndU x10.us x10.id) (x1.us.length:Int))/\((0+Int.toNat (fndU x10.us x10.id)<x1.us.length)/\(CN (decide ((x1.us.getD (0+Int.toNat (fndU x10.us x10.id)) default).st≠(1:Int))) (CB (decide (0<(x7:Int))) ((R6 ((x7:Int)-1))/\((Ix ((x7:Int)-1) (x1.l.length:Int))/\((0+Int.toNat ((x7:Int)-1)<x1.l.length)/\(CN (decide (Prod.fst (x1.l.getD (0+Int.toNat (x7:Int)) default)<=Prod.fst (x1.l.getD (0+Int.toNat ((x7:Int)-1)) default))) (CN (decide (Prod.snd (x1.l.getD (0+Int.toNat (x7:Int)) default)<(0:Int))) (CN (decide ((4096:Int)<=Prod.snd (x1.l.getD (0+Int.toNat (x7:Int)) default))) ((Ix (fndU x10.us x10.id) (x1.us.length:Int))/\((0+Int.toNat (fndU x10.us x10.id)<x1.us.length)/\(∃ x17:Unit,(True/\((decide (Prod.snd (x1.l.getD (0+Int.toNat (x7:Int)) default)=(x1.us.getD (0+Int.toNat (fndU x10.us x10.id)) default).nd)=decide ¬okM x1.us x1.l x7)/\True))))) (∃ x19:Unit,(True/\((true=decide ¬okM x1.us x1.l x7)/\True)))) (∃ x21:Unit,(True/\((true=decide ¬okM x1.us x1.l x7)/\True)))) (∃ x23:Unit,(True/\((true=decide ¬okM x1.us x1.l x7)/\True))))))) (CN (decide (Prod.snd (x1.l.getD (0+Int.toNat (x7:Int)) default)<(0:Int))) (CN (decide ((4096:Int)<=Prod.snd (x1.l.getD (0+Int.toNat (x7:Int)) default))) ((Ix (fndU x10.us x10.id) (x1.us.length:Int))/\((0+Int.toNat (fndU x10.us x10.id)<x1.us.length)/\(∃ x27:Unit,(True/\((decide (Prod.snd (x1.l.getD (0+Int.toNat (x7:Int)) default)=(x1.us.getD (0+Int.toNat (fndU x10.us x10.id)) default).nd)=decide ¬okM x1.us x1.l x7)/\True))))) (∃ x29:Unit,(True/\((true=decide ¬okM x1.us x1.l x7)/\True)))) (∃ x31:Unit,(True/\((true=decide ¬okM x1.us x1.l x7)/\True))))) (∃ x33:Unit,(True/\((true=decide ¬okM x1.us x1.l x7)/\True)))))) (∃ x35:Unit,(True/\((true=decide ¬okM x1.us x1.l x7)/\True))))/\(∀ x36:Unit,(True->(CB (decide ¬okM x1.us x1.l x7) (((True/\(0=0/\((appU x1.us x1.l).length=(0:Nat))))/\(((1:Int)=appE2 x1.us x1.l)/\True))/\(((appU x1.us x1.l).length=(0:Nat))/\True)) ((Ix (fndU x10.us x10.id) (x1.us.length:Int))/\(((0+Int.toNat (fndU x10.us x10.id)<x1.us.length)/\(True/\True))/\((R6 ((x7:Int)+1))/\(∃ x40:Nat,((x1.l.length-x40<x1.l.length-x7)/\((idOk x1 x40)/\(((q66F0 x1)/\((q66F1 x1)/\((q66F0 x1)/\((q66F1 x1)/\(((x1.l.length:Int)=(x1.l.length:Int))/\(((x7:Int)+1=(x40:Int))/\(q66F2 x1)))))))/\((RW kU x1.us.length x1.us.length (setRow (encL encU (appA x1.us x1.l x7)) (0+Int.toNat (fndU x10.us x10.id)) 4 (D.i (Prod.snd (x1.l.getD (0+Int.toNat (x7:Int)) default))::@List.nil D)) (encL encU (appA x1.us x1.l x40)))/\(q66F3 x1))))))))))))))))))) (((0=0/\(x1.us.length=(appU x1.us x1.l).length))/\(((0:Int)=appE2 x1.us x1.l)/\True))/\((RW kU (appU x1.us x1.l).length x1.us.length (encL encU (appA x1.us x1.l x7)) (encL encU (appU x1.us x1.l)))/\True))))))))))))))))=(Keeps cfgAf Tryz.f37 apC afI) by kernel_rfl) (fun x1=>fun h2=>⟨trivial,⟨rfl,(by omega),(by omega),(by omega)⟩,(IdX.us x1),(by omega),⟨⟨rfl,rfl⟩,trivial⟩,⟨⟨rl,rr⟩,trivial⟩,fun h4=>⟨⟨⟨trivial,rfl,((af_d h4).1)⟩,((af_d h4).2),trivial⟩,((af_d h4).1),trivial⟩,fun h5=>⟨((0:Nat)),⟨(⟨Nat.zero_le _,d_y h5,fun j hj=>absurd hj (Nat.not_lt_zero _)⟩),⟨q66f0,q66f1,⟨rfl,(by omega)⟩,q66f1,rfl,(by omega),q66f2⟩,⟨⟨(by omega)⟩,app0⟩,q66f3⟩,fun x7=>fun h8=>⟨fun g9=>have h9:=dT g9;⟨⟨(by omega),(by omega)⟩,(by omega),({ us:=IdX.us x1,id:=Prod.fst (List.getD (IdX.l x1) ((0:Nat)+Int.toNat (↑x7:Int)) default):FdX }),(by(try dsimp only at *);omega),⟨⟨rfl,rfl⟩,rfl,trivial⟩,⟨⟨rl,rr⟩,trivial⟩,⟨fun g11=>have h11:=dF g11;⟨⟨(by omega),((f_r h11).1)⟩,((f_r h11).2),fun g12=>have h12:=dF g12;⟨fun g13=>have h13:=dT g13;⟨⟨(by omega),(by omega)⟩,⟨(by omega),(by omega)⟩,(by omega),fun g14=>have h14:=dF g14;⟨fun g15=>have h15:=dF g15;⟨fun g16=>have h16:=dF g16;⟨⟨(by omega),((f_r h11).1)⟩,((f_r h11).2),(default),trivial,(c_l h11 h12 (.inr h14) h15 h16),trivial⟩,fun g18=>have h18:=dT g18;⟨(default),trivial,(m5 h18),trivial⟩⟩,fun g20=>have h20:=dT g20;⟨(default),trivial,(m4 h20),trivial⟩⟩,fun g22=>have h22:=dT g22;⟨(default),trivial,(m3 h13 h22),trivial⟩⟩,fun g24=>have h24:=dF g24;⟨fun g25=>have h25:=dF g25;⟨fun g26=>have h26:=dF g26;⟨⟨(by omega),((f_r h11).1)⟩,((f_r h11).2),(default),trivial,(c_l h11 h12 (.inl h24) h25 h26),trivial⟩,fun g28=>have h28:=dT g28;⟨(default),trivial,(m5 h28),trivial⟩⟩,fun g30=>have h30:=dT g30;⟨(default),trivial,(m4 h30),trivial⟩⟩⟩,fun g32=>have h32:=dT g32;⟨(default),trivial,(m2 h32),trivial⟩⟩,fun g34=>have h34:=dT g34;⟨(default),trivial,(m1 h34),trivial⟩⟩,fun x36=>fun h37=>⟨fun g38=>have h38:=dT g38;⟨⟨⟨trivial,rfl,((af_n h9 h38).1)⟩,((af_n h9 h38).2),trivial⟩,((af_n h9 h38).1),trivial⟩,fun g39=>have h39:=dF g39;⟨⟨((af_r h39).1),((af_r h39).2.1)⟩,⟨((af_r h39).2.2),trivial,trivial⟩,⟨(by omega),(by omega)⟩,(x7+(1:Nat)),(by omega),(af_ok h8 h9 h39),⟨q66f0,q66f1,q66f0,q66f1,rfl,(by omega),q66f2⟩,⟨rl,(af_put h9 h39)⟩,q66f3⟩⟩⟩,fun g41=>have h41:=dF g41;⟨⟨⟨rfl,(ap_tl (ms_t h8 h41))⟩,((ap_y (ms_t h8 h41)).2.symm),trivial⟩,⟨⟨(Nat.le_of_eq (ap_tl (ms_t h8 h41)).symm)⟩,(by rw[ap_t (ms_t h8 h41) h41 h8.1];exact rr)⟩,trivial⟩⟩⟩⟩)
theorem af_good:Good Tryz.prog 37 apC/\FnOk Tryz.prog 37:=good_of tok conAf (fn:=Tryz.f37) rfl (by decide+kernel) (fun _=>rfl) af_keeps
end Go.Sym
namespace Go.Sym
set_option linter.unusedVariables false
theorem dist_mono {g:Gr} (hg:GOk g) (ts:List Int) {a b:List Int} (fwd:Bool) (h:∀ v,v<g.n->isSrc a v=true->isSrc b v=true) {v:Nat} (hv:v<g.n):(distG g ts b fwd).getD v default<=(distG g ts a fwd).getD v default:=by
 have hN:=netG_ok hg (wsOk_tt g ts) fwd
 have Ha:=distF_sol hN (isSrc a)
 have Hb:=distF_sol hN (isSrc b)
 exact Ha.least hN Hb.le (fun v hv hs=>by rw[Hb.src v hv (h v hv hs)];exact Int.le_refl _) Hb.clo v hv
end Go.Sym
namespace Go.Sym
set_option linter.unusedVariables false
theorem gmr {n v:Nat} {f:Nat->Int} (h:v<n):((List.range n).map f).getD v default=f v:=by
 simp[List.getD_eq_getElem?_getD,h]
def minD (F:Int->Int) (l:List Int):Int:=l.foldl (fun m p=>min m (F p)) INF
theorem minD_go (F:Int->Int):∀(l:List Int) (m:Int),l.foldl (fun m p=>min m (F p)) m<=m/\(∀ p∈l,l.foldl (fun m p=>min m (F p)) m<=F p)/\(l.foldl (fun m p=>min m (F p)) m=m∨∃ p∈l,l.foldl (fun m p=>min m (F p)) m=F p)
 | [],m=>⟨Int.le_refl _,fun p hp=>(by cases hp),.inl rfl⟩
 |x::l,m=>by
  rw[List.foldl_cons]
  obtain⟨h1,h2,h3⟩:=minD_go F l (min m (F x))
  refine⟨by omega,fun p hp=>?_,?_⟩
  ·rcases List.mem_cons.1 hp with q|q
   ·subst q;omega
   ·exact h2 p q
  ·rcases h3 with q|⟨p,hp,q⟩
   ·rcases(show min m (F x)=m∨min m (F x)=F x by omega)with e|e
    ·exact .inl (q.trans e)
    ·exact .inr ⟨x,by simp,q.trans e⟩
   ·exact .inr ⟨p,List.mem_cons_of_mem _ hp,q⟩
theorem dist_any {g:Gr} (hg:GOk g) (ts:List Int) (l:List Int) {v:Nat} (hv:v<g.n):
  (distG g ts l true).getD v default=minD (fun p=>(distG g ts [p] true).getD v default) l:=by
 have hN:=netG_ok hg (wsOk_tt g ts) true
 have H:Sol (netG g (ttL ts g.es.length) true) (fun v=>isSrc l v=true) (distG g ts l true):=distF_sol hN (isSrc l)
 have K:∀ p:Int,Sol (netG g (ttL ts g.es.length) true) (fun v=>isSrc [p] v=true) (distG g ts [p] true):=fun p=>distF_sol hN _
 have spec:=fun v=>minD_go (fun p=>(distG g ts [p] true).getD v default) l INF
 have hM:∀ v,v<g.n->at0 ((List.range g.n).map fun v=>minD (fun p=>(distG g ts [p] true).getD v default) l) v=minD (fun p=>(distG g ts [p] true).getD v default) l:=fun v hv=>gmr hv
 apply Int.le_antisymm
 ·obtain⟨_,_,h3⟩:=spec v
  unfold minD
  rcases h3 with q|⟨p,hp,q⟩
  ·rw[q];exact H.le v hv
  ·rw[q]
   refine dist_mono hg ts true (fun u _ hs=>?_) hv
   have:=isSrc_iff.1 hs
   rw[List.mem_singleton]at this
   exact isSrc_iff.2 (by rw[this];exact hp)
 ·have:=H.least hN (e:=(List.range g.n).map fun v=>minD (fun p=>(distG g ts [p] true).getD v default) l) (fun v hv=>by rw[hM v hv];exact(spec v).1)
   (fun v hv hs=>by
    rw[hM v hv]
    have hp:=isSrc_iff.1 hs
    have h1:=(spec v).2.1 _ hp
    have h2:=(K (v:Int)).src v hv (isSrc_iff.2 (by simp))
    have h2:(distG g ts [((v:Nat):Int)] true).getD v default=0:=h2
    unfold minD
    exact Int.le_trans h1 (Int.le_of_eq h2))
   (fun i hi hw hs=>by
    have hsn:=hN.s i hi
    have htn:=hN.t i hi
    rw[hM _ hsn]at hs ⊢
    rw[hM _ htn]
    unfold minD at*
    rcases(spec ((netG g (ttL ts g.es.length) true).s i)).2.2 with q|⟨p,hp,q⟩
    ·rw[q]at hs;exact absurd hs (Int.lt_irrefl _)
    ·rw[q]at hs ⊢
     have h1:=(spec ((netG g (ttL ts g.es.length) true).t i)).2.1 p hp
     have h2:=(K p).clo i hi hw hs
     exact Int.le_trans h1 h2) v hv
  rw[hM v hv]at this
  exact this
theorem dist_bad {g:Gr} (hg:GOk g) (ts:List Int) {a:Int} (ha:¬ (0<=a/\a<g.n)) {v:Nat} (hv:v<g.n):(distG g ts [a] true).getD v default=INF:=by
 have h1:=dist_mono hg ts (a:=[a]) (b:=[]) true (fun u hu hs=>by
  have:=isSrc_iff.1 hs
  rw[List.mem_singleton]at this
  omega) hv
 have h2:=dist_any hg ts [] hv
 have h2:(distG g ts [] true).getD v default=INF:=h2
 have h3:=(distF_sol (netG_ok hg (wsOk_tt g ts) true) (isSrc [a])).le v hv
 have h3:(distG g ts [a] true).getD v default<=INF:=h3
 omega
theorem maxD_go (D:Int->Int):∀(l:List Int) (s:Int × Int),(∀ v∈l,0<=v/\0<=D v)->(s.2<0->s.1=0)->
  (l.foldl (fun(s:Int × Int) v=>if s.2<0∨s.1<D v then(D v,v)else s) s).1=l.foldl (fun w v=>max w (D v)) s.1
 | [],s,_,_=>rfl
 |x::l,s,hl,hs=>by
  rw[List.foldl_cons,List.foldl_cons]
  have hx:=hl x (by simp)
  rw[maxD_go D l _ (fun v hv=>hl v (List.mem_cons_of_mem _ hv))]
  ·congr 1
   split
   ·rename_i h
    rcases h with h|h
    ·have:=hs h;simp only;omega
    ·simp only;omega
   ·rename_i h
    have:¬ s.1<D x:=fun q=>h (.inr q)
    omega
  ·split
   ·intro h;simp only at h;omega
   ·exact hs
theorem wait_is {x:Sr} (hg:GOk x.g) (hm:∀ v∈x.tg,0<=v/\v<x.g.n) (nd:List Int):waitF x nd=(worstF (distG x.g x.ts nd true) x.tg).1:=by
 have:=maxD_go (fun v=>(distG x.g x.ts nd true).getD v.toNat default) x.tg (0,-1) (fun v hv=>⟨(hm v hv).1,(dist_rng hg x.ts nd true (by have:=hm v hv;omega)).1⟩) (fun _=>rfl)
 refine Eq.trans ?_ this.symm
 show _=x.tg.foldl (fun w v=>max w ((distG x.g x.ts nd true).getD v.toNat default)) 0
 unfold waitF
 have e:∀(ns:List Int) (w:Int),(∀ v∈ns,0<=v/\v<x.g.n)->ns.foldl (fun w t=>max w (nearF x t nd)) w=ns.foldl (fun w v=>max w ((distG x.g x.ts nd true).getD v.toNat default)) w:=by
  intro ns
  induction ns with
  |nil=>intro w _;rfl
  |cons t ns ih=>
   intro w h
   rw[List.foldl_cons,List.foldl_cons,ih _ (fun v hv=>h v (List.mem_cons_of_mem _ hv))]
   have ht:=h t (by simp)
   have e2:nearF x t nd=(distG x.g x.ts nd true).getD t.toNat default:=by
    rw[dist_any hg x.ts nd (by omega)]
    unfold nearF minD
    congr 1
    funext m a
    unfold dsF
    rw[if_pos ht]
   rw[e2]
 exact e _ _ hm
end Go.Sym
namespace Go.Sym
set_option linter.unusedVariables false
set_option linter.unusedSimpArgs false
open Go.Proofs Go.RowKit
set_option maxRecDepth 100000
set_option maxHeartbeats 8000000
structure TkX where
 g:Gr
 ts:List Int
 us:List Un
 m:Mv
structure TkOk (x:TkX):Prop where
 g:GOk x.g
 n:x.g.n<=12
 us:x.us.length<=1000
def tkN (x:TkX):Int:=(x.us.getD (fndU x.us x.m.1).toNat default).nd
def tkBad (x:TkX):Prop:=fndU x.us x.m.1<0∨¬ (0<=tkN x/\tkN x<x.g.n)∨¬ (0<=x.m.2/\x.m.2<x.g.n)
instance (x:TkX):Decidable (tkBad x):=by unfold tkBad;infer_instance
def tkU (x:TkX):Int:=if tkBad x then INF else(distG x.g x.ts [tkN x] true).getD x.m.2.toNat default
def tkC:CT where
 X:=TkX
 pre:=TkOk
 args:=fun x=>[netA x.g,.sl 100001 0 x.ts.length,.sl 100002 0 x.us.length,.agg [.i .i64 x.m.1,.i .i64 x.m.2]]
 g0:=fun x=>[(100000,.rows .bor kE x.g.es.length (encL encE x.g.es)),(100001,.rows .bor k1 x.ts.length (encL encI x.ts)),(100002,.rows .bor kU x.us.length (encL encU x.us))]
 res:=fun x=>.i .i64 (tkU x)
 g1:=fun _=>[]
def tkI (x:TkX) (id:Nat):Option Inv:=match id with
 |100045=>some (cutB 45 (decide (tkBad x)))
 |_=>none
def cfgTk:Cfg:=⟨T,[],[(62,.one fdC),(65,.one qfromC)],noInv,90,{ kn:=true }⟩
theorem conTk:ConOk Tryz.prog cfgTk:=ConL.ok (.cons (ConL.one fd_good) (.cons (ConL.one qfrom_good) .nil))
theorem tk_r {x:TkX} (h:¬ fndU x.us x.m.1<0):0<=fndU x.us x.m.1/\fndU x.us x.m.1<x.us.length/\0+(fndU x.us x.m.1).toNat<x.us.length:=by
 have:=fnd_lt (us:=x.us) (i:=x.m.1) (by omega)
 omega
theorem tk_n {x:TkX} (h:¬ tkBad x):(0<=fndU x.us x.m.1/\fndU x.us x.m.1<x.us.length/\0+(fndU x.us x.m.1).toNat<x.us.length)/\(0<=tkN x/\tkN x<x.g.n)/\(0<=x.m.2/\x.m.2<x.g.n):=by
 have h1:¬ fndU x.us x.m.1<0:=fun q=>h (.inl q)
 refine⟨tk_r h1,?_,?_⟩
 ·exact Decidable.byContradiction fun q=>h (.inr (.inl q))
 ·exact Decidable.byContradiction fun q=>h (.inr (.inr q))
def tkG (x:TkX):Int:=(x.us.getD (0+(fndU x.us x.m.1).toNat) default).nd
theorem tkG_e (x:TkX):tkG x=tkN x:=by unfold tkG tkN;rw[Nat.zero_add]
theorem tk_1 {x:TkX} (h:¬ fndU x.us x.m.1<0) (h1:¬ tkG x<0) (h2:¬ (x.g.n:Int)<=tkG x) (h3:¬ x.m.2<0):decide ((x.g.n:Int)<=x.m.2)=decide (tkBad x):=by
 rw[tkG_e]at h1 h2
 refine decide_eq_decide.2 ⟨fun q=>.inr (.inr (by omega)),fun q=>?_⟩
 rcases q with q|q|q <;>omega
theorem tk_b {x:TkX} (h:fndU x.us x.m.1<0∨tkG x<0∨(x.g.n:Int)<=tkG x∨x.m.2<0):true=decide (tkBad x):=by
 rw[tkG_e]at h
 refine(decide_eq_true ?_).symm
 rcases h with h|h|h|h
 ·exact .inl h
 ·exact .inr (.inl (by omega))
 ·exact .inr (.inl (by omega))
 ·exact .inr (.inr (by omega))
theorem tk_nd {x:TkX} {n:Nat}:RowsEq k1 n (litRows [[D.i (tkG x)]]) (encL encI [tkN x]):=by
 rw[tkG_e]
 refine⟨fun r hr=>?_⟩
 cases r with
 |zero=>exact⟨rfl,trivial⟩
 |succ r=>exact⟨rfl,trivial⟩
theorem tk_y {x:TkX} (h:tkBad x):INF=tkU x:=(if_pos h).symm
theorem tk_z {x:TkX} (h:¬ tkBad x):(distG x.g x.ts [tkN x] true).getD (0+x.m.2.toNat) default=tkU x:=by unfold tkU;rw[if_neg h,Nat.zero_add]
set_option maxRecDepth 100000 in
theorem tk_keeps:Keeps cfgTk Tryz.f44 tkC tkI:=Eq.mp (show(∀ x1:TkX,((TkOk x1)->(∃ x3:FdX,((x3.us.length<=(1000:Nat))/\(((0=0/\x1.us.length=x3.us.length)/\((Prod.fst x1.m=x3.id)/\True))/\(((RW kU x3.us.length x1.us.length (encL encU x1.us) (encL encU x3.us))/\True)/\((CN (decide (fndU x3.us x3.id<(0:Int))) ((Ix (fndU x3.us x3.id) (x1.us.length:Int))/\((0+Int.toNat (fndU x3.us x3.id)<x1.us.length)/\(CN (decide ((x1.us.getD (0+Int.toNat (fndU x3.us x3.id)) default).nd<(0:Int))) ((Ix (fndU x3.us x3.id) (x1.us.length:Int))/\((0+Int.toNat (fndU x3.us x3.id)<x1.us.length)/\(CN (decide ((x1.g.n:Int)<=(x1.us.getD (0+Int.toNat (fndU x3.us x3.id)) default).nd)) (CN (decide (Prod.snd x1.m<(0:Int))) (∃ x8:Unit,(True/\((decide ((x1.g.n:Int)<=Prod.snd x1.m)=decide (tkBad x1))/\True))) (∃ x10:Unit,(True/\((true=decide (tkBad x1))/\True)))) (∃ x12:Unit,(True/\((true=decide (tkBad x1))/\True)))))) (∃ x14:Unit,(True/\((true=decide (tkBad x1))/\True)))))) (∃ x16:Unit,(True/\((true=decide (tkBad x1))/\True))))/\(∀ x17:Unit,(True->(CB (decide (tkBad x1)) (((4611686018427387904:Int)=tkU x1)/\True) ((Ix (fndU x3.us x3.id) (x1.us.length:Int))/\((0+Int.toNat (fndU x3.us x3.id)<x1.us.length)/\(((True/\True)/\True)/\(∃ x21:FX,((FXok x21)/\(((((x1.g.n:Int)=(x21.g.n:Int))/\((0=0/\x1.g.es.length=x21.g.es.length)/\True))/\((0=0/\x1.ts.length=x21.ts.length)/\((0=0/\((1:Nat)=x21.src.length))/\True)))/\(((RW [.int .i64,.int .i64,.int .i64] x21.g.es.length x1.g.es.length (encL encE x1.g.es) (encL encE x21.g.es))/\((RW [.int .i64] x21.ts.length x1.ts.length (encL encI x1.ts) (encL encI x21.ts))/\((RW [.int .i64] x21.src.length 1 (litRows ((D.i (x1.us.getD (0+Int.toNat (fndU x3.us x3.id)) default).nd::@List.nil D)::@List.nil (List D))) (encL encI x21.src))/\True)))/\((Ix (Prod.snd x1.m) (x21.g.n:Int))/\((0+Int.toNat (Prod.snd x1.m)<x21.g.n)/\(((distG x21.g x21.ts x21.src true).getD (0+Int.toNat (Prod.snd x1.m)) default=tkU x1)/\True))))))))))))))))))))=(Keeps cfgTk Tryz.f44 tkC tkI) by kernel_rfl) (fun x1=>fun h2=>⟨({ us:=TkX.us x1,id:=Prod.fst (TkX.m x1):FdX }),h2.us,⟨⟨rfl,rfl⟩,rfl,trivial⟩,⟨⟨rl,rr⟩,trivial⟩,⟨fun g4=>have h4:=dF g4;⟨⟨(by omega),((tk_r h4).2.1)⟩,((tk_r h4).2.2),fun g5=>have h5:=dF g5;⟨⟨(by omega),((tk_r h4).2.1)⟩,((tk_r h4).2.2),fun g6=>have h6:=dF g6;⟨fun g7=>have h7:=dF g7;⟨(default),trivial,(tk_1 h4 h5 h6 h7),trivial⟩,fun g9=>have h9:=dT g9;⟨(default),trivial,(tk_b (.inr (.inr (.inr h9)))),trivial⟩⟩,fun g11=>have h11:=dT g11;⟨(default),trivial,(tk_b (.inr (.inr (.inl h11)))),trivial⟩⟩,fun g13=>have h13:=dT g13;⟨(default),trivial,(tk_b (.inr (.inl h13))),trivial⟩⟩,fun g15=>have h15:=dT g15;⟨(default),trivial,(tk_b (.inl h15)),trivial⟩⟩,fun x17=>fun h18=>⟨fun g19=>have h19:=dT g19;⟨(tk_y h19),trivial⟩,fun g20=>have h20:=dF g20;⟨⟨((tk_n h20).1.1),((tk_n h20).1.2.1)⟩,((tk_n h20).1.2.2),⟨⟨trivial,trivial⟩,trivial⟩,({ g:=TkX.g x1,ts:=TkX.ts x1,src:=tkN x1::@List.nil Int:FX }),(⟨h2.g,h2.n,Nat.le_of_ble_eq_true rfl⟩),⟨⟨rfl,⟨rfl,rfl⟩,trivial⟩,⟨rfl,rfl⟩,⟨rfl,(by grind)⟩,trivial⟩,⟨⟨rl,rr⟩,⟨rl,rr⟩,⟨⟨(by grind)⟩,tk_nd⟩,trivial⟩,⟨((tk_n h20).2.2.1),((tk_n h20).2.2.2)⟩,(by have:=(tk_n h20).2.2;show 0+x1.m.2.toNat<x1.g.n;omega),(tk_z h20),trivial⟩⟩⟩)
theorem tk_good:Good Tryz.prog 44 tkC/\FnOk Tryz.prog 44:=good_of tok conTk (fn:=Tryz.f44) rfl (by decide+kernel) (fun _=>rfl) tk_keeps
structure RgX where
 g:Gr
 ts:List Int
 us:List Un
 of:List Int
 l:List Mv
structure RgOk (x:RgX):Prop where
 g:GOk x.g
 n:x.g.n<=12
 us:x.us.length<=1000
 of:x.of.length<=1000
 l:x.l.length<=1000
def RgX.n (x:RgX):GnX:=⟨x.g,x.ts,x.us,ofW x.of x.of.length,x.l⟩
end Go.Sym