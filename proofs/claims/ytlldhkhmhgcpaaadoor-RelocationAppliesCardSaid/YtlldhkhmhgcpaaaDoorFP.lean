import Derived.Test.YtlldhkhmhgcpaaaDoorUO
import Derived.Test.YtlldhkhmhgcpaaaDoorPL3
import Derived.Test.YtlldhkhmhgcpaaaDoorXD
namespace Go.Sym
set_option linter.unusedVariables false
set_option linter.unusedSimpArgs false
open Go.Proofs
set_option maxRecDepth 100000
set_option maxHeartbeats 4000000
def idsT (us:List Un) (k:Nat):List Int:=(us.take k).map (·.id)
def mT (_:Int) (_:Nat):D:=.b true
def kBo:List Kd:=[.bool]
def diC:CT where
 X:=List Un
 pre:=fun us=>us.length<=1000
 args:=fun us=>[.sl 100000 0 us.length]
 g0:=fun us=>[(100000,.rows .bor kU us.length (encL encU us))]
 res:=fun us=>.b (dstU us)
 g1:=fun _=>[]
theorem ids_s {us:List Un} {k:Nat} (h:k<us.length):idsT us (k+1)=idsT us k++[(us.getD k default).id]:=by
 unfold idsT
 rw[take_succ_getD (d:=default) h,List.map_append]
 rfl
def diI (us:List Un) (id:Nat):Option Inv:=match id with
 |0=>some { X:=Nat,ok:=fun k=>k<=us.length/\(idsT us k).Nodup,fr:=fun k=>[(0,.sl 100000 0 us.length),(3,.mp 341),(7,.sl 100000 0 us.length),(8,.i .i64 us.length),(9,.i .i64 k)],hp:=fun k=>[(341,.map .own .i64 kBo false (idsT us k) mT)],me:=fun k=>us.length-k }
 |_=>none
theorem ids_0 (us:List Un):(idsT us 0).Nodup:=List.nodup_nil
theorem map_0 (us:List Un):MapEq kBo [] (idsT us 0) (fun _ j=>zRow kBo j) mT:=⟨List.Perm.refl _,fun k hk=>by cases hk⟩
theorem ids_m {us:List Un} {k:Nat} {i:Int} (h:(if i∈idsT us k then mT i 0 else D.b false).toB=true):i∈idsT us k:=by
 by_cases q:i∈idsT us k
 ·exact q
 ·rw[if_neg q]at h;cases h
theorem ids_n {us:List Un} {k:Nat} {i:Int} (h:(if i∈idsT us k then mT i 0 else D.b false).toB=false):i∉idsT us k:=by
 intro q
 rw[if_pos q]at h
 cases h
theorem ids_pre {us:List Un} {k:Nat} (hk:k<us.length) (h:¬ (idsT us (k+1)).Nodup):dstU us=false:=by
 refine decide_eq_false fun q=>h ?_
 exact q.sublist ((List.take_sublist (k+1) us).map _)
theorem di_f {us:List Un} {k:Nat} (hk:(k:Int)<us.length) (h:(if(us.getD (0+(k:Int).toNat) default).id∈idsT us k then mT (us.getD (0+(k:Int).toNat) default).id 0 else D.b false).toB=true):false=dstU us:=by
 have:=ids_m h
 rw[nat0]at this
 refine(ids_pre (k:=k) (by omega) ?_).symm
 rw[ids_s (by omega),List.nodup_append]
 rintro⟨_,_,q⟩
 exact q _ this _ (by simp) rfl
theorem di_s {us:List Un} {k:Nat} (hk:(k:Int)<us.length) (hn:(idsT us k).Nodup) (h:(if(us.getD (0+(k:Int).toNat) default).id∈idsT us k then mT (us.getD (0+(k:Int).toNat) default).id 0 else D.b false).toB=false):(idsT us (k+1)).Nodup:=by
 have:=ids_n h
 rw[nat0]at this
 rw[ids_s (by omega),List.nodup_append]
 refine⟨hn,by simp,fun a ha b hb=>?_⟩
 simp only[List.mem_singleton]at hb
 subst hb
 rintro rfl
 exact this ha
theorem di_m {us:List Un} {k:Nat} {g:Nat->D} (hg:g 0= .b true) (hk:(k:Int)<us.length) (h:(if(us.getD (0+(k:Int).toNat) default).id∈idsT us k then mT (us.getD (0+(k:Int).toNat) default).id 0 else D.b false).toB=false):MapEq kBo (madd1 (idsT us k) (us.getD (0+(k:Int).toNat) default).id) (idsT us (k+1)) (mset mT (us.getD (0+(k:Int).toNat) default).id g) mT:=by
 have hn:=ids_n h
 refine⟨?_,fun x hx=>?_⟩
 ·unfold madd1
  rw[if_neg hn,nat0,ids_s (by omega)]
  first|done|exact List.Perm.refl _|exact(List.perm_append_singleton _ _).symm
 ·simp only[mset]
  split
  ·refine⟨?_,trivial⟩
   show(g 0).toB=(D.b true).toB
   rw[hg]
  ·exact rowEq_rfl _ _ _
theorem di_t {us:List Un} {k:Nat} (hk:¬ (k:Int)<us.length) (hn:(idsT us k).Nodup):true=dstU us:=by
 refine(decide_eq_true ?_).symm
 unfold idsT at hn
 rw[List.take_of_length_le (by omega)]at hn
 exact hn
set_option maxRecDepth 100000 in
theorem di_keeps:Keeps cfg0 Tryd.f28 diC diI:=Eq.mp (show((∀ x1:List Un,((x1.length<=(1000:Nat))->(∃ x3:Nat,((((x3<=x1.length)/\(List.Nodup (idsT x1 x3)))/\(((0=0/\x1.length=x1.length)/\(True/\((0=0/\x1.length=x1.length)/\(((x1.length:Int)=(x1.length:Int))/\((0=(x3:Int))/\True)))))/\((MapEq (Kd.bool::[]) (@List.nil Int) (idsT x1 x3) (fun(x:Int) (j:Nat)=>zRow (Kd.bool::[]) j) mT)/\(((RLe x1.length x1.length)/\(RowsEq [.int .i64,.int .i64,.int .i64,.int .i64,.int .i64,.int .i64,.int .i64,.int .i64,.int .i64,.int .i64] x1.length (encL encU x1) (encL encU x1)))/\True))))/\(∀ x4:Nat,((x4<=x1.length/\List.Nodup (idsT x1 x4))->(((decide ((x4:Int)<(x1.length:Int))=true)->((((0:Int)<=(x4:Int))/\((x4:Int)<(x1.length:Int)))/\((0+Int.toNat (x4:Int)<x1.length)/\(((D.toB (if(x1.getD (0+Int.toNat (x4:Int)) default).id∈idsT x1 x4 then mT (x1.getD (0+Int.toNat (x4:Int)) default).id 0 else D.b false)=true)->((false=dstU x1)/\True))/\((D.toB (if(x1.getD (0+Int.toNat (x4:Int)) default).id∈idsT x1 x4 then mT (x1.getD (0+Int.toNat (x4:Int)) default).id 0 else D.b false)=false)->((True/\True)/\((((-9223372036854775808:Int)<=(x4:Int)+1)/\((x4:Int)+1<=(9223372036854775807:Int)))/\(∃ x9:Nat,((x1.length-x9<x1.length-x4)/\(((x9<=x1.length)/\(List.Nodup (idsT x1 x9)))/\(((0=0/\x1.length=x1.length)/\(True/\((0=0/\x1.length=x1.length)/\(((x1.length:Int)=(x1.length:Int))/\(((x4:Int)+1=(x9:Int))/\True)))))/\((MapEq (Kd.bool::[]) (madd1 (idsT x1 x4) (x1.getD (0+Int.toNat (x4:Int)) default).id) (idsT x1 x9) (mset mT (x1.getD (0+Int.toNat (x4:Int)) default).id fun(j:Nat)=>(D.b true::@List.nil D).getD j (D.i 0)) mT)/\(((RLe x1.length x1.length)/\(RowsEq [.int .i64,.int .i64,.int .i64,.int .i64,.int .i64,.int .i64,.int .i64,.int .i64,.int .i64,.int .i64] x1.length (encL encU x1) (encL encU x1)))/\True)))))))))))))/\((decide ((x4:Int)<(x1.length:Int))=false)->((true=dstU x1)/\True))))))))))=(Keeps cfg0 Tryd.f28 diC diI) by kernel_rfl) (fun x1=>fun h2=>⟨((0:Nat)),
⟨⟨(by(try dsimp only at *);omega),
(by(try dsimp only at *);exact ids_0 _)⟩,
⟨⟨rfl,rfl⟩,trivial,
⟨rfl,rfl⟩,rfl,
(by(try dsimp only at *);omega),trivial⟩,
(by(try dsimp only at *);exact map_0 _),
⟨rl,rr⟩,trivial⟩,
fun x4=>fun h5=>⟨fun g6=>have h6:=dT g6;⟨⟨(by(try dsimp only at *);omega),
(by(try dsimp only at *);omega)⟩,
(by(try dsimp only at *);omega),
fun h7=>⟨(by(try dsimp only at *);exact di_f ‹_› ‹_›),trivial⟩,
fun h8=>⟨⟨trivial,trivial⟩,
⟨(by(try dsimp only at *);omega),
(by(try dsimp only at *);omega)⟩,
(x4+(1:Nat)),
(by(try dsimp only at *);omega),
⟨(by(try dsimp only at *);omega),
(by(try dsimp only at *);exact di_s h6 h5.2 ‹_›)⟩,
⟨⟨rfl,rfl⟩,trivial,
⟨rfl,rfl⟩,rfl,
(by(try dsimp only at *);omega),trivial⟩,
(by(try dsimp only at *);exact di_m rfl h6 ‹_›),
⟨rl,rr⟩,trivial⟩⟩,
fun g10=>have h10:=dF g10;⟨(by(try dsimp only at *);exact di_t ‹_› h5.2),trivial⟩⟩⟩)
theorem di_good:Good Tryd.prog 28 diC/\FnOk Tryd.prog 28:=good_of tok con0 (fn:=Tryd.f28) rfl (by decide+kernel) (fun _=>rfl) di_keeps
def frA (us:List Un) (k:Nat):List Un:=(us.take k).filter fun u=>decide (u.st=1)
def frL (us:List Un):List Un:=us.filter fun u=>decide (u.st=1)
def frU (us:List Un):List Un:=srtU (frL us)
theorem frA_y {us:List Un} {k:Nat} (h:(k:Int)<us.length) (h1:(us.getD (0+(k:Int).toNat) default).st=1):frA us k++[us.getD (0+(k:Int).toNat) default]=frA us (k+1):=by
 rw[nat0]at*
 unfold frA
 rw[take_succ_getD (d:=default) (by omega),List.filter_append,List.filter_cons,if_pos (decide_eq_true h1),List.filter_nil]
theorem frA_n {us:List Un} {k:Nat} (h:(k:Int)<us.length) (h1:¬ (us.getD (0+(k:Int).toNat) default).st=1):frA us k=frA us (k+1):=by
 rw[nat0]at*
 unfold frA
 rw[take_succ_getD (d:=default) (by omega),List.filter_append,List.filter_cons,if_neg (by rw[decide_eq_false h1];decide),List.filter_nil,List.append_nil]
theorem frA_t {us:List Un} {k:Nat} (h:¬ (k:Int)<us.length):frA us k=frL us:=by
 unfold frA frL
 rw[List.take_of_length_le (by omega)]
theorem frA_len (us:List Un) (k:Nat):(frA us k).length<=us.length:=Nat.le_trans (List.length_filter_le _ _) (by rw[List.length_take];omega)
def fuC:CT where
 X:=List Un
 pre:=fun us=>us.length<=12
 args:=fun us=>[.sl 100000 0 us.length]
 g0:=fun us=>[(100000,.rows .bor kU us.length (encL encU us))]
 res:=fun us=>.sl 1 0 (frU us).length
 g1:=fun us=>[(1,.rows .own kU (frU us).length (encL encU (frU us)))]
def fuI (us:List Un) (id:Nat):Option Inv:=match id with
 |0=>some { X:=Nat,ok:=fun k=>k<=us.length,fr:=fun k=>[(0,.sl 100000 0 us.length),(3,.sl 351 0 (frA us k).length),(6,.sl 100000 0 us.length),(7,.i .i64 us.length),(8,.i .i64 k)],hp:=fun k=>[(351,.rows .own kU (frA us k).length (encL encU (frA us k)))],me:=fun k=>us.length-k }
 |_=>none
def cfgFu:Cfg:=⟨T,[],[(45,.one sfC)],noInv,60,{ kn:=true }⟩
theorem conFu:ConOk Tryd.prog cfgFu:=ConL.ok (.cons (ConL.one sf_good) .nil)
theorem fu_l {us:List Un} {k:Nat} {u:Un} (h:frA us k++[u]=frA us (k+1)):(frA us k).length+1=(frA us (k+1)).length:=by rw[<- h];simp
theorem fu_r {us:List Un} {k m:Nat} {u:Un} (hm:m<=(frA us k).length+1) (h:frA us k++[u]=frA us (k+1)):RowsEq kU m (appRows (frA us k).length (encL encU (frA us k)) 0 (litRows [rowU u])) (encL encU (frA us (k+1))):=by
 rw[<- h]
 exact rowsEq_push rfl hm ⟨rfl,rfl,rfl,rfl,rfl,rfl,rfl,rfl,rfl,rfl,trivial⟩
theorem fu_s {us:List Un} (h:us.length<=12):(frL us).toArray.size<=12:=by
 have:=List.length_filter_le (fun u:Un=>decide (u.st=1)) us
 show(frL us).toArray.size<=12
 simp only[List.size_toArray]
 unfold frL
 omega
theorem fu_e {us:List Un} {k:Nat} (h:¬ (k:Int)<us.length):(frA us k).length=(frL us).toArray.size:=by rw[frA_t h];simp
theorem fu_u {us:List Un} {k:Nat} (h:¬ (k:Int)<us.length):(frA us k).length=(frU us).length:=by rw[frA_t h];exact(srtU_len _).symm
theorem fu_v (us:List Un):(frU us).length<=(frL us).toArray.size:=by
 have:=srtU_len (frL us)
 unfold frU
 simp only[List.size_toArray]
 omega
theorem fu_q {us:List Un} {k m:Nat} (h:¬ (k:Int)<us.length):RowsEq kU m (encL encU (frA us k)) (aR (frL us).toArray):=by rw[frA_t h];exact RowsEq.rfl'
set_option maxRecDepth 100000 in
theorem fu_keeps:Keeps cfgFu Tryd.f29 fuC fuI:=Eq.mp (show((∀ x1:List Un,((x1.length<=(12:Nat))->(∃ x3:Nat,(((x3<=x1.length)/\(((0=0/\x1.length=x1.length)/\((True/\(0=0/\((frA x1 x3).length=(0:Nat))))/\((0=0/\x1.length=x1.length)/\(((x1.length:Int)=(x1.length:Int))/\((0=(x3:Int))/\(True/\True))))))/\(((frA x1 x3).length=(0:Nat))/\(((RLe x1.length x1.length)/\(RowsEq [.int .i64,.int .i64,.int .i64,.int .i64,.int .i64,.int .i64,.int .i64,.int .i64,.int .i64,.int .i64] x1.length (encL encU x1) (encL encU x1)))/\True))))/\(∀ x4:Nat,((x4<=x1.length)->(((decide ((x4:Int)<(x1.length:Int))=true)->((((0:Int)<=(x4:Int))/\((x4:Int)<(x1.length:Int)))/\((0+Int.toNat (x4:Int)<x1.length)/\(((decide ((x1.getD (0+Int.toNat (x4:Int)) default).st=(1:Int))=true)->(((True/\(True/\(True/\(True/\(True/\(True/\(True/\(True/\(True/\(True/\True))))))))))/\True)/\((0=0/\(((frA x1 x4).length<=(frA x1 x4).length)/\(((1:Nat)<=(1:Nat))/\((frA x1 x4).length+(1:Nat)<=(1073741824:Nat)))))/\((((-9223372036854775808:Int)<=(x4:Int)+1)/\((x4:Int)+1<=(9223372036854775807:Int)))/\(∃ x8:Nat,((x1.length-x8<x1.length-x4)/\((x8<=x1.length)/\(((0=0/\x1.length=x1.length)/\((0=0/\((frA x1 x4).length+(1:Nat)=(frA x1 x8).length))/\((0=0/\x1.length=x1.length)/\(((x1.length:Int)=(x1.length:Int))/\(((x4:Int)+1=(x8:Int))/\(True/\True))))))/\(((RLe (frA x1 x8).length ((frA x1 x4).length+(1:Nat)))/\(RowsEq [.int .i64,.int .i64,.int .i64,.int .i64,.int .i64,.int .i64,.int .i64,.int .i64,.int .i64,.int .i64] (frA x1 x8).length (appRows (frA x1 x4).length (encL encU (frA x1 x4)) 0 (litRows ((D.i (x1.getD (0+Int.toNat (x4:Int)) default).id::D.i (x1.getD (0+Int.toNat (x4:Int)) default).b::D.i (x1.getD (0+Int.toNat (x4:Int)) default).c::D.i (x1.getD (0+Int.toNat (x4:Int)) default).st::D.i (x1.getD (0+Int.toNat (x4:Int)) default).nd::D.i (x1.getD (0+Int.toNat (x4:Int)) default).f::D.i (x1.getD (0+Int.toNat (x4:Int)) default).g::D.i (x1.getD (0+Int.toNat (x4:Int)) default).h::D.i (x1.getD (0+Int.toNat (x4:Int)) default).i::D.i (x1.getD (0+Int.toNat (x4:Int)) default).j::@List.nil D)::@List.nil (List D)))) (encL encU (frA x1 x8))))/\(((RLe x1.length x1.length)/\(RowsEq [.int .i64,.int .i64,.int .i64,.int .i64,.int .i64,.int .i64,.int .i64,.int .i64,.int .i64,.int .i64] x1.length (encL encU x1) (encL encU x1)))/\True))))))))))/\((decide ((x1.getD (0+Int.toNat (x4:Int)) default).st=(1:Int))=false)->((((-9223372036854775808:Int)<=(x4:Int)+1)/\((x4:Int)+1<=(9223372036854775807:Int)))/\(∃ x10:Nat,((x1.length-x10<x1.length-x4)/\((x10<=x1.length)/\(((0=0/\x1.length=x1.length)/\((0=0/\((frA x1 x4).length=(frA x1 x10).length))/\((0=0/\x1.length=x1.length)/\(((x1.length:Int)=(x1.length:Int))/\(((x4:Int)+1=(x10:Int))/\(True/\True))))))/\(((RLe (frA x1 x10).length (frA x1 x4).length)/\(RowsEq [.int .i64,.int .i64,.int .i64,.int .i64,.int .i64,.int .i64,.int .i64,.int .i64,.int .i64,.int .i64] (frA x1 x10).length (encL encU (frA x1 x4)) (encL encU (frA x1 x10))))/\(((RLe x1.length x1.length)/\(RowsEq [.int .i64,.int .i64,.int .i64,.int .i64,.int .i64,.int .i64,.int .i64,.int .i64,.int .i64,.int .i64] x1.length (encL encU x1) (encL encU x1)))/\True))))))))))))/\((decide ((x4:Int)<(x1.length:Int))=false)->(∃ x12:Array Un,((Array.size x12<=(12:Nat))/\(((0=0/\((frA x1 x4).length=Array.size x12))/\(True/\True))/\((((RLe (Array.size x12) (frA x1 x4).length)/\(RowsEq [.int .i64,.int .i64,.int .i64,.int .i64,.int .i64,.int .i64,.int .i64,.int .i64,.int .i64,.int .i64] (Array.size x12) (encL encU (frA x1 x4)) (aR x12)))/\True)/\((0=0/\((frA x1 x4).length=(frU x1).length))/\(((RLe (frU x1).length (Array.size x12))/\(RowsEq [.int .i64,.int .i64,.int .i64,.int .i64,.int .i64,.int .i64,.int .i64,.int .i64,.int .i64,.int .i64] (frU x1).length (aR (srtF x12)) (encL encU (frU x1))))/\True)))))))))))))))=(Keeps cfgFu Tryd.f29 fuC fuI) by kernel_rfl) (fun x1=>fun h2=>⟨((0:Nat)),
⟨(by(try dsimp only at *);omega),
⟨⟨rfl,rfl⟩,
⟨trivial,rfl,
(by(try dsimp only at *);rfl)⟩,
⟨rfl,rfl⟩,rfl,
(by(try dsimp only at *);omega),trivial,trivial⟩,
(by(try dsimp only at *);rfl),
⟨rl,rr⟩,trivial⟩,
fun x4=>fun h5=>⟨fun g6=>have h6:=dT g6;⟨⟨(by(try dsimp only at *);omega),
(by(try dsimp only at *);omega)⟩,
(by(try dsimp only at *);omega),
fun g7=>have h7:=dT g7;⟨⟨⟨trivial,trivial,trivial,trivial,trivial,trivial,trivial,trivial,trivial,trivial,trivial⟩,trivial⟩,
⟨rfl,
(by(try dsimp only at *);omega),
(by(try dsimp only at *);omega),
(by(try dsimp only at *);(have:=frA_len x1 x4;omega))⟩,
⟨(by(try dsimp only at *);omega),
(by(try dsimp only at *);omega)⟩,
(x4+(1:Nat)),
(by(try dsimp only at *);omega),
(by(try dsimp only at *);omega),
⟨⟨rfl,rfl⟩,
⟨rfl,
(by(try dsimp only at *);exact fu_l (frA_y h6 h7))⟩,
⟨rfl,rfl⟩,rfl,
(by(try dsimp only at *);omega),trivial,trivial⟩,
⟨⟨(by(try dsimp only at *);exact Nat.le_of_eq (fu_l (frA_y h6 h7)).symm)⟩,
(by(try dsimp only at *);exact fu_r (Nat.le_of_eq (fu_l (frA_y h6 h7)).symm) (frA_y h6 h7))⟩,
⟨rl,rr⟩,trivial⟩,
fun g9=>have h9:=dF g9;⟨⟨(by(try dsimp only at *);omega),
(by(try dsimp only at *);omega)⟩,
(x4+(1:Nat)),
(by(try dsimp only at *);omega),
(by(try dsimp only at *);omega),
⟨⟨rfl,rfl⟩,
⟨rfl,
(by(try dsimp only at *);exact congrArg List.length (frA_n h6 h9))⟩,
⟨rfl,rfl⟩,rfl,
(by(try dsimp only at *);omega),trivial,trivial⟩,
⟨⟨(by(try dsimp only at *);exact Nat.le_of_eq (congrArg List.length (frA_n h6 h9)).symm)⟩,
(by(try dsimp only at *);(rw[frA_n h6 h9];exact rr))⟩,
⟨rl,rr⟩,trivial⟩⟩,
fun g11=>have h11:=dF g11;⟨(List.toArray (frL x1)),
(by(try dsimp only at *);exact fu_s h2),
⟨⟨rfl,
(by(try dsimp only at *);exact fu_e h11)⟩,trivial,trivial⟩,
⟨⟨⟨(by(try dsimp only at *);exact Nat.le_of_eq (fu_e h11).symm)⟩,
(by(try dsimp only at *);exact fu_q h11)⟩,trivial⟩,
⟨rfl,
(by(try dsimp only at *);exact fu_u h11)⟩,
⟨⟨(by(try dsimp only at *);exact fu_v _)⟩,
(by(try dsimp only at *);exact rr)⟩,trivial⟩⟩⟩)
theorem fu_good:Good Tryd.prog 29 fuC/\FnOk Tryd.prog 29:=good_of tok conFu (fn:=Tryd.f29) rfl (by decide+kernel) (fun _=>rfl) fu_keeps
end Go.Sym