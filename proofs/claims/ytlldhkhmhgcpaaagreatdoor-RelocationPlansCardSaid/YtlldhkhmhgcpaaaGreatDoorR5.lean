import Derived.Test.YtlldhkhmhgcpaaaGreatDoorR4
import Derived.Test.YtlldhkhmhgcpaaaGreatDoorR2
import Derived.Test.YtlldhkhmhgcpaaaGreatDoorXD
import Derived.Test.YtlldhkhmhgcpaaaGreatDoorP7
namespace Go.Sym
set_option linter.unusedVariables false
set_option linter.unusedSimpArgs false
open Go.Proofs
set_option maxRecDepth 100000
set_option maxHeartbeats 4000000
def nodesAt (n:Nat) (of:List Int) (k:Nat):List Int:=((ofZ of of.length).take k).filter fun x=>decide (x<n)
def nodesL (n:Nat) (of:List Int):List Int:=(ofZ of of.length).filter fun x=>decide (x<n)
structure NOX where
 g:Gr
 of:List Int
def vnodesC:CT where
 X:=NOX
 pre:=fun x=>x.of.length<=1048576
 args:=fun x=>[.agg [.i .i64 x.g.n,.sl 100000 0 x.g.es.length],.sl 100001 0 x.of.length]
 g0:=fun x=>[(100000,.rows .bor kE x.g.es.length (encL encE x.g.es)),(100001,.rows .bor k1 x.of.length (encL encI x.of))]
 res:=fun x=>.sl 1 0 (nodesL x.g.n x.of).length
 g1:=fun x=>[(1,.rows .own k1 (nodesL x.g.n x.of).length (encL encI (nodesL x.g.n x.of)))]
def vnodesI (x:NOX) (id:Nat):Option Inv:=match id with
 |0=>some { X:=Nat,ok:=fun k=>k<=(ofZ x.of x.of.length).length,fr:=fun k=>[(7,.i .i64 k),(5,.sl 61 0 (nodesAt x.g.n x.of k).length)],hp:=fun k=>[(61,.rows .own k1 (nodesAt x.g.n x.of k).length (encL encI (nodesAt x.g.n x.of k)))],me:=fun k=>(ofZ x.of x.of.length).length-k }
 |_=>none
theorem nodes_yes {n:Nat} {of:List Int} {k:Nat} (hk:(k:Int)<(ofZ of of.length).length) (h:(ofZ of of.length).getD k default<n):nodesAt n of (k+1)=nodesAt n of k++[(ofZ of of.length).getD k default]:=filter_yes (by omega) (decide_eq_true h)
theorem nodes_no {n:Nat} {of:List Int} {k:Nat} (hk:(k:Int)<(ofZ of of.length).length) (h:¬ (ofZ of of.length).getD k default<n):nodesAt n of (k+1)=nodesAt n of k:=filter_no (d:=default) (by omega) (by rw[decide_eq_false h];decide)
theorem nodes_end {n:Nat} {of:List Int} {k:Nat} (hle:k<=(ofZ of of.length).length) (hk:¬ (k:Int)<(ofZ of of.length).length):nodesAt n of k=nodesL n of:=by unfold nodesAt nodesL;rw[List.take_of_length_le (by omega)]
theorem nodesAt_len (n:Nat) (of:List Int) (k:Nat):(nodesAt n of k).length<=4096:=filter_len (ofZ_len _ _)
theorem nodesL_len (n:Nat) (of:List Int):(nodesL n of).length<=4096:=by
 have:=List.length_filter_le (fun x:Int=>decide (x<n)) (ofZ of of.length);have:=ofZ_len of of.length;unfold nodesL;omega
theorem nodesL_at {n:Nat} {of:List Int} {k:Nat} (hk:k<(nodesL n of).length):0<=(nodesL n of).getD k default/\(nodesL n of).getD k default<n:=by
 have h:(nodesL n of).getD k default∈nodesL n of:=by rw[List.getD_eq_getElem?_getD,List.getElem?_eq_getElem hk];exact List.getElem_mem hk
 generalize(nodesL n of).getD k default=v at h
 unfold nodesL at h
 rw[List.mem_filter]at h
 exact⟨(elemsZ_mem.1 h.1).1,of_decide_eq_true h.2⟩
def cfgVn:Cfg:=⟨T,[],[(50,.one qofC)],noInv,50,{}⟩
theorem conVn:ConOk Tryz.prog cfgVn:=ConL.ok (.cons (ConL.one qof_good) .nil)
abbrev q56F0 (x3:List Int):Prop:=(0=0/\((ofZ x3 x3.length).length=(ofZ x3 x3.length).length))
theorem q56f0 {x3:List Int}:q56F0 x3:=⟨rfl,rfl⟩
abbrev q56F1 (x1:NOX):Prop:=(0=0/\x1.of.length=x1.of.length)
theorem q56f1 {x1:NOX}:q56F1 x1:=⟨rfl,rfl⟩
abbrev q56F2 (x1:NOX):Prop:=(((x1.g.n:Int)=(x1.g.n:Int))/\((0=0/\x1.g.es.length=x1.g.es.length)/\True))
theorem q56f2 {x1:NOX}:q56F2 x1:=⟨rfl,⟨rfl,rfl⟩,trivial⟩
abbrev q56F3 (x1:NOX) (x3:List Int):Prop:=((q56F0 x3)/\((q56F0 x3)/\((q56F1 x1)/\(True/\((0=0/\0=0)/\((q56F2 x1)/\((q56F1 x1)/\True)))))))
theorem q56f3 {x1:NOX} {x3:List Int}:q56F3 x1 x3:=⟨q56f0,q56f0,q56f1,trivial,⟨rfl,rfl⟩,q56f2,q56f1,trivial⟩
abbrev q56F4 (x1:NOX) (x3:List Int):Prop:=(((RLe (ofZ x3 x3.length).length (ofZ x3 x3.length).length)/\(RowsEq [.int .i64] (ofZ x3 x3.length).length (encL encI (ofZ x3 x3.length)) (encL encI (ofZ x3 x3.length))))/\((q56F2 x1)/\(((RLe x1.g.es.length x1.g.es.length)/\(RowsEq [.int .i64,.int .i64,.int .i64] x1.g.es.length (encL encE x1.g.es) (encL encE x1.g.es)))/\(((RLe x1.of.length x1.of.length)/\(RI x1.of.length x1.of x1.of))/\True))))
theorem q56f4 {x1:NOX} {x3:List Int}:q56F4 x1 x3:=⟨⟨rl,rr⟩,q56f2,⟨rl,rr⟩,⟨rl,rr⟩,trivial⟩
set_option maxRecDepth 100000 in
theorem vnodes_keeps:Keeps cfgVn Tryz.f90 vnodesC vnodesI:=Eq.mp (show(∀ x1:NOX,((x1.of.length<=(1048576:Nat))->(∃ x3:List Int,((x3.length<=(1048576:Nat))/\(((0=0/\x1.of.length=x3.length)/\True)/\(((RW [.int .i64] x3.length x1.of.length (encL encI x1.of) (encL encI x3))/\True)/\(∃ x4:Nat,(((x4<=(ofZ x1.of x1.of.length).length)/\(((0=(x4:Int))/\((True/\(0=0/\((nodesAt x1.g.n x1.of x4).length=(0:Nat))))/\(q56F3 x1 x3)))/\(((nodesAt x1.g.n x1.of x4).length=(0:Nat))/\(q56F4 x1 x3))))/\(∀ x5:Nat,((x5<=(ofZ x1.of x1.of.length).length)->(CB (decide ((x5:Int)<(↑(ofZ x3 x3.length).length:Int))) ((Ix (x5:Int) (↑(ofZ x3 x3.length).length:Int))/\((0+Int.toNat (x5:Int)<(ofZ x3 x3.length).length)/\(CB (decide ((ofZ x3 x3.length).getD (0+Int.toNat (x5:Int)) default<(x1.g.n:Int))) ((Ix (x5:Int) (↑(ofZ x3 x3.length).length:Int))/\((0+Int.toNat (x5:Int)<(ofZ x3 x3.length).length)/\(((True/\True)/\True)/\((0=0/\(((nodesAt x1.g.n x1.of x5).length<=(nodesAt x1.g.n x1.of x5).length)/\(((1:Nat)<=(1:Nat))/\((nodesAt x1.g.n x1.of x5).length+(1:Nat)<=(1073741824:Nat)))))/\((R6 ((x5:Int)+1))/\(∃ x9:Nat,(((ofZ x1.of x1.of.length).length-x9<(ofZ x1.of x1.of.length).length-x5)/\((x9<=(ofZ x1.of x1.of.length).length)/\((((x5:Int)+1=(x9:Int))/\((0=0/\((nodesAt x1.g.n x1.of x5).length+(1:Nat)=(nodesAt x1.g.n x1.of x9).length))/\(q56F3 x1 x3)))/\((RW [.int .i64] (nodesAt x1.g.n x1.of x9).length ((nodesAt x1.g.n x1.of x5).length+(1:Nat)) (appRows (nodesAt x1.g.n x1.of x5).length (encL encI (nodesAt x1.g.n x1.of x5)) 0 (litRows ((D.i ((ofZ x3 x3.length).getD (0+Int.toNat (x5:Int)) default)::@List.nil D)::@List.nil (List D)))) (encL encI (nodesAt x1.g.n x1.of x9)))/\(q56F4 x1 x3))))))))))) ((R6 ((x5:Int)+1))/\(∃ x11:Nat,(((ofZ x1.of x1.of.length).length-x11<(ofZ x1.of x1.of.length).length-x5)/\((x11<=(ofZ x1.of x1.of.length).length)/\((((x5:Int)+1=(x11:Int))/\((0=0/\((nodesAt x1.g.n x1.of x5).length=(nodesAt x1.g.n x1.of x11).length))/\(q56F3 x1 x3)))/\((RW [.int .i64] (nodesAt x1.g.n x1.of x11).length (nodesAt x1.g.n x1.of x5).length (encL encI (nodesAt x1.g.n x1.of x5)) (encL encI (nodesAt x1.g.n x1.of x11)))/\(q56F4 x1 x3)))))))))) ((0=0/\((nodesAt x1.g.n x1.of x5).length=(nodesL x1.g.n x1.of).length))/\((RW [.int .i64] (nodesL x1.g.n x1.of).length (nodesAt x1.g.n x1.of x5).length (encL encI (nodesAt x1.g.n x1.of x5)) (encL encI (nodesL x1.g.n x1.of)))/\True)))))))))))))=(Keeps cfgVn Tryz.f90 vnodesC vnodesI) by kernel_rfl) (fun x1=>fun h2=>⟨(NOX.of x1),(by omega),⟨⟨rfl,rfl⟩,trivial⟩,⟨⟨rl,rr⟩,trivial⟩,((0:Nat)),⟨(by omega),⟨(by omega),⟨trivial,rfl,rfl⟩,q56f3⟩,rfl,q56f4⟩,fun x5=>fun h6=>⟨fun g7=>have h7:=dT g7;⟨⟨(by omega),(by omega)⟩,(by omega),fun g8=>have h8:=dT g8;⟨⟨(by omega),(by omega)⟩,(by omega),⟨⟨trivial,trivial⟩,trivial⟩,⟨rfl,(by omega),(by omega),(by have:=nodesAt_len x1.g.n x1.of x5;omega)⟩,⟨(by omega),(by have:=ofZ_len x1.of x1.of.length;omega)⟩,(x5+(1:Nat)),(by omega),(by omega),⟨(by omega),⟨rfl,(by(try simp only[Nat.zero_add,Int.toNat_natCast]at *);have e:=nodes_yes ‹_› ‹_›;(simp only[e,List.length_append,List.length_singleton];done))⟩,q56f3⟩,⟨⟨(by(try simp only[Nat.zero_add,Int.toNat_natCast]at *);have e:=nodes_yes ‹_› ‹_›;(simp only[e,List.length_append,List.length_singleton];omega))⟩,(by(try simp only[Nat.zero_add,Int.toNat_natCast]at *);have e:=nodes_yes ‹_› ‹_›;(rw[e];exact pushR_rows))⟩,q56f4⟩,fun g10=>have h10:=dF g10;⟨⟨(by omega),(by have:=ofZ_len x1.of x1.of.length;omega)⟩,(x5+(1:Nat)),(by omega),(by omega),⟨(by omega),⟨rfl,(by(try simp only[Nat.zero_add,Int.toNat_natCast]at *);have e:=nodes_no ‹_› ‹_›;(rw[e];done))⟩,q56f3⟩,⟨⟨(by(try simp only[Nat.zero_add,Int.toNat_natCast]at *);have e:=nodes_no ‹_› ‹_›;(simp only[e,List.length_append,List.length_singleton];omega))⟩,(by(try simp only[Nat.zero_add,Int.toNat_natCast]at *);have e:=nodes_no ‹_› ‹_›;(rw[e];exact rr))⟩,q56f4⟩⟩,fun g12=>have h12:=dF g12;⟨⟨rfl,(by rw[(nodes_end (n:=x1.g.n) h6 h12)])⟩,⟨⟨(by(try simp only[Nat.zero_add,Int.toNat_natCast]at *);have e:=nodes_end (n:=x1.g.n) h6 h12;(simp only[e,List.length_append,List.length_singleton];omega))⟩,(by rw[(nodes_end (n:=x1.g.n) h6 h12)];exact rr)⟩,trivial⟩⟩⟩)
def vfreeC:CT where
 X:=List Un
 pre:=fun us=>us.length<=1048576
 args:=fun us=>[.sl 100000 0 us.length]
 g0:=fun us=>[(100000,.rows .bor kU us.length (encL encU us))]
 res:=fun us=>.sl 1 0 (freeL us).length
 g1:=fun us=>[(1,.rows .own k1 (freeL us).length (encL encI (freeL us)))]
def vfreeI (us:List Un) (id:Nat):Option Inv:=match id with
 |0=>some { X:=Nat,ok:=fun k=>k<=us.length,fr:=fun k=>[(4,.i .i64 k),(3,.sl 61 0 (freeAt us k).length)],hp:=fun k=>[(61,.rows .own k1 (freeAt us k).length (encL encI (freeAt us k)))],me:=fun k=>us.length-k }
 |_=>none
abbrev q57F0 (x1:List Un):Prop:=(True/\((0=0/\x1.length=x1.length)/\True))
theorem q57f0 {x1:List Un}:q57F0 x1:=⟨trivial,⟨rfl,rfl⟩,trivial⟩
abbrev q57F1 (x1:List Un):Prop:=(((RLe x1.length x1.length)/\(RowsEq kU x1.length (encL encU x1) (encL encU x1)))/\True)
theorem q57f1 {x1:List Un}:q57F1 x1:=⟨⟨rl,rr⟩,trivial⟩
set_option maxRecDepth 100000 in
theorem vfree_keeps:Keeps cfgN0 Tryz.f64 vfreeC vfreeI:=Eq.mp (show(∀ x1:List Un,((x1.length<=(1048576:Nat))->(∃ x3:Nat,(((x3<=x1.length)/\(((0=(x3:Int))/\((True/\(0=0/\((freeAt x1 x3).length=(0:Nat))))/\(q57F0 x1)))/\(((freeAt x1 x3).length=(0:Nat))/\(q57F1 x1))))/\(∀ x4:Nat,((x4<=x1.length)->(CB (decide ((x4:Int)<(x1.length:Int))) ((Ix (x4:Int) (x1.length:Int))/\((0+Int.toNat (x4:Int)<x1.length)/\(CB (decide ((x1.getD (0+Int.toNat (x4:Int)) default).st=(1:Int))) ((Ix (x4:Int) (x1.length:Int))/\((0+Int.toNat (x4:Int)<x1.length)/\(((True/\True)/\True)/\((0=0/\(((freeAt x1 x4).length<=(freeAt x1 x4).length)/\(((1:Nat)<=(1:Nat))/\((freeAt x1 x4).length+(1:Nat)<=(1073741824:Nat)))))/\((R6 ((x4:Int)+1))/\(∃ x8:Nat,((x1.length-x8<x1.length-x4)/\((x8<=x1.length)/\((((x4:Int)+1=(x8:Int))/\((0=0/\((freeAt x1 x4).length+(1:Nat)=(freeAt x1 x8).length))/\(q57F0 x1)))/\((RW [.int .i64] (freeAt x1 x8).length ((freeAt x1 x4).length+(1:Nat)) (appRows (freeAt x1 x4).length (encL encI (freeAt x1 x4)) 0 (litRows ((D.i (x1.getD (0+Int.toNat (x4:Int)) default).nd::@List.nil D)::@List.nil (List D)))) (encL encI (freeAt x1 x8)))/\(q57F1 x1))))))))))) ((R6 ((x4:Int)+1))/\(∃ x10:Nat,((x1.length-x10<x1.length-x4)/\((x10<=x1.length)/\((((x4:Int)+1=(x10:Int))/\((0=0/\((freeAt x1 x4).length=(freeAt x1 x10).length))/\(q57F0 x1)))/\((RW [.int .i64] (freeAt x1 x10).length (freeAt x1 x4).length (encL encI (freeAt x1 x4)) (encL encI (freeAt x1 x10)))/\(q57F1 x1)))))))))) ((0=0/\((freeAt x1 x4).length=(freeL x1).length))/\((RW [.int .i64] (freeL x1).length (freeAt x1 x4).length (encL encI (freeAt x1 x4)) (encL encI (freeL x1)))/\True)))))))))=(Keeps cfgN0 Tryz.f64 vfreeC vfreeI) by kernel_rfl) (fun x1=>fun h2=>⟨((0:Nat)),⟨(by omega),⟨(by omega),⟨trivial,rfl,rfl⟩,q57f0⟩,rfl,q57f1⟩,fun x4=>fun h5=>⟨fun g6=>have h6:=dT g6;⟨⟨(by omega),(by omega)⟩,(by omega),fun g7=>have h7:=dT g7;⟨⟨(by omega),(by omega)⟩,(by omega),⟨⟨trivial,trivial⟩,trivial⟩,⟨rfl,(by omega),(by omega),(by have:=freeAt_len (k:=x4) h2;omega)⟩,⟨(by omega),(by omega)⟩,(x4+(1:Nat)),(by omega),(by omega),⟨(by omega),⟨rfl,(by(try simp only[Nat.zero_add,Int.toNat_natCast]at *);have e:=free_yes ‹_› ‹_›;(simp only[e,List.length_append,List.length_singleton];done))⟩,q57f0⟩,⟨⟨(by(try simp only[Nat.zero_add,Int.toNat_natCast]at *);have e:=free_yes ‹_› ‹_›;(simp only[e,List.length_append,List.length_singleton];omega))⟩,(by(try simp only[Nat.zero_add,Int.toNat_natCast]at *);have e:=free_yes ‹_› ‹_›;(rw[e];exact pushR_rows))⟩,q57f1⟩,fun g9=>have h9:=dF g9;⟨⟨(by omega),(by omega)⟩,(x4+(1:Nat)),(by omega),(by omega),⟨(by omega),⟨rfl,(by(try simp only[Nat.zero_add,Int.toNat_natCast]at *);have e:=free_no ‹_› ‹_›;(rw[e];done))⟩,q57f0⟩,⟨⟨(by(try simp only[Nat.zero_add,Int.toNat_natCast]at *);have e:=free_no ‹_› ‹_›;(simp only[e,List.length_append,List.length_singleton];omega))⟩,(by(try simp only[Nat.zero_add,Int.toNat_natCast]at *);have e:=free_no ‹_› ‹_›;(rw[e];exact rr))⟩,q57f1⟩⟩,fun g11=>have h11:=dF g11;⟨⟨rfl,(by rw[(free_end ‹_› ‹_›)])⟩,⟨⟨(by(try simp only[Nat.zero_add,Int.toNat_natCast]at *);have e:=free_end ‹_› ‹_›;(simp only[e,List.length_append,List.length_singleton];omega))⟩,(by rw[(free_end ‹_› ‹_›)];exact rr)⟩,trivial⟩⟩⟩)
theorem vnodes_good:Good Tryz.prog 90 vnodesC/\FnOk Tryz.prog 90:=good_of tok conVn (fn:=Tryz.f90) rfl (by decide+kernel) (fun _=>rfl) vnodes_keeps
theorem vfree_good:Good Tryz.prog 64 vfreeC/\FnOk Tryz.prog 64:=good_of tok conN0 (fn:=Tryz.f64) rfl (by decide+kernel) (fun _=>rfl) vfree_keeps
structure WX where
 g:Gr
 ts:List Int
 src:List Int
 of:List Int
def WX.fx (x:WX):FX:=⟨x.g,x.ts,x.src⟩
structure WXok (x:WX):Prop where
 fx:FXok x.fx
 of:x.of.length<=1048576
def worstR (g:Gr) (ts src of:List Int):Int × Int:=worstF (distG g ts src true) (nodesL g.n of)
def vworstC:CT where
 X:=WX
 pre:=WXok
 args:=fun x=>[.agg [.i .i64 x.g.n,.sl 100000 0 x.g.es.length],.sl 100001 0 x.ts.length,.sl 100002 0 x.src.length,.sl 100003 0 x.of.length]
 g0:=fun x=>[(100000,.rows .bor kE x.g.es.length (encL encE x.g.es)),(100001,.rows .bor k1 x.ts.length (encL encI x.ts)),(100002,.rows .bor k1 x.src.length (encL encI x.src)),(100003,.rows .bor k1 x.of.length (encL encI x.of))]
 res:=fun x=>.tup [.i .i64 (worstR x.g x.ts x.src x.of).1,.i .i64 (worstR x.g x.ts x.src x.of).2]
 g1:=fun _=>[]
def vworstI (x:WX) (id:Nat):Option Inv:=match id with
 | 0 => some { X := Nat, ok := fun k => k <= (nodesL x.g.n x.of).length, fr := fun k => [(14, .i .i64 k), (11, .i .i64 (worstAt (distG x.g x.ts x.src true) (nodesL x.g.n x.of) k).1), (12, .i .i64 (worstAt (distG x.g x.ts x.src true) (nodesL x.g.n x.of) k).2)],
               hp:=fun _=>[],me:=fun k=>(nodesL x.g.n x.of).length-k }
 |_=>none
def cfgVw:Cfg:=⟨T,[],[(65,.one qfromC),(90,.one vnodesC)],noInv,50,{}⟩
theorem conVw:ConOk Tryz.prog cfgVw:=ConL.ok (.cons (ConL.one qfrom_good) (.cons (ConL.one vnodes_good) .nil))
abbrev q58F0 (x4:NOX):Prop:=(0=0/\((nodesL x4.g.n x4.of).length=(nodesL x4.g.n x4.of).length))
theorem q58f0 {x4:NOX}:q58F0 x4:=⟨rfl,rfl⟩
abbrev q58F1 (x1:WX):Prop:=(0=0/\x1.of.length=x1.of.length)
theorem q58f1 {x1:WX}:q58F1 x1:=⟨rfl,rfl⟩
abbrev q58F2 (x1:WX):Prop:=(((x1.g.n:Int)=(x1.g.n:Int))/\((0=0/\x1.g.es.length=x1.g.es.length)/\True))
theorem q58f2 {x1:WX}:q58F2 x1:=⟨rfl,⟨rfl,rfl⟩,trivial⟩
abbrev q58F3 (x1:WX):Prop:=(0=0/\x1.src.length=x1.src.length)
theorem q58f3 {x1:WX}:q58F3 x1:=⟨rfl,rfl⟩
abbrev q58F4 (x1:WX):Prop:=(0=0/\x1.ts.length=x1.ts.length)
theorem q58f4 {x1:WX}:q58F4 x1:=⟨rfl,rfl⟩
abbrev q58F5 (x1:WX) (x3:FX) (x4:NOX):Prop:=((q58F0 x4)/\((q58F0 x4)/\((q58F1 x1)/\((q58F2 x1)/\((0=0/\x3.g.n=x3.g.n)/\((0=0/\x3.g.n=x3.g.n)/\((q58F3 x1)/\((q58F4 x1)/\((q58F2 x1)/\(((0:Int)=0)/\(((0:Int)=0)/\((0=0/\0=0)/\((q58F2 x1)/\((q58F4 x1)/\((q58F3 x1)/\((q58F1 x1)/\True))))))))))))))))
theorem q58f5 {x1:WX} {x3:FX} {x4:NOX}:q58F5 x1 x3 x4:=⟨q58f0,q58f0,q58f1,q58f2,⟨rfl,rfl⟩,⟨rfl,rfl⟩,q58f3,q58f4,q58f2,rfl,rfl,⟨rfl,rfl⟩,q58f2,q58f4,q58f3,q58f1,trivial⟩
abbrev q58F6 (x1:WX) (x3:FX) (x4:NOX):Prop:=(((RLe (nodesL x4.g.n x4.of).length (nodesL x4.g.n x4.of).length)/\(RowsEq [.int .i64] (nodesL x4.g.n x4.of).length (encL encI (nodesL x4.g.n x4.of)) (encL encI (nodesL x4.g.n x4.of))))/\(((RLe x3.g.n x3.g.n)/\(RI x3.g.n (distG x3.g x3.ts x3.src true) (distG x3.g x3.ts x3.src true)))/\((q58F2 x1)/\(((RLe x1.g.es.length x1.g.es.length)/\(RowsEq [.int .i64,.int .i64,.int .i64] x1.g.es.length (encL encE x1.g.es) (encL encE x1.g.es)))/\(((RLe x1.ts.length x1.ts.length)/\(RI x1.ts.length x1.ts x1.ts))/\(((RLe x1.src.length x1.src.length)/\(RI x1.src.length x1.src x1.src))/\(((RLe x1.of.length x1.of.length)/\(RI x1.of.length x1.of x1.of))/\True)))))))
theorem q58f6 {x1:WX} {x3:FX} {x4:NOX}:q58F6 x1 x3 x4:=⟨⟨rl,rr⟩,⟨rl,rr⟩,q58f2,⟨rl,rr⟩,⟨rl,rr⟩,⟨rl,rr⟩,⟨rl,rr⟩,trivial⟩
set_option maxRecDepth 100000 in
theorem vworst_keeps:Keeps cfgVw Tryz.f63 vworstC vworstI:=Eq.mp (show(∀ x1:WX,((WXok x1)->(∃ x3:FX,((FXok x3)/\(((((x1.g.n:Int)=(x3.g.n:Int))/\((0=0/\x1.g.es.length=x3.g.es.length)/\True))/\((0=0/\x1.ts.length=x3.ts.length)/\((0=0/\x1.src.length=x3.src.length)/\True)))/\(((RW [.int .i64,.int .i64,.int .i64] x3.g.es.length x1.g.es.length (encL encE x1.g.es) (encL encE x3.g.es))/\((RW [.int .i64] x3.ts.length x1.ts.length (encL encI x1.ts) (encL encI x3.ts))/\((RW [.int .i64] x3.src.length x1.src.length (encL encI x1.src) (encL encI x3.src))/\True)))/\(∃ x4:NOX,((x4.of.length<=(1048576:Nat))/\(((((x1.g.n:Int)=(x4.g.n:Int))/\((0=0/\x1.g.es.length=x4.g.es.length)/\True))/\((0=0/\x1.of.length=x4.of.length)/\True))/\(((RW [.int .i64,.int .i64,.int .i64] x4.g.es.length x1.g.es.length (encL encE x1.g.es) (encL encE x4.g.es))/\((RW [.int .i64] x4.of.length x1.of.length (encL encI x1.of) (encL encI x4.of))/\True))/\(∃ x5:Nat,(((x5<=(nodesL x1.g.n x1.of).length)/\(((0=(x5:Int))/\(((0:Int)=Prod.fst (worstAt (distG x1.g x1.ts x1.src true) (nodesL x1.g.n x1.of) x5))/\(((-1:Int)=Prod.snd (worstAt (distG x1.g x1.ts x1.src true) (nodesL x1.g.n x1.of) x5))/\(q58F5 x1 x3 x4))))/\(q58F6 x1 x3 x4)))/\(∀ x6:Nat,((x6<=(nodesL x1.g.n x1.of).length)->(CB (decide ((x6:Int)<(↑(nodesL x4.g.n x4.of).length:Int))) (CN (decide (Prod.snd (worstAt (distG x1.g x1.ts x1.src true) (nodesL x1.g.n x1.of) x6)<(0:Int))) ((Ix (x6:Int) (↑(nodesL x4.g.n x4.of).length:Int))/\((0+Int.toNat (x6:Int)<(nodesL x4.g.n x4.of).length)/\((Ix ((nodesL x4.g.n x4.of).getD (0+Int.toNat (x6:Int)) default) (x3.g.n:Int))/\((0+Int.toNat ((nodesL x4.g.n x4.of).getD (0+Int.toNat (x6:Int)) default)<x3.g.n)/\(CB (decide (Prod.fst (worstAt (distG x1.g x1.ts x1.src true) (nodesL x1.g.n x1.of) x6)<(distG x3.g x3.ts x3.src true).getD (0+Int.toNat ((nodesL x4.g.n x4.of).getD (0+Int.toNat (x6:Int)) default)) default)) ((Ix (x6:Int) (↑(nodesL x4.g.n x4.of).length:Int))/\((0+Int.toNat (x6:Int)<(nodesL x4.g.n x4.of).length)/\((Ix ((nodesL x4.g.n x4.of).getD (0+Int.toNat (x6:Int)) default) (x3.g.n:Int))/\((0+Int.toNat ((nodesL x4.g.n x4.of).getD (0+Int.toNat (x6:Int)) default)<x3.g.n)/\((Ix (x6:Int) (↑(nodesL x4.g.n x4.of).length:Int))/\((0+Int.toNat (x6:Int)<(nodesL x4.g.n x4.of).length)/\((R6 ((x6:Int)+1))/\(∃ x11:Nat,(((nodesL x1.g.n x1.of).length-x11<(nodesL x1.g.n x1.of).length-x6)/\((x11<=(nodesL x1.g.n x1.of).length)/\((((x6:Int)+1=(x11:Int))/\(((distG x3.g x3.ts x3.src true).getD (0+Int.toNat ((nodesL x4.g.n x4.of).getD (0+Int.toNat (x6:Int)) default)) default=Prod.fst (worstAt (distG x1.g x1.ts x1.src true) (nodesL x1.g.n x1.of) x11))/\(((nodesL x4.g.n x4.of).getD (0+Int.toNat (x6:Int)) default=Prod.snd (worstAt (distG x1.g x1.ts x1.src true) (nodesL x1.g.n x1.of) x11))/\(q58F5 x1 x3 x4))))/\(q58F6 x1 x3 x4)))))))))))) ((R6 ((x6:Int)+1))/\(∃ x13:Nat,(((nodesL x1.g.n x1.of).length-x13<(nodesL x1.g.n x1.of).length-x6)/\((x13<=(nodesL x1.g.n x1.of).length)/\((((x6:Int)+1=(x13:Int))/\((Prod.fst (worstAt (distG x1.g x1.ts x1.src true) (nodesL x1.g.n x1.of) x6)=Prod.fst (worstAt (distG x1.g x1.ts x1.src true) (nodesL x1.g.n x1.of) x13))/\((Prod.snd (worstAt (distG x1.g x1.ts x1.src true) (nodesL x1.g.n x1.of) x6)=Prod.snd (worstAt (distG x1.g x1.ts x1.src true) (nodesL x1.g.n x1.of) x13))/\(q58F5 x1 x3 x4))))/\(q58F6 x1 x3 x4))))))))))) ((Ix (x6:Int) (↑(nodesL x4.g.n x4.of).length:Int))/\((0+Int.toNat (x6:Int)<(nodesL x4.g.n x4.of).length)/\((Ix ((nodesL x4.g.n x4.of).getD (0+Int.toNat (x6:Int)) default) (x3.g.n:Int))/\((0+Int.toNat ((nodesL x4.g.n x4.of).getD (0+Int.toNat (x6:Int)) default)<x3.g.n)/\((Ix (x6:Int) (↑(nodesL x4.g.n x4.of).length:Int))/\((0+Int.toNat (x6:Int)<(nodesL x4.g.n x4.of).length)/\((R6 ((x6:Int)+1))/\(∃ x15:Nat,(((nodesL x1.g.n x1.of).length-x15<(nodesL x1.g.n x1.of).length-x6)/\((x15<=(nodesL x1.g.n x1.of).length)/\((((x6:Int)+1=(x15:Int))/\(((distG x3.g x3.ts x3.src true).getD (0+Int.toNat ((nodesL x4.g.n x4.of).getD (0+Int.toNat (x6:Int)) default)) default=Prod.fst (worstAt (distG x1.g x1.ts x1.src true) (nodesL x1.g.n x1.of) x15))/\(((nodesL x4.g.n x4.of).getD (0+Int.toNat (x6:Int)) default=Prod.snd (worstAt (distG x1.g x1.ts x1.src true) (nodesL x1.g.n x1.of) x15))/\(q58F5 x1 x3 x4))))/\(q58F6 x1 x3 x4))))))))))))) (((Prod.fst (worstAt (distG x1.g x1.ts x1.src true) (nodesL x1.g.n x1.of) x6)=Prod.fst (worstR x1.g x1.ts x1.src x1.of))/\((Prod.snd (worstAt (distG x1.g x1.ts x1.src true) (nodesL x1.g.n x1.of) x6)=Prod.snd (worstR x1.g x1.ts x1.src x1.of))/\True))/\True))))))))))))))))=(Keeps cfgVw Tryz.f63 vworstC vworstI) by kernel_rfl) (fun x1=>fun h2=>⟨({ g:=WX.g x1,ts:=WX.ts x1,src:=WX.src x1:FX }),h2.fx,⟨⟨rfl,⟨rfl,rfl⟩,trivial⟩,⟨rfl,rfl⟩,⟨rfl,rfl⟩,trivial⟩,⟨⟨rl,rr⟩,⟨rl,rr⟩,⟨rl,rr⟩,trivial⟩,({ g:=WX.g x1,of:=WX.of x1:NOX }),h2.of,⟨⟨rfl,⟨rfl,rfl⟩,trivial⟩,⟨rfl,rfl⟩,trivial⟩,⟨⟨rl,rr⟩,⟨rl,rr⟩,trivial⟩,((0:Nat)),⟨(by omega),⟨(by omega),rfl,rfl,q58f5⟩,q58f6⟩,fun x6=>fun h7=>⟨fun g8=>have h8:=dT g8;⟨fun g9=>have h9:=dF g9;⟨⟨(by omega),(by omega)⟩,(by omega),⟨(by(try simp only[Nat.zero_add,Int.toNat_natCast]at *);have:=nodesL_at (n:=x1.g.n) (of:=x1.of) (k:=x6) (by omega);omega),(by(try simp only[Nat.zero_add,Int.toNat_natCast]at *);have:=nodesL_at (n:=x1.g.n) (of:=x1.of) (k:=x6) (by omega);omega)⟩,(by(try simp only[Nat.zero_add,Int.toNat_natCast]at *);have:=nodesL_at (n:=x1.g.n) (of:=x1.of) (k:=x6) (by omega);omega),fun g10=>have h10:=dT g10;⟨⟨(by omega),(by omega)⟩,(by omega),⟨(by(try simp only[Nat.zero_add,Int.toNat_natCast]at *);have:=nodesL_at (n:=x1.g.n) (of:=x1.of) (k:=x6) (by omega);omega),(by(try simp only[Nat.zero_add,Int.toNat_natCast]at *);have:=nodesL_at (n:=x1.g.n) (of:=x1.of) (k:=x6) (by omega);omega)⟩,(by(try simp only[Nat.zero_add,Int.toNat_natCast]at *);have:=nodesL_at (n:=x1.g.n) (of:=x1.of) (k:=x6) (by omega);omega),⟨(by omega),(by omega)⟩,(by omega),⟨(by omega),(by have:=nodesL_len x1.g.n x1.of;(try simp only at *);omega)⟩,(x6+(1:Nat)),(by(try dsimp only at *);omega),(by(try dsimp only at *);omega),⟨(by omega),(by(try simp only[Nat.zero_add,Int.toNat_natCast]at *);have e:=worst_up ‹_› ‹_›;(rw[e];done)),(by(try simp only[Nat.zero_add,Int.toNat_natCast]at *);have e:=worst_up ‹_› ‹_›;(rw[e];done)),q58f5⟩,q58f6⟩,fun g12=>have h12:=dF g12;⟨⟨(by omega),(by have:=nodesL_len x1.g.n x1.of;(try simp only at *);omega)⟩,(x6+(1:Nat)),(by(try dsimp only at *);omega),(by(try dsimp only at *);omega),⟨(by omega),(by(try simp only[Nat.zero_add,Int.toNat_natCast]at *);have e:=worst_no ‹_› ‹_› ‹_›;(rw[e];done)),(by(try simp only[Nat.zero_add,Int.toNat_natCast]at *);have e:=worst_no ‹_› ‹_› ‹_›;(rw[e];done)),q58f5⟩,q58f6⟩⟩,fun g14=>have h14:=dT g14;⟨⟨(by omega),(by omega)⟩,(by omega),⟨(by(try simp only[Nat.zero_add,Int.toNat_natCast]at *);have:=nodesL_at (n:=x1.g.n) (of:=x1.of) (k:=x6) (by omega);omega),(by(try simp only[Nat.zero_add,Int.toNat_natCast]at *);have:=nodesL_at (n:=x1.g.n) (of:=x1.of) (k:=x6) (by omega);omega)⟩,(by(try simp only[Nat.zero_add,Int.toNat_natCast]at *);have:=nodesL_at (n:=x1.g.n) (of:=x1.of) (k:=x6) (by omega);omega),⟨(by omega),(by omega)⟩,(by omega),⟨(by omega),(by have:=nodesL_len x1.g.n x1.of;(try simp only at *);omega)⟩,(x6+(1:Nat)),(by(try dsimp only at *);omega),(by(try dsimp only at *);omega),⟨(by omega),(by(try simp only[Nat.zero_add,Int.toNat_natCast]at *);have e:=worst_neg ‹_› ‹_›;(rw[e];done)),(by(try simp only[Nat.zero_add,Int.toNat_natCast]at *);have e:=worst_neg ‹_› ‹_›;(rw[e];done)),q58f5⟩,q58f6⟩⟩,fun g16=>have h16:=dF g16;⟨⟨(congrArg Prod.fst (worst_end h7 h16)),(congrArg Prod.snd (worst_end h7 h16)),trivial⟩,trivial⟩⟩⟩)
theorem vworst_good:Good Tryz.prog 63 vworstC/\FnOk Tryz.prog 63:=good_of tok conVw (fn:=Tryz.f63) rfl (by decide+kernel) (fun _=>rfl) vworst_keeps
theorem UXok.w {x:UX} (h:UXok x):WXok ⟨x.g,x.ts,freeL x.us,x.of⟩:=⟨⟨h.g,h.n,Nat.le_trans (freeL_len _) h.us⟩,h.of⟩
def worstU (g:Gr) (ts:List Int) (us:List Un) (of:List Int):Int × Int:=worstR g ts (freeL us) of
def netA (g:Gr):SV:=.agg [.i .i64 g.n,.sl 100000 0 g.es.length]
def vWorstC:CT where
 X:=UX
 pre:=UXok
 args:=fun x=>[netA x.g,.sl 100001 0 x.ts.length,.sl 100002 0 x.us.length,.sl 100003 0 x.of.length]
 g0:=fun x=>[(100000,.rows .bor kE x.g.es.length (encL encE x.g.es)),(100001,.rows .bor k1 x.ts.length (encL encI x.ts)),(100002,.rows .bor kU x.us.length (encL encU x.us)),(100003,.rows .bor k1 x.of.length (encL encI x.of))]
 res:=fun x=>.tup [.i .i64 (worstU x.g x.ts x.us x.of).1,.i .i64 (worstU x.g x.ts x.us x.of).2]
 g1:=fun _=>[]
def cfgVW:Cfg:=⟨T,[],[(64,.one vfreeC),(63,.one vworstC)],noInv,50,{}⟩
theorem conVW:ConOk Tryz.prog cfgVW:=ConL.ok (.cons (ConL.one vfree_good) (.cons (ConL.one vworst_good) .nil))
set_option maxRecDepth 100000 in
theorem vWorst_keeps:Keeps cfgVW Tryz.f35 vWorstC noIv:=Eq.mp (show(∀ x1:UX,((UXok x1)->(∃ x3:List Un,((x3.length<=(1048576:Nat))/\(((0=0/\x1.us.length=x3.length)/\True)/\(((RW kU x3.length x1.us.length (encL encU x1.us) (encL encU x3))/\True)/\(∃ x4:WX,((WXok x4)/\(((((x1.g.n:Int)=(x4.g.n:Int))/\((0=0/\x1.g.es.length=x4.g.es.length)/\True))/\((0=0/\x1.ts.length=x4.ts.length)/\((0=0/\((freeL x3).length=x4.src.length))/\((0=0/\x1.of.length=x4.of.length)/\True))))/\(((RW [.int .i64,.int .i64,.int .i64] x4.g.es.length x1.g.es.length (encL encE x1.g.es) (encL encE x4.g.es))/\((RW [.int .i64] x4.ts.length x1.ts.length (encL encI x1.ts) (encL encI x4.ts))/\((RW [.int .i64] x4.src.length (freeL x3).length (encL encI (freeL x3)) (encL encI x4.src))/\((RW [.int .i64] x4.of.length x1.of.length (encL encI x1.of) (encL encI x4.of))/\True))))/\(((Prod.fst (worstR x4.g x4.ts x4.src x4.of)=Prod.fst (worstU x1.g x1.ts x1.us x1.of))/\((Prod.snd (worstR x4.g x4.ts x4.src x4.of)=Prod.snd (worstU x1.g x1.ts x1.us x1.of))/\True))/\True)))))))))))=(Keeps cfgVW Tryz.f35 vWorstC noIv) by kernel_rfl) (fun x1=>fun h2=>⟨(UX.us x1),h2.us,⟨⟨rfl,rfl⟩,trivial⟩,⟨⟨rl,rr⟩,trivial⟩,({ g:=UX.g x1,ts:=UX.ts x1,src:=freeL (UX.us x1),of:=UX.of x1:WX }),h2.w,⟨⟨rfl,⟨rfl,rfl⟩,trivial⟩,⟨rfl,rfl⟩,⟨rfl,rfl⟩,⟨rfl,rfl⟩,trivial⟩,⟨⟨rl,rr⟩,⟨rl,rr⟩,⟨rl,rr⟩,⟨rl,rr⟩,trivial⟩,⟨rfl,rfl,trivial⟩,trivial⟩)
theorem vWorst_good:Good Tryz.prog 35 vWorstC/\FnOk Tryz.prog 35:=good_of tok conVW (fn:=Tryz.f35) rfl (by decide+kernel) (fun _=>rfl) vWorst_keeps
end Go.Sym
namespace Go.Sym
set_option linter.unusedVariables false
structure VX where
 g:Gr
 ts:List Int
 us:List Un
 of:List Int
 t:Int
def VX.u (x:VX):UX:=⟨x.g,x.ts,x.us,x.of⟩
end Go.Sym