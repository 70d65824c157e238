import Derived.Test.YtlldhkhmhgcpaaaGreatDoorK1
import Derived.Test.YtlldhkhmhgcpaaaGreatDoorXD
import Derived.Test.YtlldhkhmhgcpaaaGreatDoorAP
namespace Go.Sym
set_option linter.unusedVariables false
set_option linter.unusedSimpArgs false
open Go.Proofs
set_option maxRecDepth 100000
set_option maxHeartbeats 4000000
structure YX where
 g:Gr
 ts:List Int
 us:List Un
 ws:List Nat
 t:Int
structure YXok (x:YX):Prop where
 u:UXok ⟨x.g,x.ts,x.us,[]⟩
 w:WOk x.ws
theorem YXok.g {x:YX} (h:YXok x):GWok ⟨x.g,x.ws⟩:=⟨h.u.g.n,h.w⟩
def worstW (g:Gr) (ts:List Int) (us:List Un) (ws:List Nat):Int × Int:=worstF (distG g ts (freeL us) true) (nodesW g.n ws)
def wwaitC:CT where
 X:=YX
 pre:=YXok
 args:=fun x=>[.p 100000 0 0,.sl 100001 0 x.ts.length,.sl 100002 0 x.us.length,setV x.ws 100003]
 g0:=fun x=>graphH x.g 100000++[(100001,.rows .bor k1 x.ts.length (encL encI x.ts)),(100002,.rows .bor kU x.us.length (encL encU x.us))]++setH x.ws .bor 100003
 res:=fun x=>.tup [.i .i64 (worstW x.g x.ts x.us x.ws).1,.i .i64 (worstW x.g x.ts x.us x.ws).2]
 g1:=fun x=>[]
def wwaitI (x:YX) (id:Nat):Option Inv:=match id with
 | 0 => some { X := Nat, ok := fun k => k <= (nodesW x.g.n x.ws).length, fr := fun k => [(23, .i .i64 k), (11, .i .i64 (worstAt (distG x.g x.ts (freeL x.us) true) (nodesW x.g.n x.ws) k).1), (12, .i .i64 (worstAt (distG x.g x.ts (freeL x.us) true) (nodesW x.g.n x.ws) k).2)],
               hp:=fun _=>[],me:=fun k=>(nodesW x.g.n x.ws).length-k }
 |_=>none
def cfgK2:Cfg:=⟨T,[],[(42,.one respC),(43,.one nodesOfC)],noInv,60,{}⟩
theorem conK2:ConOk Tryz.prog cfgK2:=ConL.ok (.cons (ConL.one resp_good) (.cons (ConL.one nodesOf_good) .nil))
abbrev q70F0 (x1:YX):Prop:=(0=0/\x1.us.length=x1.us.length)
theorem q70f0 {x1:YX}:q70F0 x1:=⟨rfl,rfl⟩
abbrev q70F1 (x1:YX):Prop:=(0=0/\x1.ts.length=x1.ts.length)
theorem q70f1 {x1:YX}:q70F1 x1:=⟨rfl,rfl⟩
abbrev q70F2 (x1:YX) (x3:UX) (x4:GWX):Prop:=(((↑(nodesW x4.g.n x4.ws).length:Int)=(↑(nodesW x4.g.n x4.ws).length:Int))/\((0=0/\((nodesW x4.g.n x4.ws).length=(nodesW x4.g.n x4.ws).length))/\(((szW x1.ws=szW x1.ws)/\True)/\((0=0/\0=0)/\((0=0/\x3.g.n=x3.g.n)/\((0=0/\x3.g.n=x3.g.n)/\((q70F0 x1)/\((q70F1 x1)/\((0=0/\0=0)/\(((0:Int)=0)/\(((0:Int)=0)/\((0=0/\0=0)/\((0=0/\0=0)/\((q70F1 x1)/\((q70F0 x1)/\(((szW x1.ws=szW x1.ws)/\True)/\True))))))))))))))))
theorem q70f2 {x1:YX} {x3:UX} {x4:GWX}:q70F2 x1 x3 x4:=⟨rfl,⟨rfl,rfl⟩,⟨rfl,trivial⟩,⟨rfl,rfl⟩,⟨rfl,rfl⟩,⟨rfl,rfl⟩,q70f0,q70f1,⟨rfl,rfl⟩,rfl,rfl,⟨rfl,rfl⟩,⟨rfl,rfl⟩,q70f1,q70f0,⟨rfl,trivial⟩,trivial⟩
abbrev q70F3 (x1:YX) (x3:UX) (x4:GWX):Prop:=(((RLe (nodesW x4.g.n x4.ws).length (nodesW x4.g.n x4.ws).length)/\(RowsEq [.int .i64] (nodesW x4.g.n x4.ws).length (encL encI (nodesW x4.g.n x4.ws)) (encL encI (nodesW x4.g.n x4.ws))))/\(((RLe x3.g.n x3.g.n)/\(RI x3.g.n (distG x3.g x3.ts (freeL x3.us) true) (distG x3.g x3.ts (freeL x3.us) true)))/\(((szW x1.ws=szW x1.ws)/\True)/\((RLe 1 1/\(RowsEq [.sl [.int .i64,.int .i64,.int .i64],.sl [.sl [.int .i64]],.sl [.sl [.int .i64]]] 1 (encG x1.g) (encG x1.g)))/\(((RLe x1.ts.length x1.ts.length)/\(RI x1.ts.length x1.ts x1.ts))/\(((RLe x1.us.length x1.us.length)/\(RowsEq kU x1.us.length (encL encU x1.us) (encL encU x1.us)))/\(((RLe (szW x1.ws) (szW x1.ws))/\(RowsEq [.int .u64] (szW x1.ws) (encL encW x1.ws) (encL encW x1.ws)))/\True)))))))
theorem q70f3 {x1:YX} {x3:UX} {x4:GWX}:q70F3 x1 x3 x4:=⟨⟨rl,rr⟩,⟨rl,rr⟩,⟨rfl,trivial⟩,⟨rl,rr⟩,⟨rl,rr⟩,⟨rl,rr⟩,⟨rl,rr⟩,trivial⟩
set_option maxRecDepth 100000 in
theorem wwait_keeps:Keeps cfgK2 Tryz.f15 wwaitC wwaitI:=Eq.mp (show(∀ x1:YX,((YXok x1)->(∃ x3:UX,((UXok x3)/\(((0=0/\0=0)/\((0=0/\x1.ts.length=x3.ts.length)/\((0=0/\x1.us.length=x3.us.length)/\True)))/\(((RW [.sl [.int .i64,.int .i64,.int .i64],.sl [.sl [.int .i64]],.sl [.sl [.int .i64]]] 1 1 (encG x1.g) (encG x3.g))/\((RW [.int .i64] x3.ts.length x1.ts.length (encL encI x1.ts) (encL encI x3.ts))/\((RW kU x3.us.length x1.us.length (encL encU x1.us) (encL encU x3.us))/\True)))/\(∃ x4:GWX,((GWok x4)/\(((0=0/\0=0)/\(((szW x1.ws=szW x4.ws)/\True)/\True))/\(((RW [.sl [.int .i64,.int .i64,.int .i64],.sl [.sl [.int .i64]],.sl [.sl [.int .i64]]] 1 1 (encG x1.g) (encG x4.g))/\((RW [.int .u64] (szW x4.ws) (szW x1.ws) (encL encW x1.ws) (encL encW x4.ws))/\True))/\(∃ x5:Nat,(((x5<=(nodesW x1.g.n x1.ws).length)/\(((0=(x5:Int))/\(((0:Int)=Prod.fst (worstAt (distG x1.g x1.ts (freeL x1.us) true) (nodesW x1.g.n x1.ws) x5))/\(((-1:Int)=Prod.snd (worstAt (distG x1.g x1.ts (freeL x1.us) true) (nodesW x1.g.n x1.ws) x5))/\(q70F2 x1 x3 x4))))/\(q70F3 x1 x3 x4)))/\(∀ x6:Nat,((x6<=(nodesW x1.g.n x1.ws).length)->(CB (decide ((x6:Int)<(↑(nodesW x4.g.n x4.ws).length:Int))) ((Ix (x6:Int) (↑(nodesW x4.g.n x4.ws).length:Int))/\((0+Int.toNat (x6:Int)<(nodesW x4.g.n x4.ws).length)/\(CN (decide (Prod.snd (worstAt (distG x1.g x1.ts (freeL x1.us) true) (nodesW x1.g.n x1.ws) x6)<(0:Int))) ((Ix ((nodesW x4.g.n x4.ws).getD (0+Int.toNat (x6:Int)) default) (x3.g.n:Int))/\((0+Int.toNat ((nodesW x4.g.n x4.ws).getD (0+Int.toNat (x6:Int)) default)<x3.g.n)/\(CB (decide (Prod.fst (worstAt (distG x1.g x1.ts (freeL x1.us) true) (nodesW x1.g.n x1.ws) x6)<(distG x3.g x3.ts (freeL x3.us) true).getD (0+Int.toNat ((nodesW x4.g.n x4.ws).getD (0+Int.toNat (x6:Int)) default)) default)) ((Ix ((nodesW x4.g.n x4.ws).getD (0+Int.toNat (x6:Int)) default) (x3.g.n:Int))/\((0+Int.toNat ((nodesW x4.g.n x4.ws).getD (0+Int.toNat (x6:Int)) default)<x3.g.n)/\((R6 ((x6:Int)+1))/\(∃ x11:Nat,(((nodesW x1.g.n x1.ws).length-x11<(nodesW x1.g.n x1.ws).length-x6)/\((x11<=(nodesW x1.g.n x1.ws).length)/\((((x6:Int)+1=(x11:Int))/\(((distG x3.g x3.ts (freeL x3.us) true).getD (0+Int.toNat ((nodesW x4.g.n x4.ws).getD (0+Int.toNat (x6:Int)) default)) default=Prod.fst (worstAt (distG x1.g x1.ts (freeL x1.us) true) (nodesW x1.g.n x1.ws) x11))/\(((nodesW x4.g.n x4.ws).getD (0+Int.toNat (x6:Int)) default=Prod.snd (worstAt (distG x1.g x1.ts (freeL x1.us) true) (nodesW x1.g.n x1.ws) x11))/\(q70F2 x1 x3 x4))))/\(q70F3 x1 x3 x4)))))))) ((R6 ((x6:Int)+1))/\(∃ x13:Nat,(((nodesW x1.g.n x1.ws).length-x13<(nodesW x1.g.n x1.ws).length-x6)/\((x13<=(nodesW x1.g.n x1.ws).length)/\((((x6:Int)+1=(x13:Int))/\((Prod.fst (worstAt (distG x1.g x1.ts (freeL x1.us) true) (nodesW x1.g.n x1.ws) x6)=Prod.fst (worstAt (distG x1.g x1.ts (freeL x1.us) true) (nodesW x1.g.n x1.ws) x13))/\((Prod.snd (worstAt (distG x1.g x1.ts (freeL x1.us) true) (nodesW x1.g.n x1.ws) x6)=Prod.snd (worstAt (distG x1.g x1.ts (freeL x1.us) true) (nodesW x1.g.n x1.ws) x13))/\(q70F2 x1 x3 x4))))/\(q70F3 x1 x3 x4))))))))) ((Ix ((nodesW x4.g.n x4.ws).getD (0+Int.toNat (x6:Int)) default) (x3.g.n:Int))/\((0+Int.toNat ((nodesW x4.g.n x4.ws).getD (0+Int.toNat (x6:Int)) default)<x3.g.n)/\((R6 ((x6:Int)+1))/\(∃ x15:Nat,(((nodesW x1.g.n x1.ws).length-x15<(nodesW x1.g.n x1.ws).length-x6)/\((x15<=(nodesW x1.g.n x1.ws).length)/\((((x6:Int)+1=(x15:Int))/\(((distG x3.g x3.ts (freeL x3.us) true).getD (0+Int.toNat ((nodesW x4.g.n x4.ws).getD (0+Int.toNat (x6:Int)) default)) default=Prod.fst (worstAt (distG x1.g x1.ts (freeL x1.us) true) (nodesW x1.g.n x1.ws) x15))/\(((nodesW x4.g.n x4.ws).getD (0+Int.toNat (x6:Int)) default=Prod.snd (worstAt (distG x1.g x1.ts (freeL x1.us) true) (nodesW x1.g.n x1.ws) x15))/\(q70F2 x1 x3 x4))))/\(q70F3 x1 x3 x4))))))))))) (((Prod.fst (worstAt (distG x1.g x1.ts (freeL x1.us) true) (nodesW x1.g.n x1.ws) x6)=Prod.fst (worstW x1.g x1.ts x1.us x1.ws))/\((Prod.snd (worstAt (distG x1.g x1.ts (freeL x1.us) true) (nodesW x1.g.n x1.ws) x6)=Prod.snd (worstW x1.g x1.ts x1.us x1.ws))/\True))/\True))))))))))))))))=(Keeps cfgK2 Tryz.f15 wwaitC wwaitI) by kernel_rfl) (fun x1=>fun h2=>⟨({ g:=YX.g x1,ts:=YX.ts x1,us:=YX.us x1,of:=@List.nil Int:UX }),(by(try dsimp only at *);exact h2.u),⟨⟨rfl,rfl⟩,⟨rfl,rfl⟩,⟨rfl,rfl⟩,trivial⟩,⟨⟨rl,rr⟩,⟨rl,rr⟩,⟨rl,rr⟩,trivial⟩,({ g:=YX.g x1,ws:=YX.ws x1:GWX }),(by(try dsimp only at *);exact h2.g),⟨⟨rfl,rfl⟩,⟨rfl,trivial⟩,trivial⟩,⟨⟨rl,rr⟩,⟨rl,rr⟩,trivial⟩,((0:Nat)),⟨(by(try dsimp only at *);omega),⟨(by(try dsimp only at *);omega),(by(try dsimp only at *);rfl),(by(try dsimp only at *);rfl),q70f2⟩,q70f3⟩,fun x6=>fun h7=>⟨fun g8=>have h8:=dT g8;⟨⟨(by(try dsimp only at *);omega),(by(try dsimp only at *);omega)⟩,(by(try dsimp only at *);omega),fun g9=>have h9:=dF g9;⟨⟨(by(try dsimp only at *);((try simp only[Nat.zero_add,Int.toNat_natCast]at *);have:=nodesW_at (n:=x1.g.n) (ws:=x1.ws) (k:=x6) (by omega);omega)),(by(try dsimp only at *);((try simp only[Nat.zero_add,Int.toNat_natCast]at *);have:=nodesW_at (n:=x1.g.n) (ws:=x1.ws) (k:=x6) (by omega);omega))⟩,(by(try dsimp only at *);((try simp only[Nat.zero_add,Int.toNat_natCast]at *);have:=nodesW_at (n:=x1.g.n) (ws:=x1.ws) (k:=x6) (by omega);omega)),fun g10=>have h10:=dT g10;⟨⟨(by(try dsimp only at *);((try simp only[Nat.zero_add,Int.toNat_natCast]at *);have:=nodesW_at (n:=x1.g.n) (ws:=x1.ws) (k:=x6) (by omega);omega)),(by(try dsimp only at *);((try simp only[Nat.zero_add,Int.toNat_natCast]at *);have:=nodesW_at (n:=x1.g.n) (ws:=x1.ws) (k:=x6) (by omega);omega))⟩,(by(try dsimp only at *);((try simp only[Nat.zero_add,Int.toNat_natCast]at *);have:=nodesW_at (n:=x1.g.n) (ws:=x1.ws) (k:=x6) (by omega);omega)),⟨(by(try dsimp only at *);omega),(by(try dsimp only at *);(have:=nodesW_len x1.g.n x1.ws;(try simp only at *);omega))⟩,(x6+(1:Nat)),(by(try dsimp only at *);omega),(by(try dsimp only at *);omega),⟨(by(try dsimp only at *);omega),(by(try dsimp only at *);(((try simp only[Nat.zero_add,Int.toNat_natCast]at *);have e:=(worst_up ‹_› ‹_›);first|(rw[e];done)|(rw[e];rfl)|(rw[e];exact rr)|(rw[e];exact pushR_rows)|(simp only[e,List.length_append,List.length_singleton];done)|(simp only[e,List.length_append,List.length_singleton];omega)))),(by(try dsimp only at *);(((try simp only[Nat.zero_add,Int.toNat_natCast]at *);have e:=(worst_up ‹_› ‹_›);first|(rw[e];done)|(rw[e];rfl)|(rw[e];exact rr)|(rw[e];exact pushR_rows)|(simp only[e,List.length_append,List.length_singleton];done)|(simp only[e,List.length_append,List.length_singleton];omega)))),q70f2⟩,q70f3⟩,fun g12=>have h12:=dF g12;⟨⟨(by(try dsimp only at *);omega),(by(try dsimp only at *);(have:=nodesW_len x1.g.n x1.ws;(try simp only at *);omega))⟩,(x6+(1:Nat)),(by(try dsimp only at *);omega),(by(try dsimp only at *);omega),⟨(by(try dsimp only at *);omega),(by(try dsimp only at *);(((try simp only[Nat.zero_add,Int.toNat_natCast]at *);have e:=(worst_no ‹_› ‹_› ‹_›);first|(rw[e];done)|(rw[e];rfl)|(rw[e];exact rr)|(rw[e];exact pushR_rows)|(simp only[e,List.length_append,List.length_singleton];done)|(simp only[e,List.length_append,List.length_singleton];omega)))),(by(try dsimp only at *);(((try simp only[Nat.zero_add,Int.toNat_natCast]at *);have e:=(worst_no ‹_› ‹_› ‹_›);first|(rw[e];done)|(rw[e];rfl)|(rw[e];exact rr)|(rw[e];exact pushR_rows)|(simp only[e,List.length_append,List.length_singleton];done)|(simp only[e,List.length_append,List.length_singleton];omega)))),q70f2⟩,q70f3⟩⟩,fun g14=>have h14:=dT g14;⟨⟨(by(try dsimp only at *);((try simp only[Nat.zero_add,Int.toNat_natCast]at *);have:=nodesW_at (n:=x1.g.n) (ws:=x1.ws) (k:=x6) (by omega);omega)),(by(try dsimp only at *);((try simp only[Nat.zero_add,Int.toNat_natCast]at *);have:=nodesW_at (n:=x1.g.n) (ws:=x1.ws) (k:=x6) (by omega);omega))⟩,(by(try dsimp only at *);((try simp only[Nat.zero_add,Int.toNat_natCast]at *);have:=nodesW_at (n:=x1.g.n) (ws:=x1.ws) (k:=x6) (by omega);omega)),⟨(by(try dsimp only at *);omega),(by(try dsimp only at *);(have:=nodesW_len x1.g.n x1.ws;(try simp only at *);omega))⟩,(x6+(1:Nat)),(by(try dsimp only at *);omega),(by(try dsimp only at *);omega),⟨(by(try dsimp only at *);omega),(by(try dsimp only at *);(((try simp only[Nat.zero_add,Int.toNat_natCast]at *);have e:=(worst_neg ‹_› ‹_›);first|(rw[e];done)|(rw[e];rfl)|(rw[e];exact rr)|(rw[e];exact pushR_rows)|(simp only[e,List.length_append,List.length_singleton];done)|(simp only[e,List.length_append,List.length_singleton];omega)))),(by(try dsimp only at *);(((try simp only[Nat.zero_add,Int.toNat_natCast]at *);have e:=(worst_neg ‹_› ‹_›);first|(rw[e];done)|(rw[e];rfl)|(rw[e];exact rr)|(rw[e];exact pushR_rows)|(simp only[e,List.length_append,List.length_singleton];done)|(simp only[e,List.length_append,List.length_singleton];omega)))),q70f2⟩,q70f3⟩⟩,fun g16=>have h16:=dF g16;⟨⟨(by(try dsimp only at *);exact congrArg Prod.fst (worst_end h7 h16)),(by(try dsimp only at *);exact congrArg Prod.snd (worst_end h7 h16)),trivial⟩,trivial⟩⟩⟩)
theorem wwait_good:Good Tryz.prog 15 wwaitC/\FnOk Tryz.prog 15:=good_of tok conK2 (fn:=Tryz.f15) rfl (by decide+kernel) (fun _=>rfl) wwait_keeps
end Go.Sym
namespace Go.Sym
set_option linter.unusedVariables false
set_option linter.unusedSimpArgs false
open Go.Proofs Go.RowKit
set_option maxRecDepth 100000
set_option maxHeartbeats 8000000
structure GnX where
 g:Gr
 ts:List Int
 us:List Un
 ws:List Nat
 l:List Mv
structure GnOk (x:GnX):Prop where
 g:GOk x.g
 n:x.g.n<=12
 us:x.us.length<=1000
 ws:WOk x.ws
 l:x.l.length<=1000
def wb (x:GnX):Int × Int:=worstW x.g x.ts x.us x.ws
def wa (x:GnX):Int × Int:=worstW x.g x.ts (appU x.us x.l) x.ws
def GnX.i (x:GnX):IdX:=⟨x.us,x.l⟩
end Go.Sym