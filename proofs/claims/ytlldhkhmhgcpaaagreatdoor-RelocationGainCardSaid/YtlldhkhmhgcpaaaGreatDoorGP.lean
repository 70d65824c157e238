import Derived.Test.YtlldhkhmhgcpaaaGreatDoorAP
import Derived.Test.YtlldhkhmhgcpaaaGreatDoorK2
import Derived.Test.YtlldhkhmhgcpaaaGreatDoorXD
namespace Go.Sym
set_option linter.unusedVariables false
set_option linter.unusedSimpArgs false
open Go.Proofs Go.RowKit
set_option maxRecDepth 100000
set_option maxHeartbeats 8000000
structure GnX where
 g:Gr
 ts:List Int
 us:List Un
 ws:List Nat
 l:List Mv
structure GnOk (x:GnX):Prop where
 g:GOk x.g
 n:x.g.n<=12
 us:x.us.length<=1000
 ws:WOk x.ws
 l:x.l.length<=1000
def ndG (x:GnX) (m:Mv):Int:=(x.us.getD (fndU x.us m.1).toNat default).nd
def tkF (x:GnX) (m:Mv):Int:=if m.2<(x.g.n:Int)then(distG x.g x.ts [ndG x m] true).getD m.2.toNat default else INF
def gaL (x:GnX) (k:Nat):Int:=(x.l.take k).foldl (fun m z=>max m (tkF x z)) 0
def gnD (a b:Int):Int:=if a=b then 0 else if a=INF then INF else if b=INF then -4611686018427387904 else a-b
def wb (x:GnX):Int × Int:=worstW x.g x.ts x.us x.ws
def wa (x:GnX):Int × Int:=worstW x.g x.ts (appU x.us x.l) x.ws
def gnR (x:GnX):Int × Int:=if okMs x.us x.l then(gnD (wb x).1 (wa x).1,gaL x x.l.length)else(0,0)
def gnC:CT where
 X:=GnX
 pre:=GnOk
 args:=fun x=>[.p 100000 0 0,.sl 100001 0 x.ts.length,.sl 100002 0 x.us.length,setV x.ws 100003,.sl 100004 0 x.l.length]
 g0:=fun x=>graphH x.g 100000++[(100001,.rows .bor k1 x.ts.length (encL encI x.ts)),(100002,.rows .bor kU x.us.length (encL encU x.us))]++setH x.ws .bor 100003++[(100004,.rows .bor kM x.l.length (encL encM x.l))]
 res:=fun x=>.tup [.i .i64 (gnR x).1,.i .i64 (gnR x).2]
 g1:=fun _=>[]
def GnX.i (x:GnX):IdX:=⟨x.us,x.l⟩
def gnI (x:GnX) (id:Nat):Option Inv:=match id with
 |0=>some { X:=Nat,ok:=fun k=>k<=x.l.length/\okMs x.us x.l=true,fr:=fun k=>[(16,.i .i64 (gaL x k)),(45,.i .i64 k),(44,.i .i64 x.l.length)],hp:=fun k=>[],me:=fun k=>x.l.length-k }
 |_=>none
def cfgGn:Cfg:=⟨T,[],[(40,.one idC),(14,.one apC),(30,.one (fromC true)),(15,.one wwaitC)],noInv,130,{ kn:=true }⟩
theorem conGn:ConOk Tryz.prog cfgGn:=ConL.ok (.cons (ConL.one id_good) (.cons (ConL.one ap_good) (.cons (ConL.one from_good) (.cons (ConL.one wwait_good) .nil))))
theorem gn_y {x:GnX} (h:okMs x.us x.l=true):gnR x=(gnD (wb x).1 (wa x).1,gaL x x.l.length):=if_pos h
theorem gn_n {x:GnX} (h:okMs x.us x.l=false):gnR x=(0,0):=by unfold gnR;rw[h];rfl
theorem gn_e {x:GnX} (h:appE2 x.us x.l≠0):okMs x.us x.l=false:=by
 cases hb:okMs x.us x.l with
 |false=>rfl
 |true=>exact absurd (ap_y hb).2 h
theorem ga_s {x:GnX} {k:Nat} (h:(k:Int)<x.l.length):gaL x (k+1)=max (gaL x k) (tkF x (x.l.getD k default)):=by
 unfold gaL
 rw[take_succ_getD (d:=default) (by omega),List.foldl_append]
 rfl
theorem ga_t {x:GnX} {k:Nat} (h:¬ (k:Int)<x.l.length) (hk:k<=x.l.length):gaL x k=gaL x x.l.length:=by rw[show k=x.l.length by omega]
theorem ga_y {x:GnX} {k:Nat} (hk:(k:Int)<x.l.length) (h1:(x.l.getD (0+(k:Int).toNat) default).2<(x.g.n:Int)):max (gaL x k) ((distG x.g x.ts [ndG x (x.l.getD k default)] true).getD (0+(x.l.getD (0+(k:Int).toNat) default).2.toNat) default)=gaL x (k+1):=by
 rw[nat0]at h1 ⊢
 rw[ga_s hk]
 unfold tkF
 rw[if_pos h1,Nat.zero_add]
theorem ga_n {x:GnX} {k:Nat} (hk:(k:Int)<x.l.length) (h1:¬ (x.l.getD (0+(k:Int).toNat) default).2<(x.g.n:Int)):max (gaL x k) 4611686018427387904=gaL x (k+1):=by
 rw[nat0]at h1
 rw[ga_s hk]
 unfold tkF
 rw[if_neg h1]
 rfl
theorem gn_nd {x:GnX} (h:okMs x.us x.l=true) {k:Nat} (hk:(k:Int)<x.l.length) {n:Nat}:RowsEq k1 n (litRows [[D.i (x.us.getD (0+((idL x.i).getD (0+(k:Int).toNat) default).toNat) default).nd]]) (encL encI [ndG x (x.l.getD k default)]):=by
 rw[idL_at (x:=x.i) hk,Nat.zero_add]
 refine⟨fun r hr=>?_⟩
 cases r with
 |zero=>exact⟨rfl,trivial⟩
 |succ r=>exact⟨rfl,trivial⟩
theorem gn_2 {x:GnX} (h:okMs x.us x.l=true) {k:Nat} (hk:(k:Int)<x.l.length):0<=(x.l.getD (0+(k:Int).toNat) default).2:=by
 rw[nat0]
 exact(ms_i h (k:=k) (by omega)).2.2.2.1.1
theorem gn_u {x:GnX} (h:GnOk x):YXok ⟨x.g,x.ts,x.us,x.ws,default⟩:=⟨⟨h.g,h.n,by have:=h.us;show x.us.length<=_;omega,Nat.zero_le _⟩,h.ws⟩
theorem gn_v {x:GnX} (h:GnOk x):YXok ⟨x.g,x.ts,appU x.us x.l,x.ws,default⟩:=⟨⟨h.g,h.n,by
 have:=h.us
 have:(appU x.us x.l).length<=x.us.length:=by
  unfold appU
  split
  ·rw[app_len];exact Nat.le_refl _
  ·exact Nat.zero_le _
 show(appU x.us x.l).length<=_;omega,Nat.zero_le _⟩,h.ws⟩
theorem ww_rng {g:Gr} (hg:GOk g) (ts:List Int) (us:List Un) (ws:List Nat):0<=(worstW g ts us ws).1/\(worstW g ts us ws).1<=4611686018427387904:=by
 have hm:∀ v∈nodesW g.n ws,0<=v/\v<(g.n:Int):=fun v hv=>by
  unfold nodesW at hv
  rw[List.mem_filter]at hv
  exact⟨(elemsZ_mem.1 hv.1).1,of_decide_eq_true hv.2⟩
 unfold worstW
 rcases worst_spec (D:=distG g ts (freeL us) true) (l:=nodesW g.n ws) (fun v hv=>(hm v hv).1)with⟨_,h⟩|⟨_,_,_,v,hv,h⟩
 ·rw[h];exact⟨by decide,by decide⟩
 ·rw[h]
  have:=hm v hv
  exact dist_rng hg ts (freeL us) true (by omega)
theorem gd_0 {a b:Int} (h:a=b):0=gnD a b:=by unfold gnD;rw[if_pos h]
theorem gd_1 {a b:Int} (h:¬ a=b) (h1:a=INF):INF=gnD a b:=by unfold gnD;rw[if_neg h,if_pos h1]
theorem gd_2 {a b:Int} (h:¬ a=b) (h1:¬ a=INF) (h2:b=INF): -4611686018427387904=gnD a b:=by unfold gnD;rw[if_neg h,if_neg h1,if_pos h2]
theorem gd_3 {a b:Int} (h:¬ a=b) (h1:¬ a=INF) (h2:¬ b=INF):a-b=gnD a b:=by unfold gnD;rw[if_neg h,if_neg h1,if_neg h2]
theorem gn_l {x:GnX} {k:Nat} (h:k<=x.l.length/\okMs x.us x.l=true) (hk:¬ (k:Int)<x.l.length):gaL x k=(gnR x).2:=by rw[gn_y h.2,ga_t hk h.1]
theorem gn_f {x:GnX} (h:okMs x.us x.l=true) {d:Int} (hd:d=gnD (wb x).1 (wa x).1):d=(gnR x).1:=by rw[gn_y h];exact hd
abbrev q63F0 (x4:IdX):Prop:=((0=0/\(idN x4=idN x4))/\((okMs x4.us x4.l=okMs x4.us x4.l)/\True))
theorem q63f0 {x4:IdX}:q63F0 x4:=⟨⟨rfl,rfl⟩,rfl,trivial⟩
abbrev q63F1 (x1:GnX):Prop:=(0=0/\x1.l.length=x1.l.length)
theorem q63f1 {x1:GnX}:q63F1 x1:=⟨rfl,rfl⟩
abbrev q63F2 (x1:GnX):Prop:=(0=0/\x1.us.length=x1.us.length)
theorem q63f2 {x1:GnX}:q63F2 x1:=⟨rfl,rfl⟩
abbrev q63F3 (x3:IdX):Prop:=(0=0/\((appU x3.us x3.l).length=(appU x3.us x3.l).length))
theorem q63f3 {x3:IdX}:q63F3 x3:=⟨rfl,rfl⟩
abbrev q63F4 (x3:IdX):Prop:=((q63F3 x3)/\((appE2 x3.us x3.l=appE2 x3.us x3.l)/\True))
theorem q63f4 {x3:IdX}:q63F4 x3:=⟨q63f3,rfl,trivial⟩
abbrev q63F5 (x1:GnX) (x3:IdX) (x4:IdX):Prop:=((okMs x4.us x4.l=okMs x4.us x4.l)/\((decide (appE2 x3.us x3.l≠(0:Int))=decide (appE2 x3.us x3.l≠(0:Int)))/\((decide (appE2 x3.us x3.l≠(0:Int))=decide (appE2 x3.us x3.l≠(0:Int)))/\((appE2 x3.us x3.l=appE2 x3.us x3.l)/\((okMs x4.us x4.l=okMs x4.us x4.l)/\((0=0/\(idN x4=idN x4))/\((okMs x4.us x4.l=okMs x4.us x4.l)/\((0=0/\(idN x4=idN x4))/\((q63F0 x4)/\((q63F0 x4)/\((q63F1 x1)/\((q63F2 x1)/\((appE2 x3.us x3.l=appE2 x3.us x3.l)/\((q63F3 x3)/\((appE2 x3.us x3.l=appE2 x3.us x3.l)/\((q63F3 x3)/\((q63F4 x3)/\((q63F4 x3)/\((q63F1 x1)/\((q63F2 x1)/\(((0:Int)=0)/\(((0:Int)=0)/\((0=0/\0=0)/\((0=0/\0=0)/\((0=0/\x1.ts.length=x1.ts.length)/\((q63F2 x1)/\(((szW x1.ws=szW x1.ws)/\True)/\((q63F1 x1)/\True))))))))))))))))))))))))))))
theorem q63f5 {x1:GnX} {x3:IdX} {x4:IdX}:q63F5 x1 x3 x4:=⟨rfl,rfl,rfl,rfl,rfl,⟨rfl,rfl⟩,rfl,⟨rfl,rfl⟩,q63f0,q63f0,q63f1,q63f2,rfl,q63f3,rfl,q63f3,q63f4,q63f4,q63f1,q63f2,rfl,rfl,⟨rfl,rfl⟩,⟨rfl,rfl⟩,⟨rfl,rfl⟩,q63f2,⟨rfl,trivial⟩,q63f1,trivial⟩
abbrev q63F6 (x1:GnX) (x3:IdX) (x4:IdX):Prop:=(((RLe (idN x4) (idN x4))/\(RI (idN x4) (idL x4) (idL x4)))/\(((RLe (appU x3.us x3.l).length (appU x3.us x3.l).length)/\(RowsEq kU (appU x3.us x3.l).length (encL encU (appU x3.us x3.l)) (encL encU (appU x3.us x3.l))))/\(((szW x1.ws=szW x1.ws)/\True)/\((RLe 1 1/\(RowsEq [.sl [.int .i64,.int .i64,.int .i64],.sl [.sl [.int .i64]],.sl [.sl [.int .i64]]] 1 (encG x1.g) (encG x1.g)))/\(((RLe x1.ts.length x1.ts.length)/\(RI x1.ts.length x1.ts x1.ts))/\(((RLe x1.us.length x1.us.length)/\(RowsEq kU x1.us.length (encL encU x1.us) (encL encU x1.us)))/\(((RLe (szW x1.ws) (szW x1.ws))/\(RowsEq [.int .u64] (szW x1.ws) (encL encW x1.ws) (encL encW x1.ws)))/\(((RLe x1.l.length x1.l.length)/\(RowsEq [.int .i64,.int .i64] x1.l.length (encL encM x1.l) (encL encM x1.l)))/\True))))))))
theorem q63f6 {x1:GnX} {x3:IdX} {x4:IdX}:q63F6 x1 x3 x4:=⟨⟨rl,rr⟩,⟨rl,rr⟩,⟨rfl,trivial⟩,⟨rl,rr⟩,⟨rl,rr⟩,⟨rl,rr⟩,⟨rl,rr⟩,⟨rl,rr⟩,trivial⟩
set_option maxRecDepth 100000 in
theorem gn_keeps:Keeps cfgGn Tryz.f16 gnC gnI:=Eq.mp (show(∀ x1:GnX,((GnOk x1)->(∃ x3:IdX,(((x3.us.length<=(1000:Nat))/\(x3.l.length<=(1000:Nat)))/\(((0=0/\x1.us.length=x3.us.length)/\((0=0/\x1.l.length=x3.l.length)/\True))/\(((RW kU x3.us.length x1.us.length (encL encU x1.us) (encL encU x3.us))/\((RW [.int .i64,.int .i64] x3.l.length x1.l.length (encL encM x1.l) (encL encM x3.l))/\True))/\(∃ x4:IdX,(((x4.us.length<=(1000:Nat))/\(x4.l.length<=(1000:Nat)))/\(((0=0/\x1.us.length=x4.us.length)/\((0=0/\x1.l.length=x4.l.length)/\True))/\(((RW kU x4.us.length x1.us.length (encL encU x1.us) (encL encU x4.us))/\((RW [.int .i64,.int .i64] x4.l.length x1.l.length (encL encM x1.l) (encL encM x4.l))/\True))/\(CN (decide (appE2 x3.us x3.l≠(0:Int))) (CB (!okMs x4.us x4.l) ((((0:Int)=Prod.fst (gnR x1))/\(((0:Int)=Prod.snd (gnR x1))/\True))/\True) (∃ x8:Nat,((((x8<=x1.l.length)/\(okMs x1.us x1.l=true))/\((((0:Int)=gaL x1 x8)/\((0=(x8:Int))/\(((↑(idN x4):Int)=(x1.l.length:Int))/\((0=0/\(idN x4=idN x4))/\(false=false/\(((!okMs x4.us x4.l)= !okMs x4.us x4.l)/\(q63F5 x1 x3 x4)))))))/\(q63F6 x1 x3 x4)))/\(∀ x9:Nat,(((x9<=x1.l.length)/\(okMs x1.us x1.l=true))->(CB (decide ((x9:Int)<(x1.l.length:Int))) ((Ix (x9:Int) (↑(idN x4):Int))/\((0+Int.toNat (x9:Int)<idN x4)/\((Ix ((idL x4).getD (0+Int.toNat (x9:Int)) default) (x1.us.length:Int))/\((0+Int.toNat ((idL x4).getD (0+Int.toNat (x9:Int)) default)<x1.us.length)/\(((True/\True)/\True)/\(∃ x12:FX,((FXok x12)/\(((0=0/\0=0)/\((0=0/\x1.ts.length=x12.ts.length)/\((0=0/\((1:Nat)=x12.src.length))/\True)))/\(((RW [.sl [.int .i64,.int .i64,.int .i64],.sl [.sl [.int .i64]],.sl [.sl [.int .i64]]] 1 1 (encG x1.g) (encG x12.g))/\((RW [.int .i64] x12.ts.length x1.ts.length (encL encI x1.ts) (encL encI x12.ts))/\((RW [.int .i64] x12.src.length 1 (litRows ((D.i (x1.us.getD (0+Int.toNat ((idL x4).getD (0+Int.toNat (x9:Int)) default)) default).nd::@List.nil D)::@List.nil (List D))) (encL encI x12.src))/\True)))/\((Ix (x9:Int) (x1.l.length:Int))/\((0+Int.toNat (x9:Int)<x1.l.length)/\(CB (decide (Prod.snd (x1.l.getD (0+Int.toNat (x9:Int)) default)<(x12.g.n:Int))) ((Ix (x9:Int) (x1.l.length:Int))/\((0+Int.toNat (x9:Int)<x1.l.length)/\((Ix (Prod.snd (x1.l.getD (0+Int.toNat (x9:Int)) default)) (x12.g.n:Int))/\((0+Int.toNat (Prod.snd (x1.l.getD (0+Int.toNat (x9:Int)) default))<x12.g.n)/\((R6 ((x9:Int)+1))/\(∃ x14:Nat,((x1.l.length-x14<x1.l.length-x9)/\(((x14<=x1.l.length)/\(okMs x1.us x1.l=true))/\(((max (gaL x1 x9) ((distG x12.g x12.ts x12.src true).getD (0+Int.toNat (Prod.snd (x1.l.getD (0+Int.toNat (x9:Int)) default))) default)=gaL x1 x14)/\(((x9:Int)+1=(x14:Int))/\(((x1.l.length:Int)=(x1.l.length:Int))/\((0=0/\(idN x4=idN x4))/\(false=false/\(((!okMs x4.us x4.l)= !okMs x4.us x4.l)/\(q63F5 x1 x3 x4)))))))/\(q63F6 x1 x3 x4)))))))))) ((R6 ((x9:Int)+1))/\(∃ x16:Nat,((x1.l.length-x16<x1.l.length-x9)/\(((x16<=x1.l.length)/\(okMs x1.us x1.l=true))/\(((max (gaL x1 x9) (4611686018427387904:Int)=gaL x1 x16)/\(((x9:Int)+1=(x16:Int))/\(((x1.l.length:Int)=(x1.l.length:Int))/\((0=0/\(idN x4=idN x4))/\(false=false/\(((!okMs x4.us x4.l)= !okMs x4.us x4.l)/\(q63F5 x1 x3 x4)))))))/\(q63F6 x1 x3 x4)))))))))))))))))) (∃ x18:YX,((YXok x18)/\(((0=0/\0=0)/\((0=0/\x1.ts.length=x18.ts.length)/\((0=0/\x1.us.length=x18.us.length)/\(((szW x1.ws=szW x18.ws)/\True)/\True))))/\(((RW [.sl [.int .i64,.int .i64,.int .i64],.sl [.sl [.int .i64]],.sl [.sl [.int .i64]]] 1 1 (encG x1.g) (encG x18.g))/\((RW [.int .i64] x18.ts.length x1.ts.length (encL encI x1.ts) (encL encI x18.ts))/\((RW kU x18.us.length x1.us.length (encL encU x1.us) (encL encU x18.us))/\((RW [.int .u64] (szW x18.ws) (szW x1.ws) (encL encW x1.ws) (encL encW x18.ws))/\True))))/\(∃ x19:YX,((YXok x19)/\(((0=0/\0=0)/\((0=0/\x1.ts.length=x19.ts.length)/\((0=0/\((appU x3.us x3.l).length=x19.us.length))/\(((szW x1.ws=szW x19.ws)/\True)/\True))))/\(((RW [.sl [.int .i64,.int .i64,.int .i64],.sl [.sl [.int .i64]],.sl [.sl [.int .i64]]] 1 1 (encG x1.g) (encG x19.g))/\((RW [.int .i64] x19.ts.length x1.ts.length (encL encI x1.ts) (encL encI x19.ts))/\((RW kU x19.us.length (appU x3.us x3.l).length (encL encU (appU x3.us x3.l)) (encL encU x19.us))/\((RW [.int .u64] (szW x19.ws) (szW x1.ws) (encL encW x1.ws) (encL encW x19.ws))/\True))))/\(CB (decide (Prod.fst (worstW x18.g x18.ts x18.us x18.ws)=Prod.fst (worstW x19.g x19.ts x19.us x19.ws))) ((((0:Int)=Prod.fst (gnR x1))/\((gaL x1 x9=Prod.snd (gnR x1))/\True))/\True) (CB (decide (Prod.fst (worstW x18.g x18.ts x18.us x18.ws)=(4611686018427387904:Int))) ((((4611686018427387904:Int)=Prod.fst (gnR x1))/\((gaL x1 x9=Prod.snd (gnR x1))/\True))/\True) (CB (decide (Prod.fst (worstW x19.g x19.ts x19.us x19.ws)=(4611686018427387904:Int))) ((((-4611686018427387904:Int)=Prod.fst (gnR x1))/\((gaL x1 x9=Prod.snd (gnR x1))/\True))/\True) ((R6 (Prod.fst (worstW x18.g x18.ts x18.us x18.ws)-Prod.fst (worstW x19.g x19.ts x19.us x19.ws)))/\(((Prod.fst (worstW x18.g x18.ts x18.us x18.ws)-Prod.fst (worstW x19.g x19.ts x19.us x19.ws)=Prod.fst (gnR x1))/\((gaL x1 x9=Prod.snd (gnR x1))/\True))/\True))))))))))))))))))) ((((0:Int)=Prod.fst (gnR x1))/\(((0:Int)=Prod.snd (gnR x1))/\True))/\True))))))))))))=(Keeps cfgGn Tryz.f16 gnC gnI) by kernel_rfl) (fun x1=>fun h2=>⟨({ us:=GnX.us x1,l:=GnX.l x1:IdX }),⟨(by(try dsimp only at *);exact h2.us),(by(try dsimp only at *);exact h2.l)⟩,⟨⟨rfl,rfl⟩,⟨rfl,rfl⟩,trivial⟩,⟨⟨rl,rr⟩,⟨rl,rr⟩,trivial⟩,({ us:=GnX.us x1,l:=GnX.l x1:IdX }),⟨(by(try dsimp only at *);exact h2.us),(by(try dsimp only at *);exact h2.l)⟩,⟨⟨rfl,rfl⟩,⟨rfl,rfl⟩,trivial⟩,⟨⟨rl,rr⟩,⟨rl,rr⟩,trivial⟩,fun g5=>have h5:=dF g5;⟨fun h6=>⟨⟨(by(try dsimp only at *);(rw[gn_n (ms_no h6)])),(by(try dsimp only at *);(rw[gn_n (ms_no h6)])),trivial⟩,trivial⟩,fun h7=>⟨((0:Nat)),⟨⟨(by(try dsimp only at *);omega),(by(try dsimp only at *);grind)⟩,⟨(by(try dsimp only at *);rfl),(by(try dsimp only at *);omega),(by(try dsimp only at *);exact congrArg Nat.cast (idN_t (x:=x1.i) (ms_ys h7))),⟨rfl,rfl⟩,rfl,rfl,q63f5⟩,q63f6⟩,fun x9=>fun h10=>⟨fun g11=>have h11:=dT g11;⟨⟨(by(try dsimp only at *);omega),(by(try dsimp only at *);(rw[idN_t (x:=IdX.mk x1.us x1.l) h10.2];exact h11))⟩,(by(try dsimp only at *);(rw[idN_t (x:=IdX.mk x1.us x1.l) h10.2];show 0+(x9:Int).toNat<x1.l.length;omega)),⟨(by(try dsimp only at *);exact(ap_r (x:=x1.i) h10.2 h11).1),(by(try dsimp only at *);exact(ap_r (x:=x1.i) h10.2 h11).2.1)⟩,(by(try dsimp only at *);exact(ap_r (x:=x1.i) h10.2 h11).2.2),⟨⟨trivial,trivial⟩,trivial⟩,({ g:=GnX.g x1,ts:=GnX.ts x1,src:=ndG x1 (List.getD (GnX.l x1) x9 default)::@List.nil Int:FX }),(by(try dsimp only at *);exact⟨h2.g,h2.n,Nat.le_of_ble_eq_true rfl⟩),⟨⟨rfl,rfl⟩,⟨rfl,rfl⟩,⟨rfl,(by(try dsimp only at *);grind)⟩,trivial⟩,⟨⟨rl,rr⟩,⟨rl,rr⟩,⟨⟨(by(try dsimp only at *);grind)⟩,(by(try dsimp only at *);exact gn_nd h10.2 h11)⟩,trivial⟩,⟨(by(try dsimp only at *);omega),(by(try dsimp only at *);omega)⟩,(by(try dsimp only at *);omega),fun g13=>have h13:=dT g13;⟨⟨(by(try dsimp only at *);omega),(by(try dsimp only at *);omega)⟩,(by(try dsimp only at *);omega),⟨(by(try dsimp only at *);exact gn_2 h10.2 h11),(by(try dsimp only at *);omega)⟩,(by(try dsimp only at *);(show 0+(x1.l.getD (0+(x9:Int).toNat) default).2.toNat<x1.g.n;have:=gn_2 h10.2 h11;omega)),⟨(by(try dsimp only at *);omega),(by(try dsimp only at *);(have:=h2.l;omega))⟩,(x9+(1:Nat)),(by(try dsimp only at *);omega),⟨(by(try dsimp only at *);omega),(by(try dsimp only at *);grind)⟩,⟨(by(try dsimp only at *);exact ga_y h11 h13),(by(try dsimp only at *);omega),rfl,⟨rfl,rfl⟩,rfl,rfl,q63f5⟩,q63f6⟩,fun g15=>have h15:=dF g15;⟨⟨(by(try dsimp only at *);omega),(by(try dsimp only at *);(have:=h2.l;omega))⟩,(x9+(1:Nat)),(by(try dsimp only at *);omega),⟨(by(try dsimp only at *);omega),(by(try dsimp only at *);grind)⟩,⟨(by(try dsimp only at *);exact ga_n h11 ‹_›),(by(try dsimp only at *);omega),rfl,⟨rfl,rfl⟩,rfl,rfl,q63f5⟩,q63f6⟩⟩,fun g17=>have h17:=dF g17;⟨({ g:=GnX.g x1,ts:=GnX.ts x1,us:=GnX.us x1,ws:=GnX.ws x1,t:=default:YX }),(by(try dsimp only at *);exact gn_u h2),⟨⟨rfl,rfl⟩,⟨rfl,rfl⟩,⟨rfl,rfl⟩,⟨rfl,trivial⟩,trivial⟩,⟨⟨rl,rr⟩,⟨rl,rr⟩,⟨rl,rr⟩,⟨rl,rr⟩,trivial⟩,({ g:=GnX.g x1,ts:=GnX.ts x1,us:=appU (GnX.us x1) (GnX.l x1),ws:=GnX.ws x1,t:=default:YX }),(by(try dsimp only at *);exact gn_v h2),⟨⟨rfl,rfl⟩,⟨rfl,rfl⟩,⟨rfl,rfl⟩,⟨rfl,trivial⟩,trivial⟩,⟨⟨rl,rr⟩,⟨rl,rr⟩,⟨rl,rr⟩,⟨rl,rr⟩,trivial⟩,fun g20=>have h20:=dT g20;⟨⟨(by(try dsimp only at *);exact gn_f h10.2 (gd_0 ‹_›)),(by(try dsimp only at *);exact gn_l h10 ‹_›),trivial⟩,trivial⟩,fun g21=>have h21:=dF g21;⟨fun g22=>have h22:=dT g22;⟨⟨(by(try dsimp only at *);exact gn_f h10.2 (gd_1 ‹_› ‹_›)),(by(try dsimp only at *);exact gn_l h10 ‹_›),trivial⟩,trivial⟩,fun g23=>have h23:=dF g23;⟨fun g24=>have h24:=dT g24;⟨⟨(by(try dsimp only at *);exact gn_f h10.2 (gd_2 h21 h23 ‹_›)),(by(try dsimp only at *);exact gn_l h10 ‹_›),trivial⟩,trivial⟩,fun g25=>have h25:=dF g25;⟨⟨(by(try dsimp only at *);(show -9223372036854775808<=(wb x1).1-(wa x1).1;have a:=ww_rng h2.g x1.ts x1.us x1.ws;have b:=ww_rng h2.g x1.ts (appU x1.us x1.l) x1.ws;unfold wb wa;omega)),(by(try dsimp only at *);(show(wb x1).1-(wa x1).1<=9223372036854775807;have a:=ww_rng h2.g x1.ts x1.us x1.ws;have b:=ww_rng h2.g x1.ts (appU x1.us x1.l) x1.ws;unfold wb wa;omega))⟩,⟨(by(try dsimp only at *);exact gn_f h10.2 (gd_3 h21 h23 ‹_›)),(by(try dsimp only at *);exact gn_l h10 ‹_›),trivial⟩,trivial⟩⟩⟩⟩⟩⟩⟩,fun g26=>have h26:=dT g26;⟨⟨(by(try dsimp only at *);(rw[gn_n (gn_e ‹_›)])),(by(try dsimp only at *);(rw[gn_n (gn_e ‹_›)])),trivial⟩,trivial⟩⟩)
end Go.Sym