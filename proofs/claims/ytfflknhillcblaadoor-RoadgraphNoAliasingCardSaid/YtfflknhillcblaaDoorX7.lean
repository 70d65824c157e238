import Derived.Test.YtfflknhillcblaaDoorX6
import Derived.Test.YtfflknhillcblaaDoorX9
import Derived.Test.YtfflknhillcblaaDoorXD
namespace Go.Sym
set_option linter.unusedVariables false
set_option linter.unusedSimpArgs false
open Go.Proofs
set_option maxRecDepth 100000
set_option maxHeartbeats 4000000
structure LIX where
 l:List Int
 n:Int
def vhasC:CT where
 X:=LIX
 pre:=fun x=>x.l.length<=1073741824
 args:=fun x=>[.sl 100000 0 x.l.length,.i .i64 x.n]
 g0:=fun x=>[(100000,.rows .bor k1 x.l.length (encL encI x.l))]
 res:=fun x=>.b (decide (x.n∈x.l))
 g1:=fun _=>[]
def vhasI (x:LIX) (id:Nat):Option Inv:=match id with
 |0=>some { X:=Nat,ok:=fun k=>k<=x.l.length/\x.n∉x.l.take k,fr:=fun k=>[(5,.i .i64 k)],hp:=fun _=>[],me:=fun k=>x.l.length-k }
 |_=>none
theorem vh_no {l:List Int} {n:Int} {k:Nat} (hk:(k:Int)<l.length) (h:¬ l.getD (0+(k:Int).toNat) default=n) (h2:n∉l.take k):n∉l.take (k+1):=by
 rw[nat0]at h
 rw[take_succ_getD (d:=default) (by omega),List.mem_append,List.mem_singleton]
 exact fun q=>q.elim h2 fun q=>h q.symm
set_option maxRecDepth 100000 in
theorem vhas_keeps:Keeps cfgN0 Tryd.f43 vhasC vhasI:=Eq.mp (show((∀ x1:LIX,((x1.l.length<=(1073741824:Nat))->(∃ x3:Nat,((((x3<=x1.l.length)/\(¬x1.n∈List.take x3 x1.l))/\(((0=(x3:Int))/\((0=0/\x1.l.length=x1.l.length)/\(x1.n=x1.n/\True)))/\(((RLe x1.l.length x1.l.length)/\(RI x1.l.length x1.l x1.l))/\True)))/\(∀ x4:Nat,((x4<=x1.l.length/\¬x1.n∈List.take x4 x1.l)->(((decide ((x4:Int)<(x1.l.length:Int))=true)->((((0:Int)<=(x4:Int))/\((x4:Int)<(x1.l.length:Int)))/\((0+Int.toNat (x4:Int)<x1.l.length)/\(((decide (x1.l.getD (0+Int.toNat (x4:Int)) default=x1.n)=true)->((true=decide (x1.n∈x1.l))/\True))/\((decide (x1.l.getD (0+Int.toNat (x4:Int)) default=x1.n)=false)->((((-9223372036854775808:Int)<=(x4:Int)+1)/\((x4:Int)+1<=(9223372036854775807:Int)))/\(∃ x9:Nat,((x1.l.length-x9<x1.l.length-x4)/\(((x9<=x1.l.length)/\(¬x1.n∈List.take x9 x1.l))/\((((x4:Int)+1=(x9:Int))/\((0=0/\x1.l.length=x1.l.length)/\(x1.n=x1.n/\True)))/\(((RLe x1.l.length x1.l.length)/\(RI x1.l.length x1.l x1.l))/\True)))))))))))/\((decide ((x4:Int)<(x1.l.length:Int))=false)->((false=decide (x1.n∈x1.l))/\True))))))))))=(Keeps cfgN0 Tryd.f43 vhasC vhasI) by kernel_rfl) (fun x1=>fun h2=>⟨((0:Nat)),
⟨⟨(by(try dsimp only at *);omega),
(by(try dsimp only at *);grind)⟩,
⟨(by(try dsimp only at *);omega),
⟨rfl,rfl⟩,rfl,trivial⟩,
⟨rl,rr⟩,trivial⟩,
fun x4=>fun h5=>⟨fun g6=>have h6:=dT g6;⟨⟨(by(try dsimp only at *);omega),
(by(try dsimp only at *);omega)⟩,
(by(try dsimp only at *);omega),
fun g7=>have h7:=dT g7;⟨(by(try dsimp only at *);grind),trivial⟩,
fun g8=>have h8:=dF g8;⟨⟨(by(try dsimp only at *);omega),
(by(try dsimp only at *);omega)⟩,
(x4+(1:Nat)),
(by(try dsimp only at *);omega),
⟨(by(try dsimp only at *);omega),
(by(try dsimp only at *);exact vh_no ‹_› ‹_› h5.2)⟩,
⟨(by(try dsimp only at *);omega),
⟨rfl,rfl⟩,rfl,trivial⟩,
⟨rl,rr⟩,trivial⟩⟩,
fun g10=>have h10:=dF g10;⟨(by(try dsimp only at *);grind),trivial⟩⟩⟩)
structure AHx where
 g:Gr
 fs:List Int
structure AHok (x:AHx):Prop where
 g:G12 x.g
 m:x.g.es.length<=40
 f:x.fs.length<=20
def ahC:CT where
 X:=AHx
 pre:=AHok
 args:=fun x=>[.i .i64 x.g.n,.sl 100000 0 x.g.es.length,.sl 100001 0 x.fs.length]
 g0:=fun x=>[(100000,.rows .bor kE x.g.es.length (encL encE x.g.es)),(100001,.rows .bor k1 x.fs.length (encL encI x.fs))]
 res:=fun x=>.sl 1 0 (aheadL x.g.n x.g.es x.fs).length
 g1:=fun x=>[(1,.rows .own k1 (aheadL x.g.n x.g.es x.fs).length (encL encI (aheadL x.g.n x.g.es x.fs)))]
def ahS (x:AHx):List Int:=startA x.g.n x.fs x.fs.length
def ahR (x:AHx) (k:Nat):List Int:=rndA x.g.es (ahS x) k
def ahW (x:AHx) (k j:Nat):List Int:=rowA x.g.es (ahR x k) j
def ahL (x:AHx):List Int:=ahR x x.g.n
def enc40 (x:AHx) (k:Nat):Bool:=decide ((0<=x.fs.getD k default/\x.fs.getD k default<x.g.n)/\x.fs.getD k default∉startA x.g.n x.fs k)
def enc83 (x:AHx) (k j:Nat):Bool:=decide ((x.g.es.getD j default).d≠4611686018427387904/\(x.g.es.getD j default).f∈ahW x k j/\(x.g.es.getD j default).t∉ahW x k j)
def ahI (x:AHx) (id:Nat):Option Inv:=match id with
 | 0 => some { X := Nat, ok := fun k => k <= x.fs.length, fr := fun k => [(8, .i .i64 k), (7, .sl 160 0 (startA x.g.n x.fs k).length)], hp := fun k => [(160, .rows .own k1 (startA x.g.n x.fs k).length (encL encI (startA x.g.n x.fs k)))], me := fun k => x.fs.length - k,
               inn:=fun k id=>match id with
                |100040=>some (cutB 40 (enc40 x k))
                |_=>none }
 | 2 => some { X := Nat, ok := fun k => k <= x.g.n, fr := fun k => [(9, .i .i64 k), (7, .sl 161 0 (ahR x k).length)], hp := fun k => [(161, .rows .own k1 (ahR x k).length (encL encI (ahR x k)))], me := fun k => x.g.n - k,
               inn:=fun k id=>match id with
                | 4 => some { X := Nat, ok := fun j => j <= x.g.es.length, fr := fun j => [(10, .i .i64 j), (7, .sl 162 0 (ahW x k j).length)], hp := fun j => [(162, .rows .own k1 (ahW x k j).length (encL encI (ahW x k j)))], me := fun j => x.g.es.length - j,
                              inn:=fun j id=>match id with
                               |100083=>some (cutB 83 (enc83 x k j))
                               |_=>none }
                |_=>none }
 |6=>some { X:=Nat,ok:=fun k=>k<=x.g.n,fr:=fun k=>[(12,.i .i64 k),(11,.sl 163 0 (outA (ahL x) k).length)],hp:=fun k=>[(163,.rows .own k1 (outA (ahL x) k).length (encL encI (outA (ahL x) k)))],me:=fun k=>x.g.n-k }
 |_=>none
def cfgAh:Cfg:=⟨T,[],[(43,.one vhasC)],noInv,13,{}⟩
theorem ai_le {n:Nat} {l:List Int} (h:AI n l):l.length<=n:=nodup_len h.rng h.nd
theorem ah_s {x:AHx} (h:AHok x) (k:Nat):(startA x.g.n x.fs k).length<=12:=Nat.le_trans (ai_le (startA_AI _ _ _)) h.g.n
theorem ah_rI {x:AHx} (h:AHok x) (k:Nat):AI x.g.n (ahR x k):=rndA_AI h.g.g (startA_AI _ _ _) k
theorem ah_r {x:AHx} (h:AHok x) (k:Nat):(ahR x k).length<=12:=Nat.le_trans (ai_le (ah_rI h k)) h.g.n
theorem ah_w {x:AHx} (h:AHok x) (k:Nat) {j:Nat} (hj:j<=x.g.es.length):(ahW x k j).length<=12:=Nat.le_trans (ai_le (rowA_AI h.g.g (ah_rI h k) j hj)) h.g.n
theorem out_le (l:List Int) (k:Nat):(outA l k).length<=k:=by
 unfold outA;rw[List.length_map]
 have:=List.length_filter_le (fun(v:Nat)=>decide ((v:Int)∈l)) (List.range k);simpa using this
theorem sA_yes {x:AHx} {k:Nat} (hk:(k:Int)<x.fs.length) (h:(0<=x.fs.getD k default/\x.fs.getD k default<x.g.n)/\x.fs.getD k default∉startA x.g.n x.fs k):startA x.g.n x.fs (k+1)=startA x.g.n x.fs k++[x.fs.getD k default]:=by
 rw[startA_succ (by omega)];unfold stA;rw[if_pos h]
theorem sA_no {x:AHx} {k:Nat} (hk:(k:Int)<x.fs.length) (h:¬ ((0<=x.fs.getD k default/\x.fs.getD k default<x.g.n)/\x.fs.getD k default∉startA x.g.n x.fs k)):startA x.g.n x.fs (k+1)=startA x.g.n x.fs k:=by
 rw[startA_succ (by omega)];unfold stA;rw[if_neg h]
theorem sA_end {x:AHx} {k:Nat} (h1:k<=x.fs.length) (h2:¬ (k:Int)<x.fs.length):startA x.g.n x.fs k=ahR x 0:=by rw[show k=x.fs.length by omega];rfl
theorem wA_yes {x:AHx} {k j:Nat} (h:(x.g.es.getD j default).d≠4611686018427387904/\(x.g.es.getD j default).f∈ahW x k j/\(x.g.es.getD j default).t∉ahW x k j):ahW x k (j+1)=ahW x k j++[(x.g.es.getD j default).t]:=by
 unfold ahW at *;rw[rowA_succ];unfold stepA;rw[if_pos h]
theorem wA_no {x:AHx} {k j:Nat} (h:¬ ((x.g.es.getD j default).d≠4611686018427387904/\(x.g.es.getD j default).f∈ahW x k j/\(x.g.es.getD j default).t∉ahW x k j)):ahW x k (j+1)=ahW x k j:=by
 unfold ahW at *;rw[rowA_succ];unfold stepA;rw[if_neg h]
theorem wA_end {x:AHx} {k j:Nat} (h1:j<=x.g.es.length) (h2:¬ (j:Int)<x.g.es.length):ahW x k j=ahR x (k+1):=by rw[show j=x.g.es.length by omega];exact(rndA_succ _ _ _).symm
theorem oA_yes {l:List Int} {k:Nat} (h:(k:Int)∈l):outA l (k+1)=outA l k++[(k:Int)]:=by
 unfold outA;rw[List.range_succ,List.filter_append,List.filter_cons,if_pos (decide_eq_true h),List.map_append];rfl
theorem oA_no {l:List Int} {k:Nat} (h:¬ (k:Int)∈l):outA l (k+1)=outA l k:=by
 unfold outA;rw[List.range_succ,List.filter_append,List.filter_cons,if_neg (by rw[decide_eq_false h];decide)];simp
theorem rA_end {x:AHx} {k:Nat} (h1:k<=x.g.n) (h2:¬ (k:Int)<x.g.n):ahR x k=ahL x:=by rw[show k=x.g.n by omega];rfl
theorem oA_end {x:AHx} {k:Nat} (h1:k<=x.g.n) (h2:¬ (k:Int)<x.g.n):outA (ahL x) k=aheadL x.g.n x.g.es x.fs:=by rw[show k=x.g.n by omega];rfl
set_option maxRecDepth 100000 in
theorem ah_keeps:Keeps cfgAh Tryd.f22 ahC ahI:=Eq.mp (show((∀ x1:AHx,((AHok x1)->(∃ x3:Nat,(((x3<=x1.fs.length)/\(((0=(x3:Int))/\((True/\(0=0/\((startA x1.g.n x1.fs x3).length=(0:Nat))))/\(True/\(((x1.g.n:Int)=(x1.g.n:Int))/\((0=0/\x1.g.es.length=x1.g.es.length)/\((0=0/\x1.fs.length=x1.fs.length)/\True))))))/\(((startA x1.g.n x1.fs x3).length=(0:Nat))/\(((RLe x1.g.es.length x1.g.es.length)/\(RowsEq [.int .i64,.int .i64,.int .i64] x1.g.es.length (encL encE x1.g.es) (encL encE x1.g.es)))/\(((RLe x1.fs.length x1.fs.length)/\(RI x1.fs.length x1.fs x1.fs))/\True)))))/\(∀ x4:Nat,((x4<=x1.fs.length)->(((decide ((x4:Int)<(x1.fs.length:Int))=true)->(((((0:Int)<=(x4:Int))/\((x4:Int)<(x1.fs.length:Int)))/\((0+Int.toNat (x4:Int)<x1.fs.length)/\(((decide ((0:Int)<=x1.fs.getD (0+Int.toNat (x4:Int)) default)=true)->((((0:Int)<=(x4:Int))/\((x4:Int)<(x1.fs.length:Int)))/\((0+Int.toNat (x4:Int)<x1.fs.length)/\(((decide (x1.fs.getD (0+Int.toNat (x4:Int)) default<(x1.g.n:Int))=true)->((((0:Int)<=(x4:Int))/\((x4:Int)<(x1.fs.length:Int)))/\((0+Int.toNat (x4:Int)<x1.fs.length)/\(∃ x9:LIX,((x9.l.length<=(1073741824:Nat))/\(((0=0/\((startA x1.g.n x1.fs x4).length=x9.l.length))/\((x1.fs.getD (0+Int.toNat (x4:Int)) default=x9.n)/\True))/\((((RLe x9.l.length (startA x1.g.n x1.fs x4).length)/\(RI x9.l.length (startA x1.g.n x1.fs x4) x9.l))/\True)/\(∃ x10:Unit,(True/\(((!decide (x9.n∈x9.l))=decide (((0:Int)<=x1.fs.getD x4 default/\x1.fs.getD x4 default<(x1.g.n:Int))/\¬x1.fs.getD x4 default∈startA x1.g.n x1.fs x4))/\True))))))))))/\((decide (x1.fs.getD (0+Int.toNat (x4:Int)) default<(x1.g.n:Int))=false)->(∃ x12:Unit,(True/\((false=decide (((0:Int)<=x1.fs.getD x4 default/\x1.fs.getD x4 default<(x1.g.n:Int))/\¬x1.fs.getD x4 default∈startA x1.g.n x1.fs x4))/\True))))))))/\((decide ((0:Int)<=x1.fs.getD (0+Int.toNat (x4:Int)) default)=false)->(∃ x14:Unit,(True/\((false=decide (((0:Int)<=x1.fs.getD x4 default/\x1.fs.getD x4 default<(x1.g.n:Int))/\¬x1.fs.getD x4 default∈startA x1.g.n x1.fs x4))/\True)))))))/\(∀ x15:Unit,(True->(((decide (((0:Int)<=x1.fs.getD x4 default/\x1.fs.getD x4 default<(x1.g.n:Int))/\¬x1.fs.getD x4 default∈startA x1.g.n x1.fs x4)=true)->((((0:Int)<=(x4:Int))/\((x4:Int)<(x1.fs.length:Int)))/\((0+Int.toNat (x4:Int)<x1.fs.length)/\(((True/\True)/\True)/\((0=0/\(((startA x1.g.n x1.fs x4).length<=(startA x1.g.n x1.fs x4).length)/\(((1:Nat)<=(1:Nat))/\((startA x1.g.n x1.fs x4).length+(1:Nat)<=(1073741824:Nat)))))/\((((-9223372036854775808:Int)<=(x4:Int)+1)/\((x4:Int)+1<=(9223372036854775807:Int)))/\(∃ x18:Nat,((x1.fs.length-x18<x1.fs.length-x4)/\((x18<=x1.fs.length)/\((((x4:Int)+1=(x18:Int))/\((0=0/\((startA x1.g.n x1.fs x4).length+(1:Nat)=(startA x1.g.n x1.fs x18).length))/\(True/\(((x1.g.n:Int)=(x1.g.n:Int))/\((0=0/\x1.g.es.length=x1.g.es.length)/\((0=0/\x1.fs.length=x1.fs.length)/\True))))))/\(((RLe (startA x1.g.n x1.fs x18).length ((startA x1.g.n x1.fs x4).length+(1:Nat)))/\(RowsEq [.int .i64] (startA x1.g.n x1.fs x18).length (appRows (startA x1.g.n x1.fs x4).length (encL encI (startA x1.g.n x1.fs x4)) 0 (litRows ((D.i (x1.fs.getD (0+Int.toNat (x4:Int)) default)::@List.nil D)::@List.nil (List D)))) (encL encI (startA x1.g.n x1.fs x18))))/\(((RLe x1.g.es.length x1.g.es.length)/\(RowsEq [.int .i64,.int .i64,.int .i64] x1.g.es.length (encL encE x1.g.es) (encL encE x1.g.es)))/\(((RLe x1.fs.length x1.fs.length)/\(RI x1.fs.length x1.fs x1.fs))/\True)))))))))))))/\((decide (((0:Int)<=x1.fs.getD x4 default/\x1.fs.getD x4 default<(x1.g.n:Int))/\¬x1.fs.getD x4 default∈startA x1.g.n x1.fs x4)=false)->((((-9223372036854775808:Int)<=(x4:Int)+1)/\((x4:Int)+1<=(9223372036854775807:Int)))/\(∃ x20:Nat,((x1.fs.length-x20<x1.fs.length-x4)/\((x20<=x1.fs.length)/\((((x4:Int)+1=(x20:Int))/\((0=0/\((startA x1.g.n x1.fs x4).length=(startA x1.g.n x1.fs x20).length))/\(True/\(((x1.g.n:Int)=(x1.g.n:Int))/\((0=0/\x1.g.es.length=x1.g.es.length)/\((0=0/\x1.fs.length=x1.fs.length)/\True))))))/\(((RLe (startA x1.g.n x1.fs x20).length (startA x1.g.n x1.fs x4).length)/\(RowsEq [.int .i64] (startA x1.g.n x1.fs x20).length (encL encI (startA x1.g.n x1.fs x4)) (encL encI (startA x1.g.n x1.fs x20))))/\(((RLe x1.g.es.length x1.g.es.length)/\(RowsEq [.int .i64,.int .i64,.int .i64] x1.g.es.length (encL encE x1.g.es) (encL encE x1.g.es)))/\(((RLe x1.fs.length x1.fs.length)/\(RI x1.fs.length x1.fs x1.fs))/\True))))))))))))))/\((decide ((x4:Int)<(x1.fs.length:Int))=false)->(∃ x22:Nat,(((x22<=x1.g.n)/\(((0=(x22:Int))/\((0=0/\((startA x1.g.n x1.fs x4).length=(ahR x1 x22).length))/\(((x4:Int)=(x4:Int))/\(True/\(((x1.g.n:Int)=(x1.g.n:Int))/\((0=0/\x1.g.es.length=x1.g.es.length)/\((0=0/\x1.fs.length=x1.fs.length)/\True)))))))/\(((RLe (ahR x1 x22).length (startA x1.g.n x1.fs x4).length)/\(RowsEq [.int .i64] (ahR x1 x22).length (encL encI (startA x1.g.n x1.fs x4)) (encL encI (ahR x1 x22))))/\(((RLe x1.g.es.length x1.g.es.length)/\(RowsEq [.int .i64,.int .i64,.int .i64] x1.g.es.length (encL encE x1.g.es) (encL encE x1.g.es)))/\(((RLe x1.fs.length x1.fs.length)/\(RI x1.fs.length x1.fs x1.fs))/\True)))))/\(∀ x23:Nat,((x23<=x1.g.n)->(((decide ((x23:Int)<(x1.g.n:Int))=true)->(∃ x26:Nat,(((x26<=x1.g.es.length)/\(((0=(x26:Int))/\((0=0/\((ahR x1 x23).length=(ahW x1 x23 x26).length))/\(((x23:Int)=(x23:Int))/\(((x4:Int)=(x4:Int))/\(True/\(((x1.g.n:Int)=(x1.g.n:Int))/\((0=0/\x1.g.es.length=x1.g.es.length)/\((0=0/\x1.fs.length=x1.fs.length)/\True))))))))/\(((RLe (ahW x1 x23 x26).length (ahR x1 x23).length)/\(RowsEq [.int .i64] (ahW x1 x23 x26).length (encL encI (ahR x1 x23)) (encL encI (ahW x1 x23 x26))))/\(((RLe x1.g.es.length x1.g.es.length)/\(RowsEq [.int .i64,.int .i64,.int .i64] x1.g.es.length (encL encE x1.g.es) (encL encE x1.g.es)))/\(((RLe x1.fs.length x1.fs.length)/\(RI x1.fs.length x1.fs x1.fs))/\True)))))/\(∀ x27:Nat,((x27<=x1.g.es.length)->(((decide ((x27:Int)<(x1.g.es.length:Int))=true)->(((((0:Int)<=(x27:Int))/\((x27:Int)<(x1.g.es.length:Int)))/\((0+Int.toNat (x27:Int)<x1.g.es.length)/\(((decide ((x1.g.es.getD (0+Int.toNat (x27:Int)) default).d≠(4611686018427387904:Int))=true)->((((0:Int)<=(x27:Int))/\((x27:Int)<(x1.g.es.length:Int)))/\((0+Int.toNat (x27:Int)<x1.g.es.length)/\(∃ x31:LIX,((x31.l.length<=(1073741824:Nat))/\(((0=0/\((ahW x1 x23 x27).length=x31.l.length))/\(((x1.g.es.getD (0+Int.toNat (x27:Int)) default).f=x31.n)/\True))/\((((RLe x31.l.length (ahW x1 x23 x27).length)/\(RI x31.l.length (ahW x1 x23 x27) x31.l))/\True)/\(((decide (x31.n∈x31.l)=true)->((((0:Int)<=(x27:Int))/\((x27:Int)<(x1.g.es.length:Int)))/\((0+Int.toNat (x27:Int)<x1.g.es.length)/\(∃ x33:LIX,((x33.l.length<=(1073741824:Nat))/\(((0=0/\((ahW x1 x23 x27).length=x33.l.length))/\(((x1.g.es.getD (0+Int.toNat (x27:Int)) default).t=x33.n)/\True))/\((((RLe x33.l.length (ahW x1 x23 x27).length)/\(RI x33.l.length (ahW x1 x23 x27) x33.l))/\True)/\(∃ x34:Unit,(True/\(((!decide (x33.n∈x33.l))=decide ((x1.g.es.getD x27 default).d≠(4611686018427387904:Int)/\(x1.g.es.getD x27 default).f∈ahW x1 x23 x27/\¬(x1.g.es.getD x27 default).t∈ahW x1 x23 x27))/\True))))))))))/\((decide (x31.n∈x31.l)=false)->(∃ x36:Unit,(True/\((false=decide ((x1.g.es.getD x27 default).d≠(4611686018427387904:Int)/\(x1.g.es.getD x27 default).f∈ahW x1 x23 x27/\¬(x1.g.es.getD x27 default).t∈ahW x1 x23 x27))/\True))))))))))))/\((decide ((x1.g.es.getD (0+Int.toNat (x27:Int)) default).d≠(4611686018427387904:Int))=false)->(∃ x38:Unit,(True/\((false=decide ((x1.g.es.getD x27 default).d≠(4611686018427387904:Int)/\(x1.g.es.getD x27 default).f∈ahW x1 x23 x27/\¬(x1.g.es.getD x27 default).t∈ahW x1 x23 x27))/\True)))))))/\(∀ x39:Unit,(True->(((decide ((x1.g.es.getD x27 default).d≠(4611686018427387904:Int)/\(x1.g.es.getD x27 default).f∈ahW x1 x23 x27/\¬(x1.g.es.getD x27 default).t∈ahW x1 x23 x27)=true)->((((0:Int)<=(x27:Int))/\((x27:Int)<(x1.g.es.length:Int)))/\((0+Int.toNat (x27:Int)<x1.g.es.length)/\(((True/\True)/\True)/\((0=0/\(((ahW x1 x23 x27).length<=(ahW x1 x23 x27).length)/\(((1:Nat)<=(1:Nat))/\((ahW x1 x23 x27).length+(1:Nat)<=(1073741824:Nat)))))/\((((-9223372036854775808:Int)<=(x27:Int)+1)/\((x27:Int)+1<=(9223372036854775807:Int)))/\(∃ x42:Nat,((x1.g.es.length-x42<x1.g.es.length-x27)/\((x42<=x1.g.es.length)/\((((x27:Int)+1=(x42:Int))/\((0=0/\((ahW x1 x23 x27).length+(1:Nat)=(ahW x1 x23 x42).length))/\(((x23:Int)=(x23:Int))/\(((x4:Int)=(x4:Int))/\(True/\(((x1.g.n:Int)=(x1.g.n:Int))/\((0=0/\x1.g.es.length=x1.g.es.length)/\((0=0/\x1.fs.length=x1.fs.length)/\True))))))))/\(((RLe (ahW x1 x23 x42).length ((ahW x1 x23 x27).length+(1:Nat)))/\(RowsEq [.int .i64] (ahW x1 x23 x42).length (appRows (ahW x1 x23 x27).length (encL encI (ahW x1 x23 x27)) 0 (litRows ((D.i (x1.g.es.getD (0+Int.toNat (x27:Int)) default).t::@List.nil D)::@List.nil (List D)))) (encL encI (ahW x1 x23 x42))))/\(((RLe x1.g.es.length x1.g.es.length)/\(RowsEq [.int .i64,.int .i64,.int .i64] x1.g.es.length (encL encE x1.g.es) (encL encE x1.g.es)))/\(((RLe x1.fs.length x1.fs.length)/\(RI x1.fs.length x1.fs x1.fs))/\True)))))))))))))/\((decide ((x1.g.es.getD x27 default).d≠(4611686018427387904:Int)/\(x1.g.es.getD x27 default).f∈ahW x1 x23 x27/\¬(x1.g.es.getD x27 default).t∈ahW x1 x23 x27)=false)->((((-9223372036854775808:Int)<=(x27:Int)+1)/\((x27:Int)+1<=(9223372036854775807:Int)))/\(∃ x44:Nat,((x1.g.es.length-x44<x1.g.es.length-x27)/\((x44<=x1.g.es.length)/\((((x27:Int)+1=(x44:Int))/\((0=0/\((ahW x1 x23 x27).length=(ahW x1 x23 x44).length))/\(((x23:Int)=(x23:Int))/\(((x4:Int)=(x4:Int))/\(True/\(((x1.g.n:Int)=(x1.g.n:Int))/\((0=0/\x1.g.es.length=x1.g.es.length)/\((0=0/\x1.fs.length=x1.fs.length)/\True))))))))/\(((RLe (ahW x1 x23 x44).length (ahW x1 x23 x27).length)/\(RowsEq [.int .i64] (ahW x1 x23 x44).length (encL encI (ahW x1 x23 x27)) (encL encI (ahW x1 x23 x44))))/\(((RLe x1.g.es.length x1.g.es.length)/\(RowsEq [.int .i64,.int .i64,.int .i64] x1.g.es.length (encL encE x1.g.es) (encL encE x1.g.es)))/\(((RLe x1.fs.length x1.fs.length)/\(RI x1.fs.length x1.fs x1.fs))/\True))))))))))))))/\((decide ((x27:Int)<(x1.g.es.length:Int))=false)->((((-9223372036854775808:Int)<=(x23:Int)+1)/\((x23:Int)+1<=(9223372036854775807:Int)))/\(∃ x46:Nat,((x1.g.n-x46<x1.g.n-x23)/\((x46<=x1.g.n)/\((((x23:Int)+1=(x46:Int))/\((0=0/\((ahW x1 x23 x27).length=(ahR x1 x46).length))/\(((x4:Int)=(x4:Int))/\(True/\(((x1.g.n:Int)=(x1.g.n:Int))/\((0=0/\x1.g.es.length=x1.g.es.length)/\((0=0/\x1.fs.length=x1.fs.length)/\True)))))))/\(((RLe (ahR x1 x46).length (ahW x1 x23 x27).length)/\(RowsEq [.int .i64] (ahR x1 x46).length (encL encI (ahW x1 x23 x27)) (encL encI (ahR x1 x46))))/\(((RLe x1.g.es.length x1.g.es.length)/\(RowsEq [.int .i64,.int .i64,.int .i64] x1.g.es.length (encL encE x1.g.es) (encL encE x1.g.es)))/\(((RLe x1.fs.length x1.fs.length)/\(RI x1.fs.length x1.fs x1.fs))/\True)))))))))))))))/\((decide ((x23:Int)<(x1.g.n:Int))=false)->(∃ x48:Nat,(((x48<=x1.g.n)/\(((0=(x48:Int))/\((True/\(0=0/\((outA (ahL x1) x48).length=(0:Nat))))/\(((x23:Int)=(x23:Int))/\((0=0/\((ahR x1 x23).length=(ahR x1 x23).length))/\(((x4:Int)=(x4:Int))/\(True/\(((x1.g.n:Int)=(x1.g.n:Int))/\((0=0/\x1.g.es.length=x1.g.es.length)/\((0=0/\x1.fs.length=x1.fs.length)/\True)))))))))/\(((outA (ahL x1) x48).length=(0:Nat))/\(((RLe (ahR x1 x23).length (ahR x1 x23).length)/\(RowsEq [.int .i64] (ahR x1 x23).length (encL encI (ahR x1 x23)) (encL encI (ahR x1 x23))))/\(((RLe x1.g.es.length x1.g.es.length)/\(RowsEq [.int .i64,.int .i64,.int .i64] x1.g.es.length (encL encE x1.g.es) (encL encE x1.g.es)))/\(((RLe x1.fs.length x1.fs.length)/\(RI x1.fs.length x1.fs x1.fs))/\True))))))/\(∀ x49:Nat,((x49<=x1.g.n)->(((decide ((x49:Int)<(x1.g.n:Int))=true)->(∃ x52:LIX,((x52.l.length<=(1073741824:Nat))/\(((0=0/\((ahR x1 x23).length=x52.l.length))/\(((x49:Int)=x52.n)/\True))/\((((RLe x52.l.length (ahR x1 x23).length)/\(RI x52.l.length (ahR x1 x23) x52.l))/\True)/\(((decide (x52.n∈x52.l)=true)->(((True/\True)/\True)/\((0=0/\(((outA (ahL x1) x49).length<=(outA (ahL x1) x49).length)/\(((1:Nat)<=(1:Nat))/\((outA (ahL x1) x49).length+(1:Nat)<=(1073741824:Nat)))))/\((((-9223372036854775808:Int)<=(x49:Int)+1)/\((x49:Int)+1<=(9223372036854775807:Int)))/\(∃ x54:Nat,((x1.g.n-x54<x1.g.n-x49)/\((x54<=x1.g.n)/\((((x49:Int)+1=(x54:Int))/\((0=0/\((outA (ahL x1) x49).length+(1:Nat)=(outA (ahL x1) x54).length))/\(((x23:Int)=(x23:Int))/\((0=0/\((ahR x1 x23).length=(ahR x1 x23).length))/\(((x4:Int)=(x4:Int))/\(True/\(((x1.g.n:Int)=(x1.g.n:Int))/\((0=0/\x1.g.es.length=x1.g.es.length)/\((0=0/\x1.fs.length=x1.fs.length)/\True)))))))))/\(((RLe (outA (ahL x1) x54).length ((outA (ahL x1) x49).length+(1:Nat)))/\(RowsEq [.int .i64] (outA (ahL x1) x54).length (appRows (outA (ahL x1) x49).length (encL encI (outA (ahL x1) x49)) 0 (litRows ((D.i (x49:Int)::@List.nil D)::@List.nil (List D)))) (encL encI (outA (ahL x1) x54))))/\(((RLe (ahR x1 x23).length (ahR x1 x23).length)/\(RowsEq [.int .i64] (ahR x1 x23).length (encL encI (ahR x1 x23)) (encL encI (ahR x1 x23))))/\(((RLe x1.g.es.length x1.g.es.length)/\(RowsEq [.int .i64,.int .i64,.int .i64] x1.g.es.length (encL encE x1.g.es) (encL encE x1.g.es)))/\(((RLe x1.fs.length x1.fs.length)/\(RI x1.fs.length x1.fs x1.fs))/\True))))))))))))/\((decide (x52.n∈x52.l)=false)->((((-9223372036854775808:Int)<=(x49:Int)+1)/\((x49:Int)+1<=(9223372036854775807:Int)))/\(∃ x56:Nat,((x1.g.n-x56<x1.g.n-x49)/\((x56<=x1.g.n)/\((((x49:Int)+1=(x56:Int))/\((0=0/\((outA (ahL x1) x49).length=(outA (ahL x1) x56).length))/\(((x23:Int)=(x23:Int))/\((0=0/\((ahR x1 x23).length=(ahR x1 x23).length))/\(((x4:Int)=(x4:Int))/\(True/\(((x1.g.n:Int)=(x1.g.n:Int))/\((0=0/\x1.g.es.length=x1.g.es.length)/\((0=0/\x1.fs.length=x1.fs.length)/\True)))))))))/\(((RLe (outA (ahL x1) x56).length (outA (ahL x1) x49).length)/\(RowsEq [.int .i64] (outA (ahL x1) x56).length (encL encI (outA (ahL x1) x49)) (encL encI (outA (ahL x1) x56))))/\(((RLe (ahR x1 x23).length (ahR x1 x23).length)/\(RowsEq [.int .i64] (ahR x1 x23).length (encL encI (ahR x1 x23)) (encL encI (ahR x1 x23))))/\(((RLe x1.g.es.length x1.g.es.length)/\(RowsEq [.int .i64,.int .i64,.int .i64] x1.g.es.length (encL encE x1.g.es) (encL encE x1.g.es)))/\(((RLe x1.fs.length x1.fs.length)/\(RI x1.fs.length x1.fs x1.fs))/\True))))))))))))))))/\((decide ((x49:Int)<(x1.g.n:Int))=false)->((0=0/\((outA (ahL x1) x49).length=(aheadL x1.g.n x1.g.es x1.fs).length))/\(((RLe (aheadL x1.g.n x1.g.es x1.fs).length (outA (ahL x1) x49).length)/\(RowsEq [.int .i64] (aheadL x1.g.n x1.g.es x1.fs).length (encL encI (outA (ahL x1) x49)) (encL encI (aheadL x1.g.n x1.g.es x1.fs))))/\True)))))))))))))))))))))))=(Keeps cfgAh Tryd.f22 ahC ahI) by kernel_rfl) (fun x1=>fun h2=>⟨((0:Nat)),
⟨(by(try dsimp only at *);omega),
⟨(by(try dsimp only at *);omega),
⟨trivial,rfl,
(by(try dsimp only at *);rfl)⟩,trivial,rfl,
⟨rfl,rfl⟩,
⟨rfl,rfl⟩,trivial⟩,
(by(try dsimp only at *);rfl),
⟨rl,rr⟩,
⟨rl,rr⟩,trivial⟩,
fun x4=>fun h5=>⟨fun g6=>have h6:=dT g6;⟨⟨⟨(by(try dsimp only at *);omega),
(by(try dsimp only at *);omega)⟩,
(by(try dsimp only at *);omega),
fun g7=>have h7:=dT g7;⟨⟨(by(try dsimp only at *);omega),
(by(try dsimp only at *);omega)⟩,
(by(try dsimp only at *);omega),
fun g8=>have h8:=dT g8;⟨⟨(by(try dsimp only at *);omega),
(by(try dsimp only at *);omega)⟩,
(by(try dsimp only at *);omega),
({ l:=startA (Gr.n (AHx.g x1)) (AHx.fs x1) x4,n:=List.getD (AHx.fs x1) ((0:Nat)+Int.toNat (↑x4:Int)) default:LIX }),
(by(try dsimp only at *);exact Nat.le_trans (ah_s h2 x4) (by decide)),
⟨⟨rfl,rfl⟩,rfl,trivial⟩,
⟨⟨rl,rr⟩,trivial⟩,
(default),trivial,
(by(try dsimp only at *);grind),trivial⟩,
fun g11=>have h11:=dF g11;⟨(default),trivial,
(by(try dsimp only at *);grind),trivial⟩⟩,
fun g13=>have h13:=dF g13;⟨(default),trivial,
(by(try dsimp only at *);grind),trivial⟩⟩,
fun x15=>fun h16=>⟨fun g17=>have h17:=dT g17;⟨⟨(by(try dsimp only at *);omega),
(by(try dsimp only at *);omega)⟩,
(by(try dsimp only at *);omega),
⟨⟨trivial,trivial⟩,trivial⟩,
⟨rfl,
(by(try dsimp only at *);omega),
(by(try dsimp only at *);omega),
(by(try dsimp only at *);(have:=ah_s h2 x4;have:=h2.f;omega))⟩,
⟨(by(try dsimp only at *);omega),
(by(try dsimp only at *);(have:=ah_s h2 x4;have:=h2.f;omega))⟩,
(x4+(1:Nat)),
(by(try dsimp only at *);omega),
(by(try dsimp only at *);omega),
⟨(by(try dsimp only at *);omega),
⟨rfl,
(by(try dsimp only at *);((have e:=(sA_yes (by omega) h17);first|(rw[e];done)|(rw[e];exact Nat.le_refl _)|(rw[e];exact rr)|(rw[e];exact push_rowsI)|(rw[e,List.length_append];rfl)|(rw[e,List.length_append];exact Nat.le_refl _)|(rw[e];dsimp only;rw[List.length_append];rfl)|(rw[e];dsimp only;rw[List.length_append];exact Nat.le_refl _))))⟩,trivial,rfl,
⟨rfl,rfl⟩,
⟨rfl,rfl⟩,trivial⟩,
⟨⟨(by(try dsimp only at *);((have e:=(sA_yes (by omega) h17);first|(rw[e];done)|(rw[e];exact Nat.le_refl _)|(rw[e];exact rr)|(rw[e];exact push_rowsI)|(rw[e,List.length_append];rfl)|(rw[e,List.length_append];exact Nat.le_refl _)|(rw[e];dsimp only;rw[List.length_append];rfl)|(rw[e];dsimp only;rw[List.length_append];exact Nat.le_refl _))))⟩,
(by(try dsimp only at *);(rw[nat0];((have e:=(sA_yes (by omega) h17);first|(rw[e];done)|(rw[e];exact Nat.le_refl _)|(rw[e];exact rr)|(rw[e];exact push_rowsI)|(rw[e,List.length_append];rfl)|(rw[e,List.length_append];exact Nat.le_refl _)|(rw[e];dsimp only;rw[List.length_append];rfl)|(rw[e];dsimp only;rw[List.length_append];exact Nat.le_refl _)))))⟩,
⟨rl,rr⟩,
⟨rl,rr⟩,trivial⟩,
fun g19=>have h19:=dF g19;⟨⟨(by(try dsimp only at *);omega),
(by(try dsimp only at *);(have:=ah_s h2 x4;have:=h2.f;omega))⟩,
(x4+(1:Nat)),
(by(try dsimp only at *);omega),
(by(try dsimp only at *);omega),
⟨(by(try dsimp only at *);omega),
⟨rfl,
(by(try dsimp only at *);((have e:=(sA_no (by omega) h19);first|(rw[e];done)|(rw[e];exact Nat.le_refl _)|(rw[e];exact rr)|(rw[e];exact push_rowsI)|(rw[e,List.length_append];rfl)|(rw[e,List.length_append];exact Nat.le_refl _)|(rw[e];dsimp only;rw[List.length_append];rfl)|(rw[e];dsimp only;rw[List.length_append];exact Nat.le_refl _))))⟩,trivial,rfl,
⟨rfl,rfl⟩,
⟨rfl,rfl⟩,trivial⟩,
⟨⟨(by(try dsimp only at *);((have e:=(sA_no (by omega) h19);first|(rw[e];done)|(rw[e];exact Nat.le_refl _)|(rw[e];exact rr)|(rw[e];exact push_rowsI)|(rw[e,List.length_append];rfl)|(rw[e,List.length_append];exact Nat.le_refl _)|(rw[e];dsimp only;rw[List.length_append];rfl)|(rw[e];dsimp only;rw[List.length_append];exact Nat.le_refl _))))⟩,
(by(try dsimp only at *);((have e:=(sA_no (by omega) h19);first|(rw[e];done)|(rw[e];exact Nat.le_refl _)|(rw[e];exact rr)|(rw[e];exact push_rowsI)|(rw[e,List.length_append];rfl)|(rw[e,List.length_append];exact Nat.le_refl _)|(rw[e];dsimp only;rw[List.length_append];rfl)|(rw[e];dsimp only;rw[List.length_append];exact Nat.le_refl _))))⟩,
⟨rl,rr⟩,
⟨rl,rr⟩,trivial⟩⟩⟩,
fun g21=>have h21:=dF g21;⟨((0:Nat)),
⟨(by(try dsimp only at *);omega),
⟨(by(try dsimp only at *);omega),
⟨rfl,
(by(try dsimp only at *);((have e:=(sA_end h5 h21);first|(rw[e];done)|(rw[e];exact Nat.le_refl _)|(rw[e];exact rr)|(rw[e];exact push_rowsI)|(rw[e,List.length_append];rfl)|(rw[e,List.length_append];exact Nat.le_refl _)|(rw[e];dsimp only;rw[List.length_append];rfl)|(rw[e];dsimp only;rw[List.length_append];exact Nat.le_refl _))))⟩,rfl,trivial,rfl,
⟨rfl,rfl⟩,
⟨rfl,rfl⟩,trivial⟩,
⟨⟨(by(try dsimp only at *);((have e:=(sA_end h5 h21);first|(rw[e];done)|(rw[e];exact Nat.le_refl _)|(rw[e];exact rr)|(rw[e];exact push_rowsI)|(rw[e,List.length_append];rfl)|(rw[e,List.length_append];exact Nat.le_refl _)|(rw[e];dsimp only;rw[List.length_append];rfl)|(rw[e];dsimp only;rw[List.length_append];exact Nat.le_refl _))))⟩,
(by(try dsimp only at *);((have e:=(sA_end h5 h21);first|(rw[e];done)|(rw[e];exact Nat.le_refl _)|(rw[e];exact rr)|(rw[e];exact push_rowsI)|(rw[e,List.length_append];rfl)|(rw[e,List.length_append];exact Nat.le_refl _)|(rw[e];dsimp only;rw[List.length_append];rfl)|(rw[e];dsimp only;rw[List.length_append];exact Nat.le_refl _))))⟩,
⟨rl,rr⟩,
⟨rl,rr⟩,trivial⟩,
fun x23=>fun h24=>⟨fun g25=>have h25:=dT g25;⟨((0:Nat)),
⟨(by(try dsimp only at *);omega),
⟨(by(try dsimp only at *);omega),
⟨rfl,
(by(try dsimp only at *);rfl)⟩,rfl,rfl,trivial,rfl,
⟨rfl,rfl⟩,
⟨rfl,rfl⟩,trivial⟩,
⟨⟨(by(try dsimp only at *);exact Nat.le_refl _)⟩,
(by(try dsimp only at *);exact rr)⟩,
⟨rl,rr⟩,
⟨rl,rr⟩,trivial⟩,
fun x27=>fun h28=>⟨fun g29=>have h29:=dT g29;⟨⟨⟨(by(try dsimp only at *);omega),
(by(try dsimp only at *);omega)⟩,
(by(try dsimp only at *);omega),
fun g30=>have h30:=dT g30;⟨⟨(by(try dsimp only at *);omega),
(by(try dsimp only at *);omega)⟩,
(by(try dsimp only at *);omega),
({ l:=ahW x1 x23 x27,n:=Ed.f (List.getD (Gr.es (AHx.g x1)) ((0:Nat)+Int.toNat (↑x27:Int)) default):LIX }),
(by(try dsimp only at *);exact Nat.le_trans (ah_w h2 x23 h28) (by decide)),
⟨⟨rfl,rfl⟩,rfl,trivial⟩,
⟨⟨rl,rr⟩,trivial⟩,
fun g32=>have h32:=dT g32;⟨⟨(by(try dsimp only at *);omega),
(by(try dsimp only at *);omega)⟩,
(by(try dsimp only at *);omega),
({ l:=ahW x1 x23 x27,n:=Ed.t (List.getD (Gr.es (AHx.g x1)) ((0:Nat)+Int.toNat (↑x27:Int)) default):LIX }),
(by(try dsimp only at *);exact Nat.le_trans (ah_w h2 x23 h28) (by decide)),
⟨⟨rfl,rfl⟩,rfl,trivial⟩,
⟨⟨rl,rr⟩,trivial⟩,
(default),trivial,
(by(try dsimp only at *);grind),trivial⟩,
fun g35=>have h35:=dF g35;⟨(default),trivial,
(by(try dsimp only at *);grind),trivial⟩⟩,
fun g37=>have h37:=dF g37;⟨(default),trivial,
(by(try dsimp only at *);grind),trivial⟩⟩,
fun x39=>fun h40=>⟨fun g41=>have h41:=dT g41;⟨⟨(by(try dsimp only at *);omega),
(by(try dsimp only at *);omega)⟩,
(by(try dsimp only at *);omega),
⟨⟨trivial,trivial⟩,trivial⟩,
⟨rfl,
(by(try dsimp only at *);omega),
(by(try dsimp only at *);omega),
(by(try dsimp only at *);(have:=ah_w h2 x23 h28;omega))⟩,
⟨(by(try dsimp only at *);omega),
(by(try dsimp only at *);(have:=h2.m;omega))⟩,
(x27+(1:Nat)),
(by(try dsimp only at *);omega),
(by(try dsimp only at *);omega),
⟨(by(try dsimp only at *);omega),
⟨rfl,
(by(try dsimp only at *);((have e:=(wA_yes h41);first|(rw[e];done)|(rw[e];exact Nat.le_refl _)|(rw[e];exact rr)|(rw[e];exact push_rowsI)|(rw[e,List.length_append];rfl)|(rw[e,List.length_append];exact Nat.le_refl _)|(rw[e];dsimp only;rw[List.length_append];rfl)|(rw[e];dsimp only;rw[List.length_append];exact Nat.le_refl _))))⟩,rfl,rfl,trivial,rfl,
⟨rfl,rfl⟩,
⟨rfl,rfl⟩,trivial⟩,
⟨⟨(by(try dsimp only at *);((have e:=(wA_yes h41);first|(rw[e];done)|(rw[e];exact Nat.le_refl _)|(rw[e];exact rr)|(rw[e];exact push_rowsI)|(rw[e,List.length_append];rfl)|(rw[e,List.length_append];exact Nat.le_refl _)|(rw[e];dsimp only;rw[List.length_append];rfl)|(rw[e];dsimp only;rw[List.length_append];exact Nat.le_refl _))))⟩,
(by(try dsimp only at *);(rw[nat0];((have e:=(wA_yes h41);first|(rw[e];done)|(rw[e];exact Nat.le_refl _)|(rw[e];exact rr)|(rw[e];exact push_rowsI)|(rw[e,List.length_append];rfl)|(rw[e,List.length_append];exact Nat.le_refl _)|(rw[e];dsimp only;rw[List.length_append];rfl)|(rw[e];dsimp only;rw[List.length_append];exact Nat.le_refl _)))))⟩,
⟨rl,rr⟩,
⟨rl,rr⟩,trivial⟩,
fun g43=>have h43:=dF g43;⟨⟨(by(try dsimp only at *);omega),
(by(try dsimp only at *);(have:=h2.m;omega))⟩,
(x27+(1:Nat)),
(by(try dsimp only at *);omega),
(by(try dsimp only at *);omega),
⟨(by(try dsimp only at *);omega),
⟨rfl,
(by(try dsimp only at *);((have e:=(wA_no h43);first|(rw[e];done)|(rw[e];exact Nat.le_refl _)|(rw[e];exact rr)|(rw[e];exact push_rowsI)|(rw[e,List.length_append];rfl)|(rw[e,List.length_append];exact Nat.le_refl _)|(rw[e];dsimp only;rw[List.length_append];rfl)|(rw[e];dsimp only;rw[List.length_append];exact Nat.le_refl _))))⟩,rfl,rfl,trivial,rfl,
⟨rfl,rfl⟩,
⟨rfl,rfl⟩,trivial⟩,
⟨⟨(by(try dsimp only at *);((have e:=(wA_no h43);first|(rw[e];done)|(rw[e];exact Nat.le_refl _)|(rw[e];exact rr)|(rw[e];exact push_rowsI)|(rw[e,List.length_append];rfl)|(rw[e,List.length_append];exact Nat.le_refl _)|(rw[e];dsimp only;rw[List.length_append];rfl)|(rw[e];dsimp only;rw[List.length_append];exact Nat.le_refl _))))⟩,
(by(try dsimp only at *);((have e:=(wA_no h43);first|(rw[e];done)|(rw[e];exact Nat.le_refl _)|(rw[e];exact rr)|(rw[e];exact push_rowsI)|(rw[e,List.length_append];rfl)|(rw[e,List.length_append];exact Nat.le_refl _)|(rw[e];dsimp only;rw[List.length_append];rfl)|(rw[e];dsimp only;rw[List.length_append];exact Nat.le_refl _))))⟩,
⟨rl,rr⟩,
⟨rl,rr⟩,trivial⟩⟩⟩,
fun g45=>have h45:=dF g45;⟨⟨(by(try dsimp only at *);omega),
(by(try dsimp only at *);(have:=h2.g.n;omega))⟩,
(x23+(1:Nat)),
(by(try dsimp only at *);omega),
(by(try dsimp only at *);omega),
⟨(by(try dsimp only at *);omega),
⟨rfl,
(by(try dsimp only at *);((have e:=(wA_end (x:=x1) (k:=x23) h28 h45);first|(rw[e];done)|(rw[e];exact Nat.le_refl _)|(rw[e];exact rr)|(rw[e];exact push_rowsI)|(rw[e,List.length_append];rfl)|(rw[e,List.length_append];exact Nat.le_refl _)|(rw[e];dsimp only;rw[List.length_append];rfl)|(rw[e];dsimp only;rw[List.length_append];exact Nat.le_refl _))))⟩,rfl,trivial,rfl,
⟨rfl,rfl⟩,
⟨rfl,rfl⟩,trivial⟩,
⟨⟨(by(try dsimp only at *);((have e:=(wA_end (x:=x1) (k:=x23) h28 h45);first|(rw[e];done)|(rw[e];exact Nat.le_refl _)|(rw[e];exact rr)|(rw[e];exact push_rowsI)|(rw[e,List.length_append];rfl)|(rw[e,List.length_append];exact Nat.le_refl _)|(rw[e];dsimp only;rw[List.length_append];rfl)|(rw[e];dsimp only;rw[List.length_append];exact Nat.le_refl _))))⟩,
(by(try dsimp only at *);((have e:=(wA_end (x:=x1) (k:=x23) h28 h45);first|(rw[e];done)|(rw[e];exact Nat.le_refl _)|(rw[e];exact rr)|(rw[e];exact push_rowsI)|(rw[e,List.length_append];rfl)|(rw[e,List.length_append];exact Nat.le_refl _)|(rw[e];dsimp only;rw[List.length_append];rfl)|(rw[e];dsimp only;rw[List.length_append];exact Nat.le_refl _))))⟩,
⟨rl,rr⟩,
⟨rl,rr⟩,trivial⟩⟩⟩,
fun g47=>have h47:=dF g47;⟨((0:Nat)),
⟨(by(try dsimp only at *);omega),
⟨(by(try dsimp only at *);omega),
⟨trivial,rfl,
(by(try dsimp only at *);rfl)⟩,rfl,
⟨rfl,rfl⟩,rfl,trivial,rfl,
⟨rfl,rfl⟩,
⟨rfl,rfl⟩,trivial⟩,
(by(try dsimp only at *);rfl),
⟨rl,rr⟩,
⟨rl,rr⟩,
⟨rl,rr⟩,trivial⟩,
fun x49=>fun h50=>⟨fun g51=>have h51:=dT g51;⟨({ l:=ahR x1 x23,n:=(↑x49:Int):LIX }),
(by(try dsimp only at *);exact Nat.le_trans (ah_r h2 x23) (by decide)),
⟨⟨rfl,rfl⟩,rfl,trivial⟩,
⟨⟨rl,rr⟩,trivial⟩,
fun g53=>have h53:=dT g53;⟨⟨⟨trivial,trivial⟩,trivial⟩,
⟨rfl,
(by(try dsimp only at *);omega),
(by(try dsimp only at *);omega),
(by(try dsimp only at *);(have:=out_le (ahL x1) x49;have:=h2.g.n;omega))⟩,
⟨(by(try dsimp only at *);omega),
(by(try dsimp only at *);(have:=h2.g.n;omega))⟩,
(x49+(1:Nat)),
(by(try dsimp only at *);omega),
(by(try dsimp only at *);omega),
⟨(by(try dsimp only at *);omega),
⟨rfl,
(by(try dsimp only at *);((have e:=(oA_yes (l:=ahL x1) (k:=x49) (by rw[<- rA_end h24 h47];exact h53));first|(rw[e];done)|(rw[e];exact Nat.le_refl _)|(rw[e];exact rr)|(rw[e];exact push_rowsI)|(rw[e,List.length_append];rfl)|(rw[e,List.length_append];exact Nat.le_refl _)|(rw[e];dsimp only;rw[List.length_append];rfl)|(rw[e];dsimp only;rw[List.length_append];exact Nat.le_refl _))))⟩,rfl,
⟨rfl,rfl⟩,rfl,trivial,rfl,
⟨rfl,rfl⟩,
⟨rfl,rfl⟩,trivial⟩,
⟨⟨(by(try dsimp only at *);((have e:=(oA_yes (l:=ahL x1) (k:=x49) (by rw[<- rA_end h24 h47];exact h53));first|(rw[e];done)|(rw[e];exact Nat.le_refl _)|(rw[e];exact rr)|(rw[e];exact push_rowsI)|(rw[e,List.length_append];rfl)|(rw[e,List.length_append];exact Nat.le_refl _)|(rw[e];dsimp only;rw[List.length_append];rfl)|(rw[e];dsimp only;rw[List.length_append];exact Nat.le_refl _))))⟩,
(by(try dsimp only at *);((have e:=(oA_yes (l:=ahL x1) (k:=x49) (by rw[<- rA_end h24 h47];exact h53));first|(rw[e];done)|(rw[e];exact Nat.le_refl _)|(rw[e];exact rr)|(rw[e];exact push_rowsI)|(rw[e,List.length_append];rfl)|(rw[e,List.length_append];exact Nat.le_refl _)|(rw[e];dsimp only;rw[List.length_append];rfl)|(rw[e];dsimp only;rw[List.length_append];exact Nat.le_refl _))))⟩,
⟨rl,rr⟩,
⟨rl,rr⟩,
⟨rl,rr⟩,trivial⟩,
fun g55=>have h55:=dF g55;⟨⟨(by(try dsimp only at *);omega),
(by(try dsimp only at *);(have:=h2.g.n;omega))⟩,
(x49+(1:Nat)),
(by(try dsimp only at *);omega),
(by(try dsimp only at *);omega),
⟨(by(try dsimp only at *);omega),
⟨rfl,
(by(try dsimp only at *);((have e:=(oA_no (l:=ahL x1) (k:=x49) (by rw[<- rA_end h24 h47];exact h55));first|(rw[e];done)|(rw[e];exact Nat.le_refl _)|(rw[e];exact rr)|(rw[e];exact push_rowsI)|(rw[e,List.length_append];rfl)|(rw[e,List.length_append];exact Nat.le_refl _)|(rw[e];dsimp only;rw[List.length_append];rfl)|(rw[e];dsimp only;rw[List.length_append];exact Nat.le_refl _))))⟩,rfl,
⟨rfl,rfl⟩,rfl,trivial,rfl,
⟨rfl,rfl⟩,
⟨rfl,rfl⟩,trivial⟩,
⟨⟨(by(try dsimp only at *);((have e:=(oA_no (l:=ahL x1) (k:=x49) (by rw[<- rA_end h24 h47];exact h55));first|(rw[e];done)|(rw[e];exact Nat.le_refl _)|(rw[e];exact rr)|(rw[e];exact push_rowsI)|(rw[e,List.length_append];rfl)|(rw[e,List.length_append];exact Nat.le_refl _)|(rw[e];dsimp only;rw[List.length_append];rfl)|(rw[e];dsimp only;rw[List.length_append];exact Nat.le_refl _))))⟩,
(by(try dsimp only at *);((have e:=(oA_no (l:=ahL x1) (k:=x49) (by rw[<- rA_end h24 h47];exact h55));first|(rw[e];done)|(rw[e];exact Nat.le_refl _)|(rw[e];exact rr)|(rw[e];exact push_rowsI)|(rw[e,List.length_append];rfl)|(rw[e,List.length_append];exact Nat.le_refl _)|(rw[e];dsimp only;rw[List.length_append];rfl)|(rw[e];dsimp only;rw[List.length_append];exact Nat.le_refl _))))⟩,
⟨rl,rr⟩,
⟨rl,rr⟩,
⟨rl,rr⟩,trivial⟩⟩,
fun g57=>have h57:=dF g57;⟨⟨rfl,
(by(try dsimp only at *);((have e:=(oA_end h50 h57);first|(rw[e];done)|(rw[e];exact Nat.le_refl _)|(rw[e];exact rr)|(rw[e];exact push_rowsI)|(rw[e,List.length_append];rfl)|(rw[e,List.length_append];exact Nat.le_refl _)|(rw[e];dsimp only;rw[List.length_append];rfl)|(rw[e];dsimp only;rw[List.length_append];exact Nat.le_refl _))))⟩,
⟨⟨(by(try dsimp only at *);((have e:=(oA_end h50 h57);first|(rw[e];done)|(rw[e];exact Nat.le_refl _)|(rw[e];exact rr)|(rw[e];exact push_rowsI)|(rw[e,List.length_append];rfl)|(rw[e,List.length_append];exact Nat.le_refl _)|(rw[e];dsimp only;rw[List.length_append];rfl)|(rw[e];dsimp only;rw[List.length_append];exact Nat.le_refl _))))⟩,
(by(try dsimp only at *);((have e:=(oA_end h50 h57);first|(rw[e];done)|(rw[e];exact Nat.le_refl _)|(rw[e];exact rr)|(rw[e];exact push_rowsI)|(rw[e,List.length_append];rfl)|(rw[e,List.length_append];exact Nat.le_refl _)|(rw[e];dsimp only;rw[List.length_append];rfl)|(rw[e];dsimp only;rw[List.length_append];exact Nat.le_refl _))))⟩,trivial⟩⟩⟩⟩⟩⟩⟩)
def madeC:CT where
 X:=NewX
 pre:=fun _=>True
 args:=fun x=>[.agg [.i .i64 x.n,.sl 100000 0 x.es.length]]
 g0:=fun x=>[(100000,.rows .bor kE x.es.length (encL encE x.es))]
 res:=fun x=>.tup [.q 1 (szN x),.b (decide (errN x=0))]
 g1:=fun x=>[(1,.rows .own kG (szN x) (encG x.g))]
def cfgMd:Cfg:=⟨T,[],[(35,.one newC)],noInv,10,{}⟩
theorem conMd:ConOk Tryd.prog cfgMd:=ConL.ok (.cons (ConL.one new_good) .nil)
theorem sz_err {x:NewX} (h:errN x=0):szN x=1:=if_pos h
set_option maxRecDepth 100000 in
theorem made_keeps:Keeps cfgMd Tryd.f11 madeC noIv:=Eq.mp (show((∀ x1:NewX,(True->(∃ x3:NewX,(True/\((x1.n=x3.n/\((0=0/\x1.es.length=x3.es.length)/\True))/\((((RLe x3.es.length x1.es.length)/\(RowsEq [.int .i64,.int .i64,.int .i64] x3.es.length (encL encE x1.es) (encL encE x3.es)))/\True)/\(((decide (errN x3=0)=true)->(((szN x3=szN x1)/\(((!decide (szN x3=(0:Nat)))=decide (errN x1=0))/\True))/\(((RLe (szN x1) (szN x3))/\(RowsEq [.sl [.int .i64,.int .i64,.int .i64],.sl [.sl [.int .i64]],.sl [.sl [.int .i64]]] (szN x1) (encG (NewX.g x3)) (encG (NewX.g x1))))/\True)))/\((decide (errN x3=0)=false)->(((szN x3=szN x1)/\((false=decide (errN x1=0))/\True))/\(((RLe (szN x1) (szN x3))/\(RowsEq [.sl [.int .i64,.int .i64,.int .i64],.sl [.sl [.int .i64]],.sl [.sl [.int .i64]]] (szN x1) (encG (NewX.g x3)) (encG (NewX.g x1))))/\True)))))))))))=(Keeps cfgMd Tryd.f11 madeC noIv) by kernel_rfl) (fun x1=>fun h2=>⟨(x1),trivial,
⟨rfl,
⟨rfl,rfl⟩,trivial⟩,
⟨⟨rl,rr⟩,trivial⟩,
fun g4=>have h4:=dT g4;⟨⟨rfl,
(by(try dsimp only at *);(rw[sz_err h4,h4];rfl)),trivial⟩,
⟨rl,rr⟩,trivial⟩,
fun g5=>have h5:=dF g5;⟨⟨rfl,
(by(try dsimp only at *);grind),trivial⟩,
⟨rl,rr⟩,trivial⟩⟩)
theorem made_good:Good Tryd.prog 11 madeC/\FnOk Tryd.prog 11:=good_of tok conMd (fn:=Tryd.f11) rfl (by decide+kernel) (fun _=>rfl) made_keeps
def madeYC:CT where
 X:=NewX
 pre:=fun x=>errN x=0
 args:=madeC.args
 g0:=madeC.g0
 res:=fun x=>.tup [.p 1 0 0,.b true]
 g1:=fun x=>[(1,.rows .own kG 1 (encG x.g))]
theorem madeY_good:Good Tryd.prog 11 madeYC/\FnOk Tryd.prog 11:=by
 refine⟨good_say (ct:=madeC) (ct':=madeYC) (fun x=>x) made_good.1 (fun x h=>trivial) (fun _=>rfl) (fun _=>rfl) (fun x h=>?_) (fun x h ρ v hd=>?_) (fun _=>rfl),made_good.2⟩
 ·have e:szN x=1:=if_pos h
  show [(1,Blk.rows .own kG (szN x) (encG x.g))]=_
  rw[e];rfl
 ·have e:szN x=1:=if_pos h
  have hd:Den ρ (.tup [.q 1 (szN x),.b (decide (errN x=0))]) v:=hd
  rw[e,decide_eq_true (show errN x=0 from h)]at hd
  simp only[Den]at hd
  show Den ρ (.tup [.p 1 0 0,.b true]) v
  simp only[Den]
  obtain⟨vs,h1,h2⟩:=hd
  obtain⟨u,r,h3,h4,h5⟩:=h2
  exact⟨vs,h1,u,r,h3,den_p1 h4,h5⟩
def smallC:CT where
 X:=NewX
 pre:=fun _=>True
 args:=fun x=>[.agg [.i .i64 x.n,.sl 100000 0 x.es.length]]
 g0:=fun x=>[(100000,.rows .bor kE x.es.length (encL encE x.es))]
 res:=fun x=>.b (decide (x.n<=12/\x.es.length<=40))
 g1:=fun _=>[]
set_option maxRecDepth 100000 in
theorem small_keeps:Keeps cfgN0 Tryd.f12 smallC noIv:=Eq.mp (show((∀ x1:NewX,(True->(((decide (x1.n<=(12:Int))=true)->((decide ((x1.es.length:Int)<=(40:Int))=decide (x1.n<=(12:Int)/\x1.es.length<=(40:Nat)))/\True))/\((decide (x1.n<=(12:Int))=false)->((false=decide (x1.n<=(12:Int)/\x1.es.length<=(40:Nat)))/\True))))))=(Keeps cfgN0 Tryd.f12 smallC noIv) by kernel_rfl) (fun x1=>fun h2=>⟨fun g3=>have h3:=dT g3;⟨(by grind),trivial⟩,
fun g4=>have h4:=dF g4;⟨(by grind),trivial⟩⟩)
theorem small_good:Good Tryd.prog 12 smallC/\FnOk Tryd.prog 12:=good_of tok conN0 (fn:=Tryd.f12) rfl (by decide+kernel) (fun _=>rfl) small_keeps
def nA7 (p:NewX):SV:=.agg [.i .i64 p.n,.sl 100000 0 p.es.length]
def nH7 (p:NewX):List (Nat × Blk):=[(100000,.rows .bor kE p.es.length (encL encE p.es))]
theorem err_g {x:NewX} (h:errN x=0):GOk x.g/\1<=x.n/\((x.g.n:Nat):Int)=x.n:=by
 unfold errN at h
 split at h
 ·cases h
 ·rename_i q
  split at h
  ·cases h
  ·rename_i q2
   split at h
   ·rename_i q3
    exact⟨gok (by omega) (by omega) (by omega) q3,by omega,by show((x.n.toNat:Nat):Int)=x.n;omega⟩
   ·cases h
end Go.Sym