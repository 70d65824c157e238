import Derived.Test.YtfflknhillcblaaDoorX16
import Derived.Test.YtfflknhillcblaaDoorX7
import Derived.Test.YtfflknhillcblaaDoorXD
namespace Go.Sym
set_option linter.unusedVariables false
set_option linter.unusedSimpArgs false
open Go.Proofs
set_option maxRecDepth 100000
set_option maxHeartbeats 4000000
def ahd (g:Gr) (i:Nat):List Int:=aheadL g.n g.es [(i:Int)]
def ahs (g:Gr) (k:Nat):List (List Int):=(List.range k).map (ahd g)
def kLI:List Kd:=[.sl k1]
def encLI (l:List Int):Nat->D:=encN [.l l.length (encL encI l)]
def mutQ (g:Gr) (n j:Nat):Bool:=decide ((j:Int)∈ahd g n)&&decide ((n:Int)∈ahd g j)
def parT (g:Gr) (n m:Nat):List Int:=nI ((List.range m).filter fun j=>decide (n<=j)&&mutQ g n j)
abbrev PSt:=List Int × List (List Int)
def paSt (g:Gr) (s:PSt) (n:Nat):PSt:=if(n:Int)∈s.1 then s else(s.1++parT g n g.n,s.2++[parT g n g.n])
def paA (g:Gr) (k:Nat):PSt:=(List.range k).foldl (paSt g) ([],[])
def partsL (g:Gr):List (List Int):=(paA g g.n).2
structure P12 (g:Gr):Prop where
 q:G12 g
 m:g.es.length<=40
theorem ahd_len {g:Gr} (h:P12 g) (i:Nat):(ahd g i).length<=12:=by
 have e:ahd g i=aheadL g.n g.es [(i:Int)]:=rfl
 rw[e]
 unfold aheadL outA
 have:=h.q.n
 rw[List.length_map]
 exact Nat.le_trans (List.length_filter_le _ _) (by rw[List.length_range];exact this)
theorem ahs_len (g:Gr) (k:Nat):(ahs g k).length=k:=by unfold ahs;rw[List.length_map,List.length_range]
theorem ahs_at {g:Gr} {k i:Nat} (h:i<k):(ahs g k).getD i default=ahd g i:=by
 unfold ahs;rw[List.getD_eq_getElem?_getD,List.getElem?_map,List.getElem?_range h];rfl
theorem ahs_succ (g:Gr) (k:Nat):ahs g (k+1)=ahs g k++[ahd g k]:=by unfold ahs;rw[List.range_succ,List.map_append];rfl
theorem parT_succ (g:Gr) (n m:Nat):parT g n (m+1)=parT g n m++(if(decide (n<=m)&&mutQ g n m)=true then [(m:Int)]else []):=by
 unfold parT
 rw[List.range_succ,List.filter_append,nI_app]
 congr 1
 cases q:decide (n<=m)&&mutQ g n m with
 |true=>rw[if_pos rfl,List.filter_cons_of_pos (by exact q)];rfl
 |false=>rw[if_neg (by simp),List.filter_cons_of_neg (by rw[q];simp)];rfl
theorem parT_start (g:Gr) (n:Nat):parT g n n=[]:=by
 unfold parT
 rw[List.filter_eq_nil_iff.2 fun j hj=>by
  have:=List.mem_range.1 hj
  rw[decide_eq_false (by omega),Bool.false_and];simp]
 rfl
theorem parT_len (g:Gr) (n m:Nat):(parT g n m).length<=m:=by
 unfold parT nI
 rw[List.length_map]
 simpa using List.length_filter_le (fun j=>decide (n<=j)&&mutQ g n j) (List.range m)
theorem paA_succ (g:Gr) (k:Nat):paA g (k+1)=paSt g (paA g k) k:=by unfold paA;rw[List.range_succ,List.foldl_append];rfl
theorem paA_len (g:Gr) (k:Nat):(paA g k).1.length<=k*g.n/\(paA g k).2.length<=k:=by
 induction k with
 |zero=>exact⟨Nat.zero_le _,Nat.le_refl _⟩
 |succ k ih=>
  rw[paA_succ]
  unfold paSt
  have e:(k+1)*g.n=k*g.n+g.n:=Nat.succ_mul _ _
  split
  ·omega
  ·have:=parT_len g k g.n
   simp only[List.length_append,List.length_cons,List.length_nil]
   omega
theorem paA_le {g:Gr} (h:P12 g) {k:Nat} (hk:k<=g.n):(paA g k).1.length<=144/\(paA g k).2.length<=12:=by
 have a:=paA_len g k
 have b:=h.q.n
 have:k*g.n<=12*12:=Nat.mul_le_mul (by omega) b
 omega
def paC:CT where
 X:=Gr
 pre:=P12
 args:=fun g=>[.i .i64 g.n,.sl 100000 0 g.es.length]
 g0:=fun g=>[(100000,.rows .bor kE g.es.length (encL encE g.es))]
 res:=fun g=>.sl 1 0 (partsL g).length
 g1:=fun g=>[(1,.rows .own kLI (partsL g).length (encL encLI (partsL g)))]
def paI (g:Gr) (id:Nat):Option Inv:=match id with
 |0=>some { X:=Nat,ok:=fun k=>k<=g.n,fr:=fun k=>[(6,.i .i64 k),(5,.sl 70 0 k)],hp:=fun k=>[(70,.rows .own kLI k (encL encLI (ahs g k)))],me:=fun k=>g.n-k }
 | 2 => some { X := Nat, ok := fun k => k <= g.n, fr := fun k => [(9, .i .i64 k), (8, .sl 71 0 (paA g k).1.length), (7, .sl 72 0 (paA g k).2.length)],
               hp:=fun k=>[(71,.rows .own k1 (paA g k).1.length (encL encI (paA g k).1)),(72,.rows .own kLI (paA g k).2.length (encL encLI (paA g k).2))],me:=fun k=>g.n-k,
               inn:=fun k id=>match id with
                | 4 => some { X := Nat, ok := fun m => k <= m /\ m <= g.n, fr := fun m => [(11, .i .i64 m), (10, .sl 73 0 (parT g k m).length), (8, .sl 71 0 ((paA g k).1 ++ parT g k m).length)],
                              hp:=fun m=>[(71,.rows .own k1 ((paA g k).1++parT g k m).length (encL encI ((paA g k).1++parT g k m))),(73,.rows .own k1 (parT g k m).length (encL encI (parT g k m)))],me:=fun m=>g.n-m }
                |_=>none }
 |_=>none
def cfgPa:Cfg:=⟨T,[],[(22,.one ahC),(43,.one vhasC)],noInv,12,{}⟩
theorem conPa:ConOk Tryd.prog cfgPa:=ConL.ok (.cons (ConL.one ah_good) (.cons (ConL.one vhas_good) .nil))
theorem pa_ah {g:Gr} (h:P12 g) (k:Nat):AHok ⟨g,[(k:Int)]⟩:=⟨h.q,h.m,by show 1<=20;omega⟩
theorem pushLI {l:List (List Int)} {v:List Int} {n:Nat} (hn:n=l.length) {f:Nat->Nat->D} (hf:RowsEq k1 v.length f (encL encI v)):RowsEq kLI (n+1) (appRows n (encL encLI l) 0 (litRows [[.l v.length f]])) (encL encLI (l++[v])):=
 rowsEq_push hn (by omega) (by simp only[rowEq,kLI];exact⟨⟨rfl,hf.h⟩,trivial⟩)
theorem push1 {l:List Int} {v:Int} {n:Nat} (hn:n=l.length):RowsEq k1 (n+1) (appRows n (encL encI l) 0 (litRows [[.i v]])) (encL encI (l++[v])):=rowsEq_push hn (by omega) ⟨rfl,trivial⟩
theorem mut_yes {g:Gr} {n j k:Nat} (hn:n<k) (hj:j<k) (h1:(j:Int)∈(ahs g k).getD (0+(n:Int).toNat) default) (h2:(n:Int)∈(ahs g k).getD (0+(j:Int).toNat) default):mutQ g n j=true:=by
 rw[nat0,ahs_at hn]at h1
 rw[nat0,ahs_at hj]at h2
 unfold mutQ
 rw[decide_eq_true h1,decide_eq_true h2];rfl
theorem mut_no1 {g:Gr} {n j k:Nat} (hn:n<k) (h1:¬ (j:Int)∈(ahs g k).getD (0+(n:Int).toNat) default):mutQ g n j=false:=by
 rw[nat0,ahs_at hn]at h1
 unfold mutQ
 rw[decide_eq_false h1];rfl
theorem mut_no2 {g:Gr} {n j k:Nat} (hj:j<k) (h2:¬ (n:Int)∈(ahs g k).getD (0+(j:Int).toNat) default):mutQ g n j=false:=by
 rw[nat0,ahs_at hj]at h2
 unfold mutQ
 rw[decide_eq_false h2,Bool.and_false]
theorem par_yes {g:Gr} {n m:Nat} (h:n<=m) (q:mutQ g n m=true):parT g n m++[(m:Int)]=parT g n (m+1):=by rw[parT_succ,if_pos (by rw[decide_eq_true h,q];rfl)]
theorem par_no {g:Gr} {n m:Nat} (q:mutQ g n m=false):parT g n m=parT g n (m+1):=by rw[parT_succ,if_neg (by rw[q,Bool.and_false];simp),List.append_nil]
theorem pa_same {g:Gr} {k:Nat} (h:(k:Int)∈(paA g k).1):paA g k=paA g (k+1):=by rw[paA_succ];exact(if_pos h).symm
theorem pa_new {g:Gr} {k:Nat} (h:¬ (k:Int)∈(paA g k).1):paA g (k+1)=((paA g k).1++parT g k g.n,(paA g k).2++[parT g k g.n]):=by rw[paA_succ];exact if_neg h
theorem ahs_row {g:Gr} {n k:Nat} (h:n<k):((ahs g k).getD (0+(n:Int).toNat) default).length<=1073741824∨¬ P12 g:=by
 rw[nat0,ahs_at h]
 rcases Classical.em (P12 g)with q|q
 ·exact .inl (Nat.le_trans (ahd_len q n) (by omega))
 ·exact .inr q
theorem shift0 {l:List Int}:RowsEq k1 l.length (fun r c=>D.i (l.getD (0+r) default)) (encL encI l):=⟨fun r _=>⟨by show l.getD (0+r) default=l.getD r default;rw[Nat.zero_add],trivial⟩⟩
theorem pushL2 {l:List (List Int)} {v:List Int} {n:Nat} (hn:n=l.length):RowsEq kLI (n+1) (appRows n (encL encLI l) 0 (litRows [[.l v.length fun r c=>D.i (v.getD (0+r) default)]])) (encL encLI (l++[v])):=pushLI hn shift0
theorem pushL3 {l:List (List Int)} {v:List Int}:RowsEq kLI (l++[v]).length (appRows l.length (encL encLI l) 0 (litRows [[.l v.length fun r c=>D.i (v.getD (0+r) default)]])) (encL encLI (l++[v])):=by
 rw[List.length_append];exact pushL2 rfl
theorem push1b {l:List Int} {v:Int}:RowsEq k1 (l++[v]).length (appRows l.length (encL encI l) 0 (litRows [[.i v]])) (encL encI (l++[v])):=by
 rw[List.length_append];exact push1 rfl
set_option maxRecDepth 100000 in
theorem pa_keeps:Keeps cfgPa Tryd.f25 paC paI:=Eq.mp (show((∀ x1:Gr,((P12 x1)->(∃ x3:Nat,(((x3<=x1.n)/\(((0=(x3:Int))/\((True/\(0=0/\(x3=(0:Nat))))/\(True/\(((x1.n:Int)=(x1.n:Int))/\((0=0/\x1.es.length=x1.es.length)/\True)))))/\((x3=(0:Nat))/\(((RLe x1.es.length x1.es.length)/\(RowsEq [.int .i64,.int .i64,.int .i64] x1.es.length (encL encE x1.es) (encL encE x1.es)))/\True))))/\(∀ x4:Nat,((x4<=x1.n)->(((decide ((x4:Int)<(x1.n:Int))=true)->(((True/\True)/\True)/\(∃ x7:AHx,((AHok x7)/\((((x1.n:Int)=(x7.g.n:Int))/\((0=0/\x1.es.length=x7.g.es.length)/\((0=0/\((1:Nat)=x7.fs.length))/\True)))/\((((RLe x7.g.es.length x1.es.length)/\(RowsEq [.int .i64,.int .i64,.int .i64] x7.g.es.length (encL encE x1.es) (encL encE x7.g.es)))/\(((RLe x7.fs.length 1)/\(RowsEq [.int .i64] x7.fs.length (litRows ((D.i (x4:Int)::@List.nil D)::@List.nil (List D))) (encL encI x7.fs)))/\True))/\(((((0:Nat)+(aheadL x7.g.n x7.g.es x7.fs).length<=(aheadL x7.g.n x7.g.es x7.fs).length)/\True)/\True)/\((0=0/\((x4<=x4)/\(((1:Nat)<=(1:Nat))/\(x4+(1:Nat)<=(5864062014805:Nat)))))/\((((-9223372036854775808:Int)<=(x4:Int)+1)/\((x4:Int)+1<=(9223372036854775807:Int)))/\(∃ x8:Nat,((x1.n-x8<x1.n-x4)/\((x8<=x1.n)/\((((x4:Int)+1=(x8:Int))/\((0=0/\(x4+(1:Nat)=x8))/\(True/\(((x1.n:Int)=(x1.n:Int))/\((0=0/\x1.es.length=x1.es.length)/\True)))))/\(((RLe x8 (x4+(1:Nat)))/\(RowsEq [.sl [.int .i64]] x8 (appRows x4 (encL encLI (ahs x1 x4)) 0 (litRows (((D.l (aheadL x7.g.n x7.g.es x7.fs).length fun(r c:Nat)=>D.i ((aheadL x7.g.n x7.g.es x7.fs).getD ((0:Nat)+r) default))::@List.nil D)::@List.nil (List D)))) (encL encLI (ahs x1 x8))))/\(((RLe x1.es.length x1.es.length)/\(RowsEq [.int .i64,.int .i64,.int .i64] x1.es.length (encL encE x1.es) (encL encE x1.es)))/\True)))))))))))))))/\((decide ((x4:Int)<(x1.n:Int))=false)->(∃ x10:Nat,(((x10<=x1.n)/\(((0=(x10:Int))/\((True/\(0=0/\((Prod.fst (paA x1 x10)).length=(0:Nat))))/\((True/\(0=0/\((Prod.snd (paA x1 x10)).length=(0:Nat))))/\(((x4:Int)=(x4:Int))/\((0=0/\x4=x4)/\(True/\(((x1.n:Int)=(x1.n:Int))/\((0=0/\x1.es.length=x1.es.length)/\True))))))))/\(((Prod.fst (paA x1 x10)).length=(0:Nat))/\(((Prod.snd (paA x1 x10)).length=(0:Nat))/\((RLe x4 x4/\(RowsEq [.sl [.int .i64]] x4 (encL encLI (ahs x1 x4)) (encL encLI (ahs x1 x4))))/\(((RLe x1.es.length x1.es.length)/\(RowsEq [.int .i64,.int .i64,.int .i64] x1.es.length (encL encE x1.es) (encL encE x1.es)))/\True))))))/\(∀ x11:Nat,((x11<=x1.n)->(((decide ((x11:Int)<(x1.n:Int))=true)->(∃ x14:LIX,((x14.l.length<=(1073741824:Nat))/\(((0=0/\((Prod.fst (paA x1 x11)).length=x14.l.length))/\(((x11:Int)=x14.n)/\True))/\((((RLe x14.l.length (Prod.fst (paA x1 x11)).length)/\(RI x14.l.length (Prod.fst (paA x1 x11)) x14.l))/\True)/\(((decide (x14.n∈x14.l)=true)->((((-9223372036854775808:Int)<=(x11:Int)+1)/\((x11:Int)+1<=(9223372036854775807:Int)))/\(∃ x16:Nat,((x1.n-x16<x1.n-x11)/\((x16<=x1.n)/\((((x11:Int)+1=(x16:Int))/\((0=0/\((Prod.fst (paA x1 x11)).length=(Prod.fst (paA x1 x16)).length))/\((0=0/\((Prod.snd (paA x1 x11)).length=(Prod.snd (paA x1 x16)).length))/\(((x4:Int)=(x4:Int))/\((0=0/\x4=x4)/\(True/\(((x1.n:Int)=(x1.n:Int))/\((0=0/\x1.es.length=x1.es.length)/\True))))))))/\(((RLe (Prod.fst (paA x1 x16)).length (Prod.fst (paA x1 x11)).length)/\(RowsEq [.int .i64] (Prod.fst (paA x1 x16)).length (encL encI (Prod.fst (paA x1 x11))) (encL encI (Prod.fst (paA x1 x16)))))/\(((RLe (Prod.snd (paA x1 x16)).length (Prod.snd (paA x1 x11)).length)/\(RowsEq [.sl [.int .i64]] (Prod.snd (paA x1 x16)).length (encL encLI (Prod.snd (paA x1 x11))) (encL encLI (Prod.snd (paA x1 x16)))))/\((RLe x4 x4/\(RowsEq [.sl [.int .i64]] x4 (encL encLI (ahs x1 x4)) (encL encLI (ahs x1 x4))))/\(((RLe x1.es.length x1.es.length)/\(RowsEq [.int .i64,.int .i64,.int .i64] x1.es.length (encL encE x1.es) (encL encE x1.es)))/\True))))))))))/\((decide (x14.n∈x14.l)=false)->(∃ x18:Nat,((((x11<=x18)/\(x18<=x1.n))/\((((x11:Int)=(x18:Int))/\((True/\(0=0/\((parT x1 x11 x18).length=(0:Nat))))/\((0=0/\((Prod.fst (paA x1 x11)).length=(Prod.fst (paA x1 x11)++parT x1 x11 x18).length))/\(((x11:Int)=(x11:Int))/\((0=0/\((Prod.snd (paA x1 x11)).length=(Prod.snd (paA x1 x11)).length))/\(((x4:Int)=(x4:Int))/\((0=0/\x4=x4)/\(True/\(((x1.n:Int)=(x1.n:Int))/\((0=0/\x1.es.length=x1.es.length)/\True))))))))))/\(((RLe (Prod.fst (paA x1 x11)++parT x1 x11 x18).length (Prod.fst (paA x1 x11)).length)/\(RowsEq [.int .i64] (Prod.fst (paA x1 x11)++parT x1 x11 x18).length (encL encI (Prod.fst (paA x1 x11))) (encL encI (Prod.fst (paA x1 x11)++parT x1 x11 x18))))/\(((parT x1 x11 x18).length=(0:Nat))/\(((RLe (Prod.snd (paA x1 x11)).length (Prod.snd (paA x1 x11)).length)/\(RowsEq [.sl [.int .i64]] (Prod.snd (paA x1 x11)).length (encL encLI (Prod.snd (paA x1 x11))) (encL encLI (Prod.snd (paA x1 x11)))))/\((RLe x4 x4/\(RowsEq [.sl [.int .i64]] x4 (encL encLI (ahs x1 x4)) (encL encLI (ahs x1 x4))))/\(((RLe x1.es.length x1.es.length)/\(RowsEq [.int .i64,.int .i64,.int .i64] x1.es.length (encL encE x1.es) (encL encE x1.es)))/\True)))))))/\(∀ x19:Nat,((x11<=x19/\x19<=x1.n)->(((decide ((x19:Int)<(x1.n:Int))=true)->((((0:Int)<=(x11:Int))/\((x11:Int)<(x4:Int)))/\((0+Int.toNat (x11:Int)<x4)/\(∃ x22:LIX,((x22.l.length<=(1073741824:Nat))/\(((0=0/\(((ahs x1 x4).getD (0+Int.toNat (x11:Int)) default).length=x22.l.length))/\(((x19:Int)=x22.n)/\True))/\((((RLe x22.l.length ((ahs x1 x4).getD (0+Int.toNat (x11:Int)) default).length)/\(RowsEq [.int .i64] x22.l.length (D.toF (D.l ((ahs x1 x4).getD (0+Int.toNat (x11:Int)) default).length (encL encI ((ahs x1 x4).getD (0+Int.toNat (x11:Int)) default)))) (encL encI x22.l)))/\True)/\(((decide (x22.n∈x22.l)=true)->((((0:Int)<=(x19:Int))/\((x19:Int)<(x4:Int)))/\((0+Int.toNat (x19:Int)<x4)/\(∃ x24:LIX,((x24.l.length<=(1073741824:Nat))/\(((0=0/\(((ahs x1 x4).getD (0+Int.toNat (x19:Int)) default).length=x24.l.length))/\(((x11:Int)=x24.n)/\True))/\((((RLe x24.l.length ((ahs x1 x4).getD (0+Int.toNat (x19:Int)) default).length)/\(RowsEq [.int .i64] x24.l.length (D.toF (D.l ((ahs x1 x4).getD (0+Int.toNat (x19:Int)) default).length (encL encI ((ahs x1 x4).getD (0+Int.toNat (x19:Int)) default)))) (encL encI x24.l)))/\True)/\(((decide (x24.n∈x24.l)=true)->(((True/\True)/\True)/\((0=0/\(((parT x1 x11 x19).length<=(parT x1 x11 x19).length)/\(((1:Nat)<=(1:Nat))/\((parT x1 x11 x19).length+(1:Nat)<=(1073741824:Nat)))))/\(((True/\True)/\True)/\((0=0/\(((Prod.fst (paA x1 x11)++parT x1 x11 x19).length<=(Prod.fst (paA x1 x11)++parT x1 x11 x19).length)/\(((1:Nat)<=(1:Nat))/\((Prod.fst (paA x1 x11)++parT x1 x11 x19).length+(1:Nat)<=(1073741824:Nat)))))/\((((-9223372036854775808:Int)<=(x19:Int)+1)/\((x19:Int)+1<=(9223372036854775807:Int)))/\(∃ x26:Nat,((x1.n-x26<x1.n-x19)/\(((x11<=x26)/\(x26<=x1.n))/\((((x19:Int)+1=(x26:Int))/\((0=0/\((parT x1 x11 x19).length+(1:Nat)=(parT x1 x11 x26).length))/\((0=0/\((Prod.fst (paA x1 x11)++parT x1 x11 x19).length+(1:Nat)=(Prod.fst (paA x1 x11)++parT x1 x11 x26).length))/\(((x11:Int)=(x11:Int))/\((0=0/\((Prod.snd (paA x1 x11)).length=(Prod.snd (paA x1 x11)).length))/\(((x4:Int)=(x4:Int))/\((0=0/\x4=x4)/\(True/\(((x1.n:Int)=(x1.n:Int))/\((0=0/\x1.es.length=x1.es.length)/\True))))))))))/\(((RLe (Prod.fst (paA x1 x11)++parT x1 x11 x26).length ((Prod.fst (paA x1 x11)++parT x1 x11 x19).length+(1:Nat)))/\(RowsEq [.int .i64] (Prod.fst (paA x1 x11)++parT x1 x11 x26).length (appRows (Prod.fst (paA x1 x11)++parT x1 x11 x19).length (encL encI (Prod.fst (paA x1 x11)++parT x1 x11 x19)) 0 (litRows ((D.i (x19:Int)::@List.nil D)::@List.nil (List D)))) (encL encI (Prod.fst (paA x1 x11)++parT x1 x11 x26))))/\(((RLe (parT x1 x11 x26).length ((parT x1 x11 x19).length+(1:Nat)))/\(RowsEq [.int .i64] (parT x1 x11 x26).length (appRows (parT x1 x11 x19).length (encL encI (parT x1 x11 x19)) 0 (litRows ((D.i (x19:Int)::@List.nil D)::@List.nil (List D)))) (encL encI (parT x1 x11 x26))))/\(((RLe (Prod.snd (paA x1 x11)).length (Prod.snd (paA x1 x11)).length)/\(RowsEq [.sl [.int .i64]] (Prod.snd (paA x1 x11)).length (encL encLI (Prod.snd (paA x1 x11))) (encL encLI (Prod.snd (paA x1 x11)))))/\((RLe x4 x4/\(RowsEq [.sl [.int .i64]] x4 (encL encLI (ahs x1 x4)) (encL encLI (ahs x1 x4))))/\(((RLe x1.es.length x1.es.length)/\(RowsEq [.int .i64,.int .i64,.int .i64] x1.es.length (encL encE x1.es) (encL encE x1.es)))/\True)))))))))))))))/\((decide (x24.n∈x24.l)=false)->((((-9223372036854775808:Int)<=(x19:Int)+1)/\((x19:Int)+1<=(9223372036854775807:Int)))/\(∃ x28:Nat,((x1.n-x28<x1.n-x19)/\(((x11<=x28)/\(x28<=x1.n))/\((((x19:Int)+1=(x28:Int))/\((0=0/\((parT x1 x11 x19).length=(parT x1 x11 x28).length))/\((0=0/\((Prod.fst (paA x1 x11)++parT x1 x11 x19).length=(Prod.fst (paA x1 x11)++parT x1 x11 x28).length))/\(((x11:Int)=(x11:Int))/\((0=0/\((Prod.snd (paA x1 x11)).length=(Prod.snd (paA x1 x11)).length))/\(((x4:Int)=(x4:Int))/\((0=0/\x4=x4)/\(True/\(((x1.n:Int)=(x1.n:Int))/\((0=0/\x1.es.length=x1.es.length)/\True))))))))))/\(((RLe (Prod.fst (paA x1 x11)++parT x1 x11 x28).length (Prod.fst (paA x1 x11)++parT x1 x11 x19).length)/\(RowsEq [.int .i64] (Prod.fst (paA x1 x11)++parT x1 x11 x28).length (encL encI (Prod.fst (paA x1 x11)++parT x1 x11 x19)) (encL encI (Prod.fst (paA x1 x11)++parT x1 x11 x28))))/\(((RLe (parT x1 x11 x28).length (parT x1 x11 x19).length)/\(RowsEq [.int .i64] (parT x1 x11 x28).length (encL encI (parT x1 x11 x19)) (encL encI (parT x1 x11 x28))))/\(((RLe (Prod.snd (paA x1 x11)).length (Prod.snd (paA x1 x11)).length)/\(RowsEq [.sl [.int .i64]] (Prod.snd (paA x1 x11)).length (encL encLI (Prod.snd (paA x1 x11))) (encL encLI (Prod.snd (paA x1 x11)))))/\((RLe x4 x4/\(RowsEq [.sl [.int .i64]] x4 (encL encLI (ahs x1 x4)) (encL encLI (ahs x1 x4))))/\(((RLe x1.es.length x1.es.length)/\(RowsEq [.int .i64,.int .i64,.int .i64] x1.es.length (encL encE x1.es) (encL encE x1.es)))/\True)))))))))))))))))))/\((decide (x22.n∈x22.l)=false)->((((-9223372036854775808:Int)<=(x19:Int)+1)/\((x19:Int)+1<=(9223372036854775807:Int)))/\(∃ x30:Nat,((x1.n-x30<x1.n-x19)/\(((x11<=x30)/\(x30<=x1.n))/\((((x19:Int)+1=(x30:Int))/\((0=0/\((parT x1 x11 x19).length=(parT x1 x11 x30).length))/\((0=0/\((Prod.fst (paA x1 x11)++parT x1 x11 x19).length=(Prod.fst (paA x1 x11)++parT x1 x11 x30).length))/\(((x11:Int)=(x11:Int))/\((0=0/\((Prod.snd (paA x1 x11)).length=(Prod.snd (paA x1 x11)).length))/\(((x4:Int)=(x4:Int))/\((0=0/\x4=x4)/\(True/\(((x1.n:Int)=(x1.n:Int))/\((0=0/\x1.es.length=x1.es.length)/\True))))))))))/\(((RLe (Prod.fst (paA x1 x11)++parT x1 x11 x30).length (Prod.fst (paA x1 x11)++parT x1 x11 x19).length)/\(RowsEq [.int .i64] (Prod.fst (paA x1 x11)++parT x1 x11 x30).length (encL encI (Prod.fst (paA x1 x11)++parT x1 x11 x19)) (encL encI (Prod.fst (paA x1 x11)++parT x1 x11 x30))))/\(((RLe (parT x1 x11 x30).length (parT x1 x11 x19).length)/\(RowsEq [.int .i64] (parT x1 x11 x30).length (encL encI (parT x1 x11 x19)) (encL encI (parT x1 x11 x30))))/\(((RLe (Prod.snd (paA x1 x11)).length (Prod.snd (paA x1 x11)).length)/\(RowsEq [.sl [.int .i64]] (Prod.snd (paA x1 x11)).length (encL encLI (Prod.snd (paA x1 x11))) (encL encLI (Prod.snd (paA x1 x11)))))/\((RLe x4 x4/\(RowsEq [.sl [.int .i64]] x4 (encL encLI (ahs x1 x4)) (encL encLI (ahs x1 x4))))/\(((RLe x1.es.length x1.es.length)/\(RowsEq [.int .i64,.int .i64,.int .i64] x1.es.length (encL encE x1.es) (encL encE x1.es)))/\True)))))))))))))))))))/\((decide ((x19:Int)<(x1.n:Int))=false)->(((((0:Nat)+(parT x1 x11 x19).length<=(parT x1 x11 x19).length)/\True)/\True)/\((0=0/\(((Prod.snd (paA x1 x11)).length<=(Prod.snd (paA x1 x11)).length)/\(((1:Nat)<=(1:Nat))/\((Prod.snd (paA x1 x11)).length+(1:Nat)<=(5864062014805:Nat)))))/\((((-9223372036854775808:Int)<=(x11:Int)+1)/\((x11:Int)+1<=(9223372036854775807:Int)))/\(∃ x32:Nat,((x1.n-x32<x1.n-x11)/\((x32<=x1.n)/\((((x11:Int)+1=(x32:Int))/\((0=0/\((Prod.fst (paA x1 x11)++parT x1 x11 x19).length=(Prod.fst (paA x1 x32)).length))/\((0=0/\((Prod.snd (paA x1 x11)).length+(1:Nat)=(Prod.snd (paA x1 x32)).length))/\(((x4:Int)=(x4:Int))/\((0=0/\x4=x4)/\(True/\(((x1.n:Int)=(x1.n:Int))/\((0=0/\x1.es.length=x1.es.length)/\True))))))))/\(((RLe (Prod.fst (paA x1 x32)).length (Prod.fst (paA x1 x11)++parT x1 x11 x19).length)/\(RowsEq [.int .i64] (Prod.fst (paA x1 x32)).length (encL encI (Prod.fst (paA x1 x11)++parT x1 x11 x19)) (encL encI (Prod.fst (paA x1 x32)))))/\(((RLe (Prod.snd (paA x1 x32)).length ((Prod.snd (paA x1 x11)).length+(1:Nat)))/\(RowsEq [.sl [.int .i64]] (Prod.snd (paA x1 x32)).length (appRows (Prod.snd (paA x1 x11)).length (encL encLI (Prod.snd (paA x1 x11))) 0 (litRows (((D.l (parT x1 x11 x19).length fun(r c:Nat)=>D.i ((parT x1 x11 x19).getD ((0:Nat)+r) default))::@List.nil D)::@List.nil (List D)))) (encL encLI (Prod.snd (paA x1 x32)))))/\((RLe x4 x4/\(RowsEq [.sl [.int .i64]] x4 (encL encLI (ahs x1 x4)) (encL encLI (ahs x1 x4))))/\(((RLe x1.es.length x1.es.length)/\(RowsEq [.int .i64,.int .i64,.int .i64] x1.es.length (encL encE x1.es) (encL encE x1.es)))/\True))))))))))))))))))))))))/\((decide ((x11:Int)<(x1.n:Int))=false)->((0=0/\((Prod.snd (paA x1 x11)).length=(partsL x1).length))/\(((RLe (partsL x1).length (Prod.snd (paA x1 x11)).length)/\(RowsEq [.sl [.int .i64]] (partsL x1).length (encL encLI (Prod.snd (paA x1 x11))) (encL encLI (partsL x1))))/\True)))))))))))))))))=(Keeps cfgPa Tryd.f25 paC paI) by kernel_rfl) (fun x1=>fun h2=>⟨((0:Nat)),
⟨(by(try dsimp only at *);omega),
⟨(by(try dsimp only at *);omega),
⟨trivial,rfl,rfl⟩,trivial,rfl,
⟨rfl,rfl⟩,trivial⟩,rfl,
⟨rl,rr⟩,trivial⟩,
fun x4=>fun h5=>⟨fun g6=>have h6:=dT g6;⟨⟨⟨trivial,trivial⟩,trivial⟩,
({ g:=x1,fs:=(↑x4:Int)::@List.nil Int:AHx }),
(by(try dsimp only at *);exact pa_ah h2 _),
⟨rfl,
⟨rfl,rfl⟩,
⟨rfl,
(by(try dsimp only at *);grind)⟩,trivial⟩,
⟨⟨rl,rr⟩,
⟨⟨(by(try dsimp only at *);grind)⟩,
(by(try dsimp only at *);exact⟨fun r hr=>by have hr:r<1:=hr;rw[show r=0 by omega];exact⟨rfl,trivial⟩⟩)⟩,trivial⟩,
⟨⟨(by(try dsimp only at *);omega),trivial⟩,trivial⟩,
⟨rfl,
(by(try dsimp only at *);omega),
(by(try dsimp only at *);omega),
(by(try dsimp only at *);(have:=h2.q.n;omega))⟩,
⟨(by(try dsimp only at *);omega),
(by(try dsimp only at *);(have:=h2.q.n;omega))⟩,
(x4+(1:Nat)),
(by(try dsimp only at *);omega),
(by(try dsimp only at *);omega),
⟨(by(try dsimp only at *);omega),
⟨rfl,rfl⟩,trivial,rfl,
⟨rfl,rfl⟩,trivial⟩,
⟨rl,
(by(try dsimp only at *);(rw[ahs_succ];exact pushL2 (ahs_len _ _).symm))⟩,
⟨rl,rr⟩,trivial⟩,
fun g9=>have h9:=dF g9;⟨((0:Nat)),
⟨(by(try dsimp only at *);omega),
⟨(by(try dsimp only at *);omega),
⟨trivial,rfl,
(by(try dsimp only at *);rfl)⟩,
⟨trivial,rfl,
(by(try dsimp only at *);rfl)⟩,rfl,
⟨rfl,rfl⟩,trivial,rfl,
⟨rfl,rfl⟩,trivial⟩,
(by(try dsimp only at *);rfl),
(by(try dsimp only at *);rfl),
⟨rl,rr⟩,
⟨rl,rr⟩,trivial⟩,
fun x11=>fun h12=>⟨fun g13=>have h13:=dT g13;⟨({ l:=Prod.fst (paA x1 x11),n:=(↑x11:Int):LIX }),
(by(try dsimp only at *);exact Nat.le_trans (paA_le h2 h12).1 (by omega)),
⟨⟨rfl,rfl⟩,rfl,trivial⟩,
⟨⟨rl,rr⟩,trivial⟩,
fun g15=>have h15:=dT g15;⟨⟨(by(try dsimp only at *);omega),
(by(try dsimp only at *);(have:=h2.q.n;omega))⟩,
(x11+(1:Nat)),
(by(try dsimp only at *);omega),
(by(try dsimp only at *);omega),
⟨(by(try dsimp only at *);omega),
⟨rfl,
(by(try dsimp only at *);(rw[<- pa_same h15];done))⟩,
⟨rfl,
(by(try dsimp only at *);(rw[<- pa_same h15];done))⟩,rfl,
⟨rfl,rfl⟩,trivial,rfl,
⟨rfl,rfl⟩,trivial⟩,
⟨⟨(by(try dsimp only at *);(rw[<- pa_same h15];first|exact Nat.le_refl _|exact rr))⟩,
(by(try dsimp only at *);(rw[<- pa_same h15];first|exact Nat.le_refl _|exact rr))⟩,
⟨⟨(by(try dsimp only at *);(rw[<- pa_same h15];first|exact Nat.le_refl _|exact rr))⟩,
(by(try dsimp only at *);(rw[<- pa_same h15];first|exact Nat.le_refl _|exact rr))⟩,
⟨rl,rr⟩,
⟨rl,rr⟩,trivial⟩,
fun g17=>have h17:=dF g17;⟨(x11),
⟨⟨(by(try dsimp only at *);omega),
(by(try dsimp only at *);omega)⟩,
⟨rfl,
⟨trivial,rfl,
(by(try dsimp only at *);(rw[parT_start];rfl))⟩,
⟨rfl,
(by(try dsimp only at *);(rw[parT_start,List.append_nil];done))⟩,rfl,
⟨rfl,rfl⟩,rfl,
⟨rfl,rfl⟩,trivial,rfl,
⟨rfl,rfl⟩,trivial⟩,
⟨⟨(by(try dsimp only at *);(rw[parT_start,List.append_nil];first|exact Nat.le_refl _|exact rr))⟩,
(by(try dsimp only at *);(rw[parT_start,List.append_nil];first|exact Nat.le_refl _|exact rr))⟩,
(by(try dsimp only at *);(rw[parT_start];rfl)),
⟨rl,rr⟩,
⟨rl,rr⟩,
⟨rl,rr⟩,trivial⟩,
fun x19=>fun h20=>⟨fun g21=>have h21:=dT g21;⟨⟨(by(try dsimp only at *);omega),
(by(try dsimp only at *);omega)⟩,
(by(try dsimp only at *);omega),
({ l:=List.getD (ahs x1 x4) ((0:Nat)+Int.toNat (↑x11:Int)) default,n:=(↑x19:Int):LIX }),
(by(try dsimp only at *);exact(ahs_row (by omega)).resolve_right (fun q=>q h2)),
⟨⟨rfl,rfl⟩,rfl,trivial⟩,
⟨⟨rl,
(by(try dsimp only at *);exact rr)⟩,trivial⟩,
fun g23=>have h23:=dT g23;⟨⟨(by(try dsimp only at *);omega),
(by(try dsimp only at *);omega)⟩,
(by(try dsimp only at *);omega),
({ l:=List.getD (ahs x1 x4) ((0:Nat)+Int.toNat (↑x19:Int)) default,n:=(↑x11:Int):LIX }),
(by(try dsimp only at *);exact(ahs_row (by omega)).resolve_right (fun q=>q h2)),
⟨⟨rfl,rfl⟩,rfl,trivial⟩,
⟨⟨rl,
(by(try dsimp only at *);exact rr)⟩,trivial⟩,
fun g25=>have h25:=dT g25;⟨⟨⟨trivial,trivial⟩,trivial⟩,
⟨rfl,
(by(try dsimp only at *);omega),
(by(try dsimp only at *);omega),
(by(try dsimp only at *);(have:=parT_len x1 x11 x19;have:=h2.q.n;omega))⟩,
⟨⟨trivial,trivial⟩,trivial⟩,
⟨rfl,
(by(try dsimp only at *);omega),
(by(try dsimp only at *);omega),
(by(try dsimp only at *);(have:=parT_len x1 x11 x19;have:=(paA_le h2 h12).1;have:=h2.q.n;rw[List.length_append];omega))⟩,
⟨(by(try dsimp only at *);omega),
(by(try dsimp only at *);(have:=h2.q.n;omega))⟩,
(x19+(1:Nat)),
(by(try dsimp only at *);omega),
⟨(by(try dsimp only at *);omega),
(by(try dsimp only at *);omega)⟩,
⟨(by(try dsimp only at *);omega),
⟨rfl,
(by(try dsimp only at *);(rw[<- par_yes h20.1 (mut_yes (k:=x4) (by omega) (by omega) h23 h25)];simp;done))⟩,
⟨rfl,
(by(try dsimp only at *);(rw[<- par_yes h20.1 (mut_yes (k:=x4) (by omega) (by omega) h23 h25)];simp;omega))⟩,rfl,
⟨rfl,rfl⟩,rfl,
⟨rfl,rfl⟩,trivial,rfl,
⟨rfl,rfl⟩,trivial⟩,
⟨⟨(by(try dsimp only at *);(rw[<- par_yes h20.1 (mut_yes (k:=x4) (by omega) (by omega) h23 h25)];simp;omega))⟩,
(by(try dsimp only at *);(rw[<- par_yes h20.1 (mut_yes (k:=x4) (by omega) (by omega) h23 h25),<- List.append_assoc];exact push1b))⟩,
⟨⟨(by(try dsimp only at *);(rw[<- par_yes h20.1 (mut_yes (k:=x4) (by omega) (by omega) h23 h25)];simp;done))⟩,
(by(try dsimp only at *);(rw[<- par_yes h20.1 (mut_yes (k:=x4) (by omega) (by omega) h23 h25)];exact push1b))⟩,
⟨rl,rr⟩,
⟨rl,rr⟩,
⟨rl,rr⟩,trivial⟩,
fun g27=>have h27:=dF g27;⟨⟨(by(try dsimp only at *);omega),
(by(try dsimp only at *);(have:=h2.q.n;omega))⟩,
(x19+(1:Nat)),
(by(try dsimp only at *);omega),
⟨(by(try dsimp only at *);omega),
(by(try dsimp only at *);omega)⟩,
⟨(by(try dsimp only at *);omega),
⟨rfl,
(by(try dsimp only at *);(rw[<- par_no (mut_no2 (k:=x4) (by omega) h27)];done))⟩,
⟨rfl,
(by(try dsimp only at *);(rw[<- par_no (mut_no2 (k:=x4) (by omega) h27)];done))⟩,rfl,
⟨rfl,rfl⟩,rfl,
⟨rfl,rfl⟩,trivial,rfl,
⟨rfl,rfl⟩,trivial⟩,
⟨⟨(by(try dsimp only at *);(rw[<- par_no (mut_no2 (k:=x4) (by omega) h27)];first|exact Nat.le_refl _|exact rr))⟩,
(by(try dsimp only at *);(rw[<- par_no (mut_no2 (k:=x4) (by omega) h27)];first|exact Nat.le_refl _|exact rr))⟩,
⟨⟨(by(try dsimp only at *);(rw[<- par_no (mut_no2 (k:=x4) (by omega) h27)];first|exact Nat.le_refl _|exact rr))⟩,
(by(try dsimp only at *);(rw[<- par_no (mut_no2 (k:=x4) (by omega) h27)];first|exact Nat.le_refl _|exact rr))⟩,
⟨rl,rr⟩,
⟨rl,rr⟩,
⟨rl,rr⟩,trivial⟩⟩,
fun g29=>have h29:=dF g29;⟨⟨(by(try dsimp only at *);omega),
(by(try dsimp only at *);(have:=h2.q.n;omega))⟩,
(x19+(1:Nat)),
(by(try dsimp only at *);omega),
⟨(by(try dsimp only at *);omega),
(by(try dsimp only at *);omega)⟩,
⟨(by(try dsimp only at *);omega),
⟨rfl,
(by(try dsimp only at *);(rw[<- par_no (mut_no1 (k:=x4) (by omega) h29)];done))⟩,
⟨rfl,
(by(try dsimp only at *);(rw[<- par_no (mut_no1 (k:=x4) (by omega) h29)];done))⟩,rfl,
⟨rfl,rfl⟩,rfl,
⟨rfl,rfl⟩,trivial,rfl,
⟨rfl,rfl⟩,trivial⟩,
⟨⟨(by(try dsimp only at *);(rw[<- par_no (mut_no1 (k:=x4) (by omega) h29)];first|exact Nat.le_refl _|exact rr))⟩,
(by(try dsimp only at *);(rw[<- par_no (mut_no1 (k:=x4) (by omega) h29)];first|exact Nat.le_refl _|exact rr))⟩,
⟨⟨(by(try dsimp only at *);(rw[<- par_no (mut_no1 (k:=x4) (by omega) h29)];first|exact Nat.le_refl _|exact rr))⟩,
(by(try dsimp only at *);(rw[<- par_no (mut_no1 (k:=x4) (by omega) h29)];first|exact Nat.le_refl _|exact rr))⟩,
⟨rl,rr⟩,
⟨rl,rr⟩,
⟨rl,rr⟩,trivial⟩⟩,
fun g31=>have h31:=dF g31;⟨⟨⟨(by(try dsimp only at *);omega),trivial⟩,trivial⟩,
⟨rfl,
(by(try dsimp only at *);omega),
(by(try dsimp only at *);omega),
(by(try dsimp only at *);(have:=(paA_le h2 h12).2;omega))⟩,
⟨(by(try dsimp only at *);omega),
(by(try dsimp only at *);(have:=h2.q.n;omega))⟩,
(x11+(1:Nat)),
(by(try dsimp only at *);omega),
(by(try dsimp only at *);omega),
⟨(by(try dsimp only at *);omega),
⟨rfl,
(by(try dsimp only at *);(obtain rfl:x19=x1.n:=(by omega);rw[pa_new h17];done))⟩,
⟨rfl,
(by(try dsimp only at *);(obtain rfl:x19=x1.n:=(by omega);rw[pa_new h17];first|exact Nat.le_refl _|exact rr|exact pushL3|(simp;done)))⟩,rfl,
⟨rfl,rfl⟩,trivial,rfl,
⟨rfl,rfl⟩,trivial⟩,
⟨⟨(by(try dsimp only at *);(obtain rfl:x19=x1.n:=(by omega);rw[pa_new h17];first|exact Nat.le_refl _|exact rr|exact pushL3|(simp;done)))⟩,
(by(try dsimp only at *);(obtain rfl:x19=x1.n:=(by omega);rw[pa_new h17];first|exact Nat.le_refl _|exact rr|exact pushL3|(simp;done)))⟩,
⟨⟨(by(try dsimp only at *);(obtain rfl:x19=x1.n:=(by omega);rw[pa_new h17];first|exact Nat.le_refl _|exact rr|exact pushL3|(simp;done)))⟩,
(by(try dsimp only at *);(obtain rfl:x19=x1.n:=(by omega);rw[pa_new h17];first|exact Nat.le_refl _|exact rr|exact pushL3|(simp;done)))⟩,
⟨rl,rr⟩,
⟨rl,rr⟩,trivial⟩⟩⟩⟩,
fun g33=>have h33:=dF g33;⟨⟨rfl,
(by(try dsimp only at *);(obtain rfl:x11=x1.n:=(by omega);first|rfl|exact Nat.le_refl _|exact rr))⟩,
⟨⟨(by(try dsimp only at *);(obtain rfl:x11=x1.n:=(by omega);first|rfl|exact Nat.le_refl _|exact rr))⟩,
(by(try dsimp only at *);(obtain rfl:x11=x1.n:=(by omega);first|rfl|exact Nat.le_refl _|exact rr))⟩,trivial⟩⟩⟩⟩⟩)
theorem pa_good:Good Tryd.prog 25 paC/\FnOk Tryd.prog 25:=good_of tok conPa (fn:=Tryd.f25) rfl (by decide+kernel) (fun _=>rfl) pa_keeps
end Go.Sym