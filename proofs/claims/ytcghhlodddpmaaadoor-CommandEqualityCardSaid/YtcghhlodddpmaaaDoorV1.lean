import Derived.Test.YtcghhlodddpmaaaDoorA1
namespace Go.Sym
set_option linter.unusedVariables false
set_option linter.unusedSimpArgs false
open Go.Proofs
set_option maxRecDepth 100000
structure Cmd where
 kind:Int:=0
 call:Int:=0
 inc:Int:=0
 oth:Int:=0
 urg:Int:=0
 code:ByteArray:=ByteArray.empty
 nodes:List Int:=[]
 dist:Int:=0
 cen:Int:=0
 ep:Int:=0
 tick:Int:=0
 su:Int:=0
 sq:Int:=0
 ss:Int:=0
 sn:Int:=0
 se:Int:=0
 edge:Int:=0
 time:Int:=0
 node:Int:=0
 deriving DecidableEq
instance:Inhabited Cmd:=⟨{}⟩
def cl (c:Cmd) (l:Nat):List SV:=[.i .i64 c.kind,.i .i64 c.call,.i .i64 c.inc,.i .i64 c.oth,.i .i64 c.urg,.s c.code,.sl l 0 c.nodes.length,.i .i64 c.dist,.i .i64 c.cen,.i .i64 c.ep,.i .i64 c.tick,
 .i .i64 c.su,.i .i64 c.sq,.i .i64 c.ss,.i .i64 c.sn,.i .i64 c.se,.i .i64 c.edge,.i .i64 c.time,.i .i64 c.node]
def nB (l:Nat) (c:Cmd):Nat × Blk:=(l,.rows .bor kN c.nodes.length (encL encI c.nodes))
def nO (l:Nat) (c:Cmd):Nat × Blk:=(l,.rows .own kN c.nodes.length (encL encI c.nodes))
def fsC (k:Int):List Int:=if k=1 then [0,3,4,5,6]else if k=2 then [0,3,4,5]else if k=3 then [1,2]else if k=4 then [0,1]else if k=5 then [10,11,12,13,14]else if k=6 then []
 else if k=7 then [10,1]else if k=8∨k=9∨k=10 then [6,7,8]else if k=11 then [15,16]else if k=12 then [9]else if k=13 then [1]else if k=14 then [10,17]else if k=15 then [0]else []
def kOk (k:Int):Bool:=decide (k=1∨k=2∨k=3∨k=4∨k=5∨k=6∨k=7∨k=8∨k=9∨k=10∨k=11∨k=12∨k=13∨k=14∨k=15)
def numF (c:Cmd) (f:Int):Int:=if f=0 then c.call else if f=1 then c.inc else if f=2 then c.oth else if f=3 then c.urg else if f=6 then c.dist else if f=7 then c.cen else if f=8 then c.ep else if f=9 then c.tick
 else if f=10 then c.su else if f=11 then c.sq else if f=12 then c.ss else if f=13 then c.sn else if f=14 then c.se else if f=15 then c.edge else if f=16 then c.time else if f=17 then c.node else 0
def setF (c:Cmd) (f v:Int):Cmd where
 kind:=c.kind
 call:=if f=0 then v else c.call
 inc:=if f=1 then v else c.inc
 oth:=if f=2 then v else c.oth
 urg:=if f=3 then v else c.urg
 code:=c.code
 nodes:=c.nodes
 dist:=if f=6 then v else c.dist
 cen:=if f=7 then v else c.cen
 ep:=if f=8 then v else c.ep
 tick:=if f=9 then v else c.tick
 su:=if f=10 then v else c.su
 sq:=if f=11 then v else c.sq
 ss:=if f=12 then v else c.ss
 sn:=if f=13 then v else c.sn
 se:=if f=14 then v else c.se
 edge:=if f=15 then v else c.edge
 time:=if f=16 then v else c.time
 node:=if f=17 then v else c.node
def inRF (f n:Int):Bool:=if f=0∨f=1∨f=2∨f=8∨f=11 then decide (1<=n/\n<=1099511627776)else if f=14∨f=9 then decide (0<=n/\n<=1099511627776)else if f=3 then decide (1<=n/\n<=5)
 else if f=6∨f=7 then decide (0<=n/\n<9)else if f=10 then decide (0<=n/\n<256)else if f=12 then decide (1<=n/\n<=7)else if f=13∨f=17 then decide (0<=n/\n<4096)
 else if f=15 then decide (0<=n/\n<16384)else if f=16 then decide ((1<=n/\n<=1048576)∨n=4611686018427387904)else false
def atS (s:ByteArray) (i:Nat):Nat:=(s.data.getD i 0).toNat
def vCode (s:ByteArray):Bool:=decide (1<=s.size/\s.size<=40)&&decide (∀ i,i<s.size->33<=atS s i/\atS s i<=126)
def vNodes (l:List Int):Bool:=decide (1<=l.length/\l.length<=2000)&&decide (∀ i,i<l.length->0<=l.getD i 0/\l.getD i 0<4096/\(0<i->l.getD (i-1) 0<l.getD i 0))
def fOk (c:Cmd) (f:Int):Bool:=if f=4 then vCode c.code else if f=5 then vNodes c.nodes else inRF f (numF c f)
def clr (c:Cmd) (f:Int):Cmd:=if f=4 then { c with code:=ByteArray.empty } else if f=5 then { c with nodes:=[]} else setF c f 0
def clrs (c:Cmd) (n:Nat):Cmd:=((fsC c.kind).take n).foldl clr c
def onlyK (k:Int):Cmd:={ kind:=k }
def vC (c:Cmd):Bool:=kOk c.kind&&(decide (∀ i,i<(fsC c.kind).length->fOk c ((fsC c.kind).getD i 0)=true)&&(!(decide (c.kind=3/\c.inc=c.oth))&&decide (clrs c (fsC c.kind).length=onlyK c.kind)))
theorem fs_rows {k:Int} {rs:List (List D)} (h:(fsC k).map (fun x=>[D.i x])=rs):RowsEq kN (fsC k).length (litRows rs) (encL encI (fsC k)):=by
 subst h
 refine⟨fun r hr=>?_⟩
 unfold litRows encL
 simp only[rowEq,and_true,Kd.eqv]
 simp[List.getD_eq_getElem?_getD,List.getElem?_map,List.getElem?_eq_getElem hr,encI,D.toI]
theorem toList_loop (bs:ByteArray):∀(k i:Nat) (r:List UInt8),bs.size-i=k->ByteArray.toList.loop bs i r=r.reverse++bs.data.toList.drop i:=by
 intro k
 induction k with
 |zero=>
  intro i r h
  unfold ByteArray.toList.loop
  rw[if_neg (by omega),List.drop_of_length_le (by show bs.size<=i;omega),List.append_nil]
 |succ k ih=>
  intro i r h
  have hi:i<bs.size:=by omega
  have hi2:i<bs.data.toList.length:=hi
  unfold ByteArray.toList.loop
  rw[if_pos hi,ih (i+1) _ (by omega),List.drop_eq_getElem_cons hi2]
  have:bs.get! i=bs.data.toList[i]:=by
   show bs.data[i]! =_
   rw[getElem!_pos bs.data i hi]
   simp
  rw[this]
  simp
theorem toList_eq (bs:ByteArray):bs.toList=bs.data.toList:=by
 unfold ByteArray.toList
 rw[toList_loop bs _ 0 [] rfl]
 simp
theorem seq_eq (a b:ByteArray):(a.toList==b.toList)=decide (a=b):=by
 rw[toList_eq,toList_eq]
 rcases Decidable.em (a=b)with h|h
 ·subst h;simp
 ·rw[decide_eq_false h]
  refine Bool.eq_false_iff.2 fun e=>h ?_
  have e:=eq_of_beq e
  cases a;cases b
  simp only[ByteArray.mk.injEq]
  exact Array.toList_inj.1 e
theorem vc_f1 {s:ByteArray} (h:(s.size:Int)<1∨40<(s.size:Int)):false=vCode s:=by
 unfold vCode
 rw[decide_eq_false (by omega),Bool.false_and]
theorem vc_f2 {s:ByteArray} {i:Nat} (h1:(i:Int)<s.size) (h:((atS s i:Nat):Int)<33∨126<((atS s i:Nat):Int)):false=vCode s:=by
 unfold vCode
 rw[decide_eq_false (p:=∀ i,_) (fun h2=>by have:=h2 i (by omega);omega),Bool.and_false]
theorem vc_s {s:ByteArray} {i j:Nat} (h:∀ j,j<i->33<=atS s j/\atS s j<=126) (h1:¬ ((atS s i:Nat):Int)<33) (h2:¬ 126<((atS s i:Nat):Int)) (hj:j<i+1):33<=atS s j/\atS s j<=126:=by
 rcases(show j<i∨j=i by omega)with h3|rfl
 ·exact h j h3
 ·omega
theorem vc_t {s:ByteArray} {i:Nat} (h:i<=s.size/\(1<=s.size/\s.size<=40)/\∀ j,j<i->33<=atS s j/\atS s j<=126) (h1:¬ (i:Int)<s.size):true=vCode s:=by
 unfold vCode
 rw[decide_eq_true h.2.1,decide_eq_true (p:=∀ i,_) (fun j hj=>h.2.2 j (by omega))]
 rfl
def lastN (x:List Int) (i:Nat):Int:=if i=0 then -1 else x.getD (i-1) 0
def vnP (x:List Int) (i:Nat):Prop:=∀ j,j<i->0<=x.getD j 0/\x.getD j 0<4096/\(0<j->x.getD (j-1) 0<x.getD j 0)
theorem vn_f1 {x:List Int} (h:(x.length:Int)<1∨2000<(x.length:Int)):false=vNodes x:=by
 unfold vNodes
 rw[decide_eq_false (by omega),Bool.false_and]
theorem vn_f2 {x:List Int} {i:Nat} (h0:vnP x i) (h1:(i:Int)<x.length) (h:x.getD (0+(i:Int).toNat) default<=lastN x i∨4096<=x.getD (0+(i:Int).toNat) default):false=vNodes x:=by
 rw[Nat.zero_add]at h
 have h:x.getD i 0<=lastN x i∨4096<=x.getD i 0:=h
 unfold vNodes
 rw[decide_eq_false (p:=∀ i,_) (fun h2=>?_),Bool.and_false]
 have h3:=h2 i (by omega)
 unfold lastN at h
 split at h
 ·omega
 ·have:=h3.2.2 (by omega);omega
theorem vn_s {x:List Int} {i:Nat} (h:vnP x i) (h1:¬ x.getD (0+(i:Int).toNat) default<=lastN x i) (h2:¬ 4096<=x.getD (0+(i:Int).toNat) default):vnP x (i+1):=by
 rw[Nat.zero_add]at h1 h2
 have h1:¬ x.getD i 0<=lastN x i:=h1
 have h2:¬ 4096<=x.getD i 0:=h2
 intro j hj
 rcases(show j<i∨j=i by omega)with h3|rfl
 ·exact h j h3
 ·unfold lastN at h1
  split at h1
  ·exact⟨by omega,by omega,fun _=>by omega⟩
  ·have:=h (j-1) (by omega)
   exact⟨by omega,by omega,fun _=>by omega⟩
theorem vn_t {x:List Int} {i:Nat} (h2:1<=x.length/\x.length<=2000) (h:vnP x i) (h1:¬ (i:Int)<x.length):true=vNodes x:=by
 unfold vNodes
 rw[decide_eq_true h2,decide_eq_true (p:=∀ i,_) (fun j hj=>h j (by omega))]
 rfl
theorem vn_l {x:List Int} {i:Nat}:x.getD (0+(i:Int).toNat) default=lastN x (i+1):=by
 unfold lastN
 rw[if_neg (by omega),Nat.zero_add]
 rfl
end Go.Sym