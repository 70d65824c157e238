import Derived.Test.YtlldhkhmhgcpaaaDoorSE
import Derived.Test.YtlldhkhmhgcpaaaDoorFP
import Derived.Test.YtlldhkhmhgcpaaaDoorCT
import Derived.Test.YtlldhkhmhgcpaaaDoorS3
import Derived.Test.YtlldhkhmhgcpaaaDoorXD
namespace Go.Sym
set_option linter.unusedVariables false
set_option linter.unusedSimpArgs false
open Go.Proofs
set_option maxRecDepth 100000
set_option maxHeartbeats 8000000
structure PlX where
 g:Gr
 ts:List Int
 us:List Un
 ws:List Nat
 max:Int
structure PlOk (x:PlX):Prop where
 g:GOk x.g
 n:x.g.n<=12
 us:x.us.length<=12
 ws:WOk x.ws
def tgP (x:PlX):List Int:=elemsZ (bothW x.ws (allW (min (x.g.n:Int) 4096).toNat))
def srP (x:PlX):Sr:=⟨x.g,x.ts,frU x.us,tgP x⟩
def ndP (x:PlX):List Int:=(frU x.us).map (·.nd)
def badP (x:PlX):Prop:=dstU x.us=false∨x.max<0∨3<x.max
instance (x:PlX):Decidable (badP x):=by unfold badP;infer_instance
def manP (x:PlX):Prop:=6<(frU x.us).length∨10<(tgP x).length
instance (x:PlX):Decidable (manP x):=by unfold manP;infer_instance
def bstP (x:PlX):Bst:=exF (srP x) x.max.toNat 0 ⟨ndP x,[],0⟩ {}
def resB (x:PlX):Bst:=if badP x∨manP x then {} else bstP x
def resE (x:PlX):Int:=if badP x then 1 else if manP x then 3 else 0
def plC:CT where
 X:=PlX
 pre:=PlOk
 args:=fun x=>[.p 100000 0 0,.sl 100001 0 x.ts.length,.sl 100002 0 x.us.length,setV x.ws 100003,.i .i64 x.max]
 g0:=fun x=>graphH x.g 100000++[(100001,.rows .bor k1 x.ts.length (encL encI x.ts)),(100002,.rows .bor kU x.us.length (encL encU x.us))]++setH x.ws .bor 100003
 res:=fun x=>.tup [.sl 1 0 (resB x).best.length,.i .i64 (resB x).worst,.i .i64 (resE x)]
 g1:=fun x=>[(1,.rows .own kM (resB x).best.length (encL encM (resB x).best))]
def catP (x:PlX):List Int:=ndP x++tgP x
def ksA (l:List Int) (k:Nat):List Int:=(l.take k).foldl madd1 []
def ndA (x:PlX) (k:Nat):List Int:=((frU x.us).take k).map (·.nd)
def plV (x:PlX) (n:Nat):List SV:=[.sl 362 0 (frU x.us).length,.sl 363 0 (tgP x).length,.mp 364,.sl 365 0 n,.ns,.i .i64 0,.bt false,.ns,.i .i64 0,.i .i64 0]
def plI (x:PlX) (id:Nat):Option Inv:=match id with
 | 0 => some { X := Nat, ok := fun k => k <= (frU x.us).length, fr := fun k => [(0, .p 100000 0 0), (1, .sl 100001 0 x.ts.length), (4, .i .i64 x.max), (13, .p 361 0 0), (59, .sl 362 0 (frU x.us).length), (60, .i .i64 (frU x.us).length), (61, .i .i64 k)],
               hp:=fun k=>[(361,.one .own (plV x (ndA x k).length)),(362,.rows .own kU (frU x.us).length (encL encU (frU x.us))),(363,.rows .own k1 (tgP x).length (encL encI (tgP x))),(364,.map .own .i64 kD false [] (dsR (srP x))),(365,.rows .own k1 (ndA x k).length (encL encI (ndA x k)))],me:=fun k=>(frU x.us).length-k }
 | 2 => some { X := Nat, ok := fun k => k <= (catP x).length, fr := fun k => [(0, .p 100000 0 0), (1, .sl 100001 0 x.ts.length), (4, .i .i64 x.max), (13, .p 361 0 0), (86, .sl 366 0 (catP x).length), (87, .i .i64 (catP x).length), (88, .i .i64 k)],
               hp:=fun k=>[(361,.one .own (plV x (ndP x).length)),(362,.rows .own kU (frU x.us).length (encL encU (frU x.us))),(363,.rows .own k1 (tgP x).length (encL encI (tgP x))),(364,.map .own .i64 kD false (ksA (catP x) k) (dsR (srP x))),(365,.rows .own k1 (ndP x).length (encL encI (ndP x))),(366,.rows .own k1 (catP x).length (encL encI (catP x)))],me:=fun k=>(catP x).length-k }
 |_=>none
def cfgPl:Cfg:=⟨T,[1000085],[(28,.one diC),(29,.one fuC),(31,.one nodesC),(17,.one allNC),(30,.one bothC),(32,.one listC),(33,.one ctS),(34,.one (fromC true)),(35,.one (exC 13))],noInv,130,{ kn:=true }⟩
theorem conPl:ConOk Tryd.prog cfgPl:=ConL.ok (.cons (ConL.one di_good) (.cons (ConL.one fu_good) (.cons (ConL.one nodes_good) (.cons (ConL.one all_good) (.cons (ConL.one both_good) (.cons (ConL.one list_good) (.cons (ConL.one cs_good) (.cons (ConL.one from_good) (.cons (ConL.one (ex_good 13)) .nil)))))))))
theorem res_bad {x:PlX} (h:badP x):resB x={}/\resE x=1:=by
 unfold resB resE
 rw[if_pos (.inl h),if_pos h]
 exact⟨rfl,rfl⟩
theorem res_man {x:PlX} (h:¬ badP x) (h1:manP x):resB x={}/\resE x=3:=by
 unfold resB resE
 rw[if_pos (.inr h1),if_neg h,if_pos h1]
 exact⟨rfl,rfl⟩
theorem res_ok {x:PlX} (h:¬ badP x) (h1:¬ manP x):resB x=bstP x/\resE x=0:=by
 unfold resB resE
 rw[if_neg (fun q=>q.elim h h1),if_neg h,if_neg h1]
 exact⟨rfl,rfl⟩
theorem bad_d {x:PlX} (h:(!dstU x.us)=true):badP x:=.inl (by simpa using h)
theorem bad_n {x:PlX} (h:(!dstU x.us)=false) (h1:¬ x.max<0) (h2:¬ 3<x.max):¬ badP x:=by
 have h:dstU x.us=true:=by simpa using h
 rintro(q|q|q)
 ·rw[h]at q;cases q
 ·exact h1 q
 ·exact h2 q
theorem tg_l {x:PlX}:(elemsW (bothW x.ws (allW (min (x.g.n:Int) 4096).toNat))).length=(tgP x).length:=(elemsZ_len _).symm
theorem man_f {x:PlX} (h:(6:Int)<(frU x.us).length):manP x:=.inl (by omega)
theorem man_t {x:PlX} (h:(10:Int)<(elemsW (bothW x.ws (allW (min (x.g.n:Int) 4096).toNat))).length):manP x:=.inr (by rw[tg_l]at h;omega)
theorem man_n {x:PlX} (h:¬ (6:Int)<(frU x.us).length) (h1:¬ (10:Int)<(elemsW (bothW x.ws (allW (min (x.g.n:Int) 4096).toNat))).length):¬ manP x:=by
 rw[tg_l]at h1
 rintro(q|q) <;>omega
theorem mapE0 {f g:Int->Nat->D}:MapEq kD [] [] f g:=⟨List.Perm.refl _,fun k hk=>by cases hk⟩
theorem ndA_s {x:PlX} {k:Nat} (h:(k:Int)<(frU x.us).length):ndA x k++[((frU x.us).getD (0+(k:Int).toNat) default).nd]=ndA x (k+1):=by
 rw[nat0]
 unfold ndA
 rw[take_succ_getD (d:=default) (by omega),List.map_append]
 rfl
theorem ndA_t {x:PlX} {k:Nat} (h:¬ (k:Int)<(frU x.us).length):ndA x k=ndP x:=by
 unfold ndA ndP
 rw[List.take_of_length_le (by omega)]
theorem ndA_l {x:PlX} {k:Nat} (h:(k:Int)<(frU x.us).length):(ndA x k).length+1=(ndA x (k+1)).length:=by rw[<- ndA_s h];simp
theorem ndA_r {x:PlX} {k m:Nat} (h:(k:Int)<(frU x.us).length) (hm:m<=(ndA x k).length+1):RowsEq k1 m (appRows (ndA x k).length (encL encI (ndA x k)) 0 (litRows [[D.i ((frU x.us).getD (0+(k:Int).toNat) default).nd]])) (encL encI (ndA x (k+1))):=by
 rw[<- ndA_s h]
 exact rowsEq_push rfl hm ⟨rfl,trivial⟩
theorem fr_le {x:PlX} (h:PlOk x):(frU x.us).length<=12:=by
 have h1:=srtU_len (frL x.us)
 have h2:=List.length_filter_le (fun u:Un=>decide (u.st=1)) x.us
 have:=h.us
 unfold frU
 rw[h1]
 unfold frL
 omega
theorem ndA_le {x:PlX} (h:PlOk x) (k:Nat):(ndA x k).length<=12:=by
 have:=fr_le h
 unfold ndA
 rw[List.length_map,List.length_take]
 omega
theorem ct_ok {x:PlX} (h:PlOk x) (h1:¬ (10:Int)<(elemsW (bothW x.ws (allW (min (x.g.n:Int) 4096).toNat))).length) (k:Nat):CTok ⟨ndA x k,tgP x⟩:=by
 rw[tg_l]at h1
 refine⟨Nat.le_trans (ndA_le h k) (by decide),?_⟩
 show(tgP x).length<=1000
 omega
theorem cat_e {x:PlX} {k:Nat} (h:¬ (k:Int)<(frU x.us).length):ndA x k++tgP x=catP x:=by rw[ndA_t h];rfl
theorem cat_le {x:PlX} (h:PlOk x) (h1:¬ (10:Int)<(elemsW (bothW x.ws (allW (min (x.g.n:Int) 4096).toNat))).length) {k:Nat} (hk:k<=(catP x).length):(k:Int)+1<=9223372036854775807:=by
 rw[tg_l]at h1
 have:=fr_le h
 unfold catP ndP at hk
 rw[List.length_append,List.length_map]at hk
 omega
theorem ks_s {l:List Int} {k:Nat} (h:(k:Int)<l.length):ksA l (k+1)=madd1 (ksA l k) (l.getD (0+(k:Int).toNat) default):=by
 rw[nat0]
 unfold ksA
 rw[take_succ_getD (d:=default) (by omega),List.foldl_append]
 rfl
theorem ks_in {l:List Int} {k:Nat} (h:(k:Int)<l.length) (hi:l.getD (0+(k:Int).toNat) default∈ksA l k):ksA l k=ksA l (k+1):=by
 rw[ks_s h]
 unfold madd1
 rw[if_pos hi]
theorem ks_map {x:PlX} {l:List Int} {k:Nat} (h:(k:Int)<l.length):MapEq kD (madd1 (ksA l k) (l.getD (0+(k:Int).toNat) default)) (ksA l (k+1)) (mset (dsR (srP x)) (l.getD (0+(k:Int).toNat) default) fun j=>[D.l x.g.n fun r c=>D.i ((distG x.g x.ts [l.getD (0+(k:Int).toNat) default] true).getD (0+r) default)].getD j (D.i 0)) (dsR (srP x)):=by
 refine⟨by rw[ks_s h],fun y hy=>?_⟩
 simp only[mset]
 split
 ·rename_i e
  rw[e]
  refine⟨⟨rfl,fun r hr=>?_⟩,trivial⟩
  refine⟨?_,trivial⟩
  show(D.i ((distG x.g x.ts [l.getD (0+(k:Int).toNat) default] true).getD (0+r) default)).toI=(encL encI (distG x.g x.ts [l.getD (0+(k:Int).toNat) default] true) r 0).toI
  rw[show 0+r=r from Nat.zero_add r]
  rfl
 ·exact rowEq_rfl _ _ _
theorem madd_mem {l:List Int} {a b:Int}:b∈madd1 l a↔b∈l∨b=a:=by
 unfold madd1
 split
 ·exact⟨.inl,fun q=>q.elim id fun e=>e▸ ‹a∈l›⟩
 ·simp[or_comm]
theorem ks_mem (l:List Int):∀ k,∀ a∈l.take k,a∈ksA l k:=by
 have key:∀(l acc:List Int) (a:Int),a∈l.foldl madd1 acc↔a∈acc∨a∈l:=by
  intro l
  induction l with
  |nil=>intro acc a;simp
  |cons x l ih=>
   intro acc a
   rw[List.foldl_cons,ih,madd_mem,List.mem_cons]
   constructor
   ·rintro((h|h)|h)
    ·exact .inl h
    ·exact .inr (.inl h)
    ·exact .inr (.inr h)
   ·rintro(h|h|h)
    ·exact .inl (.inl h)
    ·exact .inl (.inr h)
    ·exact .inr h
 intro k a ha
 exact(key _ _ _).2 (.inr ha)
def hsP (x:PlX) (k:Nat):Hs:=⟨srP x,ksA (catP x) k,⟨ndP x,[],0⟩,{}⟩
theorem ex_ok0 {x:PlX} (h:PlOk x) (h1:¬ (10:Int)<(elemsW (bothW x.ws (allW (min (x.g.n:Int) 4096).toNat))).length) (h2:¬ x.max<0) (h3:¬ 3<x.max) {k:Nat} (hk:¬ (k:Int)<(catP x).length):ExOk ⟨hsP x k,0,x.max.toNat⟩:=by
 rw[tg_l]at h1
 have hm:∀ a∈catP x,a∈ksA (catP x) k:=fun a ha=>ks_mem _ k a (by rw[List.take_of_length_le (by omega)];exact ha)
 refine⟨⟨h.g,fr_le h,(by show(tgP x).length<=12;omega),(by show(ndP x).length=(frU x.us).length;unfold ndP;rw[List.length_map]),fun a ha=>hm a (List.mem_append_left _ ha),fun a ha=>hm a (List.mem_append_right _ ha),Nat.zero_le _,⟨Int.le_refl _,Int.le_refl _⟩⟩,Nat.zero_le _,?_⟩
 show 0+x.max.toNat<=12
 omega
set_option maxRecDepth 100000 in
theorem pl_keeps:Keeps cfgPl Tryd.f14 plC plI:=Eq.mp (show((∀ x1:PlX,((PlOk x1)->(∃ x3:List Un,((x3.length<=(1000:Nat))/\(((0=0/\x1.us.length=x3.length)/\True)/\((((RLe x3.length x1.us.length)/\(RowsEq [.int .i64,.int .i64,.int .i64,.int .i64,.int .i64,.int .i64,.int .i64,.int .i64,.int .i64,.int .i64] x3.length (encL encU x1.us) (encL encU x3)))/\True)/\((((!dstU x3)=false)->(((decide (x1.max<(0:Int))=false)->(((decide (3<x1.max)=true)->(((True/\(0=0/\((resB x1).best.length=(0:Nat))))/\((0=(resB x1).worst)/\(((1:Int)=resE x1)/\True)))/\(((resB x1).best.length=(0:Nat))/\True)))/\((decide (3<x1.max)=false)->(∃ x8:List Un,((x8.length<=(12:Nat))/\(((0=0/\x1.us.length=x8.length)/\True)/\((((RLe x8.length x1.us.length)/\(RowsEq [.int .i64,.int .i64,.int .i64,.int .i64,.int .i64,.int .i64,.int .i64,.int .i64,.int .i64,.int .i64] x8.length (encL encU x1.us) (encL encU x8)))/\True)/\(∃ x9:Gr,(True/\(((0=0/\0=0)/\True)/\(((RLe 1 1/\(RowsEq [.sl [.int .i64,.int .i64,.int .i64],.sl [.sl [.int .i64]],.sl [.sl [.int .i64]]] 1 (encG x1.g) (encG x9)))/\True)/\(∃ x10:Int,(((0:Int)<=x10)/\((((x9.n:Int)=x10)/\True)/\(True/\(∃ x11:TwoX,(((WOk x11.a)/\(WOk x11.b))/\((((szW x1.ws=szW x11.a)/\True)/\(((szW (allW (Int.toNat (min x10 (4096:Int))))=szW x11.b)/\True)/\True))/\((((RLe (szW x11.a) (szW x1.ws))/\(RowsEq [.int .u64] (szW x11.a) (encL encW x1.ws) (encL encW x11.a)))/\(((RLe (szW x11.b) (szW (allW (Int.toNat (min x10 (4096:Int))))))/\(RowsEq [.int .u64] (szW x11.b) (encL encW (allW (Int.toNat (min x10 (4096:Int))))) (encL encW x11.b)))/\True))/\(∃ x12:List Nat,((WOk x12)/\((((szW (bothW x11.a x11.b)=szW x12)/\True)/\True)/\((((RLe (szW x12) (szW (bothW x11.a x11.b)))/\(RowsEq [.int .u64] (szW x12) (encL encW (bothW x11.a x11.b)) (encL encW x12)))/\True)/\(((decide (6<(↑(frU x8).length:Int))=false)->(((decide (10<(↑(elemsW x12).length:Int))=true)->(((True/\(0=0/\((resB x1).best.length=(0:Nat))))/\((0=(resB x1).worst)/\(((3:Int)=resE x1)/\True)))/\(((resB x1).best.length=(0:Nat))/\True)))/\((decide (10<(↑(elemsW x12).length:Int))=false)->(∃ x16:Nat,(((x16<=(frU x1.us).length)/\(((0=0/\0=0)/\((0=0/\x1.ts.length=x1.ts.length)/\(x1.max=x1.max/\((0=0/\0=0)/\((0=0/\((frU x8).length=(frU x1.us).length))/\(((↑(frU x8).length:Int)=(↑(frU x1.us).length:Int))/\((0=(x16:Int))/\(false=false/\((decide (10<(↑(elemsW x12).length:Int))=decide (10<(↑(elemsW x12).length:Int)))/\(((↑(elemsW x12).length:Int)=(↑(elemsW x12).length:Int))/\((decide (6<(↑(frU x8).length:Int))=decide (6<(↑(frU x8).length:Int)))/\((decide (6<(↑(frU x8).length:Int))=decide (6<(↑(frU x8).length:Int)))/\(((↑(frU x8).length:Int)=(↑(frU x8).length:Int))/\(((szW (bothW x11.a x11.b)=szW (bothW x11.a x11.b))/\True)/\(((szW (allW (Int.toNat (min x10 (4096:Int))))=szW (allW (Int.toNat (min x10 (4096:Int)))))/\True)/\(((x9.n:Int)=(x9.n:Int))/\((0=0/\0=0)/\(((szW x1.ws=szW x1.ws)/\True)/\((0=0/\x1.us.length=x1.us.length)/\(false=false/\((decide (3<x1.max)=decide (3<x1.max))/\(x1.max=x1.max/\((decide (x1.max<(0:Int))=decide (x1.max<(0:Int)))/\((decide (x1.max<(0:Int))=decide (x1.max<(0:Int)))/\((decide (x1.max<(0:Int))=decide (x1.max<(0:Int)))/\(x1.max=x1.max/\(((!dstU x3)= !dstU x3)/\(((!dstU x3)= !dstU x3)/\((dstU x3=dstU x3)/\((0=0/\x1.us.length=x1.us.length)/\(((0:Int)=0)/\(((0:Int)=0)/\(True/\((0=0/\0=0)/\((0=0/\x1.us.length=x1.us.length)/\(((szW x1.ws=szW x1.ws)/\True)/\True))))))))))))))))))))))))))))))))))))/\(((0=0/\((frU x8).length=(frU x1.us).length))/\((0=0/\((elemsW x12).length=(tgP x1).length))/\(True/\((True/\(0=0/\((ndA x1 x16).length=(0:Nat))))/\(True/\(((0:Int)=0)/\(false=false/\(True/\(((0:Int)=0)/\(((0:Int)=0)/\True))))))))))/\(((RLe (frU x1.us).length (frU x8).length)/\(RowsEq [.int .i64,.int .i64,.int .i64,.int .i64,.int .i64,.int .i64,.int .i64,.int .i64,.int .i64,.int .i64] (frU x1.us).length (encL encU (frU x8)) (encL encU (frU x1.us))))/\(((RLe (tgP x1).length (elemsW x12).length)/\(RowsEq [.int .i64] (tgP x1).length (encL encI (elemsZ x12)) (encL encI (tgP x1))))/\((MapEq [.sl [.int .i64]] (@List.nil Int) (@List.nil Int) (fun(x:Int) (j:Nat)=>zRow [.sl [.int .i64]] j) (dsR (srP x1)))/\(((ndA x1 x16).length=(0:Nat))/\(((RLe (szW (bothW x11.a x11.b)) (szW (bothW x11.a x11.b)))/\(RowsEq [.int .u64] (szW (bothW x11.a x11.b)) (encL encW (bothW x11.a x11.b)) (encL encW (bothW x11.a x11.b))))/\(((RLe (szW (allW (Int.toNat (min x10 (4096:Int))))) (szW (allW (Int.toNat (min x10 (4096:Int))))))/\(RowsEq [.int .u64] (szW (allW (Int.toNat (min x10 (4096:Int))))) (encL encW (allW (Int.toNat (min x10 (4096:Int))))) (encL encW (allW (Int.toNat (min x10 (4096:Int)))))))/\(((szW x1.ws=szW x1.ws)/\True)/\((RLe 1 1/\(RowsEq [.sl [.int .i64,.int .i64,.int .i64],.sl [.sl [.int .i64]],.sl [.sl [.int .i64]]] 1 (encG x1.g) (encG x1.g)))/\(((RLe x1.ts.length x1.ts.length)/\(RI x1.ts.length x1.ts x1.ts))/\(((RLe x1.us.length x1.us.length)/\(RowsEq [.int .i64,.int .i64,.int .i64,.int .i64,.int .i64,.int .i64,.int .i64,.int .i64,.int .i64,.int .i64] x1.us.length (encL encU x1.us) (encL encU x1.us)))/\(((RLe (szW x1.ws) (szW x1.ws))/\(RowsEq [.int .u64] (szW x1.ws) (encL encW x1.ws) (encL encW x1.ws)))/\True))))))))))))))/\(∀ x17:Nat,((x17<=(frU x1.us).length)->(((decide ((x17:Int)<(↑(frU x1.us).length:Int))=true)->((((0:Int)<=(x17:Int))/\((x17:Int)<(↑(frU x1.us).length:Int)))/\((0+Int.toNat (x17:Int)<(frU x1.us).length)/\(((True/\True)/\True)/\((0=0/\(((ndA x1 x17).length<=(ndA x1 x17).length)/\(((1:Nat)<=(1:Nat))/\((ndA x1 x17).length+(1:Nat)<=(1073741824:Nat)))))/\((((-9223372036854775808:Int)<=(x17:Int)+1)/\((x17:Int)+1<=(9223372036854775807:Int)))/\(∃ x20:Nat,(((frU x1.us).length-x20<(frU x1.us).length-x17)/\((x20<=(frU x1.us).length)/\(((0=0/\0=0)/\((0=0/\x1.ts.length=x1.ts.length)/\(x1.max=x1.max/\((0=0/\0=0)/\((0=0/\((frU x1.us).length=(frU x1.us).length))/\(((↑(frU x1.us).length:Int)=(↑(frU x1.us).length:Int))/\(((x17:Int)+1=(x20:Int))/\(false=false/\((decide (10<(↑(elemsW x12).length:Int))=decide (10<(↑(elemsW x12).length:Int)))/\(((↑(elemsW x12).length:Int)=(↑(elemsW x12).length:Int))/\((decide (6<(↑(frU x8).length:Int))=decide (6<(↑(frU x8).length:Int)))/\((decide (6<(↑(frU x8).length:Int))=decide (6<(↑(frU x8).length:Int)))/\(((↑(frU x8).length:Int)=(↑(frU x8).length:Int))/\(((szW (bothW x11.a x11.b)=szW (bothW x11.a x11.b))/\True)/\(((szW (allW (Int.toNat (min x10 (4096:Int))))=szW (allW (Int.toNat (min x10 (4096:Int)))))/\True)/\(((x9.n:Int)=(x9.n:Int))/\((0=0/\0=0)/\(((szW x1.ws=szW x1.ws)/\True)/\((0=0/\x1.us.length=x1.us.length)/\(false=false/\((decide (3<x1.max)=decide (3<x1.max))/\(x1.max=x1.max/\((decide (x1.max<(0:Int))=decide (x1.max<(0:Int)))/\((decide (x1.max<(0:Int))=decide (x1.max<(0:Int)))/\((decide (x1.max<(0:Int))=decide (x1.max<(0:Int)))/\(x1.max=x1.max/\(((!dstU x3)= !dstU x3)/\(((!dstU x3)= !dstU x3)/\((dstU x3=dstU x3)/\((0=0/\x1.us.length=x1.us.length)/\(((0:Int)=0)/\(((0:Int)=0)/\(True/\((0=0/\0=0)/\((0=0/\x1.us.length=x1.us.length)/\(((szW x1.ws=szW x1.ws)/\True)/\True))))))))))))))))))))))))))))))))))))/\(((0=0/\((frU x1.us).length=(frU x1.us).length))/\((0=0/\((tgP x1).length=(tgP x1).length))/\(True/\((0=0/\((ndA x1 x17).length+(1:Nat)=(ndA x1 x20).length))/\(True/\(((0:Int)=0)/\(false=false/\(True/\(((0:Int)=0)/\(((0:Int)=0)/\True))))))))))/\(((RLe (frU x1.us).length (frU x1.us).length)/\(RowsEq [.int .i64,.int .i64,.int .i64,.int .i64,.int .i64,.int .i64,.int .i64,.int .i64,.int .i64,.int .i64] (frU x1.us).length (encL encU (frU x1.us)) (encL encU (frU x1.us))))/\(((RLe (tgP x1).length (tgP x1).length)/\(RowsEq [.int .i64] (tgP x1).length (encL encI (tgP x1)) (encL encI (tgP x1))))/\((MapEq [.sl [.int .i64]] (@List.nil Int) (@List.nil Int) (dsR (srP x1)) (dsR (srP x1)))/\(((RLe (ndA x1 x20).length ((ndA x1 x17).length+(1:Nat)))/\(RowsEq [.int .i64] (ndA x1 x20).length (appRows (ndA x1 x17).length (encL encI (ndA x1 x17)) 0 (litRows ((D.i ((frU x1.us).getD (0+Int.toNat (x17:Int)) default).nd::@List.nil D)::@List.nil (List D)))) (encL encI (ndA x1 x20))))/\(((RLe (szW (bothW x11.a x11.b)) (szW (bothW x11.a x11.b)))/\(RowsEq [.int .u64] (szW (bothW x11.a x11.b)) (encL encW (bothW x11.a x11.b)) (encL encW (bothW x11.a x11.b))))/\(((RLe (szW (allW (Int.toNat (min x10 (4096:Int))))) (szW (allW (Int.toNat (min x10 (4096:Int))))))/\(RowsEq [.int .u64] (szW (allW (Int.toNat (min x10 (4096:Int))))) (encL encW (allW (Int.toNat (min x10 (4096:Int))))) (encL encW (allW (Int.toNat (min x10 (4096:Int)))))))/\(((szW x1.ws=szW x1.ws)/\True)/\((RLe 1 1/\(RowsEq [.sl [.int .i64,.int .i64,.int .i64],.sl [.sl [.int .i64]],.sl [.sl [.int .i64]]] 1 (encG x1.g) (encG x1.g)))/\(((RLe x1.ts.length x1.ts.length)/\(RI x1.ts.length x1.ts x1.ts))/\(((RLe x1.us.length x1.us.length)/\(RowsEq [.int .i64,.int .i64,.int .i64,.int .i64,.int .i64,.int .i64,.int .i64,.int .i64,.int .i64,.int .i64] x1.us.length (encL encU x1.us) (encL encU x1.us)))/\(((RLe (szW x1.ws) (szW x1.ws))/\(RowsEq [.int .u64] (szW x1.ws) (encL encW x1.ws) (encL encW x1.ws)))/\True))))))))))))))))))))))/\((decide ((x17:Int)<(↑(frU x1.us).length:Int))=false)->(∃ x22:CTx,((CTok x22)/\(((0=0/\((2:Nat)=(2:Nat)))/\True)/\((((0=0/\((ndA x1 x17).length=x22.a.length))/\((0=0/\((tgP x1).length=x22.b.length))/\True))/\(((RLe x22.a.length (ndA x1 x17).length)/\(RI x22.a.length (ndA x1 x17) x22.a))/\(((RLe x22.b.length (tgP x1).length)/\(RI x22.b.length (tgP x1) x22.b))/\True)))/\(∃ x23:Nat,(((x23<=(catP x1).length)/\(((0=0/\0=0)/\((0=0/\x1.ts.length=x1.ts.length)/\(x1.max=x1.max/\((0=0/\0=0)/\((0=0/\((x22.a++x22.b).length=(catP x1).length))/\(((↑(x22.a++x22.b).length:Int)=(↑(catP x1).length:Int))/\((0=(x23:Int))/\((0=0/\((2:Nat)=(2:Nat)))/\((0=0/\((tgP x1).length=(tgP x1).length))/\((0=0/\((1:Nat)=(1:Nat)))/\((0=0/\0=0)/\((0=0/\0=0)/\((0=0/\((ndA x1 x17).length=(ndA x1 x17).length))/\((0=0/\((3:Nat)=(3:Nat)))/\((0=0/\0=0)/\((0=0/\0=0)/\(false=false/\((0=0/\((frU x1.us).length=(frU x1.us).length))/\(((↑(frU x1.us).length:Int)=(↑(frU x1.us).length:Int))/\(((x17:Int)=(x17:Int))/\(false=false/\((decide (10<(↑(elemsW x12).length:Int))=decide (10<(↑(elemsW x12).length:Int)))/\(((↑(elemsW x12).length:Int)=(↑(elemsW x12).length:Int))/\((decide (6<(↑(frU x8).length:Int))=decide (6<(↑(frU x8).length:Int)))/\((decide (6<(↑(frU x8).length:Int))=decide (6<(↑(frU x8).length:Int)))/\(((↑(frU x8).length:Int)=(↑(frU x8).length:Int))/\(((szW (bothW x11.a x11.b)=szW (bothW x11.a x11.b))/\True)/\(((szW (allW (Int.toNat (min x10 (4096:Int))))=szW (allW (Int.toNat (min x10 (4096:Int)))))/\True)/\(((x9.n:Int)=(x9.n:Int))/\((0=0/\0=0)/\(((szW x1.ws=szW x1.ws)/\True)/\((0=0/\x1.us.length=x1.us.length)/\(false=false/\((decide (3<x1.max)=decide (3<x1.max))/\(x1.max=x1.max/\((decide (x1.max<(0:Int))=decide (x1.max<(0:Int)))/\((decide (x1.max<(0:Int))=decide (x1.max<(0:Int)))/\((decide (x1.max<(0:Int))=decide (x1.max<(0:Int)))/\(x1.max=x1.max/\(((!dstU x3)= !dstU x3)/\(((!dstU x3)= !dstU x3)/\((dstU x3=dstU x3)/\((0=0/\x1.us.length=x1.us.length)/\(((0:Int)=0)/\(((0:Int)=0)/\(True/\((0=0/\0=0)/\((0=0/\x1.us.length=x1.us.length)/\(((szW x1.ws=szW x1.ws)/\True)/\True)))))))))))))))))))))))))))))))))))))))))))))))))/\(((0=0/\((frU x1.us).length=(frU x1.us).length))/\((0=0/\((tgP x1).length=(tgP x1).length))/\(True/\((0=0/\((ndA x1 x17).length=(ndP x1).length))/\(True/\(((0:Int)=0)/\(false=false/\(True/\(((0:Int)=0)/\(((0:Int)=0)/\True))))))))))/\(((RLe (frU x1.us).length (frU x1.us).length)/\(RowsEq [.int .i64,.int .i64,.int .i64,.int .i64,.int .i64,.int .i64,.int .i64,.int .i64,.int .i64,.int .i64] (frU x1.us).length (encL encU (frU x1.us)) (encL encU (frU x1.us))))/\(((RLe (tgP x1).length (tgP x1).length)/\(RowsEq [.int .i64] (tgP x1).length (encL encI (tgP x1)) (encL encI (tgP x1))))/\((MapEq [.sl [.int .i64]] (@List.nil Int) (ksA (catP x1) x23) (dsR (srP x1)) (dsR (srP x1)))/\(((RLe (ndP x1).length (ndA x1 x17).length)/\(RowsEq [.int .i64] (ndP x1).length (encL encI (ndA x1 x17)) (encL encI (ndP x1))))/\(((RLe (catP x1).length (x22.a++x22.b).length)/\(RowsEq [.int .i64] (catP x1).length (encL encI (x22.a++x22.b)) (encL encI (catP x1))))/\(((0=0/\((ndA x1 x17).length=(ndA x1 x17).length))/\((0=0/\((tgP x1).length=(tgP x1).length))/\True))/\(((RLe (szW (bothW x11.a x11.b)) (szW (bothW x11.a x11.b)))/\(RowsEq [.int .u64] (szW (bothW x11.a x11.b)) (encL encW (bothW x11.a x11.b)) (encL encW (bothW x11.a x11.b))))/\(((RLe (szW (allW (Int.toNat (min x10 (4096:Int))))) (szW (allW (Int.toNat (min x10 (4096:Int))))))/\(RowsEq [.int .u64] (szW (allW (Int.toNat (min x10 (4096:Int))))) (encL encW (allW (Int.toNat (min x10 (4096:Int))))) (encL encW (allW (Int.toNat (min x10 (4096:Int)))))))/\(((szW x1.ws=szW x1.ws)/\True)/\((RLe 1 1/\(RowsEq [.sl [.int .i64,.int .i64,.int .i64],.sl [.sl [.int .i64]],.sl [.sl [.int .i64]]] 1 (encG x1.g) (encG x1.g)))/\(((RLe x1.ts.length x1.ts.length)/\(RI x1.ts.length x1.ts x1.ts))/\(((RLe x1.us.length x1.us.length)/\(RowsEq [.int .i64,.int .i64,.int .i64,.int .i64,.int .i64,.int .i64,.int .i64,.int .i64,.int .i64,.int .i64] x1.us.length (encL encU x1.us) (encL encU x1.us)))/\(((RLe (szW x1.ws) (szW x1.ws))/\(RowsEq [.int .u64] (szW x1.ws) (encL encW x1.ws) (encL encW x1.ws)))/\True))))))))))))))))/\(∀ x24:Nat,((x24<=(catP x1).length)->(((decide ((x24:Int)<(↑(catP x1).length:Int))=true)->((((0:Int)<=(x24:Int))/\((x24:Int)<(↑(catP x1).length:Int)))/\((0+Int.toNat (x24:Int)<(catP x1).length)/\((((!decide ((catP x1).getD (0+Int.toNat (x24:Int)) default∈ksA (catP x1) x24))=true)->(((True/\True)/\True)/\(∃ x28:FX,((FXok x28)/\(((0=0/\0=0)/\((0=0/\x1.ts.length=x28.ts.length)/\((0=0/\((1:Nat)=x28.src.length))/\True)))/\(((RLe 1 1/\(RowsEq [.sl [.int .i64,.int .i64,.int .i64],.sl [.sl [.int .i64]],.sl [.sl [.int .i64]]] 1 (encG x1.g) (encG x28.g)))/\(((RLe x28.ts.length x1.ts.length)/\(RI x28.ts.length x1.ts x28.ts))/\(((RLe x28.src.length 1)/\(RowsEq [.int .i64] x28.src.length (litRows ((D.i ((catP x1).getD (0+Int.toNat (x24:Int)) default)::@List.nil D)::@List.nil (List D))) (encL encI x28.src)))/\True)))/\((((0:Nat)+x28.g.n<=x28.g.n)/\True)/\((((-9223372036854775808:Int)<=(x24:Int)+1)/\((x24:Int)+1<=(9223372036854775807:Int)))/\(∃ x29:Nat,(((catP x1).length-x29<(catP x1).length-x24)/\((x29<=(catP x1).length)/\(((0=0/\0=0)/\((0=0/\x1.ts.length=x1.ts.length)/\(x1.max=x1.max/\((0=0/\0=0)/\((0=0/\((catP x1).length=(catP x1).length))/\(((↑(catP x1).length:Int)=(↑(catP x1).length:Int))/\(((x24:Int)+1=(x29:Int))/\((0=0/\((2:Nat)=(2:Nat)))/\((0=0/\((tgP x1).length=(tgP x1).length))/\((0=0/\((1:Nat)=(1:Nat)))/\((0=0/\0=0)/\((0=0/\0=0)/\((0=0/\((ndA x1 x17).length=(ndA x1 x17).length))/\((0=0/\((3:Nat)=(3:Nat)))/\((0=0/\0=0)/\((0=0/\0=0)/\(false=false/\((0=0/\((frU x1.us).length=(frU x1.us).length))/\(((↑(frU x1.us).length:Int)=(↑(frU x1.us).length:Int))/\(((x17:Int)=(x17:Int))/\(false=false/\((decide (10<(↑(elemsW x12).length:Int))=decide (10<(↑(elemsW x12).length:Int)))/\(((↑(elemsW x12).length:Int)=(↑(elemsW x12).length:Int))/\((decide (6<(↑(frU x8).length:Int))=decide (6<(↑(frU x8).length:Int)))/\((decide (6<(↑(frU x8).length:Int))=decide (6<(↑(frU x8).length:Int)))/\(((↑(frU x8).length:Int)=(↑(frU x8).length:Int))/\(((szW (bothW x11.a x11.b)=szW (bothW x11.a x11.b))/\True)/\(((szW (allW (Int.toNat (min x10 (4096:Int))))=szW (allW (Int.toNat (min x10 (4096:Int)))))/\True)/\(((x9.n:Int)=(x9.n:Int))/\((0=0/\0=0)/\(((szW x1.ws=szW x1.ws)/\True)/\((0=0/\x1.us.length=x1.us.length)/\(false=false/\((decide (3<x1.max)=decide (3<x1.max))/\(x1.max=x1.max/\((decide (x1.max<(0:Int))=decide (x1.max<(0:Int)))/\((decide (x1.max<(0:Int))=decide (x1.max<(0:Int)))/\((decide (x1.max<(0:Int))=decide (x1.max<(0:Int)))/\(x1.max=x1.max/\(((!dstU x3)= !dstU x3)/\(((!dstU x3)= !dstU x3)/\((dstU x3=dstU x3)/\((0=0/\x1.us.length=x1.us.length)/\(((0:Int)=0)/\(((0:Int)=0)/\(True/\((0=0/\0=0)/\((0=0/\x1.us.length=x1.us.length)/\(((szW x1.ws=szW x1.ws)/\True)/\True)))))))))))))))))))))))))))))))))))))))))))))))))/\(((0=0/\((frU x1.us).length=(frU x1.us).length))/\((0=0/\((tgP x1).length=(tgP x1).length))/\(True/\((0=0/\((ndP x1).length=(ndP x1).length))/\(True/\(((0:Int)=0)/\(false=false/\(True/\(((0:Int)=0)/\(((0:Int)=0)/\True))))))))))/\(((RLe (frU x1.us).length (frU x1.us).length)/\(RowsEq [.int .i64,.int .i64,.int .i64,.int .i64,.int .i64,.int .i64,.int .i64,.int .i64,.int .i64,.int .i64] (frU x1.us).length (encL encU (frU x1.us)) (encL encU (frU x1.us))))/\(((RLe (tgP x1).length (tgP x1).length)/\(RowsEq [.int .i64] (tgP x1).length (encL encI (tgP x1)) (encL encI (tgP x1))))/\((MapEq [.sl [.int .i64]] (madd1 (ksA (catP x1) x24) ((catP x1).getD (0+Int.toNat (x24:Int)) default)) (ksA (catP x1) x29) (mset (dsR (srP x1)) ((catP x1).getD (0+Int.toNat (x24:Int)) default) fun(j:Nat)=>((D.l x28.g.n fun(r c:Nat)=>D.i ((distG x28.g x28.ts x28.src true).getD ((0:Nat)+r) default))::@List.nil D).getD j (D.i 0)) (dsR (srP x1)))/\(((RLe (ndP x1).length (ndP x1).length)/\(RowsEq [.int .i64] (ndP x1).length (encL encI (ndP x1)) (encL encI (ndP x1))))/\(((RLe (catP x1).length (catP x1).length)/\(RowsEq [.int .i64] (catP x1).length (encL encI (catP x1)) (encL encI (catP x1))))/\(((0=0/\((ndA x1 x17).length=(ndA x1 x17).length))/\((0=0/\((tgP x1).length=(tgP x1).length))/\True))/\(((RLe (szW (bothW x11.a x11.b)) (szW (bothW x11.a x11.b)))/\(RowsEq [.int .u64] (szW (bothW x11.a x11.b)) (encL encW (bothW x11.a x11.b)) (encL encW (bothW x11.a x11.b))))/\(((RLe (szW (allW (Int.toNat (min x10 (4096:Int))))) (szW (allW (Int.toNat (min x10 (4096:Int))))))/\(RowsEq [.int .u64] (szW (allW (Int.toNat (min x10 (4096:Int))))) (encL encW (allW (Int.toNat (min x10 (4096:Int))))) (encL encW (allW (Int.toNat (min x10 (4096:Int)))))))/\(((szW x1.ws=szW x1.ws)/\True)/\((RLe 1 1/\(RowsEq [.sl [.int .i64,.int .i64,.int .i64],.sl [.sl [.int .i64]],.sl [.sl [.int .i64]]] 1 (encG x1.g) (encG x1.g)))/\(((RLe x1.ts.length x1.ts.length)/\(RI x1.ts.length x1.ts x1.ts))/\(((RLe x1.us.length x1.us.length)/\(RowsEq [.int .i64,.int .i64,.int .i64,.int .i64,.int .i64,.int .i64,.int .i64,.int .i64,.int .i64,.int .i64] x1.us.length (encL encU x1.us) (encL encU x1.us)))/\(((RLe (szW x1.ws) (szW x1.ws))/\(RowsEq [.int .u64] (szW x1.ws) (encL encW x1.ws) (encL encW x1.ws)))/\True))))))))))))))))))))))))))/\(((!decide ((catP x1).getD (0+Int.toNat (x24:Int)) default∈ksA (catP x1) x24))=false)->((((-9223372036854775808:Int)<=(x24:Int)+1)/\((x24:Int)+1<=(9223372036854775807:Int)))/\(∃ x31:Nat,(((catP x1).length-x31<(catP x1).length-x24)/\((x31<=(catP x1).length)/\(((0=0/\0=0)/\((0=0/\x1.ts.length=x1.ts.length)/\(x1.max=x1.max/\((0=0/\0=0)/\((0=0/\((catP x1).length=(catP x1).length))/\(((↑(catP x1).length:Int)=(↑(catP x1).length:Int))/\(((x24:Int)+1=(x31:Int))/\((0=0/\((2:Nat)=(2:Nat)))/\((0=0/\((tgP x1).length=(tgP x1).length))/\((0=0/\((1:Nat)=(1:Nat)))/\((0=0/\0=0)/\((0=0/\0=0)/\((0=0/\((ndA x1 x17).length=(ndA x1 x17).length))/\((0=0/\((3:Nat)=(3:Nat)))/\((0=0/\0=0)/\((0=0/\0=0)/\(false=false/\((0=0/\((frU x1.us).length=(frU x1.us).length))/\(((↑(frU x1.us).length:Int)=(↑(frU x1.us).length:Int))/\(((x17:Int)=(x17:Int))/\(false=false/\((decide (10<(↑(elemsW x12).length:Int))=decide (10<(↑(elemsW x12).length:Int)))/\(((↑(elemsW x12).length:Int)=(↑(elemsW x12).length:Int))/\((decide (6<(↑(frU x8).length:Int))=decide (6<(↑(frU x8).length:Int)))/\((decide (6<(↑(frU x8).length:Int))=decide (6<(↑(frU x8).length:Int)))/\(((↑(frU x8).length:Int)=(↑(frU x8).length:Int))/\(((szW (bothW x11.a x11.b)=szW (bothW x11.a x11.b))/\True)/\(((szW (allW (Int.toNat (min x10 (4096:Int))))=szW (allW (Int.toNat (min x10 (4096:Int)))))/\True)/\(((x9.n:Int)=(x9.n:Int))/\((0=0/\0=0)/\(((szW x1.ws=szW x1.ws)/\True)/\((0=0/\x1.us.length=x1.us.length)/\(false=false/\((decide (3<x1.max)=decide (3<x1.max))/\(x1.max=x1.max/\((decide (x1.max<(0:Int))=decide (x1.max<(0:Int)))/\((decide (x1.max<(0:Int))=decide (x1.max<(0:Int)))/\((decide (x1.max<(0:Int))=decide (x1.max<(0:Int)))/\(x1.max=x1.max/\(((!dstU x3)= !dstU x3)/\(((!dstU x3)= !dstU x3)/\((dstU x3=dstU x3)/\((0=0/\x1.us.length=x1.us.length)/\(((0:Int)=0)/\(((0:Int)=0)/\(True/\((0=0/\0=0)/\((0=0/\x1.us.length=x1.us.length)/\(((szW x1.ws=szW x1.ws)/\True)/\True)))))))))))))))))))))))))))))))))))))))))))))))))/\(((0=0/\((frU x1.us).length=(frU x1.us).length))/\((0=0/\((tgP x1).length=(tgP x1).length))/\(True/\((0=0/\((ndP x1).length=(ndP x1).length))/\(True/\(((0:Int)=0)/\(false=false/\(True/\(((0:Int)=0)/\(((0:Int)=0)/\True))))))))))/\(((RLe (frU x1.us).length (frU x1.us).length)/\(RowsEq [.int .i64,.int .i64,.int .i64,.int .i64,.int .i64,.int .i64,.int .i64,.int .i64,.int .i64,.int .i64] (frU x1.us).length (encL encU (frU x1.us)) (encL encU (frU x1.us))))/\(((RLe (tgP x1).length (tgP x1).length)/\(RowsEq [.int .i64] (tgP x1).length (encL encI (tgP x1)) (encL encI (tgP x1))))/\((MapEq [.sl [.int .i64]] (ksA (catP x1) x24) (ksA (catP x1) x31) (dsR (srP x1)) (dsR (srP x1)))/\(((RLe (ndP x1).length (ndP x1).length)/\(RowsEq [.int .i64] (ndP x1).length (encL encI (ndP x1)) (encL encI (ndP x1))))/\(((RLe (catP x1).length (catP x1).length)/\(RowsEq [.int .i64] (catP x1).length (encL encI (catP x1)) (encL encI (catP x1))))/\(((0=0/\((ndA x1 x17).length=(ndA x1 x17).length))/\((0=0/\((tgP x1).length=(tgP x1).length))/\True))/\(((RLe (szW (bothW x11.a x11.b)) (szW (bothW x11.a x11.b)))/\(RowsEq [.int .u64] (szW (bothW x11.a x11.b)) (encL encW (bothW x11.a x11.b)) (encL encW (bothW x11.a x11.b))))/\(((RLe (szW (allW (Int.toNat (min x10 (4096:Int))))) (szW (allW (Int.toNat (min x10 (4096:Int))))))/\(RowsEq [.int .u64] (szW (allW (Int.toNat (min x10 (4096:Int))))) (encL encW (allW (Int.toNat (min x10 (4096:Int))))) (encL encW (allW (Int.toNat (min x10 (4096:Int)))))))/\(((szW x1.ws=szW x1.ws)/\True)/\((RLe 1 1/\(RowsEq [.sl [.int .i64,.int .i64,.int .i64],.sl [.sl [.int .i64]],.sl [.sl [.int .i64]]] 1 (encG x1.g) (encG x1.g)))/\(((RLe x1.ts.length x1.ts.length)/\(RI x1.ts.length x1.ts x1.ts))/\(((RLe x1.us.length x1.us.length)/\(RowsEq [.int .i64,.int .i64,.int .i64,.int .i64,.int .i64,.int .i64,.int .i64,.int .i64,.int .i64,.int .i64] x1.us.length (encL encU x1.us) (encL encU x1.us)))/\(((RLe (szW x1.ws) (szW x1.ws))/\(RowsEq [.int .u64] (szW x1.ws) (encL encW x1.ws) (encL encW x1.ws)))/\True))))))))))))))))))))))))/\((decide ((x24:Int)<(↑(catP x1).length:Int))=false)->(∃ x33:ExX,(((ExOk x33)/\(x33.m<(13:Nat)))/\(((0=0/\0=0)/\((0=(x33.fi0:Int))/\((x1.max=(x33.m:Int))/\True)))/\((((0=0/\((frU x1.us).length=x33.h.x.us.length))/\((0=0/\((tgP x1).length=x33.h.x.tg.length))/\(True/\((0=0/\((ndP x1).length=x33.h.p.nd.length))/\((True/\(0=0/\(x33.h.p.mv.length=(0:Nat))))/\(0=x33.h.p.dur/\(false=x33.h.b.found/\((True/\(0=0/\(x33.h.b.best.length=(0:Nat))))/\(0=x33.h.b.worst/\(0=x33.h.b.total/\True))))))))))/\(((RLe x33.h.p.nd.length (ndP x1).length)/\(RI x33.h.p.nd.length (ndP x1) x33.h.p.nd))/\((x33.h.p.mv.length=(0:Nat))/\((x33.h.b.best.length=(0:Nat))/\(((RLe x33.h.x.us.length (frU x1.us).length)/\(RowsEq [.int .i64,.int .i64,.int .i64,.int .i64,.int .i64,.int .i64,.int .i64,.int .i64,.int .i64,.int .i64] x33.h.x.us.length (encL encU (frU x1.us)) (encL encU x33.h.x.us)))/\(((RLe x33.h.x.tg.length (tgP x1).length)/\(RI x33.h.x.tg.length (tgP x1) x33.h.x.tg))/\((MapEq [.sl [.int .i64]] (ksA (catP x1) x24) x33.h.ks (dsR (srP x1)) (dsR x33.h.x))/\True)))))))/\(((0=0/\((Hs.upd x33.h (exF x33.h.x x33.m x33.fi0 x33.h.p x33.h.b)).b.best.length=(resB x1).best.length))/\(((Hs.upd x33.h (exF x33.h.x x33.m x33.fi0 x33.h.p x33.h.b)).b.worst=(resB x1).worst)/\(((0:Int)=resE x1)/\True)))/\(((RLe (resB x1).best.length (Hs.upd x33.h (exF x33.h.x x33.m x33.fi0 x33.h.p x33.h.b)).b.best.length)/\(RowsEq [.int .i64,.int .i64] (resB x1).best.length (encL encM (Hs.upd x33.h (exF x33.h.x x33.m x33.fi0 x33.h.p x33.h.b)).b.best) (encL encM (resB x1).best)))/\True)))))))))))))))))))))))))/\((decide (6<(↑(frU x8).length:Int))=true)->(((True/\(0=0/\((resB x1).best.length=(0:Nat))))/\((0=(resB x1).worst)/\(((3:Int)=resE x1)/\True)))/\(((resB x1).best.length=(0:Nat))/\True)))))))))))))))))))))))))))/\((decide (x1.max<(0:Int))=true)->(((True/\(0=0/\((resB x1).best.length=(0:Nat))))/\((0=(resB x1).worst)/\(((1:Int)=resE x1)/\True)))/\(((resB x1).best.length=(0:Nat))/\True)))))/\(((!dstU x3)=true)->(((True/\(0=0/\((resB x1).best.length=(0:Nat))))/\((0=(resB x1).worst)/\(((1:Int)=resE x1)/\True)))/\(((resB x1).best.length=(0:Nat))/\True)))))))))))=(Keeps cfgPl Tryd.f14 plC plI) by kernel_rfl) (fun x1=>fun h2=>⟨(PlX.us x1),
(by(try dsimp only at *);exact Nat.le_trans h2.us (by decide)),
⟨⟨rfl,rfl⟩,trivial⟩,
⟨⟨rl,rr⟩,trivial⟩,
fun h4=>⟨fun g5=>have h5:=dF g5;⟨fun g6=>have h6:=dT g6;⟨⟨⟨trivial,rfl,
(by(try dsimp only at *);(rw[(res_bad (.inr (.inr h6))).1];rfl))⟩,
(by(try dsimp only at *);(rw[(res_bad (.inr (.inr h6))).1])),
(by(try dsimp only at *);(rw[(res_bad (.inr (.inr h6))).2])),trivial⟩,
(by(try dsimp only at *);(rw[(res_bad (.inr (.inr h6))).1];rfl)),trivial⟩,
fun g7=>have h7:=dF g7;⟨(PlX.us x1),
(by(try dsimp only at *);exact Nat.le_trans h2.us (by decide)),
⟨⟨rfl,rfl⟩,trivial⟩,
⟨⟨rl,rr⟩,trivial⟩,
(PlX.g x1),trivial,
⟨⟨rfl,rfl⟩,trivial⟩,
⟨⟨rl,rr⟩,trivial⟩,
((↑(Gr.n (PlX.g x1)):Int)),
(by(try dsimp only at *);omega),
⟨rfl,trivial⟩,trivial,
({ a:=PlX.ws x1,b:=allW (Int.toNat (min (↑(Gr.n (PlX.g x1)):Int) (4096:Int))):TwoX }),
⟨(by(try dsimp only at *);exact h2.ws),
(by(try dsimp only at *);exact allW_ok _)⟩,
⟨⟨rfl,trivial⟩,
⟨rfl,trivial⟩,trivial⟩,
⟨⟨rl,rr⟩,
⟨rl,rr⟩,trivial⟩,
(bothW (PlX.ws x1) (allW (Int.toNat (min (↑(Gr.n (PlX.g x1)):Int) (4096:Int))))),
(by(try dsimp only at *);exact bothAt_ok h2.ws (allW_ok _) _),
⟨⟨rfl,trivial⟩,trivial⟩,
⟨⟨rl,rr⟩,trivial⟩,
fun g13=>have h13:=dF g13;⟨fun g14=>have h14:=dT g14;⟨⟨⟨trivial,rfl,
(by(try dsimp only at *);(rw[(res_man (bad_n h4 h5 h7) (man_t h14)).1];rfl))⟩,
(by(try dsimp only at *);(rw[(res_man (bad_n h4 h5 h7) (man_t h14)).1])),
(by(try dsimp only at *);(rw[(res_man (bad_n h4 h5 h7) (man_t h14)).2])),trivial⟩,
(by(try dsimp only at *);(rw[(res_man (bad_n h4 h5 h7) (man_t h14)).1];rfl)),trivial⟩,
fun g15=>have h15:=dF g15;⟨((0:Nat)),
⟨(by(try dsimp only at *);omega),
⟨⟨rfl,rfl⟩,
⟨rfl,rfl⟩,rfl,
⟨rfl,rfl⟩,
⟨rfl,rfl⟩,rfl,
(by(try dsimp only at *);omega),rfl,rfl,rfl,rfl,rfl,rfl,
⟨rfl,trivial⟩,
⟨rfl,trivial⟩,rfl,
⟨rfl,rfl⟩,
⟨rfl,trivial⟩,
⟨rfl,rfl⟩,rfl,rfl,rfl,rfl,rfl,rfl,rfl,rfl,rfl,rfl,
⟨rfl,rfl⟩,rfl,rfl,trivial,
⟨rfl,rfl⟩,
⟨rfl,rfl⟩,
⟨rfl,trivial⟩,trivial⟩,
⟨⟨rfl,rfl⟩,
⟨rfl,
(by(try dsimp only at *);exact tg_l)⟩,trivial,
⟨trivial,rfl,
(by(try dsimp only at *);rfl)⟩,trivial,rfl,rfl,trivial,rfl,rfl,trivial⟩,
⟨rl,rr⟩,
⟨⟨(by(try dsimp only at *);exact Nat.le_of_eq tg_l.symm)⟩,
(by(try dsimp only at *);exact rr)⟩,
(by(try dsimp only at *);exact mapE0),
(by(try dsimp only at *);rfl),
⟨rl,rr⟩,
⟨rl,rr⟩,
⟨rfl,trivial⟩,
⟨rl,rr⟩,
⟨rl,rr⟩,
⟨rl,rr⟩,
⟨rl,rr⟩,trivial⟩,
fun x17=>fun h18=>⟨fun g19=>have h19:=dT g19;⟨⟨(by(try dsimp only at *);omega),
(by(try dsimp only at *);omega)⟩,
(by(try dsimp only at *);omega),
⟨⟨trivial,trivial⟩,trivial⟩,
⟨rfl,
(by(try dsimp only at *);omega),
(by(try dsimp only at *);omega),
(by(try dsimp only at *);(have:=ndA_le h2 x17;omega))⟩,
⟨(by(try dsimp only at *);omega),
(by(try dsimp only at *);omega)⟩,
(x17+(1:Nat)),
(by(try dsimp only at *);omega),
(by(try dsimp only at *);omega),
⟨⟨rfl,rfl⟩,
⟨rfl,rfl⟩,rfl,
⟨rfl,rfl⟩,
⟨rfl,rfl⟩,rfl,
(by(try dsimp only at *);omega),rfl,rfl,rfl,rfl,rfl,rfl,
⟨rfl,trivial⟩,
⟨rfl,trivial⟩,rfl,
⟨rfl,rfl⟩,
⟨rfl,trivial⟩,
⟨rfl,rfl⟩,rfl,rfl,rfl,rfl,rfl,rfl,rfl,rfl,rfl,rfl,
⟨rfl,rfl⟩,rfl,rfl,trivial,
⟨rfl,rfl⟩,
⟨rfl,rfl⟩,
⟨rfl,trivial⟩,trivial⟩,
⟨⟨rfl,rfl⟩,
⟨rfl,rfl⟩,trivial,
⟨rfl,
(by(try dsimp only at *);exact ndA_l h19)⟩,trivial,rfl,rfl,trivial,rfl,rfl,trivial⟩,
⟨rl,rr⟩,
⟨rl,rr⟩,MapEq.rfl',
⟨⟨(by(try dsimp only at *);exact Nat.le_of_eq (ndA_l h19).symm)⟩,
(by(try dsimp only at *);exact ndA_r h19 (Nat.le_of_eq (ndA_l h19).symm))⟩,
⟨rl,rr⟩,
⟨rl,rr⟩,
⟨rfl,trivial⟩,
⟨rl,rr⟩,
⟨rl,rr⟩,
⟨rl,rr⟩,
⟨rl,rr⟩,trivial⟩,
fun g21=>have h21:=dF g21;⟨({ a:=ndA x1 x17,b:=tgP x1:CTx }),
(by(try dsimp only at *);exact ct_ok h2 h15 _),
⟨⟨rfl,rfl⟩,trivial⟩,
⟨⟨⟨rfl,rfl⟩,
⟨rfl,rfl⟩,trivial⟩,
⟨rl,rr⟩,
⟨rl,rr⟩,trivial⟩,
((0:Nat)),
⟨(by(try dsimp only at *);omega),
⟨⟨rfl,rfl⟩,
⟨rfl,rfl⟩,rfl,
⟨rfl,rfl⟩,
⟨rfl,
(by(try dsimp only at *);exact congrArg List.length (cat_e h21))⟩,
(by(try dsimp only at *);exact congrArg (fun l:List Int=>(l.length:Int)) (cat_e h21)),
(by(try dsimp only at *);omega),
⟨rfl,rfl⟩,
⟨rfl,rfl⟩,
⟨rfl,rfl⟩,
⟨rfl,rfl⟩,
⟨rfl,rfl⟩,
⟨rfl,rfl⟩,
⟨rfl,rfl⟩,
⟨rfl,rfl⟩,
⟨rfl,rfl⟩,rfl,
⟨rfl,rfl⟩,rfl,rfl,rfl,rfl,rfl,rfl,rfl,rfl,
⟨rfl,trivial⟩,
⟨rfl,trivial⟩,rfl,
⟨rfl,rfl⟩,
⟨rfl,trivial⟩,
⟨rfl,rfl⟩,rfl,rfl,rfl,rfl,rfl,rfl,rfl,rfl,rfl,rfl,
⟨rfl,rfl⟩,rfl,rfl,trivial,
⟨rfl,rfl⟩,
⟨rfl,rfl⟩,
⟨rfl,trivial⟩,trivial⟩,
⟨⟨rfl,rfl⟩,
⟨rfl,rfl⟩,trivial,
⟨rfl,
(by(try dsimp only at *);exact congrArg List.length (ndA_t h21))⟩,trivial,rfl,rfl,trivial,rfl,rfl,trivial⟩,
⟨rl,rr⟩,
⟨rl,rr⟩,
(by(try dsimp only at *);exact MapEq.rfl'),
⟨⟨(by(try dsimp only at *);exact Nat.le_of_eq (congrArg List.length (ndA_t h21)).symm)⟩,
(by(try dsimp only at *);(rw[ndA_t h21];exact rr))⟩,
⟨⟨(by(try dsimp only at *);exact Nat.le_of_eq (congrArg List.length (cat_e h21)).symm)⟩,
(by(try dsimp only at *);(rw[ndA_t h21];exact rr))⟩,
⟨⟨rfl,rfl⟩,
⟨rfl,rfl⟩,trivial⟩,
⟨rl,rr⟩,
⟨rl,rr⟩,
⟨rfl,trivial⟩,
⟨rl,rr⟩,
⟨rl,rr⟩,
⟨rl,rr⟩,
⟨rl,rr⟩,trivial⟩,
fun x24=>fun h25=>⟨fun g26=>have h26:=dT g26;⟨⟨(by(try dsimp only at *);omega),
(by(try dsimp only at *);omega)⟩,
(by(try dsimp only at *);omega),
fun g27=>have h27:=nT g27;⟨⟨⟨trivial,trivial⟩,trivial⟩,
({ g:=PlX.g x1,ts:=PlX.ts x1,src:=List.getD (catP x1) ((0:Nat)+Int.toNat (↑x24:Int)) default::@List.nil Int:FX }),
(by(try dsimp only at *);exact⟨h2.g,h2.n,Nat.le_of_ble_eq_true rfl⟩),
⟨⟨rfl,rfl⟩,
⟨rfl,rfl⟩,
⟨rfl,
(by(try dsimp only at *);grind)⟩,trivial⟩,
⟨⟨rl,rr⟩,
⟨rl,rr⟩,
⟨⟨(by(try dsimp only at *);grind)⟩,
(by(try dsimp only at *);exact litI rfl)⟩,trivial⟩,
⟨(by(try dsimp only at *);omega),trivial⟩,
⟨(by(try dsimp only at *);omega),
(by(try dsimp only at *);exact cat_le h2 h15 h25)⟩,
(x24+(1:Nat)),
(by(try dsimp only at *);omega),
(by(try dsimp only at *);omega),
⟨⟨rfl,rfl⟩,
⟨rfl,rfl⟩,rfl,
⟨rfl,rfl⟩,
⟨rfl,rfl⟩,rfl,
(by(try dsimp only at *);omega),
⟨rfl,rfl⟩,
⟨rfl,rfl⟩,
⟨rfl,rfl⟩,
⟨rfl,rfl⟩,
⟨rfl,rfl⟩,
⟨rfl,rfl⟩,
⟨rfl,rfl⟩,
⟨rfl,rfl⟩,
⟨rfl,rfl⟩,rfl,
⟨rfl,rfl⟩,rfl,rfl,rfl,rfl,rfl,rfl,rfl,rfl,
⟨rfl,trivial⟩,
⟨rfl,trivial⟩,rfl,
⟨rfl,rfl⟩,
⟨rfl,trivial⟩,
⟨rfl,rfl⟩,rfl,rfl,rfl,rfl,rfl,rfl,rfl,rfl,rfl,rfl,
⟨rfl,rfl⟩,rfl,rfl,trivial,
⟨rfl,rfl⟩,
⟨rfl,rfl⟩,
⟨rfl,trivial⟩,trivial⟩,
⟨⟨rfl,rfl⟩,
⟨rfl,rfl⟩,trivial,
⟨rfl,rfl⟩,trivial,rfl,rfl,trivial,rfl,rfl,trivial⟩,
⟨rl,rr⟩,
⟨rl,rr⟩,
(by(try dsimp only at *);exact ks_map h26),
⟨rl,rr⟩,
⟨rl,rr⟩,
⟨⟨rfl,rfl⟩,
⟨rfl,rfl⟩,trivial⟩,
⟨rl,rr⟩,
⟨rl,rr⟩,
⟨rfl,trivial⟩,
⟨rl,rr⟩,
⟨rl,rr⟩,
⟨rl,rr⟩,
⟨rl,rr⟩,trivial⟩,
fun g30=>have h30:=nF g30;⟨⟨(by(try dsimp only at *);omega),
(by(try dsimp only at *);exact cat_le h2 h15 h25)⟩,
(x24+(1:Nat)),
(by(try dsimp only at *);omega),
(by(try dsimp only at *);omega),
⟨⟨rfl,rfl⟩,
⟨rfl,rfl⟩,rfl,
⟨rfl,rfl⟩,
⟨rfl,rfl⟩,rfl,
(by(try dsimp only at *);omega),
⟨rfl,rfl⟩,
⟨rfl,rfl⟩,
⟨rfl,rfl⟩,
⟨rfl,rfl⟩,
⟨rfl,rfl⟩,
⟨rfl,rfl⟩,
⟨rfl,rfl⟩,
⟨rfl,rfl⟩,
⟨rfl,rfl⟩,rfl,
⟨rfl,rfl⟩,rfl,rfl,rfl,rfl,rfl,rfl,rfl,rfl,
⟨rfl,trivial⟩,
⟨rfl,trivial⟩,rfl,
⟨rfl,rfl⟩,
⟨rfl,trivial⟩,
⟨rfl,rfl⟩,rfl,rfl,rfl,rfl,rfl,rfl,rfl,rfl,rfl,rfl,
⟨rfl,rfl⟩,rfl,rfl,trivial,
⟨rfl,rfl⟩,
⟨rfl,rfl⟩,
⟨rfl,trivial⟩,trivial⟩,
⟨⟨rfl,rfl⟩,
⟨rfl,rfl⟩,trivial,
⟨rfl,rfl⟩,trivial,rfl,rfl,trivial,rfl,rfl,trivial⟩,
⟨rl,rr⟩,
⟨rl,rr⟩,
(by(try dsimp only at *);(rw[<- ks_in h26 h30];exact MapEq.rfl')),
⟨rl,rr⟩,
⟨rl,rr⟩,
⟨⟨rfl,rfl⟩,
⟨rfl,rfl⟩,trivial⟩,
⟨rl,rr⟩,
⟨rl,rr⟩,
⟨rfl,trivial⟩,
⟨rl,rr⟩,
⟨rl,rr⟩,
⟨rl,rr⟩,
⟨rl,rr⟩,trivial⟩⟩,
fun g32=>have h32:=dF g32;⟨({ h:=hsP x1 x24,fi0:=(0:Nat),m:=Int.toNat (PlX.max x1):ExX }),
⟨(by(try dsimp only at *);exact ex_ok0 h2 h15 h5 h7 h32),
(by(try dsimp only at *);omega)⟩,
⟨⟨rfl,rfl⟩,
(by(try dsimp only at *);omega),
(by(try dsimp only at *);omega),trivial⟩,
⟨⟨⟨rfl,
(by(try dsimp only at *);rfl)⟩,
⟨rfl,
(by(try dsimp only at *);rfl)⟩,trivial,
⟨rfl,
(by(try dsimp only at *);rfl)⟩,
⟨trivial,rfl,
(by(try dsimp only at *);rfl)⟩,
(by(try dsimp only at *);rfl),
(by(try dsimp only at *);rfl),
⟨trivial,rfl,
(by(try dsimp only at *);rfl)⟩,
(by(try dsimp only at *);rfl),
(by(try dsimp only at *);rfl),trivial⟩,
⟨⟨(by(try dsimp only at *);exact Nat.le_refl _)⟩,
(by(try dsimp only at *);exact rr)⟩,
(by(try dsimp only at *);rfl),
(by(try dsimp only at *);rfl),
⟨⟨(by(try dsimp only at *);exact Nat.le_refl _)⟩,
(by(try dsimp only at *);exact rr)⟩,
⟨⟨(by(try dsimp only at *);exact Nat.le_refl _)⟩,
(by(try dsimp only at *);exact rr)⟩,
(by(try dsimp only at *);exact MapEq.rfl'),trivial⟩,
⟨⟨rfl,
(by(try dsimp only at *);(rw[(res_ok (bad_n h4 h5 h7) (man_n h13 h15)).1];rfl))⟩,
(by(try dsimp only at *);(rw[(res_ok (bad_n h4 h5 h7) (man_n h13 h15)).1];rfl)),
(by(try dsimp only at *);(rw[(res_ok (bad_n h4 h5 h7) (man_n h13 h15)).2])),trivial⟩,
⟨⟨(by(try dsimp only at *);(rw[(res_ok (bad_n h4 h5 h7) (man_n h13 h15)).1];exact Nat.le_refl _))⟩,
(by(try dsimp only at *);(rw[(res_ok (bad_n h4 h5 h7) (man_n h13 h15)).1];exact rr))⟩,trivial⟩⟩⟩⟩⟩⟩,
fun g34=>have h34:=dT g34;⟨⟨⟨trivial,rfl,
(by(try dsimp only at *);(rw[(res_man (bad_n h4 h5 h7) (man_f h34)).1];rfl))⟩,
(by(try dsimp only at *);(rw[(res_man (bad_n h4 h5 h7) (man_f h34)).1])),
(by(try dsimp only at *);(rw[(res_man (bad_n h4 h5 h7) (man_f h34)).2])),trivial⟩,
(by(try dsimp only at *);(rw[(res_man (bad_n h4 h5 h7) (man_f h34)).1];rfl)),trivial⟩⟩⟩,
fun g35=>have h35:=dT g35;⟨⟨⟨trivial,rfl,
(by(try dsimp only at *);(rw[(res_bad (.inr (.inl h35))).1];rfl))⟩,
(by(try dsimp only at *);(rw[(res_bad (.inr (.inl h35))).1])),
(by(try dsimp only at *);(rw[(res_bad (.inr (.inl h35))).2])),trivial⟩,
(by(try dsimp only at *);(rw[(res_bad (.inr (.inl h35))).1];rfl)),trivial⟩⟩,
fun h36=>⟨⟨⟨trivial,rfl,
(by(try dsimp only at *);(rw[(res_bad (bad_d h36)).1];rfl))⟩,
(by(try dsimp only at *);(rw[(res_bad (bad_d h36)).1])),
(by(try dsimp only at *);(rw[(res_bad (bad_d h36)).2])),trivial⟩,
(by(try dsimp only at *);(rw[(res_bad (bad_d h36)).1];rfl)),trivial⟩⟩)
theorem pl_good:Good Tryd.prog 14 plC/\FnOk Tryd.prog 14:=good_of tok conPl (fn:=Tryd.f14) rfl (by decide+kernel) (fun _=>rfl) pl_keeps
end Go.Sym