import Derived.Test.YtpnnecijeoipfaaGreatDoorWL
import Derived.Sort.AssemblyPlain
namespace Go.Sym
set_option linter.unusedVariables false
set_option linter.unusedSimpArgs false
open Go.Proofs
set_option maxRecDepth 100000
def fallS:ByteArray:={ data:= #[102,97,108,108]}
structure CR where
 call:Int
 inc:Int
 urg:Int
 code:ByteArray
 nodes:List Int
 closed:Bool
instance:Inhabited CR:=⟨⟨0,0,0,ByteArray.empty,[],false⟩⟩
structure Ic where
 id:Int
 urg:Int
 code:ByteArray
 nodes:List Int
 calls:List Int
 units:List Int
 merged:Int
 closed:Bool
instance:Inhabited Ic:=⟨⟨0,0,ByteArray.empty,[],[],[],0,false⟩⟩
def kC:List Kd:=[.int .i64,.int .i64,.int .i64,.str,.sl [.int .i64],.int .i64,.int .i64,.bool]
def kI:List Kd:=[.int .i64,.int .i64,.str,.sl [.int .i64],.int .i64,.int .i64,.sl [.int .i64],.sl [.int .i64],.int .i64,.bool]
def encCR (c:CR):Nat->D:=encN [.i c.call,.i c.inc,.i c.urg,.s c.code,.l c.nodes.length (encL encI c.nodes),.i 0,.i 0,.b c.closed]
def encIc (x:Ic):Nat->D:=encN [.i x.id,.i x.urg,.s x.code,.l x.nodes.length (encL encI x.nodes),.i 0,.i 0,.l x.calls.length (encL encI x.calls),.l x.units.length (encL encI x.units),.i x.merged,.b x.closed]
structure NOk (l:List Int):Prop where
 ne:l≠[]
 inc:l.Pairwise (· <·)
 rng:∀ n∈l,0<=n/\n<=4095
structure COk (c:CR):Prop where
 call:1<=c.call/\c.call<=1099511627776
 inc:0<=c.inc/\c.inc<=1099511627776
 urg:1<=c.urg/\c.urg<=5
 code:c.code=fallS
 nodes:NOk c.nodes
 len:c.nodes.length<=4096
structure IOk (x:Ic):Prop where
 id:1<=x.id/\x.id<=1099511627776
 urg:1<=x.urg/\x.urg<=5
 code:x.code=fallS
 nodes:NOk x.nodes
 len:x.nodes.length<=4096
 calls:x.calls.Pairwise (· <·)
 callr:∀ c∈x.calls,1<=c/\c<=1099511627776
 clen:x.calls.length<=12
 units:x.units.Pairwise (· <·)
 unitr:∀ u∈x.units,0<=u/\u<=255
 ulen:x.units.length<=12
def comN (a b:List Int):List Int:=elemsZ (bothW (ofW a a.length) (ofW b b.length))
def fstI (x:Ic) (c:CR):Ic:={ x with urg:=c.urg,code:=c.code,nodes:=c.nodes,calls:=[c.call]}
def furI (x:Ic) (c:CR):Ic:={ x with urg:=if c.urg<x.urg then c.urg else x.urg,code:=if c.urg<x.urg then c.code else x.code,nodes:=if 0<(comN x.nodes c.nodes).length then comN x.nodes c.nodes else x.nodes,calls:=x.calls++[c.call]}
def derI (x:Ic) (l:List CR):Ic:=l.tail.foldl furI (fstI x (l.getD 0 default))
def ltC (a b:CR):Bool:=decide (a.call<b.call)
def srtC (l:List CR):List CR:=(Sort.insertionSort ltC l.toArray 0 l.length).toList
def rebI (x:Ic) (l:List CR):Ic:=derI x (srtC l)
theorem good_say [Glob] {P:Program} {f:Nat} {ct ct':CT} (φ:ct'.X->ct.X) (h:Good P f ct) (hp:∀ x,ct'.pre x->ct.pre (φ x)) (ha:∀ x,ct'.args x=ct.args (φ x)) (h0:∀ x,ct'.g0 x=ct.g0 (φ x))
  (h1:∀ x,ct'.pre x->ct.g1 (φ x)=ct'.g1 x) (hr:∀ x,ct'.pre x->∀ ρ v,Den ρ (ct.res (φ x)) v->Den ρ (ct'.res x) v) (hs:∀ x,ctSt ct' x=true):Good P f ct':=by
 intro x hx
 obtain⟨_,h2⟩:=h (φ x) (hp x hx)
 refine⟨hs x,fun ρ w vals a b c=>?_⟩
 rw[ha]at b
 rw[h0]at c ⊢
 refine(h2 ρ w vals a b c).mono ?_
 rw[h1 x hx]
 rintro e w' ⟨v,ρ',e1,e2,e3⟩
 exact⟨v,ρ',e1,hr x hx ρ' v e2,e3⟩
def yesC (ct:CT):CT:={ ct with res:=fun _=>.bt true }
theorem good_yes [Glob] {P:Program} {f:Nat} {ct:CT} (h:Good P f ct/\FnOk P f) (hr:∀ x,ct.res x= .b true) (hs:∀ x,ctSt (yesC ct) x=true):Good P f (yesC ct)/\FnOk P f:=
 ⟨good_say (ct:=ct) (ct':=yesC ct) (fun x=>x) h.1 (fun _ h=>h) (fun _=>rfl) (fun _=>rfl) (fun _ _=>rfl) (fun x _ ρ v hd=>by
  rw[hr x]at hd
  simp only[Den]at hd
  show Den ρ (.bt true) v
  simp only[Den]
  exact hd) hs,h.2⟩
end Go.Sym