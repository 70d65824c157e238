import Derived.Test.YtfflknhillcblaaDoorX7
import Derived.Test.YtfflknhillcblaaDoorWQ
namespace Go.Sym
set_option linter.unusedVariables false
set_option linter.unusedSimpArgs false
theorem elemsZ_nn {ws:List Nat}:∀ z∈elemsZ ws,0<=z:=fun z hz=>(elemsZ_mem.1 hz).1
theorem nodup_Z (ws:List Nat):(elemsZ ws).Nodup:=(elemsZ_sorted _).imp fun h=>by omega
def rW (g:Gr) (ws:List Nat):List Nat:=ofW (reachQ g (elemsZ ws)) (reachQ g (elemsZ ws)).length
theorem rW_mem {g:Gr} (hg:GOk g) {ws:List Nat} {z:Int}:z∈elemsZ (rW g ws)↔0<=z/\Rch g (· ∈elemsZ ws) z.toNat:=by
 unfold rW
 rw[ofW_mem,reach_iff hg (nodup_Z _) elemsZ_nn]
 constructor
 ·exact fun h=>h.1
 ·rintro⟨a,r⟩
  have:=r.lt hg
  have:=hg.n
  exact⟨⟨a,r⟩,a,by omega⟩
theorem rW_ok (g:Gr) (ws:List Nat):WOk (rW g ws):=ofW_ok _ _
theorem rW_ahead {g:Gr} (hg:GOk g) (fs:List Int):elemsZ (rW g (ofW fs fs.length))=aheadL g.n g.es fs:=by
 refine sortedE (elemsZ_sorted _) (outA_sorted _ _) fun z=>?_
 rw[rW_mem hg,ahead_iff hg]
 have hn:=hg.n
 have e:∀ v,Rch g (· ∈elemsZ (ofW fs fs.length)) v↔Rch g (· ∈fs) v:=fun v=>by
  constructor
  ·exact fun r=>r.mono fun v h=>(ofW_mem.1 h).1
  ·intro r
   exact r.least (C:=fun v=>Rch g (· ∈elemsZ (ofW fs fs.length)) v) (fun v hv h=>.src hv (ofW_mem.2 ⟨h,by omega,by omega⟩)) (fun i hi ho h=>.step hi ho h)
 rw[e]
end Go.Sym