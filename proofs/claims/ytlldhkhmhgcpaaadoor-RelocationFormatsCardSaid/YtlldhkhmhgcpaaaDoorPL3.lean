import Derived.Test.YtlldhkhmhgcpaaaDoorPL2
namespace Go.Sym
set_option linter.unusedVariables false
set_option linter.unusedSimpArgs false
def fndU (us:List Un) (id:Int):Int:=match us.findIdx? (fun u=>decide (u.id=id))with
 |some k=>(k:Int)
 |none=> -1
def dstU (us:List Un):Bool:=decide (us.map (·.id)).Nodup
def okM (us:List Un) (l:List Mv) (i:Nat):Prop:=
 0<=fndU us (l.getD i default).1/\(us.getD (fndU us (l.getD i default).1).toNat default).st=1/\(i=0∨(l.getD (i-1) default).1<(l.getD i default).1)/\
 (0<=(l.getD i default).2/\(l.getD i default).2<4096)/\(l.getD i default).2≠(us.getD (fndU us (l.getD i default).1).toNat default).nd
instance (us:List Un) (l:List Mv) (i:Nat):Decidable (okM us l i):=by unfold okM;infer_instance
end Go.Sym