/- Part 24 of the proof: contracts of functions of the program and what they need. No condition beyond those that each theorem names. -/
import Derived.Test.YtodccgailpkgeaaGreatKindLeastP23
set_option maxHeartbeats 1000000
set_option linter.unusedVariables false
set_option linter.unusedSimpArgs false
set_option maxRecDepth 10000
namespace Go.Proofs.YtodccgailpkgeaaGreat
open Go.Eng
open Go.Eng.Fc
open Go.Eng.ei
def aiH(p:Prog)(i:Nat):Nat:=(gU p (p.methods.getD i default).gen).toNat
structure alM(p:Prog)(q:fa):Prop where
 P:∀i,i<p.methods.length->∃a il,q.vs.getD i default= .slice a (aiH p i) il
 N:∃a il,q.gk= .slice a p.nodes.length il
 S:∃a il,q.fP= .slice a p.aJ.toNat il
 R:∃a il,q.hD= .slice a p.methods.length il
section
variable{p:Prog}{A:List (List Bool)}{q:fa}{g:GT}{Hx:List aj}
end
section
variable{p:Prog}{A:List (List Bool)}{q:fa}{g:GT}{Hx:List aj}
end
structure alN(p:Prog)(A:List (List Bool)):Prop where
 len:A.length=p.methods.length
 rows:∀m,m<p.methods.length->(A.getD m default).length=p.methods.length
 val:∀m o,m<p.methods.length->o<p.methods.length->(dz p m).gen=(dz p o).gen->(dz p m).kind=(dz p o).kind->(A.getD m default).getD o default=bW p m o
end Go.Proofs.YtodccgailpkgeaaGreat

