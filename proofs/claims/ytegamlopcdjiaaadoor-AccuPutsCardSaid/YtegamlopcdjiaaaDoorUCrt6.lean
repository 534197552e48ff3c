/- Rows, certificates, accumulations. -/
import Derived.Test.YtegamlopcdjiaaaDoorG9
import Derived.Test.YtegamlopcdjiaaaDoorCrtB
namespace Go.Proofs.YtegamlopcdjiaaaDoor.Sha
open Go Go.Abs Go.Abs.Sha Go.Abs.Srt
set_option linter.unusedSimpArgs false
set_option linter.unusedVariables false
set_option maxRecDepth 100000
attribute [local irreducible] W Wops WopsD WL Wop WopD
variable {E:Env} {C:Abs.Spec} {l:List (Nat×Spec1)} {G:List (Nat×V)} {Q:R→List (Nat×V)→Prop}
set_option maxHeartbeats 1000000
theorem getD_at {l:List Int} {j:Nat} {p:Int} {r:List Int} (h:l.drop j=p::r):l.getD j 0=p:=by
 have:(l.drop j)[0]? =some p:=by rw[h];rfl
 rw[List.getElem?_drop,Nat.add_zero]at this
 rw[List.getD_eq_getElem?_getD,this];rfl
end Go.Proofs.YtegamlopcdjiaaaDoor.Sha
