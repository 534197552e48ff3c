/- Rows, certificates, accumulations. -/
import Derived.Test.YtegamlopcdjiaaaDoorUAcc3
namespace Go.Proofs.YtegamlopcdjiaaaDoor.Sha
open Go Go.Abs Go.Abs.Sha Go.Abs.Srt
set_option linter.unusedSimpArgs false
set_option linter.unusedVariables false
set_option maxRecDepth 100000
attribute [local irreducible] W Wops WopsD WL Wop WopD
variable {E:Env} {C:Abs.Spec} {l:List (Nat×Spec1)} {G:List (Nat×V)} {Q:R→List (Nat×V)→Prop}
set_option maxHeartbeats 1000000
end Go.Proofs.YtegamlopcdjiaaaDoor.Sha
