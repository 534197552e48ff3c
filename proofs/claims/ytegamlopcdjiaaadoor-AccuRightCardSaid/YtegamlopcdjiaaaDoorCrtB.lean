/- Certificates: two quorums share one. -/
import Derived.Test.YtegamlopcdjiaaaDoorAccA
namespace Go.Abs.Sha
open Go Go.Abs Go.Abs.Srt
set_option linter.unusedVariables false
set_option linter.unusedSimpArgs false
end Go.Abs.Sha
