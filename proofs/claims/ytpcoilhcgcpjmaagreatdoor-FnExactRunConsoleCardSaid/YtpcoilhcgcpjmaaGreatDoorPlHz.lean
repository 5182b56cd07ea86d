/- What the harness' functions answer. -/
import Derived.Test.YtpcoilhcgcpjmaaGreatDoorPlLst
set_option linter.unusedSimpArgs false
set_option linter.unusedVariables false
namespace Go.Pv.R
open List Int IntKind
end Go.Pv.R
