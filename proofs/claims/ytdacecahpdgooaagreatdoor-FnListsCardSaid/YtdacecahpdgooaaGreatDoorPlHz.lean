/- What the harness' functions answer. -/
import Derived.Test.YtdacecahpdgooaaGreatDoorPlLst
namespace Go.Pv.R
set_option linter.unusedVariables false
set_option linter.unusedSimpArgs false
end Go.Pv.R
