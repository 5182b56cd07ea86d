/- What the harness' functions answer. -/
import Derived.Test.YtoclmlalcgjplaaDoorPlLst
namespace Go.Pv.R
set_option linter.unusedVariables false
set_option linter.unusedSimpArgs false
end Go.Pv.R
