/- Their loops over lists, without rounds. -/
import Derived.Test.YtclodbdakphhfaaPlRes
namespace Go.Pv.R
set_option linter.unusedVariables false
set_option linter.unusedSimpArgs false
end Go.Pv.R
