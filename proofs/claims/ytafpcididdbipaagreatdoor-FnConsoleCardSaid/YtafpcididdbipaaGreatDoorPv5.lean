/- A verified evaluator of the program's form over pure values, part 5: what it tells of a function holds. -/
import Derived.Test.YtafpcididdbipaaGreatDoorPv4
set_option linter.unusedSimpArgs false
set_option linter.unusedVariables false
namespace Go.Pv
open List Int IntKind
theorem set_set {α:Type} (l:List α) (i:Nat) (a b:α):(l.set i a).set i b=l.set i b:=by simp
end Go.Pv
namespace Go.Pv
open List Int IntKind
end Go.Pv
