/- A verified evaluator of the program's form over pure values, part 5: what it tells of a function holds. -/
import Derived.Test.YtpcoilhcgcpjmaaGreatDoorPv4
set_option linter.unusedSimpArgs false
set_option linter.unusedVariables false
namespace Go.Pv
open List Int IntKind
abbrev b7:= @Bool.eq_iff_iff
abbrev aj:= @Int.toNat_natCast
abbrev fv:= @List.filter_cons
abbrev lW:= @List.getElem_drop
abbrev p8:= @List.length_eq_zero_iff
abbrev dI:= @List.mem_of_mem_drop
abbrev km:= @List.take_length
abbrev pn:= @Nat.add_sub_cancel
abbrev qF:= @Nat.ble_eq
abbrev yU:= @Nat.blt_eq
abbrev bw:= @beq_eq_false_iff_ne
abbrev gh:= @beq_self_eq_true
abbrev vm:= @not_true_eq_false
end Go.Pv
namespace Go.Pv
open List Int IntKind
theorem set_set {α:Type} (l:List α) (i:Nat) (a b:α):(l.set i a).set i b=l.set i b:=by simp
end Go.Pv
namespace Go.Pv
open List Int IntKind
end Go.Pv
