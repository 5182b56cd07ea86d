/- What the functions compute, as plain functions. -/
import Derived.Test.YtclodbdakphhfaaPv3
namespace Go.Pv.R
set_option linter.unusedVariables false
set_option linter.unusedSimpArgs false
abbrev tQIIIIE : Ty := (.pair (.int .i64) (.pair (.int .i64) (.pair (.int .i64) (.int .i64))))
abbrev tQILLIE : Ty := (.pair (.int .i64) (.sl (.sl (.int .i64))))
noncomputable def s_e : ByteArray := ⟨#[]⟩
noncomputable def s_join : ByteArray := ⟨#[106, 111, 105, 110]⟩
noncomputable def s_judge : ByteArray := ⟨#[106, 117, 100, 103, 101]⟩
noncomputable def s_pair : ByteArray := ⟨#[112, 97, 105, 114]⟩
noncomputable def s_ballot : ByteArray := ⟨#[98, 97, 108, 108, 111, 116]⟩
noncomputable def s_close : ByteArray := ⟨#[99, 108, 111, 115, 101]⟩
noncomputable def s_leave : ByteArray := ⟨#[108, 101, 97, 118, 101]⟩
noncomputable def spec_l1In (N : Nat) (a0 : Int) (a1 : Int) (a2 : Int) (kf : Bool → Option Ret) : Option Ret :=
  bif (decide (a0 ≥ a1)) then
    kf (decide (a0 ≤ a2))
  else
    kf false
noncomputable def spec_EventName (N : Nat) (a0 : Int) (kf : ByteArray → Option Ret) : Option Ret :=
  spec_l1In N a0 (1 : Int) (6 : Int) (fun (r4_1 : Bool) =>
    bif (!r4_1) then
      kf s_e
    else
      bif (inB a0 (List.length [s_e, s_join, s_judge, s_pair, s_ballot, s_close, s_leave])) then
        kf (List.getD [s_e, s_join, s_judge, s_pair, s_ballot, s_close, s_leave] (Int.toNat a0) ByteArray.empty)
      else none)
def impl_EventName_g (k : Int) : ByteArray := bif k == 1 then ⟨#[106, 111, 105, 110]⟩ else bif k == 2 then ⟨#[106, 117, 100, 103, 101]⟩ else bif k == 3 then ⟨#[112, 97, 105, 114]⟩ else bif k == 4 then ⟨#[98, 97, 108, 108, 111, 116]⟩ else bif k == 5 then ⟨#[99, 108, 111, 115, 101]⟩ else bif k == 6 then ⟨#[108, 101, 97, 118, 101]⟩ else ⟨#[]⟩
noncomputable def impl_EventName (N : Nat) (a0 : Int) (kf : ByteArray → Option Ret) : Option Ret :=
  kf (impl_EventName_g a0)
noncomputable def laws_FnExactEventName (N : Nat) (a0 : Int) (kf : Bool → Option Ret) : Option Ret :=
  spec_EventName N a0 (fun (r6_1 : ByteArray) =>
    impl_EventName N a0 (fun (r8_2 : ByteArray) =>
      bif (!(ByteArray.toList r8_2 == ByteArray.toList r6_1)) then
        kf false
      else
        kf true))
end Go.Pv.R
