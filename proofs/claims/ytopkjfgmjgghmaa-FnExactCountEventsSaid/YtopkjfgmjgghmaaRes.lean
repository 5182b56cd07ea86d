/- What the functions compute, as plain functions. -/
import Derived.Test.YtopkjfgmjgghmaaPv2
namespace Go.Pv.R
set_option linter.unusedVariables false
set_option linter.unusedSimpArgs false
abbrev tQIIE : Ty := (.pair (.int .i64) (.int .i64))
abbrev QIIE : Type := (Int × Int)
def zQIIE : QIIE := ((0 : Int), (0 : Int))
abbrev tQIIIE : Ty := (.pair (.int .i64) (.pair (.int .i64) (.int .i64)))
abbrev QIIIE : Type := (Int × (Int × Int))
def zQIIIE : QIIIE := ((0 : Int), ((0 : Int), (0 : Int)))
abbrev tQIIIIE : Ty := (.pair (.int .i64) (.pair (.int .i64) (.pair (.int .i64) (.int .i64))))
abbrev QIIIIE : Type := (Int × (Int × (Int × Int)))
def zQIIIIE : QIIIIE := ((0 : Int), ((0 : Int), ((0 : Int), (0 : Int))))
abbrev tQILIE : Ty := (.pair (.int .i64) (.sl (.int .i64)))
abbrev QILIE : Type := (Int × (List Int))
def zQILIE : QILIE := ((0 : Int), [])
abbrev tQIILIE : Ty := (.pair (.int .i64) (.pair (.int .i64) (.sl (.int .i64))))
abbrev QIILIE : Type := (Int × (Int × (List Int)))
def zQIILIE : QIILIE := ((0 : Int), ((0 : Int), []))
abbrev tQIIILIE : Ty := (.pair (.int .i64) (.pair (.int .i64) (.pair (.int .i64) (.sl (.int .i64)))))
abbrev QIIILIE : Type := (Int × (Int × (Int × (List Int))))
def zQIIILIE : QIIILIE := ((0 : Int), ((0 : Int), ((0 : Int), [])))
abbrev tQIIIILIE : Ty := (.pair (.int .i64) (.pair (.int .i64) (.pair (.int .i64) (.pair (.int .i64) (.sl (.int .i64))))))
abbrev QIIIILIE : Type := (Int × (Int × (Int × (Int × (List Int)))))
def zQIIIILIE : QIIIILIE := ((0 : Int), ((0 : Int), ((0 : Int), ((0 : Int), []))))
abbrev tQIIIIILIE : Ty := (.pair (.int .i64) (.pair (.int .i64) (.pair (.int .i64) (.pair (.int .i64) (.pair (.int .i64) (.sl (.int .i64)))))))
abbrev QIIIIILIE : Type := (Int × (Int × (Int × (Int × (Int × (List Int))))))
def zQIIIIILIE : QIIIIILIE := ((0 : Int), ((0 : Int), ((0 : Int), ((0 : Int), ((0 : Int), [])))))
abbrev tQILLIE : Ty := (.pair (.int .i64) (.sl (.sl (.int .i64))))
abbrev QILLIE : Type := (Int × (List (List Int)))
def zQILLIE : QILLIE := ((0 : Int), [])
noncomputable def s_e : ByteArray := ⟨#[]⟩
noncomputable def s_join : ByteArray := ⟨#[106, 111, 105, 110]⟩
noncomputable def s_judge : ByteArray := ⟨#[106, 117, 100, 103, 101]⟩
noncomputable def s_pair : ByteArray := ⟨#[112, 97, 105, 114]⟩
noncomputable def s_ballot : ByteArray := ⟨#[98, 97, 108, 108, 111, 116]⟩
noncomputable def s_close : ByteArray := ⟨#[99, 108, 111, 115, 101]⟩
noncomputable def s_leave : ByteArray := ⟨#[108, 101, 97, 118, 101]⟩
/-! loop.example/g03009/spec.l1In (54) -/
noncomputable def spec_l1In (N : Nat) (a0 : Int) (a1 : Int) (a2 : Int) (kf : Bool → Option Ret) : Option Ret :=
  bif (decide (a0 ≥ a1)) then
    kf (decide (a0 ≤ a2))
  else
    kf false
/-! loop.example/g03009/spec.EventName (14) -/
noncomputable def spec_EventName (N : Nat) (a0 : Int) (kf : ByteArray → Option Ret) : Option Ret :=
  spec_l1In N a0 (1 : Int) (6 : Int) (fun (r4_1 : Bool) =>
    bif (!r4_1) then
      kf s_e
    else
      bif (inB a0 (List.length [s_e, s_join, s_judge, s_pair, s_ballot, s_close, s_leave])) then
        kf (List.getD [s_e, s_join, s_judge, s_pair, s_ballot, s_close, s_leave] (Int.toNat a0) ByteArray.empty)
      else none)
/-! loop.example/g03009/laws.szEventS (16) -/
noncomputable def laws_szEventS (N : Nat) (a0 : (List QIIIIE)) (a1 : Int) (kf : Int → Option Ret) : Option Ret :=
  bif (decide ((IntKind.wrap .i64 (a1 - (List.length a0 : Int))) < (0 : Int))) then
    kf (-1 : Int)
  else
    kf (IntKind.wrap .i64 (a1 - (List.length a0 : Int)))
/-! loop.example/g03009/laws.toEvent (55) -/
noncomputable def laws_toEvent (N : Nat) (a0 : QIIIIE) (kf : QIIIIE → Option Ret) : Option Ret :=
  kf (a0.1, (a0.2.1, (a0.2.2.1, a0.2.2.2)))
/-! loop.example/g03009/laws.toEventS (18) -/
noncomputable def laws_toEventS_l3 (N : Nat) (x0_1 : (List QIIIIE)) : Nat → ((List QIIIIE) → Option Ret) → (List QIIIIE) → Int → Option Ret
  | 0, _, _, _ => none
  | n_4 + 1, k3_0_6, x3_2, x4_3 =>
    bif (decide (x4_3 < (List.length x0_1 : Int))) then
      bif (inB x4_3 (List.length x0_1)) then
        laws_toEvent N (List.getD x0_1 (Int.toNat x4_3) zQIIIIE) (fun (r20_5 : QIIIIE) =>
          bif (inB x4_3 (List.length x3_2)) then
            (laws_toEventS_l3 N x0_1 n_4 k3_0_6) (List.set x3_2 (Int.toNat x4_3) r20_5) (IntKind.wrap .i64 (x4_3 + (1 : Int)))
          else none)
      else none
    else
      k3_0_6 x3_2
noncomputable def laws_toEventS (N : Nat) (a0 : (List QIIIIE)) (kf : (List QIIIIE) → Option Ret) : Option Ret :=
  bif (decide ((List.length a0 : Int) = (List.length a0 : Int)) && decide ((0 : Int) ≤ (List.length a0 : Int)) && decide ((List.length a0 : Int) ≤ 1099511627776)) then
    laws_toEventS_l3 N a0 N kf (List.replicate (Int.toNat (List.length a0 : Int)) ((0 : Int), ((0 : Int), ((0 : Int), (0 : Int))))) (0 : Int)
  else none
/-! loop.example/g03009/spec.CountEvents (17) -/
noncomputable def spec_CountEvents_l3 (x0_1 : (List QIIIIE)) (x1_2 : Int) : Nat → (Int → Option Ret) → Int → Int → Option Ret
  | 0, _, _, _ => none
  | n_5 + 1, k3_0_7, x5_3, x6_4 =>
    bif (decide (x6_4 < (List.length x0_1 : Int))) then
      bif (inB x6_4 (List.length x0_1)) then
        bif ((List.getD x0_1 (Int.toNat x6_4) zQIIIIE).1 == x1_2) then
          (spec_CountEvents_l3 x0_1 x1_2 n_5 k3_0_7) (IntKind.wrap .i64 (x5_3 + (1 : Int))) (IntKind.wrap .i64 (x6_4 + (1 : Int)))
        else
          (spec_CountEvents_l3 x0_1 x1_2 n_5 k3_0_7) x5_3 (IntKind.wrap .i64 (x6_4 + (1 : Int)))
      else none
    else
      k3_0_7 x5_3
noncomputable def spec_CountEvents (N : Nat) (a0 : (List QIIIIE)) (a1 : Int) (kf : Int → Option Ret) : Option Ret :=
  spec_CountEvents_l3 a0 a1 N kf (0 : Int) (0 : Int)
/-! loop.example/g03009/impl.CountEvents (19) -/
noncomputable def impl_CountEvents_l3 (x1_1 : Int) (x8_3 : (List QIIIIE)) (x9_4 : Int) : Nat → (Int → Option Ret) → Int → Int → Option Ret
  | 0, _, _, _ => none
  | n_6 + 1, k3_0_8, x5_2, x10_5 =>
    bif (decide (x10_5 < x9_4)) then
      bif (inB x10_5 (List.length x8_3)) then
        bif ((List.getD x8_3 (Int.toNat x10_5) zQIIIIE).1 == x1_1) then
          (impl_CountEvents_l3 x1_1 x8_3 x9_4 n_6 k3_0_8) (IntKind.wrap .i64 (x5_2 + (1 : Int))) (IntKind.wrap .i64 (x10_5 + (1 : Int)))
        else
          (impl_CountEvents_l3 x1_1 x8_3 x9_4 n_6 k3_0_8) x5_2 (IntKind.wrap .i64 (x10_5 + (1 : Int)))
      else none
    else
      k3_0_8 x5_2
noncomputable def impl_CountEvents (N : Nat) (a0 : (List QIIIIE)) (a1 : Int) (kf : Int → Option Ret) : Option Ret :=
  impl_CountEvents_l3 a1 a0 (List.length a0 : Int) N kf (0 : Int) (0 : Int)
/-! loop.example/g03009/laws.eqEvent (56) -/
noncomputable def laws_eqEvent (N : Nat) (a0 : QIIIIE) (a1 : QIIIIE) (kf : Bool → Option Ret) : Option Ret :=
  bif (a0.1 != a1.1) then
    kf false
  else
    bif (a0.2.1 != a1.2.1) then
      kf false
    else
      bif (a0.2.2.1 != a1.2.2.1) then
        kf false
      else
        bif (a0.2.2.2 != a1.2.2.2) then
          kf false
        else
          kf true
/-! loop.example/g03009/laws.eqEventS (20) -/
noncomputable def laws_eqEventS_l4 (N : Nat) (x0_1 : (List QIIIIE)) (x1_2 : (List QIIIIE)) : Nat → (Option Ret) → (Bool → Option Ret) → Int → Option Ret
  | 0, _, _, _ => none
  | n_4 + 1, k4_0_6, k4_1_7, x5_3 =>
    bif (decide (x5_3 < (List.length x0_1 : Int))) then
      bif (inB x5_3 (List.length x0_1)) then
        bif (inB x5_3 (List.length x1_2)) then
          laws_eqEvent N (List.getD x0_1 (Int.toNat x5_3) zQIIIIE) (List.getD x1_2 (Int.toNat x5_3) zQIIIIE) (fun (r25_5 : Bool) =>
            bif (!r25_5) then
              k4_1_7 false
            else
              (laws_eqEventS_l4 N x0_1 x1_2 n_4 k4_0_6 k4_1_7) (IntKind.wrap .i64 (x5_3 + (1 : Int))))
        else none
      else none
    else
      k4_0_6
noncomputable def laws_eqEventS (N : Nat) (a0 : (List QIIIIE)) (a1 : (List QIIIIE)) (kf : Bool → Option Ret) : Option Ret :=
  bif ((List.length a0 : Int) != (List.length a1 : Int)) then
    kf false
  else
    laws_eqEventS_l4 N a0 a1 N (kf true) kf (0 : Int)
/-! loop.example/g03009/laws.FnExactCountEvents (4) -/
noncomputable def laws_FnExactCountEvents (N : Nat) (a0 : (List QIIIIE)) (a1 : Int) (kf : Bool → Option Ret) : Option Ret :=
  laws_szEventS N a0 (1048576 : Int) (fun (r11_1 : Int) =>
    bif (decide (r11_1 < (0 : Int))) then
      kf true
    else
      laws_toEventS N a0 (fun (r15_2 : (List QIIIIE)) =>
        spec_CountEvents N r15_2 a1 (fun (r17_3 : Int) =>
          laws_toEventS N a0 (fun (r19_4 : (List QIIIIE)) =>
            impl_CountEvents N r19_4 a1 (fun (r22_5 : Int) =>
              bif (r22_5 != r17_3) then
                kf false
              else
                laws_toEventS N a0 (fun (r28_6 : (List QIIIIE)) =>
                  laws_eqEventS N r19_4 r28_6 (fun (r29_7 : Bool) =>
                    bif (!r29_7) then
                      kf false
                    else
                      kf true)))))))
/-! loop.example/g03009/laws.szLineS (21) -/
noncomputable def laws_szLineS (N : Nat) (a0 : (List QIIIIE)) (a1 : Int) (kf : Int → Option Ret) : Option Ret :=
  bif (decide ((IntKind.wrap .i64 (a1 - (List.length a0 : Int))) < (0 : Int))) then
    kf (-1 : Int)
  else
    kf (IntKind.wrap .i64 (a1 - (List.length a0 : Int)))
/-! loop.example/g03009/laws.toLine (57) -/
noncomputable def laws_toLine (N : Nat) (a0 : QIIIIE) (kf : QIIIIE → Option Ret) : Option Ret :=
  kf (a0.1, (a0.2.1, (a0.2.2.1, a0.2.2.2)))
/-! loop.example/g03009/laws.toLineS (23) -/
noncomputable def laws_toLineS_l3 (N : Nat) (x0_1 : (List QIIIIE)) : Nat → ((List QIIIIE) → Option Ret) → (List QIIIIE) → Int → Option Ret
  | 0, _, _, _ => none
  | n_4 + 1, k3_0_6, x3_2, x4_3 =>
    bif (decide (x4_3 < (List.length x0_1 : Int))) then
      bif (inB x4_3 (List.length x0_1)) then
        laws_toLine N (List.getD x0_1 (Int.toNat x4_3) zQIIIIE) (fun (r20_5 : QIIIIE) =>
          bif (inB x4_3 (List.length x3_2)) then
            (laws_toLineS_l3 N x0_1 n_4 k3_0_6) (List.set x3_2 (Int.toNat x4_3) r20_5) (IntKind.wrap .i64 (x4_3 + (1 : Int)))
          else none)
      else none
    else
      k3_0_6 x3_2
noncomputable def laws_toLineS (N : Nat) (a0 : (List QIIIIE)) (kf : (List QIIIIE) → Option Ret) : Option Ret :=
  bif (decide ((List.length a0 : Int) = (List.length a0 : Int)) && decide ((0 : Int) ≤ (List.length a0 : Int)) && decide ((List.length a0 : Int) ≤ 1099511627776)) then
    laws_toLineS_l3 N a0 N kf (List.replicate (Int.toNat (List.length a0 : Int)) ((0 : Int), ((0 : Int), ((0 : Int), (0 : Int))))) (0 : Int)
  else none
/-! loop.example/g03009/spec.CountWhat (22) -/
noncomputable def spec_CountWhat_l3 (x0_1 : (List QIIIIE)) (x1_2 : Int) : Nat → (Int → Option Ret) → Int → Int → Option Ret
  | 0, _, _, _ => none
  | n_5 + 1, k3_0_7, x5_3, x6_4 =>
    bif (decide (x6_4 < (List.length x0_1 : Int))) then
      bif (inB x6_4 (List.length x0_1)) then
        bif ((List.getD x0_1 (Int.toNat x6_4) zQIIIIE).2.1 == x1_2) then
          (spec_CountWhat_l3 x0_1 x1_2 n_5 k3_0_7) (IntKind.wrap .i64 (x5_3 + (1 : Int))) (IntKind.wrap .i64 (x6_4 + (1 : Int)))
        else
          (spec_CountWhat_l3 x0_1 x1_2 n_5 k3_0_7) x5_3 (IntKind.wrap .i64 (x6_4 + (1 : Int)))
      else none
    else
      k3_0_7 x5_3
noncomputable def spec_CountWhat (N : Nat) (a0 : (List QIIIIE)) (a1 : Int) (kf : Int → Option Ret) : Option Ret :=
  spec_CountWhat_l3 a0 a1 N kf (0 : Int) (0 : Int)
/-! loop.example/g03009/impl.CountWhat (24) -/
noncomputable def impl_CountWhat_l3 (x1_1 : Int) (x8_3 : (List QIIIIE)) (x9_4 : Int) : Nat → (Int → Option Ret) → Int → Int → Option Ret
  | 0, _, _, _ => none
  | n_6 + 1, k3_0_8, x5_2, x10_5 =>
    bif (decide (x10_5 < x9_4)) then
      bif (inB x10_5 (List.length x8_3)) then
        bif ((List.getD x8_3 (Int.toNat x10_5) zQIIIIE).2.1 == x1_1) then
          (impl_CountWhat_l3 x1_1 x8_3 x9_4 n_6 k3_0_8) (IntKind.wrap .i64 (x5_2 + (1 : Int))) (IntKind.wrap .i64 (x10_5 + (1 : Int)))
        else
          (impl_CountWhat_l3 x1_1 x8_3 x9_4 n_6 k3_0_8) x5_2 (IntKind.wrap .i64 (x10_5 + (1 : Int)))
      else none
    else
      k3_0_8 x5_2
noncomputable def impl_CountWhat (N : Nat) (a0 : (List QIIIIE)) (a1 : Int) (kf : Int → Option Ret) : Option Ret :=
  impl_CountWhat_l3 a1 a0 (List.length a0 : Int) N kf (0 : Int) (0 : Int)
/-! loop.example/g03009/laws.eqLine (58) -/
noncomputable def laws_eqLine (N : Nat) (a0 : QIIIIE) (a1 : QIIIIE) (kf : Bool → Option Ret) : Option Ret :=
  bif (a0.1 != a1.1) then
    kf false
  else
    bif (a0.2.1 != a1.2.1) then
      kf false
    else
      bif (a0.2.2.1 != a1.2.2.1) then
        kf false
      else
        bif (a0.2.2.2 != a1.2.2.2) then
          kf false
        else
          kf true
/-! loop.example/g03009/laws.eqLineS (25) -/
noncomputable def laws_eqLineS_l4 (N : Nat) (x0_1 : (List QIIIIE)) (x1_2 : (List QIIIIE)) : Nat → (Option Ret) → (Bool → Option Ret) → Int → Option Ret
  | 0, _, _, _ => none
  | n_4 + 1, k4_0_6, k4_1_7, x5_3 =>
    bif (decide (x5_3 < (List.length x0_1 : Int))) then
      bif (inB x5_3 (List.length x0_1)) then
        bif (inB x5_3 (List.length x1_2)) then
          laws_eqLine N (List.getD x0_1 (Int.toNat x5_3) zQIIIIE) (List.getD x1_2 (Int.toNat x5_3) zQIIIIE) (fun (r25_5 : Bool) =>
            bif (!r25_5) then
              k4_1_7 false
            else
              (laws_eqLineS_l4 N x0_1 x1_2 n_4 k4_0_6 k4_1_7) (IntKind.wrap .i64 (x5_3 + (1 : Int))))
        else none
      else none
    else
      k4_0_6
noncomputable def laws_eqLineS (N : Nat) (a0 : (List QIIIIE)) (a1 : (List QIIIIE)) (kf : Bool → Option Ret) : Option Ret :=
  bif ((List.length a0 : Int) != (List.length a1 : Int)) then
    kf false
  else
    laws_eqLineS_l4 N a0 a1 N (kf true) kf (0 : Int)
/-! loop.example/g03009/laws.FnExactCountWhat (5) -/
noncomputable def laws_FnExactCountWhat (N : Nat) (a0 : (List QIIIIE)) (a1 : Int) (kf : Bool → Option Ret) : Option Ret :=
  laws_szLineS N a0 (1048576 : Int) (fun (r11_1 : Int) =>
    bif (decide (r11_1 < (0 : Int))) then
      kf true
    else
      laws_toLineS N a0 (fun (r15_2 : (List QIIIIE)) =>
        spec_CountWhat N r15_2 a1 (fun (r17_3 : Int) =>
          laws_toLineS N a0 (fun (r19_4 : (List QIIIIE)) =>
            impl_CountWhat N r19_4 a1 (fun (r22_5 : Int) =>
              bif (r22_5 != r17_3) then
                kf false
              else
                laws_toLineS N a0 (fun (r28_6 : (List QIIIIE)) =>
                  laws_eqLineS N r19_4 r28_6 (fun (r29_7 : Bool) =>
                    bif (!r29_7) then
                      kf false
                    else
                      kf true)))))))
/-! loop.example/g03009/laws.szIntS (59) -/
noncomputable def laws_szIntS (N : Nat) (a0 : (List Int)) (a1 : Int) (kf : Int → Option Ret) : Option Ret :=
  bif (decide ((IntKind.wrap .i64 (a1 - (List.length a0 : Int))) < (0 : Int))) then
    kf (-1 : Int)
  else
    kf (IntKind.wrap .i64 (a1 - (List.length a0 : Int)))
/-! loop.example/g03009/laws.szTeam (26) -/
noncomputable def laws_szTeam (N : Nat) (a0 : QIIIIILIE) (a1 : Int) (kf : Int → Option Ret) : Option Ret :=
  laws_szIntS N a0.2.2.2.2.2 a1 (fun (r8_1 : Int) =>
    bif (decide (r8_1 < (0 : Int))) then
      kf (-1 : Int)
    else
      kf r8_1)
/-! loop.example/g03009/laws.toIntS (60) -/
noncomputable def laws_toIntS_l3 (x0_1 : (List Int)) : Nat → ((List Int) → Option Ret) → (List Int) → Int → Option Ret
  | 0, _, _, _ => none
  | n_4 + 1, k3_0_5, x3_2, x4_3 =>
    bif (decide (x4_3 < (List.length x0_1 : Int))) then
      bif (inB x4_3 (List.length x0_1)) then
        bif (inB x4_3 (List.length x3_2)) then
          (laws_toIntS_l3 x0_1 n_4 k3_0_5) (List.set x3_2 (Int.toNat x4_3) (List.getD x0_1 (Int.toNat x4_3) (0 : Int))) (IntKind.wrap .i64 (x4_3 + (1 : Int)))
        else none
      else none
    else
      k3_0_5 x3_2
noncomputable def laws_toIntS (N : Nat) (a0 : (List Int)) (kf : (List Int) → Option Ret) : Option Ret :=
  bif (decide ((List.length a0 : Int) = (List.length a0 : Int)) && decide ((0 : Int) ≤ (List.length a0 : Int)) && decide ((List.length a0 : Int) ≤ 1099511627776)) then
    laws_toIntS_l3 a0 N kf (List.replicate (Int.toNat (List.length a0 : Int)) (0 : Int)) (0 : Int)
  else none
/-! loop.example/g03009/laws.toTeam (28) -/
noncomputable def laws_toTeam (N : Nat) (a0 : QIIIIILIE) (kf : QIIIIILIE → Option Ret) : Option Ret :=
  laws_toIntS N a0.2.2.2.2.2 (fun (r21_1 : (List Int)) =>
    kf (a0.1, (a0.2.1, (a0.2.2.1, (a0.2.2.2.1, (a0.2.2.2.2.1, r21_1))))))
/-! loop.example/g03009/spec.AveragePoints (27) -/
noncomputable def spec_AveragePoints (N : Nat) (a0 : QIIIIILIE) (kf : Int → Option Ret) : Option Ret :=
  bif ((List.length a0.2.2.2.2.2 : Int) == (0 : Int)) then
    kf (0 : Int)
  else
    bif (decide (a0.2.2.2.1 < (0 : Int))) then
      kf (0 : Int)
    else
      bif (!decide ((List.length a0.2.2.2.2.2 : Int) = 0)) then
        kf (IntKind.wrap .i64 (Int.tdiv a0.2.2.2.1 (List.length a0.2.2.2.2.2 : Int)))
      else none
/-! loop.example/g03009/impl.AveragePoints (29) -/
noncomputable def impl_AveragePoints (N : Nat) (a0 : QIIIIILIE) (kf : Int → Option Ret) : Option Ret :=
  bif ((List.length a0.2.2.2.2.2 : Int) == (0 : Int)) then
    kf (0 : Int)
  else
    bif (decide (a0.2.2.2.1 < (0 : Int))) then
      kf (0 : Int)
    else
      bif (!decide ((List.length a0.2.2.2.2.2 : Int) = 0)) then
        kf (IntKind.wrap .i64 (Int.tdiv a0.2.2.2.1 (List.length a0.2.2.2.2.2 : Int)))
      else none
/-! loop.example/g03009/laws.eqIntS (61) -/
noncomputable def laws_eqIntS_l4 (x0_1 : (List Int)) (x1_2 : (List Int)) : Nat → (Option Ret) → (Bool → Option Ret) → Int → Option Ret
  | 0, _, _, _ => none
  | n_4 + 1, k4_0_5, k4_1_6, x5_3 =>
    bif (decide (x5_3 < (List.length x0_1 : Int))) then
      bif (inB x5_3 (List.length x0_1)) then
        bif (inB x5_3 (List.length x1_2)) then
          bif ((List.getD x0_1 (Int.toNat x5_3) (0 : Int)) != (List.getD x1_2 (Int.toNat x5_3) (0 : Int))) then
            k4_1_6 false
          else
            (laws_eqIntS_l4 x0_1 x1_2 n_4 k4_0_5 k4_1_6) (IntKind.wrap .i64 (x5_3 + (1 : Int)))
        else none
      else none
    else
      k4_0_5
noncomputable def laws_eqIntS (N : Nat) (a0 : (List Int)) (a1 : (List Int)) (kf : Bool → Option Ret) : Option Ret :=
  bif ((List.length a0 : Int) != (List.length a1 : Int)) then
    kf false
  else
    laws_eqIntS_l4 a0 a1 N (kf true) kf (0 : Int)
/-! loop.example/g03009/laws.eqTeam (30) -/
noncomputable def laws_eqTeam (N : Nat) (a0 : QIIIIILIE) (a1 : QIIIIILIE) (kf : Bool → Option Ret) : Option Ret :=
  bif (a0.1 != a1.1) then
    kf false
  else
    bif (a0.2.1 != a1.2.1) then
      kf false
    else
      bif (a0.2.2.1 != a1.2.2.1) then
        kf false
      else
        bif (a0.2.2.2.1 != a1.2.2.2.1) then
          kf false
        else
          bif (a0.2.2.2.2.1 != a1.2.2.2.2.1) then
            kf false
          else
            laws_eqIntS N a0.2.2.2.2.2 a1.2.2.2.2.2 (fun (r34_1 : Bool) =>
              bif (!r34_1) then
                kf false
              else
                kf true)
/-! loop.example/g03009/laws.FnExactAveragePoints (6) -/
noncomputable def laws_FnExactAveragePoints (N : Nat) (a0 : QIIIIILIE) (kf : Bool → Option Ret) : Option Ret :=
  laws_szTeam N a0 (1048576 : Int) (fun (r9_1 : Int) =>
    bif (decide (r9_1 < (0 : Int))) then
      kf true
    else
      laws_toTeam N a0 (fun (r13_2 : QIIIIILIE) =>
        spec_AveragePoints N r13_2 (fun (r14_3 : Int) =>
          laws_toTeam N a0 (fun (r16_4 : QIIIIILIE) =>
            impl_AveragePoints N r16_4 (fun (r18_5 : Int) =>
              bif (r18_5 != r14_3) then
                kf false
              else
                laws_toTeam N a0 (fun (r24_6 : QIIIIILIE) =>
                  laws_eqTeam N r16_4 r24_6 (fun (r25_7 : Bool) =>
                    bif (!r25_7) then
                      kf false
                    else
                      kf true)))))))
/-! loop.example/g03009/spec.SideShare (31) -/
noncomputable def spec_SideShare (N : Nat) (a0 : QIIIIILIE) (kf : Int → Option Ret) : Option Ret :=
  bif ((List.length a0.2.2.2.2.2 : Int) == (0 : Int)) then
    kf (0 : Int)
  else
    spec_l1In N a0.2.2.2.2.1 (0 : Int) (List.length a0.2.2.2.2.2 : Int) (fun (r13_1 : Bool) =>
      bif (!r13_1) then
        kf (0 : Int)
      else
        bif (!decide ((List.length a0.2.2.2.2.2 : Int) = 0)) then
          kf (IntKind.wrap .i64 (Int.tdiv (IntKind.wrap .i64 ((100 : Int) * a0.2.2.2.2.1)) (List.length a0.2.2.2.2.2 : Int)))
        else none)
/-! loop.example/g03009/impl.InRange (62) -/
noncomputable def impl_InRange (N : Nat) (a0 : Int) (a1 : Int) (a2 : Int) (kf : Bool → Option Ret) : Option Ret :=
  bif (decide (a1 ≤ a0)) then
    kf (decide (a0 ≤ a2))
  else
    kf false
/-! loop.example/g03009/impl.SideShare (32) -/
noncomputable def impl_SideShare (N : Nat) (a0 : QIIIIILIE) (kf : Int → Option Ret) : Option Ret :=
  bif ((List.length a0.2.2.2.2.2 : Int) == (0 : Int)) then
    kf (0 : Int)
  else
    impl_InRange N a0.2.2.2.2.1 (0 : Int) (List.length a0.2.2.2.2.2 : Int) (fun (r13_1 : Bool) =>
      bif (!r13_1) then
        kf (0 : Int)
      else
        bif (!decide ((List.length a0.2.2.2.2.2 : Int) = 0)) then
          kf (IntKind.wrap .i64 (Int.tdiv (IntKind.wrap .i64 ((100 : Int) * a0.2.2.2.2.1)) (List.length a0.2.2.2.2.2 : Int)))
        else none)
/-! loop.example/g03009/laws.FnExactSideShare (7) -/
noncomputable def laws_FnExactSideShare (N : Nat) (a0 : QIIIIILIE) (kf : Bool → Option Ret) : Option Ret :=
  laws_szTeam N a0 (1048576 : Int) (fun (r9_1 : Int) =>
    bif (decide (r9_1 < (0 : Int))) then
      kf true
    else
      laws_toTeam N a0 (fun (r13_2 : QIIIIILIE) =>
        spec_SideShare N r13_2 (fun (r14_3 : Int) =>
          laws_toTeam N a0 (fun (r16_4 : QIIIIILIE) =>
            impl_SideShare N r16_4 (fun (r18_5 : Int) =>
              bif (r18_5 != r14_3) then
                kf false
              else
                laws_toTeam N a0 (fun (r24_6 : QIIIIILIE) =>
                  laws_eqTeam N r16_4 r24_6 (fun (r25_7 : Bool) =>
                    bif (!r25_7) then
                      kf false
                    else
                      kf true)))))))
/-! loop.example/g03009/spec.ExampleGraph (33) -/
noncomputable def spec_ExampleGraph (N : Nat)  (kf : QILLIE → Option Ret) : Option Ret :=
  kf ((5 : Int), [[(0 : Int), (1 : Int)], [(1 : Int), (0 : Int)], [(1 : Int), (2 : Int)], [(2 : Int), (3 : Int)], [(3 : Int), (4 : Int)], [(4 : Int), (2 : Int)]])
/-! loop.example/g03009/impl.ExampleGraph (34) -/
noncomputable def impl_ExampleGraph (N : Nat)  (kf : QILLIE → Option Ret) : Option Ret :=
  kf ((5 : Int), [[(0 : Int), (1 : Int)], [(1 : Int), (0 : Int)], [(1 : Int), (2 : Int)], [(2 : Int), (3 : Int)], [(3 : Int), (4 : Int)], [(4 : Int), (2 : Int)]])
/-! loop.example/g03009/laws.eqIntSS (63) -/
noncomputable def laws_eqIntSS_l4 (N : Nat) (x0_1 : (List (List Int))) (x1_2 : (List (List Int))) : Nat → (Option Ret) → (Bool → Option Ret) → Int → Option Ret
  | 0, _, _, _ => none
  | n_4 + 1, k4_0_6, k4_1_7, x5_3 =>
    bif (decide (x5_3 < (List.length x0_1 : Int))) then
      bif (inB x5_3 (List.length x0_1)) then
        bif (inB x5_3 (List.length x1_2)) then
          laws_eqIntS N (List.getD x0_1 (Int.toNat x5_3) []) (List.getD x1_2 (Int.toNat x5_3) []) (fun (r25_5 : Bool) =>
            bif (!r25_5) then
              k4_1_7 false
            else
              (laws_eqIntSS_l4 N x0_1 x1_2 n_4 k4_0_6 k4_1_7) (IntKind.wrap .i64 (x5_3 + (1 : Int))))
        else none
      else none
    else
      k4_0_6
noncomputable def laws_eqIntSS (N : Nat) (a0 : (List (List Int))) (a1 : (List (List Int))) (kf : Bool → Option Ret) : Option Ret :=
  bif ((List.length a0 : Int) != (List.length a1 : Int)) then
    kf false
  else
    laws_eqIntSS_l4 N a0 a1 N (kf true) kf (0 : Int)
/-! loop.example/g03009/laws.eqGraph (35) -/
noncomputable def laws_eqGraph (N : Nat) (a0 : QILLIE) (a1 : QILLIE) (kf : Bool → Option Ret) : Option Ret :=
  bif (a0.1 != a1.1) then
    kf false
  else
    laws_eqIntSS N a0.2 a1.2 (fun (r14_1 : Bool) =>
      bif (!r14_1) then
        kf false
      else
        kf true)
/-! loop.example/g03009/laws.szJudge (66) -/
noncomputable def laws_szJudge (N : Nat) (a0 : QIILIE) (a1 : Int) (kf : Int → Option Ret) : Option Ret :=
  laws_szIntS N a0.2.2 a1 (fun (r8_1 : Int) =>
    bif (decide (r8_1 < (0 : Int))) then
      kf (-1 : Int)
    else
      kf r8_1)
/-! loop.example/g03009/laws.szJudgeS (38) -/
noncomputable def laws_szJudgeS_l5 (N : Nat) (x0_1 : (List QIILIE)) : Nat → (Int → Option Ret) → (Int → Option Ret) → Int → Int → Option Ret
  | 0, _, _, _, _ => none
  | n_4 + 1, k5_0_6, k5_1_7, x1_2, x5_3 =>
    bif (decide (x5_3 < (List.length x0_1 : Int))) then
      bif (inB x5_3 (List.length x0_1)) then
        laws_szJudge N (List.getD x0_1 (Int.toNat x5_3) zQIILIE) x1_2 (fun (r23_5 : Int) =>
          bif (decide (r23_5 < (0 : Int))) then
            k5_1_7 (-1 : Int)
          else
            (laws_szJudgeS_l5 N x0_1 n_4 k5_0_6 k5_1_7) r23_5 (IntKind.wrap .i64 (x5_3 + (1 : Int))))
      else none
    else
      k5_0_6 x1_2
noncomputable def laws_szJudgeS (N : Nat) (a0 : (List QIILIE)) (a1 : Int) (kf : Int → Option Ret) : Option Ret :=
  bif (decide ((IntKind.wrap .i64 (a1 - (List.length a0 : Int))) < (0 : Int))) then
    kf (-1 : Int)
  else
    laws_szJudgeS_l5 N a0 N kf kf (IntKind.wrap .i64 (a1 - (List.length a0 : Int))) (0 : Int)
/-! loop.example/g03009/laws.toJudge (67) -/
noncomputable def laws_toJudge (N : Nat) (a0 : QIILIE) (kf : QIILIE → Option Ret) : Option Ret :=
  laws_toIntS N a0.2.2 (fun (r12_1 : (List Int)) =>
    kf (a0.1, (a0.2.1, r12_1)))
/-! loop.example/g03009/laws.toJudgeS (40) -/
noncomputable def laws_toJudgeS_l3 (N : Nat) (x0_1 : (List QIILIE)) : Nat → ((List QIILIE) → Option Ret) → (List QIILIE) → Int → Option Ret
  | 0, _, _, _ => none
  | n_4 + 1, k3_0_6, x3_2, x4_3 =>
    bif (decide (x4_3 < (List.length x0_1 : Int))) then
      bif (inB x4_3 (List.length x0_1)) then
        laws_toJudge N (List.getD x0_1 (Int.toNat x4_3) zQIILIE) (fun (r20_5 : QIILIE) =>
          bif (inB x4_3 (List.length x3_2)) then
            (laws_toJudgeS_l3 N x0_1 n_4 k3_0_6) (List.set x3_2 (Int.toNat x4_3) r20_5) (IntKind.wrap .i64 (x4_3 + (1 : Int)))
          else none)
      else none
    else
      k3_0_6 x3_2
noncomputable def laws_toJudgeS (N : Nat) (a0 : (List QIILIE)) (kf : (List QIILIE) → Option Ret) : Option Ret :=
  bif (decide ((List.length a0 : Int) = (List.length a0 : Int)) && decide ((0 : Int) ≤ (List.length a0 : Int)) && decide ((List.length a0 : Int) ≤ 1099511627776)) then
    laws_toJudgeS_l3 N a0 N kf (List.replicate (Int.toNat (List.length a0 : Int)) ((0 : Int), ((0 : Int), []))) (0 : Int)
  else none
/-! loop.example/g03009/spec.BusiestJudge (39) -/
noncomputable def spec_BusiestJudge_l3 (x0_1 : (List QIILIE)) : Nat → (Int → Option Ret) → Int → Int → Option Ret
  | 0, _, _, _ => none
  | n_4 + 1, k3_0_6, x3_2, x4_3 =>
    bif (decide (x4_3 < (List.length x0_1 : Int))) then
      bif (decide (x3_2 < (0 : Int))) then
        (spec_BusiestJudge_l3 x0_1 n_4 k3_0_6) x4_3 (IntKind.wrap .i64 (x4_3 + (1 : Int)))
      else
        bif (inB x4_3 (List.length x0_1)) then
          bif (inB x3_2 (List.length x0_1)) then
            bif (decide ((List.length (List.getD x0_1 (Int.toNat x4_3) zQIILIE).2.2 : Int) > (List.length (List.getD x0_1 (Int.toNat x3_2) zQIILIE).2.2 : Int))) then
              (spec_BusiestJudge_l3 x0_1 n_4 k3_0_6) x4_3 (IntKind.wrap .i64 (x4_3 + (1 : Int)))
            else
              (spec_BusiestJudge_l3 x0_1 n_4 k3_0_6) x3_2 (IntKind.wrap .i64 (x4_3 + (1 : Int)))
          else none
        else none
    else
      k3_0_6 x3_2
noncomputable def spec_BusiestJudge (N : Nat) (a0 : (List QIILIE)) (kf : Int → Option Ret) : Option Ret :=
  spec_BusiestJudge_l3 a0 N (fun (z3_8 : Int) =>
    bif (decide (z3_8 < (0 : Int))) then
      kf (0 : Int)
    else
      bif (inB z3_8 (List.length a0)) then
        kf (List.getD a0 (Int.toNat z3_8) zQIILIE).1
      else none) (-1 : Int) (0 : Int)
/-! loop.example/g03009/impl.BusiestJudge (41) -/
noncomputable def impl_BusiestJudge_l5 (x12_2 : (List QIILIE)) (x13_3 : Int) : Nat → (QIILIE → Option Ret) → QIILIE → Int → Option Ret
  | 0, _, _, _ => none
  | n_5 + 1, k5_0_7, x3_1, x14_4 =>
    bif (decide (x14_4 < x13_3)) then
      bif (inB x14_4 (List.length x12_2)) then
        bif (decide ((List.length (List.getD x12_2 (Int.toNat x14_4) zQIILIE).2.2 : Int) > (List.length x3_1.2.2 : Int))) then
          (impl_BusiestJudge_l5 x12_2 x13_3 n_5 k5_0_7) (List.getD x12_2 (Int.toNat x14_4) zQIILIE) (IntKind.wrap .i64 (x14_4 + (1 : Int)))
        else
          (impl_BusiestJudge_l5 x12_2 x13_3 n_5 k5_0_7) x3_1 (IntKind.wrap .i64 (x14_4 + (1 : Int)))
      else none
    else
      k5_0_7 x3_1
noncomputable def impl_BusiestJudge (N : Nat) (a0 : (List QIILIE)) (kf : Int → Option Ret) : Option Ret :=
  bif ((List.length a0 : Int) == (0 : Int)) then
    kf (0 : Int)
  else
    bif (inB (0 : Int) (List.length a0)) then
      impl_BusiestJudge_l5 a0 (List.length a0 : Int) N (fun (z3_9 : QIILIE) =>
        kf z3_9.1) (List.getD a0 (Int.toNat (0 : Int)) zQIILIE) (0 : Int)
    else none
/-! loop.example/g03009/laws.eqJudge (68) -/
noncomputable def laws_eqJudge (N : Nat) (a0 : QIILIE) (a1 : QIILIE) (kf : Bool → Option Ret) : Option Ret :=
  bif (a0.1 != a1.1) then
    kf false
  else
    bif (a0.2.1 != a1.2.1) then
      kf false
    else
      laws_eqIntS N a0.2.2 a1.2.2 (fun (r19_1 : Bool) =>
        bif (!r19_1) then
          kf false
        else
          kf true)
/-! loop.example/g03009/laws.eqJudgeS (42) -/
noncomputable def laws_eqJudgeS_l4 (N : Nat) (x0_1 : (List QIILIE)) (x1_2 : (List QIILIE)) : Nat → (Option Ret) → (Bool → Option Ret) → Int → Option Ret
  | 0, _, _, _ => none
  | n_4 + 1, k4_0_6, k4_1_7, x5_3 =>
    bif (decide (x5_3 < (List.length x0_1 : Int))) then
      bif (inB x5_3 (List.length x0_1)) then
        bif (inB x5_3 (List.length x1_2)) then
          laws_eqJudge N (List.getD x0_1 (Int.toNat x5_3) zQIILIE) (List.getD x1_2 (Int.toNat x5_3) zQIILIE) (fun (r25_5 : Bool) =>
            bif (!r25_5) then
              k4_1_7 false
            else
              (laws_eqJudgeS_l4 N x0_1 x1_2 n_4 k4_0_6 k4_1_7) (IntKind.wrap .i64 (x5_3 + (1 : Int))))
        else none
      else none
    else
      k4_0_6
noncomputable def laws_eqJudgeS (N : Nat) (a0 : (List QIILIE)) (a1 : (List QIILIE)) (kf : Bool → Option Ret) : Option Ret :=
  bif ((List.length a0 : Int) != (List.length a1 : Int)) then
    kf false
  else
    laws_eqJudgeS_l4 N a0 a1 N (kf true) kf (0 : Int)
/-! loop.example/g03009/laws.FnExactBusiestJudge (9) -/
noncomputable def laws_FnExactBusiestJudge (N : Nat) (a0 : (List QIILIE)) (kf : Bool → Option Ret) : Option Ret :=
  laws_szJudgeS N a0 (1048576 : Int) (fun (r9_1 : Int) =>
    bif (decide (r9_1 < (0 : Int))) then
      kf true
    else
      laws_toJudgeS N a0 (fun (r13_2 : (List QIILIE)) =>
        spec_BusiestJudge N r13_2 (fun (r14_3 : Int) =>
          laws_toJudgeS N a0 (fun (r16_4 : (List QIILIE)) =>
            impl_BusiestJudge N r16_4 (fun (r18_5 : Int) =>
              bif (r18_5 != r14_3) then
                kf false
              else
                laws_toJudgeS N a0 (fun (r24_6 : (List QIILIE)) =>
                  laws_eqJudgeS N r16_4 r24_6 (fun (r25_7 : Bool) =>
                    bif (!r25_7) then
                      kf false
                    else
                      kf true)))))))
/-! loop.example/g03009/spec.Mod (85) -/
noncomputable def spec_Mod (N : Nat) (a0 : Int) (a1 : Int) (kf : Int → Option Ret) : Option Ret :=
  spec_l1In N a1 (1 : Int) (1000000000000 : Int) (fun (r6_1 : Bool) =>
    bif (!r6_1) then
      kf (0 : Int)
    else
      bif (!decide (a1 = 0)) then
        bif (!decide (a1 = 0)) then
          kf (Int.tmod (IntKind.wrap .i64 ((Int.tmod a0 a1) + a1)) a1)
        else none
      else none)
/-! loop.example/g03009/spec.Hash (81) -/
noncomputable def spec_Hash_l3 (N : Nat) (x0_1 : (List Int)) : Nat → (Int → Option Ret) → Int → Int → Option Ret
  | 0, _, _, _ => none
  | n_4 + 1, k3_0_6, x3_2, x4_3 =>
    bif (decide (x4_3 < (List.length x0_1 : Int))) then
      bif (inB x4_3 (List.length x0_1)) then
        spec_Mod N (List.getD x0_1 (Int.toNat x4_3) (0 : Int)) (2147483647 : Int) (fun (r17_5 : Int) =>
          (spec_Hash_l3 N x0_1 n_4 k3_0_6) (Int.tmod (IntKind.wrap .i64 ((IntKind.wrap .i64 ((IntKind.wrap .i64 (x3_2 * (1000003 : Int))) + r17_5)) + (13 : Int))) (2147483647 : Int)) (IntKind.wrap .i64 (x4_3 + (1 : Int))))
      else none
    else
      k3_0_6 x3_2
noncomputable def spec_Hash (N : Nat) (a0 : (List Int)) (kf : Int → Option Ret) : Option Ret :=
  spec_Hash_l3 N a0 N kf (11 : Int) (0 : Int)
/-! loop.example/g03009/spec.l27Seal (75) -/
noncomputable def spec_l27Seal (N : Nat) (a0 : Int) (a1 : QIIIIE) (kf : Int → Option Ret) : Option Ret :=
  spec_Hash N [a0, a1.1, a1.2.1, a1.2.2.1] kf
/-! loop.example/g03009/spec.AreMinutes (69) -/
noncomputable def spec_AreMinutes_l3 (N : Nat) (x0_1 : (List QIIIIE)) : Nat → (Option Ret) → (Bool → Option Ret) → Int → Int → Option Ret
  | 0, _, _, _, _ => none
  | n_4 + 1, k3_0_8, k3_1_9, x3_2, x4_3 =>
    bif (decide (x4_3 < (List.length x0_1 : Int))) then
      bif (decide ((List.length x0_1 : Int) ≤ (200 : Int))) then
        bif (inB x4_3 (List.length x0_1)) then
          spec_l27Seal N x3_2 (List.getD x0_1 (Int.toNat x4_3) zQIIIIE) (fun (r23_5 : Int) =>
            bif ((List.getD x0_1 (Int.toNat x4_3) zQIIIIE).1 != (IntKind.wrap .i64 (x4_3 + (1 : Int)))) then
              k3_1_9 false
            else
              spec_l1In N (List.getD x0_1 (Int.toNat x4_3) zQIIIIE).2.1 (1 : Int) (9 : Int) (fun (r32_6 : Bool) =>
                bif (!r32_6) then
                  k3_1_9 false
                else
                  spec_l1In N (List.getD x0_1 (Int.toNat x4_3) zQIIIIE).2.2.1 (0 : Int) (99 : Int) (fun (r38_7 : Bool) =>
                    bif (!r38_7) then
                      k3_1_9 false
                    else
                      bif ((List.getD x0_1 (Int.toNat x4_3) zQIIIIE).2.2.2 != r23_5) then
                        k3_1_9 false
                      else
                        (spec_AreMinutes_l3 N x0_1 n_4 k3_0_8 k3_1_9) r23_5 (IntKind.wrap .i64 (x4_3 + (1 : Int))))))
        else none
      else
        k3_0_8
    else
      k3_0_8
noncomputable def spec_AreMinutes (N : Nat) (a0 : (List QIIIIE)) (kf : Bool → Option Ret) : Option Ret :=
  spec_AreMinutes_l3 N a0 N (kf (decide ((List.length a0 : Int) ≤ (200 : Int)))) kf (0 : Int) (0 : Int)
/-! loop.example/g03009/spec.IsOpenIn (43) -/
noncomputable def spec_IsOpenIn_l3 (x0_1 : (List QIIIIE)) : Nat → (Bool → Option Ret) → Bool → Int → Option Ret
  | 0, _, _, _ => none
  | n_4 + 1, k3_0_5, x3_2, x4_3 =>
    bif (decide (x4_3 < (List.length x0_1 : Int))) then
      bif (inB x4_3 (List.length x0_1)) then
        bif ((List.getD x0_1 (Int.toNat x4_3) zQIIIIE).2.1 == (3 : Int)) then
          (spec_IsOpenIn_l3 x0_1 n_4 k3_0_5) true (IntKind.wrap .i64 (x4_3 + (1 : Int)))
        else
          bif ((List.getD x0_1 (Int.toNat x4_3) zQIIIIE).2.1 == (5 : Int)) then
            (spec_IsOpenIn_l3 x0_1 n_4 k3_0_5) false (IntKind.wrap .i64 (x4_3 + (1 : Int)))
          else
            (spec_IsOpenIn_l3 x0_1 n_4 k3_0_5) x3_2 (IntKind.wrap .i64 (x4_3 + (1 : Int)))
      else none
    else
      k3_0_5 x3_2
noncomputable def spec_IsOpenIn (N : Nat) (a0 : (List QIIIIE)) (kf : Bool → Option Ret) : Option Ret :=
  spec_IsOpenIn_l3 a0 N (fun (z3_7 : Bool) =>
    bif z3_7 then
      spec_AreMinutes N a0 kf
    else
      kf false) false (0 : Int)
/-! loop.example/g03009/impl.Mod (87) -/
noncomputable def impl_Mod (N : Nat) (a0 : Int) (a1 : Int) (kf : Int → Option Ret) : Option Ret :=
  impl_InRange N a1 (1 : Int) (1000000000000 : Int) (fun (r7_1 : Bool) =>
    bif (!r7_1) then
      kf (0 : Int)
    else
      bif (!decide (a1 = 0)) then
        bif (decide ((Int.tmod a0 a1) < (0 : Int))) then
          kf (IntKind.wrap .i64 ((Int.tmod a0 a1) + a1))
        else
          kf (Int.tmod a0 a1)
      else none)
/-! loop.example/g03009/impl.fold (86) -/
noncomputable def impl_fold (N : Nat) (a0 : Int) (a1 : Int) (kf : Int → Option Ret) : Option Ret :=
  impl_Mod N a1 (2147483647 : Int) (fun (r8_1 : Int) =>
    kf (Int.tmod (IntKind.wrap .i64 ((IntKind.wrap .i64 ((IntKind.wrap .i64 (a0 * (1000003 : Int))) + r8_1)) + (13 : Int))) (2147483647 : Int)))
/-! loop.example/g03009/impl.Hash (82) -/
noncomputable def impl_Hash_l3 (N : Nat) (x6_2 : (List Int)) (x7_3 : Int) : Nat → (Int → Option Ret) → Int → Int → Option Ret
  | 0, _, _, _ => none
  | n_5 + 1, k3_0_7, x3_1, x8_4 =>
    bif (decide (x8_4 < x7_3)) then
      bif (inB x8_4 (List.length x6_2)) then
        impl_fold N x3_1 (List.getD x6_2 (Int.toNat x8_4) (0 : Int)) (fun (r14_6 : Int) =>
          (impl_Hash_l3 N x6_2 x7_3 n_5 k3_0_7) r14_6 (IntKind.wrap .i64 (x8_4 + (1 : Int))))
      else none
    else
      k3_0_7 x3_1
noncomputable def impl_Hash (N : Nat) (a0 : (List Int)) (kf : Int → Option Ret) : Option Ret :=
  impl_Hash_l3 N a0 (List.length a0 : Int) N kf (11 : Int) (0 : Int)
/-! loop.example/g03009/impl.lineSeal (76) -/
noncomputable def impl_lineSeal (N : Nat) (a0 : Int) (a1 : QIIIIE) (kf : Int → Option Ret) : Option Ret :=
  impl_Hash N [a0, a1.1, a1.2.1, a1.2.2.1] kf
/-! loop.example/g03009/impl.AreMinutes (70) -/
noncomputable def impl_AreMinutes_l5 (N : Nat) (x9_2 : (List QIIIIE)) (x10_3 : Int) : Nat → (Option Ret) → (Bool → Option Ret) → Int → Int → Option Ret
  | 0, _, _, _, _ => none
  | n_5 + 1, k5_0_9, k5_1_10, x3_1, x11_4 =>
    bif (decide (x11_4 < x10_3)) then
      bif (inB x11_4 (List.length x9_2)) then
        bif ((List.getD x9_2 (Int.toNat x11_4) zQIIIIE).1 != (IntKind.wrap .i64 (x11_4 + (1 : Int)))) then
          k5_1_10 false
        else
          impl_InRange N (List.getD x9_2 (Int.toNat x11_4) zQIIIIE).2.1 (1 : Int) (9 : Int) (fun (r24_6 : Bool) =>
            bif (!r24_6) then
              k5_1_10 false
            else
              impl_InRange N (List.getD x9_2 (Int.toNat x11_4) zQIIIIE).2.2.1 (0 : Int) (99 : Int) (fun (r30_7 : Bool) =>
                bif (!r30_7) then
                  k5_1_10 false
                else
                  impl_lineSeal N x3_1 (List.getD x9_2 (Int.toNat x11_4) zQIIIIE) (fun (r38_8 : Int) =>
                    bif ((List.getD x9_2 (Int.toNat x11_4) zQIIIIE).2.2.2 != r38_8) then
                      k5_1_10 false
                    else
                      (impl_AreMinutes_l5 N x9_2 x10_3 n_5 k5_0_9 k5_1_10) (List.getD x9_2 (Int.toNat x11_4) zQIIIIE).2.2.2 (IntKind.wrap .i64 (x11_4 + (1 : Int))))))
      else none
    else
      k5_0_9
noncomputable def impl_AreMinutes (N : Nat) (a0 : (List QIIIIE)) (kf : Bool → Option Ret) : Option Ret :=
  bif (decide ((List.length a0 : Int) > (200 : Int))) then
    kf false
  else
    impl_AreMinutes_l5 N a0 (List.length a0 : Int) N (kf true) kf (0 : Int) (0 : Int)
/-! loop.example/g03009/impl.IsOpenIn (44) -/
noncomputable def impl_IsOpenIn_l3 (x0_1 : (List QIIIIE)) (x6_3 : (List QIIIIE)) (x7_4 : Int) : Nat → (Bool → Option Ret) → Bool → Int → Option Ret
  | 0, _, _, _ => none
  | n_6 + 1, k3_0_8, x3_2, x8_5 =>
    bif (decide (x8_5 < x7_4)) then
      bif (inB x8_5 (List.length x6_3)) then
        bif ((List.getD x6_3 (Int.toNat x8_5) zQIIIIE).2.1 == (3 : Int)) then
          (impl_IsOpenIn_l3 x0_1 x6_3 x7_4 n_6 k3_0_8) ((List.getD x6_3 (Int.toNat x8_5) zQIIIIE).2.1 == (3 : Int)) (IntKind.wrap .i64 (x8_5 + (1 : Int)))
        else
          bif ((List.getD x6_3 (Int.toNat x8_5) zQIIIIE).2.1 == (5 : Int)) then
            (impl_IsOpenIn_l3 x0_1 x6_3 x7_4 n_6 k3_0_8) ((List.getD x6_3 (Int.toNat x8_5) zQIIIIE).2.1 == (3 : Int)) (IntKind.wrap .i64 (x8_5 + (1 : Int)))
          else
            (impl_IsOpenIn_l3 x0_1 x6_3 x7_4 n_6 k3_0_8) x3_2 (IntKind.wrap .i64 (x8_5 + (1 : Int)))
      else none
    else
      k3_0_8 x3_2
noncomputable def impl_IsOpenIn (N : Nat) (a0 : (List QIIIIE)) (kf : Bool → Option Ret) : Option Ret :=
  impl_IsOpenIn_l3 a0 a0 (List.length a0 : Int) N (fun (z3_10 : Bool) =>
    bif z3_10 then
      impl_AreMinutes N a0 kf
    else
      kf false) false (0 : Int)
/-! loop.example/g03009/laws.FnExactIsOpenIn (10) -/
noncomputable def laws_FnExactIsOpenIn (N : Nat) (a0 : (List QIIIIE)) (kf : Bool → Option Ret) : Option Ret :=
  laws_szLineS N a0 (1048576 : Int) (fun (r9_1 : Int) =>
    bif (decide (r9_1 < (0 : Int))) then
      kf true
    else
      laws_toLineS N a0 (fun (r13_2 : (List QIIIIE)) =>
        spec_IsOpenIn N r13_2 (fun (r14_3 : Bool) =>
          laws_toLineS N a0 (fun (r16_4 : (List QIIIIE)) =>
            impl_IsOpenIn N r16_4 (fun (r18_5 : Bool) =>
              bif (!(r18_5 == r14_3)) then
                kf false
              else
                laws_toLineS N a0 (fun (r24_6 : (List QIIIIE)) =>
                  laws_eqLineS N r16_4 r24_6 (fun (r25_7 : Bool) =>
                    bif (!r25_7) then
                      kf false
                    else
                      kf true)))))))
/-! loop.example/g03009/spec.LedBy (45) -/
noncomputable def spec_LedBy_l3 (N : Nat) (x0_1 : (List QIIIIE)) (x1_2 : Int) : Nat → (Int → Option Ret) → Int → Int → Option Ret
  | 0, _, _, _ => none
  | n_5 + 1, k3_0_8, x5_3, x6_4 =>
    bif (decide (x6_4 < (List.length x0_1 : Int))) then
      spec_AreMinutes N x0_1 (fun (r13_6 : Bool) =>
        bif r13_6 then
          bif (inB x6_4 (List.length x0_1)) then
            bif ((List.getD x0_1 (Int.toNat x6_4) zQIIIIE).2.1 == (4 : Int)) then
              bif (inB x6_4 (List.length x0_1)) then
                bif ((List.getD x0_1 (Int.toNat x6_4) zQIIIIE).2.2.1 == x1_2) then
                  (spec_LedBy_l3 N x0_1 x1_2 n_5 k3_0_8) (IntKind.wrap .i64 (x5_3 + (1 : Int))) (IntKind.wrap .i64 (x6_4 + (1 : Int)))
                else
                  (spec_LedBy_l3 N x0_1 x1_2 n_5 k3_0_8) x5_3 (IntKind.wrap .i64 (x6_4 + (1 : Int)))
              else none
            else
              (spec_LedBy_l3 N x0_1 x1_2 n_5 k3_0_8) x5_3 (IntKind.wrap .i64 (x6_4 + (1 : Int)))
          else none
        else
          k3_0_8 x5_3)
    else
      k3_0_8 x5_3
noncomputable def spec_LedBy (N : Nat) (a0 : (List QIIIIE)) (a1 : Int) (kf : Int → Option Ret) : Option Ret :=
  spec_LedBy_l3 N a0 a1 N kf (0 : Int) (0 : Int)
/-! loop.example/g03009/impl.LedBy (46) -/
noncomputable def impl_LedBy_l5 (x1_2 : Int) (x12_4 : (List QIIIIE)) (x13_5 : Int) : Nat → (Int → Option Ret) → Int → Int → Option Ret
  | 0, _, _, _ => none
  | n_7 + 1, k5_0_9, x5_3, x14_6 =>
    bif (decide (x14_6 < x13_5)) then
      bif (inB x14_6 (List.length x12_4)) then
        bif ((List.getD x12_4 (Int.toNat x14_6) zQIIIIE).2.1 == (4 : Int)) then
          bif ((List.getD x12_4 (Int.toNat x14_6) zQIIIIE).2.2.1 == x1_2) then
            (impl_LedBy_l5 x1_2 x12_4 x13_5 n_7 k5_0_9) (IntKind.wrap .i64 (x5_3 + (1 : Int))) (IntKind.wrap .i64 (x14_6 + (1 : Int)))
          else
            (impl_LedBy_l5 x1_2 x12_4 x13_5 n_7 k5_0_9) x5_3 (IntKind.wrap .i64 (x14_6 + (1 : Int)))
        else
          (impl_LedBy_l5 x1_2 x12_4 x13_5 n_7 k5_0_9) x5_3 (IntKind.wrap .i64 (x14_6 + (1 : Int)))
      else none
    else
      k5_0_9 x5_3
noncomputable def impl_LedBy (N : Nat) (a0 : (List QIIIIE)) (a1 : Int) (kf : Int → Option Ret) : Option Ret :=
  impl_AreMinutes N a0 (fun (r9_1 : Bool) =>
    bif (!r9_1) then
      kf (0 : Int)
    else
      impl_LedBy_l5 a1 a0 (List.length a0 : Int) N kf (0 : Int) (0 : Int))
/-! loop.example/g03009/laws.FnExactLedBy (11) -/
noncomputable def laws_FnExactLedBy (N : Nat) (a0 : (List QIIIIE)) (a1 : Int) (kf : Bool → Option Ret) : Option Ret :=
  laws_szLineS N a0 (1048576 : Int) (fun (r11_1 : Int) =>
    bif (decide (r11_1 < (0 : Int))) then
      kf true
    else
      laws_toLineS N a0 (fun (r15_2 : (List QIIIIE)) =>
        spec_LedBy N r15_2 a1 (fun (r17_3 : Int) =>
          laws_toLineS N a0 (fun (r19_4 : (List QIIIIE)) =>
            impl_LedBy N r19_4 a1 (fun (r22_5 : Int) =>
              bif (r22_5 != r17_3) then
                kf false
              else
                laws_toLineS N a0 (fun (r28_6 : (List QIIIIE)) =>
                  laws_eqLineS N r19_4 r28_6 (fun (r29_7 : Bool) =>
                    bif (!r29_7) then
                      kf false
                    else
                      kf true)))))))
/-! loop.example/g03009/spec.RoundsIn (47) -/
noncomputable def spec_RoundsIn (N : Nat) (a0 : (List QIIIIE)) (kf : Int → Option Ret) : Option Ret :=
  spec_AreMinutes N a0 (fun (r4_1 : Bool) =>
    bif (!r4_1) then
      kf (0 : Int)
    else
      spec_CountWhat N a0 (5 : Int) kf)
/-! loop.example/g03009/impl.RoundsIn (48) -/
noncomputable def impl_RoundsIn (N : Nat) (a0 : (List QIIIIE)) (kf : Int → Option Ret) : Option Ret :=
  impl_AreMinutes N a0 (fun (r4_1 : Bool) =>
    bif (!r4_1) then
      kf (0 : Int)
    else
      impl_CountWhat N a0 (5 : Int) kf)
/-! loop.example/g03009/laws.FnExactRoundsIn (12) -/
noncomputable def laws_FnExactRoundsIn (N : Nat) (a0 : (List QIIIIE)) (kf : Bool → Option Ret) : Option Ret :=
  laws_szLineS N a0 (1048576 : Int) (fun (r9_1 : Int) =>
    bif (decide (r9_1 < (0 : Int))) then
      kf true
    else
      laws_toLineS N a0 (fun (r13_2 : (List QIIIIE)) =>
        spec_RoundsIn N r13_2 (fun (r14_3 : Int) =>
          laws_toLineS N a0 (fun (r16_4 : (List QIIIIE)) =>
            impl_RoundsIn N r16_4 (fun (r18_5 : Int) =>
              bif (r18_5 != r14_3) then
                kf false
              else
                laws_toLineS N a0 (fun (r24_6 : (List QIIIIE)) =>
                  laws_eqLineS N r16_4 r24_6 (fun (r25_7 : Bool) =>
                    bif (!r25_7) then
                      kf false
                    else
                      kf true)))))))
/-! loop.example/g03009/laws.szTeamS (49) -/
noncomputable def laws_szTeamS_l5 (N : Nat) (x0_1 : (List QIIIIILIE)) : Nat → (Int → Option Ret) → (Int → Option Ret) → Int → Int → Option Ret
  | 0, _, _, _, _ => none
  | n_4 + 1, k5_0_6, k5_1_7, x1_2, x5_3 =>
    bif (decide (x5_3 < (List.length x0_1 : Int))) then
      bif (inB x5_3 (List.length x0_1)) then
        laws_szTeam N (List.getD x0_1 (Int.toNat x5_3) zQIIIIILIE) x1_2 (fun (r23_5 : Int) =>
          bif (decide (r23_5 < (0 : Int))) then
            k5_1_7 (-1 : Int)
          else
            (laws_szTeamS_l5 N x0_1 n_4 k5_0_6 k5_1_7) r23_5 (IntKind.wrap .i64 (x5_3 + (1 : Int))))
      else none
    else
      k5_0_6 x1_2
noncomputable def laws_szTeamS (N : Nat) (a0 : (List QIIIIILIE)) (a1 : Int) (kf : Int → Option Ret) : Option Ret :=
  bif (decide ((IntKind.wrap .i64 (a1 - (List.length a0 : Int))) < (0 : Int))) then
    kf (-1 : Int)
  else
    laws_szTeamS_l5 N a0 N kf kf (IntKind.wrap .i64 (a1 - (List.length a0 : Int))) (0 : Int)
/-! loop.example/g03009/laws.toTeamS (51) -/
noncomputable def laws_toTeamS_l3 (N : Nat) (x0_1 : (List QIIIIILIE)) : Nat → ((List QIIIIILIE) → Option Ret) → (List QIIIIILIE) → Int → Option Ret
  | 0, _, _, _ => none
  | n_4 + 1, k3_0_6, x3_2, x4_3 =>
    bif (decide (x4_3 < (List.length x0_1 : Int))) then
      bif (inB x4_3 (List.length x0_1)) then
        laws_toTeam N (List.getD x0_1 (Int.toNat x4_3) zQIIIIILIE) (fun (r20_5 : QIIIIILIE) =>
          bif (inB x4_3 (List.length x3_2)) then
            (laws_toTeamS_l3 N x0_1 n_4 k3_0_6) (List.set x3_2 (Int.toNat x4_3) r20_5) (IntKind.wrap .i64 (x4_3 + (1 : Int)))
          else none)
      else none
    else
      k3_0_6 x3_2
noncomputable def laws_toTeamS (N : Nat) (a0 : (List QIIIIILIE)) (kf : (List QIIIIILIE) → Option Ret) : Option Ret :=
  bif (decide ((List.length a0 : Int) = (List.length a0 : Int)) && decide ((0 : Int) ≤ (List.length a0 : Int)) && decide ((List.length a0 : Int) ≤ 1099511627776)) then
    laws_toTeamS_l3 N a0 N kf (List.replicate (Int.toNat (List.length a0 : Int)) ((0 : Int), ((0 : Int), ((0 : Int), ((0 : Int), ((0 : Int), [])))))) (0 : Int)
  else none
/-! loop.example/g03009/spec.FindTeam (77) -/
noncomputable def spec_FindTeam_l2 (x0_1 : (List QIIIIILIE)) (x1_2 : Int) : Nat → (Option Ret) → (Int → Option Ret) → Int → Option Ret
  | 0, _, _, _ => none
  | n_4 + 1, k2_0_5, k2_1_6, x5_3 =>
    bif (decide (x5_3 < (List.length x0_1 : Int))) then
      bif (inB x5_3 (List.length x0_1)) then
        bif ((List.getD x0_1 (Int.toNat x5_3) zQIIIIILIE).1 == x1_2) then
          k2_1_6 x5_3
        else
          (spec_FindTeam_l2 x0_1 x1_2 n_4 k2_0_5 k2_1_6) (IntKind.wrap .i64 (x5_3 + (1 : Int)))
      else none
    else
      k2_0_5
noncomputable def spec_FindTeam (N : Nat) (a0 : (List QIIIIILIE)) (a1 : Int) (kf : Int → Option Ret) : Option Ret :=
  spec_FindTeam_l2 a0 a1 N (kf (-1 : Int)) kf (0 : Int)
/-! loop.example/g03009/spec.l19Count (78) -/
noncomputable def spec_l19Count_l3 (x0_1 : (List Int)) (x1_2 : Int) : Nat → (Int → Option Ret) → Int → Int → Option Ret
  | 0, _, _, _ => none
  | n_5 + 1, k3_0_7, x5_3, x6_4 =>
    bif (decide (x6_4 < (List.length x0_1 : Int))) then
      bif (inB x6_4 (List.length x0_1)) then
        bif ((List.getD x0_1 (Int.toNat x6_4) (0 : Int)) == x1_2) then
          (spec_l19Count_l3 x0_1 x1_2 n_5 k3_0_7) (IntKind.wrap .i64 (x5_3 + (1 : Int))) (IntKind.wrap .i64 (x6_4 + (1 : Int)))
        else
          (spec_l19Count_l3 x0_1 x1_2 n_5 k3_0_7) x5_3 (IntKind.wrap .i64 (x6_4 + (1 : Int)))
      else none
    else
      k3_0_7 x5_3
noncomputable def spec_l19Count (N : Nat) (a0 : (List Int)) (a1 : Int) (kf : Int → Option Ret) : Option Ret :=
  spec_l19Count_l3 a0 a1 N kf (0 : Int) (0 : Int)
/-! loop.example/g03009/spec.AreTeams (71) -/
noncomputable def spec_AreTeams_l8 (N : Nat) (x0_9 : (List QIIIIILIE)) (x3_10 : Int) (x4_11 : QIIIIILIE) : Nat → (Option Ret) → (Bool → Option Ret) → Int → Option Ret
  | 0, _, _, _ => none
  | n_13 + 1, k8_0_17, k8_1_18, x5_12 =>
    bif (decide (x5_12 < (List.length x4_11.2.2.2.2.2 : Int))) then
      bif (inB x5_12 (List.length x4_11.2.2.2.2.2)) then
        spec_FindTeam N x0_9 (List.getD x4_11.2.2.2.2.2 (Int.toNat x5_12) (0 : Int)) (fun (r85_14 : Int) =>
          bif (decide (r85_14 < (0 : Int))) then
            k8_1_18 false
          else
            bif (r85_14 == x3_10) then
              k8_1_18 false
            else
              bif (inB r85_14 (List.length x0_9)) then
                bif (inB r85_14 (List.length x0_9)) then
                  spec_l19Count N (List.getD x0_9 (Int.toNat r85_14) zQIIIIILIE).2.2.2.2.2 x4_11.1 (fun (r101_15 : Int) =>
                    spec_l19Count N x4_11.2.2.2.2.2 (List.getD x0_9 (Int.toNat r85_14) zQIIIIILIE).1 (fun (r109_16 : Int) =>
                      bif (r101_15 != r109_16) then
                        k8_1_18 false
                      else
                        (spec_AreTeams_l8 N x0_9 x3_10 x4_11 n_13 k8_0_17 k8_1_18) (IntKind.wrap .i64 (x5_12 + (1 : Int)))))
                else none
              else none)
      else none
    else
      k8_0_17
noncomputable def spec_AreTeams_l2 (N : Nat) (x0_1 : (List QIIIIILIE)) : Nat → (Option Ret) → (Bool → Option Ret) → Int → Option Ret
  | 0, _, _, _ => none
  | n_3 + 1, k2_0_21, k2_1_22, x3_2 =>
    bif (decide (x3_2 < (List.length x0_1 : Int))) then
      bif (inB x3_2 (List.length x0_1)) then
        spec_l1In N (List.getD x0_1 (Int.toNat x3_2) zQIIIIILIE).1 (1 : Int) (99 : Int) (fun (r19_4 : Bool) =>
          bif (!r19_4) then
            k2_1_22 false
          else
            spec_l1In N (List.getD x0_1 (Int.toNat x3_2) zQIIIIILIE).2.1 (1 : Int) (99 : Int) (fun (r24_5 : Bool) =>
              bif (!r24_5) then
                k2_1_22 false
              else
                spec_l1In N (List.getD x0_1 (Int.toNat x3_2) zQIIIIILIE).2.2.1 (0 : Int) (List.length (List.getD x0_1 (Int.toNat x3_2) zQIIIIILIE).2.2.2.2.2 : Int) (fun (r33_6 : Bool) =>
                  bif (!r33_6) then
                    k2_1_22 false
                  else
                    spec_l1In N (List.getD x0_1 (Int.toNat x3_2) zQIIIIILIE).2.2.2.2.1 (0 : Int) (List.length (List.getD x0_1 (Int.toNat x3_2) zQIIIIILIE).2.2.2.2.2 : Int) (fun (r42_7 : Bool) =>
                      bif (!r42_7) then
                        k2_1_22 false
                      else
                        spec_l1In N (List.getD x0_1 (Int.toNat x3_2) zQIIIIILIE).2.2.2.1 (0 : Int) (100000 : Int) (fun (r48_8 : Bool) =>
                          bif (!r48_8) then
                            k2_1_22 false
                          else
                            bif (decide ((List.length (List.getD x0_1 (Int.toNat x3_2) zQIIIIILIE).2.2.2.2.2 : Int) > (20 : Int))) then
                              k2_1_22 false
                            else
                              bif (decide (x3_2 > (0 : Int))) then
                                bif (inB (IntKind.wrap .i64 (x3_2 - (1 : Int))) (List.length x0_1)) then
                                  bif (decide ((List.getD x0_1 (Int.toNat (IntKind.wrap .i64 (x3_2 - (1 : Int)))) zQIIIIILIE).1 ≥ (List.getD x0_1 (Int.toNat x3_2) zQIIIIILIE).1)) then
                                    k2_1_22 false
                                  else
                                    spec_AreTeams_l8 N x0_1 x3_2 (List.getD x0_1 (Int.toNat x3_2) zQIIIIILIE) N ((spec_AreTeams_l2 N x0_1 n_3 k2_0_21 k2_1_22) (IntKind.wrap .i64 (x3_2 + (1 : Int)))) k2_1_22 (0 : Int)
                                else none
                              else
                                spec_AreTeams_l8 N x0_1 x3_2 (List.getD x0_1 (Int.toNat x3_2) zQIIIIILIE) N ((spec_AreTeams_l2 N x0_1 n_3 k2_0_21 k2_1_22) (IntKind.wrap .i64 (x3_2 + (1 : Int)))) k2_1_22 (0 : Int))))))
      else none
    else
      k2_0_21
noncomputable def spec_AreTeams (N : Nat) (a0 : (List QIIIIILIE)) (kf : Bool → Option Ret) : Option Ret :=
  spec_AreTeams_l2 N a0 N (kf (decide ((List.length a0 : Int) ≤ (10 : Int)))) kf (0 : Int)
/-! loop.example/g03009/spec.ClubWins (50) -/
noncomputable def spec_ClubWins_l3 (N : Nat) (x0_1 : (List QIIIIILIE)) (x1_2 : Int) : Nat → (Int → Option Ret) → Int → Int → Option Ret
  | 0, _, _, _ => none
  | n_5 + 1, k3_0_8, x5_3, x6_4 =>
    bif (decide (x6_4 < (List.length x0_1 : Int))) then
      spec_AreTeams N x0_1 (fun (r13_6 : Bool) =>
        bif r13_6 then
          bif (inB x6_4 (List.length x0_1)) then
            bif ((List.getD x0_1 (Int.toNat x6_4) zQIIIIILIE).2.1 == x1_2) then
              bif (inB x6_4 (List.length x0_1)) then
                (spec_ClubWins_l3 N x0_1 x1_2 n_5 k3_0_8) (IntKind.wrap .i64 (x5_3 + (List.getD x0_1 (Int.toNat x6_4) zQIIIIILIE).2.2.1)) (IntKind.wrap .i64 (x6_4 + (1 : Int)))
              else none
            else
              (spec_ClubWins_l3 N x0_1 x1_2 n_5 k3_0_8) x5_3 (IntKind.wrap .i64 (x6_4 + (1 : Int)))
          else none
        else
          k3_0_8 x5_3)
    else
      k3_0_8 x5_3
noncomputable def spec_ClubWins (N : Nat) (a0 : (List QIIIIILIE)) (a1 : Int) (kf : Int → Option Ret) : Option Ret :=
  spec_ClubWins_l3 N a0 a1 N kf (0 : Int) (0 : Int)
/-! loop.example/g03009/impl.FindTeam$1 (84) -/
noncomputable def impl_FindTeam_1 (N : Nat) (a0 : QIIIIILIE) (a1 : Int) (kf : Bool → Option Ret) : Option Ret :=
  kf (a0.1 == a1)
/-! slices.IndexFunc[[]loop.example/g03009/impl.Team,loop.example/g03009/impl.Team] (83) -/
noncomputable def slices_IndexFunc_l2 (N : Nat) (x0_1 : (List QIIIIILIE)) (x1_2 : Int) (x7_3 : Int) : Nat → (Option Ret) → (Int → Option Ret) → Int → Option Ret
  | 0, _, _, _ => none
  | n_5 + 1, k2_0_7, k2_1_8, x8_4 =>
    bif (decide (x8_4 < x7_3)) then
      bif (inB x8_4 (List.length x0_1)) then
        impl_FindTeam_1 N (List.getD x0_1 (Int.toNat x8_4) zQIIIIILIE) x1_2 (fun (r16_6 : Bool) =>
          bif r16_6 then
            k2_1_8 x8_4
          else
            (slices_IndexFunc_l2 N x0_1 x1_2 x7_3 n_5 k2_0_7 k2_1_8) (IntKind.wrap .i64 (x8_4 + (1 : Int))))
      else none
    else
      k2_0_7
noncomputable def slices_IndexFunc (N : Nat) (a0 : (List QIIIIILIE)) (a1_0 : Int) (kf : Int → Option Ret) : Option Ret :=
  slices_IndexFunc_l2 N a0 a1_0 (List.length a0 : Int) N (kf (-1 : Int)) kf (0 : Int)
/-! loop.example/g03009/impl.FindTeam (79) -/
noncomputable def impl_FindTeam (N : Nat) (a0 : (List QIIIIILIE)) (a1 : Int) (kf : Int → Option Ret) : Option Ret :=
  slices_IndexFunc N a0 a1 kf
/-! loop.example/g03009/impl.times (80) -/
noncomputable def impl_times_l3 (x1_1 : Int) (x8_3 : (List Int)) (x9_4 : Int) : Nat → (Int → Option Ret) → Int → Int → Option Ret
  | 0, _, _, _ => none
  | n_6 + 1, k3_0_8, x5_2, x10_5 =>
    bif (decide (x10_5 < x9_4)) then
      bif (inB x10_5 (List.length x8_3)) then
        bif ((List.getD x8_3 (Int.toNat x10_5) (0 : Int)) == x1_1) then
          (impl_times_l3 x1_1 x8_3 x9_4 n_6 k3_0_8) (IntKind.wrap .i64 (x5_2 + (1 : Int))) (IntKind.wrap .i64 (x10_5 + (1 : Int)))
        else
          (impl_times_l3 x1_1 x8_3 x9_4 n_6 k3_0_8) x5_2 (IntKind.wrap .i64 (x10_5 + (1 : Int)))
      else none
    else
      k3_0_8 x5_2
noncomputable def impl_times (N : Nat) (a0 : (List Int)) (a1 : Int) (kf : Int → Option Ret) : Option Ret :=
  impl_times_l3 a1 a0 (List.length a0 : Int) N kf (0 : Int) (0 : Int)
/-! loop.example/g03009/impl.AreTeams (72) -/
noncomputable def impl_AreTeams_l10 (N : Nat) (x0_16 : (List QIIIIILIE)) (x4_17 : QIIIIILIE) (x12_18 : (List QIIIIILIE)) (x13_19 : Int) (x14_20 : Int) (x72_21 : (List Int)) (x73_22 : Int) : Nat → (Option Ret) → (Bool → Option Ret) → Int → Option Ret
  | 0, _, _, _ => none
  | n_24 + 1, k10_0_28, k10_1_29, x74_23 =>
    bif (decide (x74_23 < x73_22)) then
      bif (inB x74_23 (List.length x72_21)) then
        impl_FindTeam N x0_16 (List.getD x72_21 (Int.toNat x74_23) (0 : Int)) (fun (r80_25 : Int) =>
          bif (decide (r80_25 < (0 : Int))) then
            k10_1_29 false
          else
            bif ((List.getD x72_21 (Int.toNat x74_23) (0 : Int)) == x4_17.1) then
              k10_1_29 false
            else
              bif (inB r80_25 (List.length x0_16)) then
                impl_times N x4_17.2.2.2.2.2 (List.getD x72_21 (Int.toNat x74_23) (0 : Int)) (fun (r93_26 : Int) =>
                  impl_times N (List.getD x0_16 (Int.toNat r80_25) zQIIIIILIE).2.2.2.2.2 x4_17.1 (fun (r101_27 : Int) =>
                    bif (r93_26 != r101_27) then
                      k10_1_29 false
                    else
                      (impl_AreTeams_l10 N x0_16 x4_17 x12_18 x13_19 x14_20 x72_21 x73_22 n_24 k10_0_28 k10_1_29) (IntKind.wrap .i64 (x74_23 + (1 : Int)))))
              else none)
      else none
    else
      k10_0_28
noncomputable def impl_AreTeams_j1 (N : Nat) (k4_1_33 : Bool → Option Ret) (rc4_34 : Int → Option Ret) (x0_1 : (List QIIIIILIE)) (x12_2 : (List QIIIIILIE)) (x13_3 : Int) (x14_4 : Int) : Option Ret :=
  impl_AreTeams_l10 N x0_1 (List.getD x12_2 (Int.toNat x14_4) zQIIIIILIE) x12_2 x13_3 x14_4 (List.getD x12_2 (Int.toNat x14_4) zQIIIIILIE).2.2.2.2.2 (List.length (List.getD x12_2 (Int.toNat x14_4) zQIIIIILIE).2.2.2.2.2 : Int) N (rc4_34 (IntKind.wrap .i64 (x14_4 + (1 : Int)))) k4_1_33 (0 : Int)
noncomputable def impl_AreTeams_l4 (N : Nat) (x0_1 : (List QIIIIILIE)) (x12_2 : (List QIIIIILIE)) (x13_3 : Int) : Nat → (Option Ret) → (Bool → Option Ret) → Int → Option Ret
  | 0, _, _, _ => none
  | n_5 + 1, k4_0_32, k4_1_33, x14_4 =>
    bif (decide (x14_4 < x13_3)) then
      bif (inB x14_4 (List.length x12_2)) then
        impl_InRange N (List.getD x12_2 (Int.toNat x14_4) zQIIIIILIE).1 (1 : Int) (99 : Int) (fun (r24_6 : Bool) =>
          bif (!r24_6) then
            k4_1_33 false
          else
            bif (decide (x14_4 > (0 : Int))) then
              bif (inB (IntKind.wrap .i64 (x14_4 - (1 : Int))) (List.length x0_1)) then
                bif (decide ((List.getD x12_2 (Int.toNat x14_4) zQIIIIILIE).1 ≤ (List.getD x0_1 (Int.toNat (IntKind.wrap .i64 (x14_4 - (1 : Int)))) zQIIIIILIE).1)) then
                  k4_1_33 false
                else
                  impl_InRange N (List.getD x12_2 (Int.toNat x14_4) zQIIIIILIE).2.1 (1 : Int) (99 : Int) (fun (r44_7 : Bool) =>
                    bif (!r44_7) then
                      k4_1_33 false
                    else
                      bif (decide ((List.length (List.getD x12_2 (Int.toNat x14_4) zQIIIIILIE).2.2.2.2.2 : Int) > (20 : Int))) then
                        k4_1_33 false
                      else
                        impl_InRange N (List.getD x12_2 (Int.toNat x14_4) zQIIIIILIE).2.2.1 (0 : Int) (List.length (List.getD x12_2 (Int.toNat x14_4) zQIIIIILIE).2.2.2.2.2 : Int) (fun (r55_8 : Bool) =>
                          bif (!r55_8) then
                            k4_1_33 false
                          else
                            impl_InRange N (List.getD x12_2 (Int.toNat x14_4) zQIIIIILIE).2.2.2.2.1 (0 : Int) (List.length (List.getD x12_2 (Int.toNat x14_4) zQIIIIILIE).2.2.2.2.2 : Int) (fun (r62_9 : Bool) =>
                              bif (!r62_9) then
                                k4_1_33 false
                              else
                                impl_InRange N (List.getD x12_2 (Int.toNat x14_4) zQIIIIILIE).2.2.2.1 (0 : Int) (100000 : Int) (fun (r68_10 : Bool) =>
                                  bif (!r68_10) then
                                    k4_1_33 false
                                  else
                                    impl_AreTeams_j1 N k4_1_33 (impl_AreTeams_l4 N x0_1 x12_2 x13_3 n_5 k4_0_32 k4_1_33) x0_1 x12_2 x13_3 x14_4))))
              else none
            else
              impl_InRange N (List.getD x12_2 (Int.toNat x14_4) zQIIIIILIE).2.1 (1 : Int) (99 : Int) (fun (r44_11 : Bool) =>
                bif (!r44_11) then
                  k4_1_33 false
                else
                  bif (decide ((List.length (List.getD x12_2 (Int.toNat x14_4) zQIIIIILIE).2.2.2.2.2 : Int) > (20 : Int))) then
                    k4_1_33 false
                  else
                    impl_InRange N (List.getD x12_2 (Int.toNat x14_4) zQIIIIILIE).2.2.1 (0 : Int) (List.length (List.getD x12_2 (Int.toNat x14_4) zQIIIIILIE).2.2.2.2.2 : Int) (fun (r55_12 : Bool) =>
                      bif (!r55_12) then
                        k4_1_33 false
                      else
                        impl_InRange N (List.getD x12_2 (Int.toNat x14_4) zQIIIIILIE).2.2.2.2.1 (0 : Int) (List.length (List.getD x12_2 (Int.toNat x14_4) zQIIIIILIE).2.2.2.2.2 : Int) (fun (r62_13 : Bool) =>
                          bif (!r62_13) then
                            k4_1_33 false
                          else
                            impl_InRange N (List.getD x12_2 (Int.toNat x14_4) zQIIIIILIE).2.2.2.1 (0 : Int) (100000 : Int) (fun (r68_14 : Bool) =>
                              bif (!r68_14) then
                                k4_1_33 false
                              else
                                impl_AreTeams_j1 N k4_1_33 (impl_AreTeams_l4 N x0_1 x12_2 x13_3 n_5 k4_0_32 k4_1_33) x0_1 x12_2 x13_3 x14_4)))))
      else none
    else
      k4_0_32
noncomputable def impl_AreTeams (N : Nat) (a0 : (List QIIIIILIE)) (kf : Bool → Option Ret) : Option Ret :=
  bif (decide ((List.length a0 : Int) > (10 : Int))) then
    kf false
  else
    impl_AreTeams_l4 N a0 a0 (List.length a0 : Int) N (kf true) kf (0 : Int)
/-! loop.example/g03009/impl.ClubWins (52) -/
noncomputable def impl_ClubWins_l5 (x1_2 : Int) (x12_4 : (List QIIIIILIE)) (x13_5 : Int) : Nat → (Int → Option Ret) → Int → Int → Option Ret
  | 0, _, _, _ => none
  | n_7 + 1, k5_0_9, x5_3, x14_6 =>
    bif (decide (x14_6 < x13_5)) then
      bif (inB x14_6 (List.length x12_4)) then
        bif ((List.getD x12_4 (Int.toNat x14_6) zQIIIIILIE).2.1 == x1_2) then
          (impl_ClubWins_l5 x1_2 x12_4 x13_5 n_7 k5_0_9) (IntKind.wrap .i64 (x5_3 + (List.getD x12_4 (Int.toNat x14_6) zQIIIIILIE).2.2.1)) (IntKind.wrap .i64 (x14_6 + (1 : Int)))
        else
          (impl_ClubWins_l5 x1_2 x12_4 x13_5 n_7 k5_0_9) x5_3 (IntKind.wrap .i64 (x14_6 + (1 : Int)))
      else none
    else
      k5_0_9 x5_3
noncomputable def impl_ClubWins (N : Nat) (a0 : (List QIIIIILIE)) (a1 : Int) (kf : Int → Option Ret) : Option Ret :=
  impl_AreTeams N a0 (fun (r9_1 : Bool) =>
    bif (!r9_1) then
      kf (0 : Int)
    else
      impl_ClubWins_l5 a1 a0 (List.length a0 : Int) N kf (0 : Int) (0 : Int))
/-! loop.example/g03009/laws.eqTeamS (53) -/
noncomputable def laws_eqTeamS_l4 (N : Nat) (x0_1 : (List QIIIIILIE)) (x1_2 : (List QIIIIILIE)) : Nat → (Option Ret) → (Bool → Option Ret) → Int → Option Ret
  | 0, _, _, _ => none
  | n_4 + 1, k4_0_6, k4_1_7, x5_3 =>
    bif (decide (x5_3 < (List.length x0_1 : Int))) then
      bif (inB x5_3 (List.length x0_1)) then
        bif (inB x5_3 (List.length x1_2)) then
          laws_eqTeam N (List.getD x0_1 (Int.toNat x5_3) zQIIIIILIE) (List.getD x1_2 (Int.toNat x5_3) zQIIIIILIE) (fun (r25_5 : Bool) =>
            bif (!r25_5) then
              k4_1_7 false
            else
              (laws_eqTeamS_l4 N x0_1 x1_2 n_4 k4_0_6 k4_1_7) (IntKind.wrap .i64 (x5_3 + (1 : Int))))
        else none
      else none
    else
      k4_0_6
noncomputable def laws_eqTeamS (N : Nat) (a0 : (List QIIIIILIE)) (a1 : (List QIIIIILIE)) (kf : Bool → Option Ret) : Option Ret :=
  bif ((List.length a0 : Int) != (List.length a1 : Int)) then
    kf false
  else
    laws_eqTeamS_l4 N a0 a1 N (kf true) kf (0 : Int)
/-! loop.example/g03009/laws.FnExactClubWins (13) -/
noncomputable def laws_FnExactClubWins (N : Nat) (a0 : (List QIIIIILIE)) (a1 : Int) (kf : Bool → Option Ret) : Option Ret :=
  laws_szTeamS N a0 (1048576 : Int) (fun (r11_1 : Int) =>
    bif (decide (r11_1 < (0 : Int))) then
      kf true
    else
      laws_toTeamS N a0 (fun (r15_2 : (List QIIIIILIE)) =>
        spec_ClubWins N r15_2 a1 (fun (r17_3 : Int) =>
          laws_toTeamS N a0 (fun (r19_4 : (List QIIIIILIE)) =>
            impl_ClubWins N r19_4 a1 (fun (r22_5 : Int) =>
              bif (r22_5 != r17_3) then
                kf false
              else
                laws_toTeamS N a0 (fun (r28_6 : (List QIIIIILIE)) =>
                  laws_eqTeamS N r19_4 r28_6 (fun (r29_7 : Bool) =>
                    bif (!r29_7) then
                      kf false
                    else
                      kf true)))))))
end Go.Pv.R
