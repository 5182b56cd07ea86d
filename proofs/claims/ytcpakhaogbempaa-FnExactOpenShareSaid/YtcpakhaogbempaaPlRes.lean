/- What the functions compute, as plain functions. -/
import Derived.Test.YtcpakhaogbempaaPv4
namespace Go.Pv.R
set_option linter.unusedVariables false
set_option linter.unusedSimpArgs false
abbrev tQIILIE : Ty := (.pair (.int .i64) (.pair (.int .i64) (.sl (.int .i64))))
abbrev tQIIIIILIE : Ty := (.pair (.int .i64) (.pair (.int .i64) (.pair (.int .i64) (.pair (.int .i64) (.pair (.int .i64) (.sl (.int .i64)))))))
abbrev tQIIE : Ty := (.pair (.int .i64) (.int .i64))
abbrev tQIIIE : Ty := (.pair (.int .i64) (.pair (.int .i64) (.int .i64)))
abbrev tQIIIIE : Ty := (.pair (.int .i64) (.pair (.int .i64) (.pair (.int .i64) (.int .i64))))
abbrev tQLQIIIIILIELQIILIELQIIELILQIIIELQIIIIEIE : Ty := (.pair (.sl tQIIIIILIE) (.pair (.sl tQIILIE) (.pair (.sl tQIIE) (.pair (.sl (.int .i64)) (.pair (.sl tQIIIE) (.pair (.sl tQIIIIE) (.int .i64)))))))
abbrev tQLIIIE : Ty := (.pair (.sl (.int .u8)) (.pair (.int .i64) (.int .i64)))
abbrev tQILLIE : Ty := (.pair (.int .i64) (.sl (.sl (.int .i64))))
abbrev QILLIE : Type := (Int × (List (List Int)))
noncomputable def s_in : ByteArray := ⟨#[105, 110]⟩
noncomputable def s_out : ByteArray := ⟨#[111, 117, 116]⟩
noncomputable def s_open : ByteArray := ⟨#[111, 112, 101, 110]⟩
noncomputable def impl_InRange (N : Nat) (a0 : Int) (a1 : Int) (a2 : Int) (kf : Bool → Option Ret) : Option Ret :=
  bif (decide (a1 ≤ a0)) then
    kf (decide (a0 ≤ a2))
  else
    kf false
noncomputable def slices_Index_int_l2 (x0_1 : (List Int)) (x1_2 : Int) (x7_3 : Int) : Nat → (Option Ret) → (Int → Option Ret) → Int → Option Ret
  | 0, _, _, _ => none
  | n_5 + 1, k2_0_6, k2_1_7, x8_4 =>
    bif (decide (x8_4 < x7_3)) then
      bif (inB x8_4 (List.length x0_1)) then
        bif (x1_2 == (List.getD x0_1 (Int.toNat x8_4) (0 : Int))) then
          k2_1_7 x8_4
        else
          (slices_Index_int_l2 x0_1 x1_2 x7_3 n_5 k2_0_6 k2_1_7) (IntKind.wrap .i64 (x8_4 + (1 : Int)))
      else none
    else
      k2_0_6
noncomputable def slices_Index_int (N : Nat) (a0 : (List Int)) (a1 : Int) (kf : Int → Option Ret) : Option Ret :=
  slices_Index_int_l2 a0 a1 (List.length a0 : Int) N (kf (-1 : Int)) kf (0 : Int)
noncomputable def slices_Contains_int (N : Nat) (a0 : (List Int)) (a1 : Int) (kf : Bool → Option Ret) : Option Ret :=
  slices_Index_int N a0 a1 (fun (r7_1 : Int) =>
    kf (decide (r7_1 ≥ (0 : Int))))
noncomputable def spec_l1In (N : Nat) (a0 : Int) (a1 : Int) (a2 : Int) (kf : Bool → Option Ret) : Option Ret :=
  bif (decide (a0 ≥ a1)) then
    kf (decide (a0 ≤ a2))
  else
    kf false
noncomputable def spec_l4Has_l2 (x0_1 : (List Int)) (x1_2 : Int) : Nat → (Option Ret) → (Bool → Option Ret) → Int → Option Ret
  | 0, _, _, _ => none
  | n_4 + 1, k2_0_5, k2_1_6, x5_3 =>
    bif (decide (x5_3 < (List.length x0_1 : Int))) then
      bif (inB x5_3 (List.length x0_1)) then
        bif ((List.getD x0_1 (Int.toNat x5_3) (0 : Int)) == x1_2) then
          k2_1_6 true
        else
          (spec_l4Has_l2 x0_1 x1_2 n_4 k2_0_5 k2_1_6) (IntKind.wrap .i64 (x5_3 + (1 : Int)))
      else none
    else
      k2_0_5
noncomputable def spec_l4Has (N : Nat) (a0 : (List Int)) (a1 : Int) (kf : Bool → Option Ret) : Option Ret :=
  spec_l4Has_l2 a0 a1 N (kf false) kf (0 : Int)
noncomputable def laws_szIntS (N : Nat) (a0 : (List Int)) (a1 : Int) (kf : Int → Option Ret) : Option Ret :=
  bif (decide ((IntKind.wrap .i64 (a1 - (List.length a0 : Int))) < (0 : Int))) then
    kf (-1 : Int)
  else
    kf (IntKind.wrap .i64 (a1 - (List.length a0 : Int)))
noncomputable def laws_szIntSS_l5 (N : Nat) (x0_1 : (List (List Int))) : Nat → (Int → Option Ret) → (Int → Option Ret) → Int → Int → Option Ret
  | 0, _, _, _, _ => none
  | n_4 + 1, k5_0_6, k5_1_7, x1_2, x5_3 =>
    bif (decide (x5_3 < (List.length x0_1 : Int))) then
      bif (inB x5_3 (List.length x0_1)) then
        laws_szIntS N (List.getD x0_1 (Int.toNat x5_3) ([] : (List Int))) x1_2 (fun (r23_5 : Int) =>
          bif (decide (r23_5 < (0 : Int))) then
            k5_1_7 (-1 : Int)
          else
            (laws_szIntSS_l5 N x0_1 n_4 k5_0_6 k5_1_7) r23_5 (IntKind.wrap .i64 (x5_3 + (1 : Int))))
      else none
    else
      k5_0_6 x1_2
noncomputable def laws_szIntSS (N : Nat) (a0 : (List (List Int))) (a1 : Int) (kf : Int → Option Ret) : Option Ret :=
  bif (decide ((IntKind.wrap .i64 (a1 - (List.length a0 : Int))) < (0 : Int))) then
    kf (-1 : Int)
  else
    laws_szIntSS_l5 N a0 N kf kf (IntKind.wrap .i64 (a1 - (List.length a0 : Int))) (0 : Int)
noncomputable def laws_szGraph (N : Nat) (a0 : QILLIE) (a1 : Int) (kf : Int → Option Ret) : Option Ret :=
  laws_szIntSS N a0.2 a1 (fun (r8_1 : Int) =>
    bif (decide (r8_1 < (0 : Int))) then
      kf (-1 : Int)
    else
      kf r8_1)
noncomputable def laws_toIntS_l3 (x0_1 : (List Int)) : Nat → ((List Int) → Option Ret) → (List Int) → Int → Option Ret
  | 0, _, _, _ => none
  | n_4 + 1, k3_0_5, x3_2, x4_3 =>
    bif (decide (x4_3 < (List.length x0_1 : Int))) then
      bif (inB x4_3 (List.length x0_1)) then
        bif (inB x4_3 (List.length x3_2)) then
          (laws_toIntS_l3 x0_1 n_4 k3_0_5) (List.set x3_2 (Int.toNat x4_3) (List.getD x0_1 (Int.toNat x4_3) (0 : Int))) (IntKind.wrap .i64 (x4_3 + (1 : Int)))
        else none
      else none
    else
      k3_0_5 x3_2
noncomputable def laws_toIntS (N : Nat) (a0 : (List Int)) (kf : (List Int) → Option Ret) : Option Ret :=
  bif (decide ((List.length a0 : Int) = (List.length a0 : Int)) && decide ((0 : Int) ≤ (List.length a0 : Int)) && decide ((List.length a0 : Int) ≤ 1099511627776)) then
    laws_toIntS_l3 a0 N kf (List.replicate (Int.toNat (List.length a0 : Int)) (0 : Int)) (0 : Int)
  else none
noncomputable def laws_toIntSS_l3 (N : Nat) (x0_1 : (List (List Int))) : Nat → ((List (List Int)) → Option Ret) → (List (List Int)) → Int → Option Ret
  | 0, _, _, _ => none
  | n_4 + 1, k3_0_6, x3_2, x4_3 =>
    bif (decide (x4_3 < (List.length x0_1 : Int))) then
      bif (inB x4_3 (List.length x0_1)) then
        laws_toIntS N (List.getD x0_1 (Int.toNat x4_3) ([] : (List Int))) (fun (r20_5 : (List Int)) =>
          bif (inB x4_3 (List.length x3_2)) then
            (laws_toIntSS_l3 N x0_1 n_4 k3_0_6) (List.set x3_2 (Int.toNat x4_3) r20_5) (IntKind.wrap .i64 (x4_3 + (1 : Int)))
          else none)
      else none
    else
      k3_0_6 x3_2
noncomputable def laws_toIntSS (N : Nat) (a0 : (List (List Int))) (kf : (List (List Int)) → Option Ret) : Option Ret :=
  bif (decide ((List.length a0 : Int) = (List.length a0 : Int)) && decide ((0 : Int) ≤ (List.length a0 : Int)) && decide ((List.length a0 : Int) ≤ 1099511627776)) then
    laws_toIntSS_l3 N a0 N kf (List.replicate (Int.toNat (List.length a0 : Int)) ([] : (List Int))) (0 : Int)
  else none
noncomputable def laws_toGraph (N : Nat) (a0 : QILLIE) (kf : QILLIE → Option Ret) : Option Ret :=
  laws_toIntSS N a0.2 (fun (r9_1 : (List (List Int))) =>
    kf (a0.1, r9_1))
noncomputable def spec_IsGraph_l2 (N : Nat) (x1_1 : QILLIE) : Nat → (Option Ret) → (Bool → Option Ret) → Int → Option Ret
  | 0, _, _, _ => none
  | n_3 + 1, k2_0_6, k2_1_7, x3_2 =>
    bif (decide (x3_2 < (List.length x1_1.2 : Int))) then
      bif (inB x3_2 (List.length x1_1.2)) then
        bif ((List.length (List.getD x1_1.2 (Int.toNat x3_2) ([] : (List Int))) : Int) != (2 : Int)) then
          k2_1_7 false
        else
          bif (inB (0 : Int) (List.length (List.getD x1_1.2 (Int.toNat x3_2) ([] : (List Int))))) then
            spec_l1In N (List.getD (List.getD x1_1.2 (Int.toNat x3_2) ([] : (List Int))) (Int.toNat (0 : Int)) (0 : Int)) (0 : Int) (IntKind.wrap .i64 (x1_1.1 - (1 : Int))) (fun (r28_4 : Bool) =>
              bif (!r28_4) then
                k2_1_7 false
              else
                bif (inB (1 : Int) (List.length (List.getD x1_1.2 (Int.toNat x3_2) ([] : (List Int))))) then
                  spec_l1In N (List.getD (List.getD x1_1.2 (Int.toNat x3_2) ([] : (List Int))) (Int.toNat (1 : Int)) (0 : Int)) (0 : Int) (IntKind.wrap .i64 (x1_1.1 - (1 : Int))) (fun (r38_5 : Bool) =>
                    bif (!r38_5) then
                      k2_1_7 false
                    else
                      bif (decide (x3_2 > (0 : Int))) then
                        bif (inB (IntKind.wrap .i64 (x3_2 - (1 : Int))) (List.length x1_1.2)) then
                          bif (inB (0 : Int) (List.length (List.getD x1_1.2 (Int.toNat (IntKind.wrap .i64 (x3_2 - (1 : Int)))) ([] : (List Int))))) then
                            bif (inB (0 : Int) (List.length (List.getD x1_1.2 (Int.toNat x3_2) ([] : (List Int))))) then
                              bif (decide ((List.getD (List.getD x1_1.2 (Int.toNat (IntKind.wrap .i64 (x3_2 - (1 : Int)))) ([] : (List Int))) (Int.toNat (0 : Int)) (0 : Int)) > (List.getD (List.getD x1_1.2 (Int.toNat x3_2) ([] : (List Int))) (Int.toNat (0 : Int)) (0 : Int)))) then
                                k2_1_7 false
                              else
                                bif (inB (0 : Int) (List.length (List.getD x1_1.2 (Int.toNat (IntKind.wrap .i64 (x3_2 - (1 : Int)))) ([] : (List Int))))) then
                                  bif (inB (0 : Int) (List.length (List.getD x1_1.2 (Int.toNat x3_2) ([] : (List Int))))) then
                                    bif ((List.getD (List.getD x1_1.2 (Int.toNat (IntKind.wrap .i64 (x3_2 - (1 : Int)))) ([] : (List Int))) (Int.toNat (0 : Int)) (0 : Int)) == (List.getD (List.getD x1_1.2 (Int.toNat x3_2) ([] : (List Int))) (Int.toNat (0 : Int)) (0 : Int))) then
                                      bif (inB (1 : Int) (List.length (List.getD x1_1.2 (Int.toNat (IntKind.wrap .i64 (x3_2 - (1 : Int)))) ([] : (List Int))))) then
                                        bif (inB (1 : Int) (List.length (List.getD x1_1.2 (Int.toNat x3_2) ([] : (List Int))))) then
                                          bif (decide ((List.getD (List.getD x1_1.2 (Int.toNat (IntKind.wrap .i64 (x3_2 - (1 : Int)))) ([] : (List Int))) (Int.toNat (1 : Int)) (0 : Int)) ≥ (List.getD (List.getD x1_1.2 (Int.toNat x3_2) ([] : (List Int))) (Int.toNat (1 : Int)) (0 : Int)))) then
                                            k2_1_7 false
                                          else
                                            (spec_IsGraph_l2 N x1_1 n_3 k2_0_6 k2_1_7) (IntKind.wrap .i64 (x3_2 + (1 : Int)))
                                        else none
                                      else none
                                    else
                                      (spec_IsGraph_l2 N x1_1 n_3 k2_0_6 k2_1_7) (IntKind.wrap .i64 (x3_2 + (1 : Int)))
                                  else none
                                else none
                            else none
                          else none
                        else none
                      else
                        (spec_IsGraph_l2 N x1_1 n_3 k2_0_6 k2_1_7) (IntKind.wrap .i64 (x3_2 + (1 : Int))))
                else none)
          else none
      else none
    else
      k2_0_6
noncomputable def spec_IsGraph (N : Nat) (a0 : QILLIE) (kf : Bool → Option Ret) : Option Ret :=
  spec_IsGraph_l2 N a0 N (spec_l1In N a0.1 (0 : Int) (10 : Int) kf) kf (0 : Int)
noncomputable def spec_IsSet_l4 (N : Nat) (x1_2 : (List Int)) (x2_3 : QILLIE) : Nat → (Option Ret) → (Bool → Option Ret) → Int → Option Ret
  | 0, _, _, _ => none
  | n_5 + 1, k4_0_7, k4_1_8, x5_4 =>
    bif (decide (x5_4 < (List.length x1_2 : Int))) then
      bif (inB x5_4 (List.length x1_2)) then
        spec_l1In N (List.getD x1_2 (Int.toNat x5_4) (0 : Int)) (0 : Int) (IntKind.wrap .i64 (x2_3.1 - (1 : Int))) (fun (r22_6 : Bool) =>
          bif (!r22_6) then
            k4_1_8 false
          else
            bif (decide (x5_4 > (0 : Int))) then
              bif (inB (IntKind.wrap .i64 (x5_4 - (1 : Int))) (List.length x1_2)) then
                bif (inB x5_4 (List.length x1_2)) then
                  bif (decide ((List.getD x1_2 (Int.toNat (IntKind.wrap .i64 (x5_4 - (1 : Int)))) (0 : Int)) ≥ (List.getD x1_2 (Int.toNat x5_4) (0 : Int)))) then
                    k4_1_8 false
                  else
                    (spec_IsSet_l4 N x1_2 x2_3 n_5 k4_0_7 k4_1_8) (IntKind.wrap .i64 (x5_4 + (1 : Int)))
                else none
              else none
            else
              (spec_IsSet_l4 N x1_2 x2_3 n_5 k4_0_7 k4_1_8) (IntKind.wrap .i64 (x5_4 + (1 : Int))))
      else none
    else
      k4_0_7
noncomputable def spec_IsSet (N : Nat) (a0 : QILLIE) (a1 : (List Int)) (kf : Bool → Option Ret) : Option Ret :=
  spec_IsGraph N a0 (fun (r7_1 : Bool) =>
    bif (!r7_1) then
      kf false
    else
      spec_IsSet_l4 N a1 a0 N (kf true) kf (0 : Int))
noncomputable def spec_HitBy_l7 (N : Nat) (x1_7 : (List Int)) (x2_8 : QILLIE) (x5_9 : (List Int)) (x6_10 : Int) : Nat → (Bool → Option Ret) → Bool → Int → Option Ret
  | 0, _, _, _ => none
  | n_13 + 1, k7_0_15, x7_11, x8_12 =>
    bif (decide (x8_12 < (List.length x2_8.2 : Int))) then
      bif x7_11 then
        (spec_HitBy_l7 N x1_7 x2_8 x5_9 x6_10 n_13 k7_0_15) true (IntKind.wrap .i64 (x8_12 + (1 : Int)))
      else
        bif (inB x8_12 (List.length x2_8.2)) then
          bif (inB (1 : Int) (List.length (List.getD x2_8.2 (Int.toNat x8_12) ([] : (List Int))))) then
            bif ((List.getD (List.getD x2_8.2 (Int.toNat x8_12) ([] : (List Int))) (Int.toNat (1 : Int)) (0 : Int)) == x6_10) then
              bif (inB x8_12 (List.length x2_8.2)) then
                bif (inB (0 : Int) (List.length (List.getD x2_8.2 (Int.toNat x8_12) ([] : (List Int))))) then
                  spec_l4Has N x1_7 (List.getD (List.getD x2_8.2 (Int.toNat x8_12) ([] : (List Int))) (Int.toNat (0 : Int)) (0 : Int)) (fun (r47_14 : Bool) =>
                    (spec_HitBy_l7 N x1_7 x2_8 x5_9 x6_10 n_13 k7_0_15) r47_14 (IntKind.wrap .i64 (x8_12 + (1 : Int))))
                else none
              else none
            else
              (spec_HitBy_l7 N x1_7 x2_8 x5_9 x6_10 n_13 k7_0_15) false (IntKind.wrap .i64 (x8_12 + (1 : Int)))
          else none
        else none
    else
      k7_0_15 x7_11
noncomputable def spec_HitBy_l3 (N : Nat) (x1_1 : (List Int)) (x2_2 : QILLIE) : Nat → ((List Int) → Option Ret) → (List Int) → Int → Option Ret
  | 0, _, _, _ => none
  | n_5 + 1, k3_0_19, x5_3, x6_4 =>
    bif (decide (x6_4 < x2_2.1)) then
      spec_IsGraph N x2_2 (fun (r16_6 : Bool) =>
        bif r16_6 then
          spec_HitBy_l7 N x1_1 x2_2 x5_3 x6_4 N (fun (z7_17 : Bool) =>
            bif z7_17 then
              bif (decide ((List.length x5_3 + List.length [x6_4]) * 1 ≤ 4398046511104)) then
                (spec_HitBy_l3 N x1_1 x2_2 n_5 k3_0_19) (x5_3 ++ [x6_4]) (IntKind.wrap .i64 (x6_4 + (1 : Int)))
              else none
            else
              (spec_HitBy_l3 N x1_1 x2_2 n_5 k3_0_19) x5_3 (IntKind.wrap .i64 (x6_4 + (1 : Int)))) false (0 : Int)
        else
          k3_0_19 x5_3)
    else
      k3_0_19 x5_3
noncomputable def spec_HitBy (N : Nat) (a0 : QILLIE) (a1 : (List Int)) (kf : (List Int) → Option Ret) : Option Ret :=
  spec_HitBy_l3 N a1 a0 N kf ([] : (List Int)) (0 : Int)
noncomputable def spec_AttackersOf_l3 (N : Nat) (x1_1 : Int) (x2_2 : QILLIE) : Nat → ((List Int) → Option Ret) → (List Int) → Int → Option Ret
  | 0, _, _, _ => none
  | n_5 + 1, k3_0_8, x5_3, x6_4 =>
    bif (decide (x6_4 < (List.length x2_2.2 : Int))) then
      spec_IsGraph N x2_2 (fun (r15_6 : Bool) =>
        bif r15_6 then
          bif (inB x6_4 (List.length x2_2.2)) then
            bif (inB (1 : Int) (List.length (List.getD x2_2.2 (Int.toNat x6_4) ([] : (List Int))))) then
              bif ((List.getD (List.getD x2_2.2 (Int.toNat x6_4) ([] : (List Int))) (Int.toNat (1 : Int)) (0 : Int)) == x1_1) then
                bif (inB x6_4 (List.length x2_2.2)) then
                  bif (inB (0 : Int) (List.length (List.getD x2_2.2 (Int.toNat x6_4) ([] : (List Int))))) then
                    bif (decide ((List.length x5_3 + List.length [(List.getD (List.getD x2_2.2 (Int.toNat x6_4) ([] : (List Int))) (Int.toNat (0 : Int)) (0 : Int))]) * 1 ≤ 4398046511104)) then
                      (spec_AttackersOf_l3 N x1_1 x2_2 n_5 k3_0_8) (x5_3 ++ [(List.getD (List.getD x2_2.2 (Int.toNat x6_4) ([] : (List Int))) (Int.toNat (0 : Int)) (0 : Int))]) (IntKind.wrap .i64 (x6_4 + (1 : Int)))
                    else none
                  else none
                else none
              else
                (spec_AttackersOf_l3 N x1_1 x2_2 n_5 k3_0_8) x5_3 (IntKind.wrap .i64 (x6_4 + (1 : Int)))
            else none
          else none
        else
          k3_0_8 x5_3)
    else
      k3_0_8 x5_3
noncomputable def spec_AttackersOf (N : Nat) (a0 : QILLIE) (a1 : Int) (kf : (List Int) → Option Ret) : Option Ret :=
  spec_AttackersOf_l3 N a1 a0 N kf ([] : (List Int)) (0 : Int)
noncomputable def spec_Defends_l6 (N : Nat) (x7_5 : (List Int)) (x8_6 : (List Int)) : Nat → (Option Ret) → (Bool → Option Ret) → Int → Option Ret
  | 0, _, _, _ => none
  | n_8 + 1, k6_0_10, k6_1_11, x9_7 =>
    bif (decide (x9_7 < (List.length x8_6 : Int))) then
      bif (inB x9_7 (List.length x8_6)) then
        spec_l4Has N x7_5 (List.getD x8_6 (Int.toNat x9_7) (0 : Int)) (fun (r39_9 : Bool) =>
          bif (!r39_9) then
            k6_1_11 false
          else
            (spec_Defends_l6 N x7_5 x8_6 n_8 k6_0_10 k6_1_11) (IntKind.wrap .i64 (x9_7 + (1 : Int))))
      else none
    else
      k6_0_10
noncomputable def spec_Defends (N : Nat) (a0 : QILLIE) (a1 : (List Int)) (a2 : Int) (kf : Bool → Option Ret) : Option Ret :=
  spec_IsSet N a0 a1 (fun (r12_1 : Bool) =>
    bif (!r12_1) then
      kf false
    else
      spec_l1In N a2 (0 : Int) (IntKind.wrap .i64 (a0.1 - (1 : Int))) (fun (r19_2 : Bool) =>
        bif (!r19_2) then
          kf false
        else
          spec_HitBy N a0 a1 (fun (r24_3 : (List Int)) =>
            spec_AttackersOf N a0 a2 (fun (r27_4 : (List Int)) =>
              spec_Defends_l6 N r24_3 r27_4 N (kf true) kf (0 : Int)))))
noncomputable def spec_DefendedBy_l3 (N : Nat) (x1_1 : (List Int)) (x2_2 : QILLIE) : Nat → ((List Int) → Option Ret) → (List Int) → Int → Option Ret
  | 0, _, _, _ => none
  | n_5 + 1, k3_0_9, x5_3, x6_4 =>
    bif (decide (x6_4 < x2_2.1)) then
      spec_IsSet N x2_2 x1_1 (fun (r15_6 : Bool) =>
        bif r15_6 then
          spec_Defends N x2_2 x1_1 x6_4 (fun (r22_7 : Bool) =>
            bif r22_7 then
              bif (decide ((List.length x5_3 + List.length [x6_4]) * 1 ≤ 4398046511104)) then
                (spec_DefendedBy_l3 N x1_1 x2_2 n_5 k3_0_9) (x5_3 ++ [x6_4]) (IntKind.wrap .i64 (x6_4 + (1 : Int)))
              else none
            else
              (spec_DefendedBy_l3 N x1_1 x2_2 n_5 k3_0_9) x5_3 (IntKind.wrap .i64 (x6_4 + (1 : Int))))
        else
          k3_0_9 x5_3)
    else
      k3_0_9 x5_3
noncomputable def spec_DefendedBy (N : Nat) (a0 : QILLIE) (a1 : (List Int)) (kf : (List Int) → Option Ret) : Option Ret :=
  spec_DefendedBy_l3 N a1 a0 N kf ([] : (List Int)) (0 : Int)
noncomputable def spec_EqualInts_l4 (x0_1 : (List Int)) (x1_2 : (List Int)) : Nat → (Option Ret) → (Bool → Option Ret) → Int → Option Ret
  | 0, _, _, _ => none
  | n_4 + 1, k4_0_5, k4_1_6, x5_3 =>
    bif (decide (x5_3 < (List.length x0_1 : Int))) then
      bif (inB x5_3 (List.length x0_1)) then
        bif (inB x5_3 (List.length x1_2)) then
          bif ((List.getD x0_1 (Int.toNat x5_3) (0 : Int)) != (List.getD x1_2 (Int.toNat x5_3) (0 : Int))) then
            k4_1_6 false
          else
            (spec_EqualInts_l4 x0_1 x1_2 n_4 k4_0_5 k4_1_6) (IntKind.wrap .i64 (x5_3 + (1 : Int)))
        else none
      else none
    else
      k4_0_5
noncomputable def spec_EqualInts (N : Nat) (a0 : (List Int)) (a1 : (List Int)) (kf : Bool → Option Ret) : Option Ret :=
  bif ((List.length a0 : Int) != (List.length a1 : Int)) then
    kf false
  else
    spec_EqualInts_l4 a0 a1 N (kf true) kf (0 : Int)
noncomputable def spec_Grounded_l2 (N : Nat) (x1_1 : QILLIE) : Nat → ((List Int) → Option Ret) → (List Int) → Option Ret
  | 0, _, _ => none
  | n_3 + 1, k2_0_6, x3_2 =>
    spec_DefendedBy N x1_1 x3_2 (fun (r8_4 : (List Int)) =>
      spec_EqualInts N r8_4 x3_2 (fun (r11_5 : Bool) =>
        bif r11_5 then
          k2_0_6 r8_4
        else
          (spec_Grounded_l2 N x1_1 n_3 k2_0_6) r8_4))
noncomputable def spec_Grounded (N : Nat) (a0 : QILLIE) (kf : (List Int) → Option Ret) : Option Ret :=
  spec_Grounded_l2 N a0 N kf ([] : (List Int))
noncomputable def spec_Labels_l5 (N : Nat) (x1_3 : QILLIE) (x4_5 : (List Int)) (x5_6 : (List Int)) : Nat → ((List ByteArray) → Option Ret) → (List ByteArray) → Int → Option Ret
  | 0, _, _, _ => none
  | n_8 + 1, k5_0_13, x3_4, x6_7 =>
    bif (decide (x6_7 < x1_3.1)) then
      spec_IsGraph N x1_3 (fun (r19_9 : Bool) =>
        bif r19_9 then
          spec_l4Has N x4_5 x6_7 (fun (r29_10 : Bool) =>
            bif r29_10 then
              bif (decide ((List.length x3_4 + List.length [s_in]) * 1 ≤ 4398046511104)) then
                (spec_Labels_l5 N x1_3 x4_5 x5_6 n_8 k5_0_13) (x3_4 ++ [s_in]) (IntKind.wrap .i64 (x6_7 + (1 : Int)))
              else none
            else
              spec_l4Has N x5_6 x6_7 (fun (r36_11 : Bool) =>
                bif r36_11 then
                  bif (decide ((List.length x3_4 + List.length [s_out]) * 1 ≤ 4398046511104)) then
                    (spec_Labels_l5 N x1_3 x4_5 x5_6 n_8 k5_0_13) (x3_4 ++ [s_out]) (IntKind.wrap .i64 (x6_7 + (1 : Int)))
                  else none
                else
                  bif (decide ((List.length x3_4 + List.length [s_open]) * 1 ≤ 4398046511104)) then
                    (spec_Labels_l5 N x1_3 x4_5 x5_6 n_8 k5_0_13) (x3_4 ++ [s_open]) (IntKind.wrap .i64 (x6_7 + (1 : Int)))
                  else none))
        else
          k5_0_13 x3_4)
    else
      k5_0_13 x3_4
noncomputable def spec_Labels (N : Nat) (a0 : QILLIE) (kf : (List ByteArray) → Option Ret) : Option Ret :=
  spec_Grounded N a0 (fun (r9_1 : (List Int)) =>
    spec_HitBy N a0 r9_1 (fun (r12_2 : (List Int)) =>
      spec_Labels_l5 N a0 r9_1 r12_2 N kf ([] : (List ByteArray)) (0 : Int)))
noncomputable def spec_OpenClaims_l4 (x4_3 : (List ByteArray)) : Nat → ((List Int) → Option Ret) → (List Int) → Int → Option Ret
  | 0, _, _, _ => none
  | n_5 + 1, k4_0_7, x3_2, x5_4 =>
    bif (decide (x5_4 < (List.length x4_3 : Int))) then
      bif (inB x5_4 (List.length x4_3)) then
        bif (ByteArray.toList (List.getD x4_3 (Int.toNat x5_4) ByteArray.empty) == ByteArray.toList s_open) then
          bif (decide ((List.length x3_2 + List.length [x5_4]) * 1 ≤ 4398046511104)) then
            (spec_OpenClaims_l4 x4_3 n_5 k4_0_7) (x3_2 ++ [x5_4]) (IntKind.wrap .i64 (x5_4 + (1 : Int)))
          else none
        else
          (spec_OpenClaims_l4 x4_3 n_5 k4_0_7) x3_2 (IntKind.wrap .i64 (x5_4 + (1 : Int)))
      else none
    else
      k4_0_7 x3_2
noncomputable def spec_OpenClaims (N : Nat) (a0 : QILLIE) (kf : (List Int) → Option Ret) : Option Ret :=
  spec_Labels N a0 (fun (r8_1 : (List ByteArray)) =>
    spec_OpenClaims_l4 r8_1 N kf ([] : (List Int)) (0 : Int))
noncomputable def spec_OpenShare (N : Nat) (a0 : QILLIE) (kf : Int → Option Ret) : Option Ret :=
  bif (a0.1 == (0 : Int)) then
    kf (0 : Int)
  else
    spec_IsGraph N a0 (fun (r8_1 : Bool) =>
      bif (!r8_1) then
        kf (0 : Int)
      else
        spec_OpenClaims N a0 (fun (r12_2 : (List Int)) =>
          bif (!decide (a0.1 = 0)) then
            kf (IntKind.wrap .i64 (Int.tdiv (IntKind.wrap .i64 ((100 : Int) * (List.length r12_2 : Int))) a0.1))
          else none))
noncomputable def impl_isClaim (N : Nat) (a0 : QILLIE) (a1 : Int) (kf : Bool → Option Ret) : Option Ret :=
  impl_InRange N a1 (0 : Int) (IntKind.wrap .i64 (a0.1 - (1 : Int))) kf
noncomputable def cmp_isNaN_int (N : Nat) (a0 : Int) (kf : Bool → Option Ret) : Option Ret :=
  kf (a0 != a0)
noncomputable def cmp_Compare_int (N : Nat) (a0 : Int) (a1 : Int) (kf : Int → Option Ret) : Option Ret :=
  cmp_isNaN_int N a0 (fun (r8_1 : Bool) =>
    cmp_isNaN_int N a1 (fun (r10_2 : Bool) =>
      bif r8_1 then
        bif r10_2 then
          kf (0 : Int)
        else
          kf (-1 : Int)
      else
        bif r10_2 then
          kf (1 : Int)
        else
          bif (decide (a0 < a1)) then
            kf (-1 : Int)
          else
            bif (decide (a0 > a1)) then
              kf (1 : Int)
            else
              kf (0 : Int)))
noncomputable def slices_Compare_int_l2 (N : Nat) (x0_1 : (List Int)) (x1_2 : (List Int)) (x9_3 : (List Int)) (x10_4 : Int) : Nat → (Option Ret) → (Int → Option Ret) → Int → Option Ret
  | 0, _, _, _ => none
  | n_6 + 1, k2_0_8, k2_1_9, x11_5 =>
    bif (decide (x11_5 < x10_4)) then
      bif (inB x11_5 (List.length x9_3)) then
        bif (decide (x11_5 ≥ (List.length x1_2 : Int))) then
          k2_1_9 (1 : Int)
        else
          bif (inB x11_5 (List.length x1_2)) then
            cmp_Compare_int N (List.getD x9_3 (Int.toNat x11_5) (0 : Int)) (List.getD x1_2 (Int.toNat x11_5) (0 : Int)) (fun (r26_7 : Int) =>
              bif (r26_7 != (0 : Int)) then
                k2_1_9 r26_7
              else
                (slices_Compare_int_l2 N x0_1 x1_2 x9_3 x10_4 n_6 k2_0_8 k2_1_9) (IntKind.wrap .i64 (x11_5 + (1 : Int))))
          else none
      else none
    else
      k2_0_8
noncomputable def slices_Compare_int (N : Nat) (a0 : (List Int)) (a1 : (List Int)) (kf : Int → Option Ret) : Option Ret :=
  slices_Compare_int_l2 N a0 a1 a0 (List.length a0 : Int) N (
    bif (decide ((List.length a0 : Int) < (List.length a1 : Int))) then
      kf (-1 : Int)
    else
      kf (0 : Int)) kf (0 : Int)
noncomputable def impl_IsGraph_l4 (N : Nat) (x1_2 : QILLIE) (x10_3 : (List (List Int))) (x11_4 : Int) : Nat → (Option Ret) → (Bool → Option Ret) → Int → Option Ret
  | 0, _, _, _ => none
  | n_6 + 1, k4_0_10, k4_1_11, x12_5 =>
    bif (decide (x12_5 < x11_4)) then
      bif (inB x12_5 (List.length x10_3)) then
        bif ((List.length (List.getD x10_3 (Int.toNat x12_5) ([] : (List Int))) : Int) != (2 : Int)) then
          k4_1_11 false
        else
          bif (inB (0 : Int) (List.length (List.getD x10_3 (Int.toNat x12_5) ([] : (List Int))))) then
            impl_isClaim N x1_2 (List.getD (List.getD x10_3 (Int.toNat x12_5) ([] : (List Int))) (Int.toNat (0 : Int)) (0 : Int)) (fun (r25_7 : Bool) =>
              bif (!r25_7) then
                k4_1_11 false
              else
                bif (inB (1 : Int) (List.length (List.getD x10_3 (Int.toNat x12_5) ([] : (List Int))))) then
                  impl_isClaim N x1_2 (List.getD (List.getD x10_3 (Int.toNat x12_5) ([] : (List Int))) (Int.toNat (1 : Int)) (0 : Int)) (fun (r33_8 : Bool) =>
                    bif (!r33_8) then
                      k4_1_11 false
                    else
                      bif (decide (x12_5 > (0 : Int))) then
                        bif (inB (IntKind.wrap .i64 (x12_5 - (1 : Int))) (List.length x1_2.2)) then
                          slices_Compare_int N (List.getD x1_2.2 (Int.toNat (IntKind.wrap .i64 (x12_5 - (1 : Int)))) ([] : (List Int))) (List.getD x10_3 (Int.toNat x12_5) ([] : (List Int))) (fun (r47_9 : Int) =>
                            bif (decide (r47_9 ≥ (0 : Int))) then
                              k4_1_11 false
                            else
                              (impl_IsGraph_l4 N x1_2 x10_3 x11_4 n_6 k4_0_10 k4_1_11) (IntKind.wrap .i64 (x12_5 + (1 : Int))))
                        else none
                      else
                        (impl_IsGraph_l4 N x1_2 x10_3 x11_4 n_6 k4_0_10 k4_1_11) (IntKind.wrap .i64 (x12_5 + (1 : Int))))
                else none)
          else none
      else none
    else
      k4_0_10
noncomputable def impl_IsGraph (N : Nat) (a0 : QILLIE) (kf : Bool → Option Ret) : Option Ret :=
  impl_InRange N a0.1 (0 : Int) (10 : Int) (fun (r7_1 : Bool) =>
    bif (!r7_1) then
      kf false
    else
      impl_IsGraph_l4 N a0 a0.2 (List.length a0.2 : Int) N (kf true) kf (0 : Int))
noncomputable def impl_IsSet_l4 (N : Nat) (x1_2 : (List Int)) (x2_3 : QILLIE) (x10_4 : (List Int)) (x11_5 : Int) : Nat → (Option Ret) → (Bool → Option Ret) → Int → Option Ret
  | 0, _, _, _ => none
  | n_7 + 1, k4_0_9, k4_1_10, x12_6 =>
    bif (decide (x12_6 < x11_5)) then
      bif (inB x12_6 (List.length x10_4)) then
        impl_isClaim N x2_3 (List.getD x10_4 (Int.toNat x12_6) (0 : Int)) (fun (r19_8 : Bool) =>
          bif (!r19_8) then
            k4_1_10 false
          else
            bif (decide (x12_6 > (0 : Int))) then
              bif (inB (IntKind.wrap .i64 (x12_6 - (1 : Int))) (List.length x1_2)) then
                bif (decide ((List.getD x10_4 (Int.toNat x12_6) (0 : Int)) ≤ (List.getD x1_2 (Int.toNat (IntKind.wrap .i64 (x12_6 - (1 : Int)))) (0 : Int)))) then
                  k4_1_10 false
                else
                  (impl_IsSet_l4 N x1_2 x2_3 x10_4 x11_5 n_7 k4_0_9 k4_1_10) (IntKind.wrap .i64 (x12_6 + (1 : Int)))
              else none
            else
              (impl_IsSet_l4 N x1_2 x2_3 x10_4 x11_5 n_7 k4_0_9 k4_1_10) (IntKind.wrap .i64 (x12_6 + (1 : Int))))
      else none
    else
      k4_0_9
noncomputable def impl_IsSet (N : Nat) (a0 : QILLIE) (a1 : (List Int)) (kf : Bool → Option Ret) : Option Ret :=
  impl_IsGraph N a0 (fun (r8_1 : Bool) =>
    bif (!r8_1) then
      kf false
    else
      impl_IsSet_l4 N a1 a0 a1 (List.length a1 : Int) N (kf true) kf (0 : Int))
noncomputable def impl_VictimsOf_l5 (x1_2 : Int) (x14_4 : (List (List Int))) (x15_5 : Int) : Nat → ((List Int) → Option Ret) → (List Int) → Int → Option Ret
  | 0, _, _, _ => none
  | n_7 + 1, k5_0_9, x5_3, x16_6 =>
    bif (decide (x16_6 < x15_5)) then
      bif (inB x16_6 (List.length x14_4)) then
        bif (inB (0 : Int) (List.length (List.getD x14_4 (Int.toNat x16_6) ([] : (List Int))))) then
          bif ((List.getD (List.getD x14_4 (Int.toNat x16_6) ([] : (List Int))) (Int.toNat (0 : Int)) (0 : Int)) == x1_2) then
            bif (inB (1 : Int) (List.length (List.getD x14_4 (Int.toNat x16_6) ([] : (List Int))))) then
              bif (decide ((List.length x5_3 + List.length [(List.getD (List.getD x14_4 (Int.toNat x16_6) ([] : (List Int))) (Int.toNat (1 : Int)) (0 : Int))]) * 1 ≤ 4398046511104)) then
                (impl_VictimsOf_l5 x1_2 x14_4 x15_5 n_7 k5_0_9) (x5_3 ++ [(List.getD (List.getD x14_4 (Int.toNat x16_6) ([] : (List Int))) (Int.toNat (1 : Int)) (0 : Int))]) (IntKind.wrap .i64 (x16_6 + (1 : Int)))
              else none
            else none
          else
            (impl_VictimsOf_l5 x1_2 x14_4 x15_5 n_7 k5_0_9) x5_3 (IntKind.wrap .i64 (x16_6 + (1 : Int)))
        else none
      else none
    else
      k5_0_9 x5_3
noncomputable def impl_VictimsOf (N : Nat) (a0 : QILLIE) (a1 : Int) (kf : (List Int) → Option Ret) : Option Ret :=
  impl_IsGraph N a0 (fun (r10_1 : Bool) =>
    bif (!r10_1) then
      kf ([] : (List Int))
    else
      impl_VictimsOf_l5 a1 a0.2 (List.length a0.2 : Int) N kf ([] : (List Int)) (0 : Int))
noncomputable def slices_Sort_int (N : Nat) (a0 : (List Int)) (kf : (List Int) → Option Ret) : Option Ret :=
  bif (Nat.blt (List.length a0) 4611686018427387904) then
    kf (sortL a0)
  else none
noncomputable def slices_Compact_int (N : Nat) (a0 : (List Int)) (kf : (List Int) → Option Ret) : Option Ret :=
  kf (compactL a0)
noncomputable def impl_HitBy_l3 (N : Nat) (x2_1 : QILLIE) (x9_3 : (List Int)) (x10_4 : Int) : Nat → ((List Int) → Option Ret) → (List Int) → Int → Option Ret
  | 0, _, _, _ => none
  | n_6 + 1, k3_0_8, x5_2, x11_5 =>
    bif (decide (x11_5 < x10_4)) then
      bif (inB x11_5 (List.length x9_3)) then
        impl_VictimsOf N x2_1 (List.getD x9_3 (Int.toNat x11_5) (0 : Int)) (fun (r18_7 : (List Int)) =>
          bif (decide ((List.length x5_2 + List.length r18_7) * 1 ≤ 4398046511104)) then
            (impl_HitBy_l3 N x2_1 x9_3 x10_4 n_6 k3_0_8) (x5_2 ++ r18_7) (IntKind.wrap .i64 (x11_5 + (1 : Int)))
          else none)
      else none
    else
      k3_0_8 x5_2
noncomputable def impl_HitBy (N : Nat) (a0 : QILLIE) (a1 : (List Int)) (kf : (List Int) → Option Ret) : Option Ret :=
  impl_HitBy_l3 N a0 a1 (List.length a1 : Int) N (fun (z5_10 : (List Int)) =>
    slices_Sort_int N z5_10 (fun (z5_11 : (List Int)) =>
      slices_Compact_int N z5_11 kf)) ([] : (List Int)) (0 : Int)
noncomputable def impl_AttackersOf_l5 (x1_2 : Int) (x14_4 : (List (List Int))) (x15_5 : Int) : Nat → ((List Int) → Option Ret) → (List Int) → Int → Option Ret
  | 0, _, _, _ => none
  | n_7 + 1, k5_0_9, x5_3, x16_6 =>
    bif (decide (x16_6 < x15_5)) then
      bif (inB x16_6 (List.length x14_4)) then
        bif (inB (1 : Int) (List.length (List.getD x14_4 (Int.toNat x16_6) ([] : (List Int))))) then
          bif ((List.getD (List.getD x14_4 (Int.toNat x16_6) ([] : (List Int))) (Int.toNat (1 : Int)) (0 : Int)) == x1_2) then
            bif (inB (0 : Int) (List.length (List.getD x14_4 (Int.toNat x16_6) ([] : (List Int))))) then
              bif (decide ((List.length x5_3 + List.length [(List.getD (List.getD x14_4 (Int.toNat x16_6) ([] : (List Int))) (Int.toNat (0 : Int)) (0 : Int))]) * 1 ≤ 4398046511104)) then
                (impl_AttackersOf_l5 x1_2 x14_4 x15_5 n_7 k5_0_9) (x5_3 ++ [(List.getD (List.getD x14_4 (Int.toNat x16_6) ([] : (List Int))) (Int.toNat (0 : Int)) (0 : Int))]) (IntKind.wrap .i64 (x16_6 + (1 : Int)))
              else none
            else none
          else
            (impl_AttackersOf_l5 x1_2 x14_4 x15_5 n_7 k5_0_9) x5_3 (IntKind.wrap .i64 (x16_6 + (1 : Int)))
        else none
      else none
    else
      k5_0_9 x5_3
noncomputable def impl_AttackersOf (N : Nat) (a0 : QILLIE) (a1 : Int) (kf : (List Int) → Option Ret) : Option Ret :=
  impl_IsGraph N a0 (fun (r10_1 : Bool) =>
    bif (!r10_1) then
      kf ([] : (List Int))
    else
      impl_AttackersOf_l5 a1 a0.2 (List.length a0.2 : Int) N kf ([] : (List Int)) (0 : Int))
noncomputable def impl_Defends_l5 (N : Nat) (x7_5 : (List Int)) (x25_6 : (List Int)) (x26_7 : Int) : Nat → (Option Ret) → (Bool → Option Ret) → Int → Option Ret
  | 0, _, _, _ => none
  | n_9 + 1, k5_0_11, k5_1_12, x27_8 =>
    bif (decide (x27_8 < x26_7)) then
      bif (inB x27_8 (List.length x25_6)) then
        slices_Contains_int N x7_5 (List.getD x25_6 (Int.toNat x27_8) (0 : Int)) (fun (r33_10 : Bool) =>
          bif (!r33_10) then
            k5_1_12 false
          else
            (impl_Defends_l5 N x7_5 x25_6 x26_7 n_9 k5_0_11 k5_1_12) (IntKind.wrap .i64 (x27_8 + (1 : Int))))
      else none
    else
      k5_0_11
noncomputable def impl_Defends (N : Nat) (a0 : QILLIE) (a1 : (List Int)) (a2 : Int) (kf : Bool → Option Ret) : Option Ret :=
  impl_IsSet N a0 a1 (fun (r12_1 : Bool) =>
    bif (!r12_1) then
      kf false
    else
      impl_isClaim N a0 a2 (fun (r17_2 : Bool) =>
        bif (!r17_2) then
          kf false
        else
          impl_HitBy N a0 a1 (fun (r22_3 : (List Int)) =>
            impl_AttackersOf N a0 a2 (fun (r25_4 : (List Int)) =>
              impl_Defends_l5 N r22_3 r25_4 (List.length r25_4 : Int) N (kf true) kf (0 : Int)))))
noncomputable def impl_DefendedBy_l5 (N : Nat) (x1_2 : (List Int)) (x2_3 : QILLIE) (x14_5 : Int) : Nat → ((List Int) → Option Ret) → (List Int) → Int → Option Ret
  | 0, _, _, _ => none
  | n_7 + 1, k5_0_10, x5_4, x15_6 =>
    bif (decide (x15_6 < x14_5)) then
      impl_Defends N x2_3 x1_2 x15_6 (fun (r21_8 : Bool) =>
        bif r21_8 then
          bif (decide ((List.length x5_4 + List.length [x15_6]) * 1 ≤ 4398046511104)) then
            (impl_DefendedBy_l5 N x1_2 x2_3 x14_5 n_7 k5_0_10) (x5_4 ++ [x15_6]) (IntKind.wrap .i64 (x15_6 + (1 : Int)))
          else none
        else
          (impl_DefendedBy_l5 N x1_2 x2_3 x14_5 n_7 k5_0_10) x5_4 (IntKind.wrap .i64 (x15_6 + (1 : Int))))
    else
      k5_0_10 x5_4
noncomputable def impl_DefendedBy (N : Nat) (a0 : QILLIE) (a1 : (List Int)) (kf : (List Int) → Option Ret) : Option Ret :=
  impl_IsSet N a0 a1 (fun (r10_1 : Bool) =>
    bif (!r10_1) then
      kf ([] : (List Int))
    else
      impl_DefendedBy_l5 N a1 a0 a0.1 N kf ([] : (List Int)) (0 : Int))
noncomputable def slices_Equal_int_l4 (x0_1 : (List Int)) (x1_2 : (List Int)) (x12_3 : Int) : Nat → (Option Ret) → (Bool → Option Ret) → Int → Option Ret
  | 0, _, _, _ => none
  | n_5 + 1, k4_0_6, k4_1_7, x13_4 =>
    bif (decide (x13_4 < x12_3)) then
      bif (inB x13_4 (List.length x0_1)) then
        bif (inB x13_4 (List.length x1_2)) then
          bif ((List.getD x0_1 (Int.toNat x13_4) (0 : Int)) != (List.getD x1_2 (Int.toNat x13_4) (0 : Int))) then
            k4_1_7 false
          else
            (slices_Equal_int_l4 x0_1 x1_2 x12_3 n_5 k4_0_6 k4_1_7) (IntKind.wrap .i64 (x13_4 + (1 : Int)))
        else none
      else none
    else
      k4_0_6
noncomputable def slices_Equal_int (N : Nat) (a0 : (List Int)) (a1 : (List Int)) (kf : Bool → Option Ret) : Option Ret :=
  bif ((List.length a0 : Int) != (List.length a1 : Int)) then
    kf false
  else
    slices_Equal_int_l4 a0 a1 (List.length a0 : Int) N (kf true) kf (0 : Int)
noncomputable def impl_rounds_l4 (N : Nat) (x1_2 : QILLIE) : Nat → ((List (List Int)) → Option Ret) → (List (List Int)) → Option Ret
  | 0, _, _ => none
  | n_4 + 1, k4_0_7, x3_3 =>
    bif (inB (IntKind.wrap .i64 ((List.length x3_3 : Int) - (1 : Int))) (List.length x3_3)) then
      impl_DefendedBy N x1_2 (List.getD x3_3 (Int.toNat (IntKind.wrap .i64 ((List.length x3_3 : Int) - (1 : Int)))) ([] : (List Int))) (fun (r20_5 : (List Int)) =>
        slices_Equal_int N r20_5 (List.getD x3_3 (Int.toNat (IntKind.wrap .i64 ((List.length x3_3 : Int) - (1 : Int)))) ([] : (List Int))) (fun (r23_6 : Bool) =>
          bif r23_6 then
            k4_0_7 x3_3
          else
            bif (decide ((List.length x3_3 + List.length [r20_5]) * 1 ≤ 4398046511104)) then
              (impl_rounds_l4 N x1_2 n_4 k4_0_7) (x3_3 ++ [r20_5])
            else none))
    else none
noncomputable def impl_rounds (N : Nat) (a0 : QILLIE) (kf : (List (List Int)) → Option Ret) : Option Ret :=
  impl_IsGraph N a0 (fun (r9_1 : Bool) =>
    bif (!r9_1) then
      kf [([] : (List Int))]
    else
      impl_rounds_l4 N a0 N kf [([] : (List Int))])
noncomputable def impl_Grounded (N : Nat) (a0 : QILLIE) (kf : (List Int) → Option Ret) : Option Ret :=
  impl_rounds N a0 (fun (r5_1 : (List (List Int))) =>
    bif (inB (IntKind.wrap .i64 ((List.length r5_1 : Int) - (1 : Int))) (List.length r5_1)) then
      kf (List.getD r5_1 (Int.toNat (IntKind.wrap .i64 ((List.length r5_1 : Int) - (1 : Int)))) ([] : (List Int)))
    else none)
noncomputable def impl_Labels_l7 (N : Nat) (x4_5 : (List Int)) (x5_6 : (List Int)) (x18_7 : Int) : Nat → ((List ByteArray) → Option Ret) → (List ByteArray) → Int → Option Ret
  | 0, _, _, _ => none
  | n_9 + 1, k7_0_13, x3_4, x19_8 =>
    bif (decide (x19_8 < x18_7)) then
      slices_Contains_int N x4_5 x19_8 (fun (r28_10 : Bool) =>
        bif r28_10 then
          bif (decide ((List.length x3_4 + List.length [s_in]) * 1 ≤ 4398046511104)) then
            (impl_Labels_l7 N x4_5 x5_6 x18_7 n_9 k7_0_13) (x3_4 ++ [s_in]) (IntKind.wrap .i64 (x19_8 + (1 : Int)))
          else none
        else
          slices_Contains_int N x5_6 x19_8 (fun (r35_11 : Bool) =>
            bif r35_11 then
              bif (decide ((List.length x3_4 + List.length [s_out]) * 1 ≤ 4398046511104)) then
                (impl_Labels_l7 N x4_5 x5_6 x18_7 n_9 k7_0_13) (x3_4 ++ [s_out]) (IntKind.wrap .i64 (x19_8 + (1 : Int)))
              else none
            else
              bif (decide ((List.length x3_4 + List.length [s_open]) * 1 ≤ 4398046511104)) then
                (impl_Labels_l7 N x4_5 x5_6 x18_7 n_9 k7_0_13) (x3_4 ++ [s_open]) (IntKind.wrap .i64 (x19_8 + (1 : Int)))
              else none))
    else
      k7_0_13 x3_4
noncomputable def impl_Labels (N : Nat) (a0 : QILLIE) (kf : (List ByteArray) → Option Ret) : Option Ret :=
  impl_IsGraph N a0 (fun (r9_1 : Bool) =>
    bif (!r9_1) then
      kf ([] : (List ByteArray))
    else
      impl_Grounded N a0 (fun (r13_2 : (List Int)) =>
        impl_HitBy N a0 r13_2 (fun (r16_3 : (List Int)) =>
          impl_Labels_l7 N r13_2 r16_3 a0.1 N kf ([] : (List ByteArray)) (0 : Int))))
noncomputable def impl_OpenClaims_l3 (x8_3 : (List ByteArray)) (x9_4 : Int) : Nat → ((List Int) → Option Ret) → (List Int) → Int → Option Ret
  | 0, _, _, _ => none
  | n_6 + 1, k3_0_8, x3_2, x10_5 =>
    bif (decide (x10_5 < x9_4)) then
      bif (inB x10_5 (List.length x8_3)) then
        bif (ByteArray.toList (List.getD x8_3 (Int.toNat x10_5) ByteArray.empty) == ByteArray.toList s_open) then
          bif (decide ((List.length x3_2 + List.length [x10_5]) * 1 ≤ 4398046511104)) then
            (impl_OpenClaims_l3 x8_3 x9_4 n_6 k3_0_8) (x3_2 ++ [x10_5]) (IntKind.wrap .i64 (x10_5 + (1 : Int)))
          else none
        else
          (impl_OpenClaims_l3 x8_3 x9_4 n_6 k3_0_8) x3_2 (IntKind.wrap .i64 (x10_5 + (1 : Int)))
      else none
    else
      k3_0_8 x3_2
noncomputable def impl_OpenClaims (N : Nat) (a0 : QILLIE) (kf : (List Int) → Option Ret) : Option Ret :=
  impl_Labels N a0 (fun (r8_1 : (List ByteArray)) =>
    impl_OpenClaims_l3 r8_1 (List.length r8_1 : Int) N kf ([] : (List Int)) (0 : Int))
noncomputable def impl_OpenShare (N : Nat) (a0 : QILLIE) (kf : Int → Option Ret) : Option Ret :=
  bif (a0.1 == (0 : Int)) then
    kf (0 : Int)
  else
    impl_IsGraph N a0 (fun (r8_1 : Bool) =>
      bif (!r8_1) then
        kf (0 : Int)
      else
        impl_OpenClaims N a0 (fun (r12_2 : (List Int)) =>
          bif (!decide (a0.1 = 0)) then
            kf (IntKind.wrap .i64 (Int.tdiv (IntKind.wrap .i64 ((100 : Int) * (List.length r12_2 : Int))) a0.1))
          else none))
noncomputable def laws_eqIntS_l4 (x0_1 : (List Int)) (x1_2 : (List Int)) : Nat → (Option Ret) → (Bool → Option Ret) → Int → Option Ret
  | 0, _, _, _ => none
  | n_4 + 1, k4_0_5, k4_1_6, x5_3 =>
    bif (decide (x5_3 < (List.length x0_1 : Int))) then
      bif (inB x5_3 (List.length x0_1)) then
        bif (inB x5_3 (List.length x1_2)) then
          bif ((List.getD x0_1 (Int.toNat x5_3) (0 : Int)) != (List.getD x1_2 (Int.toNat x5_3) (0 : Int))) then
            k4_1_6 false
          else
            (laws_eqIntS_l4 x0_1 x1_2 n_4 k4_0_5 k4_1_6) (IntKind.wrap .i64 (x5_3 + (1 : Int)))
        else none
      else none
    else
      k4_0_5
noncomputable def laws_eqIntS (N : Nat) (a0 : (List Int)) (a1 : (List Int)) (kf : Bool → Option Ret) : Option Ret :=
  bif ((List.length a0 : Int) != (List.length a1 : Int)) then
    kf false
  else
    laws_eqIntS_l4 a0 a1 N (kf true) kf (0 : Int)
noncomputable def laws_eqIntSS_l4 (N : Nat) (x0_1 : (List (List Int))) (x1_2 : (List (List Int))) : Nat → (Option Ret) → (Bool → Option Ret) → Int → Option Ret
  | 0, _, _, _ => none
  | n_4 + 1, k4_0_6, k4_1_7, x5_3 =>
    bif (decide (x5_3 < (List.length x0_1 : Int))) then
      bif (inB x5_3 (List.length x0_1)) then
        bif (inB x5_3 (List.length x1_2)) then
          laws_eqIntS N (List.getD x0_1 (Int.toNat x5_3) ([] : (List Int))) (List.getD x1_2 (Int.toNat x5_3) ([] : (List Int))) (fun (r25_5 : Bool) =>
            bif (!r25_5) then
              k4_1_7 false
            else
              (laws_eqIntSS_l4 N x0_1 x1_2 n_4 k4_0_6 k4_1_7) (IntKind.wrap .i64 (x5_3 + (1 : Int))))
        else none
      else none
    else
      k4_0_6
noncomputable def laws_eqIntSS (N : Nat) (a0 : (List (List Int))) (a1 : (List (List Int))) (kf : Bool → Option Ret) : Option Ret :=
  bif ((List.length a0 : Int) != (List.length a1 : Int)) then
    kf false
  else
    laws_eqIntSS_l4 N a0 a1 N (kf true) kf (0 : Int)
noncomputable def laws_eqGraph (N : Nat) (a0 : QILLIE) (a1 : QILLIE) (kf : Bool → Option Ret) : Option Ret :=
  bif (a0.1 != a1.1) then
    kf false
  else
    laws_eqIntSS N a0.2 a1.2 (fun (r14_1 : Bool) =>
      bif (!r14_1) then
        kf false
      else
        kf true)
noncomputable def laws_FnExactOpenShare (N : Nat) (a0 : QILLIE) (kf : Bool → Option Ret) : Option Ret :=
  laws_szGraph N a0 (1048576 : Int) (fun (r9_1 : Int) =>
    bif (decide (r9_1 < (0 : Int))) then
      kf true
    else
      laws_toGraph N a0 (fun (r13_2 : QILLIE) =>
        spec_OpenShare N r13_2 (fun (r14_3 : Int) =>
          laws_toGraph N a0 (fun (r16_4 : QILLIE) =>
            impl_OpenShare N r16_4 (fun (r18_5 : Int) =>
              bif (r18_5 != r14_3) then
                kf false
              else
                laws_toGraph N a0 (fun (r24_6 : QILLIE) =>
                  laws_eqGraph N r16_4 r24_6 (fun (r25_7 : Bool) =>
                    bif (!r25_7) then
                      kf false
                    else
                      kf true)))))))
end Go.Pv.R
