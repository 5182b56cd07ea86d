/- What the functions compute, as plain functions. -/
import Derived.Test.YtglickbfclhmkaaPv4
namespace Go.Pv.R
set_option linter.unusedVariables false
set_option linter.unusedSimpArgs false
noncomputable def s_e : ByteArray := ⟨#[]⟩
noncomputable def s_abcdef : ByteArray := ⟨#[97, 98, 99, 100, 101, 102]⟩
noncomputable def s_h21 : ByteArray := ⟨#[33]⟩
noncomputable def s_h28 : ByteArray := ⟨#[40]⟩
noncomputable def s_h26 : ByteArray := ⟨#[38]⟩
noncomputable def s_h7c : ByteArray := ⟨#[124]⟩
noncomputable def s_h3e : ByteArray := ⟨#[62]⟩
noncomputable def s_h29 : ByteArray := ⟨#[41]⟩
noncomputable def s_h267c3e : ByteArray := ⟨#[38, 124, 62]⟩
noncomputable def spec_l32Read_j1 (self : ByteArray → Int → ((List Int) → Int → Option Ret) → Option Ret) (a0 : ByteArray) (kf : (List Int) → Int → Option Ret) (r61_3 : (List Int)) (r61_4 : Int) (y10_5 : Int) : Option Ret :=
  self a0 (IntKind.wrap .i64 (r61_4 + (1 : Int))) (fun (r85_6 : (List Int)) (r85_7 : Int) =>
    bif (y10_5 == (0 : Int)) then
      kf ([] : (List Int)) (-1 : Int)
    else
      bif (decide (r85_7 < (0 : Int))) then
        kf ([] : (List Int)) (-1 : Int)
      else
        bif (decide (r85_7 ≥ (ByteArray.size a0 : Int))) then
          kf ([] : (List Int)) (-1 : Int)
        else
          bif (inB r85_7 (ByteArray.size a0)) then
            bif ((bt a0 r85_7) != (41 : Int)) then
              kf ([] : (List Int)) (-1 : Int)
            else
              bif (decide ((List.length r61_3 + List.length r85_6) * 1 ≤ 4398046511104)) then
                bif (decide ((List.length (r61_3 ++ r85_6) + List.length [y10_5]) * 1 ≤ 4398046511104)) then
                  kf ((r61_3 ++ r85_6) ++ [y10_5]) (IntKind.wrap .i64 (r85_7 + (1 : Int)))
                else none
              else none
          else none)
noncomputable def spec_l32Read_j2 (self : ByteArray → Int → ((List Int) → Int → Option Ret) → Option Ret) (a0 : ByteArray) (kf : (List Int) → Int → Option Ret) (r61_10 : (List Int)) (r61_11 : Int) (y10_12 : Int) : Option Ret :=
  self a0 (IntKind.wrap .i64 (r61_11 + (1 : Int))) (fun (r85_13 : (List Int)) (r85_14 : Int) =>
    bif (y10_12 == (0 : Int)) then
      kf ([] : (List Int)) (-1 : Int)
    else
      bif (decide (r85_14 < (0 : Int))) then
        kf ([] : (List Int)) (-1 : Int)
      else
        bif (decide (r85_14 ≥ (ByteArray.size a0 : Int))) then
          kf ([] : (List Int)) (-1 : Int)
        else
          bif (inB r85_14 (ByteArray.size a0)) then
            bif ((bt a0 r85_14) != (41 : Int)) then
              kf ([] : (List Int)) (-1 : Int)
            else
              bif (decide ((List.length r61_10 + List.length r85_13) * 1 ≤ 4398046511104)) then
                bif (decide ((List.length (r61_10 ++ r85_13) + List.length [y10_12]) * 1 ≤ 4398046511104)) then
                  kf ((r61_10 ++ r85_13) ++ [y10_12]) (IntKind.wrap .i64 (r85_14 + (1 : Int)))
                else none
              else none
          else none)
noncomputable def spec_l32Read_b (self : ByteArray → Int → ((List Int) → Int → Option Ret) → Option Ret) (N : Nat) (a0 : ByteArray) (a1 : Int) (kf : (List Int) → Int → Option Ret) : Option Ret :=
  bif (decide (a1 ≥ (ByteArray.size a0 : Int))) then
    kf ([] : (List Int)) (-1 : Int)
  else
    bif (inB a1 (ByteArray.size a0)) then
      bif (decide ((bt a0 a1) ≥ (97 : Int))) then
        bif (inB a1 (ByteArray.size a0)) then
          bif (decide ((bt a0 a1) ≤ (102 : Int))) then
            bif (inB a1 (ByteArray.size a0)) then
              kf [(IntKind.wrap .i64 (IntKind.wrap .u8 ((bt a0 a1) - (97 : Int))))] (IntKind.wrap .i64 (a1 + (1 : Int)))
            else none
          else
            bif (inB a1 (ByteArray.size a0)) then
              bif ((bt a0 a1) == (33 : Int)) then
                self a0 (IntKind.wrap .i64 (a1 + (1 : Int))) (fun (r45_1 : (List Int)) (r45_2 : Int) =>
                  bif (decide ((List.length r45_1 + List.length [(-1 : Int)]) * 1 ≤ 4398046511104)) then
                    kf (r45_1 ++ [(-1 : Int)]) r45_2
                  else none)
              else
                bif (inB a1 (ByteArray.size a0)) then
                  bif ((bt a0 a1) == (40 : Int)) then
                    self a0 (IntKind.wrap .i64 (a1 + (1 : Int))) (fun (r61_3 : (List Int)) (r61_4 : Int) =>
                      bif (decide (r61_4 < (0 : Int))) then
                        kf ([] : (List Int)) (-1 : Int)
                      else
                        bif (decide (r61_4 ≥ (ByteArray.size a0 : Int))) then
                          kf ([] : (List Int)) (-1 : Int)
                        else
                          bif (inB r61_4 (ByteArray.size a0)) then
                            bif ((bt a0 r61_4) == (38 : Int)) then
                              spec_l32Read_j1 self a0 kf r61_3 r61_4 (-2 : Int)
                            else
                              bif ((bt a0 r61_4) == (124 : Int)) then
                                spec_l32Read_j1 self a0 kf r61_3 r61_4 (-3 : Int)
                              else
                                bif ((bt a0 r61_4) == (62 : Int)) then
                                  spec_l32Read_j1 self a0 kf r61_3 r61_4 (-4 : Int)
                                else
                                  spec_l32Read_j1 self a0 kf r61_3 r61_4 (0 : Int)
                          else none)
                  else
                    kf ([] : (List Int)) (-1 : Int)
                else none
            else none
        else none
      else
        bif (inB a1 (ByteArray.size a0)) then
          bif ((bt a0 a1) == (33 : Int)) then
            self a0 (IntKind.wrap .i64 (a1 + (1 : Int))) (fun (r45_8 : (List Int)) (r45_9 : Int) =>
              bif (decide ((List.length r45_8 + List.length [(-1 : Int)]) * 1 ≤ 4398046511104)) then
                kf (r45_8 ++ [(-1 : Int)]) r45_9
              else none)
          else
            bif (inB a1 (ByteArray.size a0)) then
              bif ((bt a0 a1) == (40 : Int)) then
                self a0 (IntKind.wrap .i64 (a1 + (1 : Int))) (fun (r61_10 : (List Int)) (r61_11 : Int) =>
                  bif (decide (r61_11 < (0 : Int))) then
                    kf ([] : (List Int)) (-1 : Int)
                  else
                    bif (decide (r61_11 ≥ (ByteArray.size a0 : Int))) then
                      kf ([] : (List Int)) (-1 : Int)
                    else
                      bif (inB r61_11 (ByteArray.size a0)) then
                        bif ((bt a0 r61_11) == (38 : Int)) then
                          spec_l32Read_j2 self a0 kf r61_10 r61_11 (-2 : Int)
                        else
                          bif ((bt a0 r61_11) == (124 : Int)) then
                            spec_l32Read_j2 self a0 kf r61_10 r61_11 (-3 : Int)
                          else
                            bif ((bt a0 r61_11) == (62 : Int)) then
                              spec_l32Read_j2 self a0 kf r61_10 r61_11 (-4 : Int)
                            else
                              spec_l32Read_j2 self a0 kf r61_10 r61_11 (0 : Int)
                      else none)
              else
                kf ([] : (List Int)) (-1 : Int)
            else none
        else none
    else none
noncomputable def spec_l32Read : Nat → ByteArray → Int → ((List Int) → Int → Option Ret) → Option Ret
  | 0, _, _, _ => none
  | N + 1, a0, a1, kf => spec_l32Read_b (spec_l32Read N) N a0 a1 kf
noncomputable def spec_l1In (N : Nat) (a0 : Int) (a1 : Int) (a2 : Int) (kf : Bool → Option Ret) : Option Ret :=
  bif (decide (a0 ≥ a1)) then
    kf (decide (a0 ≤ a2))
  else
    kf false
noncomputable def spec_IsFormula_l3 (N : Nat) (x0_1 : (List Int)) : Nat → (Int → Option Ret) → (Bool → Option Ret) → Int → Int → Option Ret
  | 0, _, _, _, _ => none
  | n_4 + 1, k3_0_9, k3_1_10, x3_2, x4_3 =>
    bif (decide (x4_3 < (List.length x0_1 : Int))) then
      bif (inB x4_3 (List.length x0_1)) then
        spec_l1In N (List.getD x0_1 (Int.toNat x4_3) (0 : Int)) (0 : Int) (5 : Int) (fun (r16_5 : Bool) =>
          bif r16_5 then
            (spec_IsFormula_l3 N x0_1 n_4 k3_0_9 k3_1_10) (IntKind.wrap .i64 (x3_2 + (1 : Int))) (IntKind.wrap .i64 (x4_3 + (1 : Int)))
          else
            bif (inB x4_3 (List.length x0_1)) then
              bif ((List.getD x0_1 (Int.toNat x4_3) (0 : Int)) == (-1 : Int)) then
                bif (decide (x3_2 ≥ (1 : Int))) then
                  (spec_IsFormula_l3 N x0_1 n_4 k3_0_9 k3_1_10) x3_2 (IntKind.wrap .i64 (x4_3 + (1 : Int)))
                else
                  bif (inB x4_3 (List.length x0_1)) then
                    spec_l1In N (List.getD x0_1 (Int.toNat x4_3) (0 : Int)) (-4 : Int) (-2 : Int) (fun (r34_6 : Bool) =>
                      bif r34_6 then
                        bif (decide (x3_2 ≥ (2 : Int))) then
                          (spec_IsFormula_l3 N x0_1 n_4 k3_0_9 k3_1_10) (IntKind.wrap .i64 (x3_2 - (1 : Int))) (IntKind.wrap .i64 (x4_3 + (1 : Int)))
                        else
                          k3_1_10 false
                      else
                        k3_1_10 false)
                  else none
              else
                bif (inB x4_3 (List.length x0_1)) then
                  spec_l1In N (List.getD x0_1 (Int.toNat x4_3) (0 : Int)) (-4 : Int) (-2 : Int) (fun (r34_7 : Bool) =>
                    bif r34_7 then
                      bif (decide (x3_2 ≥ (2 : Int))) then
                        (spec_IsFormula_l3 N x0_1 n_4 k3_0_9 k3_1_10) (IntKind.wrap .i64 (x3_2 - (1 : Int))) (IntKind.wrap .i64 (x4_3 + (1 : Int)))
                      else
                        k3_1_10 false
                    else
                      k3_1_10 false)
                else none
            else none)
      else none
    else
      k3_0_9 x3_2
noncomputable def spec_IsFormula (N : Nat) (a0 : (List Int)) (kf : Bool → Option Ret) : Option Ret :=
  spec_IsFormula_l3 N a0 N (fun (z3_12 : Int) =>
    bif (z3_12 == (1 : Int)) then
      kf (decide ((List.length a0 : Int) ≤ (24 : Int)))
    else
      kf false) kf (0 : Int) (0 : Int)
noncomputable def spec_FormulaText_l5 (x0_2 : (List Int)) : Nat → ((List ByteArray) → Option Ret) → (List ByteArray) → Int → Option Ret
  | 0, _, _, _ => none
  | n_5 + 1, k5_0_7, x3_3, x4_4 =>
    bif (decide (x4_4 < (List.length x0_2 : Int))) then
      bif (inB x4_4 (List.length x0_2)) then
        bif (decide ((List.getD x0_2 (Int.toNat x4_4) (0 : Int)) ≥ (0 : Int))) then
          bif (inB x4_4 (List.length x0_2)) then
            bif (inB x4_4 (List.length x0_2)) then
              bif (decide ((0 : Int) ≤ (List.getD x0_2 (Int.toNat x4_4) (0 : Int))) && decide ((List.getD x0_2 (Int.toNat x4_4) (0 : Int)) ≤ (IntKind.wrap .i64 ((List.getD x0_2 (Int.toNat x4_4) (0 : Int)) + (1 : Int)))) && decide ((IntKind.wrap .i64 ((List.getD x0_2 (Int.toNat x4_4) (0 : Int)) + (1 : Int))) ≤ (ByteArray.size s_abcdef : Int))) then
                bif (decide ((List.length x3_3 + List.length [(ByteArray.extract s_abcdef (Int.toNat (List.getD x0_2 (Int.toNat x4_4) (0 : Int))) (Int.toNat (IntKind.wrap .i64 ((List.getD x0_2 (Int.toNat x4_4) (0 : Int)) + (1 : Int)))))]) * 1 ≤ 4398046511104)) then
                  (spec_FormulaText_l5 x0_2 n_5 k5_0_7) (x3_3 ++ [(ByteArray.extract s_abcdef (Int.toNat (List.getD x0_2 (Int.toNat x4_4) (0 : Int))) (Int.toNat (IntKind.wrap .i64 ((List.getD x0_2 (Int.toNat x4_4) (0 : Int)) + (1 : Int)))))]) (IntKind.wrap .i64 (x4_4 + (1 : Int)))
                else none
              else none
            else none
          else none
        else
          bif (inB x4_4 (List.length x0_2)) then
            bif ((List.getD x0_2 (Int.toNat x4_4) (0 : Int)) == (-1 : Int)) then
              bif (inB (IntKind.wrap .i64 ((List.length x3_3 : Int) - (1 : Int))) (List.length x3_3)) then
                bif (decide (ByteArray.size s_h21 + ByteArray.size (List.getD x3_3 (Int.toNat (IntKind.wrap .i64 ((List.length x3_3 : Int) - (1 : Int)))) ByteArray.empty) ≤ 9223372036854775807)) then
                  bif (inB (IntKind.wrap .i64 ((List.length x3_3 : Int) - (1 : Int))) (List.length x3_3)) then
                    (spec_FormulaText_l5 x0_2 n_5 k5_0_7) (List.set x3_3 (Int.toNat (IntKind.wrap .i64 ((List.length x3_3 : Int) - (1 : Int)))) (s_h21 ++ (List.getD x3_3 (Int.toNat (IntKind.wrap .i64 ((List.length x3_3 : Int) - (1 : Int)))) ByteArray.empty))) (IntKind.wrap .i64 (x4_4 + (1 : Int)))
                  else none
                else none
              else none
            else
              bif (inB (IntKind.wrap .i64 ((List.length x3_3 : Int) - (2 : Int))) (List.length x3_3)) then
                bif (decide (ByteArray.size s_h28 + ByteArray.size (List.getD x3_3 (Int.toNat (IntKind.wrap .i64 ((List.length x3_3 : Int) - (2 : Int)))) ByteArray.empty) ≤ 9223372036854775807)) then
                  bif (inB x4_4 (List.length x0_2)) then
                    bif (inB (IntKind.wrap .i64 ((List.length x3_3 : Int) - (1 : Int))) (List.length x3_3)) then
                      bif (inB (IntKind.wrap .i64 ((IntKind.wrap .i64 (0 - (List.getD x0_2 (Int.toNat x4_4) (0 : Int)))) - (2 : Int))) (List.length [s_h26, s_h7c, s_h3e])) then
                        bif (decide (ByteArray.size (s_h28 ++ (List.getD x3_3 (Int.toNat (IntKind.wrap .i64 ((List.length x3_3 : Int) - (2 : Int)))) ByteArray.empty)) + ByteArray.size (List.getD [s_h26, s_h7c, s_h3e] (Int.toNat (IntKind.wrap .i64 ((IntKind.wrap .i64 (0 - (List.getD x0_2 (Int.toNat x4_4) (0 : Int)))) - (2 : Int)))) ByteArray.empty) ≤ 9223372036854775807)) then
                          bif (decide (ByteArray.size ((s_h28 ++ (List.getD x3_3 (Int.toNat (IntKind.wrap .i64 ((List.length x3_3 : Int) - (2 : Int)))) ByteArray.empty)) ++ (List.getD [s_h26, s_h7c, s_h3e] (Int.toNat (IntKind.wrap .i64 ((IntKind.wrap .i64 (0 - (List.getD x0_2 (Int.toNat x4_4) (0 : Int)))) - (2 : Int)))) ByteArray.empty)) + ByteArray.size (List.getD x3_3 (Int.toNat (IntKind.wrap .i64 ((List.length x3_3 : Int) - (1 : Int)))) ByteArray.empty) ≤ 9223372036854775807)) then
                            bif (decide (ByteArray.size (((s_h28 ++ (List.getD x3_3 (Int.toNat (IntKind.wrap .i64 ((List.length x3_3 : Int) - (2 : Int)))) ByteArray.empty)) ++ (List.getD [s_h26, s_h7c, s_h3e] (Int.toNat (IntKind.wrap .i64 ((IntKind.wrap .i64 (0 - (List.getD x0_2 (Int.toNat x4_4) (0 : Int)))) - (2 : Int)))) ByteArray.empty)) ++ (List.getD x3_3 (Int.toNat (IntKind.wrap .i64 ((List.length x3_3 : Int) - (1 : Int)))) ByteArray.empty)) + ByteArray.size s_h29 ≤ 9223372036854775807)) then
                              bif (decide ((0 : Int) ≤ (0 : Int)) && decide ((0 : Int) ≤ (IntKind.wrap .i64 ((List.length x3_3 : Int) - (2 : Int)))) && decide ((IntKind.wrap .i64 ((List.length x3_3 : Int) - (2 : Int))) ≤ (List.length x3_3 : Int))) then
                                bif (decide ((List.length (List.take (Int.toNat (IntKind.wrap .i64 ((List.length x3_3 : Int) - (2 : Int)))) x3_3) + List.length [((((s_h28 ++ (List.getD x3_3 (Int.toNat (IntKind.wrap .i64 ((List.length x3_3 : Int) - (2 : Int)))) ByteArray.empty)) ++ (List.getD [s_h26, s_h7c, s_h3e] (Int.toNat (IntKind.wrap .i64 ((IntKind.wrap .i64 (0 - (List.getD x0_2 (Int.toNat x4_4) (0 : Int)))) - (2 : Int)))) ByteArray.empty)) ++ (List.getD x3_3 (Int.toNat (IntKind.wrap .i64 ((List.length x3_3 : Int) - (1 : Int)))) ByteArray.empty)) ++ s_h29)]) * 1 ≤ 4398046511104)) then
                                  (spec_FormulaText_l5 x0_2 n_5 k5_0_7) ((List.take (Int.toNat (IntKind.wrap .i64 ((List.length x3_3 : Int) - (2 : Int)))) x3_3) ++ [((((s_h28 ++ (List.getD x3_3 (Int.toNat (IntKind.wrap .i64 ((List.length x3_3 : Int) - (2 : Int)))) ByteArray.empty)) ++ (List.getD [s_h26, s_h7c, s_h3e] (Int.toNat (IntKind.wrap .i64 ((IntKind.wrap .i64 (0 - (List.getD x0_2 (Int.toNat x4_4) (0 : Int)))) - (2 : Int)))) ByteArray.empty)) ++ (List.getD x3_3 (Int.toNat (IntKind.wrap .i64 ((List.length x3_3 : Int) - (1 : Int)))) ByteArray.empty)) ++ s_h29)]) (IntKind.wrap .i64 (x4_4 + (1 : Int)))
                                else none
                              else none
                            else none
                          else none
                        else none
                      else none
                    else none
                  else none
                else none
              else none
          else none
      else none
    else
      k5_0_7 x3_3
noncomputable def spec_FormulaText (N : Nat) (a0 : (List Int)) (kf : ByteArray → Option Ret) : Option Ret :=
  spec_IsFormula N a0 (fun (r8_1 : Bool) =>
    bif (!r8_1) then
      kf s_e
    else
      spec_FormulaText_l5 a0 N (fun (z3_9 : (List ByteArray)) =>
        bif (inB (0 : Int) (List.length z3_9)) then
          kf (List.getD z3_9 (Int.toNat (0 : Int)) ByteArray.empty)
        else none) ([] : (List ByteArray)) (0 : Int))
noncomputable def spec_ParseFormula (N : Nat) (a0 : ByteArray) (kf : (List Int) → Bool → Option Ret) : Option Ret :=
  bif (decide ((ByteArray.size a0 : Int) > (200 : Int))) then
    kf ([] : (List Int)) false
  else
    spec_l32Read N a0 (0 : Int) (fun (r12_1 : (List Int)) (r12_2 : Int) =>
      bif (r12_2 != (ByteArray.size a0 : Int)) then
        kf ([] : (List Int)) false
      else
        spec_FormulaText N r12_1 (fun (r21_3 : ByteArray) =>
          bif (!(ByteArray.toList r21_3 == ByteArray.toList a0)) then
            kf ([] : (List Int)) false
          else
            bif (ByteArray.toList a0 == ByteArray.toList s_e) then
              kf ([] : (List Int)) false
            else
              kf r12_1 true))
noncomputable def strings_IndexByte (N : Nat) (a0 : ByteArray) (a1 : Int) (kf : Int → Option Ret) : Option Ret :=
  kf (letterAt a0 a1)
noncomputable def slices_Grow_int (N : Nat) (a0 : (List Int)) (a1 : Int) (kf : (List Int) → Option Ret) : Option Ret :=
  bif (List.isEmpty a0 && (decide ((0 : Int) ≤ a1) && decide (a1 ≤ (549755813888 : Int)))) then
    kf ([] : List Int)
  else none
noncomputable def slices_Concat_int_l11 (x25_12 : (List (List Int))) (x26_13 : Int) : Nat → ((List Int) → Option Ret) → (List Int) → Int → Option Ret
  | 0, _, _, _ => none
  | n_15 + 1, k11_0_16, x6_11, x27_14 =>
    bif (decide (x27_14 < x26_13)) then
      bif (inB x27_14 (List.length x25_12)) then
        bif (decide ((List.length x6_11 + List.length (List.getD x25_12 (Int.toNat x27_14) ([] : (List Int)))) * 1 ≤ 4398046511104)) then
          (slices_Concat_int_l11 x25_12 x26_13 n_15 k11_0_16) (x6_11 ++ (List.getD x25_12 (Int.toNat x27_14) ([] : (List Int)))) (IntKind.wrap .i64 (x27_14 + (1 : Int)))
        else none
      else none
    else
      k11_0_16 x6_11
noncomputable def slices_Concat_int_l3 (x0_1 : (List (List Int))) (x9_3 : (List (List Int))) (x10_4 : Int) : Nat → (Int → Option Ret) → Int → Int → Option Ret
  | 0, _, _, _ => none
  | n_6 + 1, k3_0_7, x3_2, x11_5 =>
    bif (decide (x11_5 < x10_4)) then
      bif (inB x11_5 (List.length x9_3)) then
        bif (decide ((IntKind.wrap .i64 (x3_2 + (List.length (List.getD x9_3 (Int.toNat x11_5) ([] : (List Int))) : Int))) < (0 : Int))) then
          none
        else
          (slices_Concat_int_l3 x0_1 x9_3 x10_4 n_6 k3_0_7) (IntKind.wrap .i64 (x3_2 + (List.length (List.getD x9_3 (Int.toNat x11_5) ([] : (List Int))) : Int))) (IntKind.wrap .i64 (x11_5 + (1 : Int)))
      else none
    else
      k3_0_7 x3_2
noncomputable def slices_Concat_int (N : Nat) (a0 : (List (List Int))) (kf : (List Int) → Option Ret) : Option Ret :=
  slices_Concat_int_l3 a0 a0 (List.length a0 : Int) N (fun (z3_9 : Int) =>
    slices_Grow_int N ([] : (List Int)) z3_9 (fun (r24_10 : (List Int)) =>
      slices_Concat_int_l11 a0 (List.length a0 : Int) N kf r24_10 (0 : Int))) (0 : Int) (0 : Int)
noncomputable def impl_readFormula_b (self : ByteArray → ((List Int) → ByteArray → Bool → Option Ret) → Option Ret) (N : Nat) (a0 : ByteArray) (kf : (List Int) → ByteArray → Bool → Option Ret) : Option Ret :=
  bif (ByteArray.toList a0 == ByteArray.toList s_e) then
    kf ([] : (List Int)) s_e false
  else
    bif (inB (0 : Int) (ByteArray.size a0)) then
      bif ((bt a0 (0 : Int)) == (33 : Int)) then
        bif (decide ((0 : Int) ≤ (1 : Int)) && decide ((1 : Int) ≤ (ByteArray.size a0 : Int)) && decide ((ByteArray.size a0 : Int) ≤ (ByteArray.size a0 : Int))) then
          self (ByteArray.extract a0 (Int.toNat (1 : Int)) (Int.toNat (ByteArray.size a0 : Int))) (fun (r24_1 : (List Int)) (r24_2 : ByteArray) (r24_3 : Bool) =>
            bif (decide ((List.length r24_1 + List.length [(-1 : Int)]) * 1 ≤ 4398046511104)) then
              kf (r24_1 ++ [(-1 : Int)]) r24_2 r24_3
            else none)
        else none
      else
        bif (inB (0 : Int) (ByteArray.size a0)) then
          bif ((bt a0 (0 : Int)) == (40 : Int)) then
            bif (decide ((0 : Int) ≤ (1 : Int)) && decide ((1 : Int) ≤ (ByteArray.size a0 : Int)) && decide ((ByteArray.size a0 : Int) ≤ (ByteArray.size a0 : Int))) then
              self (ByteArray.extract a0 (Int.toNat (1 : Int)) (Int.toNat (ByteArray.size a0 : Int))) (fun (r40_4 : (List Int)) (r40_5 : ByteArray) (r40_6 : Bool) =>
                bif (!r40_6) then
                  kf ([] : (List Int)) s_e false
                else
                  bif (ByteArray.toList r40_5 == ByteArray.toList s_e) then
                    kf ([] : (List Int)) s_e false
                  else
                    bif (inB (0 : Int) (ByteArray.size r40_5)) then
                      strings_IndexByte N s_h267c3e (bt r40_5 (0 : Int)) (fun (r52_7 : Int) =>
                        bif (decide ((0 : Int) ≤ (1 : Int)) && decide ((1 : Int) ≤ (ByteArray.size r40_5 : Int)) && decide ((ByteArray.size r40_5 : Int) ≤ (ByteArray.size r40_5 : Int))) then
                          self (ByteArray.extract r40_5 (Int.toNat (1 : Int)) (Int.toNat (ByteArray.size r40_5 : Int))) (fun (r56_8 : (List Int)) (r56_9 : ByteArray) (r56_10 : Bool) =>
                            bif (decide (r52_7 < (0 : Int))) then
                              kf ([] : (List Int)) s_e false
                            else
                              bif (!r56_10) then
                                kf ([] : (List Int)) s_e false
                              else
                                bif (ByteArray.toList r56_9 == ByteArray.toList s_e) then
                                  kf ([] : (List Int)) s_e false
                                else
                                  bif (inB (0 : Int) (ByteArray.size r56_9)) then
                                    bif ((bt r56_9 (0 : Int)) != (41 : Int)) then
                                      kf ([] : (List Int)) s_e false
                                    else
                                      bif (decide ((0 : Int) ≤ (1 : Int)) && decide ((1 : Int) ≤ (ByteArray.size r56_9 : Int)) && decide ((ByteArray.size r56_9 : Int) ≤ (ByteArray.size r56_9 : Int))) then
                                        slices_Concat_int N [r40_4, r56_8, [(IntKind.wrap .i64 ((-2 : Int) - r52_7))]] (fun (r81_11 : (List Int)) =>
                                          kf r81_11 (ByteArray.extract r56_9 (Int.toNat (1 : Int)) (Int.toNat (ByteArray.size r56_9 : Int))) true)
                                      else none
                                  else none)
                        else none)
                    else none)
            else none
          else
            bif (inB (0 : Int) (ByteArray.size a0)) then
              bif (decide ((0 : Int) ≤ (1 : Int)) && decide ((1 : Int) ≤ (ByteArray.size a0 : Int)) && decide ((ByteArray.size a0 : Int) ≤ (ByteArray.size a0 : Int))) then
                kf [(IntKind.wrap .i64 ((IntKind.wrap .i64 (bt a0 (0 : Int))) - (97 : Int)))] (ByteArray.extract a0 (Int.toNat (1 : Int)) (Int.toNat (ByteArray.size a0 : Int))) true
              else none
            else none
        else none
    else none
noncomputable def impl_readFormula : Nat → ByteArray → ((List Int) → ByteArray → Bool → Option Ret) → Option Ret
  | 0, _, _ => none
  | N + 1, a0, kf => impl_readFormula_b (impl_readFormula N) N a0 kf
noncomputable def impl_InRange (N : Nat) (a0 : Int) (a1 : Int) (a2 : Int) (kf : Bool → Option Ret) : Option Ret :=
  bif (decide (a1 ≤ a0)) then
    kf (decide (a0 ≤ a2))
  else
    kf false
noncomputable def impl_letterRows_l3 (x0_1 : Int) : Nat → (Int → Option Ret) → Int → Int → Option Ret
  | 0, _, _, _ => none
  | n_4 + 1, k3_0_6, x3_2, x5_3 =>
    bif (decide (x5_3 < (64 : Int))) then
      bif (decide (0 ≤ x0_1)) then
        bif ((IntKind.wrap .i64 (BitVec.toNat (BitVec.ofInt (IntKind.bits .i64) (Int.fdiv x5_3 (2 ^ (min (Int.toNat x0_1) (IntKind.bits .i64)))) &&& BitVec.ofInt (IntKind.bits .i64) (1 : Int)))) == (1 : Int)) then
          bif (decide (0 ≤ x5_3)) then
            (impl_letterRows_l3 x0_1 n_4 k3_0_6) (IntKind.wrap .u64 (BitVec.toNat (BitVec.ofInt (IntKind.bits .u64) x3_2 ||| BitVec.ofInt (IntKind.bits .u64) (IntKind.wrap .u64 ((1 : Int) * 2 ^ (min (Int.toNat x5_3) (IntKind.bits .u64))))))) (IntKind.wrap .i64 (x5_3 + (1 : Int)))
          else none
        else
          (impl_letterRows_l3 x0_1 n_4 k3_0_6) x3_2 (IntKind.wrap .i64 (x5_3 + (1 : Int)))
      else none
    else
      k3_0_6 x3_2
noncomputable def impl_letterRows (N : Nat) (a0 : Int) (kf : Int → Option Ret) : Option Ret :=
  impl_letterRows_l3 a0 N kf (0 : Int) (0 : Int)
noncomputable def impl_rowsOf_l5 (N : Nat) (x15_3 : (List Int)) (x16_4 : Int) : Nat → ((List Int) → Option Ret) → (Int → Bool → Option Ret) → (List Int) → Int → Option Ret
  | 0, _, _, _, _ => none
  | n_6 + 1, k5_0_12, k5_1_13, x4_2, x17_5 =>
    bif (decide (x17_5 < x16_4)) then
      bif (inB x17_5 (List.length x15_3)) then
        impl_InRange N (List.getD x15_3 (Int.toNat x17_5) (0 : Int)) (0 : Int) (5 : Int) (fun (r25_7 : Bool) =>
          bif r25_7 then
            impl_letterRows N (List.getD x15_3 (Int.toNat x17_5) (0 : Int)) (fun (r28_8 : Int) =>
              bif (decide ((List.length x4_2 + List.length [r28_8]) * 1 ≤ 4398046511104)) then
                (impl_rowsOf_l5 N x15_3 x16_4 n_6 k5_0_12 k5_1_13) (x4_2 ++ [r28_8]) (IntKind.wrap .i64 (x17_5 + (1 : Int)))
              else none)
          else
            bif ((List.getD x15_3 (Int.toNat x17_5) (0 : Int)) == (-1 : Int)) then
              bif (decide ((List.length x4_2 : Int) ≥ (1 : Int))) then
                bif (inB (IntKind.wrap .i64 ((List.length x4_2 : Int) - (1 : Int))) (List.length x4_2)) then
                  bif (inB (IntKind.wrap .i64 ((List.length x4_2 : Int) - (1 : Int))) (List.length x4_2)) then
                    (impl_rowsOf_l5 N x15_3 x16_4 n_6 k5_0_12 k5_1_13) (List.set x4_2 (Int.toNat (IntKind.wrap .i64 ((List.length x4_2 : Int) - (1 : Int)))) (xorV .u64 (List.getD x4_2 (Int.toNat (IntKind.wrap .i64 ((List.length x4_2 : Int) - (1 : Int)))) (0 : Int)))) (IntKind.wrap .i64 (x17_5 + (1 : Int)))
                  else none
                else none
              else
                impl_InRange N (List.getD x15_3 (Int.toNat x17_5) (0 : Int)) (-4 : Int) (-2 : Int) (fun (r50_9 : Bool) =>
                  bif r50_9 then
                    bif (decide ((List.length x4_2 : Int) ≥ (2 : Int))) then
                      bif (inB (IntKind.wrap .i64 ((List.length x4_2 : Int) - (2 : Int))) (List.length x4_2)) then
                        bif (inB (IntKind.wrap .i64 ((List.length x4_2 : Int) - (1 : Int))) (List.length x4_2)) then
                          bif (decide ((0 : Int) ≤ (0 : Int)) && decide ((0 : Int) ≤ (IntKind.wrap .i64 ((List.length x4_2 : Int) - (1 : Int)))) && decide ((IntKind.wrap .i64 ((List.length x4_2 : Int) - (1 : Int))) ≤ (List.length x4_2 : Int))) then
                            bif ((List.getD x15_3 (Int.toNat x17_5) (0 : Int)) == (-2 : Int)) then
                              bif (inB (IntKind.wrap .i64 ((List.length x4_2 : Int) - (2 : Int))) (List.length (List.take (Int.toNat (IntKind.wrap .i64 ((List.length x4_2 : Int) - (1 : Int)))) x4_2))) then
                                (impl_rowsOf_l5 N x15_3 x16_4 n_6 k5_0_12 k5_1_13) (List.set (List.take (Int.toNat (IntKind.wrap .i64 ((List.length x4_2 : Int) - (1 : Int)))) x4_2) (Int.toNat (IntKind.wrap .i64 ((List.length x4_2 : Int) - (2 : Int)))) (IntKind.wrap .u64 (BitVec.toNat (BitVec.ofInt (IntKind.bits .u64) (List.getD x4_2 (Int.toNat (IntKind.wrap .i64 ((List.length x4_2 : Int) - (2 : Int)))) (0 : Int)) &&& BitVec.ofInt (IntKind.bits .u64) (List.getD x4_2 (Int.toNat (IntKind.wrap .i64 ((List.length x4_2 : Int) - (1 : Int)))) (0 : Int)))))) (IntKind.wrap .i64 (x17_5 + (1 : Int)))
                              else none
                            else
                              bif ((List.getD x15_3 (Int.toNat x17_5) (0 : Int)) == (-3 : Int)) then
                                bif (inB (IntKind.wrap .i64 ((List.length x4_2 : Int) - (2 : Int))) (List.length (List.take (Int.toNat (IntKind.wrap .i64 ((List.length x4_2 : Int) - (1 : Int)))) x4_2))) then
                                  (impl_rowsOf_l5 N x15_3 x16_4 n_6 k5_0_12 k5_1_13) (List.set (List.take (Int.toNat (IntKind.wrap .i64 ((List.length x4_2 : Int) - (1 : Int)))) x4_2) (Int.toNat (IntKind.wrap .i64 ((List.length x4_2 : Int) - (2 : Int)))) (IntKind.wrap .u64 (BitVec.toNat (BitVec.ofInt (IntKind.bits .u64) (List.getD x4_2 (Int.toNat (IntKind.wrap .i64 ((List.length x4_2 : Int) - (2 : Int)))) (0 : Int)) ||| BitVec.ofInt (IntKind.bits .u64) (List.getD x4_2 (Int.toNat (IntKind.wrap .i64 ((List.length x4_2 : Int) - (1 : Int)))) (0 : Int)))))) (IntKind.wrap .i64 (x17_5 + (1 : Int)))
                                else none
                              else
                                bif (inB (IntKind.wrap .i64 ((List.length x4_2 : Int) - (2 : Int))) (List.length (List.take (Int.toNat (IntKind.wrap .i64 ((List.length x4_2 : Int) - (1 : Int)))) x4_2))) then
                                  (impl_rowsOf_l5 N x15_3 x16_4 n_6 k5_0_12 k5_1_13) (List.set (List.take (Int.toNat (IntKind.wrap .i64 ((List.length x4_2 : Int) - (1 : Int)))) x4_2) (Int.toNat (IntKind.wrap .i64 ((List.length x4_2 : Int) - (2 : Int)))) (IntKind.wrap .u64 (BitVec.toNat (BitVec.ofInt (IntKind.bits .u64) (xorV .u64 (List.getD x4_2 (Int.toNat (IntKind.wrap .i64 ((List.length x4_2 : Int) - (2 : Int)))) (0 : Int))) ||| BitVec.ofInt (IntKind.bits .u64) (List.getD x4_2 (Int.toNat (IntKind.wrap .i64 ((List.length x4_2 : Int) - (1 : Int)))) (0 : Int)))))) (IntKind.wrap .i64 (x17_5 + (1 : Int)))
                                else none
                          else none
                        else none
                      else none
                    else
                      k5_1_13 (0 : Int) false
                  else
                    k5_1_13 (0 : Int) false)
            else
              impl_InRange N (List.getD x15_3 (Int.toNat x17_5) (0 : Int)) (-4 : Int) (-2 : Int) (fun (r50_10 : Bool) =>
                bif r50_10 then
                  bif (decide ((List.length x4_2 : Int) ≥ (2 : Int))) then
                    bif (inB (IntKind.wrap .i64 ((List.length x4_2 : Int) - (2 : Int))) (List.length x4_2)) then
                      bif (inB (IntKind.wrap .i64 ((List.length x4_2 : Int) - (1 : Int))) (List.length x4_2)) then
                        bif (decide ((0 : Int) ≤ (0 : Int)) && decide ((0 : Int) ≤ (IntKind.wrap .i64 ((List.length x4_2 : Int) - (1 : Int)))) && decide ((IntKind.wrap .i64 ((List.length x4_2 : Int) - (1 : Int))) ≤ (List.length x4_2 : Int))) then
                          bif ((List.getD x15_3 (Int.toNat x17_5) (0 : Int)) == (-2 : Int)) then
                            bif (inB (IntKind.wrap .i64 ((List.length x4_2 : Int) - (2 : Int))) (List.length (List.take (Int.toNat (IntKind.wrap .i64 ((List.length x4_2 : Int) - (1 : Int)))) x4_2))) then
                              (impl_rowsOf_l5 N x15_3 x16_4 n_6 k5_0_12 k5_1_13) (List.set (List.take (Int.toNat (IntKind.wrap .i64 ((List.length x4_2 : Int) - (1 : Int)))) x4_2) (Int.toNat (IntKind.wrap .i64 ((List.length x4_2 : Int) - (2 : Int)))) (IntKind.wrap .u64 (BitVec.toNat (BitVec.ofInt (IntKind.bits .u64) (List.getD x4_2 (Int.toNat (IntKind.wrap .i64 ((List.length x4_2 : Int) - (2 : Int)))) (0 : Int)) &&& BitVec.ofInt (IntKind.bits .u64) (List.getD x4_2 (Int.toNat (IntKind.wrap .i64 ((List.length x4_2 : Int) - (1 : Int)))) (0 : Int)))))) (IntKind.wrap .i64 (x17_5 + (1 : Int)))
                            else none
                          else
                            bif ((List.getD x15_3 (Int.toNat x17_5) (0 : Int)) == (-3 : Int)) then
                              bif (inB (IntKind.wrap .i64 ((List.length x4_2 : Int) - (2 : Int))) (List.length (List.take (Int.toNat (IntKind.wrap .i64 ((List.length x4_2 : Int) - (1 : Int)))) x4_2))) then
                                (impl_rowsOf_l5 N x15_3 x16_4 n_6 k5_0_12 k5_1_13) (List.set (List.take (Int.toNat (IntKind.wrap .i64 ((List.length x4_2 : Int) - (1 : Int)))) x4_2) (Int.toNat (IntKind.wrap .i64 ((List.length x4_2 : Int) - (2 : Int)))) (IntKind.wrap .u64 (BitVec.toNat (BitVec.ofInt (IntKind.bits .u64) (List.getD x4_2 (Int.toNat (IntKind.wrap .i64 ((List.length x4_2 : Int) - (2 : Int)))) (0 : Int)) ||| BitVec.ofInt (IntKind.bits .u64) (List.getD x4_2 (Int.toNat (IntKind.wrap .i64 ((List.length x4_2 : Int) - (1 : Int)))) (0 : Int)))))) (IntKind.wrap .i64 (x17_5 + (1 : Int)))
                              else none
                            else
                              bif (inB (IntKind.wrap .i64 ((List.length x4_2 : Int) - (2 : Int))) (List.length (List.take (Int.toNat (IntKind.wrap .i64 ((List.length x4_2 : Int) - (1 : Int)))) x4_2))) then
                                (impl_rowsOf_l5 N x15_3 x16_4 n_6 k5_0_12 k5_1_13) (List.set (List.take (Int.toNat (IntKind.wrap .i64 ((List.length x4_2 : Int) - (1 : Int)))) x4_2) (Int.toNat (IntKind.wrap .i64 ((List.length x4_2 : Int) - (2 : Int)))) (IntKind.wrap .u64 (BitVec.toNat (BitVec.ofInt (IntKind.bits .u64) (xorV .u64 (List.getD x4_2 (Int.toNat (IntKind.wrap .i64 ((List.length x4_2 : Int) - (2 : Int)))) (0 : Int))) ||| BitVec.ofInt (IntKind.bits .u64) (List.getD x4_2 (Int.toNat (IntKind.wrap .i64 ((List.length x4_2 : Int) - (1 : Int)))) (0 : Int)))))) (IntKind.wrap .i64 (x17_5 + (1 : Int)))
                              else none
                        else none
                      else none
                    else none
                  else
                    k5_1_13 (0 : Int) false
                else
                  k5_1_13 (0 : Int) false))
      else none
    else
      k5_0_12 x4_2
noncomputable def impl_rowsOf (N : Nat) (a0 : (List Int)) (kf : Int → Bool → Option Ret) : Option Ret :=
  impl_InRange N (List.length a0 : Int) (1 : Int) (24 : Int) (fun (r12_1 : Bool) =>
    bif (!r12_1) then
      kf (0 : Int) false
    else
      impl_rowsOf_l5 N a0 (List.length a0 : Int) N (fun (z4_15 : (List Int)) =>
        bif (inB (0 : Int) (List.length z4_15)) then
          kf (List.getD z4_15 (Int.toNat (0 : Int)) (0 : Int)) ((List.length z4_15 : Int) == (1 : Int))
        else none) kf ([] : (List Int)) (0 : Int))
noncomputable def impl_IsFormula (N : Nat) (a0 : (List Int)) (kf : Bool → Option Ret) : Option Ret :=
  impl_rowsOf N a0 (fun (r7_1 : Int) (r7_2 : Bool) =>
    kf r7_2)
noncomputable def impl_FormulaText_l5 (x12_3 : (List Int)) (x13_4 : Int) : Nat → ((List ByteArray) → Option Ret) → (List ByteArray) → Int → Option Ret
  | 0, _, _, _ => none
  | n_6 + 1, k5_0_8, x3_2, x14_5 =>
    bif (decide (x14_5 < x13_4)) then
      bif (inB x14_5 (List.length x12_3)) then
        bif (decide ((List.getD x12_3 (Int.toNat x14_5) (0 : Int)) ≥ (0 : Int))) then
          bif (decide ((0 : Int) ≤ (List.getD x12_3 (Int.toNat x14_5) (0 : Int))) && decide ((List.getD x12_3 (Int.toNat x14_5) (0 : Int)) ≤ (IntKind.wrap .i64 ((List.getD x12_3 (Int.toNat x14_5) (0 : Int)) + (1 : Int)))) && decide ((IntKind.wrap .i64 ((List.getD x12_3 (Int.toNat x14_5) (0 : Int)) + (1 : Int))) ≤ (ByteArray.size s_abcdef : Int))) then
            bif (decide ((List.length x3_2 + List.length [(ByteArray.extract s_abcdef (Int.toNat (List.getD x12_3 (Int.toNat x14_5) (0 : Int))) (Int.toNat (IntKind.wrap .i64 ((List.getD x12_3 (Int.toNat x14_5) (0 : Int)) + (1 : Int)))))]) * 1 ≤ 4398046511104)) then
              (impl_FormulaText_l5 x12_3 x13_4 n_6 k5_0_8) (x3_2 ++ [(ByteArray.extract s_abcdef (Int.toNat (List.getD x12_3 (Int.toNat x14_5) (0 : Int))) (Int.toNat (IntKind.wrap .i64 ((List.getD x12_3 (Int.toNat x14_5) (0 : Int)) + (1 : Int)))))]) (IntKind.wrap .i64 (x14_5 + (1 : Int)))
            else none
          else none
        else
          bif ((List.getD x12_3 (Int.toNat x14_5) (0 : Int)) == (-1 : Int)) then
            bif (inB (IntKind.wrap .i64 ((List.length x3_2 : Int) - (1 : Int))) (List.length x3_2)) then
              bif (decide (ByteArray.size s_h21 + ByteArray.size (List.getD x3_2 (Int.toNat (IntKind.wrap .i64 ((List.length x3_2 : Int) - (1 : Int)))) ByteArray.empty) ≤ 9223372036854775807)) then
                bif (inB (IntKind.wrap .i64 ((List.length x3_2 : Int) - (1 : Int))) (List.length x3_2)) then
                  (impl_FormulaText_l5 x12_3 x13_4 n_6 k5_0_8) (List.set x3_2 (Int.toNat (IntKind.wrap .i64 ((List.length x3_2 : Int) - (1 : Int)))) (s_h21 ++ (List.getD x3_2 (Int.toNat (IntKind.wrap .i64 ((List.length x3_2 : Int) - (1 : Int)))) ByteArray.empty))) (IntKind.wrap .i64 (x14_5 + (1 : Int)))
                else none
              else none
            else none
          else
            bif (inB (IntKind.wrap .i64 ((List.length x3_2 : Int) - (2 : Int))) (List.length x3_2)) then
              bif (decide (ByteArray.size s_h28 + ByteArray.size (List.getD x3_2 (Int.toNat (IntKind.wrap .i64 ((List.length x3_2 : Int) - (2 : Int)))) ByteArray.empty) ≤ 9223372036854775807)) then
                bif (decide ((0 : Int) ≤ (IntKind.wrap .i64 ((-2 : Int) - (List.getD x12_3 (Int.toNat x14_5) (0 : Int))))) && decide ((IntKind.wrap .i64 ((-2 : Int) - (List.getD x12_3 (Int.toNat x14_5) (0 : Int)))) ≤ (IntKind.wrap .i64 ((IntKind.wrap .i64 ((-2 : Int) - (List.getD x12_3 (Int.toNat x14_5) (0 : Int)))) + (1 : Int)))) && decide ((IntKind.wrap .i64 ((IntKind.wrap .i64 ((-2 : Int) - (List.getD x12_3 (Int.toNat x14_5) (0 : Int)))) + (1 : Int))) ≤ (ByteArray.size s_h267c3e : Int))) then
                  bif (decide (ByteArray.size (s_h28 ++ (List.getD x3_2 (Int.toNat (IntKind.wrap .i64 ((List.length x3_2 : Int) - (2 : Int)))) ByteArray.empty)) + ByteArray.size (ByteArray.extract s_h267c3e (Int.toNat (IntKind.wrap .i64 ((-2 : Int) - (List.getD x12_3 (Int.toNat x14_5) (0 : Int))))) (Int.toNat (IntKind.wrap .i64 ((IntKind.wrap .i64 ((-2 : Int) - (List.getD x12_3 (Int.toNat x14_5) (0 : Int)))) + (1 : Int))))) ≤ 9223372036854775807)) then
                    bif (inB (IntKind.wrap .i64 ((List.length x3_2 : Int) - (1 : Int))) (List.length x3_2)) then
                      bif (decide (ByteArray.size ((s_h28 ++ (List.getD x3_2 (Int.toNat (IntKind.wrap .i64 ((List.length x3_2 : Int) - (2 : Int)))) ByteArray.empty)) ++ (ByteArray.extract s_h267c3e (Int.toNat (IntKind.wrap .i64 ((-2 : Int) - (List.getD x12_3 (Int.toNat x14_5) (0 : Int))))) (Int.toNat (IntKind.wrap .i64 ((IntKind.wrap .i64 ((-2 : Int) - (List.getD x12_3 (Int.toNat x14_5) (0 : Int)))) + (1 : Int)))))) + ByteArray.size (List.getD x3_2 (Int.toNat (IntKind.wrap .i64 ((List.length x3_2 : Int) - (1 : Int)))) ByteArray.empty) ≤ 9223372036854775807)) then
                        bif (decide (ByteArray.size (((s_h28 ++ (List.getD x3_2 (Int.toNat (IntKind.wrap .i64 ((List.length x3_2 : Int) - (2 : Int)))) ByteArray.empty)) ++ (ByteArray.extract s_h267c3e (Int.toNat (IntKind.wrap .i64 ((-2 : Int) - (List.getD x12_3 (Int.toNat x14_5) (0 : Int))))) (Int.toNat (IntKind.wrap .i64 ((IntKind.wrap .i64 ((-2 : Int) - (List.getD x12_3 (Int.toNat x14_5) (0 : Int)))) + (1 : Int)))))) ++ (List.getD x3_2 (Int.toNat (IntKind.wrap .i64 ((List.length x3_2 : Int) - (1 : Int)))) ByteArray.empty)) + ByteArray.size s_h29 ≤ 9223372036854775807)) then
                          bif (inB (IntKind.wrap .i64 ((List.length x3_2 : Int) - (2 : Int))) (List.length x3_2)) then
                            bif (decide ((0 : Int) ≤ (0 : Int)) && decide ((0 : Int) ≤ (IntKind.wrap .i64 ((List.length x3_2 : Int) - (1 : Int)))) && decide ((IntKind.wrap .i64 ((List.length x3_2 : Int) - (1 : Int))) ≤ (List.length (List.set x3_2 (Int.toNat (IntKind.wrap .i64 ((List.length x3_2 : Int) - (2 : Int)))) ((((s_h28 ++ (List.getD x3_2 (Int.toNat (IntKind.wrap .i64 ((List.length x3_2 : Int) - (2 : Int)))) ByteArray.empty)) ++ (ByteArray.extract s_h267c3e (Int.toNat (IntKind.wrap .i64 ((-2 : Int) - (List.getD x12_3 (Int.toNat x14_5) (0 : Int))))) (Int.toNat (IntKind.wrap .i64 ((IntKind.wrap .i64 ((-2 : Int) - (List.getD x12_3 (Int.toNat x14_5) (0 : Int)))) + (1 : Int)))))) ++ (List.getD x3_2 (Int.toNat (IntKind.wrap .i64 ((List.length x3_2 : Int) - (1 : Int)))) ByteArray.empty)) ++ s_h29)) : Int))) then
                              (impl_FormulaText_l5 x12_3 x13_4 n_6 k5_0_8) (List.take (Int.toNat (IntKind.wrap .i64 ((List.length x3_2 : Int) - (1 : Int)))) (List.set x3_2 (Int.toNat (IntKind.wrap .i64 ((List.length x3_2 : Int) - (2 : Int)))) ((((s_h28 ++ (List.getD x3_2 (Int.toNat (IntKind.wrap .i64 ((List.length x3_2 : Int) - (2 : Int)))) ByteArray.empty)) ++ (ByteArray.extract s_h267c3e (Int.toNat (IntKind.wrap .i64 ((-2 : Int) - (List.getD x12_3 (Int.toNat x14_5) (0 : Int))))) (Int.toNat (IntKind.wrap .i64 ((IntKind.wrap .i64 ((-2 : Int) - (List.getD x12_3 (Int.toNat x14_5) (0 : Int)))) + (1 : Int)))))) ++ (List.getD x3_2 (Int.toNat (IntKind.wrap .i64 ((List.length x3_2 : Int) - (1 : Int)))) ByteArray.empty)) ++ s_h29))) (IntKind.wrap .i64 (x14_5 + (1 : Int)))
                            else none
                          else none
                        else none
                      else none
                    else none
                  else none
                else none
              else none
            else none
      else none
    else
      k5_0_8 x3_2
noncomputable def impl_FormulaText (N : Nat) (a0 : (List Int)) (kf : ByteArray → Option Ret) : Option Ret :=
  impl_IsFormula N a0 (fun (r9_1 : Bool) =>
    bif (!r9_1) then
      kf s_e
    else
      impl_FormulaText_l5 a0 (List.length a0 : Int) N (fun (z3_10 : (List ByteArray)) =>
        bif (inB (0 : Int) (List.length z3_10)) then
          kf (List.getD z3_10 (Int.toNat (0 : Int)) ByteArray.empty)
        else none) ([] : (List ByteArray)) (0 : Int))
noncomputable def impl_ParseFormula (N : Nat) (a0 : ByteArray) (kf : (List Int) → Bool → Option Ret) : Option Ret :=
  bif (decide ((ByteArray.size a0 : Int) > (100 : Int))) then
    kf ([] : (List Int)) false
  else
    impl_readFormula N a0 (fun (r13_1 : (List Int)) (r13_2 : ByteArray) (r13_3 : Bool) =>
      bif (!r13_3) then
        kf ([] : (List Int)) false
      else
        bif (!(ByteArray.toList r13_2 == ByteArray.toList s_e)) then
          kf ([] : (List Int)) false
        else
          impl_FormulaText N r13_1 (fun (r25_4 : ByteArray) =>
            bif (!(ByteArray.toList r25_4 == ByteArray.toList a0)) then
              kf ([] : (List Int)) false
            else
              kf r13_1 true))
noncomputable def laws_eqIntS_l4 (x0_1 : (List Int)) (x1_2 : (List Int)) : Nat → (Option Ret) → (Bool → Option Ret) → Int → Option Ret
  | 0, _, _, _ => none
  | n_4 + 1, k4_0_5, k4_1_6, x5_3 =>
    bif (decide (x5_3 < (List.length x0_1 : Int))) then
      bif (inB x5_3 (List.length x0_1)) then
        bif (inB x5_3 (List.length x1_2)) then
          bif ((List.getD x0_1 (Int.toNat x5_3) (0 : Int)) != (List.getD x1_2 (Int.toNat x5_3) (0 : Int))) then
            k4_1_6 false
          else
            (laws_eqIntS_l4 x0_1 x1_2 n_4 k4_0_5 k4_1_6) (IntKind.wrap .i64 (x5_3 + (1 : Int)))
        else none
      else none
    else
      k4_0_5
noncomputable def laws_eqIntS (N : Nat) (a0 : (List Int)) (a1 : (List Int)) (kf : Bool → Option Ret) : Option Ret :=
  bif ((List.length a0 : Int) != (List.length a1 : Int)) then
    kf false
  else
    laws_eqIntS_l4 a0 a1 N (kf true) kf (0 : Int)
noncomputable def laws_markIntS_l2  : Nat → ((List Int) → Int → Option Ret) → (List Int) → Int → Int → Option Ret
  | 0, _, _, _, _ => none
  | n_4 + 1, k2_0_5, x0_1, x1_2, x5_3 =>
    bif (decide (x5_3 < (List.length x0_1 : Int))) then
      bif (inB x5_3 (List.length x0_1)) then
        (laws_markIntS_l2 n_4 k2_0_5) (List.set x0_1 (Int.toNat x5_3) x1_2) (IntKind.wrap .i64 (x1_2 + (1 : Int))) (IntKind.wrap .i64 (x5_3 + (1 : Int)))
      else none
    else
      k2_0_5 x0_1 x1_2
noncomputable def laws_markIntS (N : Nat) (a0 : (List Int)) (a1 : Int) (kf : Int → (List Int) → Option Ret) : Option Ret :=
  laws_markIntS_l2 N (fun (z0_7 : (List Int)) (z1_8 : Int) =>
    kf z1_8 z0_7) a0 a1 (0 : Int)
noncomputable def laws_heldIntS_l2 (x0_1 : (List Int)) : Nat → (Int → Option Ret) → (Int → Option Ret) → Int → Int → Option Ret
  | 0, _, _, _, _ => none
  | n_4 + 1, k2_0_5, k2_1_6, x1_2, x5_3 =>
    bif (decide (x5_3 < (List.length x0_1 : Int))) then
      bif (inB x5_3 (List.length x0_1)) then
        bif ((List.getD x0_1 (Int.toNat x5_3) (0 : Int)) != x1_2) then
          k2_1_6 (-1 : Int)
        else
          (laws_heldIntS_l2 x0_1 n_4 k2_0_5 k2_1_6) (IntKind.wrap .i64 (x1_2 + (1 : Int))) (IntKind.wrap .i64 (x5_3 + (1 : Int)))
      else none
    else
      k2_0_5 x1_2
noncomputable def laws_heldIntS (N : Nat) (a0 : (List Int)) (a1 : Int) (kf : Int → Option Ret) : Option Ret :=
  laws_heldIntS_l2 a0 N kf kf a1 (0 : Int)
noncomputable def laws_FnExactParseFormula (N : Nat) (a0 : ByteArray) (kf : Bool → Option Ret) : Option Ret :=
  bif (decide ((ByteArray.size a0 : Int) > (1048576 : Int))) then
    kf true
  else
    spec_ParseFormula N a0 (fun (r16_1 : (List Int)) (r16_2 : Bool) =>
      impl_ParseFormula N a0 (fun (r21_3 : (List Int)) (r21_4 : Bool) =>
        laws_eqIntS N r21_3 r16_1 (fun (r26_5 : Bool) =>
          bif (!r26_5) then
            kf false
          else
            bif (!(r21_4 == r16_2)) then
              kf false
            else
              laws_markIntS N r21_3 (1 : Int) (fun (r35_6 : Int) (z5_7 : (List Int)) =>
                laws_heldIntS N z5_7 (1 : Int) (fun (r38_8 : Int) =>
                  bif (decide (r38_8 < (0 : Int))) then
                    kf false
                  else
                    bif (r38_8 != r35_6) then
                      kf false
                    else
                      impl_ParseFormula N a0 (fun (r46_9 : (List Int)) (r46_10 : Bool) =>
                        laws_eqIntS N r46_9 r16_1 (fun (r51_11 : Bool) =>
                          bif (!r51_11) then
                            kf false
                          else
                            bif (!(r46_10 == r16_2)) then
                              kf false
                            else
                              laws_heldIntS N z5_7 (1 : Int) (fun (r60_12 : Int) =>
                                bif (decide (r60_12 < (0 : Int))) then
                                  kf false
                                else
                                  bif (r60_12 != r35_6) then
                                    kf false
                                  else
                                    kf true))))))))
end Go.Pv.R
