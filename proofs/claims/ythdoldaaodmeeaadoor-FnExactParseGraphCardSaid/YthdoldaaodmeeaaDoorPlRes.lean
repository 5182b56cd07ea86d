/- What the functions compute, as plain functions. -/
import Derived.Test.YthdoldaaodmeeaaDoorPv4
namespace Go.Pv.R
set_option linter.unusedVariables false
set_option linter.unusedSimpArgs false
abbrev tQILLIE : Ty := (.pair (.int .i64) (.sl (.sl (.int .i64))))
abbrev QILLIE : Type := (Int × (List (List Int)))
abbrev tQIIE : Ty := (.pair (.int .i64) (.int .i64))
abbrev QIIE : Type := (Int × Int)
abbrev tQIIIE : Ty := (.pair (.int .i64) (.pair (.int .i64) (.int .i64)))
abbrev QIIIE : Type := (Int × (Int × Int))
abbrev tQIILIE : Ty := (.pair (.int .i64) (.pair (.int .i64) (.sl (.int .i64))))
abbrev QIILIE : Type := (Int × (Int × (List Int)))
abbrev tQIIIIILIE : Ty := (.pair (.int .i64) (.pair (.int .i64) (.pair (.int .i64) (.pair (.int .i64) (.pair (.int .i64) (.sl (.int .i64)))))))
abbrev QIIIIILIE : Type := (Int × (Int × (Int × (Int × (Int × (List Int))))))
abbrev tQIIIIE : Ty := (.pair (.int .i64) (.pair (.int .i64) (.pair (.int .i64) (.int .i64))))
abbrev QIIIIE : Type := (Int × (Int × (Int × Int)))
abbrev tQLQIIIIILIELQIILIELQIIELILQIIIELQIIIIEIE : Ty := (.pair (.sl tQIIIIILIE) (.pair (.sl tQIILIE) (.pair (.sl tQIIE) (.pair (.sl (.int .i64)) (.pair (.sl tQIIIE) (.pair (.sl tQIIIIE) (.int .i64)))))))
abbrev QLQIIIIILIELQIILIELQIIELILQIIIELQIIIIEIE : Type := ((List QIIIIILIE) × ((List QIILIE) × ((List QIIE) × ((List Int) × ((List QIIIE) × ((List QIIIIE) × Int))))))
noncomputable def s_e : ByteArray := ⟨#[]⟩
noncomputable def s_0 : ByteArray := ⟨#[48]⟩
noncomputable def s_h2d : ByteArray := ⟨#[45]⟩
noncomputable def s_h20 : ByteArray := ⟨#[32]⟩
noncomputable def s_h3e : ByteArray := ⟨#[62]⟩
noncomputable def spec_FormatInt_j1 (rc5_7 : ByteArray → Int → Option Ret) (x3_2 : ByteArray) (x4_3 : Int) (y5_5 : Int) : Option Ret :=
  bif (decide (ByteArray.size (bytesOf [(IntKind.wrap .u8 (IntKind.wrap .i64 ((48 : Int) + y5_5)))]) + ByteArray.size x3_2 ≤ 9223372036854775807)) then
    rc5_7 ((bytesOf [(IntKind.wrap .u8 (IntKind.wrap .i64 ((48 : Int) + y5_5)))]) ++ x3_2) (IntKind.wrap .i64 (Int.tdiv x4_3 (10 : Int)))
  else none
noncomputable def spec_FormatInt_l5 (x0_1 : Int) : Nat → (ByteArray → Option Ret) → ByteArray → Int → Option Ret
  | 0, _, _, _ => none
  | n_4 + 1, k5_0_6, x3_2, x4_3 =>
    bif (x4_3 != (0 : Int)) then
      bif (decide ((Int.tmod x4_3 (10 : Int)) < (0 : Int))) then
        spec_FormatInt_j1 (spec_FormatInt_l5 x0_1 n_4 k5_0_6) x3_2 x4_3 (IntKind.wrap .i64 (0 - (Int.tmod x4_3 (10 : Int))))
      else
        spec_FormatInt_j1 (spec_FormatInt_l5 x0_1 n_4 k5_0_6) x3_2 x4_3 (Int.tmod x4_3 (10 : Int))
    else
      k5_0_6 x3_2
noncomputable def spec_FormatInt (N : Nat) (a0 : Int) (kf : ByteArray → Option Ret) : Option Ret :=
  bif (a0 == (0 : Int)) then
    kf s_0
  else
    spec_FormatInt_l5 a0 N (fun (z3_8 : ByteArray) =>
      bif (decide (a0 < (0 : Int))) then
        bif (decide (ByteArray.size s_h2d + ByteArray.size z3_8 ≤ 9223372036854775807)) then
          kf (s_h2d ++ z3_8)
        else none
      else
        kf z3_8) s_e a0
noncomputable def strconv_Itoa (N : Nat) (a0 : Int) (kf : ByteArray → Option Ret) : Option Ret :=
  bif (decide ((-9223372036854775808 : Int) ≤ a0) && decide (a0 ≤ (9223372036854775807 : Int))) then
    kf (itoaB a0)
  else none
noncomputable def impl_FormatInt (N : Nat) (a0 : Int) (kf : ByteArray → Option Ret) : Option Ret :=
  strconv_Itoa N a0 kf
noncomputable def laws_eqIntS_l4 (x0_1 : (List Int)) (x1_2 : (List Int)) : Nat → (Option Ret) → (Bool → Option Ret) → Int → Option Ret
  | 0, _, _, _ => none
  | n_4 + 1, k4_0_5, k4_1_6, x5_3 =>
    bif (decide (x5_3 < (List.length x0_1 : Int))) then
      bif (inB x5_3 (List.length x0_1)) then
        bif (inB x5_3 (List.length x1_2)) then
          bif ((List.getD x0_1 (Int.toNat x5_3) (0 : Int)) != (List.getD x1_2 (Int.toNat x5_3) (0 : Int))) then
            k4_1_6 false
          else
            (laws_eqIntS_l4 x0_1 x1_2 n_4 k4_0_5 k4_1_6) (IntKind.wrap .i64 (x5_3 + (1 : Int)))
        else none
      else none
    else
      k4_0_5
noncomputable def laws_eqIntS (N : Nat) (a0 : (List Int)) (a1 : (List Int)) (kf : Bool → Option Ret) : Option Ret :=
  bif ((List.length a0 : Int) != (List.length a1 : Int)) then
    kf false
  else
    laws_eqIntS_l4 a0 a1 N (kf true) kf (0 : Int)
noncomputable def laws_eqIntSS_l4 (N : Nat) (x0_1 : (List (List Int))) (x1_2 : (List (List Int))) : Nat → (Option Ret) → (Bool → Option Ret) → Int → Option Ret
  | 0, _, _, _ => none
  | n_4 + 1, k4_0_6, k4_1_7, x5_3 =>
    bif (decide (x5_3 < (List.length x0_1 : Int))) then
      bif (inB x5_3 (List.length x0_1)) then
        bif (inB x5_3 (List.length x1_2)) then
          laws_eqIntS N (List.getD x0_1 (Int.toNat x5_3) ([] : (List Int))) (List.getD x1_2 (Int.toNat x5_3) ([] : (List Int))) (fun (r25_5 : Bool) =>
            bif (!r25_5) then
              k4_1_7 false
            else
              (laws_eqIntSS_l4 N x0_1 x1_2 n_4 k4_0_6 k4_1_7) (IntKind.wrap .i64 (x5_3 + (1 : Int))))
        else none
      else none
    else
      k4_0_6
noncomputable def laws_eqIntSS (N : Nat) (a0 : (List (List Int))) (a1 : (List (List Int))) (kf : Bool → Option Ret) : Option Ret :=
  bif ((List.length a0 : Int) != (List.length a1 : Int)) then
    kf false
  else
    laws_eqIntSS_l4 N a0 a1 N (kf true) kf (0 : Int)
noncomputable def spec_l1In (N : Nat) (a0 : Int) (a1 : Int) (a2 : Int) (kf : Bool → Option Ret) : Option Ret :=
  bif (decide (a0 ≥ a1)) then
    kf (decide (a0 ≤ a2))
  else
    kf false
noncomputable def spec_IsGraph_l2 (N : Nat) (x1_1 : QILLIE) : Nat → (Option Ret) → (Bool → Option Ret) → Int → Option Ret
  | 0, _, _, _ => none
  | n_3 + 1, k2_0_6, k2_1_7, x3_2 =>
    bif (decide (x3_2 < (List.length x1_1.2 : Int))) then
      bif (inB x3_2 (List.length x1_1.2)) then
        bif ((List.length (List.getD x1_1.2 (Int.toNat x3_2) ([] : (List Int))) : Int) != (2 : Int)) then
          k2_1_7 false
        else
          bif (inB (0 : Int) (List.length (List.getD x1_1.2 (Int.toNat x3_2) ([] : (List Int))))) then
            spec_l1In N (List.getD (List.getD x1_1.2 (Int.toNat x3_2) ([] : (List Int))) (Int.toNat (0 : Int)) (0 : Int)) (0 : Int) (IntKind.wrap .i64 (x1_1.1 - (1 : Int))) (fun (r28_4 : Bool) =>
              bif (!r28_4) then
                k2_1_7 false
              else
                bif (inB (1 : Int) (List.length (List.getD x1_1.2 (Int.toNat x3_2) ([] : (List Int))))) then
                  spec_l1In N (List.getD (List.getD x1_1.2 (Int.toNat x3_2) ([] : (List Int))) (Int.toNat (1 : Int)) (0 : Int)) (0 : Int) (IntKind.wrap .i64 (x1_1.1 - (1 : Int))) (fun (r38_5 : Bool) =>
                    bif (!r38_5) then
                      k2_1_7 false
                    else
                      bif (decide (x3_2 > (0 : Int))) then
                        bif (inB (IntKind.wrap .i64 (x3_2 - (1 : Int))) (List.length x1_1.2)) then
                          bif (inB (0 : Int) (List.length (List.getD x1_1.2 (Int.toNat (IntKind.wrap .i64 (x3_2 - (1 : Int)))) ([] : (List Int))))) then
                            bif (inB (0 : Int) (List.length (List.getD x1_1.2 (Int.toNat x3_2) ([] : (List Int))))) then
                              bif (decide ((List.getD (List.getD x1_1.2 (Int.toNat (IntKind.wrap .i64 (x3_2 - (1 : Int)))) ([] : (List Int))) (Int.toNat (0 : Int)) (0 : Int)) > (List.getD (List.getD x1_1.2 (Int.toNat x3_2) ([] : (List Int))) (Int.toNat (0 : Int)) (0 : Int)))) then
                                k2_1_7 false
                              else
                                bif (inB (0 : Int) (List.length (List.getD x1_1.2 (Int.toNat (IntKind.wrap .i64 (x3_2 - (1 : Int)))) ([] : (List Int))))) then
                                  bif (inB (0 : Int) (List.length (List.getD x1_1.2 (Int.toNat x3_2) ([] : (List Int))))) then
                                    bif ((List.getD (List.getD x1_1.2 (Int.toNat (IntKind.wrap .i64 (x3_2 - (1 : Int)))) ([] : (List Int))) (Int.toNat (0 : Int)) (0 : Int)) == (List.getD (List.getD x1_1.2 (Int.toNat x3_2) ([] : (List Int))) (Int.toNat (0 : Int)) (0 : Int))) then
                                      bif (inB (1 : Int) (List.length (List.getD x1_1.2 (Int.toNat (IntKind.wrap .i64 (x3_2 - (1 : Int)))) ([] : (List Int))))) then
                                        bif (inB (1 : Int) (List.length (List.getD x1_1.2 (Int.toNat x3_2) ([] : (List Int))))) then
                                          bif (decide ((List.getD (List.getD x1_1.2 (Int.toNat (IntKind.wrap .i64 (x3_2 - (1 : Int)))) ([] : (List Int))) (Int.toNat (1 : Int)) (0 : Int)) ≥ (List.getD (List.getD x1_1.2 (Int.toNat x3_2) ([] : (List Int))) (Int.toNat (1 : Int)) (0 : Int)))) then
                                            k2_1_7 false
                                          else
                                            (spec_IsGraph_l2 N x1_1 n_3 k2_0_6 k2_1_7) (IntKind.wrap .i64 (x3_2 + (1 : Int)))
                                        else none
                                      else none
                                    else
                                      (spec_IsGraph_l2 N x1_1 n_3 k2_0_6 k2_1_7) (IntKind.wrap .i64 (x3_2 + (1 : Int)))
                                  else none
                                else none
                            else none
                          else none
                        else none
                      else
                        (spec_IsGraph_l2 N x1_1 n_3 k2_0_6 k2_1_7) (IntKind.wrap .i64 (x3_2 + (1 : Int))))
                else none)
          else none
      else none
    else
      k2_0_6
noncomputable def spec_IsGraph (N : Nat) (a0 : QILLIE) (kf : Bool → Option Ret) : Option Ret :=
  spec_IsGraph_l2 N a0 N (spec_l1In N a0.1 (0 : Int) (10 : Int) kf) kf (0 : Int)
noncomputable def spec_GraphText_l5 (N : Nat) (x1_3 : QILLIE) : Nat → (ByteArray → Option Ret) → ByteArray → Int → Option Ret
  | 0, _, _, _ => none
  | n_6 + 1, k5_0_9, x3_4, x4_5 =>
    bif (decide (x4_5 < (List.length x1_3.2 : Int))) then
      bif (decide (ByteArray.size x3_4 + ByteArray.size s_h20 ≤ 9223372036854775807)) then
        bif (inB x4_5 (List.length x1_3.2)) then
          bif (inB (0 : Int) (List.length (List.getD x1_3.2 (Int.toNat x4_5) ([] : (List Int))))) then
            bif (inB x4_5 (List.length x1_3.2)) then
              bif (inB (1 : Int) (List.length (List.getD x1_3.2 (Int.toNat x4_5) ([] : (List Int))))) then
                spec_FormatInt N (List.getD (List.getD x1_3.2 (Int.toNat x4_5) ([] : (List Int))) (Int.toNat (0 : Int)) (0 : Int)) (fun (r27_7 : ByteArray) =>
                  bif (decide (ByteArray.size (x3_4 ++ s_h20) + ByteArray.size r27_7 ≤ 9223372036854775807)) then
                    bif (decide (ByteArray.size ((x3_4 ++ s_h20) ++ r27_7) + ByteArray.size s_h3e ≤ 9223372036854775807)) then
                      spec_FormatInt N (List.getD (List.getD x1_3.2 (Int.toNat x4_5) ([] : (List Int))) (Int.toNat (1 : Int)) (0 : Int)) (fun (r37_8 : ByteArray) =>
                        bif (decide (ByteArray.size (((x3_4 ++ s_h20) ++ r27_7) ++ s_h3e) + ByteArray.size r37_8 ≤ 9223372036854775807)) then
                          (spec_GraphText_l5 N x1_3 n_6 k5_0_9) ((((x3_4 ++ s_h20) ++ r27_7) ++ s_h3e) ++ r37_8) (IntKind.wrap .i64 (x4_5 + (1 : Int)))
                        else none)
                    else none
                  else none)
              else none
            else none
          else none
        else none
      else none
    else
      k5_0_9 x3_4
noncomputable def spec_GraphText (N : Nat) (a0 : QILLIE) (kf : ByteArray → Option Ret) : Option Ret :=
  spec_IsGraph N a0 (fun (r6_1 : Bool) =>
    bif (!r6_1) then
      kf s_e
    else
      spec_FormatInt N a0.1 (fun (r10_2 : ByteArray) =>
        spec_GraphText_l5 N a0 N kf r10_2 (0 : Int)))
noncomputable def impl_InRange (N : Nat) (a0 : Int) (a1 : Int) (a2 : Int) (kf : Bool → Option Ret) : Option Ret :=
  bif (decide (a1 ≤ a0)) then
    kf (decide (a0 ≤ a2))
  else
    kf false
noncomputable def impl_isClaim (N : Nat) (a0 : QILLIE) (a1 : Int) (kf : Bool → Option Ret) : Option Ret :=
  impl_InRange N a1 (0 : Int) (IntKind.wrap .i64 (a0.1 - (1 : Int))) kf
noncomputable def cmp_isNaN_int (N : Nat) (a0 : Int) (kf : Bool → Option Ret) : Option Ret :=
  kf (a0 != a0)
noncomputable def cmp_Compare_int (N : Nat) (a0 : Int) (a1 : Int) (kf : Int → Option Ret) : Option Ret :=
  cmp_isNaN_int N a0 (fun (r8_1 : Bool) =>
    cmp_isNaN_int N a1 (fun (r10_2 : Bool) =>
      bif r8_1 then
        bif r10_2 then
          kf (0 : Int)
        else
          kf (-1 : Int)
      else
        bif r10_2 then
          kf (1 : Int)
        else
          bif (decide (a0 < a1)) then
            kf (-1 : Int)
          else
            bif (decide (a0 > a1)) then
              kf (1 : Int)
            else
              kf (0 : Int)))
noncomputable def slices_Compare_int_l2 (N : Nat) (x0_1 : (List Int)) (x1_2 : (List Int)) (x9_3 : (List Int)) (x10_4 : Int) : Nat → (Option Ret) → (Int → Option Ret) → Int → Option Ret
  | 0, _, _, _ => none
  | n_6 + 1, k2_0_8, k2_1_9, x11_5 =>
    bif (decide (x11_5 < x10_4)) then
      bif (inB x11_5 (List.length x9_3)) then
        bif (decide (x11_5 ≥ (List.length x1_2 : Int))) then
          k2_1_9 (1 : Int)
        else
          bif (inB x11_5 (List.length x1_2)) then
            cmp_Compare_int N (List.getD x9_3 (Int.toNat x11_5) (0 : Int)) (List.getD x1_2 (Int.toNat x11_5) (0 : Int)) (fun (r26_7 : Int) =>
              bif (r26_7 != (0 : Int)) then
                k2_1_9 r26_7
              else
                (slices_Compare_int_l2 N x0_1 x1_2 x9_3 x10_4 n_6 k2_0_8 k2_1_9) (IntKind.wrap .i64 (x11_5 + (1 : Int))))
          else none
      else none
    else
      k2_0_8
noncomputable def slices_Compare_int (N : Nat) (a0 : (List Int)) (a1 : (List Int)) (kf : Int → Option Ret) : Option Ret :=
  slices_Compare_int_l2 N a0 a1 a0 (List.length a0 : Int) N (
    bif (decide ((List.length a0 : Int) < (List.length a1 : Int))) then
      kf (-1 : Int)
    else
      kf (0 : Int)) kf (0 : Int)
noncomputable def impl_IsGraph_l4 (N : Nat) (x1_2 : QILLIE) (x10_3 : (List (List Int))) (x11_4 : Int) : Nat → (Option Ret) → (Bool → Option Ret) → Int → Option Ret
  | 0, _, _, _ => none
  | n_6 + 1, k4_0_10, k4_1_11, x12_5 =>
    bif (decide (x12_5 < x11_4)) then
      bif (inB x12_5 (List.length x10_3)) then
        bif ((List.length (List.getD x10_3 (Int.toNat x12_5) ([] : (List Int))) : Int) != (2 : Int)) then
          k4_1_11 false
        else
          bif (inB (0 : Int) (List.length (List.getD x10_3 (Int.toNat x12_5) ([] : (List Int))))) then
            impl_isClaim N x1_2 (List.getD (List.getD x10_3 (Int.toNat x12_5) ([] : (List Int))) (Int.toNat (0 : Int)) (0 : Int)) (fun (r25_7 : Bool) =>
              bif (!r25_7) then
                k4_1_11 false
              else
                bif (inB (1 : Int) (List.length (List.getD x10_3 (Int.toNat x12_5) ([] : (List Int))))) then
                  impl_isClaim N x1_2 (List.getD (List.getD x10_3 (Int.toNat x12_5) ([] : (List Int))) (Int.toNat (1 : Int)) (0 : Int)) (fun (r33_8 : Bool) =>
                    bif (!r33_8) then
                      k4_1_11 false
                    else
                      bif (decide (x12_5 > (0 : Int))) then
                        bif (inB (IntKind.wrap .i64 (x12_5 - (1 : Int))) (List.length x1_2.2)) then
                          slices_Compare_int N (List.getD x1_2.2 (Int.toNat (IntKind.wrap .i64 (x12_5 - (1 : Int)))) ([] : (List Int))) (List.getD x10_3 (Int.toNat x12_5) ([] : (List Int))) (fun (r47_9 : Int) =>
                            bif (decide (r47_9 ≥ (0 : Int))) then
                              k4_1_11 false
                            else
                              (impl_IsGraph_l4 N x1_2 x10_3 x11_4 n_6 k4_0_10 k4_1_11) (IntKind.wrap .i64 (x12_5 + (1 : Int))))
                        else none
                      else
                        (impl_IsGraph_l4 N x1_2 x10_3 x11_4 n_6 k4_0_10 k4_1_11) (IntKind.wrap .i64 (x12_5 + (1 : Int))))
                else none)
          else none
      else none
    else
      k4_0_10
noncomputable def impl_IsGraph (N : Nat) (a0 : QILLIE) (kf : Bool → Option Ret) : Option Ret :=
  impl_InRange N a0.1 (0 : Int) (10 : Int) (fun (r7_1 : Bool) =>
    bif (!r7_1) then
      kf false
    else
      impl_IsGraph_l4 N a0 a0.2 (List.length a0.2 : Int) N (kf true) kf (0 : Int))
noncomputable def impl_GraphText_l5 (N : Nat) (x13_4 : (List (List Int))) (x14_5 : Int) : Nat → (ByteArray → Option Ret) → ByteArray → Int → Option Ret
  | 0, _, _, _ => none
  | n_7 + 1, k5_0_10, x3_3, x15_6 =>
    bif (decide (x15_6 < x14_5)) then
      bif (inB x15_6 (List.length x13_4)) then
        bif (inB (0 : Int) (List.length (List.getD x13_4 (Int.toNat x15_6) ([] : (List Int))))) then
          bif (inB (1 : Int) (List.length (List.getD x13_4 (Int.toNat x15_6) ([] : (List Int))))) then
            impl_FormatInt N (List.getD (List.getD x13_4 (Int.toNat x15_6) ([] : (List Int))) (Int.toNat (0 : Int)) (0 : Int)) (fun (r23_8 : ByteArray) =>
              bif (decide (ByteArray.size s_h20 + ByteArray.size r23_8 ≤ 9223372036854775807)) then
                bif (decide (ByteArray.size (s_h20 ++ r23_8) + ByteArray.size s_h3e ≤ 9223372036854775807)) then
                  impl_FormatInt N (List.getD (List.getD x13_4 (Int.toNat x15_6) ([] : (List Int))) (Int.toNat (1 : Int)) (0 : Int)) (fun (r29_9 : ByteArray) =>
                    bif (decide (ByteArray.size ((s_h20 ++ r23_8) ++ s_h3e) + ByteArray.size r29_9 ≤ 9223372036854775807)) then
                      bif (decide (ByteArray.size x3_3 + ByteArray.size (((s_h20 ++ r23_8) ++ s_h3e) ++ r29_9) ≤ 9223372036854775807)) then
                        (impl_GraphText_l5 N x13_4 x14_5 n_7 k5_0_10) (x3_3 ++ (((s_h20 ++ r23_8) ++ s_h3e) ++ r29_9)) (IntKind.wrap .i64 (x15_6 + (1 : Int)))
                      else none
                    else none)
                else none
              else none)
          else none
        else none
      else none
    else
      k5_0_10 x3_3
noncomputable def impl_GraphText (N : Nat) (a0 : QILLIE) (kf : ByteArray → Option Ret) : Option Ret :=
  impl_IsGraph N a0 (fun (r7_1 : Bool) =>
    bif (!r7_1) then
      kf s_e
    else
      impl_FormatInt N a0.1 (fun (r11_2 : ByteArray) =>
        impl_GraphText_l5 N a0.2 (List.length a0.2 : Int) N kf r11_2 (0 : Int)))
noncomputable def laws_eqGraph (N : Nat) (a0 : QILLIE) (a1 : QILLIE) (kf : Bool → Option Ret) : Option Ret :=
  bif (a0.1 != a1.1) then
    kf false
  else
    laws_eqIntSS N a0.2 a1.2 (fun (r14_1 : Bool) =>
      bif (!r14_1) then
        kf false
      else
        kf true)
noncomputable def spec_l32Split_l4 (x0_1 : ByteArray) (x1_2 : Int) : Nat → ((List ByteArray) → Option Ret) → (List ByteArray) → Int → Int → Option Ret
  | 0, _, _, _, _ => none
  | n_6 + 1, k4_0_9, x5_3, x6_4, x7_5 =>
    bif (decide (x7_5 ≤ (ByteArray.size x0_1 : Int))) then
      bif (x7_5 == (ByteArray.size x0_1 : Int)) then
        bif (decide ((0 : Int) ≤ x6_4) && decide (x6_4 ≤ x7_5) && decide (x7_5 ≤ (ByteArray.size x0_1 : Int))) then
          bif (decide ((List.length x5_3 + List.length [(ByteArray.extract x0_1 (Int.toNat x6_4) (Int.toNat x7_5))]) * 1 ≤ 4398046511104)) then
            (spec_l32Split_l4 x0_1 x1_2 n_6 k4_0_9) (x5_3 ++ [(ByteArray.extract x0_1 (Int.toNat x6_4) (Int.toNat x7_5))]) (IntKind.wrap .i64 (x7_5 + (1 : Int))) (IntKind.wrap .i64 (x7_5 + (1 : Int)))
          else none
        else none
      else
        bif (inB x7_5 (ByteArray.size x0_1)) then
          bif ((bt x0_1 x7_5) == x1_2) then
            bif (decide ((0 : Int) ≤ x6_4) && decide (x6_4 ≤ x7_5) && decide (x7_5 ≤ (ByteArray.size x0_1 : Int))) then
              bif (decide ((List.length x5_3 + List.length [(ByteArray.extract x0_1 (Int.toNat x6_4) (Int.toNat x7_5))]) * 1 ≤ 4398046511104)) then
                (spec_l32Split_l4 x0_1 x1_2 n_6 k4_0_9) (x5_3 ++ [(ByteArray.extract x0_1 (Int.toNat x6_4) (Int.toNat x7_5))]) (IntKind.wrap .i64 (x7_5 + (1 : Int))) (IntKind.wrap .i64 (x7_5 + (1 : Int)))
              else none
            else none
          else
            (spec_l32Split_l4 x0_1 x1_2 n_6 k4_0_9) x5_3 x6_4 (IntKind.wrap .i64 (x7_5 + (1 : Int)))
        else none
    else
      k4_0_9 x5_3
noncomputable def spec_l32Split (N : Nat) (a0 : ByteArray) (a1 : Int) (kf : (List ByteArray) → Option Ret) : Option Ret :=
  spec_l32Split_l4 a0 a1 N kf ([] : (List ByteArray)) (0 : Int) (0 : Int)
noncomputable def spec_ParseInt_l5 (N : Nat) (x0_2 : ByteArray) : Nat → (Int → Option Ret) → (Int → Bool → Option Ret) → Int → Int → Option Ret
  | 0, _, _, _, _ => none
  | n_5 + 1, k5_0_7, k5_1_8, x4_3, x5_4 =>
    bif (decide (x5_4 < (ByteArray.size x0_2 : Int))) then
      bif (inB x5_4 (ByteArray.size x0_2)) then
        spec_l1In N (IntKind.wrap .i64 (bt x0_2 x5_4)) (48 : Int) (57 : Int) (fun (r20_6 : Bool) =>
          bif (!r20_6) then
            k5_1_8 (0 : Int) false
          else
            bif (inB x5_4 (ByteArray.size x0_2)) then
              (spec_ParseInt_l5 N x0_2 n_5 k5_0_7 k5_1_8) (IntKind.wrap .i64 ((IntKind.wrap .i64 ((10 : Int) * x4_3)) + (IntKind.wrap .i64 (IntKind.wrap .u8 ((bt x0_2 x5_4) - (48 : Int)))))) (IntKind.wrap .i64 (x5_4 + (1 : Int)))
            else none)
      else none
    else
      k5_0_7 x4_3
noncomputable def spec_ParseInt (N : Nat) (a0 : ByteArray) (kf : Int → Bool → Option Ret) : Option Ret :=
  spec_l1In N (ByteArray.size a0 : Int) (1 : Int) (13 : Int) (fun (r8_1 : Bool) =>
    bif (!r8_1) then
      kf (0 : Int) false
    else
      spec_ParseInt_l5 N a0 N (fun (z4_10 : Int) =>
        bif (decide (z4_10 > (1000000000000 : Int))) then
          kf (0 : Int) false
        else
          spec_FormatInt N z4_10 (fun (r34_13 : ByteArray) =>
            bif (!(ByteArray.toList r34_13 == ByteArray.toList a0)) then
              kf (0 : Int) false
            else
              kf z4_10 true)) kf (0 : Int) (0 : Int))
noncomputable def spec_ParseGraph_l5 (N : Nat) (x0_4 : ByteArray) (x2_5 : QILLIE) (x4_6 : (List ByteArray)) (x6_7 : Bool) : Nat → (QILLIE → Option Ret) → (QILLIE → Bool → Option Ret) → QILLIE → Int → Option Ret
  | 0, _, _, _, _ => none
  | n_10 + 1, k5_0_16, k5_1_17, x7_8, x8_9 =>
    bif (decide (x8_9 < (List.length x4_6 : Int))) then
      bif (inB x8_9 (List.length x4_6)) then
        spec_l32Split N (List.getD x4_6 (Int.toNat x8_9) ByteArray.empty) (62 : Int) (fun (r35_11 : (List ByteArray)) =>
          bif ((List.length r35_11 : Int) != (2 : Int)) then
            k5_1_17 ((0 : Int), ([] : (List (List Int)))) false
          else
            bif (inB (0 : Int) (List.length r35_11)) then
              spec_ParseInt N (List.getD r35_11 (Int.toNat (0 : Int)) ByteArray.empty) (fun (r44_12 : Int) (r44_13 : Bool) =>
                bif (inB (1 : Int) (List.length r35_11)) then
                  spec_ParseInt N (List.getD r35_11 (Int.toNat (1 : Int)) ByteArray.empty) (fun (r51_14 : Int) (r51_15 : Bool) =>
                    bif (!r44_13) then
                      k5_1_17 ((0 : Int), ([] : (List (List Int)))) false
                    else
                      bif (!r51_15) then
                        k5_1_17 ((0 : Int), ([] : (List (List Int)))) false
                      else
                        bif (decide ((List.length x7_8.2 + List.length [[r44_12, r51_14]]) * 1 ≤ 4398046511104)) then
                          (spec_ParseGraph_l5 N x0_4 x2_5 x4_6 x6_7 n_10 k5_0_16 k5_1_17) (x7_8.1, (x7_8.2 ++ [[r44_12, r51_14]])) (IntKind.wrap .i64 (x8_9 + (1 : Int)))
                        else none)
                else none)
            else none)
      else none
    else
      k5_0_16 x7_8
noncomputable def spec_ParseGraph (N : Nat) (a0 : ByteArray) (kf : QILLIE → Bool → Option Ret) : Option Ret :=
  spec_l32Split N a0 (32 : Int) (fun (r15_1 : (List ByteArray)) =>
    bif (inB (0 : Int) (List.length r15_1)) then
      spec_ParseInt N (List.getD r15_1 (Int.toNat (0 : Int)) ByteArray.empty) (fun (r20_2 : Int) (r20_3 : Bool) =>
        spec_ParseGraph_l5 N a0 ((0 : Int), ([] : (List (List Int)))) r15_1 r20_3 N (fun (z7_19 : QILLIE) =>
          bif (!r20_3) then
            kf ((0 : Int), ([] : (List (List Int)))) false
          else
            bif (ByteArray.toList a0 == ByteArray.toList s_e) then
              kf ((0 : Int), ([] : (List (List Int)))) false
            else
              spec_GraphText N z7_19 (fun (r77_22 : ByteArray) =>
                bif (!(ByteArray.toList r77_22 == ByteArray.toList a0)) then
                  kf ((0 : Int), ([] : (List (List Int)))) false
                else
                  kf z7_19 true)) kf (r20_2, ([] : (List (List Int)))) (1 : Int))
    else none)
noncomputable def strings_Split (N : Nat) (a0 : ByteArray) (a1 : ByteArray) (kf : (List ByteArray) → Option Ret) : Option Ret :=
  bif (Nat.blt (ByteArray.size a0) 4294967281 && Nat.beq (ByteArray.size a1) 1) then
    kf (splitL a0 a1)
  else none
noncomputable def impl_ParseInt_l5 (x0_1 : ByteArray) (x25_3 : Int) : Nat → (Int → Option Ret) → (Int → Bool → Option Ret) → Int → Int → Option Ret
  | 0, _, _, _, _ => none
  | n_5 + 1, k5_0_6, k5_1_7, x4_2, x26_4 =>
    bif (decide (x26_4 < x25_3)) then
      bif (inB x26_4 (ByteArray.size x0_1)) then
        bif (decide ((bt x0_1 x26_4) < (48 : Int))) then
          k5_1_7 (0 : Int) false
        else
          bif (inB x26_4 (ByteArray.size x0_1)) then
            bif (decide ((bt x0_1 x26_4) > (57 : Int))) then
              k5_1_7 (0 : Int) false
            else
              bif (inB x26_4 (ByteArray.size x0_1)) then
                (impl_ParseInt_l5 x0_1 x25_3 n_5 k5_0_6 k5_1_7) (IntKind.wrap .i64 ((IntKind.wrap .i64 ((10 : Int) * x4_2)) + (IntKind.wrap .i64 (IntKind.wrap .u8 ((bt x0_1 x26_4) - (48 : Int)))))) (IntKind.wrap .i64 (x26_4 + (1 : Int)))
              else none
          else none
      else none
    else
      k5_0_6 x4_2
noncomputable def impl_ParseInt_j1 (N : Nat) (a0 : ByteArray) (kf : Int → Bool → Option Ret) : Option Ret :=
  impl_ParseInt_l5 a0 (ByteArray.size a0 : Int) N (fun (z4_9 : Int) =>
    bif (decide (z4_9 > (1000000000000 : Int))) then
      kf (0 : Int) false
    else
      kf z4_9 true) kf (0 : Int) (0 : Int)
noncomputable def impl_ParseInt (N : Nat) (a0 : ByteArray) (kf : Int → Bool → Option Ret) : Option Ret :=
  bif ((ByteArray.size a0 : Int) == (0 : Int)) then
    kf (0 : Int) false
  else
    bif (decide ((ByteArray.size a0 : Int) > (13 : Int))) then
      kf (0 : Int) false
    else
      bif (decide ((ByteArray.size a0 : Int) > (1 : Int))) then
        bif (inB (0 : Int) (ByteArray.size a0)) then
          bif ((bt a0 (0 : Int)) == (48 : Int)) then
            kf (0 : Int) false
          else
            impl_ParseInt_j1 N a0 kf
        else none
      else
        impl_ParseInt_j1 N a0 kf
noncomputable def strings_Cut (N : Nat) (a0 : ByteArray) (a1 : ByteArray) (kf : ByteArray → ByteArray → Bool → Option Ret) : Option Ret :=
  bif (Nat.blt (ByteArray.size a0) 4294967281 && Nat.beq (ByteArray.size a1) 1) then
    kf (cutA a0 a1) (cutB a0 a1) (cutF a0 a1)
  else none
noncomputable def impl_ParseGraph_l5 (N : Nat) (x0_4 : ByteArray) (x2_5 : QILLIE) (x30_8 : (List ByteArray)) (x31_9 : Int) : Nat → (Bool → QILLIE → Option Ret) → Bool → QILLIE → Int → Option Ret
  | 0, _, _, _, _ => none
  | n_11 + 1, k5_0_19, x6_6, x7_7, x32_10 =>
    bif (decide (x32_10 < x31_9)) then
      bif (inB x32_10 (List.length x30_8)) then
        strings_Cut N (List.getD x30_8 (Int.toNat x32_10) ByteArray.empty) s_h3e (fun (r38_12 : ByteArray) (r38_13 : ByteArray) (r38_14 : Bool) =>
          impl_ParseInt N r38_12 (fun (r44_15 : Int) (r44_16 : Bool) =>
            impl_ParseInt N r38_13 (fun (r49_17 : Int) (r49_18 : Bool) =>
              bif x6_6 then
                bif r44_16 then
                  bif (decide ((List.length x7_7.2 + List.length [[r44_15, r49_17]]) * 1 ≤ 4398046511104)) then
                    (impl_ParseGraph_l5 N x0_4 x2_5 x30_8 x31_9 n_11 k5_0_19) r49_18 (x7_7.1, (x7_7.2 ++ [[r44_15, r49_17]])) (IntKind.wrap .i64 (x32_10 + (1 : Int)))
                  else none
                else
                  bif (decide ((List.length x7_7.2 + List.length [[r44_15, r49_17]]) * 1 ≤ 4398046511104)) then
                    (impl_ParseGraph_l5 N x0_4 x2_5 x30_8 x31_9 n_11 k5_0_19) false (x7_7.1, (x7_7.2 ++ [[r44_15, r49_17]])) (IntKind.wrap .i64 (x32_10 + (1 : Int)))
                  else none
              else
                bif (decide ((List.length x7_7.2 + List.length [[r44_15, r49_17]]) * 1 ≤ 4398046511104)) then
                  (impl_ParseGraph_l5 N x0_4 x2_5 x30_8 x31_9 n_11 k5_0_19) false (x7_7.1, (x7_7.2 ++ [[r44_15, r49_17]])) (IntKind.wrap .i64 (x32_10 + (1 : Int)))
                else none)))
      else none
    else
      k5_0_19 x6_6 x7_7
noncomputable def impl_ParseGraph (N : Nat) (a0 : ByteArray) (kf : QILLIE → Bool → Option Ret) : Option Ret :=
  strings_Split N a0 s_h20 (fun (r18_1 : (List ByteArray)) =>
    bif (inB (0 : Int) (List.length r18_1)) then
      impl_ParseInt N (List.getD r18_1 (Int.toNat (0 : Int)) ByteArray.empty) (fun (r23_2 : Int) (r23_3 : Bool) =>
        bif (decide ((0 : Int) ≤ (1 : Int)) && decide ((1 : Int) ≤ (List.length r18_1 : Int)) && decide ((List.length r18_1 : Int) ≤ (List.length r18_1 : Int))) then
          impl_ParseGraph_l5 N a0 ((0 : Int), ([] : (List (List Int)))) (List.drop (Int.toNat (1 : Int)) (List.take (Int.toNat (List.length r18_1 : Int)) r18_1)) (List.length (List.drop (Int.toNat (1 : Int)) (List.take (Int.toNat (List.length r18_1 : Int)) r18_1)) : Int) N (fun (z6_21 : Bool) (z7_22 : QILLIE) =>
            bif (!z6_21) then
              kf ((0 : Int), ([] : (List (List Int)))) false
            else
              impl_GraphText N z7_22 (fun (r72_23 : ByteArray) =>
                bif (!(ByteArray.toList r72_23 == ByteArray.toList a0)) then
                  kf ((0 : Int), ([] : (List (List Int)))) false
                else
                  kf z7_22 true)) r23_3 (r23_2, ([] : (List (List Int)))) (0 : Int)
        else none)
    else none)
noncomputable def laws_markIntS_l2  : Nat → ((List Int) → Int → Option Ret) → (List Int) → Int → Int → Option Ret
  | 0, _, _, _, _ => none
  | n_4 + 1, k2_0_5, x0_1, x1_2, x5_3 =>
    bif (decide (x5_3 < (List.length x0_1 : Int))) then
      bif (inB x5_3 (List.length x0_1)) then
        (laws_markIntS_l2 n_4 k2_0_5) (List.set x0_1 (Int.toNat x5_3) x1_2) (IntKind.wrap .i64 (x1_2 + (1 : Int))) (IntKind.wrap .i64 (x5_3 + (1 : Int)))
      else none
    else
      k2_0_5 x0_1 x1_2
noncomputable def laws_markIntS (N : Nat) (a0 : (List Int)) (a1 : Int) (kf : Int → (List Int) → Option Ret) : Option Ret :=
  laws_markIntS_l2 N (fun (z0_7 : (List Int)) (z1_8 : Int) =>
    kf z1_8 z0_7) a0 a1 (0 : Int)
noncomputable def laws_markIntSS_l2 (N : Nat) : Nat → ((List (List Int)) → Int → Option Ret) → (List (List Int)) → Int → Int → Option Ret
  | 0, _, _, _, _ => none
  | n_4 + 1, k2_0_7, x0_1, x1_2, x5_3 =>
    bif (decide (x5_3 < (List.length x0_1 : Int))) then
      bif (inB x5_3 (List.length x0_1)) then
        laws_markIntS N (List.getD x0_1 (Int.toNat x5_3) ([] : (List Int))) x1_2 (fun (r17_5 : Int) (z0_6 : (List Int)) =>
          (laws_markIntSS_l2 N n_4 k2_0_7) (List.set x0_1 (Int.toNat x5_3) z0_6) r17_5 (IntKind.wrap .i64 (x5_3 + (1 : Int))))
      else none
    else
      k2_0_7 x0_1 x1_2
noncomputable def laws_markIntSS (N : Nat) (a0 : (List (List Int))) (a1 : Int) (kf : Int → (List (List Int)) → Option Ret) : Option Ret :=
  laws_markIntSS_l2 N N (fun (z0_9 : (List (List Int))) (z1_10 : Int) =>
    kf z1_10 z0_9) a0 a1 (0 : Int)
noncomputable def laws_markGraph (N : Nat) (a0 : QILLIE) (a1 : Int) (kf : Int → QILLIE → Option Ret) : Option Ret :=
  laws_markIntSS N a0.2 a1 (fun (r8_1 : Int) (z2_2 : (List (List Int))) =>
    kf r8_1 (a0.1, z2_2))
noncomputable def laws_heldIntS_l2 (x0_1 : (List Int)) : Nat → (Int → Option Ret) → (Int → Option Ret) → Int → Int → Option Ret
  | 0, _, _, _, _ => none
  | n_4 + 1, k2_0_5, k2_1_6, x1_2, x5_3 =>
    bif (decide (x5_3 < (List.length x0_1 : Int))) then
      bif (inB x5_3 (List.length x0_1)) then
        bif ((List.getD x0_1 (Int.toNat x5_3) (0 : Int)) != x1_2) then
          k2_1_6 (-1 : Int)
        else
          (laws_heldIntS_l2 x0_1 n_4 k2_0_5 k2_1_6) (IntKind.wrap .i64 (x1_2 + (1 : Int))) (IntKind.wrap .i64 (x5_3 + (1 : Int)))
      else none
    else
      k2_0_5 x1_2
noncomputable def laws_heldIntS (N : Nat) (a0 : (List Int)) (a1 : Int) (kf : Int → Option Ret) : Option Ret :=
  laws_heldIntS_l2 a0 N kf kf a1 (0 : Int)
noncomputable def laws_heldIntSS_l2 (N : Nat) (x0_1 : (List (List Int))) : Nat → (Int → Option Ret) → (Int → Option Ret) → Int → Int → Option Ret
  | 0, _, _, _, _ => none
  | n_4 + 1, k2_0_6, k2_1_7, x1_2, x5_3 =>
    bif (decide (x5_3 < (List.length x0_1 : Int))) then
      bif (inB x5_3 (List.length x0_1)) then
        laws_heldIntS N (List.getD x0_1 (Int.toNat x5_3) ([] : (List Int))) x1_2 (fun (r17_5 : Int) =>
          bif (decide (r17_5 < (0 : Int))) then
            k2_1_7 (-1 : Int)
          else
            (laws_heldIntSS_l2 N x0_1 n_4 k2_0_6 k2_1_7) r17_5 (IntKind.wrap .i64 (x5_3 + (1 : Int))))
      else none
    else
      k2_0_6 x1_2
noncomputable def laws_heldIntSS (N : Nat) (a0 : (List (List Int))) (a1 : Int) (kf : Int → Option Ret) : Option Ret :=
  laws_heldIntSS_l2 N a0 N kf kf a1 (0 : Int)
noncomputable def laws_heldGraph (N : Nat) (a0 : QILLIE) (a1 : Int) (kf : Int → Option Ret) : Option Ret :=
  laws_heldIntSS N a0.2 a1 (fun (r8_1 : Int) =>
    bif (decide (r8_1 < (0 : Int))) then
      kf (-1 : Int)
    else
      kf r8_1)
noncomputable def laws_FnExactParseGraph (N : Nat) (a0 : ByteArray) (kf : Bool → Option Ret) : Option Ret :=
  bif (decide ((ByteArray.size a0 : Int) > (1048576 : Int))) then
    kf true
  else
    spec_ParseGraph N a0 (fun (r16_1 : QILLIE) (r16_2 : Bool) =>
      impl_ParseGraph N a0 (fun (r21_3 : QILLIE) (r21_4 : Bool) =>
        laws_eqGraph N r21_3 r16_1 (fun (r26_5 : Bool) =>
          bif (!r26_5) then
            kf false
          else
            bif (!(r21_4 == r16_2)) then
              kf false
            else
              laws_markGraph N r21_3 (1 : Int) (fun (r35_6 : Int) (z5_7 : QILLIE) =>
                laws_heldGraph N (r21_3.1, z5_7.2) (1 : Int) (fun (r38_8 : Int) =>
                  bif (decide (r38_8 < (0 : Int))) then
                    kf false
                  else
                    bif (r38_8 != r35_6) then
                      kf false
                    else
                      impl_ParseGraph N a0 (fun (r46_9 : QILLIE) (r46_10 : Bool) =>
                        laws_eqGraph N r46_9 r16_1 (fun (r51_11 : Bool) =>
                          bif (!r51_11) then
                            kf false
                          else
                            bif (!(r46_10 == r16_2)) then
                              kf false
                            else
                              laws_heldGraph N (r21_3.1, z5_7.2) (1 : Int) (fun (r60_12 : Int) =>
                                bif (decide (r60_12 < (0 : Int))) then
                                  kf false
                                else
                                  bif (r60_12 != r35_6) then
                                    kf false
                                  else
                                    kf true))))))))
end Go.Pv.R
