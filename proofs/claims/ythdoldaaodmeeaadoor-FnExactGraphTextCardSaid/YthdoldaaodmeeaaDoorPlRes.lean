/- What the functions compute, as plain functions. -/
import Derived.Test.YthdoldaaodmeeaaDoorPv4
namespace Go.Pv.R
set_option linter.unusedVariables false
set_option linter.unusedSimpArgs false
abbrev tQILLIE : Ty := (.pair (.int .i64) (.sl (.sl (.int .i64))))
abbrev QILLIE : Type := (Int × (List (List Int)))
abbrev tQIIE : Ty := (.pair (.int .i64) (.int .i64))
abbrev tQIIIE : Ty := (.pair (.int .i64) (.pair (.int .i64) (.int .i64)))
abbrev tQIILIE : Ty := (.pair (.int .i64) (.pair (.int .i64) (.sl (.int .i64))))
abbrev tQIIIIILIE : Ty := (.pair (.int .i64) (.pair (.int .i64) (.pair (.int .i64) (.pair (.int .i64) (.pair (.int .i64) (.sl (.int .i64)))))))
abbrev tQIIIIE : Ty := (.pair (.int .i64) (.pair (.int .i64) (.pair (.int .i64) (.int .i64))))
abbrev tQLQIIIIILIELQIILIELQIIELILQIIIELQIIIIEIE : Ty := (.pair (.sl tQIIIIILIE) (.pair (.sl tQIILIE) (.pair (.sl tQIIE) (.pair (.sl (.int .i64)) (.pair (.sl tQIIIE) (.pair (.sl tQIIIIE) (.int .i64)))))))
noncomputable def s_e : ByteArray := ⟨#[]⟩
noncomputable def s_0 : ByteArray := ⟨#[48]⟩
noncomputable def s_h2d : ByteArray := ⟨#[45]⟩
noncomputable def s_h20 : ByteArray := ⟨#[32]⟩
noncomputable def s_h3e : ByteArray := ⟨#[62]⟩
noncomputable def laws_toIntS_l3 (x0_1 : (List Int)) : Nat → ((List Int) → Option Ret) → (List Int) → Int → Option Ret
  | 0, _, _, _ => none
  | n_4 + 1, k3_0_5, x3_2, x4_3 =>
    bif (decide (x4_3 < (List.length x0_1 : Int))) then
      bif (inB x4_3 (List.length x0_1)) then
        bif (inB x4_3 (List.length x3_2)) then
          (laws_toIntS_l3 x0_1 n_4 k3_0_5) (List.set x3_2 (Int.toNat x4_3) (List.getD x0_1 (Int.toNat x4_3) (0 : Int))) (IntKind.wrap .i64 (x4_3 + (1 : Int)))
        else none
      else none
    else
      k3_0_5 x3_2
noncomputable def laws_toIntS (N : Nat) (a0 : (List Int)) (kf : (List Int) → Option Ret) : Option Ret :=
  bif (decide ((List.length a0 : Int) = (List.length a0 : Int)) && decide ((0 : Int) ≤ (List.length a0 : Int)) && decide ((List.length a0 : Int) ≤ 1099511627776)) then
    laws_toIntS_l3 a0 N kf (List.replicate (Int.toNat (List.length a0 : Int)) (0 : Int)) (0 : Int)
  else none
noncomputable def spec_FormatInt_j1 (rc5_7 : ByteArray → Int → Option Ret) (x3_2 : ByteArray) (x4_3 : Int) (y5_5 : Int) : Option Ret :=
  bif (decide (ByteArray.size (bytesOf [(IntKind.wrap .u8 (IntKind.wrap .i64 ((48 : Int) + y5_5)))]) + ByteArray.size x3_2 ≤ 9223372036854775807)) then
    rc5_7 ((bytesOf [(IntKind.wrap .u8 (IntKind.wrap .i64 ((48 : Int) + y5_5)))]) ++ x3_2) (IntKind.wrap .i64 (Int.tdiv x4_3 (10 : Int)))
  else none
noncomputable def spec_FormatInt_l5 (x0_1 : Int) : Nat → (ByteArray → Option Ret) → ByteArray → Int → Option Ret
  | 0, _, _, _ => none
  | n_4 + 1, k5_0_6, x3_2, x4_3 =>
    bif (x4_3 != (0 : Int)) then
      bif (decide ((Int.tmod x4_3 (10 : Int)) < (0 : Int))) then
        spec_FormatInt_j1 (spec_FormatInt_l5 x0_1 n_4 k5_0_6) x3_2 x4_3 (IntKind.wrap .i64 (0 - (Int.tmod x4_3 (10 : Int))))
      else
        spec_FormatInt_j1 (spec_FormatInt_l5 x0_1 n_4 k5_0_6) x3_2 x4_3 (Int.tmod x4_3 (10 : Int))
    else
      k5_0_6 x3_2
noncomputable def spec_FormatInt (N : Nat) (a0 : Int) (kf : ByteArray → Option Ret) : Option Ret :=
  bif (a0 == (0 : Int)) then
    kf s_0
  else
    spec_FormatInt_l5 a0 N (fun (z3_8 : ByteArray) =>
      bif (decide (a0 < (0 : Int))) then
        bif (decide (ByteArray.size s_h2d + ByteArray.size z3_8 ≤ 9223372036854775807)) then
          kf (s_h2d ++ z3_8)
        else none
      else
        kf z3_8) s_e a0
noncomputable def strconv_Itoa (N : Nat) (a0 : Int) (kf : ByteArray → Option Ret) : Option Ret :=
  bif (decide ((-9223372036854775808 : Int) ≤ a0) && decide (a0 ≤ (9223372036854775807 : Int))) then
    kf (itoaB a0)
  else none
noncomputable def impl_FormatInt (N : Nat) (a0 : Int) (kf : ByteArray → Option Ret) : Option Ret :=
  strconv_Itoa N a0 kf
noncomputable def laws_eqIntS_l4 (x0_1 : (List Int)) (x1_2 : (List Int)) : Nat → (Option Ret) → (Bool → Option Ret) → Int → Option Ret
  | 0, _, _, _ => none
  | n_4 + 1, k4_0_5, k4_1_6, x5_3 =>
    bif (decide (x5_3 < (List.length x0_1 : Int))) then
      bif (inB x5_3 (List.length x0_1)) then
        bif (inB x5_3 (List.length x1_2)) then
          bif ((List.getD x0_1 (Int.toNat x5_3) (0 : Int)) != (List.getD x1_2 (Int.toNat x5_3) (0 : Int))) then
            k4_1_6 false
          else
            (laws_eqIntS_l4 x0_1 x1_2 n_4 k4_0_5 k4_1_6) (IntKind.wrap .i64 (x5_3 + (1 : Int)))
        else none
      else none
    else
      k4_0_5
noncomputable def laws_eqIntS (N : Nat) (a0 : (List Int)) (a1 : (List Int)) (kf : Bool → Option Ret) : Option Ret :=
  bif ((List.length a0 : Int) != (List.length a1 : Int)) then
    kf false
  else
    laws_eqIntS_l4 a0 a1 N (kf true) kf (0 : Int)
noncomputable def laws_szIntS (N : Nat) (a0 : (List Int)) (a1 : Int) (kf : Int → Option Ret) : Option Ret :=
  bif (decide ((IntKind.wrap .i64 (a1 - (List.length a0 : Int))) < (0 : Int))) then
    kf (-1 : Int)
  else
    kf (IntKind.wrap .i64 (a1 - (List.length a0 : Int)))
noncomputable def laws_szIntSS_l5 (N : Nat) (x0_1 : (List (List Int))) : Nat → (Int → Option Ret) → (Int → Option Ret) → Int → Int → Option Ret
  | 0, _, _, _, _ => none
  | n_4 + 1, k5_0_6, k5_1_7, x1_2, x5_3 =>
    bif (decide (x5_3 < (List.length x0_1 : Int))) then
      bif (inB x5_3 (List.length x0_1)) then
        laws_szIntS N (List.getD x0_1 (Int.toNat x5_3) ([] : (List Int))) x1_2 (fun (r23_5 : Int) =>
          bif (decide (r23_5 < (0 : Int))) then
            k5_1_7 (-1 : Int)
          else
            (laws_szIntSS_l5 N x0_1 n_4 k5_0_6 k5_1_7) r23_5 (IntKind.wrap .i64 (x5_3 + (1 : Int))))
      else none
    else
      k5_0_6 x1_2
noncomputable def laws_szIntSS (N : Nat) (a0 : (List (List Int))) (a1 : Int) (kf : Int → Option Ret) : Option Ret :=
  bif (decide ((IntKind.wrap .i64 (a1 - (List.length a0 : Int))) < (0 : Int))) then
    kf (-1 : Int)
  else
    laws_szIntSS_l5 N a0 N kf kf (IntKind.wrap .i64 (a1 - (List.length a0 : Int))) (0 : Int)
noncomputable def laws_toIntSS_l3 (N : Nat) (x0_1 : (List (List Int))) : Nat → ((List (List Int)) → Option Ret) → (List (List Int)) → Int → Option Ret
  | 0, _, _, _ => none
  | n_4 + 1, k3_0_6, x3_2, x4_3 =>
    bif (decide (x4_3 < (List.length x0_1 : Int))) then
      bif (inB x4_3 (List.length x0_1)) then
        laws_toIntS N (List.getD x0_1 (Int.toNat x4_3) ([] : (List Int))) (fun (r20_5 : (List Int)) =>
          bif (inB x4_3 (List.length x3_2)) then
            (laws_toIntSS_l3 N x0_1 n_4 k3_0_6) (List.set x3_2 (Int.toNat x4_3) r20_5) (IntKind.wrap .i64 (x4_3 + (1 : Int)))
          else none)
      else none
    else
      k3_0_6 x3_2
noncomputable def laws_toIntSS (N : Nat) (a0 : (List (List Int))) (kf : (List (List Int)) → Option Ret) : Option Ret :=
  bif (decide ((List.length a0 : Int) = (List.length a0 : Int)) && decide ((0 : Int) ≤ (List.length a0 : Int)) && decide ((List.length a0 : Int) ≤ 1099511627776)) then
    laws_toIntSS_l3 N a0 N kf (List.replicate (Int.toNat (List.length a0 : Int)) ([] : (List Int))) (0 : Int)
  else none
noncomputable def laws_eqIntSS_l4 (N : Nat) (x0_1 : (List (List Int))) (x1_2 : (List (List Int))) : Nat → (Option Ret) → (Bool → Option Ret) → Int → Option Ret
  | 0, _, _, _ => none
  | n_4 + 1, k4_0_6, k4_1_7, x5_3 =>
    bif (decide (x5_3 < (List.length x0_1 : Int))) then
      bif (inB x5_3 (List.length x0_1)) then
        bif (inB x5_3 (List.length x1_2)) then
          laws_eqIntS N (List.getD x0_1 (Int.toNat x5_3) ([] : (List Int))) (List.getD x1_2 (Int.toNat x5_3) ([] : (List Int))) (fun (r25_5 : Bool) =>
            bif (!r25_5) then
              k4_1_7 false
            else
              (laws_eqIntSS_l4 N x0_1 x1_2 n_4 k4_0_6 k4_1_7) (IntKind.wrap .i64 (x5_3 + (1 : Int))))
        else none
      else none
    else
      k4_0_6
noncomputable def laws_eqIntSS (N : Nat) (a0 : (List (List Int))) (a1 : (List (List Int))) (kf : Bool → Option Ret) : Option Ret :=
  bif ((List.length a0 : Int) != (List.length a1 : Int)) then
    kf false
  else
    laws_eqIntSS_l4 N a0 a1 N (kf true) kf (0 : Int)
noncomputable def laws_szGraph (N : Nat) (a0 : QILLIE) (a1 : Int) (kf : Int → Option Ret) : Option Ret :=
  laws_szIntSS N a0.2 a1 (fun (r8_1 : Int) =>
    bif (decide (r8_1 < (0 : Int))) then
      kf (-1 : Int)
    else
      kf r8_1)
noncomputable def laws_toGraph (N : Nat) (a0 : QILLIE) (kf : QILLIE → Option Ret) : Option Ret :=
  laws_toIntSS N a0.2 (fun (r9_1 : (List (List Int))) =>
    kf (a0.1, r9_1))
noncomputable def spec_l1In (N : Nat) (a0 : Int) (a1 : Int) (a2 : Int) (kf : Bool → Option Ret) : Option Ret :=
  bif (decide (a0 ≥ a1)) then
    kf (decide (a0 ≤ a2))
  else
    kf false
noncomputable def spec_IsGraph_l2 (N : Nat) (x1_1 : QILLIE) : Nat → (Option Ret) → (Bool → Option Ret) → Int → Option Ret
  | 0, _, _, _ => none
  | n_3 + 1, k2_0_6, k2_1_7, x3_2 =>
    bif (decide (x3_2 < (List.length x1_1.2 : Int))) then
      bif (inB x3_2 (List.length x1_1.2)) then
        bif ((List.length (List.getD x1_1.2 (Int.toNat x3_2) ([] : (List Int))) : Int) != (2 : Int)) then
          k2_1_7 false
        else
          bif (inB (0 : Int) (List.length (List.getD x1_1.2 (Int.toNat x3_2) ([] : (List Int))))) then
            spec_l1In N (List.getD (List.getD x1_1.2 (Int.toNat x3_2) ([] : (List Int))) (Int.toNat (0 : Int)) (0 : Int)) (0 : Int) (IntKind.wrap .i64 (x1_1.1 - (1 : Int))) (fun (r28_4 : Bool) =>
              bif (!r28_4) then
                k2_1_7 false
              else
                bif (inB (1 : Int) (List.length (List.getD x1_1.2 (Int.toNat x3_2) ([] : (List Int))))) then
                  spec_l1In N (List.getD (List.getD x1_1.2 (Int.toNat x3_2) ([] : (List Int))) (Int.toNat (1 : Int)) (0 : Int)) (0 : Int) (IntKind.wrap .i64 (x1_1.1 - (1 : Int))) (fun (r38_5 : Bool) =>
                    bif (!r38_5) then
                      k2_1_7 false
                    else
                      bif (decide (x3_2 > (0 : Int))) then
                        bif (inB (IntKind.wrap .i64 (x3_2 - (1 : Int))) (List.length x1_1.2)) then
                          bif (inB (0 : Int) (List.length (List.getD x1_1.2 (Int.toNat (IntKind.wrap .i64 (x3_2 - (1 : Int)))) ([] : (List Int))))) then
                            bif (inB (0 : Int) (List.length (List.getD x1_1.2 (Int.toNat x3_2) ([] : (List Int))))) then
                              bif (decide ((List.getD (List.getD x1_1.2 (Int.toNat (IntKind.wrap .i64 (x3_2 - (1 : Int)))) ([] : (List Int))) (Int.toNat (0 : Int)) (0 : Int)) > (List.getD (List.getD x1_1.2 (Int.toNat x3_2) ([] : (List Int))) (Int.toNat (0 : Int)) (0 : Int)))) then
                                k2_1_7 false
                              else
                                bif (inB (0 : Int) (List.length (List.getD x1_1.2 (Int.toNat (IntKind.wrap .i64 (x3_2 - (1 : Int)))) ([] : (List Int))))) then
                                  bif (inB (0 : Int) (List.length (List.getD x1_1.2 (Int.toNat x3_2) ([] : (List Int))))) then
                                    bif ((List.getD (List.getD x1_1.2 (Int.toNat (IntKind.wrap .i64 (x3_2 - (1 : Int)))) ([] : (List Int))) (Int.toNat (0 : Int)) (0 : Int)) == (List.getD (List.getD x1_1.2 (Int.toNat x3_2) ([] : (List Int))) (Int.toNat (0 : Int)) (0 : Int))) then
                                      bif (inB (1 : Int) (List.length (List.getD x1_1.2 (Int.toNat (IntKind.wrap .i64 (x3_2 - (1 : Int)))) ([] : (List Int))))) then
                                        bif (inB (1 : Int) (List.length (List.getD x1_1.2 (Int.toNat x3_2) ([] : (List Int))))) then
                                          bif (decide ((List.getD (List.getD x1_1.2 (Int.toNat (IntKind.wrap .i64 (x3_2 - (1 : Int)))) ([] : (List Int))) (Int.toNat (1 : Int)) (0 : Int)) ≥ (List.getD (List.getD x1_1.2 (Int.toNat x3_2) ([] : (List Int))) (Int.toNat (1 : Int)) (0 : Int)))) then
                                            k2_1_7 false
                                          else
                                            (spec_IsGraph_l2 N x1_1 n_3 k2_0_6 k2_1_7) (IntKind.wrap .i64 (x3_2 + (1 : Int)))
                                        else none
                                      else none
                                    else
                                      (spec_IsGraph_l2 N x1_1 n_3 k2_0_6 k2_1_7) (IntKind.wrap .i64 (x3_2 + (1 : Int)))
                                  else none
                                else none
                            else none
                          else none
                        else none
                      else
                        (spec_IsGraph_l2 N x1_1 n_3 k2_0_6 k2_1_7) (IntKind.wrap .i64 (x3_2 + (1 : Int))))
                else none)
          else none
      else none
    else
      k2_0_6
noncomputable def spec_IsGraph (N : Nat) (a0 : QILLIE) (kf : Bool → Option Ret) : Option Ret :=
  spec_IsGraph_l2 N a0 N (spec_l1In N a0.1 (0 : Int) (10 : Int) kf) kf (0 : Int)
noncomputable def spec_GraphText_l5 (N : Nat) (x1_3 : QILLIE) : Nat → (ByteArray → Option Ret) → ByteArray → Int → Option Ret
  | 0, _, _, _ => none
  | n_6 + 1, k5_0_9, x3_4, x4_5 =>
    bif (decide (x4_5 < (List.length x1_3.2 : Int))) then
      bif (decide (ByteArray.size x3_4 + ByteArray.size s_h20 ≤ 9223372036854775807)) then
        bif (inB x4_5 (List.length x1_3.2)) then
          bif (inB (0 : Int) (List.length (List.getD x1_3.2 (Int.toNat x4_5) ([] : (List Int))))) then
            bif (inB x4_5 (List.length x1_3.2)) then
              bif (inB (1 : Int) (List.length (List.getD x1_3.2 (Int.toNat x4_5) ([] : (List Int))))) then
                spec_FormatInt N (List.getD (List.getD x1_3.2 (Int.toNat x4_5) ([] : (List Int))) (Int.toNat (0 : Int)) (0 : Int)) (fun (r27_7 : ByteArray) =>
                  bif (decide (ByteArray.size (x3_4 ++ s_h20) + ByteArray.size r27_7 ≤ 9223372036854775807)) then
                    bif (decide (ByteArray.size ((x3_4 ++ s_h20) ++ r27_7) + ByteArray.size s_h3e ≤ 9223372036854775807)) then
                      spec_FormatInt N (List.getD (List.getD x1_3.2 (Int.toNat x4_5) ([] : (List Int))) (Int.toNat (1 : Int)) (0 : Int)) (fun (r37_8 : ByteArray) =>
                        bif (decide (ByteArray.size (((x3_4 ++ s_h20) ++ r27_7) ++ s_h3e) + ByteArray.size r37_8 ≤ 9223372036854775807)) then
                          (spec_GraphText_l5 N x1_3 n_6 k5_0_9) ((((x3_4 ++ s_h20) ++ r27_7) ++ s_h3e) ++ r37_8) (IntKind.wrap .i64 (x4_5 + (1 : Int)))
                        else none)
                    else none
                  else none)
              else none
            else none
          else none
        else none
      else none
    else
      k5_0_9 x3_4
noncomputable def spec_GraphText (N : Nat) (a0 : QILLIE) (kf : ByteArray → Option Ret) : Option Ret :=
  spec_IsGraph N a0 (fun (r6_1 : Bool) =>
    bif (!r6_1) then
      kf s_e
    else
      spec_FormatInt N a0.1 (fun (r10_2 : ByteArray) =>
        spec_GraphText_l5 N a0 N kf r10_2 (0 : Int)))
noncomputable def impl_InRange (N : Nat) (a0 : Int) (a1 : Int) (a2 : Int) (kf : Bool → Option Ret) : Option Ret :=
  bif (decide (a1 ≤ a0)) then
    kf (decide (a0 ≤ a2))
  else
    kf false
noncomputable def impl_isClaim (N : Nat) (a0 : QILLIE) (a1 : Int) (kf : Bool → Option Ret) : Option Ret :=
  impl_InRange N a1 (0 : Int) (IntKind.wrap .i64 (a0.1 - (1 : Int))) kf
noncomputable def cmp_isNaN_int (N : Nat) (a0 : Int) (kf : Bool → Option Ret) : Option Ret :=
  kf (a0 != a0)
noncomputable def cmp_Compare_int (N : Nat) (a0 : Int) (a1 : Int) (kf : Int → Option Ret) : Option Ret :=
  cmp_isNaN_int N a0 (fun (r8_1 : Bool) =>
    cmp_isNaN_int N a1 (fun (r10_2 : Bool) =>
      bif r8_1 then
        bif r10_2 then
          kf (0 : Int)
        else
          kf (-1 : Int)
      else
        bif r10_2 then
          kf (1 : Int)
        else
          bif (decide (a0 < a1)) then
            kf (-1 : Int)
          else
            bif (decide (a0 > a1)) then
              kf (1 : Int)
            else
              kf (0 : Int)))
noncomputable def slices_Compare_int_l2 (N : Nat) (x0_1 : (List Int)) (x1_2 : (List Int)) (x9_3 : (List Int)) (x10_4 : Int) : Nat → (Option Ret) → (Int → Option Ret) → Int → Option Ret
  | 0, _, _, _ => none
  | n_6 + 1, k2_0_8, k2_1_9, x11_5 =>
    bif (decide (x11_5 < x10_4)) then
      bif (inB x11_5 (List.length x9_3)) then
        bif (decide (x11_5 ≥ (List.length x1_2 : Int))) then
          k2_1_9 (1 : Int)
        else
          bif (inB x11_5 (List.length x1_2)) then
            cmp_Compare_int N (List.getD x9_3 (Int.toNat x11_5) (0 : Int)) (List.getD x1_2 (Int.toNat x11_5) (0 : Int)) (fun (r26_7 : Int) =>
              bif (r26_7 != (0 : Int)) then
                k2_1_9 r26_7
              else
                (slices_Compare_int_l2 N x0_1 x1_2 x9_3 x10_4 n_6 k2_0_8 k2_1_9) (IntKind.wrap .i64 (x11_5 + (1 : Int))))
          else none
      else none
    else
      k2_0_8
noncomputable def slices_Compare_int (N : Nat) (a0 : (List Int)) (a1 : (List Int)) (kf : Int → Option Ret) : Option Ret :=
  slices_Compare_int_l2 N a0 a1 a0 (List.length a0 : Int) N (
    bif (decide ((List.length a0 : Int) < (List.length a1 : Int))) then
      kf (-1 : Int)
    else
      kf (0 : Int)) kf (0 : Int)
noncomputable def impl_IsGraph_l4 (N : Nat) (x1_2 : QILLIE) (x10_3 : (List (List Int))) (x11_4 : Int) : Nat → (Option Ret) → (Bool → Option Ret) → Int → Option Ret
  | 0, _, _, _ => none
  | n_6 + 1, k4_0_10, k4_1_11, x12_5 =>
    bif (decide (x12_5 < x11_4)) then
      bif (inB x12_5 (List.length x10_3)) then
        bif ((List.length (List.getD x10_3 (Int.toNat x12_5) ([] : (List Int))) : Int) != (2 : Int)) then
          k4_1_11 false
        else
          bif (inB (0 : Int) (List.length (List.getD x10_3 (Int.toNat x12_5) ([] : (List Int))))) then
            impl_isClaim N x1_2 (List.getD (List.getD x10_3 (Int.toNat x12_5) ([] : (List Int))) (Int.toNat (0 : Int)) (0 : Int)) (fun (r25_7 : Bool) =>
              bif (!r25_7) then
                k4_1_11 false
              else
                bif (inB (1 : Int) (List.length (List.getD x10_3 (Int.toNat x12_5) ([] : (List Int))))) then
                  impl_isClaim N x1_2 (List.getD (List.getD x10_3 (Int.toNat x12_5) ([] : (List Int))) (Int.toNat (1 : Int)) (0 : Int)) (fun (r33_8 : Bool) =>
                    bif (!r33_8) then
                      k4_1_11 false
                    else
                      bif (decide (x12_5 > (0 : Int))) then
                        bif (inB (IntKind.wrap .i64 (x12_5 - (1 : Int))) (List.length x1_2.2)) then
                          slices_Compare_int N (List.getD x1_2.2 (Int.toNat (IntKind.wrap .i64 (x12_5 - (1 : Int)))) ([] : (List Int))) (List.getD x10_3 (Int.toNat x12_5) ([] : (List Int))) (fun (r47_9 : Int) =>
                            bif (decide (r47_9 ≥ (0 : Int))) then
                              k4_1_11 false
                            else
                              (impl_IsGraph_l4 N x1_2 x10_3 x11_4 n_6 k4_0_10 k4_1_11) (IntKind.wrap .i64 (x12_5 + (1 : Int))))
                        else none
                      else
                        (impl_IsGraph_l4 N x1_2 x10_3 x11_4 n_6 k4_0_10 k4_1_11) (IntKind.wrap .i64 (x12_5 + (1 : Int))))
                else none)
          else none
      else none
    else
      k4_0_10
noncomputable def impl_IsGraph (N : Nat) (a0 : QILLIE) (kf : Bool → Option Ret) : Option Ret :=
  impl_InRange N a0.1 (0 : Int) (10 : Int) (fun (r7_1 : Bool) =>
    bif (!r7_1) then
      kf false
    else
      impl_IsGraph_l4 N a0 a0.2 (List.length a0.2 : Int) N (kf true) kf (0 : Int))
noncomputable def impl_GraphText_l5 (N : Nat) (x13_4 : (List (List Int))) (x14_5 : Int) : Nat → (ByteArray → Option Ret) → ByteArray → Int → Option Ret
  | 0, _, _, _ => none
  | n_7 + 1, k5_0_10, x3_3, x15_6 =>
    bif (decide (x15_6 < x14_5)) then
      bif (inB x15_6 (List.length x13_4)) then
        bif (inB (0 : Int) (List.length (List.getD x13_4 (Int.toNat x15_6) ([] : (List Int))))) then
          bif (inB (1 : Int) (List.length (List.getD x13_4 (Int.toNat x15_6) ([] : (List Int))))) then
            impl_FormatInt N (List.getD (List.getD x13_4 (Int.toNat x15_6) ([] : (List Int))) (Int.toNat (0 : Int)) (0 : Int)) (fun (r23_8 : ByteArray) =>
              bif (decide (ByteArray.size s_h20 + ByteArray.size r23_8 ≤ 9223372036854775807)) then
                bif (decide (ByteArray.size (s_h20 ++ r23_8) + ByteArray.size s_h3e ≤ 9223372036854775807)) then
                  impl_FormatInt N (List.getD (List.getD x13_4 (Int.toNat x15_6) ([] : (List Int))) (Int.toNat (1 : Int)) (0 : Int)) (fun (r29_9 : ByteArray) =>
                    bif (decide (ByteArray.size ((s_h20 ++ r23_8) ++ s_h3e) + ByteArray.size r29_9 ≤ 9223372036854775807)) then
                      bif (decide (ByteArray.size x3_3 + ByteArray.size (((s_h20 ++ r23_8) ++ s_h3e) ++ r29_9) ≤ 9223372036854775807)) then
                        (impl_GraphText_l5 N x13_4 x14_5 n_7 k5_0_10) (x3_3 ++ (((s_h20 ++ r23_8) ++ s_h3e) ++ r29_9)) (IntKind.wrap .i64 (x15_6 + (1 : Int)))
                      else none
                    else none)
                else none
              else none)
          else none
        else none
      else none
    else
      k5_0_10 x3_3
noncomputable def impl_GraphText (N : Nat) (a0 : QILLIE) (kf : ByteArray → Option Ret) : Option Ret :=
  impl_IsGraph N a0 (fun (r7_1 : Bool) =>
    bif (!r7_1) then
      kf s_e
    else
      impl_FormatInt N a0.1 (fun (r11_2 : ByteArray) =>
        impl_GraphText_l5 N a0.2 (List.length a0.2 : Int) N kf r11_2 (0 : Int)))
noncomputable def laws_eqGraph (N : Nat) (a0 : QILLIE) (a1 : QILLIE) (kf : Bool → Option Ret) : Option Ret :=
  bif (a0.1 != a1.1) then
    kf false
  else
    laws_eqIntSS N a0.2 a1.2 (fun (r14_1 : Bool) =>
      bif (!r14_1) then
        kf false
      else
        kf true)
noncomputable def laws_FnExactGraphText (N : Nat) (a0 : QILLIE) (kf : Bool → Option Ret) : Option Ret :=
  laws_szGraph N a0 (1048576 : Int) (fun (r9_1 : Int) =>
    bif (decide (r9_1 < (0 : Int))) then
      kf true
    else
      laws_toGraph N a0 (fun (r13_2 : QILLIE) =>
        spec_GraphText N r13_2 (fun (r14_3 : ByteArray) =>
          laws_toGraph N a0 (fun (r16_4 : QILLIE) =>
            impl_GraphText N r16_4 (fun (r18_5 : ByteArray) =>
              bif (!(ByteArray.toList r18_5 == ByteArray.toList r14_3)) then
                kf false
              else
                laws_toGraph N a0 (fun (r24_6 : QILLIE) =>
                  laws_eqGraph N r16_4 r24_6 (fun (r25_7 : Bool) =>
                    bif (!r25_7) then
                      kf false
                    else
                      kf true)))))))
end Go.Pv.R
