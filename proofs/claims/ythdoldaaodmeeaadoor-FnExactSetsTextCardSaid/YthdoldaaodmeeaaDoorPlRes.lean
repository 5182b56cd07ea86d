/- What the functions compute, as plain functions. -/
import Derived.Test.YthdoldaaodmeeaaDoorPv4
namespace Go.Pv.R
set_option linter.unusedVariables false
set_option linter.unusedSimpArgs false
abbrev tQILLIE : Ty := (.pair (.int .i64) (.sl (.sl (.int .i64))))
abbrev tQIIE : Ty := (.pair (.int .i64) (.int .i64))
abbrev tQIIIE : Ty := (.pair (.int .i64) (.pair (.int .i64) (.int .i64)))
abbrev tQIILIE : Ty := (.pair (.int .i64) (.pair (.int .i64) (.sl (.int .i64))))
abbrev tQIIIIILIE : Ty := (.pair (.int .i64) (.pair (.int .i64) (.pair (.int .i64) (.pair (.int .i64) (.pair (.int .i64) (.sl (.int .i64)))))))
abbrev tQIIIIE : Ty := (.pair (.int .i64) (.pair (.int .i64) (.pair (.int .i64) (.int .i64))))
abbrev tQLQIIIIILIELQIILIELQIIELILQIIIELQIIIIEIE : Ty := (.pair (.sl tQIIIIILIE) (.pair (.sl tQIILIE) (.pair (.sl tQIIE) (.pair (.sl (.int .i64)) (.pair (.sl tQIIIE) (.pair (.sl tQIIIIE) (.int .i64)))))))
noncomputable def s_e : ByteArray := ⟨#[]⟩
noncomputable def s_0 : ByteArray := ⟨#[48]⟩
noncomputable def s_h2d : ByteArray := ⟨#[45]⟩
noncomputable def s_h7b : ByteArray := ⟨#[123]⟩
noncomputable def s_h2c : ByteArray := ⟨#[44]⟩
noncomputable def s_h7d : ByteArray := ⟨#[125]⟩
noncomputable def laws_toIntS_l3 (x0_1 : (List Int)) : Nat → ((List Int) → Option Ret) → (List Int) → Int → Option Ret
  | 0, _, _, _ => none
  | n_4 + 1, k3_0_5, x3_2, x4_3 =>
    bif (decide (x4_3 < (List.length x0_1 : Int))) then
      bif (inB x4_3 (List.length x0_1)) then
        bif (inB x4_3 (List.length x3_2)) then
          (laws_toIntS_l3 x0_1 n_4 k3_0_5) (List.set x3_2 (Int.toNat x4_3) (List.getD x0_1 (Int.toNat x4_3) (0 : Int))) (IntKind.wrap .i64 (x4_3 + (1 : Int)))
        else none
      else none
    else
      k3_0_5 x3_2
noncomputable def laws_toIntS (N : Nat) (a0 : (List Int)) (kf : (List Int) → Option Ret) : Option Ret :=
  bif (decide ((List.length a0 : Int) = (List.length a0 : Int)) && decide ((0 : Int) ≤ (List.length a0 : Int)) && decide ((List.length a0 : Int) ≤ 1099511627776)) then
    laws_toIntS_l3 a0 N kf (List.replicate (Int.toNat (List.length a0 : Int)) (0 : Int)) (0 : Int)
  else none
noncomputable def spec_FormatInt_j1 (rc5_7 : ByteArray → Int → Option Ret) (x3_2 : ByteArray) (x4_3 : Int) (y5_5 : Int) : Option Ret :=
  bif (decide (ByteArray.size (bytesOf [(IntKind.wrap .u8 (IntKind.wrap .i64 ((48 : Int) + y5_5)))]) + ByteArray.size x3_2 ≤ 9223372036854775807)) then
    rc5_7 ((bytesOf [(IntKind.wrap .u8 (IntKind.wrap .i64 ((48 : Int) + y5_5)))]) ++ x3_2) (IntKind.wrap .i64 (Int.tdiv x4_3 (10 : Int)))
  else none
noncomputable def spec_FormatInt_l5 (x0_1 : Int) : Nat → (ByteArray → Option Ret) → ByteArray → Int → Option Ret
  | 0, _, _, _ => none
  | n_4 + 1, k5_0_6, x3_2, x4_3 =>
    bif (x4_3 != (0 : Int)) then
      bif (decide ((Int.tmod x4_3 (10 : Int)) < (0 : Int))) then
        spec_FormatInt_j1 (spec_FormatInt_l5 x0_1 n_4 k5_0_6) x3_2 x4_3 (IntKind.wrap .i64 (0 - (Int.tmod x4_3 (10 : Int))))
      else
        spec_FormatInt_j1 (spec_FormatInt_l5 x0_1 n_4 k5_0_6) x3_2 x4_3 (Int.tmod x4_3 (10 : Int))
    else
      k5_0_6 x3_2
noncomputable def spec_FormatInt (N : Nat) (a0 : Int) (kf : ByteArray → Option Ret) : Option Ret :=
  bif (a0 == (0 : Int)) then
    kf s_0
  else
    spec_FormatInt_l5 a0 N (fun (z3_8 : ByteArray) =>
      bif (decide (a0 < (0 : Int))) then
        bif (decide (ByteArray.size s_h2d + ByteArray.size z3_8 ≤ 9223372036854775807)) then
          kf (s_h2d ++ z3_8)
        else none
      else
        kf z3_8) s_e a0
noncomputable def strconv_Itoa (N : Nat) (a0 : Int) (kf : ByteArray → Option Ret) : Option Ret :=
  bif (decide ((-9223372036854775808 : Int) ≤ a0) && decide (a0 ≤ (9223372036854775807 : Int))) then
    kf (itoaB a0)
  else none
noncomputable def impl_FormatInt (N : Nat) (a0 : Int) (kf : ByteArray → Option Ret) : Option Ret :=
  strconv_Itoa N a0 kf
noncomputable def strings_Join (N : Nat) (a0 : (List ByteArray)) (a1 : ByteArray) (kf : ByteArray → Option Ret) : Option Ret :=
  bif (Nat.ble (List.length a0) 140737488355328 && Nat.ble (ByteArray.size (joinB a0 a1)) 140737488355328) then
    kf (joinB a0 a1)
  else none
noncomputable def laws_eqIntS_l4 (x0_1 : (List Int)) (x1_2 : (List Int)) : Nat → (Option Ret) → (Bool → Option Ret) → Int → Option Ret
  | 0, _, _, _ => none
  | n_4 + 1, k4_0_5, k4_1_6, x5_3 =>
    bif (decide (x5_3 < (List.length x0_1 : Int))) then
      bif (inB x5_3 (List.length x0_1)) then
        bif (inB x5_3 (List.length x1_2)) then
          bif ((List.getD x0_1 (Int.toNat x5_3) (0 : Int)) != (List.getD x1_2 (Int.toNat x5_3) (0 : Int))) then
            k4_1_6 false
          else
            (laws_eqIntS_l4 x0_1 x1_2 n_4 k4_0_5 k4_1_6) (IntKind.wrap .i64 (x5_3 + (1 : Int)))
        else none
      else none
    else
      k4_0_5
noncomputable def laws_eqIntS (N : Nat) (a0 : (List Int)) (a1 : (List Int)) (kf : Bool → Option Ret) : Option Ret :=
  bif ((List.length a0 : Int) != (List.length a1 : Int)) then
    kf false
  else
    laws_eqIntS_l4 a0 a1 N (kf true) kf (0 : Int)
noncomputable def laws_szIntS (N : Nat) (a0 : (List Int)) (a1 : Int) (kf : Int → Option Ret) : Option Ret :=
  bif (decide ((IntKind.wrap .i64 (a1 - (List.length a0 : Int))) < (0 : Int))) then
    kf (-1 : Int)
  else
    kf (IntKind.wrap .i64 (a1 - (List.length a0 : Int)))
noncomputable def laws_szIntSS_l5 (N : Nat) (x0_1 : (List (List Int))) : Nat → (Int → Option Ret) → (Int → Option Ret) → Int → Int → Option Ret
  | 0, _, _, _, _ => none
  | n_4 + 1, k5_0_6, k5_1_7, x1_2, x5_3 =>
    bif (decide (x5_3 < (List.length x0_1 : Int))) then
      bif (inB x5_3 (List.length x0_1)) then
        laws_szIntS N (List.getD x0_1 (Int.toNat x5_3) ([] : (List Int))) x1_2 (fun (r23_5 : Int) =>
          bif (decide (r23_5 < (0 : Int))) then
            k5_1_7 (-1 : Int)
          else
            (laws_szIntSS_l5 N x0_1 n_4 k5_0_6 k5_1_7) r23_5 (IntKind.wrap .i64 (x5_3 + (1 : Int))))
      else none
    else
      k5_0_6 x1_2
noncomputable def laws_szIntSS (N : Nat) (a0 : (List (List Int))) (a1 : Int) (kf : Int → Option Ret) : Option Ret :=
  bif (decide ((IntKind.wrap .i64 (a1 - (List.length a0 : Int))) < (0 : Int))) then
    kf (-1 : Int)
  else
    laws_szIntSS_l5 N a0 N kf kf (IntKind.wrap .i64 (a1 - (List.length a0 : Int))) (0 : Int)
noncomputable def laws_toIntSS_l3 (N : Nat) (x0_1 : (List (List Int))) : Nat → ((List (List Int)) → Option Ret) → (List (List Int)) → Int → Option Ret
  | 0, _, _, _ => none
  | n_4 + 1, k3_0_6, x3_2, x4_3 =>
    bif (decide (x4_3 < (List.length x0_1 : Int))) then
      bif (inB x4_3 (List.length x0_1)) then
        laws_toIntS N (List.getD x0_1 (Int.toNat x4_3) ([] : (List Int))) (fun (r20_5 : (List Int)) =>
          bif (inB x4_3 (List.length x3_2)) then
            (laws_toIntSS_l3 N x0_1 n_4 k3_0_6) (List.set x3_2 (Int.toNat x4_3) r20_5) (IntKind.wrap .i64 (x4_3 + (1 : Int)))
          else none)
      else none
    else
      k3_0_6 x3_2
noncomputable def laws_toIntSS (N : Nat) (a0 : (List (List Int))) (kf : (List (List Int)) → Option Ret) : Option Ret :=
  bif (decide ((List.length a0 : Int) = (List.length a0 : Int)) && decide ((0 : Int) ≤ (List.length a0 : Int)) && decide ((List.length a0 : Int) ≤ 1099511627776)) then
    laws_toIntSS_l3 N a0 N kf (List.replicate (Int.toNat (List.length a0 : Int)) ([] : (List Int))) (0 : Int)
  else none
noncomputable def spec_SetsText_j1 (N : Nat) (rc7_13 : ByteArray → Int → Option Ret) (x0_5 : (List (List Int))) (x4_7 : Int) (x5_8 : Int) (y3_10 : ByteArray) : Option Ret :=
  bif (inB x4_7 (List.length x0_5)) then
    bif (inB x5_8 (List.length (List.getD x0_5 (Int.toNat x4_7) ([] : (List Int))))) then
      spec_FormatInt N (List.getD (List.getD x0_5 (Int.toNat x4_7) ([] : (List Int))) (Int.toNat x5_8) (0 : Int)) (fun (r35_11 : ByteArray) =>
        bif (decide (ByteArray.size y3_10 + ByteArray.size r35_11 ≤ 9223372036854775807)) then
          rc7_13 (y3_10 ++ r35_11) (IntKind.wrap .i64 (x5_8 + (1 : Int)))
        else none)
    else none
  else none
noncomputable def spec_SetsText_l7 (N : Nat) (x0_5 : (List (List Int))) (x4_7 : Int) : Nat → (ByteArray → Option Ret) → ByteArray → Int → Option Ret
  | 0, _, _, _ => none
  | n_9 + 1, k7_0_12, x3_6, x5_8 =>
    bif (inB x4_7 (List.length x0_5)) then
      bif (decide (x5_8 < (List.length (List.getD x0_5 (Int.toNat x4_7) ([] : (List Int))) : Int))) then
        bif (decide (x5_8 > (0 : Int))) then
          bif (decide (ByteArray.size x3_6 + ByteArray.size s_h2c ≤ 9223372036854775807)) then
            spec_SetsText_j1 N (spec_SetsText_l7 N x0_5 x4_7 n_9 k7_0_12) x0_5 x4_7 x5_8 (x3_6 ++ s_h2c)
          else none
        else
          spec_SetsText_j1 N (spec_SetsText_l7 N x0_5 x4_7 n_9 k7_0_12) x0_5 x4_7 x5_8 x3_6
      else
        k7_0_12 x3_6
    else none
noncomputable def spec_SetsText_l3 (N : Nat) (x0_1 : (List (List Int))) : Nat → (ByteArray → Option Ret) → ByteArray → Int → Option Ret
  | 0, _, _, _ => none
  | n_4 + 1, k3_0_15, x3_2, x4_3 =>
    bif (decide (x4_3 < (List.length x0_1 : Int))) then
      bif (decide (ByteArray.size x3_2 + ByteArray.size s_h7b ≤ 9223372036854775807)) then
        spec_SetsText_l7 N x0_1 x4_3 N (fun (z3_14 : ByteArray) =>
          bif (decide (ByteArray.size z3_14 + ByteArray.size s_h7d ≤ 9223372036854775807)) then
            (spec_SetsText_l3 N x0_1 n_4 k3_0_15) (z3_14 ++ s_h7d) (IntKind.wrap .i64 (x4_3 + (1 : Int)))
          else none) (x3_2 ++ s_h7b) (0 : Int)
      else none
    else
      k3_0_15 x3_2
noncomputable def spec_SetsText (N : Nat) (a0 : (List (List Int))) (kf : ByteArray → Option Ret) : Option Ret :=
  spec_SetsText_l3 N a0 N (fun (z3_17 : ByteArray) =>
    bif ((List.length a0 : Int) == (0 : Int)) then
      kf s_h2d
    else
      kf z3_17) s_e (0 : Int)
noncomputable def impl_SetsText_l9 (N : Nat) (x3_6 : ByteArray) (x12_8 : (List (List Int))) (x13_9 : Int) (x14_10 : Int) (x19_11 : (List Int)) (x20_12 : Int) : Nat → ((List ByteArray) → Option Ret) → (List ByteArray) → Int → Option Ret
  | 0, _, _, _ => none
  | n_14 + 1, k9_0_16, x6_7, x21_13 =>
    bif (decide (x21_13 < x20_12)) then
      bif (inB x21_13 (List.length x19_11)) then
        impl_FormatInt N (List.getD x19_11 (Int.toNat x21_13) (0 : Int)) (fun (r27_15 : ByteArray) =>
          bif (decide ((List.length x6_7 + List.length [r27_15]) * 1 ≤ 4398046511104)) then
            (impl_SetsText_l9 N x3_6 x12_8 x13_9 x14_10 x19_11 x20_12 n_14 k9_0_16) (x6_7 ++ [r27_15]) (IntKind.wrap .i64 (x21_13 + (1 : Int)))
          else none)
      else none
    else
      k9_0_16 x6_7
noncomputable def impl_SetsText_l5 (N : Nat) (x12_2 : (List (List Int))) (x13_3 : Int) : Nat → (ByteArray → Option Ret) → ByteArray → Int → Option Ret
  | 0, _, _, _ => none
  | n_5 + 1, k5_0_20, x3_1, x14_4 =>
    bif (decide (x14_4 < x13_3)) then
      bif (inB x14_4 (List.length x12_2)) then
        impl_SetsText_l9 N x3_1 x12_2 x13_3 x14_4 (List.getD x12_2 (Int.toNat x14_4) ([] : (List Int))) (List.length (List.getD x12_2 (Int.toNat x14_4) ([] : (List Int))) : Int) N (fun (z6_18 : (List ByteArray)) =>
          strings_Join N z6_18 s_h2c (fun (r33_19 : ByteArray) =>
            bif (decide (ByteArray.size s_h7b + ByteArray.size r33_19 ≤ 9223372036854775807)) then
              bif (decide (ByteArray.size (s_h7b ++ r33_19) + ByteArray.size s_h7d ≤ 9223372036854775807)) then
                bif (decide (ByteArray.size x3_1 + ByteArray.size ((s_h7b ++ r33_19) ++ s_h7d) ≤ 9223372036854775807)) then
                  (impl_SetsText_l5 N x12_2 x13_3 n_5 k5_0_20) (x3_1 ++ ((s_h7b ++ r33_19) ++ s_h7d)) (IntKind.wrap .i64 (x14_4 + (1 : Int)))
                else none
              else none
            else none)) ([] : (List ByteArray)) (0 : Int)
      else none
    else
      k5_0_20 x3_1
noncomputable def impl_SetsText (N : Nat) (a0 : (List (List Int))) (kf : ByteArray → Option Ret) : Option Ret :=
  bif ((List.length a0 : Int) == (0 : Int)) then
    kf s_h2d
  else
    impl_SetsText_l5 N a0 (List.length a0 : Int) N kf s_e (0 : Int)
noncomputable def laws_eqIntSS_l4 (N : Nat) (x0_1 : (List (List Int))) (x1_2 : (List (List Int))) : Nat → (Option Ret) → (Bool → Option Ret) → Int → Option Ret
  | 0, _, _, _ => none
  | n_4 + 1, k4_0_6, k4_1_7, x5_3 =>
    bif (decide (x5_3 < (List.length x0_1 : Int))) then
      bif (inB x5_3 (List.length x0_1)) then
        bif (inB x5_3 (List.length x1_2)) then
          laws_eqIntS N (List.getD x0_1 (Int.toNat x5_3) ([] : (List Int))) (List.getD x1_2 (Int.toNat x5_3) ([] : (List Int))) (fun (r25_5 : Bool) =>
            bif (!r25_5) then
              k4_1_7 false
            else
              (laws_eqIntSS_l4 N x0_1 x1_2 n_4 k4_0_6 k4_1_7) (IntKind.wrap .i64 (x5_3 + (1 : Int))))
        else none
      else none
    else
      k4_0_6
noncomputable def laws_eqIntSS (N : Nat) (a0 : (List (List Int))) (a1 : (List (List Int))) (kf : Bool → Option Ret) : Option Ret :=
  bif ((List.length a0 : Int) != (List.length a1 : Int)) then
    kf false
  else
    laws_eqIntSS_l4 N a0 a1 N (kf true) kf (0 : Int)
noncomputable def laws_FnExactSetsText (N : Nat) (a0 : (List (List Int))) (kf : Bool → Option Ret) : Option Ret :=
  laws_szIntSS N a0 (1048576 : Int) (fun (r9_1 : Int) =>
    bif (decide (r9_1 < (0 : Int))) then
      kf true
    else
      laws_toIntSS N a0 (fun (r13_2 : (List (List Int))) =>
        spec_SetsText N r13_2 (fun (r14_3 : ByteArray) =>
          laws_toIntSS N a0 (fun (r16_4 : (List (List Int))) =>
            impl_SetsText N r16_4 (fun (r18_5 : ByteArray) =>
              bif (!(ByteArray.toList r18_5 == ByteArray.toList r14_3)) then
                kf false
              else
                laws_toIntSS N a0 (fun (r24_6 : (List (List Int))) =>
                  laws_eqIntSS N r16_4 r24_6 (fun (r25_7 : Bool) =>
                    bif (!r25_7) then
                      kf false
                    else
                      kf true)))))))
end Go.Pv.R
