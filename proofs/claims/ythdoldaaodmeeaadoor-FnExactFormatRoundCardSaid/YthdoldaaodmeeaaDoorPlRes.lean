/- What the functions compute, as plain functions. -/
import Derived.Test.YthdoldaaodmeeaaDoorPv3
namespace Go.Pv.R
set_option linter.unusedVariables false
set_option linter.unusedSimpArgs false
abbrev tQILLIE : Ty := (.pair (.int .i64) (.sl (.sl (.int .i64))))
abbrev tQIIE : Ty := (.pair (.int .i64) (.int .i64))
abbrev QIIE : Type := (Int × Int)
def zQIIE : QIIE := ((0 : Int), (0 : Int))
abbrev tQIIIE : Ty := (.pair (.int .i64) (.pair (.int .i64) (.int .i64)))
abbrev tQIILIE : Ty := (.pair (.int .i64) (.pair (.int .i64) (.sl (.int .i64))))
abbrev tQIIIIILIE : Ty := (.pair (.int .i64) (.pair (.int .i64) (.pair (.int .i64) (.pair (.int .i64) (.pair (.int .i64) (.sl (.int .i64)))))))
abbrev tQIIIIE : Ty := (.pair (.int .i64) (.pair (.int .i64) (.pair (.int .i64) (.int .i64))))
abbrev tQLQIIIIILIELQIILIELQIIELILQIIIELQIIIIEIE : Ty := (.pair (.sl tQIIIIILIE) (.pair (.sl tQIILIE) (.pair (.sl tQIIE) (.pair (.sl (.int .i64)) (.pair (.sl tQIIIE) (.pair (.sl tQIIIIE) (.int .i64)))))))
noncomputable def s_e : ByteArray := ⟨#[]⟩
noncomputable def s_0 : ByteArray := ⟨#[48]⟩
noncomputable def s_h2d : ByteArray := ⟨#[45]⟩
noncomputable def s_h20 : ByteArray := ⟨#[32]⟩
noncomputable def s_h3f : ByteArray := ⟨#[63]⟩
noncomputable def s_h40 : ByteArray := ⟨#[64]⟩
noncomputable def laws_toIntS_l3 (x0_1 : (List Int)) : Nat → ((List Int) → Option Ret) → (List Int) → Int → Option Ret
  | 0, _, _, _ => none
  | n_4 + 1, k3_0_5, x3_2, x4_3 =>
    bif (decide (x4_3 < (List.length x0_1 : Int))) then
      bif (inB x4_3 (List.length x0_1)) then
        bif (inB x4_3 (List.length x3_2)) then
          (laws_toIntS_l3 x0_1 n_4 k3_0_5) (List.set x3_2 (Int.toNat x4_3) (List.getD x0_1 (Int.toNat x4_3) (0 : Int))) (IntKind.wrap .i64 (x4_3 + (1 : Int)))
        else none
      else none
    else
      k3_0_5 x3_2
noncomputable def laws_toIntS (N : Nat) (a0 : (List Int)) (kf : (List Int) → Option Ret) : Option Ret :=
  bif (decide ((List.length a0 : Int) = (List.length a0 : Int)) && decide ((0 : Int) ≤ (List.length a0 : Int)) && decide ((List.length a0 : Int) ≤ 1099511627776)) then
    laws_toIntS_l3 a0 N kf (List.replicate (Int.toNat (List.length a0 : Int)) (0 : Int)) (0 : Int)
  else none
noncomputable def spec_FormatInt_j1 (rc5_7 : ByteArray → Int → Option Ret) (x3_2 : ByteArray) (x4_3 : Int) (y5_5 : Int) : Option Ret :=
  bif (decide (ByteArray.size (bytesOf [(IntKind.wrap .u8 (IntKind.wrap .i64 ((48 : Int) + y5_5)))]) + ByteArray.size x3_2 ≤ 9223372036854775807)) then
    rc5_7 ((bytesOf [(IntKind.wrap .u8 (IntKind.wrap .i64 ((48 : Int) + y5_5)))]) ++ x3_2) (IntKind.wrap .i64 (Int.tdiv x4_3 (10 : Int)))
  else none
noncomputable def spec_FormatInt_l5 (x0_1 : Int) : Nat → (ByteArray → Option Ret) → ByteArray → Int → Option Ret
  | 0, _, _, _ => none
  | n_4 + 1, k5_0_6, x3_2, x4_3 =>
    bif (x4_3 != (0 : Int)) then
      bif (decide ((Int.tmod x4_3 (10 : Int)) < (0 : Int))) then
        spec_FormatInt_j1 (spec_FormatInt_l5 x0_1 n_4 k5_0_6) x3_2 x4_3 (IntKind.wrap .i64 (0 - (Int.tmod x4_3 (10 : Int))))
      else
        spec_FormatInt_j1 (spec_FormatInt_l5 x0_1 n_4 k5_0_6) x3_2 x4_3 (Int.tmod x4_3 (10 : Int))
    else
      k5_0_6 x3_2
noncomputable def spec_FormatInt (N : Nat) (a0 : Int) (kf : ByteArray → Option Ret) : Option Ret :=
  bif (a0 == (0 : Int)) then
    kf s_0
  else
    spec_FormatInt_l5 a0 N (fun (z3_8 : ByteArray) =>
      bif (decide (a0 < (0 : Int))) then
        bif (decide (ByteArray.size s_h2d + ByteArray.size z3_8 ≤ 9223372036854775807)) then
          kf (s_h2d ++ z3_8)
        else none
      else
        kf z3_8) s_e a0
noncomputable def spec_l39Join_j1 (rc3_7 : ByteArray → Int → Option Ret) (x0_1 : (List ByteArray)) (x4_3 : Int) (y3_5 : ByteArray) : Option Ret :=
  bif (inB x4_3 (List.length x0_1)) then
    bif (decide (ByteArray.size y3_5 + ByteArray.size (List.getD x0_1 (Int.toNat x4_3) ByteArray.empty) ≤ 9223372036854775807)) then
      rc3_7 (y3_5 ++ (List.getD x0_1 (Int.toNat x4_3) ByteArray.empty)) (IntKind.wrap .i64 (x4_3 + (1 : Int)))
    else none
  else none
noncomputable def spec_l39Join_l3 (x0_1 : (List ByteArray)) : Nat → (ByteArray → Option Ret) → ByteArray → Int → Option Ret
  | 0, _, _, _ => none
  | n_4 + 1, k3_0_6, x3_2, x4_3 =>
    bif (decide (x4_3 < (List.length x0_1 : Int))) then
      bif (decide (x4_3 > (0 : Int))) then
        bif (decide (ByteArray.size x3_2 + ByteArray.size s_h20 ≤ 9223372036854775807)) then
          spec_l39Join_j1 (spec_l39Join_l3 x0_1 n_4 k3_0_6) x0_1 x4_3 (x3_2 ++ s_h20)
        else none
      else
        spec_l39Join_j1 (spec_l39Join_l3 x0_1 n_4 k3_0_6) x0_1 x4_3 x3_2
    else
      k3_0_6 x3_2
noncomputable def spec_l39Join (N : Nat) (a0 : (List ByteArray)) (kf : ByteArray → Option Ret) : Option Ret :=
  spec_l39Join_l3 a0 N (fun (z3_8 : ByteArray) =>
    bif ((List.length a0 : Int) == (0 : Int)) then
      kf s_h2d
    else
      kf z3_8) s_e (0 : Int)
noncomputable def strconv_Itoa (N : Nat) (a0 : Int) (kf : ByteArray → Option Ret) : Option Ret :=
  bif (decide ((-9223372036854775808 : Int) ≤ a0) && decide (a0 ≤ (9223372036854775807 : Int))) then
    kf (itoaB a0)
  else none
noncomputable def impl_FormatInt (N : Nat) (a0 : Int) (kf : ByteArray → Option Ret) : Option Ret :=
  strconv_Itoa N a0 kf
noncomputable def strings_Join (N : Nat) (a0 : (List ByteArray)) (a1 : ByteArray) (kf : ByteArray → Option Ret) : Option Ret :=
  bif (Nat.ble (List.length a0) 140737488355328 && Nat.ble (ByteArray.size (joinB a0 a1)) 140737488355328) then
    kf (joinB a0 a1)
  else none
noncomputable def impl_joined (N : Nat) (a0 : (List ByteArray)) (kf : ByteArray → Option Ret) : Option Ret :=
  bif ((List.length a0 : Int) == (0 : Int)) then
    kf s_h2d
  else
    strings_Join N a0 s_h20 kf
noncomputable def laws_eqIntS_l4 (x0_1 : (List Int)) (x1_2 : (List Int)) : Nat → (Option Ret) → (Bool → Option Ret) → Int → Option Ret
  | 0, _, _, _ => none
  | n_4 + 1, k4_0_5, k4_1_6, x5_3 =>
    bif (decide (x5_3 < (List.length x0_1 : Int))) then
      bif (inB x5_3 (List.length x0_1)) then
        bif (inB x5_3 (List.length x1_2)) then
          bif ((List.getD x0_1 (Int.toNat x5_3) (0 : Int)) != (List.getD x1_2 (Int.toNat x5_3) (0 : Int))) then
            k4_1_6 false
          else
            (laws_eqIntS_l4 x0_1 x1_2 n_4 k4_0_5 k4_1_6) (IntKind.wrap .i64 (x5_3 + (1 : Int)))
        else none
      else none
    else
      k4_0_5
noncomputable def laws_eqIntS (N : Nat) (a0 : (List Int)) (a1 : (List Int)) (kf : Bool → Option Ret) : Option Ret :=
  bif ((List.length a0 : Int) != (List.length a1 : Int)) then
    kf false
  else
    laws_eqIntS_l4 a0 a1 N (kf true) kf (0 : Int)
noncomputable def laws_szPairS (N : Nat) (a0 : (List QIIE)) (a1 : Int) (kf : Int → Option Ret) : Option Ret :=
  bif (decide ((IntKind.wrap .i64 (a1 - (List.length a0 : Int))) < (0 : Int))) then
    kf (-1 : Int)
  else
    kf (IntKind.wrap .i64 (a1 - (List.length a0 : Int)))
noncomputable def laws_toPair (N : Nat) (a0 : QIIE) (kf : QIIE → Option Ret) : Option Ret :=
  kf (a0.1, a0.2)
noncomputable def laws_toPairS_l3 (N : Nat) (x0_1 : (List QIIE)) : Nat → ((List QIIE) → Option Ret) → (List QIIE) → Int → Option Ret
  | 0, _, _, _ => none
  | n_4 + 1, k3_0_6, x3_2, x4_3 =>
    bif (decide (x4_3 < (List.length x0_1 : Int))) then
      bif (inB x4_3 (List.length x0_1)) then
        laws_toPair N (List.getD x0_1 (Int.toNat x4_3) zQIIE) (fun (r20_5 : QIIE) =>
          bif (inB x4_3 (List.length x3_2)) then
            (laws_toPairS_l3 N x0_1 n_4 k3_0_6) (List.set x3_2 (Int.toNat x4_3) r20_5) (IntKind.wrap .i64 (x4_3 + (1 : Int)))
          else none)
      else none
    else
      k3_0_6 x3_2
noncomputable def laws_toPairS (N : Nat) (a0 : (List QIIE)) (kf : (List QIIE) → Option Ret) : Option Ret :=
  bif (decide ((List.length a0 : Int) = (List.length a0 : Int)) && decide ((0 : Int) ≤ (List.length a0 : Int)) && decide ((List.length a0 : Int) ≤ 1099511627776)) then
    laws_toPairS_l3 N a0 N kf (List.replicate (Int.toNat (List.length a0 : Int)) ((0 : Int), (0 : Int))) (0 : Int)
  else none
noncomputable def spec_FormatRound_j1 (N : Nat) (rc3_11 : (List ByteArray) → Int → Option Ret) (x0_1 : (List QIIE)) (x5_3 : (List ByteArray)) (x6_4 : Int) (y7_7 : ByteArray) : Option Ret :=
  bif (inB x6_4 (List.length x0_1)) then
    bif (inB x6_4 (List.length x0_1)) then
      spec_FormatInt N (List.getD x0_1 (Int.toNat x6_4) zQIIE).1 (fun (r30_8 : ByteArray) =>
        bif (decide (ByteArray.size r30_8 + ByteArray.size s_h2d ≤ 9223372036854775807)) then
          spec_FormatInt N (List.getD x0_1 (Int.toNat x6_4) zQIIE).2 (fun (r37_9 : ByteArray) =>
            bif (decide (ByteArray.size (r30_8 ++ s_h2d) + ByteArray.size r37_9 ≤ 9223372036854775807)) then
              bif (decide (ByteArray.size ((r30_8 ++ s_h2d) ++ r37_9) + ByteArray.size s_h40 ≤ 9223372036854775807)) then
                bif (decide (ByteArray.size (((r30_8 ++ s_h2d) ++ r37_9) ++ s_h40) + ByteArray.size y7_7 ≤ 9223372036854775807)) then
                  bif (decide ((List.length x5_3 + List.length [((((r30_8 ++ s_h2d) ++ r37_9) ++ s_h40) ++ y7_7)]) * 1 ≤ 4398046511104)) then
                    rc3_11 (x5_3 ++ [((((r30_8 ++ s_h2d) ++ r37_9) ++ s_h40) ++ y7_7)]) (IntKind.wrap .i64 (x6_4 + (1 : Int)))
                  else none
                else none
              else none
            else none)
        else none)
    else none
  else none
noncomputable def spec_FormatRound_l3 (N : Nat) (x0_1 : (List QIIE)) (x1_2 : (List Int)) : Nat → ((List ByteArray) → Option Ret) → (List ByteArray) → Int → Option Ret
  | 0, _, _, _ => none
  | n_5 + 1, k3_0_10, x5_3, x6_4 =>
    bif (decide (x6_4 < (List.length x0_1 : Int))) then
      bif (decide (x6_4 < (List.length x1_2 : Int))) then
        bif (inB x6_4 (List.length x1_2)) then
          spec_FormatInt N (List.getD x1_2 (Int.toNat x6_4) (0 : Int)) (fun (r23_6 : ByteArray) =>
            spec_FormatRound_j1 N (spec_FormatRound_l3 N x0_1 x1_2 n_5 k3_0_10) x0_1 x5_3 x6_4 r23_6)
        else none
      else
        spec_FormatRound_j1 N (spec_FormatRound_l3 N x0_1 x1_2 n_5 k3_0_10) x0_1 x5_3 x6_4 s_h3f
    else
      k3_0_10 x5_3
noncomputable def spec_FormatRound (N : Nat) (a0 : (List QIIE)) (a1 : (List Int)) (kf : ByteArray → Option Ret) : Option Ret :=
  spec_FormatRound_l3 N a0 a1 N (fun (z5_12 : (List ByteArray)) =>
    spec_l39Join N z5_12 kf) ([] : (List ByteArray)) (0 : Int)
noncomputable def impl_FormatRound_j1 (N : Nat) (rc3_12 : (List ByteArray) → Int → Option Ret) (x10_3 : (List QIIE)) (x12_5 : Int) (x5_2 : (List ByteArray)) (y8_8 : ByteArray) : Option Ret :=
  impl_FormatInt N (List.getD x10_3 (Int.toNat x12_5) zQIIE).1 (fun (r29_9 : ByteArray) =>
    bif (decide (ByteArray.size r29_9 + ByteArray.size s_h2d ≤ 9223372036854775807)) then
      impl_FormatInt N (List.getD x10_3 (Int.toNat x12_5) zQIIE).2 (fun (r33_10 : ByteArray) =>
        bif (decide (ByteArray.size (r29_9 ++ s_h2d) + ByteArray.size r33_10 ≤ 9223372036854775807)) then
          bif (decide (ByteArray.size ((r29_9 ++ s_h2d) ++ r33_10) + ByteArray.size s_h40 ≤ 9223372036854775807)) then
            bif (decide (ByteArray.size (((r29_9 ++ s_h2d) ++ r33_10) ++ s_h40) + ByteArray.size y8_8 ≤ 9223372036854775807)) then
              bif (decide ((List.length x5_2 + List.length [((((r29_9 ++ s_h2d) ++ r33_10) ++ s_h40) ++ y8_8)]) * 1 ≤ 4398046511104)) then
                rc3_12 (x5_2 ++ [((((r29_9 ++ s_h2d) ++ r33_10) ++ s_h40) ++ y8_8)]) (IntKind.wrap .i64 (x12_5 + (1 : Int)))
              else none
            else none
          else none
        else none)
    else none)
noncomputable def impl_FormatRound_l3 (N : Nat) (x1_1 : (List Int)) (x10_3 : (List QIIE)) (x11_4 : Int) : Nat → ((List ByteArray) → Option Ret) → (List ByteArray) → Int → Option Ret
  | 0, _, _, _ => none
  | n_6 + 1, k3_0_11, x5_2, x12_5 =>
    bif (decide (x12_5 < x11_4)) then
      bif (inB x12_5 (List.length x10_3)) then
        bif (decide (x12_5 < (List.length x1_1 : Int))) then
          bif (inB x12_5 (List.length x1_1)) then
            impl_FormatInt N (List.getD x1_1 (Int.toNat x12_5) (0 : Int)) (fun (r25_7 : ByteArray) =>
              impl_FormatRound_j1 N (impl_FormatRound_l3 N x1_1 x10_3 x11_4 n_6 k3_0_11) x10_3 x12_5 x5_2 r25_7)
          else none
        else
          impl_FormatRound_j1 N (impl_FormatRound_l3 N x1_1 x10_3 x11_4 n_6 k3_0_11) x10_3 x12_5 x5_2 s_h3f
      else none
    else
      k3_0_11 x5_2
noncomputable def impl_FormatRound (N : Nat) (a0 : (List QIIE)) (a1 : (List Int)) (kf : ByteArray → Option Ret) : Option Ret :=
  impl_FormatRound_l3 N a1 a0 (List.length a0 : Int) N (fun (z5_13 : (List ByteArray)) =>
    impl_joined N z5_13 kf) ([] : (List ByteArray)) (0 : Int)
noncomputable def laws_eqPair (N : Nat) (a0 : QIIE) (a1 : QIIE) (kf : Bool → Option Ret) : Option Ret :=
  bif (a0.1 != a1.1) then
    kf false
  else
    bif (a0.2 != a1.2) then
      kf false
    else
      kf true
noncomputable def laws_eqPairS_l4 (N : Nat) (x0_1 : (List QIIE)) (x1_2 : (List QIIE)) : Nat → (Option Ret) → (Bool → Option Ret) → Int → Option Ret
  | 0, _, _, _ => none
  | n_4 + 1, k4_0_6, k4_1_7, x5_3 =>
    bif (decide (x5_3 < (List.length x0_1 : Int))) then
      bif (inB x5_3 (List.length x0_1)) then
        bif (inB x5_3 (List.length x1_2)) then
          laws_eqPair N (List.getD x0_1 (Int.toNat x5_3) zQIIE) (List.getD x1_2 (Int.toNat x5_3) zQIIE) (fun (r25_5 : Bool) =>
            bif (!r25_5) then
              k4_1_7 false
            else
              (laws_eqPairS_l4 N x0_1 x1_2 n_4 k4_0_6 k4_1_7) (IntKind.wrap .i64 (x5_3 + (1 : Int))))
        else none
      else none
    else
      k4_0_6
noncomputable def laws_eqPairS (N : Nat) (a0 : (List QIIE)) (a1 : (List QIIE)) (kf : Bool → Option Ret) : Option Ret :=
  bif ((List.length a0 : Int) != (List.length a1 : Int)) then
    kf false
  else
    laws_eqPairS_l4 N a0 a1 N (kf true) kf (0 : Int)
noncomputable def laws_FnExactFormatRound (N : Nat) (a0 : (List QIIE)) (a1 : (List Int)) (kf : Bool → Option Ret) : Option Ret :=
  bif (decide ((List.length a1 : Int) > (1048576 : Int))) then
    kf true
  else
    laws_szPairS N a0 (1048576 : Int) (fun (r15_1 : Int) =>
      bif (decide (r15_1 < (0 : Int))) then
        kf true
      else
        laws_toPairS N a0 (fun (r19_2 : (List QIIE)) =>
          laws_toIntS N a1 (fun (r21_3 : (List Int)) =>
            spec_FormatRound N r19_2 r21_3 (fun (r22_4 : ByteArray) =>
              laws_toPairS N a0 (fun (r24_5 : (List QIIE)) =>
                laws_toIntS N a1 (fun (r26_6 : (List Int)) =>
                  impl_FormatRound N r24_5 r26_6 (fun (r29_7 : ByteArray) =>
                    bif (!(ByteArray.toList r29_7 == ByteArray.toList r22_4)) then
                      kf false
                    else
                      laws_toPairS N a0 (fun (r35_8 : (List QIIE)) =>
                        laws_eqPairS N r24_5 r35_8 (fun (r36_9 : Bool) =>
                          bif (!r36_9) then
                            kf false
                          else
                            laws_toIntS N a1 (fun (r40_10 : (List Int)) =>
                              laws_eqIntS N r26_6 r40_10 (fun (r41_11 : Bool) =>
                                bif (!r41_11) then
                                  kf false
                                else
                                  kf true)))))))))))
end Go.Pv.R
