/- What the functions compute, as plain functions. -/
import Derived.Test.YthdoldaaodmeeaaDoorPv3
namespace Go.Pv.R
set_option linter.unusedVariables false
set_option linter.unusedSimpArgs false
abbrev tQILLIE : Ty := (.pair (.int .i64) (.sl (.sl (.int .i64))))
abbrev tQIIE : Ty := (.pair (.int .i64) (.int .i64))
abbrev tQIIIE : Ty := (.pair (.int .i64) (.pair (.int .i64) (.int .i64)))
abbrev tQIILIE : Ty := (.pair (.int .i64) (.pair (.int .i64) (.sl (.int .i64))))
abbrev tQIIIIILIE : Ty := (.pair (.int .i64) (.pair (.int .i64) (.pair (.int .i64) (.pair (.int .i64) (.pair (.int .i64) (.sl (.int .i64)))))))
abbrev QIIIIILIE : Type := (Int × (Int × (Int × (Int × (Int × (List Int))))))
def zQIIIIILIE : QIIIIILIE := ((0 : Int), ((0 : Int), ((0 : Int), ((0 : Int), ((0 : Int), ([] : (List Int)))))))
abbrev tQIIIIE : Ty := (.pair (.int .i64) (.pair (.int .i64) (.pair (.int .i64) (.int .i64))))
abbrev tQLQIIIIILIELQIILIELQIIELILQIIIELQIIIIEIE : Ty := (.pair (.sl tQIIIIILIE) (.pair (.sl tQIILIE) (.pair (.sl tQIIE) (.pair (.sl (.int .i64)) (.pair (.sl tQIIIE) (.pair (.sl tQIIIIE) (.int .i64)))))))
noncomputable def s_e : ByteArray := ⟨#[]⟩
noncomputable def s_0 : ByteArray := ⟨#[48]⟩
noncomputable def s_h2d : ByteArray := ⟨#[45]⟩
noncomputable def s_h20 : ByteArray := ⟨#[32]⟩
noncomputable def s_h3a : ByteArray := ⟨#[58]⟩
noncomputable def s_h2f : ByteArray := ⟨#[47]⟩
noncomputable def s_h3d : ByteArray := ⟨#[61]⟩
noncomputable def laws_toIntS_l3 (x0_1 : (List Int)) : Nat → ((List Int) → Option Ret) → (List Int) → Int → Option Ret
  | 0, _, _, _ => none
  | n_4 + 1, k3_0_5, x3_2, x4_3 =>
    bif (decide (x4_3 < (List.length x0_1 : Int))) then
      bif (inB x4_3 (List.length x0_1)) then
        bif (inB x4_3 (List.length x3_2)) then
          (laws_toIntS_l3 x0_1 n_4 k3_0_5) (List.set x3_2 (Int.toNat x4_3) (List.getD x0_1 (Int.toNat x4_3) (0 : Int))) (IntKind.wrap .i64 (x4_3 + (1 : Int)))
        else none
      else none
    else
      k3_0_5 x3_2
noncomputable def laws_toIntS (N : Nat) (a0 : (List Int)) (kf : (List Int) → Option Ret) : Option Ret :=
  bif (decide ((List.length a0 : Int) = (List.length a0 : Int)) && decide ((0 : Int) ≤ (List.length a0 : Int)) && decide ((List.length a0 : Int) ≤ 1099511627776)) then
    laws_toIntS_l3 a0 N kf (List.replicate (Int.toNat (List.length a0 : Int)) (0 : Int)) (0 : Int)
  else none
noncomputable def spec_FormatInt_j1 (rc5_7 : ByteArray → Int → Option Ret) (x3_2 : ByteArray) (x4_3 : Int) (y5_5 : Int) : Option Ret :=
  bif (decide (ByteArray.size (bytesOf [(IntKind.wrap .u8 (IntKind.wrap .i64 ((48 : Int) + y5_5)))]) + ByteArray.size x3_2 ≤ 9223372036854775807)) then
    rc5_7 ((bytesOf [(IntKind.wrap .u8 (IntKind.wrap .i64 ((48 : Int) + y5_5)))]) ++ x3_2) (IntKind.wrap .i64 (Int.tdiv x4_3 (10 : Int)))
  else none
noncomputable def spec_FormatInt_l5 (x0_1 : Int) : Nat → (ByteArray → Option Ret) → ByteArray → Int → Option Ret
  | 0, _, _, _ => none
  | n_4 + 1, k5_0_6, x3_2, x4_3 =>
    bif (x4_3 != (0 : Int)) then
      bif (decide ((Int.tmod x4_3 (10 : Int)) < (0 : Int))) then
        spec_FormatInt_j1 (spec_FormatInt_l5 x0_1 n_4 k5_0_6) x3_2 x4_3 (IntKind.wrap .i64 (0 - (Int.tmod x4_3 (10 : Int))))
      else
        spec_FormatInt_j1 (spec_FormatInt_l5 x0_1 n_4 k5_0_6) x3_2 x4_3 (Int.tmod x4_3 (10 : Int))
    else
      k5_0_6 x3_2
noncomputable def spec_FormatInt (N : Nat) (a0 : Int) (kf : ByteArray → Option Ret) : Option Ret :=
  bif (a0 == (0 : Int)) then
    kf s_0
  else
    spec_FormatInt_l5 a0 N (fun (z3_8 : ByteArray) =>
      bif (decide (a0 < (0 : Int))) then
        bif (decide (ByteArray.size s_h2d + ByteArray.size z3_8 ≤ 9223372036854775807)) then
          kf (s_h2d ++ z3_8)
        else none
      else
        kf z3_8) s_e a0
noncomputable def spec_l39Join_j1 (rc3_7 : ByteArray → Int → Option Ret) (x0_1 : (List ByteArray)) (x4_3 : Int) (y3_5 : ByteArray) : Option Ret :=
  bif (inB x4_3 (List.length x0_1)) then
    bif (decide (ByteArray.size y3_5 + ByteArray.size (List.getD x0_1 (Int.toNat x4_3) ByteArray.empty) ≤ 9223372036854775807)) then
      rc3_7 (y3_5 ++ (List.getD x0_1 (Int.toNat x4_3) ByteArray.empty)) (IntKind.wrap .i64 (x4_3 + (1 : Int)))
    else none
  else none
noncomputable def spec_l39Join_l3 (x0_1 : (List ByteArray)) : Nat → (ByteArray → Option Ret) → ByteArray → Int → Option Ret
  | 0, _, _, _ => none
  | n_4 + 1, k3_0_6, x3_2, x4_3 =>
    bif (decide (x4_3 < (List.length x0_1 : Int))) then
      bif (decide (x4_3 > (0 : Int))) then
        bif (decide (ByteArray.size x3_2 + ByteArray.size s_h20 ≤ 9223372036854775807)) then
          spec_l39Join_j1 (spec_l39Join_l3 x0_1 n_4 k3_0_6) x0_1 x4_3 (x3_2 ++ s_h20)
        else none
      else
        spec_l39Join_j1 (spec_l39Join_l3 x0_1 n_4 k3_0_6) x0_1 x4_3 x3_2
    else
      k3_0_6 x3_2
noncomputable def spec_l39Join (N : Nat) (a0 : (List ByteArray)) (kf : ByteArray → Option Ret) : Option Ret :=
  spec_l39Join_l3 a0 N (fun (z3_8 : ByteArray) =>
    bif ((List.length a0 : Int) == (0 : Int)) then
      kf s_h2d
    else
      kf z3_8) s_e (0 : Int)
noncomputable def strconv_Itoa (N : Nat) (a0 : Int) (kf : ByteArray → Option Ret) : Option Ret :=
  bif (decide ((-9223372036854775808 : Int) ≤ a0) && decide (a0 ≤ (9223372036854775807 : Int))) then
    kf (itoaB a0)
  else none
noncomputable def impl_FormatInt (N : Nat) (a0 : Int) (kf : ByteArray → Option Ret) : Option Ret :=
  strconv_Itoa N a0 kf
noncomputable def strings_Join (N : Nat) (a0 : (List ByteArray)) (a1 : ByteArray) (kf : ByteArray → Option Ret) : Option Ret :=
  bif (Nat.ble (List.length a0) 140737488355328 && Nat.ble (ByteArray.size (joinB a0 a1)) 140737488355328) then
    kf (joinB a0 a1)
  else none
noncomputable def impl_joined (N : Nat) (a0 : (List ByteArray)) (kf : ByteArray → Option Ret) : Option Ret :=
  bif ((List.length a0 : Int) == (0 : Int)) then
    kf s_h2d
  else
    strings_Join N a0 s_h20 kf
noncomputable def laws_eqIntS_l4 (x0_1 : (List Int)) (x1_2 : (List Int)) : Nat → (Option Ret) → (Bool → Option Ret) → Int → Option Ret
  | 0, _, _, _ => none
  | n_4 + 1, k4_0_5, k4_1_6, x5_3 =>
    bif (decide (x5_3 < (List.length x0_1 : Int))) then
      bif (inB x5_3 (List.length x0_1)) then
        bif (inB x5_3 (List.length x1_2)) then
          bif ((List.getD x0_1 (Int.toNat x5_3) (0 : Int)) != (List.getD x1_2 (Int.toNat x5_3) (0 : Int))) then
            k4_1_6 false
          else
            (laws_eqIntS_l4 x0_1 x1_2 n_4 k4_0_5 k4_1_6) (IntKind.wrap .i64 (x5_3 + (1 : Int)))
        else none
      else none
    else
      k4_0_5
noncomputable def laws_eqIntS (N : Nat) (a0 : (List Int)) (a1 : (List Int)) (kf : Bool → Option Ret) : Option Ret :=
  bif ((List.length a0 : Int) != (List.length a1 : Int)) then
    kf false
  else
    laws_eqIntS_l4 a0 a1 N (kf true) kf (0 : Int)
noncomputable def laws_szIntS (N : Nat) (a0 : (List Int)) (a1 : Int) (kf : Int → Option Ret) : Option Ret :=
  bif (decide ((IntKind.wrap .i64 (a1 - (List.length a0 : Int))) < (0 : Int))) then
    kf (-1 : Int)
  else
    kf (IntKind.wrap .i64 (a1 - (List.length a0 : Int)))
noncomputable def laws_szTeam (N : Nat) (a0 : QIIIIILIE) (a1 : Int) (kf : Int → Option Ret) : Option Ret :=
  laws_szIntS N a0.2.2.2.2.2 a1 (fun (r8_1 : Int) =>
    bif (decide (r8_1 < (0 : Int))) then
      kf (-1 : Int)
    else
      kf r8_1)
noncomputable def laws_szTeamS_l5 (N : Nat) (x0_1 : (List QIIIIILIE)) : Nat → (Int → Option Ret) → (Int → Option Ret) → Int → Int → Option Ret
  | 0, _, _, _, _ => none
  | n_4 + 1, k5_0_6, k5_1_7, x1_2, x5_3 =>
    bif (decide (x5_3 < (List.length x0_1 : Int))) then
      bif (inB x5_3 (List.length x0_1)) then
        laws_szTeam N (List.getD x0_1 (Int.toNat x5_3) zQIIIIILIE) x1_2 (fun (r23_5 : Int) =>
          bif (decide (r23_5 < (0 : Int))) then
            k5_1_7 (-1 : Int)
          else
            (laws_szTeamS_l5 N x0_1 n_4 k5_0_6 k5_1_7) r23_5 (IntKind.wrap .i64 (x5_3 + (1 : Int))))
      else none
    else
      k5_0_6 x1_2
noncomputable def laws_szTeamS (N : Nat) (a0 : (List QIIIIILIE)) (a1 : Int) (kf : Int → Option Ret) : Option Ret :=
  bif (decide ((IntKind.wrap .i64 (a1 - (List.length a0 : Int))) < (0 : Int))) then
    kf (-1 : Int)
  else
    laws_szTeamS_l5 N a0 N kf kf (IntKind.wrap .i64 (a1 - (List.length a0 : Int))) (0 : Int)
noncomputable def laws_toTeam (N : Nat) (a0 : QIIIIILIE) (kf : QIIIIILIE → Option Ret) : Option Ret :=
  laws_toIntS N a0.2.2.2.2.2 (fun (r21_1 : (List Int)) =>
    kf (a0.1, (a0.2.1, (a0.2.2.1, (a0.2.2.2.1, (a0.2.2.2.2.1, r21_1))))))
noncomputable def laws_toTeamS_l3 (N : Nat) (x0_1 : (List QIIIIILIE)) : Nat → ((List QIIIIILIE) → Option Ret) → (List QIIIIILIE) → Int → Option Ret
  | 0, _, _, _ => none
  | n_4 + 1, k3_0_6, x3_2, x4_3 =>
    bif (decide (x4_3 < (List.length x0_1 : Int))) then
      bif (inB x4_3 (List.length x0_1)) then
        laws_toTeam N (List.getD x0_1 (Int.toNat x4_3) zQIIIIILIE) (fun (r20_5 : QIIIIILIE) =>
          bif (inB x4_3 (List.length x3_2)) then
            (laws_toTeamS_l3 N x0_1 n_4 k3_0_6) (List.set x3_2 (Int.toNat x4_3) r20_5) (IntKind.wrap .i64 (x4_3 + (1 : Int)))
          else none)
      else none
    else
      k3_0_6 x3_2
noncomputable def laws_toTeamS (N : Nat) (a0 : (List QIIIIILIE)) (kf : (List QIIIIILIE) → Option Ret) : Option Ret :=
  bif (decide ((List.length a0 : Int) = (List.length a0 : Int)) && decide ((0 : Int) ≤ (List.length a0 : Int)) && decide ((List.length a0 : Int) ≤ 1099511627776)) then
    laws_toTeamS_l3 N a0 N kf (List.replicate (Int.toNat (List.length a0 : Int)) ((0 : Int), ((0 : Int), ((0 : Int), ((0 : Int), ((0 : Int), ([] : (List Int)))))))) (0 : Int)
  else none
noncomputable def spec_FormatTeams_l3 (N : Nat) (x0_1 : (List QIIIIILIE)) : Nat → ((List ByteArray) → Option Ret) → (List ByteArray) → Int → Option Ret
  | 0, _, _, _ => none
  | n_4 + 1, k3_0_9, x3_2, x4_3 =>
    bif (decide (x4_3 < (List.length x0_1 : Int))) then
      bif (inB x4_3 (List.length x0_1)) then
        bif (inB x4_3 (List.length x0_1)) then
          bif (inB x4_3 (List.length x0_1)) then
            bif (inB x4_3 (List.length x0_1)) then
              spec_FormatInt N (List.getD x0_1 (Int.toNat x4_3) zQIIIIILIE).1 (fun (r18_5 : ByteArray) =>
                bif (decide (ByteArray.size r18_5 + ByteArray.size s_h3a ≤ 9223372036854775807)) then
                  spec_FormatInt N (List.getD x0_1 (Int.toNat x4_3) zQIIIIILIE).2.2.1 (fun (r25_6 : ByteArray) =>
                    bif (decide (ByteArray.size (r18_5 ++ s_h3a) + ByteArray.size r25_6 ≤ 9223372036854775807)) then
                      bif (decide (ByteArray.size ((r18_5 ++ s_h3a) ++ r25_6) + ByteArray.size s_h2f ≤ 9223372036854775807)) then
                        spec_FormatInt N (List.length (List.getD x0_1 (Int.toNat x4_3) zQIIIIILIE).2.2.2.2.2 : Int) (fun (r34_7 : ByteArray) =>
                          bif (decide (ByteArray.size (((r18_5 ++ s_h3a) ++ r25_6) ++ s_h2f) + ByteArray.size r34_7 ≤ 9223372036854775807)) then
                            bif (decide (ByteArray.size ((((r18_5 ++ s_h3a) ++ r25_6) ++ s_h2f) ++ r34_7) + ByteArray.size s_h3d ≤ 9223372036854775807)) then
                              spec_FormatInt N (List.getD x0_1 (Int.toNat x4_3) zQIIIIILIE).2.2.2.1 (fun (r42_8 : ByteArray) =>
                                bif (decide (ByteArray.size (((((r18_5 ++ s_h3a) ++ r25_6) ++ s_h2f) ++ r34_7) ++ s_h3d) + ByteArray.size r42_8 ≤ 9223372036854775807)) then
                                  bif (decide ((List.length x3_2 + List.length [((((((r18_5 ++ s_h3a) ++ r25_6) ++ s_h2f) ++ r34_7) ++ s_h3d) ++ r42_8)]) * 1 ≤ 4398046511104)) then
                                    (spec_FormatTeams_l3 N x0_1 n_4 k3_0_9) (x3_2 ++ [((((((r18_5 ++ s_h3a) ++ r25_6) ++ s_h2f) ++ r34_7) ++ s_h3d) ++ r42_8)]) (IntKind.wrap .i64 (x4_3 + (1 : Int)))
                                  else none
                                else none)
                            else none
                          else none)
                      else none
                    else none)
                else none)
            else none
          else none
        else none
      else none
    else
      k3_0_9 x3_2
noncomputable def spec_FormatTeams (N : Nat) (a0 : (List QIIIIILIE)) (kf : ByteArray → Option Ret) : Option Ret :=
  spec_FormatTeams_l3 N a0 N (fun (z3_11 : (List ByteArray)) =>
    spec_l39Join N z3_11 kf) ([] : (List ByteArray)) (0 : Int)
noncomputable def impl_FormatTeams_l3 (N : Nat) (x7_2 : (List QIIIIILIE)) (x8_3 : Int) : Nat → ((List ByteArray) → Option Ret) → (List ByteArray) → Int → Option Ret
  | 0, _, _, _ => none
  | n_5 + 1, k3_0_10, x3_1, x9_4 =>
    bif (decide (x9_4 < x8_3)) then
      bif (inB x9_4 (List.length x7_2)) then
        impl_FormatInt N (List.getD x7_2 (Int.toNat x9_4) zQIIIIILIE).1 (fun (r16_6 : ByteArray) =>
          bif (decide (ByteArray.size r16_6 + ByteArray.size s_h3a ≤ 9223372036854775807)) then
            impl_FormatInt N (List.getD x7_2 (Int.toNat x9_4) zQIIIIILIE).2.2.1 (fun (r20_7 : ByteArray) =>
              bif (decide (ByteArray.size (r16_6 ++ s_h3a) + ByteArray.size r20_7 ≤ 9223372036854775807)) then
                bif (decide (ByteArray.size ((r16_6 ++ s_h3a) ++ r20_7) + ByteArray.size s_h2f ≤ 9223372036854775807)) then
                  impl_FormatInt N (List.length (List.getD x7_2 (Int.toNat x9_4) zQIIIIILIE).2.2.2.2.2 : Int) (fun (r26_8 : ByteArray) =>
                    bif (decide (ByteArray.size (((r16_6 ++ s_h3a) ++ r20_7) ++ s_h2f) + ByteArray.size r26_8 ≤ 9223372036854775807)) then
                      bif (decide (ByteArray.size ((((r16_6 ++ s_h3a) ++ r20_7) ++ s_h2f) ++ r26_8) + ByteArray.size s_h3d ≤ 9223372036854775807)) then
                        impl_FormatInt N (List.getD x7_2 (Int.toNat x9_4) zQIIIIILIE).2.2.2.1 (fun (r31_9 : ByteArray) =>
                          bif (decide (ByteArray.size (((((r16_6 ++ s_h3a) ++ r20_7) ++ s_h2f) ++ r26_8) ++ s_h3d) + ByteArray.size r31_9 ≤ 9223372036854775807)) then
                            bif (decide ((List.length x3_1 + List.length [((((((r16_6 ++ s_h3a) ++ r20_7) ++ s_h2f) ++ r26_8) ++ s_h3d) ++ r31_9)]) * 1 ≤ 4398046511104)) then
                              (impl_FormatTeams_l3 N x7_2 x8_3 n_5 k3_0_10) (x3_1 ++ [((((((r16_6 ++ s_h3a) ++ r20_7) ++ s_h2f) ++ r26_8) ++ s_h3d) ++ r31_9)]) (IntKind.wrap .i64 (x9_4 + (1 : Int)))
                            else none
                          else none)
                      else none
                    else none)
                else none
              else none)
          else none)
      else none
    else
      k3_0_10 x3_1
noncomputable def impl_FormatTeams (N : Nat) (a0 : (List QIIIIILIE)) (kf : ByteArray → Option Ret) : Option Ret :=
  impl_FormatTeams_l3 N a0 (List.length a0 : Int) N (fun (z3_12 : (List ByteArray)) =>
    impl_joined N z3_12 kf) ([] : (List ByteArray)) (0 : Int)
noncomputable def laws_eqTeam (N : Nat) (a0 : QIIIIILIE) (a1 : QIIIIILIE) (kf : Bool → Option Ret) : Option Ret :=
  bif (a0.1 != a1.1) then
    kf false
  else
    bif (a0.2.1 != a1.2.1) then
      kf false
    else
      bif (a0.2.2.1 != a1.2.2.1) then
        kf false
      else
        bif (a0.2.2.2.1 != a1.2.2.2.1) then
          kf false
        else
          bif (a0.2.2.2.2.1 != a1.2.2.2.2.1) then
            kf false
          else
            laws_eqIntS N a0.2.2.2.2.2 a1.2.2.2.2.2 (fun (r34_1 : Bool) =>
              bif (!r34_1) then
                kf false
              else
                kf true)
noncomputable def laws_eqTeamS_l4 (N : Nat) (x0_1 : (List QIIIIILIE)) (x1_2 : (List QIIIIILIE)) : Nat → (Option Ret) → (Bool → Option Ret) → Int → Option Ret
  | 0, _, _, _ => none
  | n_4 + 1, k4_0_6, k4_1_7, x5_3 =>
    bif (decide (x5_3 < (List.length x0_1 : Int))) then
      bif (inB x5_3 (List.length x0_1)) then
        bif (inB x5_3 (List.length x1_2)) then
          laws_eqTeam N (List.getD x0_1 (Int.toNat x5_3) zQIIIIILIE) (List.getD x1_2 (Int.toNat x5_3) zQIIIIILIE) (fun (r25_5 : Bool) =>
            bif (!r25_5) then
              k4_1_7 false
            else
              (laws_eqTeamS_l4 N x0_1 x1_2 n_4 k4_0_6 k4_1_7) (IntKind.wrap .i64 (x5_3 + (1 : Int))))
        else none
      else none
    else
      k4_0_6
noncomputable def laws_eqTeamS (N : Nat) (a0 : (List QIIIIILIE)) (a1 : (List QIIIIILIE)) (kf : Bool → Option Ret) : Option Ret :=
  bif ((List.length a0 : Int) != (List.length a1 : Int)) then
    kf false
  else
    laws_eqTeamS_l4 N a0 a1 N (kf true) kf (0 : Int)
noncomputable def laws_FnExactFormatTeams (N : Nat) (a0 : (List QIIIIILIE)) (kf : Bool → Option Ret) : Option Ret :=
  laws_szTeamS N a0 (1048576 : Int) (fun (r9_1 : Int) =>
    bif (decide (r9_1 < (0 : Int))) then
      kf true
    else
      laws_toTeamS N a0 (fun (r13_2 : (List QIIIIILIE)) =>
        spec_FormatTeams N r13_2 (fun (r14_3 : ByteArray) =>
          laws_toTeamS N a0 (fun (r16_4 : (List QIIIIILIE)) =>
            impl_FormatTeams N r16_4 (fun (r18_5 : ByteArray) =>
              bif (!(ByteArray.toList r18_5 == ByteArray.toList r14_3)) then
                kf false
              else
                laws_toTeamS N a0 (fun (r24_6 : (List QIIIIILIE)) =>
                  laws_eqTeamS N r16_4 r24_6 (fun (r25_7 : Bool) =>
                    bif (!r25_7) then
                      kf false
                    else
                      kf true)))))))
end Go.Pv.R
