/- What the functions compute, as plain functions. -/
import Derived.Test.YthdoldaaodmeeaaDoorPv3
namespace Go.Pv.R
set_option linter.unusedVariables false
set_option linter.unusedSimpArgs false
abbrev tQILLIE : Ty := (.pair (.int .i64) (.sl (.sl (.int .i64))))
abbrev tQIIE : Ty := (.pair (.int .i64) (.int .i64))
abbrev QIIE : Type := (Int × Int)
def zQIIE : QIIE := ((0 : Int), (0 : Int))
abbrev tQIIIE : Ty := (.pair (.int .i64) (.pair (.int .i64) (.int .i64)))
abbrev QIIIE : Type := (Int × (Int × Int))
def zQIIIE : QIIIE := ((0 : Int), ((0 : Int), (0 : Int)))
abbrev tQIILIE : Ty := (.pair (.int .i64) (.pair (.int .i64) (.sl (.int .i64))))
abbrev QIILIE : Type := (Int × (Int × (List Int)))
def zQIILIE : QIILIE := ((0 : Int), ((0 : Int), ([] : (List Int))))
abbrev tQIIIIILIE : Ty := (.pair (.int .i64) (.pair (.int .i64) (.pair (.int .i64) (.pair (.int .i64) (.pair (.int .i64) (.sl (.int .i64)))))))
abbrev QIIIIILIE : Type := (Int × (Int × (Int × (Int × (Int × (List Int))))))
def zQIIIIILIE : QIIIIILIE := ((0 : Int), ((0 : Int), ((0 : Int), ((0 : Int), ((0 : Int), ([] : (List Int)))))))
abbrev tQIIIIE : Ty := (.pair (.int .i64) (.pair (.int .i64) (.pair (.int .i64) (.int .i64))))
abbrev QIIIIE : Type := (Int × (Int × (Int × Int)))
def zQIIIIE : QIIIIE := ((0 : Int), ((0 : Int), ((0 : Int), (0 : Int))))
abbrev tQLQIIIIILIELQIILIELQIIELILQIIIELQIIIIEIE : Ty := (.pair (.sl tQIIIIILIE) (.pair (.sl tQIILIE) (.pair (.sl tQIIE) (.pair (.sl (.int .i64)) (.pair (.sl tQIIIE) (.pair (.sl tQIIIIE) (.int .i64)))))))
abbrev QLQIIIIILIELQIILIELQIIELILQIIIELQIIIIEIE : Type := ((List QIIIIILIE) × ((List QIILIE) × ((List QIIE) × ((List Int) × ((List QIIIE) × ((List QIIIIE) × Int))))))
noncomputable def s_e : ByteArray := ⟨#[]⟩
noncomputable def s_0 : ByteArray := ⟨#[48]⟩
noncomputable def s_h2d : ByteArray := ⟨#[45]⟩
noncomputable def s_h20 : ByteArray := ⟨#[32]⟩
noncomputable def laws_toIntS_l3 (x0_1 : (List Int)) : Nat → ((List Int) → Option Ret) → (List Int) → Int → Option Ret
  | 0, _, _, _ => none
  | n_4 + 1, k3_0_5, x3_2, x4_3 =>
    bif (decide (x4_3 < (List.length x0_1 : Int))) then
      bif (inB x4_3 (List.length x0_1)) then
        bif (inB x4_3 (List.length x3_2)) then
          (laws_toIntS_l3 x0_1 n_4 k3_0_5) (List.set x3_2 (Int.toNat x4_3) (List.getD x0_1 (Int.toNat x4_3) (0 : Int))) (IntKind.wrap .i64 (x4_3 + (1 : Int)))
        else none
      else none
    else
      k3_0_5 x3_2
noncomputable def laws_toIntS (N : Nat) (a0 : (List Int)) (kf : (List Int) → Option Ret) : Option Ret :=
  bif (decide ((List.length a0 : Int) = (List.length a0 : Int)) && decide ((0 : Int) ≤ (List.length a0 : Int)) && decide ((List.length a0 : Int) ≤ 1099511627776)) then
    laws_toIntS_l3 a0 N kf (List.replicate (Int.toNat (List.length a0 : Int)) (0 : Int)) (0 : Int)
  else none
noncomputable def spec_FormatInt_j1 (rc5_7 : ByteArray → Int → Option Ret) (x3_2 : ByteArray) (x4_3 : Int) (y5_5 : Int) : Option Ret :=
  bif (decide (ByteArray.size (bytesOf [(IntKind.wrap .u8 (IntKind.wrap .i64 ((48 : Int) + y5_5)))]) + ByteArray.size x3_2 ≤ 9223372036854775807)) then
    rc5_7 ((bytesOf [(IntKind.wrap .u8 (IntKind.wrap .i64 ((48 : Int) + y5_5)))]) ++ x3_2) (IntKind.wrap .i64 (Int.tdiv x4_3 (10 : Int)))
  else none
noncomputable def spec_FormatInt_l5 (x0_1 : Int) : Nat → (ByteArray → Option Ret) → ByteArray → Int → Option Ret
  | 0, _, _, _ => none
  | n_4 + 1, k5_0_6, x3_2, x4_3 =>
    bif (x4_3 != (0 : Int)) then
      bif (decide ((Int.tmod x4_3 (10 : Int)) < (0 : Int))) then
        spec_FormatInt_j1 (spec_FormatInt_l5 x0_1 n_4 k5_0_6) x3_2 x4_3 (IntKind.wrap .i64 (0 - (Int.tmod x4_3 (10 : Int))))
      else
        spec_FormatInt_j1 (spec_FormatInt_l5 x0_1 n_4 k5_0_6) x3_2 x4_3 (Int.tmod x4_3 (10 : Int))
    else
      k5_0_6 x3_2
noncomputable def spec_FormatInt (N : Nat) (a0 : Int) (kf : ByteArray → Option Ret) : Option Ret :=
  bif (a0 == (0 : Int)) then
    kf s_0
  else
    spec_FormatInt_l5 a0 N (fun (z3_8 : ByteArray) =>
      bif (decide (a0 < (0 : Int))) then
        bif (decide (ByteArray.size s_h2d + ByteArray.size z3_8 ≤ 9223372036854775807)) then
          kf (s_h2d ++ z3_8)
        else none
      else
        kf z3_8) s_e a0
noncomputable def spec_l39Join_j1 (rc3_7 : ByteArray → Int → Option Ret) (x0_1 : (List ByteArray)) (x4_3 : Int) (y3_5 : ByteArray) : Option Ret :=
  bif (inB x4_3 (List.length x0_1)) then
    bif (decide (ByteArray.size y3_5 + ByteArray.size (List.getD x0_1 (Int.toNat x4_3) ByteArray.empty) ≤ 9223372036854775807)) then
      rc3_7 (y3_5 ++ (List.getD x0_1 (Int.toNat x4_3) ByteArray.empty)) (IntKind.wrap .i64 (x4_3 + (1 : Int)))
    else none
  else none
noncomputable def spec_l39Join_l3 (x0_1 : (List ByteArray)) : Nat → (ByteArray → Option Ret) → ByteArray → Int → Option Ret
  | 0, _, _, _ => none
  | n_4 + 1, k3_0_6, x3_2, x4_3 =>
    bif (decide (x4_3 < (List.length x0_1 : Int))) then
      bif (decide (x4_3 > (0 : Int))) then
        bif (decide (ByteArray.size x3_2 + ByteArray.size s_h20 ≤ 9223372036854775807)) then
          spec_l39Join_j1 (spec_l39Join_l3 x0_1 n_4 k3_0_6) x0_1 x4_3 (x3_2 ++ s_h20)
        else none
      else
        spec_l39Join_j1 (spec_l39Join_l3 x0_1 n_4 k3_0_6) x0_1 x4_3 x3_2
    else
      k3_0_6 x3_2
noncomputable def spec_l39Join (N : Nat) (a0 : (List ByteArray)) (kf : ByteArray → Option Ret) : Option Ret :=
  spec_l39Join_l3 a0 N (fun (z3_8 : ByteArray) =>
    bif ((List.length a0 : Int) == (0 : Int)) then
      kf s_h2d
    else
      kf z3_8) s_e (0 : Int)
noncomputable def spec_FormatNumbers_l3 (N : Nat) (x0_1 : (List Int)) : Nat → ((List ByteArray) → Option Ret) → (List ByteArray) → Int → Option Ret
  | 0, _, _, _ => none
  | n_4 + 1, k3_0_6, x3_2, x4_3 =>
    bif (decide (x4_3 < (List.length x0_1 : Int))) then
      bif (inB x4_3 (List.length x0_1)) then
        spec_FormatInt N (List.getD x0_1 (Int.toNat x4_3) (0 : Int)) (fun (r17_5 : ByteArray) =>
          bif (decide ((List.length x3_2 + List.length [r17_5]) * 1 ≤ 4398046511104)) then
            (spec_FormatNumbers_l3 N x0_1 n_4 k3_0_6) (x3_2 ++ [r17_5]) (IntKind.wrap .i64 (x4_3 + (1 : Int)))
          else none)
      else none
    else
      k3_0_6 x3_2
noncomputable def spec_FormatNumbers (N : Nat) (a0 : (List Int)) (kf : ByteArray → Option Ret) : Option Ret :=
  spec_FormatNumbers_l3 N a0 N (fun (z3_8 : (List ByteArray)) =>
    spec_l39Join N z3_8 kf) ([] : (List ByteArray)) (0 : Int)
noncomputable def strconv_Itoa (N : Nat) (a0 : Int) (kf : ByteArray → Option Ret) : Option Ret :=
  bif (decide ((-9223372036854775808 : Int) ≤ a0) && decide (a0 ≤ (9223372036854775807 : Int))) then
    kf (itoaB a0)
  else none
noncomputable def impl_FormatInt (N : Nat) (a0 : Int) (kf : ByteArray → Option Ret) : Option Ret :=
  strconv_Itoa N a0 kf
noncomputable def strings_Join (N : Nat) (a0 : (List ByteArray)) (a1 : ByteArray) (kf : ByteArray → Option Ret) : Option Ret :=
  bif (Nat.ble (List.length a0) 140737488355328 && Nat.ble (ByteArray.size (joinB a0 a1)) 140737488355328) then
    kf (joinB a0 a1)
  else none
noncomputable def impl_joined (N : Nat) (a0 : (List ByteArray)) (kf : ByteArray → Option Ret) : Option Ret :=
  bif ((List.length a0 : Int) == (0 : Int)) then
    kf s_h2d
  else
    strings_Join N a0 s_h20 kf
noncomputable def impl_FormatNumbers_l3 (N : Nat) (x7_2 : (List Int)) (x8_3 : Int) : Nat → ((List ByteArray) → Option Ret) → (List ByteArray) → Int → Option Ret
  | 0, _, _, _ => none
  | n_5 + 1, k3_0_7, x3_1, x9_4 =>
    bif (decide (x9_4 < x8_3)) then
      bif (inB x9_4 (List.length x7_2)) then
        impl_FormatInt N (List.getD x7_2 (Int.toNat x9_4) (0 : Int)) (fun (r15_6 : ByteArray) =>
          bif (decide ((List.length x3_1 + List.length [r15_6]) * 1 ≤ 4398046511104)) then
            (impl_FormatNumbers_l3 N x7_2 x8_3 n_5 k3_0_7) (x3_1 ++ [r15_6]) (IntKind.wrap .i64 (x9_4 + (1 : Int)))
          else none)
      else none
    else
      k3_0_7 x3_1
noncomputable def impl_FormatNumbers (N : Nat) (a0 : (List Int)) (kf : ByteArray → Option Ret) : Option Ret :=
  impl_FormatNumbers_l3 N a0 (List.length a0 : Int) N (fun (z3_9 : (List ByteArray)) =>
    impl_joined N z3_9 kf) ([] : (List ByteArray)) (0 : Int)
noncomputable def laws_eqIntS_l4 (x0_1 : (List Int)) (x1_2 : (List Int)) : Nat → (Option Ret) → (Bool → Option Ret) → Int → Option Ret
  | 0, _, _, _ => none
  | n_4 + 1, k4_0_5, k4_1_6, x5_3 =>
    bif (decide (x5_3 < (List.length x0_1 : Int))) then
      bif (inB x5_3 (List.length x0_1)) then
        bif (inB x5_3 (List.length x1_2)) then
          bif ((List.getD x0_1 (Int.toNat x5_3) (0 : Int)) != (List.getD x1_2 (Int.toNat x5_3) (0 : Int))) then
            k4_1_6 false
          else
            (laws_eqIntS_l4 x0_1 x1_2 n_4 k4_0_5 k4_1_6) (IntKind.wrap .i64 (x5_3 + (1 : Int)))
        else none
      else none
    else
      k4_0_5
noncomputable def laws_eqIntS (N : Nat) (a0 : (List Int)) (a1 : (List Int)) (kf : Bool → Option Ret) : Option Ret :=
  bif ((List.length a0 : Int) != (List.length a1 : Int)) then
    kf false
  else
    laws_eqIntS_l4 a0 a1 N (kf true) kf (0 : Int)
noncomputable def laws_szIntS (N : Nat) (a0 : (List Int)) (a1 : Int) (kf : Int → Option Ret) : Option Ret :=
  bif (decide ((IntKind.wrap .i64 (a1 - (List.length a0 : Int))) < (0 : Int))) then
    kf (-1 : Int)
  else
    kf (IntKind.wrap .i64 (a1 - (List.length a0 : Int)))
noncomputable def laws_szPairS (N : Nat) (a0 : (List QIIE)) (a1 : Int) (kf : Int → Option Ret) : Option Ret :=
  bif (decide ((IntKind.wrap .i64 (a1 - (List.length a0 : Int))) < (0 : Int))) then
    kf (-1 : Int)
  else
    kf (IntKind.wrap .i64 (a1 - (List.length a0 : Int)))
noncomputable def laws_toPair (N : Nat) (a0 : QIIE) (kf : QIIE → Option Ret) : Option Ret :=
  kf (a0.1, a0.2)
noncomputable def laws_toPairS_l3 (N : Nat) (x0_1 : (List QIIE)) : Nat → ((List QIIE) → Option Ret) → (List QIIE) → Int → Option Ret
  | 0, _, _, _ => none
  | n_4 + 1, k3_0_6, x3_2, x4_3 =>
    bif (decide (x4_3 < (List.length x0_1 : Int))) then
      bif (inB x4_3 (List.length x0_1)) then
        laws_toPair N (List.getD x0_1 (Int.toNat x4_3) zQIIE) (fun (r20_5 : QIIE) =>
          bif (inB x4_3 (List.length x3_2)) then
            (laws_toPairS_l3 N x0_1 n_4 k3_0_6) (List.set x3_2 (Int.toNat x4_3) r20_5) (IntKind.wrap .i64 (x4_3 + (1 : Int)))
          else none)
      else none
    else
      k3_0_6 x3_2
noncomputable def laws_toPairS (N : Nat) (a0 : (List QIIE)) (kf : (List QIIE) → Option Ret) : Option Ret :=
  bif (decide ((List.length a0 : Int) = (List.length a0 : Int)) && decide ((0 : Int) ≤ (List.length a0 : Int)) && decide ((List.length a0 : Int) ≤ 1099511627776)) then
    laws_toPairS_l3 N a0 N kf (List.replicate (Int.toNat (List.length a0 : Int)) ((0 : Int), (0 : Int))) (0 : Int)
  else none
noncomputable def laws_eqPair (N : Nat) (a0 : QIIE) (a1 : QIIE) (kf : Bool → Option Ret) : Option Ret :=
  bif (a0.1 != a1.1) then
    kf false
  else
    bif (a0.2 != a1.2) then
      kf false
    else
      kf true
noncomputable def laws_eqPairS_l4 (N : Nat) (x0_1 : (List QIIE)) (x1_2 : (List QIIE)) : Nat → (Option Ret) → (Bool → Option Ret) → Int → Option Ret
  | 0, _, _, _ => none
  | n_4 + 1, k4_0_6, k4_1_7, x5_3 =>
    bif (decide (x5_3 < (List.length x0_1 : Int))) then
      bif (inB x5_3 (List.length x0_1)) then
        bif (inB x5_3 (List.length x1_2)) then
          laws_eqPair N (List.getD x0_1 (Int.toNat x5_3) zQIIE) (List.getD x1_2 (Int.toNat x5_3) zQIIE) (fun (r25_5 : Bool) =>
            bif (!r25_5) then
              k4_1_7 false
            else
              (laws_eqPairS_l4 N x0_1 x1_2 n_4 k4_0_6 k4_1_7) (IntKind.wrap .i64 (x5_3 + (1 : Int))))
        else none
      else none
    else
      k4_0_6
noncomputable def laws_eqPairS (N : Nat) (a0 : (List QIIE)) (a1 : (List QIIE)) (kf : Bool → Option Ret) : Option Ret :=
  bif ((List.length a0 : Int) != (List.length a1 : Int)) then
    kf false
  else
    laws_eqPairS_l4 N a0 a1 N (kf true) kf (0 : Int)
noncomputable def laws_szTeam (N : Nat) (a0 : QIIIIILIE) (a1 : Int) (kf : Int → Option Ret) : Option Ret :=
  laws_szIntS N a0.2.2.2.2.2 a1 (fun (r8_1 : Int) =>
    bif (decide (r8_1 < (0 : Int))) then
      kf (-1 : Int)
    else
      kf r8_1)
noncomputable def laws_szTeamS_l5 (N : Nat) (x0_1 : (List QIIIIILIE)) : Nat → (Int → Option Ret) → (Int → Option Ret) → Int → Int → Option Ret
  | 0, _, _, _, _ => none
  | n_4 + 1, k5_0_6, k5_1_7, x1_2, x5_3 =>
    bif (decide (x5_3 < (List.length x0_1 : Int))) then
      bif (inB x5_3 (List.length x0_1)) then
        laws_szTeam N (List.getD x0_1 (Int.toNat x5_3) zQIIIIILIE) x1_2 (fun (r23_5 : Int) =>
          bif (decide (r23_5 < (0 : Int))) then
            k5_1_7 (-1 : Int)
          else
            (laws_szTeamS_l5 N x0_1 n_4 k5_0_6 k5_1_7) r23_5 (IntKind.wrap .i64 (x5_3 + (1 : Int))))
      else none
    else
      k5_0_6 x1_2
noncomputable def laws_szTeamS (N : Nat) (a0 : (List QIIIIILIE)) (a1 : Int) (kf : Int → Option Ret) : Option Ret :=
  bif (decide ((IntKind.wrap .i64 (a1 - (List.length a0 : Int))) < (0 : Int))) then
    kf (-1 : Int)
  else
    laws_szTeamS_l5 N a0 N kf kf (IntKind.wrap .i64 (a1 - (List.length a0 : Int))) (0 : Int)
noncomputable def laws_toTeam (N : Nat) (a0 : QIIIIILIE) (kf : QIIIIILIE → Option Ret) : Option Ret :=
  laws_toIntS N a0.2.2.2.2.2 (fun (r21_1 : (List Int)) =>
    kf (a0.1, (a0.2.1, (a0.2.2.1, (a0.2.2.2.1, (a0.2.2.2.2.1, r21_1))))))
noncomputable def laws_toTeamS_l3 (N : Nat) (x0_1 : (List QIIIIILIE)) : Nat → ((List QIIIIILIE) → Option Ret) → (List QIIIIILIE) → Int → Option Ret
  | 0, _, _, _ => none
  | n_4 + 1, k3_0_6, x3_2, x4_3 =>
    bif (decide (x4_3 < (List.length x0_1 : Int))) then
      bif (inB x4_3 (List.length x0_1)) then
        laws_toTeam N (List.getD x0_1 (Int.toNat x4_3) zQIIIIILIE) (fun (r20_5 : QIIIIILIE) =>
          bif (inB x4_3 (List.length x3_2)) then
            (laws_toTeamS_l3 N x0_1 n_4 k3_0_6) (List.set x3_2 (Int.toNat x4_3) r20_5) (IntKind.wrap .i64 (x4_3 + (1 : Int)))
          else none)
      else none
    else
      k3_0_6 x3_2
noncomputable def laws_toTeamS (N : Nat) (a0 : (List QIIIIILIE)) (kf : (List QIIIIILIE) → Option Ret) : Option Ret :=
  bif (decide ((List.length a0 : Int) = (List.length a0 : Int)) && decide ((0 : Int) ≤ (List.length a0 : Int)) && decide ((List.length a0 : Int) ≤ 1099511627776)) then
    laws_toTeamS_l3 N a0 N kf (List.replicate (Int.toNat (List.length a0 : Int)) ((0 : Int), ((0 : Int), ((0 : Int), ((0 : Int), ((0 : Int), ([] : (List Int)))))))) (0 : Int)
  else none
noncomputable def laws_eqTeam (N : Nat) (a0 : QIIIIILIE) (a1 : QIIIIILIE) (kf : Bool → Option Ret) : Option Ret :=
  bif (a0.1 != a1.1) then
    kf false
  else
    bif (a0.2.1 != a1.2.1) then
      kf false
    else
      bif (a0.2.2.1 != a1.2.2.1) then
        kf false
      else
        bif (a0.2.2.2.1 != a1.2.2.2.1) then
          kf false
        else
          bif (a0.2.2.2.2.1 != a1.2.2.2.2.1) then
            kf false
          else
            laws_eqIntS N a0.2.2.2.2.2 a1.2.2.2.2.2 (fun (r34_1 : Bool) =>
              bif (!r34_1) then
                kf false
              else
                kf true)
noncomputable def laws_eqTeamS_l4 (N : Nat) (x0_1 : (List QIIIIILIE)) (x1_2 : (List QIIIIILIE)) : Nat → (Option Ret) → (Bool → Option Ret) → Int → Option Ret
  | 0, _, _, _ => none
  | n_4 + 1, k4_0_6, k4_1_7, x5_3 =>
    bif (decide (x5_3 < (List.length x0_1 : Int))) then
      bif (inB x5_3 (List.length x0_1)) then
        bif (inB x5_3 (List.length x1_2)) then
          laws_eqTeam N (List.getD x0_1 (Int.toNat x5_3) zQIIIIILIE) (List.getD x1_2 (Int.toNat x5_3) zQIIIIILIE) (fun (r25_5 : Bool) =>
            bif (!r25_5) then
              k4_1_7 false
            else
              (laws_eqTeamS_l4 N x0_1 x1_2 n_4 k4_0_6 k4_1_7) (IntKind.wrap .i64 (x5_3 + (1 : Int))))
        else none
      else none
    else
      k4_0_6
noncomputable def laws_eqTeamS (N : Nat) (a0 : (List QIIIIILIE)) (a1 : (List QIIIIILIE)) (kf : Bool → Option Ret) : Option Ret :=
  bif ((List.length a0 : Int) != (List.length a1 : Int)) then
    kf false
  else
    laws_eqTeamS_l4 N a0 a1 N (kf true) kf (0 : Int)
noncomputable def laws_szJudge (N : Nat) (a0 : QIILIE) (a1 : Int) (kf : Int → Option Ret) : Option Ret :=
  laws_szIntS N a0.2.2 a1 (fun (r8_1 : Int) =>
    bif (decide (r8_1 < (0 : Int))) then
      kf (-1 : Int)
    else
      kf r8_1)
noncomputable def laws_szJudgeS_l5 (N : Nat) (x0_1 : (List QIILIE)) : Nat → (Int → Option Ret) → (Int → Option Ret) → Int → Int → Option Ret
  | 0, _, _, _, _ => none
  | n_4 + 1, k5_0_6, k5_1_7, x1_2, x5_3 =>
    bif (decide (x5_3 < (List.length x0_1 : Int))) then
      bif (inB x5_3 (List.length x0_1)) then
        laws_szJudge N (List.getD x0_1 (Int.toNat x5_3) zQIILIE) x1_2 (fun (r23_5 : Int) =>
          bif (decide (r23_5 < (0 : Int))) then
            k5_1_7 (-1 : Int)
          else
            (laws_szJudgeS_l5 N x0_1 n_4 k5_0_6 k5_1_7) r23_5 (IntKind.wrap .i64 (x5_3 + (1 : Int))))
      else none
    else
      k5_0_6 x1_2
noncomputable def laws_szJudgeS (N : Nat) (a0 : (List QIILIE)) (a1 : Int) (kf : Int → Option Ret) : Option Ret :=
  bif (decide ((IntKind.wrap .i64 (a1 - (List.length a0 : Int))) < (0 : Int))) then
    kf (-1 : Int)
  else
    laws_szJudgeS_l5 N a0 N kf kf (IntKind.wrap .i64 (a1 - (List.length a0 : Int))) (0 : Int)
noncomputable def laws_szBallotS (N : Nat) (a0 : (List QIIIE)) (a1 : Int) (kf : Int → Option Ret) : Option Ret :=
  bif (decide ((IntKind.wrap .i64 (a1 - (List.length a0 : Int))) < (0 : Int))) then
    kf (-1 : Int)
  else
    kf (IntKind.wrap .i64 (a1 - (List.length a0 : Int)))
noncomputable def laws_szLineS (N : Nat) (a0 : (List QIIIIE)) (a1 : Int) (kf : Int → Option Ret) : Option Ret :=
  bif (decide ((IntKind.wrap .i64 (a1 - (List.length a0 : Int))) < (0 : Int))) then
    kf (-1 : Int)
  else
    kf (IntKind.wrap .i64 (a1 - (List.length a0 : Int)))
noncomputable def laws_szClub (N : Nat) (a0 : QLQIIIIILIELQIILIELQIIELILQIIIELQIIIIEIE) (a1 : Int) (kf : Int → Option Ret) : Option Ret :=
  laws_szTeamS N a0.1 a1 (fun (r8_1 : Int) =>
    bif (decide (r8_1 < (0 : Int))) then
      kf (-1 : Int)
    else
      laws_szJudgeS N a0.2.1 r8_1 (fun (r14_2 : Int) =>
        bif (decide (r14_2 < (0 : Int))) then
          kf (-1 : Int)
        else
          laws_szPairS N a0.2.2.1 r14_2 (fun (r20_3 : Int) =>
            bif (decide (r20_3 < (0 : Int))) then
              kf (-1 : Int)
            else
              laws_szIntS N a0.2.2.2.1 r20_3 (fun (r26_4 : Int) =>
                bif (decide (r26_4 < (0 : Int))) then
                  kf (-1 : Int)
                else
                  laws_szBallotS N a0.2.2.2.2.1 r26_4 (fun (r32_5 : Int) =>
                    bif (decide (r32_5 < (0 : Int))) then
                      kf (-1 : Int)
                    else
                      laws_szLineS N a0.2.2.2.2.2.1 r32_5 (fun (r38_6 : Int) =>
                        bif (decide (r38_6 < (0 : Int))) then
                          kf (-1 : Int)
                        else
                          kf r38_6))))))
noncomputable def laws_toJudge (N : Nat) (a0 : QIILIE) (kf : QIILIE → Option Ret) : Option Ret :=
  laws_toIntS N a0.2.2 (fun (r12_1 : (List Int)) =>
    kf (a0.1, (a0.2.1, r12_1)))
noncomputable def laws_toJudgeS_l3 (N : Nat) (x0_1 : (List QIILIE)) : Nat → ((List QIILIE) → Option Ret) → (List QIILIE) → Int → Option Ret
  | 0, _, _, _ => none
  | n_4 + 1, k3_0_6, x3_2, x4_3 =>
    bif (decide (x4_3 < (List.length x0_1 : Int))) then
      bif (inB x4_3 (List.length x0_1)) then
        laws_toJudge N (List.getD x0_1 (Int.toNat x4_3) zQIILIE) (fun (r20_5 : QIILIE) =>
          bif (inB x4_3 (List.length x3_2)) then
            (laws_toJudgeS_l3 N x0_1 n_4 k3_0_6) (List.set x3_2 (Int.toNat x4_3) r20_5) (IntKind.wrap .i64 (x4_3 + (1 : Int)))
          else none)
      else none
    else
      k3_0_6 x3_2
noncomputable def laws_toJudgeS (N : Nat) (a0 : (List QIILIE)) (kf : (List QIILIE) → Option Ret) : Option Ret :=
  bif (decide ((List.length a0 : Int) = (List.length a0 : Int)) && decide ((0 : Int) ≤ (List.length a0 : Int)) && decide ((List.length a0 : Int) ≤ 1099511627776)) then
    laws_toJudgeS_l3 N a0 N kf (List.replicate (Int.toNat (List.length a0 : Int)) ((0 : Int), ((0 : Int), ([] : (List Int))))) (0 : Int)
  else none
noncomputable def laws_toBallot (N : Nat) (a0 : QIIIE) (kf : QIIIE → Option Ret) : Option Ret :=
  kf (a0.1, (a0.2.1, a0.2.2))
noncomputable def laws_toBallotS_l3 (N : Nat) (x0_1 : (List QIIIE)) : Nat → ((List QIIIE) → Option Ret) → (List QIIIE) → Int → Option Ret
  | 0, _, _, _ => none
  | n_4 + 1, k3_0_6, x3_2, x4_3 =>
    bif (decide (x4_3 < (List.length x0_1 : Int))) then
      bif (inB x4_3 (List.length x0_1)) then
        laws_toBallot N (List.getD x0_1 (Int.toNat x4_3) zQIIIE) (fun (r20_5 : QIIIE) =>
          bif (inB x4_3 (List.length x3_2)) then
            (laws_toBallotS_l3 N x0_1 n_4 k3_0_6) (List.set x3_2 (Int.toNat x4_3) r20_5) (IntKind.wrap .i64 (x4_3 + (1 : Int)))
          else none)
      else none
    else
      k3_0_6 x3_2
noncomputable def laws_toBallotS (N : Nat) (a0 : (List QIIIE)) (kf : (List QIIIE) → Option Ret) : Option Ret :=
  bif (decide ((List.length a0 : Int) = (List.length a0 : Int)) && decide ((0 : Int) ≤ (List.length a0 : Int)) && decide ((List.length a0 : Int) ≤ 1099511627776)) then
    laws_toBallotS_l3 N a0 N kf (List.replicate (Int.toNat (List.length a0 : Int)) ((0 : Int), ((0 : Int), (0 : Int)))) (0 : Int)
  else none
noncomputable def laws_toLine (N : Nat) (a0 : QIIIIE) (kf : QIIIIE → Option Ret) : Option Ret :=
  kf (a0.1, (a0.2.1, (a0.2.2.1, a0.2.2.2)))
noncomputable def laws_toLineS_l3 (N : Nat) (x0_1 : (List QIIIIE)) : Nat → ((List QIIIIE) → Option Ret) → (List QIIIIE) → Int → Option Ret
  | 0, _, _, _ => none
  | n_4 + 1, k3_0_6, x3_2, x4_3 =>
    bif (decide (x4_3 < (List.length x0_1 : Int))) then
      bif (inB x4_3 (List.length x0_1)) then
        laws_toLine N (List.getD x0_1 (Int.toNat x4_3) zQIIIIE) (fun (r20_5 : QIIIIE) =>
          bif (inB x4_3 (List.length x3_2)) then
            (laws_toLineS_l3 N x0_1 n_4 k3_0_6) (List.set x3_2 (Int.toNat x4_3) r20_5) (IntKind.wrap .i64 (x4_3 + (1 : Int)))
          else none)
      else none
    else
      k3_0_6 x3_2
noncomputable def laws_toLineS (N : Nat) (a0 : (List QIIIIE)) (kf : (List QIIIIE) → Option Ret) : Option Ret :=
  bif (decide ((List.length a0 : Int) = (List.length a0 : Int)) && decide ((0 : Int) ≤ (List.length a0 : Int)) && decide ((List.length a0 : Int) ≤ 1099511627776)) then
    laws_toLineS_l3 N a0 N kf (List.replicate (Int.toNat (List.length a0 : Int)) ((0 : Int), ((0 : Int), ((0 : Int), (0 : Int))))) (0 : Int)
  else none
noncomputable def laws_toClub (N : Nat) (a0 : QLQIIIIILIELQIILIELQIIELILQIIIELQIIIIEIE) (kf : QLQIIIIILIELQIILIELQIIELILQIIIELQIIIIEIE → Option Ret) : Option Ret :=
  laws_toTeamS N a0.1 (fun (r6_1 : (List QIIIIILIE)) =>
    laws_toJudgeS N a0.2.1 (fun (r10_2 : (List QIILIE)) =>
      laws_toPairS N a0.2.2.1 (fun (r14_3 : (List QIIE)) =>
        laws_toIntS N a0.2.2.2.1 (fun (r18_4 : (List Int)) =>
          laws_toBallotS N a0.2.2.2.2.1 (fun (r22_5 : (List QIIIE)) =>
            laws_toLineS N a0.2.2.2.2.2.1 (fun (r26_6 : (List QIIIIE)) =>
              kf (r6_1, (r10_2, (r14_3, (r18_4, (r22_5, (r26_6, a0.2.2.2.2.2.2))))))))))))
noncomputable def spec_Waiting_l4 (x1_1 : QLQIIIIILIELQIILIELQIIELILQIIIELQIIIIEIE) (x4_3 : QIIIE) : Nat → ((List Int) → Option Ret) → (List Int) → Int → Option Ret
  | 0, _, _, _ => none
  | n_5 + 1, k4_0_7, x3_2, x5_4 =>
    bif (decide (x5_4 < (List.length x1_1.2.2.2.2.1 : Int))) then
      bif (inB x5_4 (List.length x1_1.2.2.2.2.1)) then
        bif ((decide (((List.getD x1_1.2.2.2.2.1 (Int.toNat x5_4) zQIIIE).1 : Int) = x4_3.1)) && ((decide (((List.getD x1_1.2.2.2.2.1 (Int.toNat x5_4) zQIIIE).2.1 : Int) = x4_3.2.1)) && (decide (((List.getD x1_1.2.2.2.2.1 (Int.toNat x5_4) zQIIIE).2.2 : Int) = x4_3.2.2)))) then
          bif (decide ((List.length x3_2 + List.length [x5_4]) * 1 ≤ 4398046511104)) then
            (spec_Waiting_l4 x1_1 x4_3 n_5 k4_0_7) (x3_2 ++ [x5_4]) (IntKind.wrap .i64 (x5_4 + (1 : Int)))
          else none
        else
          (spec_Waiting_l4 x1_1 x4_3 n_5 k4_0_7) x3_2 (IntKind.wrap .i64 (x5_4 + (1 : Int)))
      else none
    else
      k4_0_7 x3_2
noncomputable def spec_Waiting (N : Nat) (a0 : QLQIIIIILIELQIILIELQIIELILQIIIELQIIIIEIE) (kf : (List Int) → Option Ret) : Option Ret :=
  spec_Waiting_l4 a0 ((0 : Int), ((0 : Int), (0 : Int))) N kf ([] : (List Int)) (0 : Int)
noncomputable def spec_FormatClub (N : Nat) (a0 : QLQIIIIILIELQIILIELQIIELILQIIIELQIIIIEIE) (kf : ByteArray → Option Ret) : Option Ret :=
  spec_Waiting N a0 (fun (r13_1 : (List Int)) =>
    spec_FormatNumbers N [(List.length a0.1 : Int), (List.length a0.2.1 : Int), (List.length a0.2.2.1 : Int), (List.length r13_1 : Int), a0.2.2.2.2.2.2, (List.length a0.2.2.2.2.2.1 : Int)] kf)
noncomputable def impl_Waiting_l3 (x8_2 : (List QIIIE)) (x9_3 : Int) : Nat → ((List Int) → Option Ret) → (List Int) → Int → Option Ret
  | 0, _, _, _ => none
  | n_5 + 1, k3_0_7, x3_1, x10_4 =>
    bif (decide (x10_4 < x9_3)) then
      bif (inB x10_4 (List.length x8_2)) then
        bif ((decide (((List.getD x8_2 (Int.toNat x10_4) zQIIIE).1 : Int) = (0 : Int))) && ((decide (((List.getD x8_2 (Int.toNat x10_4) zQIIIE).2.1 : Int) = (0 : Int))) && (decide (((List.getD x8_2 (Int.toNat x10_4) zQIIIE).2.2 : Int) = (0 : Int))))) then
          bif (decide ((List.length x3_1 + List.length [x10_4]) * 1 ≤ 4398046511104)) then
            (impl_Waiting_l3 x8_2 x9_3 n_5 k3_0_7) (x3_1 ++ [x10_4]) (IntKind.wrap .i64 (x10_4 + (1 : Int)))
          else none
        else
          (impl_Waiting_l3 x8_2 x9_3 n_5 k3_0_7) x3_1 (IntKind.wrap .i64 (x10_4 + (1 : Int)))
      else none
    else
      k3_0_7 x3_1
noncomputable def impl_Waiting (N : Nat) (a0 : QLQIIIIILIELQIILIELQIIELILQIIIELQIIIIEIE) (kf : (List Int) → Option Ret) : Option Ret :=
  impl_Waiting_l3 a0.2.2.2.2.1 (List.length a0.2.2.2.2.1 : Int) N kf ([] : (List Int)) (0 : Int)
noncomputable def impl_FormatClub (N : Nat) (a0 : QLQIIIIILIELQIILIELQIIELILQIIIELQIIIIEIE) (kf : ByteArray → Option Ret) : Option Ret :=
  impl_Waiting N a0 (fun (r13_1 : (List Int)) =>
    impl_FormatNumbers N [(List.length a0.1 : Int), (List.length a0.2.1 : Int), (List.length a0.2.2.1 : Int), (List.length r13_1 : Int), a0.2.2.2.2.2.2, (List.length a0.2.2.2.2.2.1 : Int)] kf)
noncomputable def laws_eqJudge (N : Nat) (a0 : QIILIE) (a1 : QIILIE) (kf : Bool → Option Ret) : Option Ret :=
  bif (a0.1 != a1.1) then
    kf false
  else
    bif (a0.2.1 != a1.2.1) then
      kf false
    else
      laws_eqIntS N a0.2.2 a1.2.2 (fun (r19_1 : Bool) =>
        bif (!r19_1) then
          kf false
        else
          kf true)
noncomputable def laws_eqJudgeS_l4 (N : Nat) (x0_1 : (List QIILIE)) (x1_2 : (List QIILIE)) : Nat → (Option Ret) → (Bool → Option Ret) → Int → Option Ret
  | 0, _, _, _ => none
  | n_4 + 1, k4_0_6, k4_1_7, x5_3 =>
    bif (decide (x5_3 < (List.length x0_1 : Int))) then
      bif (inB x5_3 (List.length x0_1)) then
        bif (inB x5_3 (List.length x1_2)) then
          laws_eqJudge N (List.getD x0_1 (Int.toNat x5_3) zQIILIE) (List.getD x1_2 (Int.toNat x5_3) zQIILIE) (fun (r25_5 : Bool) =>
            bif (!r25_5) then
              k4_1_7 false
            else
              (laws_eqJudgeS_l4 N x0_1 x1_2 n_4 k4_0_6 k4_1_7) (IntKind.wrap .i64 (x5_3 + (1 : Int))))
        else none
      else none
    else
      k4_0_6
noncomputable def laws_eqJudgeS (N : Nat) (a0 : (List QIILIE)) (a1 : (List QIILIE)) (kf : Bool → Option Ret) : Option Ret :=
  bif ((List.length a0 : Int) != (List.length a1 : Int)) then
    kf false
  else
    laws_eqJudgeS_l4 N a0 a1 N (kf true) kf (0 : Int)
noncomputable def laws_eqBallot (N : Nat) (a0 : QIIIE) (a1 : QIIIE) (kf : Bool → Option Ret) : Option Ret :=
  bif (a0.1 != a1.1) then
    kf false
  else
    bif (a0.2.1 != a1.2.1) then
      kf false
    else
      bif (a0.2.2 != a1.2.2) then
        kf false
      else
        kf true
noncomputable def laws_eqBallotS_l4 (N : Nat) (x0_1 : (List QIIIE)) (x1_2 : (List QIIIE)) : Nat → (Option Ret) → (Bool → Option Ret) → Int → Option Ret
  | 0, _, _, _ => none
  | n_4 + 1, k4_0_6, k4_1_7, x5_3 =>
    bif (decide (x5_3 < (List.length x0_1 : Int))) then
      bif (inB x5_3 (List.length x0_1)) then
        bif (inB x5_3 (List.length x1_2)) then
          laws_eqBallot N (List.getD x0_1 (Int.toNat x5_3) zQIIIE) (List.getD x1_2 (Int.toNat x5_3) zQIIIE) (fun (r25_5 : Bool) =>
            bif (!r25_5) then
              k4_1_7 false
            else
              (laws_eqBallotS_l4 N x0_1 x1_2 n_4 k4_0_6 k4_1_7) (IntKind.wrap .i64 (x5_3 + (1 : Int))))
        else none
      else none
    else
      k4_0_6
noncomputable def laws_eqBallotS (N : Nat) (a0 : (List QIIIE)) (a1 : (List QIIIE)) (kf : Bool → Option Ret) : Option Ret :=
  bif ((List.length a0 : Int) != (List.length a1 : Int)) then
    kf false
  else
    laws_eqBallotS_l4 N a0 a1 N (kf true) kf (0 : Int)
noncomputable def laws_eqLine (N : Nat) (a0 : QIIIIE) (a1 : QIIIIE) (kf : Bool → Option Ret) : Option Ret :=
  bif (a0.1 != a1.1) then
    kf false
  else
    bif (a0.2.1 != a1.2.1) then
      kf false
    else
      bif (a0.2.2.1 != a1.2.2.1) then
        kf false
      else
        bif (a0.2.2.2 != a1.2.2.2) then
          kf false
        else
          kf true
noncomputable def laws_eqLineS_l4 (N : Nat) (x0_1 : (List QIIIIE)) (x1_2 : (List QIIIIE)) : Nat → (Option Ret) → (Bool → Option Ret) → Int → Option Ret
  | 0, _, _, _ => none
  | n_4 + 1, k4_0_6, k4_1_7, x5_3 =>
    bif (decide (x5_3 < (List.length x0_1 : Int))) then
      bif (inB x5_3 (List.length x0_1)) then
        bif (inB x5_3 (List.length x1_2)) then
          laws_eqLine N (List.getD x0_1 (Int.toNat x5_3) zQIIIIE) (List.getD x1_2 (Int.toNat x5_3) zQIIIIE) (fun (r25_5 : Bool) =>
            bif (!r25_5) then
              k4_1_7 false
            else
              (laws_eqLineS_l4 N x0_1 x1_2 n_4 k4_0_6 k4_1_7) (IntKind.wrap .i64 (x5_3 + (1 : Int))))
        else none
      else none
    else
      k4_0_6
noncomputable def laws_eqLineS (N : Nat) (a0 : (List QIIIIE)) (a1 : (List QIIIIE)) (kf : Bool → Option Ret) : Option Ret :=
  bif ((List.length a0 : Int) != (List.length a1 : Int)) then
    kf false
  else
    laws_eqLineS_l4 N a0 a1 N (kf true) kf (0 : Int)
noncomputable def laws_eqClub (N : Nat) (a0 : QLQIIIIILIELQIILIELQIIELILQIIIELQIIIIEIE) (a1 : QLQIIIIILIELQIILIELQIIELILQIIIELQIIIIEIE) (kf : Bool → Option Ret) : Option Ret :=
  laws_eqTeamS N a0.1 a1.1 (fun (r9_1 : Bool) =>
    bif (!r9_1) then
      kf false
    else
      laws_eqJudgeS N a0.2.1 a1.2.1 (fun (r15_2 : Bool) =>
        bif (!r15_2) then
          kf false
        else
          laws_eqPairS N a0.2.2.1 a1.2.2.1 (fun (r21_3 : Bool) =>
            bif (!r21_3) then
              kf false
            else
              laws_eqIntS N a0.2.2.2.1 a1.2.2.2.1 (fun (r27_4 : Bool) =>
                bif (!r27_4) then
                  kf false
                else
                  laws_eqBallotS N a0.2.2.2.2.1 a1.2.2.2.2.1 (fun (r33_5 : Bool) =>
                    bif (!r33_5) then
                      kf false
                    else
                      laws_eqLineS N a0.2.2.2.2.2.1 a1.2.2.2.2.2.1 (fun (r39_6 : Bool) =>
                        bif (!r39_6) then
                          kf false
                        else
                          bif (a0.2.2.2.2.2.2 != a1.2.2.2.2.2.2) then
                            kf false
                          else
                            kf true))))))
noncomputable def laws_FnExactFormatClub (N : Nat) (a0 : QLQIIIIILIELQIILIELQIIELILQIIIELQIIIIEIE) (kf : Bool → Option Ret) : Option Ret :=
  laws_szClub N a0 (1048576 : Int) (fun (r9_1 : Int) =>
    bif (decide (r9_1 < (0 : Int))) then
      kf true
    else
      laws_toClub N a0 (fun (r13_2 : QLQIIIIILIELQIILIELQIIELILQIIIELQIIIIEIE) =>
        spec_FormatClub N r13_2 (fun (r14_3 : ByteArray) =>
          laws_toClub N a0 (fun (r16_4 : QLQIIIIILIELQIILIELQIIELILQIIIELQIIIIEIE) =>
            impl_FormatClub N r16_4 (fun (r18_5 : ByteArray) =>
              bif (!(ByteArray.toList r18_5 == ByteArray.toList r14_3)) then
                kf false
              else
                laws_toClub N a0 (fun (r24_6 : QLQIIIIILIELQIILIELQIIELILQIIIELQIIIIEIE) =>
                  laws_eqClub N r16_4 r24_6 (fun (r25_7 : Bool) =>
                    bif (!r25_7) then
                      kf false
                    else
                      kf true)))))))
end Go.Pv.R
