/- What the functions compute, as plain functions. -/
import Derived.Test.YtcpakhaogbempaaPv4
namespace Go.Pv.R
set_option linter.unusedVariables false
set_option linter.unusedSimpArgs false
abbrev tQIILIE : Ty := (.pair (.int .i64) (.pair (.int .i64) (.sl (.int .i64))))
abbrev QIILIE : Type := (Int × (Int × (List Int)))
def zQIILIE : QIILIE := ((0 : Int), ((0 : Int), ([] : (List Int))))
abbrev tQIIIIILIE : Ty := (.pair (.int .i64) (.pair (.int .i64) (.pair (.int .i64) (.pair (.int .i64) (.pair (.int .i64) (.sl (.int .i64)))))))
abbrev QIIIIILIE : Type := (Int × (Int × (Int × (Int × (Int × (List Int))))))
def zQIIIIILIE : QIIIIILIE := ((0 : Int), ((0 : Int), ((0 : Int), ((0 : Int), ((0 : Int), ([] : (List Int)))))))
abbrev tQIIE : Ty := (.pair (.int .i64) (.int .i64))
abbrev tQIIIE : Ty := (.pair (.int .i64) (.pair (.int .i64) (.int .i64)))
abbrev tQIIIIE : Ty := (.pair (.int .i64) (.pair (.int .i64) (.pair (.int .i64) (.int .i64))))
abbrev QIIIIE : Type := (Int × (Int × (Int × Int)))
def zQIIIIE : QIIIIE := ((0 : Int), ((0 : Int), ((0 : Int), (0 : Int))))
abbrev tQLQIIIIILIELQIILIELQIIELILQIIIELQIIIIEIE : Ty := (.pair (.sl tQIIIIILIE) (.pair (.sl tQIILIE) (.pair (.sl tQIIE) (.pair (.sl (.int .i64)) (.pair (.sl tQIIIE) (.pair (.sl tQIIIIE) (.int .i64)))))))
abbrev tQLIIIE : Ty := (.pair (.sl (.int .u8)) (.pair (.int .i64) (.int .i64)))
abbrev QLIIIE : Type := ((List Int) × (Int × Int))
abbrev tQILLIE : Ty := (.pair (.int .i64) (.sl (.sl (.int .i64))))
abbrev QILLIE : Type := (Int × (List (List Int)))
noncomputable def s_in : ByteArray := ⟨#[105, 110]⟩
noncomputable def s_out : ByteArray := ⟨#[111, 117, 116]⟩
noncomputable def s_open : ByteArray := ⟨#[111, 112, 101, 110]⟩
noncomputable def laws_big (N : Nat) (a0 : (List Int)) (kf : Bool → Option Ret) : Option Ret :=
  kf (decide ((List.length a0 : Int) > (1048576 : Int)))
noncomputable def impl_InRange (N : Nat) (a0 : Int) (a1 : Int) (a2 : Int) (kf : Bool → Option Ret) : Option Ret :=
  bif (decide (a1 ≤ a0)) then
    kf (decide (a0 ≤ a2))
  else
    kf false
noncomputable def impl_FindTeam_1 (N : Nat) (a0 : QIIIIILIE) (a1 : Int) (kf : Bool → Option Ret) : Option Ret :=
  kf (a0.1 == a1)
noncomputable def slices_IndexFunc_Team_impl_FindTeam_1_l2 (N : Nat) (x0_1 : (List QIIIIILIE)) (x1_2 : Int) (x7_3 : Int) : Nat → (Option Ret) → (Int → Option Ret) → Int → Option Ret
  | 0, _, _, _ => none
  | n_5 + 1, k2_0_7, k2_1_8, x8_4 =>
    bif (decide (x8_4 < x7_3)) then
      bif (inB x8_4 (List.length x0_1)) then
        impl_FindTeam_1 N (List.getD x0_1 (Int.toNat x8_4) zQIIIIILIE) x1_2 (fun (r16_6 : Bool) =>
          bif r16_6 then
            k2_1_8 x8_4
          else
            (slices_IndexFunc_Team_impl_FindTeam_1_l2 N x0_1 x1_2 x7_3 n_5 k2_0_7 k2_1_8) (IntKind.wrap .i64 (x8_4 + (1 : Int))))
      else none
    else
      k2_0_7
noncomputable def slices_IndexFunc_Team_impl_FindTeam_1 (N : Nat) (a0 : (List QIIIIILIE)) (a1_0 : Int) (kf : Int → Option Ret) : Option Ret :=
  slices_IndexFunc_Team_impl_FindTeam_1_l2 N a0 a1_0 (List.length a0 : Int) N (kf (-1 : Int)) kf (0 : Int)
noncomputable def impl_FindTeam (N : Nat) (a0 : (List QIIIIILIE)) (a1 : Int) (kf : Int → Option Ret) : Option Ret :=
  slices_IndexFunc_Team_impl_FindTeam_1 N a0 a1 kf
noncomputable def impl_times_l3 (x1_1 : Int) (x8_3 : (List Int)) (x9_4 : Int) : Nat → (Int → Option Ret) → Int → Int → Option Ret
  | 0, _, _, _ => none
  | n_6 + 1, k3_0_8, x5_2, x10_5 =>
    bif (decide (x10_5 < x9_4)) then
      bif (inB x10_5 (List.length x8_3)) then
        bif ((List.getD x8_3 (Int.toNat x10_5) (0 : Int)) == x1_1) then
          (impl_times_l3 x1_1 x8_3 x9_4 n_6 k3_0_8) (IntKind.wrap .i64 (x5_2 + (1 : Int))) (IntKind.wrap .i64 (x10_5 + (1 : Int)))
        else
          (impl_times_l3 x1_1 x8_3 x9_4 n_6 k3_0_8) x5_2 (IntKind.wrap .i64 (x10_5 + (1 : Int)))
      else none
    else
      k3_0_8 x5_2
noncomputable def impl_times (N : Nat) (a0 : (List Int)) (a1 : Int) (kf : Int → Option Ret) : Option Ret :=
  impl_times_l3 a1 a0 (List.length a0 : Int) N kf (0 : Int) (0 : Int)
noncomputable def impl_AreTeams_l10 (N : Nat) (x0_16 : (List QIIIIILIE)) (x4_17 : QIIIIILIE) (x12_18 : (List QIIIIILIE)) (x13_19 : Int) (x14_20 : Int) (x72_21 : (List Int)) (x73_22 : Int) : Nat → (Option Ret) → (Bool → Option Ret) → Int → Option Ret
  | 0, _, _, _ => none
  | n_24 + 1, k10_0_28, k10_1_29, x74_23 =>
    bif (decide (x74_23 < x73_22)) then
      bif (inB x74_23 (List.length x72_21)) then
        impl_FindTeam N x0_16 (List.getD x72_21 (Int.toNat x74_23) (0 : Int)) (fun (r80_25 : Int) =>
          bif (decide (r80_25 < (0 : Int))) then
            k10_1_29 false
          else
            bif ((List.getD x72_21 (Int.toNat x74_23) (0 : Int)) == x4_17.1) then
              k10_1_29 false
            else
              bif (inB r80_25 (List.length x0_16)) then
                impl_times N x4_17.2.2.2.2.2 (List.getD x72_21 (Int.toNat x74_23) (0 : Int)) (fun (r93_26 : Int) =>
                  impl_times N (List.getD x0_16 (Int.toNat r80_25) zQIIIIILIE).2.2.2.2.2 x4_17.1 (fun (r101_27 : Int) =>
                    bif (r93_26 != r101_27) then
                      k10_1_29 false
                    else
                      (impl_AreTeams_l10 N x0_16 x4_17 x12_18 x13_19 x14_20 x72_21 x73_22 n_24 k10_0_28 k10_1_29) (IntKind.wrap .i64 (x74_23 + (1 : Int)))))
              else none)
      else none
    else
      k10_0_28
noncomputable def impl_AreTeams_j1 (N : Nat) (k4_1_33 : Bool → Option Ret) (rc4_34 : Int → Option Ret) (x0_1 : (List QIIIIILIE)) (x12_2 : (List QIIIIILIE)) (x13_3 : Int) (x14_4 : Int) : Option Ret :=
  impl_AreTeams_l10 N x0_1 (List.getD x12_2 (Int.toNat x14_4) zQIIIIILIE) x12_2 x13_3 x14_4 (List.getD x12_2 (Int.toNat x14_4) zQIIIIILIE).2.2.2.2.2 (List.length (List.getD x12_2 (Int.toNat x14_4) zQIIIIILIE).2.2.2.2.2 : Int) N (rc4_34 (IntKind.wrap .i64 (x14_4 + (1 : Int)))) k4_1_33 (0 : Int)
noncomputable def impl_AreTeams_l4 (N : Nat) (x0_1 : (List QIIIIILIE)) (x12_2 : (List QIIIIILIE)) (x13_3 : Int) : Nat → (Option Ret) → (Bool → Option Ret) → Int → Option Ret
  | 0, _, _, _ => none
  | n_5 + 1, k4_0_32, k4_1_33, x14_4 =>
    bif (decide (x14_4 < x13_3)) then
      bif (inB x14_4 (List.length x12_2)) then
        impl_InRange N (List.getD x12_2 (Int.toNat x14_4) zQIIIIILIE).1 (1 : Int) (99 : Int) (fun (r24_6 : Bool) =>
          bif (!r24_6) then
            k4_1_33 false
          else
            bif (decide (x14_4 > (0 : Int))) then
              bif (inB (IntKind.wrap .i64 (x14_4 - (1 : Int))) (List.length x0_1)) then
                bif (decide ((List.getD x12_2 (Int.toNat x14_4) zQIIIIILIE).1 ≤ (List.getD x0_1 (Int.toNat (IntKind.wrap .i64 (x14_4 - (1 : Int)))) zQIIIIILIE).1)) then
                  k4_1_33 false
                else
                  impl_InRange N (List.getD x12_2 (Int.toNat x14_4) zQIIIIILIE).2.1 (1 : Int) (99 : Int) (fun (r44_7 : Bool) =>
                    bif (!r44_7) then
                      k4_1_33 false
                    else
                      bif (decide ((List.length (List.getD x12_2 (Int.toNat x14_4) zQIIIIILIE).2.2.2.2.2 : Int) > (20 : Int))) then
                        k4_1_33 false
                      else
                        impl_InRange N (List.getD x12_2 (Int.toNat x14_4) zQIIIIILIE).2.2.1 (0 : Int) (List.length (List.getD x12_2 (Int.toNat x14_4) zQIIIIILIE).2.2.2.2.2 : Int) (fun (r55_8 : Bool) =>
                          bif (!r55_8) then
                            k4_1_33 false
                          else
                            impl_InRange N (List.getD x12_2 (Int.toNat x14_4) zQIIIIILIE).2.2.2.2.1 (0 : Int) (List.length (List.getD x12_2 (Int.toNat x14_4) zQIIIIILIE).2.2.2.2.2 : Int) (fun (r62_9 : Bool) =>
                              bif (!r62_9) then
                                k4_1_33 false
                              else
                                impl_InRange N (List.getD x12_2 (Int.toNat x14_4) zQIIIIILIE).2.2.2.1 (0 : Int) (100000 : Int) (fun (r68_10 : Bool) =>
                                  bif (!r68_10) then
                                    k4_1_33 false
                                  else
                                    impl_AreTeams_j1 N k4_1_33 (impl_AreTeams_l4 N x0_1 x12_2 x13_3 n_5 k4_0_32 k4_1_33) x0_1 x12_2 x13_3 x14_4))))
              else none
            else
              impl_InRange N (List.getD x12_2 (Int.toNat x14_4) zQIIIIILIE).2.1 (1 : Int) (99 : Int) (fun (r44_11 : Bool) =>
                bif (!r44_11) then
                  k4_1_33 false
                else
                  bif (decide ((List.length (List.getD x12_2 (Int.toNat x14_4) zQIIIIILIE).2.2.2.2.2 : Int) > (20 : Int))) then
                    k4_1_33 false
                  else
                    impl_InRange N (List.getD x12_2 (Int.toNat x14_4) zQIIIIILIE).2.2.1 (0 : Int) (List.length (List.getD x12_2 (Int.toNat x14_4) zQIIIIILIE).2.2.2.2.2 : Int) (fun (r55_12 : Bool) =>
                      bif (!r55_12) then
                        k4_1_33 false
                      else
                        impl_InRange N (List.getD x12_2 (Int.toNat x14_4) zQIIIIILIE).2.2.2.2.1 (0 : Int) (List.length (List.getD x12_2 (Int.toNat x14_4) zQIIIIILIE).2.2.2.2.2 : Int) (fun (r62_13 : Bool) =>
                          bif (!r62_13) then
                            k4_1_33 false
                          else
                            impl_InRange N (List.getD x12_2 (Int.toNat x14_4) zQIIIIILIE).2.2.2.1 (0 : Int) (100000 : Int) (fun (r68_14 : Bool) =>
                              bif (!r68_14) then
                                k4_1_33 false
                              else
                                impl_AreTeams_j1 N k4_1_33 (impl_AreTeams_l4 N x0_1 x12_2 x13_3 n_5 k4_0_32 k4_1_33) x0_1 x12_2 x13_3 x14_4)))))
      else none
    else
      k4_0_32
noncomputable def impl_AreTeams (N : Nat) (a0 : (List QIIIIILIE)) (kf : Bool → Option Ret) : Option Ret :=
  bif (decide ((List.length a0 : Int) > (10 : Int))) then
    kf false
  else
    impl_AreTeams_l4 N a0 a0 (List.length a0 : Int) N (kf true) kf (0 : Int)
noncomputable def slices_Index_int_l2 (x0_1 : (List Int)) (x1_2 : Int) (x7_3 : Int) : Nat → (Option Ret) → (Int → Option Ret) → Int → Option Ret
  | 0, _, _, _ => none
  | n_5 + 1, k2_0_6, k2_1_7, x8_4 =>
    bif (decide (x8_4 < x7_3)) then
      bif (inB x8_4 (List.length x0_1)) then
        bif (x1_2 == (List.getD x0_1 (Int.toNat x8_4) (0 : Int))) then
          k2_1_7 x8_4
        else
          (slices_Index_int_l2 x0_1 x1_2 x7_3 n_5 k2_0_6 k2_1_7) (IntKind.wrap .i64 (x8_4 + (1 : Int)))
      else none
    else
      k2_0_6
noncomputable def slices_Index_int (N : Nat) (a0 : (List Int)) (a1 : Int) (kf : Int → Option Ret) : Option Ret :=
  slices_Index_int_l2 a0 a1 (List.length a0 : Int) N (kf (-1 : Int)) kf (0 : Int)
noncomputable def slices_Contains_int (N : Nat) (a0 : (List Int)) (a1 : Int) (kf : Bool → Option Ret) : Option Ret :=
  slices_Index_int N a0 a1 (fun (r7_1 : Int) =>
    kf (decide (r7_1 ≥ (0 : Int))))
noncomputable def impl_TotalWins_l5 (x10_3 : (List QIIIIILIE)) (x11_4 : Int) : Nat → (Int → Option Ret) → Int → Int → Option Ret
  | 0, _, _, _ => none
  | n_6 + 1, k5_0_7, x3_2, x12_5 =>
    bif (decide (x12_5 < x11_4)) then
      bif (inB x12_5 (List.length x10_3)) then
        (impl_TotalWins_l5 x10_3 x11_4 n_6 k5_0_7) (IntKind.wrap .i64 (x3_2 + (List.getD x10_3 (Int.toNat x12_5) zQIIIIILIE).2.2.1)) (IntKind.wrap .i64 (x12_5 + (1 : Int)))
      else none
    else
      k5_0_7 x3_2
noncomputable def impl_TotalWins (N : Nat) (a0 : (List QIIIIILIE)) (kf : Int → Option Ret) : Option Ret :=
  impl_AreTeams N a0 (fun (r7_1 : Bool) =>
    bif (!r7_1) then
      kf (0 : Int)
    else
      impl_TotalWins_l5 a0 (List.length a0 : Int) N kf (0 : Int) (0 : Int))
noncomputable def spec_l1New_l3 (x0_1 : (List Int)) : Nat → (Int → Option Ret) → Int → Int → Option Ret
  | 0, _, _, _ => none
  | n_4 + 1, k3_0_5, x3_2, x4_3 =>
    bif (decide (x4_3 < (List.length x0_1 : Int))) then
      bif (decide (x4_3 < (4000 : Int))) then
        bif (inB x4_3 (List.length x0_1)) then
          (spec_l1New_l3 x0_1 n_4 k3_0_5) (IntKind.wrap .i64 (BitVec.toNat (BitVec.ofInt (IntKind.bits .i64) (IntKind.wrap .i64 ((IntKind.wrap .i64 ((IntKind.wrap .i64 (x3_2 * (137 : Int))) + (IntKind.wrap .i64 (List.getD x0_1 (Int.toNat x4_3) (0 : Int))))) + (11 : Int))) &&& BitVec.ofInt (IntKind.bits .i64) (1073741823 : Int)))) (IntKind.wrap .i64 (x4_3 + (1 : Int)))
        else none
      else
        k3_0_5 x3_2
    else
      k3_0_5 x3_2
noncomputable def spec_l1New (N : Nat) (a0 : (List Int)) (kf : QLIIIE → Option Ret) : Option Ret :=
  spec_l1New_l3 a0 N (fun (z3_7 : Int) =>
    kf (a0, ((0 : Int), z3_7))) (IntKind.wrap .i64 ((193017 : Int) + (List.length a0 : Int))) (0 : Int)
noncomputable def spec_l1Byte (N : Nat) (a0 : QLIIIE) (kf : Int → QLIIIE → Option Ret) : Option Ret :=
  share (IntKind.wrap .i64 ((IntKind.wrap .i64 (a0.2.2 * (6364136223846793005 : Int))) + (1442695040888963407 : Int))) (fun (w0_1 : Int) =>
    bif (decide (0 ≤ (33 : Int))) then
      bif (decide (0 ≤ (47 : Int))) then
        bif (decide (a0.2.1 < (List.length a0.1 : Int))) then
          bif (inB a0.2.1 (List.length a0.1)) then
            kf (IntKind.wrap .i64 (BitVec.toNat (BitVec.ofInt (IntKind.bits .i64) (IntKind.wrap .i64 ((IntKind.wrap .i64 (BitVec.toNat (BitVec.ofInt (IntKind.bits .i64) (IntKind.wrap .i64 (BitVec.toNat (BitVec.ofInt (IntKind.bits .i64) (Int.fdiv w0_1 (2 ^ (min (Int.toNat (33 : Int)) (IntKind.bits .i64)))) ^^^ BitVec.ofInt (IntKind.bits .i64) (Int.fdiv w0_1 (2 ^ (min (Int.toNat (47 : Int)) (IntKind.bits .i64))))))) &&& BitVec.ofInt (IntKind.bits .i64) (255 : Int)))) + (IntKind.wrap .i64 (List.getD a0.1 (Int.toNat a0.2.1) (0 : Int))))) &&& BitVec.ofInt (IntKind.bits .i64) (255 : Int)))) (a0.1, ((IntKind.wrap .i64 (a0.2.1 + (1 : Int))), w0_1))
          else none
        else
          kf (IntKind.wrap .i64 (BitVec.toNat (BitVec.ofInt (IntKind.bits .i64) (IntKind.wrap .i64 (BitVec.toNat (BitVec.ofInt (IntKind.bits .i64) (Int.fdiv w0_1 (2 ^ (min (Int.toNat (33 : Int)) (IntKind.bits .i64)))) ^^^ BitVec.ofInt (IntKind.bits .i64) (Int.fdiv w0_1 (2 ^ (min (Int.toNat (47 : Int)) (IntKind.bits .i64))))))) &&& BitVec.ofInt (IntKind.bits .i64) (255 : Int)))) (a0.1, (a0.2.1, w0_1))
      else none
    else none)
noncomputable def spec_l1Below (N : Nat) (a0 : QLIIIE) (a1 : Int) (kf : Int → QLIIIE → Option Ret) : Option Ret :=
  bif (decide (a1 ≤ (0 : Int))) then
    kf (0 : Int) a0
  else
    bif (decide (a1 ≤ (256 : Int))) then
      spec_l1Byte N a0 (fun (r13_1 : Int) (z0_2 : QLIIIE) =>
        bif (!decide (a1 = 0)) then
          kf (Int.tmod r13_1 a1) z0_2
        else none)
    else
      spec_l1Byte N a0 (fun (r17_3 : Int) (z0_4 : QLIIIE) =>
        spec_l1Byte N z0_4 (fun (r19_5 : Int) (z0_6 : QLIIIE) =>
          spec_l1Byte N z0_6 (fun (r21_7 : Int) (z0_8 : QLIIIE) =>
            bif (!decide (a1 = 0)) then
              kf (Int.tmod (IntKind.wrap .i64 ((IntKind.wrap .i64 ((IntKind.wrap .i64 (r17_3 * (65536 : Int))) + (IntKind.wrap .i64 (r19_5 * (256 : Int))))) + r21_7)) a1) z0_8
            else none)))
noncomputable def spec_l19Copy_l3 (x0_1 : (List QIIIIILIE)) : Nat → ((List QIIIIILIE) → Option Ret) → (List QIIIIILIE) → Int → Option Ret
  | 0, _, _, _ => none
  | n_4 + 1, k3_0_5, x3_2, x4_3 =>
    bif (decide (x4_3 < (List.length x0_1 : Int))) then
      bif (inB x4_3 (List.length x0_1)) then
        bif (decide ((List.length ([] : (List Int)) + List.length (List.getD x0_1 (Int.toNat x4_3) zQIIIIILIE).2.2.2.2.2) * 1 ≤ 4398046511104)) then
          bif (decide ((List.length x3_2 + List.length [((List.getD x0_1 (Int.toNat x4_3) zQIIIIILIE).1, ((List.getD x0_1 (Int.toNat x4_3) zQIIIIILIE).2.1, ((List.getD x0_1 (Int.toNat x4_3) zQIIIIILIE).2.2.1, ((List.getD x0_1 (Int.toNat x4_3) zQIIIIILIE).2.2.2.1, ((List.getD x0_1 (Int.toNat x4_3) zQIIIIILIE).2.2.2.2.1, (([] : (List Int)) ++ (List.getD x0_1 (Int.toNat x4_3) zQIIIIILIE).2.2.2.2.2))))))]) * 6 ≤ 4398046511104)) then
            (spec_l19Copy_l3 x0_1 n_4 k3_0_5) (x3_2 ++ [((List.getD x0_1 (Int.toNat x4_3) zQIIIIILIE).1, ((List.getD x0_1 (Int.toNat x4_3) zQIIIIILIE).2.1, ((List.getD x0_1 (Int.toNat x4_3) zQIIIIILIE).2.2.1, ((List.getD x0_1 (Int.toNat x4_3) zQIIIIILIE).2.2.2.1, ((List.getD x0_1 (Int.toNat x4_3) zQIIIIILIE).2.2.2.2.1, (([] : (List Int)) ++ (List.getD x0_1 (Int.toNat x4_3) zQIIIIILIE).2.2.2.2.2))))))]) (IntKind.wrap .i64 (x4_3 + (1 : Int)))
          else none
        else none
      else none
    else
      k3_0_5 x3_2
noncomputable def spec_l19Copy (N : Nat) (a0 : (List QIIIIILIE)) (kf : (List QIIIIILIE) → Option Ret) : Option Ret :=
  spec_l19Copy_l3 a0 N kf ([] : (List QIIIIILIE)) (0 : Int)
noncomputable def spec_FindTeam_l2 (x0_1 : (List QIIIIILIE)) (x1_2 : Int) : Nat → (Option Ret) → (Int → Option Ret) → Int → Option Ret
  | 0, _, _, _ => none
  | n_4 + 1, k2_0_5, k2_1_6, x5_3 =>
    bif (decide (x5_3 < (List.length x0_1 : Int))) then
      bif (inB x5_3 (List.length x0_1)) then
        bif ((List.getD x0_1 (Int.toNat x5_3) zQIIIIILIE).1 == x1_2) then
          k2_1_6 x5_3
        else
          (spec_FindTeam_l2 x0_1 x1_2 n_4 k2_0_5 k2_1_6) (IntKind.wrap .i64 (x5_3 + (1 : Int)))
      else none
    else
      k2_0_5
noncomputable def spec_FindTeam (N : Nat) (a0 : (List QIIIIILIE)) (a1 : Int) (kf : Int → Option Ret) : Option Ret :=
  spec_FindTeam_l2 a0 a1 N (kf (-1 : Int)) kf (0 : Int)
noncomputable def spec_l1In (N : Nat) (a0 : Int) (a1 : Int) (a2 : Int) (kf : Bool → Option Ret) : Option Ret :=
  bif (decide (a0 ≥ a1)) then
    kf (decide (a0 ≤ a2))
  else
    kf false
noncomputable def spec_l19Count_l3 (x0_1 : (List Int)) (x1_2 : Int) : Nat → (Int → Option Ret) → Int → Int → Option Ret
  | 0, _, _, _ => none
  | n_5 + 1, k3_0_7, x5_3, x6_4 =>
    bif (decide (x6_4 < (List.length x0_1 : Int))) then
      bif (inB x6_4 (List.length x0_1)) then
        bif ((List.getD x0_1 (Int.toNat x6_4) (0 : Int)) == x1_2) then
          (spec_l19Count_l3 x0_1 x1_2 n_5 k3_0_7) (IntKind.wrap .i64 (x5_3 + (1 : Int))) (IntKind.wrap .i64 (x6_4 + (1 : Int)))
        else
          (spec_l19Count_l3 x0_1 x1_2 n_5 k3_0_7) x5_3 (IntKind.wrap .i64 (x6_4 + (1 : Int)))
      else none
    else
      k3_0_7 x5_3
noncomputable def spec_l19Count (N : Nat) (a0 : (List Int)) (a1 : Int) (kf : Int → Option Ret) : Option Ret :=
  spec_l19Count_l3 a0 a1 N kf (0 : Int) (0 : Int)
noncomputable def spec_AreTeams_l8 (N : Nat) (x0_9 : (List QIIIIILIE)) (x3_10 : Int) (x4_11 : QIIIIILIE) : Nat → (Option Ret) → (Bool → Option Ret) → Int → Option Ret
  | 0, _, _, _ => none
  | n_13 + 1, k8_0_17, k8_1_18, x5_12 =>
    bif (decide (x5_12 < (List.length x4_11.2.2.2.2.2 : Int))) then
      bif (inB x5_12 (List.length x4_11.2.2.2.2.2)) then
        spec_FindTeam N x0_9 (List.getD x4_11.2.2.2.2.2 (Int.toNat x5_12) (0 : Int)) (fun (r85_14 : Int) =>
          bif (decide (r85_14 < (0 : Int))) then
            k8_1_18 false
          else
            bif (r85_14 == x3_10) then
              k8_1_18 false
            else
              bif (inB r85_14 (List.length x0_9)) then
                bif (inB r85_14 (List.length x0_9)) then
                  spec_l19Count N (List.getD x0_9 (Int.toNat r85_14) zQIIIIILIE).2.2.2.2.2 x4_11.1 (fun (r101_15 : Int) =>
                    spec_l19Count N x4_11.2.2.2.2.2 (List.getD x0_9 (Int.toNat r85_14) zQIIIIILIE).1 (fun (r109_16 : Int) =>
                      bif (r101_15 != r109_16) then
                        k8_1_18 false
                      else
                        (spec_AreTeams_l8 N x0_9 x3_10 x4_11 n_13 k8_0_17 k8_1_18) (IntKind.wrap .i64 (x5_12 + (1 : Int)))))
                else none
              else none)
      else none
    else
      k8_0_17
noncomputable def spec_AreTeams_l2 (N : Nat) (x0_1 : (List QIIIIILIE)) : Nat → (Option Ret) → (Bool → Option Ret) → Int → Option Ret
  | 0, _, _, _ => none
  | n_3 + 1, k2_0_21, k2_1_22, x3_2 =>
    bif (decide (x3_2 < (List.length x0_1 : Int))) then
      bif (inB x3_2 (List.length x0_1)) then
        spec_l1In N (List.getD x0_1 (Int.toNat x3_2) zQIIIIILIE).1 (1 : Int) (99 : Int) (fun (r19_4 : Bool) =>
          bif (!r19_4) then
            k2_1_22 false
          else
            spec_l1In N (List.getD x0_1 (Int.toNat x3_2) zQIIIIILIE).2.1 (1 : Int) (99 : Int) (fun (r24_5 : Bool) =>
              bif (!r24_5) then
                k2_1_22 false
              else
                spec_l1In N (List.getD x0_1 (Int.toNat x3_2) zQIIIIILIE).2.2.1 (0 : Int) (List.length (List.getD x0_1 (Int.toNat x3_2) zQIIIIILIE).2.2.2.2.2 : Int) (fun (r33_6 : Bool) =>
                  bif (!r33_6) then
                    k2_1_22 false
                  else
                    spec_l1In N (List.getD x0_1 (Int.toNat x3_2) zQIIIIILIE).2.2.2.2.1 (0 : Int) (List.length (List.getD x0_1 (Int.toNat x3_2) zQIIIIILIE).2.2.2.2.2 : Int) (fun (r42_7 : Bool) =>
                      bif (!r42_7) then
                        k2_1_22 false
                      else
                        spec_l1In N (List.getD x0_1 (Int.toNat x3_2) zQIIIIILIE).2.2.2.1 (0 : Int) (100000 : Int) (fun (r48_8 : Bool) =>
                          bif (!r48_8) then
                            k2_1_22 false
                          else
                            bif (decide ((List.length (List.getD x0_1 (Int.toNat x3_2) zQIIIIILIE).2.2.2.2.2 : Int) > (20 : Int))) then
                              k2_1_22 false
                            else
                              bif (decide (x3_2 > (0 : Int))) then
                                bif (inB (IntKind.wrap .i64 (x3_2 - (1 : Int))) (List.length x0_1)) then
                                  bif (decide ((List.getD x0_1 (Int.toNat (IntKind.wrap .i64 (x3_2 - (1 : Int)))) zQIIIIILIE).1 ≥ (List.getD x0_1 (Int.toNat x3_2) zQIIIIILIE).1)) then
                                    k2_1_22 false
                                  else
                                    spec_AreTeams_l8 N x0_1 x3_2 (List.getD x0_1 (Int.toNat x3_2) zQIIIIILIE) N ((spec_AreTeams_l2 N x0_1 n_3 k2_0_21 k2_1_22) (IntKind.wrap .i64 (x3_2 + (1 : Int)))) k2_1_22 (0 : Int)
                                else none
                              else
                                spec_AreTeams_l8 N x0_1 x3_2 (List.getD x0_1 (Int.toNat x3_2) zQIIIIILIE) N ((spec_AreTeams_l2 N x0_1 n_3 k2_0_21 k2_1_22) (IntKind.wrap .i64 (x3_2 + (1 : Int)))) k2_1_22 (0 : Int))))))
      else none
    else
      k2_0_21
noncomputable def spec_AreTeams (N : Nat) (a0 : (List QIIIIILIE)) (kf : Bool → Option Ret) : Option Ret :=
  spec_AreTeams_l2 N a0 N (kf (decide ((List.length a0 : Int) ≤ (10 : Int)))) kf (0 : Int)
noncomputable def spec_AddResult_j1 (N : Nat) (a0 : (List QIIIIILIE)) (kf : (List QIIIIILIE) → Bool → Option Ret) (y14_12 : (List QIIIIILIE)) : Option Ret :=
  spec_AreTeams N y14_12 (fun (r136_13 : Bool) =>
    bif (!r136_13) then
      spec_l19Copy N a0 (fun (r139_14 : (List QIIIIILIE)) =>
        kf r139_14 false)
    else
      kf y14_12 true)
noncomputable def spec_AddResult (N : Nat) (a0 : (List QIIIIILIE)) (a1 : Int) (a2 : Int) (a3 : Int) (a4 : Int) (a5 : Int) (kf : (List QIIIIILIE) → Bool → Option Ret) : Option Ret :=
  spec_l19Copy N a0 (fun (r18_1 : (List QIIIIILIE)) =>
    spec_FindTeam N a0 a1 (fun (r21_2 : Int) =>
      spec_FindTeam N a0 a2 (fun (r24_3 : Int) =>
        spec_AreTeams N a0 (fun (r26_4 : Bool) =>
          bif (!r26_4) then
            kf r18_1 false
          else
            bif (decide (r21_2 < (0 : Int))) then
              kf r18_1 false
            else
              bif (decide (r24_3 < (0 : Int))) then
                kf r18_1 false
              else
                bif (r21_2 == r24_3) then
                  kf r18_1 false
                else
                  spec_l1In N a3 (1 : Int) (2 : Int) (fun (r43_5 : Bool) =>
                    bif (!r43_5) then
                      kf r18_1 false
                    else
                      spec_l1In N a4 (0 : Int) (1000 : Int) (fun (r48_6 : Bool) =>
                        bif (!r48_6) then
                          kf r18_1 false
                        else
                          spec_l1In N a5 (0 : Int) (1000 : Int) (fun (r53_7 : Bool) =>
                            bif (!r53_7) then
                              kf r18_1 false
                            else
                              bif (inB r21_2 (List.length r18_1)) then
                                bif (decide ((List.length (List.getD r18_1 (Int.toNat r21_2) zQIIIIILIE).2.2.2.2.2 + List.length [a2]) * 1 ≤ 4398046511104)) then
                                  bif (inB r21_2 (List.length r18_1)) then
                                    bif (Nat.beq (Int.toNat r21_2) (Int.toNat r21_2)) then
                                      bif (inB r24_3 (List.length (List.set r18_1 (Int.toNat r21_2) ((List.getD r18_1 (Int.toNat r21_2) zQIIIIILIE).1, ((List.getD r18_1 (Int.toNat r21_2) zQIIIIILIE).2.1, ((List.getD r18_1 (Int.toNat r21_2) zQIIIIILIE).2.2.1, ((List.getD r18_1 (Int.toNat r21_2) zQIIIIILIE).2.2.2.1, ((List.getD r18_1 (Int.toNat r21_2) zQIIIIILIE).2.2.2.2.1, ((List.getD r18_1 (Int.toNat r21_2) zQIIIIILIE).2.2.2.2.2 ++ [a2]))))))))) then
                                        bif (decide ((List.length (List.getD (List.set r18_1 (Int.toNat r21_2) ((List.getD r18_1 (Int.toNat r21_2) zQIIIIILIE).1, ((List.getD r18_1 (Int.toNat r21_2) zQIIIIILIE).2.1, ((List.getD r18_1 (Int.toNat r21_2) zQIIIIILIE).2.2.1, ((List.getD r18_1 (Int.toNat r21_2) zQIIIIILIE).2.2.2.1, ((List.getD r18_1 (Int.toNat r21_2) zQIIIIILIE).2.2.2.2.1, ((List.getD r18_1 (Int.toNat r21_2) zQIIIIILIE).2.2.2.2.2 ++ [a2]))))))) (Int.toNat r24_3) zQIIIIILIE).2.2.2.2.2 + List.length [a1]) * 1 ≤ 4398046511104)) then
                                          bif (inB r24_3 (List.length (List.set r18_1 (Int.toNat r21_2) ((List.getD r18_1 (Int.toNat r21_2) zQIIIIILIE).1, ((List.getD r18_1 (Int.toNat r21_2) zQIIIIILIE).2.1, ((List.getD r18_1 (Int.toNat r21_2) zQIIIIILIE).2.2.1, ((List.getD r18_1 (Int.toNat r21_2) zQIIIIILIE).2.2.2.1, ((List.getD r18_1 (Int.toNat r21_2) zQIIIIILIE).2.2.2.2.1, ((List.getD r18_1 (Int.toNat r21_2) zQIIIIILIE).2.2.2.2.2 ++ [a2]))))))))) then
                                            bif (Nat.beq (Int.toNat r24_3) (Int.toNat r24_3)) then
                                              share (List.set (List.set r18_1 (Int.toNat r21_2) ((List.getD r18_1 (Int.toNat r21_2) zQIIIIILIE).1, ((List.getD r18_1 (Int.toNat r21_2) zQIIIIILIE).2.1, ((List.getD r18_1 (Int.toNat r21_2) zQIIIIILIE).2.2.1, ((List.getD r18_1 (Int.toNat r21_2) zQIIIIILIE).2.2.2.1, ((List.getD r18_1 (Int.toNat r21_2) zQIIIIILIE).2.2.2.2.1, ((List.getD r18_1 (Int.toNat r21_2) zQIIIIILIE).2.2.2.2.2 ++ [a2]))))))) (Int.toNat r24_3) ((List.getD (List.set r18_1 (Int.toNat r21_2) ((List.getD r18_1 (Int.toNat r21_2) zQIIIIILIE).1, ((List.getD r18_1 (Int.toNat r21_2) zQIIIIILIE).2.1, ((List.getD r18_1 (Int.toNat r21_2) zQIIIIILIE).2.2.1, ((List.getD r18_1 (Int.toNat r21_2) zQIIIIILIE).2.2.2.1, ((List.getD r18_1 (Int.toNat r21_2) zQIIIIILIE).2.2.2.2.1, ((List.getD r18_1 (Int.toNat r21_2) zQIIIIILIE).2.2.2.2.2 ++ [a2]))))))) (Int.toNat r24_3) zQIIIIILIE).1, ((List.getD (List.set r18_1 (Int.toNat r21_2) ((List.getD r18_1 (Int.toNat r21_2) zQIIIIILIE).1, ((List.getD r18_1 (Int.toNat r21_2) zQIIIIILIE).2.1, ((List.getD r18_1 (Int.toNat r21_2) zQIIIIILIE).2.2.1, ((List.getD r18_1 (Int.toNat r21_2) zQIIIIILIE).2.2.2.1, ((List.getD r18_1 (Int.toNat r21_2) zQIIIIILIE).2.2.2.2.1, ((List.getD r18_1 (Int.toNat r21_2) zQIIIIILIE).2.2.2.2.2 ++ [a2]))))))) (Int.toNat r24_3) zQIIIIILIE).2.1, ((List.getD (List.set r18_1 (Int.toNat r21_2) ((List.getD r18_1 (Int.toNat r21_2) zQIIIIILIE).1, ((List.getD r18_1 (Int.toNat r21_2) zQIIIIILIE).2.1, ((List.getD r18_1 (Int.toNat r21_2) zQIIIIILIE).2.2.1, ((List.getD r18_1 (Int.toNat r21_2) zQIIIIILIE).2.2.2.1, ((List.getD r18_1 (Int.toNat r21_2) zQIIIIILIE).2.2.2.2.1, ((List.getD r18_1 (Int.toNat r21_2) zQIIIIILIE).2.2.2.2.2 ++ [a2]))))))) (Int.toNat r24_3) zQIIIIILIE).2.2.1, ((List.getD (List.set r18_1 (Int.toNat r21_2) ((List.getD r18_1 (Int.toNat r21_2) zQIIIIILIE).1, ((List.getD r18_1 (Int.toNat r21_2) zQIIIIILIE).2.1, ((List.getD r18_1 (Int.toNat r21_2) zQIIIIILIE).2.2.1, ((List.getD r18_1 (Int.toNat r21_2) zQIIIIILIE).2.2.2.1, ((List.getD r18_1 (Int.toNat r21_2) zQIIIIILIE).2.2.2.2.1, ((List.getD r18_1 (Int.toNat r21_2) zQIIIIILIE).2.2.2.2.2 ++ [a2]))))))) (Int.toNat r24_3) zQIIIIILIE).2.2.2.1, ((List.getD (List.set r18_1 (Int.toNat r21_2) ((List.getD r18_1 (Int.toNat r21_2) zQIIIIILIE).1, ((List.getD r18_1 (Int.toNat r21_2) zQIIIIILIE).2.1, ((List.getD r18_1 (Int.toNat r21_2) zQIIIIILIE).2.2.1, ((List.getD r18_1 (Int.toNat r21_2) zQIIIIILIE).2.2.2.1, ((List.getD r18_1 (Int.toNat r21_2) zQIIIIILIE).2.2.2.2.1, ((List.getD r18_1 (Int.toNat r21_2) zQIIIIILIE).2.2.2.2.2 ++ [a2]))))))) (Int.toNat r24_3) zQIIIIILIE).2.2.2.2.1, ((List.getD (List.set r18_1 (Int.toNat r21_2) ((List.getD r18_1 (Int.toNat r21_2) zQIIIIILIE).1, ((List.getD r18_1 (Int.toNat r21_2) zQIIIIILIE).2.1, ((List.getD r18_1 (Int.toNat r21_2) zQIIIIILIE).2.2.1, ((List.getD r18_1 (Int.toNat r21_2) zQIIIIILIE).2.2.2.1, ((List.getD r18_1 (Int.toNat r21_2) zQIIIIILIE).2.2.2.2.1, ((List.getD r18_1 (Int.toNat r21_2) zQIIIIILIE).2.2.2.2.2 ++ [a2]))))))) (Int.toNat r24_3) zQIIIIILIE).2.2.2.2.2 ++ [a1]))))))) (fun (w14_8 : (List QIIIIILIE)) =>
                                                bif (inB r21_2 (List.length w14_8)) then
                                                  bif (inB r21_2 (List.length w14_8)) then
                                                    bif (inB r21_2 (List.length (List.set w14_8 (Int.toNat r21_2) ((List.getD w14_8 (Int.toNat r21_2) zQIIIIILIE).1, ((List.getD w14_8 (Int.toNat r21_2) zQIIIIILIE).2.1, ((List.getD w14_8 (Int.toNat r21_2) zQIIIIILIE).2.2.1, ((List.getD w14_8 (Int.toNat r21_2) zQIIIIILIE).2.2.2.1, ((IntKind.wrap .i64 ((List.getD w14_8 (Int.toNat r21_2) zQIIIIILIE).2.2.2.2.1 + (1 : Int))), (List.getD w14_8 (Int.toNat r21_2) zQIIIIILIE).2.2.2.2.2)))))))) then
                                                      bif (inB r21_2 (List.length (List.set w14_8 (Int.toNat r21_2) ((List.getD w14_8 (Int.toNat r21_2) zQIIIIILIE).1, ((List.getD w14_8 (Int.toNat r21_2) zQIIIIILIE).2.1, ((List.getD w14_8 (Int.toNat r21_2) zQIIIIILIE).2.2.1, ((List.getD w14_8 (Int.toNat r21_2) zQIIIIILIE).2.2.2.1, ((IntKind.wrap .i64 ((List.getD w14_8 (Int.toNat r21_2) zQIIIIILIE).2.2.2.2.1 + (1 : Int))), (List.getD w14_8 (Int.toNat r21_2) zQIIIIILIE).2.2.2.2.2)))))))) then
                                                        share (List.set (List.set w14_8 (Int.toNat r21_2) ((List.getD w14_8 (Int.toNat r21_2) zQIIIIILIE).1, ((List.getD w14_8 (Int.toNat r21_2) zQIIIIILIE).2.1, ((List.getD w14_8 (Int.toNat r21_2) zQIIIIILIE).2.2.1, ((List.getD w14_8 (Int.toNat r21_2) zQIIIIILIE).2.2.2.1, ((IntKind.wrap .i64 ((List.getD w14_8 (Int.toNat r21_2) zQIIIIILIE).2.2.2.2.1 + (1 : Int))), (List.getD w14_8 (Int.toNat r21_2) zQIIIIILIE).2.2.2.2.2)))))) (Int.toNat r21_2) ((List.getD (List.set w14_8 (Int.toNat r21_2) ((List.getD w14_8 (Int.toNat r21_2) zQIIIIILIE).1, ((List.getD w14_8 (Int.toNat r21_2) zQIIIIILIE).2.1, ((List.getD w14_8 (Int.toNat r21_2) zQIIIIILIE).2.2.1, ((List.getD w14_8 (Int.toNat r21_2) zQIIIIILIE).2.2.2.1, ((IntKind.wrap .i64 ((List.getD w14_8 (Int.toNat r21_2) zQIIIIILIE).2.2.2.2.1 + (1 : Int))), (List.getD w14_8 (Int.toNat r21_2) zQIIIIILIE).2.2.2.2.2)))))) (Int.toNat r21_2) zQIIIIILIE).1, ((List.getD (List.set w14_8 (Int.toNat r21_2) ((List.getD w14_8 (Int.toNat r21_2) zQIIIIILIE).1, ((List.getD w14_8 (Int.toNat r21_2) zQIIIIILIE).2.1, ((List.getD w14_8 (Int.toNat r21_2) zQIIIIILIE).2.2.1, ((List.getD w14_8 (Int.toNat r21_2) zQIIIIILIE).2.2.2.1, ((IntKind.wrap .i64 ((List.getD w14_8 (Int.toNat r21_2) zQIIIIILIE).2.2.2.2.1 + (1 : Int))), (List.getD w14_8 (Int.toNat r21_2) zQIIIIILIE).2.2.2.2.2)))))) (Int.toNat r21_2) zQIIIIILIE).2.1, ((List.getD (List.set w14_8 (Int.toNat r21_2) ((List.getD w14_8 (Int.toNat r21_2) zQIIIIILIE).1, ((List.getD w14_8 (Int.toNat r21_2) zQIIIIILIE).2.1, ((List.getD w14_8 (Int.toNat r21_2) zQIIIIILIE).2.2.1, ((List.getD w14_8 (Int.toNat r21_2) zQIIIIILIE).2.2.2.1, ((IntKind.wrap .i64 ((List.getD w14_8 (Int.toNat r21_2) zQIIIIILIE).2.2.2.2.1 + (1 : Int))), (List.getD w14_8 (Int.toNat r21_2) zQIIIIILIE).2.2.2.2.2)))))) (Int.toNat r21_2) zQIIIIILIE).2.2.1, ((IntKind.wrap .i64 ((List.getD (List.set w14_8 (Int.toNat r21_2) ((List.getD w14_8 (Int.toNat r21_2) zQIIIIILIE).1, ((List.getD w14_8 (Int.toNat r21_2) zQIIIIILIE).2.1, ((List.getD w14_8 (Int.toNat r21_2) zQIIIIILIE).2.2.1, ((List.getD w14_8 (Int.toNat r21_2) zQIIIIILIE).2.2.2.1, ((IntKind.wrap .i64 ((List.getD w14_8 (Int.toNat r21_2) zQIIIIILIE).2.2.2.2.1 + (1 : Int))), (List.getD w14_8 (Int.toNat r21_2) zQIIIIILIE).2.2.2.2.2)))))) (Int.toNat r21_2) zQIIIIILIE).2.2.2.1 + a4)), (List.getD (List.set w14_8 (Int.toNat r21_2) ((List.getD w14_8 (Int.toNat r21_2) zQIIIIILIE).1, ((List.getD w14_8 (Int.toNat r21_2) zQIIIIILIE).2.1, ((List.getD w14_8 (Int.toNat r21_2) zQIIIIILIE).2.2.1, ((List.getD w14_8 (Int.toNat r21_2) zQIIIIILIE).2.2.2.1, ((IntKind.wrap .i64 ((List.getD w14_8 (Int.toNat r21_2) zQIIIIILIE).2.2.2.2.1 + (1 : Int))), (List.getD w14_8 (Int.toNat r21_2) zQIIIIILIE).2.2.2.2.2)))))) (Int.toNat r21_2) zQIIIIILIE).2.2.2.2))))) (fun (w14_9 : (List QIIIIILIE)) =>
                                                          bif (inB r24_3 (List.length w14_9)) then
                                                            bif (inB r24_3 (List.length w14_9)) then
                                                              bif (a3 == (1 : Int)) then
                                                                bif (inB r21_2 (List.length (List.set w14_9 (Int.toNat r24_3) ((List.getD w14_9 (Int.toNat r24_3) zQIIIIILIE).1, ((List.getD w14_9 (Int.toNat r24_3) zQIIIIILIE).2.1, ((List.getD w14_9 (Int.toNat r24_3) zQIIIIILIE).2.2.1, ((IntKind.wrap .i64 ((List.getD w14_9 (Int.toNat r24_3) zQIIIIILIE).2.2.2.1 + a5)), (List.getD w14_9 (Int.toNat r24_3) zQIIIIILIE).2.2.2.2))))))) then
                                                                  bif (inB r21_2 (List.length (List.set w14_9 (Int.toNat r24_3) ((List.getD w14_9 (Int.toNat r24_3) zQIIIIILIE).1, ((List.getD w14_9 (Int.toNat r24_3) zQIIIIILIE).2.1, ((List.getD w14_9 (Int.toNat r24_3) zQIIIIILIE).2.2.1, ((IntKind.wrap .i64 ((List.getD w14_9 (Int.toNat r24_3) zQIIIIILIE).2.2.2.1 + a5)), (List.getD w14_9 (Int.toNat r24_3) zQIIIIILIE).2.2.2.2))))))) then
                                                                    share (List.set (List.set w14_9 (Int.toNat r24_3) ((List.getD w14_9 (Int.toNat r24_3) zQIIIIILIE).1, ((List.getD w14_9 (Int.toNat r24_3) zQIIIIILIE).2.1, ((List.getD w14_9 (Int.toNat r24_3) zQIIIIILIE).2.2.1, ((IntKind.wrap .i64 ((List.getD w14_9 (Int.toNat r24_3) zQIIIIILIE).2.2.2.1 + a5)), (List.getD w14_9 (Int.toNat r24_3) zQIIIIILIE).2.2.2.2))))) (Int.toNat r21_2) ((List.getD (List.set w14_9 (Int.toNat r24_3) ((List.getD w14_9 (Int.toNat r24_3) zQIIIIILIE).1, ((List.getD w14_9 (Int.toNat r24_3) zQIIIIILIE).2.1, ((List.getD w14_9 (Int.toNat r24_3) zQIIIIILIE).2.2.1, ((IntKind.wrap .i64 ((List.getD w14_9 (Int.toNat r24_3) zQIIIIILIE).2.2.2.1 + a5)), (List.getD w14_9 (Int.toNat r24_3) zQIIIIILIE).2.2.2.2))))) (Int.toNat r21_2) zQIIIIILIE).1, ((List.getD (List.set w14_9 (Int.toNat r24_3) ((List.getD w14_9 (Int.toNat r24_3) zQIIIIILIE).1, ((List.getD w14_9 (Int.toNat r24_3) zQIIIIILIE).2.1, ((List.getD w14_9 (Int.toNat r24_3) zQIIIIILIE).2.2.1, ((IntKind.wrap .i64 ((List.getD w14_9 (Int.toNat r24_3) zQIIIIILIE).2.2.2.1 + a5)), (List.getD w14_9 (Int.toNat r24_3) zQIIIIILIE).2.2.2.2))))) (Int.toNat r21_2) zQIIIIILIE).2.1, ((IntKind.wrap .i64 ((List.getD (List.set w14_9 (Int.toNat r24_3) ((List.getD w14_9 (Int.toNat r24_3) zQIIIIILIE).1, ((List.getD w14_9 (Int.toNat r24_3) zQIIIIILIE).2.1, ((List.getD w14_9 (Int.toNat r24_3) zQIIIIILIE).2.2.1, ((IntKind.wrap .i64 ((List.getD w14_9 (Int.toNat r24_3) zQIIIIILIE).2.2.2.1 + a5)), (List.getD w14_9 (Int.toNat r24_3) zQIIIIILIE).2.2.2.2))))) (Int.toNat r21_2) zQIIIIILIE).2.2.1 + (1 : Int))), (List.getD (List.set w14_9 (Int.toNat r24_3) ((List.getD w14_9 (Int.toNat r24_3) zQIIIIILIE).1, ((List.getD w14_9 (Int.toNat r24_3) zQIIIIILIE).2.1, ((List.getD w14_9 (Int.toNat r24_3) zQIIIIILIE).2.2.1, ((IntKind.wrap .i64 ((List.getD w14_9 (Int.toNat r24_3) zQIIIIILIE).2.2.2.1 + a5)), (List.getD w14_9 (Int.toNat r24_3) zQIIIIILIE).2.2.2.2))))) (Int.toNat r21_2) zQIIIIILIE).2.2.2)))) (fun (w14_10 : (List QIIIIILIE)) =>
                                                                      spec_AddResult_j1 N a0 kf w14_10)
                                                                  else none
                                                                else none
                                                              else
                                                                bif (inB r24_3 (List.length (List.set w14_9 (Int.toNat r24_3) ((List.getD w14_9 (Int.toNat r24_3) zQIIIIILIE).1, ((List.getD w14_9 (Int.toNat r24_3) zQIIIIILIE).2.1, ((List.getD w14_9 (Int.toNat r24_3) zQIIIIILIE).2.2.1, ((IntKind.wrap .i64 ((List.getD w14_9 (Int.toNat r24_3) zQIIIIILIE).2.2.2.1 + a5)), (List.getD w14_9 (Int.toNat r24_3) zQIIIIILIE).2.2.2.2))))))) then
                                                                  bif (inB r24_3 (List.length (List.set w14_9 (Int.toNat r24_3) ((List.getD w14_9 (Int.toNat r24_3) zQIIIIILIE).1, ((List.getD w14_9 (Int.toNat r24_3) zQIIIIILIE).2.1, ((List.getD w14_9 (Int.toNat r24_3) zQIIIIILIE).2.2.1, ((IntKind.wrap .i64 ((List.getD w14_9 (Int.toNat r24_3) zQIIIIILIE).2.2.2.1 + a5)), (List.getD w14_9 (Int.toNat r24_3) zQIIIIILIE).2.2.2.2))))))) then
                                                                    share (List.set (List.set w14_9 (Int.toNat r24_3) ((List.getD w14_9 (Int.toNat r24_3) zQIIIIILIE).1, ((List.getD w14_9 (Int.toNat r24_3) zQIIIIILIE).2.1, ((List.getD w14_9 (Int.toNat r24_3) zQIIIIILIE).2.2.1, ((IntKind.wrap .i64 ((List.getD w14_9 (Int.toNat r24_3) zQIIIIILIE).2.2.2.1 + a5)), (List.getD w14_9 (Int.toNat r24_3) zQIIIIILIE).2.2.2.2))))) (Int.toNat r24_3) ((List.getD (List.set w14_9 (Int.toNat r24_3) ((List.getD w14_9 (Int.toNat r24_3) zQIIIIILIE).1, ((List.getD w14_9 (Int.toNat r24_3) zQIIIIILIE).2.1, ((List.getD w14_9 (Int.toNat r24_3) zQIIIIILIE).2.2.1, ((IntKind.wrap .i64 ((List.getD w14_9 (Int.toNat r24_3) zQIIIIILIE).2.2.2.1 + a5)), (List.getD w14_9 (Int.toNat r24_3) zQIIIIILIE).2.2.2.2))))) (Int.toNat r24_3) zQIIIIILIE).1, ((List.getD (List.set w14_9 (Int.toNat r24_3) ((List.getD w14_9 (Int.toNat r24_3) zQIIIIILIE).1, ((List.getD w14_9 (Int.toNat r24_3) zQIIIIILIE).2.1, ((List.getD w14_9 (Int.toNat r24_3) zQIIIIILIE).2.2.1, ((IntKind.wrap .i64 ((List.getD w14_9 (Int.toNat r24_3) zQIIIIILIE).2.2.2.1 + a5)), (List.getD w14_9 (Int.toNat r24_3) zQIIIIILIE).2.2.2.2))))) (Int.toNat r24_3) zQIIIIILIE).2.1, ((IntKind.wrap .i64 ((List.getD (List.set w14_9 (Int.toNat r24_3) ((List.getD w14_9 (Int.toNat r24_3) zQIIIIILIE).1, ((List.getD w14_9 (Int.toNat r24_3) zQIIIIILIE).2.1, ((List.getD w14_9 (Int.toNat r24_3) zQIIIIILIE).2.2.1, ((IntKind.wrap .i64 ((List.getD w14_9 (Int.toNat r24_3) zQIIIIILIE).2.2.2.1 + a5)), (List.getD w14_9 (Int.toNat r24_3) zQIIIIILIE).2.2.2.2))))) (Int.toNat r24_3) zQIIIIILIE).2.2.1 + (1 : Int))), (List.getD (List.set w14_9 (Int.toNat r24_3) ((List.getD w14_9 (Int.toNat r24_3) zQIIIIILIE).1, ((List.getD w14_9 (Int.toNat r24_3) zQIIIIILIE).2.1, ((List.getD w14_9 (Int.toNat r24_3) zQIIIIILIE).2.2.1, ((IntKind.wrap .i64 ((List.getD w14_9 (Int.toNat r24_3) zQIIIIILIE).2.2.2.1 + a5)), (List.getD w14_9 (Int.toNat r24_3) zQIIIIILIE).2.2.2.2))))) (Int.toNat r24_3) zQIIIIILIE).2.2.2)))) (fun (w14_11 : (List QIIIIILIE)) =>
                                                                      spec_AddResult_j1 N a0 kf w14_11)
                                                                  else none
                                                                else none
                                                            else none
                                                          else none)
                                                      else none
                                                    else none
                                                  else none
                                                else none)
                                            else none
                                          else none
                                        else none
                                      else none
                                    else none
                                  else none
                                else none
                              else none)))))))
noncomputable def spec_l19Draw_l3 (N : Nat) : Nat → (QLIIIE → (List QIIIIILIE) → Option Ret) → QLIIIE → (List QIIIIILIE) → Int → Option Ret
  | 0, _, _, _, _ => none
  | n_4 + 1, k3_0_9, x0_1, x3_2, x4_3 =>
    spec_l1Below N x0_1 (5 : Int) (fun (r9_5 : Int) (z0_6 : QLIIIE) =>
      bif (decide (x4_3 ≤ (IntKind.wrap .i64 ((2 : Int) + r9_5)))) then
        spec_l1Below N z0_6 (3 : Int) (fun (r18_7 : Int) (z0_8 : QLIIIE) =>
          bif (decide ((List.length x3_2 + List.length [((IntKind.wrap .i64 ((2 : Int) * x4_3)), ((IntKind.wrap .i64 ((1 : Int) + r18_7)), ((0 : Int), ((0 : Int), ((0 : Int), ([] : (List Int)))))))]) * 6 ≤ 4398046511104)) then
            (spec_l19Draw_l3 N n_4 k3_0_9) z0_8 (x3_2 ++ [((IntKind.wrap .i64 ((2 : Int) * x4_3)), ((IntKind.wrap .i64 ((1 : Int) + r18_7)), ((0 : Int), ((0 : Int), ((0 : Int), ([] : (List Int)))))))]) (IntKind.wrap .i64 (x4_3 + (1 : Int)))
          else none)
      else
        k3_0_9 z0_6 x3_2)
noncomputable def spec_l19Draw_l7 (N : Nat) : Nat → (QLIIIE → (List QIIIIILIE) → Option Ret) → QLIIIE → (List QIIIIILIE) → Int → Option Ret
  | 0, _, _, _, _ => none
  | n_18 + 1, k7_0_31, x0_15, x3_16, x5_17 =>
    bif (decide (x5_17 > (0 : Int))) then
      spec_l1Below N x0_15 (6 : Int) (fun (r32_19 : Int) (z0_20 : QLIIIE) =>
        spec_l1Below N z0_20 (6 : Int) (fun (r36_21 : Int) (z0_22 : QLIIIE) =>
          spec_l1Below N z0_22 (2 : Int) (fun (r40_23 : Int) (z0_24 : QLIIIE) =>
            spec_l1Below N z0_24 (20 : Int) (fun (r43_25 : Int) (z0_26 : QLIIIE) =>
              spec_l1Below N z0_26 (20 : Int) (fun (r46_27 : Int) (z0_28 : QLIIIE) =>
                spec_AddResult N x3_16 (IntKind.wrap .i64 ((2 : Int) * (IntKind.wrap .i64 ((1 : Int) + r32_19)))) (IntKind.wrap .i64 ((2 : Int) * (IntKind.wrap .i64 ((1 : Int) + r36_21)))) (IntKind.wrap .i64 ((1 : Int) + r40_23)) (IntKind.wrap .i64 ((60 : Int) + r43_25)) (IntKind.wrap .i64 ((60 : Int) + r46_27)) (fun (r48_29 : (List QIIIIILIE)) (r48_30 : Bool) =>
                  (spec_l19Draw_l7 N n_18 k7_0_31) z0_28 r48_29 (IntKind.wrap .i64 (x5_17 - (1 : Int)))))))))
    else
      k7_0_31 x0_15 x3_16
noncomputable def spec_l19Draw (N : Nat) (a0 : QLIIIE) (kf : (List QIIIIILIE) → QLIIIE → Option Ret) : Option Ret :=
  spec_l19Draw_l3 N N (fun (z0_11 : QLIIIE) (z3_12 : (List QIIIIILIE)) =>
    spec_l1Below N z0_11 (7 : Int) (fun (r24_13 : Int) (z0_14 : QLIIIE) =>
      spec_l19Draw_l7 N N (fun (z0_33 : QLIIIE) (z3_34 : (List QIIIIILIE)) =>
        kf z3_34 z0_33) z0_14 z3_12 r24_13)) a0 ([] : (List QIIIIILIE)) (1 : Int)
noncomputable def spec_l1Once (N : Nat) (a0 : QLIIIE) (a1 : Int) (kf : Bool → QLIIIE → Option Ret) : Option Ret :=
  spec_l1Below N a0 a1 (fun (r7_1 : Int) (z0_2 : QLIIIE) =>
    kf (r7_1 == (0 : Int)) z0_2)
noncomputable def spec_l21Draw_j1 (r17_7 : Int) (rc3_17 : QLIIIE → (List QIILIE) → Int → Option Ret) (x3_2 : (List QIILIE)) (x4_3 : Int) (y0_14 : QLIIIE) (y5_15 : (List Int)) : Option Ret :=
  bif (decide ((List.length x3_2 + List.length [((IntKind.wrap .i64 ((10 : Int) + x4_3)), ((IntKind.wrap .i64 ((1 : Int) + r17_7)), y5_15))]) * 3 ≤ 4398046511104)) then
    rc3_17 y0_14 (x3_2 ++ [((IntKind.wrap .i64 ((10 : Int) + x4_3)), ((IntKind.wrap .i64 ((1 : Int) + r17_7)), y5_15))]) (IntKind.wrap .i64 (x4_3 + (1 : Int)))
  else none
noncomputable def spec_l21Draw_l3 (N : Nat) : Nat → (QLIIIE → (List QIILIE) → Option Ret) → QLIIIE → (List QIILIE) → Int → Option Ret
  | 0, _, _, _, _ => none
  | n_4 + 1, k3_0_16, x0_1, x3_2, x4_3 =>
    spec_l1Below N x0_1 (5 : Int) (fun (r9_5 : Int) (z0_6 : QLIIIE) =>
      bif (decide (x4_3 ≤ (IntKind.wrap .i64 ((1 : Int) + r9_5)))) then
        spec_l1Below N z0_6 (5 : Int) (fun (r17_7 : Int) (z0_8 : QLIIIE) =>
          spec_l1Once N z0_8 (3 : Int) (fun (r21_9 : Bool) (z0_10 : QLIIIE) =>
            bif r21_9 then
              spec_l1Below N z0_10 (6 : Int) (fun (r23_11 : Int) (z0_12 : QLIIIE) =>
                share [(IntKind.wrap .i64 ((2 : Int) * (IntKind.wrap .i64 ((1 : Int) + r23_11))))] (fun (w5_13 : (List Int)) =>
                  spec_l21Draw_j1 r17_7 (spec_l21Draw_l3 N n_4 k3_0_16) x3_2 x4_3 z0_12 w5_13))
            else
              spec_l21Draw_j1 r17_7 (spec_l21Draw_l3 N n_4 k3_0_16) x3_2 x4_3 z0_10 ([] : (List Int))))
      else
        k3_0_16 z0_6 x3_2)
noncomputable def spec_l21Draw (N : Nat) (a0 : QLIIIE) (kf : (List QIILIE) → QLIIIE → Option Ret) : Option Ret :=
  spec_l21Draw_l3 N N (fun (z0_18 : QLIIIE) (z3_19 : (List QIILIE)) =>
    kf z3_19 z0_18) a0 ([] : (List QIILIE)) (1 : Int)
noncomputable def spec_l4Has_l2 (x0_1 : (List Int)) (x1_2 : Int) : Nat → (Option Ret) → (Bool → Option Ret) → Int → Option Ret
  | 0, _, _, _ => none
  | n_4 + 1, k2_0_5, k2_1_6, x5_3 =>
    bif (decide (x5_3 < (List.length x0_1 : Int))) then
      bif (inB x5_3 (List.length x0_1)) then
        bif ((List.getD x0_1 (Int.toNat x5_3) (0 : Int)) == x1_2) then
          k2_1_6 true
        else
          (spec_l4Has_l2 x0_1 x1_2 n_4 k2_0_5 k2_1_6) (IntKind.wrap .i64 (x5_3 + (1 : Int)))
      else none
    else
      k2_0_5
noncomputable def spec_l4Has (N : Nat) (a0 : (List Int)) (a1 : Int) (kf : Bool → Option Ret) : Option Ret :=
  spec_l4Has_l2 a0 a1 N (kf false) kf (0 : Int)
noncomputable def spec_IsGraph_l2 (N : Nat) (x1_1 : QILLIE) : Nat → (Option Ret) → (Bool → Option Ret) → Int → Option Ret
  | 0, _, _, _ => none
  | n_3 + 1, k2_0_6, k2_1_7, x3_2 =>
    bif (decide (x3_2 < (List.length x1_1.2 : Int))) then
      bif (inB x3_2 (List.length x1_1.2)) then
        bif ((List.length (List.getD x1_1.2 (Int.toNat x3_2) ([] : (List Int))) : Int) != (2 : Int)) then
          k2_1_7 false
        else
          bif (inB (0 : Int) (List.length (List.getD x1_1.2 (Int.toNat x3_2) ([] : (List Int))))) then
            spec_l1In N (List.getD (List.getD x1_1.2 (Int.toNat x3_2) ([] : (List Int))) (Int.toNat (0 : Int)) (0 : Int)) (0 : Int) (IntKind.wrap .i64 (x1_1.1 - (1 : Int))) (fun (r28_4 : Bool) =>
              bif (!r28_4) then
                k2_1_7 false
              else
                bif (inB (1 : Int) (List.length (List.getD x1_1.2 (Int.toNat x3_2) ([] : (List Int))))) then
                  spec_l1In N (List.getD (List.getD x1_1.2 (Int.toNat x3_2) ([] : (List Int))) (Int.toNat (1 : Int)) (0 : Int)) (0 : Int) (IntKind.wrap .i64 (x1_1.1 - (1 : Int))) (fun (r38_5 : Bool) =>
                    bif (!r38_5) then
                      k2_1_7 false
                    else
                      bif (decide (x3_2 > (0 : Int))) then
                        bif (inB (IntKind.wrap .i64 (x3_2 - (1 : Int))) (List.length x1_1.2)) then
                          bif (inB (0 : Int) (List.length (List.getD x1_1.2 (Int.toNat (IntKind.wrap .i64 (x3_2 - (1 : Int)))) ([] : (List Int))))) then
                            bif (inB (0 : Int) (List.length (List.getD x1_1.2 (Int.toNat x3_2) ([] : (List Int))))) then
                              bif (decide ((List.getD (List.getD x1_1.2 (Int.toNat (IntKind.wrap .i64 (x3_2 - (1 : Int)))) ([] : (List Int))) (Int.toNat (0 : Int)) (0 : Int)) > (List.getD (List.getD x1_1.2 (Int.toNat x3_2) ([] : (List Int))) (Int.toNat (0 : Int)) (0 : Int)))) then
                                k2_1_7 false
                              else
                                bif (inB (0 : Int) (List.length (List.getD x1_1.2 (Int.toNat (IntKind.wrap .i64 (x3_2 - (1 : Int)))) ([] : (List Int))))) then
                                  bif (inB (0 : Int) (List.length (List.getD x1_1.2 (Int.toNat x3_2) ([] : (List Int))))) then
                                    bif ((List.getD (List.getD x1_1.2 (Int.toNat (IntKind.wrap .i64 (x3_2 - (1 : Int)))) ([] : (List Int))) (Int.toNat (0 : Int)) (0 : Int)) == (List.getD (List.getD x1_1.2 (Int.toNat x3_2) ([] : (List Int))) (Int.toNat (0 : Int)) (0 : Int))) then
                                      bif (inB (1 : Int) (List.length (List.getD x1_1.2 (Int.toNat (IntKind.wrap .i64 (x3_2 - (1 : Int)))) ([] : (List Int))))) then
                                        bif (inB (1 : Int) (List.length (List.getD x1_1.2 (Int.toNat x3_2) ([] : (List Int))))) then
                                          bif (decide ((List.getD (List.getD x1_1.2 (Int.toNat (IntKind.wrap .i64 (x3_2 - (1 : Int)))) ([] : (List Int))) (Int.toNat (1 : Int)) (0 : Int)) ≥ (List.getD (List.getD x1_1.2 (Int.toNat x3_2) ([] : (List Int))) (Int.toNat (1 : Int)) (0 : Int)))) then
                                            k2_1_7 false
                                          else
                                            (spec_IsGraph_l2 N x1_1 n_3 k2_0_6 k2_1_7) (IntKind.wrap .i64 (x3_2 + (1 : Int)))
                                        else none
                                      else none
                                    else
                                      (spec_IsGraph_l2 N x1_1 n_3 k2_0_6 k2_1_7) (IntKind.wrap .i64 (x3_2 + (1 : Int)))
                                  else none
                                else none
                            else none
                          else none
                        else none
                      else
                        (spec_IsGraph_l2 N x1_1 n_3 k2_0_6 k2_1_7) (IntKind.wrap .i64 (x3_2 + (1 : Int))))
                else none)
          else none
      else none
    else
      k2_0_6
noncomputable def spec_IsGraph (N : Nat) (a0 : QILLIE) (kf : Bool → Option Ret) : Option Ret :=
  spec_IsGraph_l2 N a0 N (spec_l1In N a0.1 (0 : Int) (10 : Int) kf) kf (0 : Int)
noncomputable def spec_IsSet_l4 (N : Nat) (x1_2 : (List Int)) (x2_3 : QILLIE) : Nat → (Option Ret) → (Bool → Option Ret) → Int → Option Ret
  | 0, _, _, _ => none
  | n_5 + 1, k4_0_7, k4_1_8, x5_4 =>
    bif (decide (x5_4 < (List.length x1_2 : Int))) then
      bif (inB x5_4 (List.length x1_2)) then
        spec_l1In N (List.getD x1_2 (Int.toNat x5_4) (0 : Int)) (0 : Int) (IntKind.wrap .i64 (x2_3.1 - (1 : Int))) (fun (r22_6 : Bool) =>
          bif (!r22_6) then
            k4_1_8 false
          else
            bif (decide (x5_4 > (0 : Int))) then
              bif (inB (IntKind.wrap .i64 (x5_4 - (1 : Int))) (List.length x1_2)) then
                bif (inB x5_4 (List.length x1_2)) then
                  bif (decide ((List.getD x1_2 (Int.toNat (IntKind.wrap .i64 (x5_4 - (1 : Int)))) (0 : Int)) ≥ (List.getD x1_2 (Int.toNat x5_4) (0 : Int)))) then
                    k4_1_8 false
                  else
                    (spec_IsSet_l4 N x1_2 x2_3 n_5 k4_0_7 k4_1_8) (IntKind.wrap .i64 (x5_4 + (1 : Int)))
                else none
              else none
            else
              (spec_IsSet_l4 N x1_2 x2_3 n_5 k4_0_7 k4_1_8) (IntKind.wrap .i64 (x5_4 + (1 : Int))))
      else none
    else
      k4_0_7
noncomputable def spec_IsSet (N : Nat) (a0 : QILLIE) (a1 : (List Int)) (kf : Bool → Option Ret) : Option Ret :=
  spec_IsGraph N a0 (fun (r7_1 : Bool) =>
    bif (!r7_1) then
      kf false
    else
      spec_IsSet_l4 N a1 a0 N (kf true) kf (0 : Int))
noncomputable def spec_HitBy_l7 (N : Nat) (x1_7 : (List Int)) (x2_8 : QILLIE) (x5_9 : (List Int)) (x6_10 : Int) : Nat → (Bool → Option Ret) → Bool → Int → Option Ret
  | 0, _, _, _ => none
  | n_13 + 1, k7_0_15, x7_11, x8_12 =>
    bif (decide (x8_12 < (List.length x2_8.2 : Int))) then
      bif x7_11 then
        (spec_HitBy_l7 N x1_7 x2_8 x5_9 x6_10 n_13 k7_0_15) true (IntKind.wrap .i64 (x8_12 + (1 : Int)))
      else
        bif (inB x8_12 (List.length x2_8.2)) then
          bif (inB (1 : Int) (List.length (List.getD x2_8.2 (Int.toNat x8_12) ([] : (List Int))))) then
            bif ((List.getD (List.getD x2_8.2 (Int.toNat x8_12) ([] : (List Int))) (Int.toNat (1 : Int)) (0 : Int)) == x6_10) then
              bif (inB x8_12 (List.length x2_8.2)) then
                bif (inB (0 : Int) (List.length (List.getD x2_8.2 (Int.toNat x8_12) ([] : (List Int))))) then
                  spec_l4Has N x1_7 (List.getD (List.getD x2_8.2 (Int.toNat x8_12) ([] : (List Int))) (Int.toNat (0 : Int)) (0 : Int)) (fun (r47_14 : Bool) =>
                    (spec_HitBy_l7 N x1_7 x2_8 x5_9 x6_10 n_13 k7_0_15) r47_14 (IntKind.wrap .i64 (x8_12 + (1 : Int))))
                else none
              else none
            else
              (spec_HitBy_l7 N x1_7 x2_8 x5_9 x6_10 n_13 k7_0_15) false (IntKind.wrap .i64 (x8_12 + (1 : Int)))
          else none
        else none
    else
      k7_0_15 x7_11
noncomputable def spec_HitBy_l3 (N : Nat) (x1_1 : (List Int)) (x2_2 : QILLIE) : Nat → ((List Int) → Option Ret) → (List Int) → Int → Option Ret
  | 0, _, _, _ => none
  | n_5 + 1, k3_0_19, x5_3, x6_4 =>
    bif (decide (x6_4 < x2_2.1)) then
      spec_IsGraph N x2_2 (fun (r16_6 : Bool) =>
        bif r16_6 then
          spec_HitBy_l7 N x1_1 x2_2 x5_3 x6_4 N (fun (z7_17 : Bool) =>
            bif z7_17 then
              bif (decide ((List.length x5_3 + List.length [x6_4]) * 1 ≤ 4398046511104)) then
                (spec_HitBy_l3 N x1_1 x2_2 n_5 k3_0_19) (x5_3 ++ [x6_4]) (IntKind.wrap .i64 (x6_4 + (1 : Int)))
              else none
            else
              (spec_HitBy_l3 N x1_1 x2_2 n_5 k3_0_19) x5_3 (IntKind.wrap .i64 (x6_4 + (1 : Int)))) false (0 : Int)
        else
          k3_0_19 x5_3)
    else
      k3_0_19 x5_3
noncomputable def spec_HitBy (N : Nat) (a0 : QILLIE) (a1 : (List Int)) (kf : (List Int) → Option Ret) : Option Ret :=
  spec_HitBy_l3 N a1 a0 N kf ([] : (List Int)) (0 : Int)
noncomputable def spec_AttackersOf_l3 (N : Nat) (x1_1 : Int) (x2_2 : QILLIE) : Nat → ((List Int) → Option Ret) → (List Int) → Int → Option Ret
  | 0, _, _, _ => none
  | n_5 + 1, k3_0_8, x5_3, x6_4 =>
    bif (decide (x6_4 < (List.length x2_2.2 : Int))) then
      spec_IsGraph N x2_2 (fun (r15_6 : Bool) =>
        bif r15_6 then
          bif (inB x6_4 (List.length x2_2.2)) then
            bif (inB (1 : Int) (List.length (List.getD x2_2.2 (Int.toNat x6_4) ([] : (List Int))))) then
              bif ((List.getD (List.getD x2_2.2 (Int.toNat x6_4) ([] : (List Int))) (Int.toNat (1 : Int)) (0 : Int)) == x1_1) then
                bif (inB x6_4 (List.length x2_2.2)) then
                  bif (inB (0 : Int) (List.length (List.getD x2_2.2 (Int.toNat x6_4) ([] : (List Int))))) then
                    bif (decide ((List.length x5_3 + List.length [(List.getD (List.getD x2_2.2 (Int.toNat x6_4) ([] : (List Int))) (Int.toNat (0 : Int)) (0 : Int))]) * 1 ≤ 4398046511104)) then
                      (spec_AttackersOf_l3 N x1_1 x2_2 n_5 k3_0_8) (x5_3 ++ [(List.getD (List.getD x2_2.2 (Int.toNat x6_4) ([] : (List Int))) (Int.toNat (0 : Int)) (0 : Int))]) (IntKind.wrap .i64 (x6_4 + (1 : Int)))
                    else none
                  else none
                else none
              else
                (spec_AttackersOf_l3 N x1_1 x2_2 n_5 k3_0_8) x5_3 (IntKind.wrap .i64 (x6_4 + (1 : Int)))
            else none
          else none
        else
          k3_0_8 x5_3)
    else
      k3_0_8 x5_3
noncomputable def spec_AttackersOf (N : Nat) (a0 : QILLIE) (a1 : Int) (kf : (List Int) → Option Ret) : Option Ret :=
  spec_AttackersOf_l3 N a1 a0 N kf ([] : (List Int)) (0 : Int)
noncomputable def spec_Defends_l6 (N : Nat) (x7_5 : (List Int)) (x8_6 : (List Int)) : Nat → (Option Ret) → (Bool → Option Ret) → Int → Option Ret
  | 0, _, _, _ => none
  | n_8 + 1, k6_0_10, k6_1_11, x9_7 =>
    bif (decide (x9_7 < (List.length x8_6 : Int))) then
      bif (inB x9_7 (List.length x8_6)) then
        spec_l4Has N x7_5 (List.getD x8_6 (Int.toNat x9_7) (0 : Int)) (fun (r39_9 : Bool) =>
          bif (!r39_9) then
            k6_1_11 false
          else
            (spec_Defends_l6 N x7_5 x8_6 n_8 k6_0_10 k6_1_11) (IntKind.wrap .i64 (x9_7 + (1 : Int))))
      else none
    else
      k6_0_10
noncomputable def spec_Defends (N : Nat) (a0 : QILLIE) (a1 : (List Int)) (a2 : Int) (kf : Bool → Option Ret) : Option Ret :=
  spec_IsSet N a0 a1 (fun (r12_1 : Bool) =>
    bif (!r12_1) then
      kf false
    else
      spec_l1In N a2 (0 : Int) (IntKind.wrap .i64 (a0.1 - (1 : Int))) (fun (r19_2 : Bool) =>
        bif (!r19_2) then
          kf false
        else
          spec_HitBy N a0 a1 (fun (r24_3 : (List Int)) =>
            spec_AttackersOf N a0 a2 (fun (r27_4 : (List Int)) =>
              spec_Defends_l6 N r24_3 r27_4 N (kf true) kf (0 : Int)))))
noncomputable def spec_DefendedBy_l3 (N : Nat) (x1_1 : (List Int)) (x2_2 : QILLIE) : Nat → ((List Int) → Option Ret) → (List Int) → Int → Option Ret
  | 0, _, _, _ => none
  | n_5 + 1, k3_0_9, x5_3, x6_4 =>
    bif (decide (x6_4 < x2_2.1)) then
      spec_IsSet N x2_2 x1_1 (fun (r15_6 : Bool) =>
        bif r15_6 then
          spec_Defends N x2_2 x1_1 x6_4 (fun (r22_7 : Bool) =>
            bif r22_7 then
              bif (decide ((List.length x5_3 + List.length [x6_4]) * 1 ≤ 4398046511104)) then
                (spec_DefendedBy_l3 N x1_1 x2_2 n_5 k3_0_9) (x5_3 ++ [x6_4]) (IntKind.wrap .i64 (x6_4 + (1 : Int)))
              else none
            else
              (spec_DefendedBy_l3 N x1_1 x2_2 n_5 k3_0_9) x5_3 (IntKind.wrap .i64 (x6_4 + (1 : Int))))
        else
          k3_0_9 x5_3)
    else
      k3_0_9 x5_3
noncomputable def spec_DefendedBy (N : Nat) (a0 : QILLIE) (a1 : (List Int)) (kf : (List Int) → Option Ret) : Option Ret :=
  spec_DefendedBy_l3 N a1 a0 N kf ([] : (List Int)) (0 : Int)
noncomputable def spec_EqualInts_l4 (x0_1 : (List Int)) (x1_2 : (List Int)) : Nat → (Option Ret) → (Bool → Option Ret) → Int → Option Ret
  | 0, _, _, _ => none
  | n_4 + 1, k4_0_5, k4_1_6, x5_3 =>
    bif (decide (x5_3 < (List.length x0_1 : Int))) then
      bif (inB x5_3 (List.length x0_1)) then
        bif (inB x5_3 (List.length x1_2)) then
          bif ((List.getD x0_1 (Int.toNat x5_3) (0 : Int)) != (List.getD x1_2 (Int.toNat x5_3) (0 : Int))) then
            k4_1_6 false
          else
            (spec_EqualInts_l4 x0_1 x1_2 n_4 k4_0_5 k4_1_6) (IntKind.wrap .i64 (x5_3 + (1 : Int)))
        else none
      else none
    else
      k4_0_5
noncomputable def spec_EqualInts (N : Nat) (a0 : (List Int)) (a1 : (List Int)) (kf : Bool → Option Ret) : Option Ret :=
  bif ((List.length a0 : Int) != (List.length a1 : Int)) then
    kf false
  else
    spec_EqualInts_l4 a0 a1 N (kf true) kf (0 : Int)
noncomputable def spec_Grounded_l2 (N : Nat) (x1_1 : QILLIE) : Nat → ((List Int) → Option Ret) → (List Int) → Option Ret
  | 0, _, _ => none
  | n_3 + 1, k2_0_6, x3_2 =>
    spec_DefendedBy N x1_1 x3_2 (fun (r8_4 : (List Int)) =>
      spec_EqualInts N r8_4 x3_2 (fun (r11_5 : Bool) =>
        bif r11_5 then
          k2_0_6 r8_4
        else
          (spec_Grounded_l2 N x1_1 n_3 k2_0_6) r8_4))
noncomputable def spec_Grounded (N : Nat) (a0 : QILLIE) (kf : (List Int) → Option Ret) : Option Ret :=
  spec_Grounded_l2 N a0 N kf ([] : (List Int))
noncomputable def spec_Labels_l5 (N : Nat) (x1_3 : QILLIE) (x4_5 : (List Int)) (x5_6 : (List Int)) : Nat → ((List ByteArray) → Option Ret) → (List ByteArray) → Int → Option Ret
  | 0, _, _, _ => none
  | n_8 + 1, k5_0_13, x3_4, x6_7 =>
    bif (decide (x6_7 < x1_3.1)) then
      spec_IsGraph N x1_3 (fun (r19_9 : Bool) =>
        bif r19_9 then
          spec_l4Has N x4_5 x6_7 (fun (r29_10 : Bool) =>
            bif r29_10 then
              bif (decide ((List.length x3_4 + List.length [s_in]) * 1 ≤ 4398046511104)) then
                (spec_Labels_l5 N x1_3 x4_5 x5_6 n_8 k5_0_13) (x3_4 ++ [s_in]) (IntKind.wrap .i64 (x6_7 + (1 : Int)))
              else none
            else
              spec_l4Has N x5_6 x6_7 (fun (r36_11 : Bool) =>
                bif r36_11 then
                  bif (decide ((List.length x3_4 + List.length [s_out]) * 1 ≤ 4398046511104)) then
                    (spec_Labels_l5 N x1_3 x4_5 x5_6 n_8 k5_0_13) (x3_4 ++ [s_out]) (IntKind.wrap .i64 (x6_7 + (1 : Int)))
                  else none
                else
                  bif (decide ((List.length x3_4 + List.length [s_open]) * 1 ≤ 4398046511104)) then
                    (spec_Labels_l5 N x1_3 x4_5 x5_6 n_8 k5_0_13) (x3_4 ++ [s_open]) (IntKind.wrap .i64 (x6_7 + (1 : Int)))
                  else none))
        else
          k5_0_13 x3_4)
    else
      k5_0_13 x3_4
noncomputable def spec_Labels (N : Nat) (a0 : QILLIE) (kf : (List ByteArray) → Option Ret) : Option Ret :=
  spec_Grounded N a0 (fun (r9_1 : (List Int)) =>
    spec_HitBy N a0 r9_1 (fun (r12_2 : (List Int)) =>
      spec_Labels_l5 N a0 r9_1 r12_2 N kf ([] : (List ByteArray)) (0 : Int)))
noncomputable def spec_OpenClaims_l4 (x4_3 : (List ByteArray)) : Nat → ((List Int) → Option Ret) → (List Int) → Int → Option Ret
  | 0, _, _, _ => none
  | n_5 + 1, k4_0_7, x3_2, x5_4 =>
    bif (decide (x5_4 < (List.length x4_3 : Int))) then
      bif (inB x5_4 (List.length x4_3)) then
        bif (ByteArray.toList (List.getD x4_3 (Int.toNat x5_4) ByteArray.empty) == ByteArray.toList s_open) then
          bif (decide ((List.length x3_2 + List.length [x5_4]) * 1 ≤ 4398046511104)) then
            (spec_OpenClaims_l4 x4_3 n_5 k4_0_7) (x3_2 ++ [x5_4]) (IntKind.wrap .i64 (x5_4 + (1 : Int)))
          else none
        else
          (spec_OpenClaims_l4 x4_3 n_5 k4_0_7) x3_2 (IntKind.wrap .i64 (x5_4 + (1 : Int)))
      else none
    else
      k4_0_7 x3_2
noncomputable def spec_OpenClaims (N : Nat) (a0 : QILLIE) (kf : (List Int) → Option Ret) : Option Ret :=
  spec_Labels N a0 (fun (r8_1 : (List ByteArray)) =>
    spec_OpenClaims_l4 r8_1 N kf ([] : (List Int)) (0 : Int))
noncomputable def spec_OpenShare (N : Nat) (a0 : QILLIE) (kf : Int → Option Ret) : Option Ret :=
  bif (a0.1 == (0 : Int)) then
    kf (0 : Int)
  else
    spec_IsGraph N a0 (fun (r8_1 : Bool) =>
      bif (!r8_1) then
        kf (0 : Int)
      else
        spec_OpenClaims N a0 (fun (r12_2 : (List Int)) =>
          bif (!decide (a0.1 = 0)) then
            kf (IntKind.wrap .i64 (Int.tdiv (IntKind.wrap .i64 ((100 : Int) * (List.length r12_2 : Int))) a0.1))
          else none))
noncomputable def impl_isClaim (N : Nat) (a0 : QILLIE) (a1 : Int) (kf : Bool → Option Ret) : Option Ret :=
  impl_InRange N a1 (0 : Int) (IntKind.wrap .i64 (a0.1 - (1 : Int))) kf
noncomputable def cmp_isNaN_int (N : Nat) (a0 : Int) (kf : Bool → Option Ret) : Option Ret :=
  kf (a0 != a0)
noncomputable def cmp_Compare_int (N : Nat) (a0 : Int) (a1 : Int) (kf : Int → Option Ret) : Option Ret :=
  cmp_isNaN_int N a0 (fun (r8_1 : Bool) =>
    cmp_isNaN_int N a1 (fun (r10_2 : Bool) =>
      bif r8_1 then
        bif r10_2 then
          kf (0 : Int)
        else
          kf (-1 : Int)
      else
        bif r10_2 then
          kf (1 : Int)
        else
          bif (decide (a0 < a1)) then
            kf (-1 : Int)
          else
            bif (decide (a0 > a1)) then
              kf (1 : Int)
            else
              kf (0 : Int)))
noncomputable def slices_Compare_int_l2 (N : Nat) (x0_1 : (List Int)) (x1_2 : (List Int)) (x9_3 : (List Int)) (x10_4 : Int) : Nat → (Option Ret) → (Int → Option Ret) → Int → Option Ret
  | 0, _, _, _ => none
  | n_6 + 1, k2_0_8, k2_1_9, x11_5 =>
    bif (decide (x11_5 < x10_4)) then
      bif (inB x11_5 (List.length x9_3)) then
        bif (decide (x11_5 ≥ (List.length x1_2 : Int))) then
          k2_1_9 (1 : Int)
        else
          bif (inB x11_5 (List.length x1_2)) then
            cmp_Compare_int N (List.getD x9_3 (Int.toNat x11_5) (0 : Int)) (List.getD x1_2 (Int.toNat x11_5) (0 : Int)) (fun (r26_7 : Int) =>
              bif (r26_7 != (0 : Int)) then
                k2_1_9 r26_7
              else
                (slices_Compare_int_l2 N x0_1 x1_2 x9_3 x10_4 n_6 k2_0_8 k2_1_9) (IntKind.wrap .i64 (x11_5 + (1 : Int))))
          else none
      else none
    else
      k2_0_8
noncomputable def slices_Compare_int (N : Nat) (a0 : (List Int)) (a1 : (List Int)) (kf : Int → Option Ret) : Option Ret :=
  slices_Compare_int_l2 N a0 a1 a0 (List.length a0 : Int) N (
    bif (decide ((List.length a0 : Int) < (List.length a1 : Int))) then
      kf (-1 : Int)
    else
      kf (0 : Int)) kf (0 : Int)
noncomputable def impl_IsGraph_l4 (N : Nat) (x1_2 : QILLIE) (x10_3 : (List (List Int))) (x11_4 : Int) : Nat → (Option Ret) → (Bool → Option Ret) → Int → Option Ret
  | 0, _, _, _ => none
  | n_6 + 1, k4_0_10, k4_1_11, x12_5 =>
    bif (decide (x12_5 < x11_4)) then
      bif (inB x12_5 (List.length x10_3)) then
        bif ((List.length (List.getD x10_3 (Int.toNat x12_5) ([] : (List Int))) : Int) != (2 : Int)) then
          k4_1_11 false
        else
          bif (inB (0 : Int) (List.length (List.getD x10_3 (Int.toNat x12_5) ([] : (List Int))))) then
            impl_isClaim N x1_2 (List.getD (List.getD x10_3 (Int.toNat x12_5) ([] : (List Int))) (Int.toNat (0 : Int)) (0 : Int)) (fun (r25_7 : Bool) =>
              bif (!r25_7) then
                k4_1_11 false
              else
                bif (inB (1 : Int) (List.length (List.getD x10_3 (Int.toNat x12_5) ([] : (List Int))))) then
                  impl_isClaim N x1_2 (List.getD (List.getD x10_3 (Int.toNat x12_5) ([] : (List Int))) (Int.toNat (1 : Int)) (0 : Int)) (fun (r33_8 : Bool) =>
                    bif (!r33_8) then
                      k4_1_11 false
                    else
                      bif (decide (x12_5 > (0 : Int))) then
                        bif (inB (IntKind.wrap .i64 (x12_5 - (1 : Int))) (List.length x1_2.2)) then
                          slices_Compare_int N (List.getD x1_2.2 (Int.toNat (IntKind.wrap .i64 (x12_5 - (1 : Int)))) ([] : (List Int))) (List.getD x10_3 (Int.toNat x12_5) ([] : (List Int))) (fun (r47_9 : Int) =>
                            bif (decide (r47_9 ≥ (0 : Int))) then
                              k4_1_11 false
                            else
                              (impl_IsGraph_l4 N x1_2 x10_3 x11_4 n_6 k4_0_10 k4_1_11) (IntKind.wrap .i64 (x12_5 + (1 : Int))))
                        else none
                      else
                        (impl_IsGraph_l4 N x1_2 x10_3 x11_4 n_6 k4_0_10 k4_1_11) (IntKind.wrap .i64 (x12_5 + (1 : Int))))
                else none)
          else none
      else none
    else
      k4_0_10
noncomputable def impl_IsGraph (N : Nat) (a0 : QILLIE) (kf : Bool → Option Ret) : Option Ret :=
  impl_InRange N a0.1 (0 : Int) (10 : Int) (fun (r7_1 : Bool) =>
    bif (!r7_1) then
      kf false
    else
      impl_IsGraph_l4 N a0 a0.2 (List.length a0.2 : Int) N (kf true) kf (0 : Int))
noncomputable def impl_IsSet_l4 (N : Nat) (x1_2 : (List Int)) (x2_3 : QILLIE) (x10_4 : (List Int)) (x11_5 : Int) : Nat → (Option Ret) → (Bool → Option Ret) → Int → Option Ret
  | 0, _, _, _ => none
  | n_7 + 1, k4_0_9, k4_1_10, x12_6 =>
    bif (decide (x12_6 < x11_5)) then
      bif (inB x12_6 (List.length x10_4)) then
        impl_isClaim N x2_3 (List.getD x10_4 (Int.toNat x12_6) (0 : Int)) (fun (r19_8 : Bool) =>
          bif (!r19_8) then
            k4_1_10 false
          else
            bif (decide (x12_6 > (0 : Int))) then
              bif (inB (IntKind.wrap .i64 (x12_6 - (1 : Int))) (List.length x1_2)) then
                bif (decide ((List.getD x10_4 (Int.toNat x12_6) (0 : Int)) ≤ (List.getD x1_2 (Int.toNat (IntKind.wrap .i64 (x12_6 - (1 : Int)))) (0 : Int)))) then
                  k4_1_10 false
                else
                  (impl_IsSet_l4 N x1_2 x2_3 x10_4 x11_5 n_7 k4_0_9 k4_1_10) (IntKind.wrap .i64 (x12_6 + (1 : Int)))
              else none
            else
              (impl_IsSet_l4 N x1_2 x2_3 x10_4 x11_5 n_7 k4_0_9 k4_1_10) (IntKind.wrap .i64 (x12_6 + (1 : Int))))
      else none
    else
      k4_0_9
noncomputable def impl_IsSet (N : Nat) (a0 : QILLIE) (a1 : (List Int)) (kf : Bool → Option Ret) : Option Ret :=
  impl_IsGraph N a0 (fun (r8_1 : Bool) =>
    bif (!r8_1) then
      kf false
    else
      impl_IsSet_l4 N a1 a0 a1 (List.length a1 : Int) N (kf true) kf (0 : Int))
noncomputable def impl_VictimsOf_l5 (x1_2 : Int) (x14_4 : (List (List Int))) (x15_5 : Int) : Nat → ((List Int) → Option Ret) → (List Int) → Int → Option Ret
  | 0, _, _, _ => none
  | n_7 + 1, k5_0_9, x5_3, x16_6 =>
    bif (decide (x16_6 < x15_5)) then
      bif (inB x16_6 (List.length x14_4)) then
        bif (inB (0 : Int) (List.length (List.getD x14_4 (Int.toNat x16_6) ([] : (List Int))))) then
          bif ((List.getD (List.getD x14_4 (Int.toNat x16_6) ([] : (List Int))) (Int.toNat (0 : Int)) (0 : Int)) == x1_2) then
            bif (inB (1 : Int) (List.length (List.getD x14_4 (Int.toNat x16_6) ([] : (List Int))))) then
              bif (decide ((List.length x5_3 + List.length [(List.getD (List.getD x14_4 (Int.toNat x16_6) ([] : (List Int))) (Int.toNat (1 : Int)) (0 : Int))]) * 1 ≤ 4398046511104)) then
                (impl_VictimsOf_l5 x1_2 x14_4 x15_5 n_7 k5_0_9) (x5_3 ++ [(List.getD (List.getD x14_4 (Int.toNat x16_6) ([] : (List Int))) (Int.toNat (1 : Int)) (0 : Int))]) (IntKind.wrap .i64 (x16_6 + (1 : Int)))
              else none
            else none
          else
            (impl_VictimsOf_l5 x1_2 x14_4 x15_5 n_7 k5_0_9) x5_3 (IntKind.wrap .i64 (x16_6 + (1 : Int)))
        else none
      else none
    else
      k5_0_9 x5_3
noncomputable def impl_VictimsOf (N : Nat) (a0 : QILLIE) (a1 : Int) (kf : (List Int) → Option Ret) : Option Ret :=
  impl_IsGraph N a0 (fun (r10_1 : Bool) =>
    bif (!r10_1) then
      kf ([] : (List Int))
    else
      impl_VictimsOf_l5 a1 a0.2 (List.length a0.2 : Int) N kf ([] : (List Int)) (0 : Int))
noncomputable def slices_Sort_int (N : Nat) (a0 : (List Int)) (kf : (List Int) → Option Ret) : Option Ret :=
  bif (Nat.blt (List.length a0) 4611686018427387904) then
    kf (sortL a0)
  else none
noncomputable def slices_Compact_int (N : Nat) (a0 : (List Int)) (kf : (List Int) → Option Ret) : Option Ret :=
  kf (compactL a0)
noncomputable def impl_HitBy_l3 (N : Nat) (x2_1 : QILLIE) (x9_3 : (List Int)) (x10_4 : Int) : Nat → ((List Int) → Option Ret) → (List Int) → Int → Option Ret
  | 0, _, _, _ => none
  | n_6 + 1, k3_0_8, x5_2, x11_5 =>
    bif (decide (x11_5 < x10_4)) then
      bif (inB x11_5 (List.length x9_3)) then
        impl_VictimsOf N x2_1 (List.getD x9_3 (Int.toNat x11_5) (0 : Int)) (fun (r18_7 : (List Int)) =>
          bif (decide ((List.length x5_2 + List.length r18_7) * 1 ≤ 4398046511104)) then
            (impl_HitBy_l3 N x2_1 x9_3 x10_4 n_6 k3_0_8) (x5_2 ++ r18_7) (IntKind.wrap .i64 (x11_5 + (1 : Int)))
          else none)
      else none
    else
      k3_0_8 x5_2
noncomputable def impl_HitBy (N : Nat) (a0 : QILLIE) (a1 : (List Int)) (kf : (List Int) → Option Ret) : Option Ret :=
  impl_HitBy_l3 N a0 a1 (List.length a1 : Int) N (fun (z5_10 : (List Int)) =>
    slices_Sort_int N z5_10 (fun (z5_11 : (List Int)) =>
      slices_Compact_int N z5_11 kf)) ([] : (List Int)) (0 : Int)
noncomputable def impl_AttackersOf_l5 (x1_2 : Int) (x14_4 : (List (List Int))) (x15_5 : Int) : Nat → ((List Int) → Option Ret) → (List Int) → Int → Option Ret
  | 0, _, _, _ => none
  | n_7 + 1, k5_0_9, x5_3, x16_6 =>
    bif (decide (x16_6 < x15_5)) then
      bif (inB x16_6 (List.length x14_4)) then
        bif (inB (1 : Int) (List.length (List.getD x14_4 (Int.toNat x16_6) ([] : (List Int))))) then
          bif ((List.getD (List.getD x14_4 (Int.toNat x16_6) ([] : (List Int))) (Int.toNat (1 : Int)) (0 : Int)) == x1_2) then
            bif (inB (0 : Int) (List.length (List.getD x14_4 (Int.toNat x16_6) ([] : (List Int))))) then
              bif (decide ((List.length x5_3 + List.length [(List.getD (List.getD x14_4 (Int.toNat x16_6) ([] : (List Int))) (Int.toNat (0 : Int)) (0 : Int))]) * 1 ≤ 4398046511104)) then
                (impl_AttackersOf_l5 x1_2 x14_4 x15_5 n_7 k5_0_9) (x5_3 ++ [(List.getD (List.getD x14_4 (Int.toNat x16_6) ([] : (List Int))) (Int.toNat (0 : Int)) (0 : Int))]) (IntKind.wrap .i64 (x16_6 + (1 : Int)))
              else none
            else none
          else
            (impl_AttackersOf_l5 x1_2 x14_4 x15_5 n_7 k5_0_9) x5_3 (IntKind.wrap .i64 (x16_6 + (1 : Int)))
        else none
      else none
    else
      k5_0_9 x5_3
noncomputable def impl_AttackersOf (N : Nat) (a0 : QILLIE) (a1 : Int) (kf : (List Int) → Option Ret) : Option Ret :=
  impl_IsGraph N a0 (fun (r10_1 : Bool) =>
    bif (!r10_1) then
      kf ([] : (List Int))
    else
      impl_AttackersOf_l5 a1 a0.2 (List.length a0.2 : Int) N kf ([] : (List Int)) (0 : Int))
noncomputable def impl_Defends_l5 (N : Nat) (x7_5 : (List Int)) (x25_6 : (List Int)) (x26_7 : Int) : Nat → (Option Ret) → (Bool → Option Ret) → Int → Option Ret
  | 0, _, _, _ => none
  | n_9 + 1, k5_0_11, k5_1_12, x27_8 =>
    bif (decide (x27_8 < x26_7)) then
      bif (inB x27_8 (List.length x25_6)) then
        slices_Contains_int N x7_5 (List.getD x25_6 (Int.toNat x27_8) (0 : Int)) (fun (r33_10 : Bool) =>
          bif (!r33_10) then
            k5_1_12 false
          else
            (impl_Defends_l5 N x7_5 x25_6 x26_7 n_9 k5_0_11 k5_1_12) (IntKind.wrap .i64 (x27_8 + (1 : Int))))
      else none
    else
      k5_0_11
noncomputable def impl_Defends (N : Nat) (a0 : QILLIE) (a1 : (List Int)) (a2 : Int) (kf : Bool → Option Ret) : Option Ret :=
  impl_IsSet N a0 a1 (fun (r12_1 : Bool) =>
    bif (!r12_1) then
      kf false
    else
      impl_isClaim N a0 a2 (fun (r17_2 : Bool) =>
        bif (!r17_2) then
          kf false
        else
          impl_HitBy N a0 a1 (fun (r22_3 : (List Int)) =>
            impl_AttackersOf N a0 a2 (fun (r25_4 : (List Int)) =>
              impl_Defends_l5 N r22_3 r25_4 (List.length r25_4 : Int) N (kf true) kf (0 : Int)))))
noncomputable def impl_DefendedBy_l5 (N : Nat) (x1_2 : (List Int)) (x2_3 : QILLIE) (x14_5 : Int) : Nat → ((List Int) → Option Ret) → (List Int) → Int → Option Ret
  | 0, _, _, _ => none
  | n_7 + 1, k5_0_10, x5_4, x15_6 =>
    bif (decide (x15_6 < x14_5)) then
      impl_Defends N x2_3 x1_2 x15_6 (fun (r21_8 : Bool) =>
        bif r21_8 then
          bif (decide ((List.length x5_4 + List.length [x15_6]) * 1 ≤ 4398046511104)) then
            (impl_DefendedBy_l5 N x1_2 x2_3 x14_5 n_7 k5_0_10) (x5_4 ++ [x15_6]) (IntKind.wrap .i64 (x15_6 + (1 : Int)))
          else none
        else
          (impl_DefendedBy_l5 N x1_2 x2_3 x14_5 n_7 k5_0_10) x5_4 (IntKind.wrap .i64 (x15_6 + (1 : Int))))
    else
      k5_0_10 x5_4
noncomputable def impl_DefendedBy (N : Nat) (a0 : QILLIE) (a1 : (List Int)) (kf : (List Int) → Option Ret) : Option Ret :=
  impl_IsSet N a0 a1 (fun (r10_1 : Bool) =>
    bif (!r10_1) then
      kf ([] : (List Int))
    else
      impl_DefendedBy_l5 N a1 a0 a0.1 N kf ([] : (List Int)) (0 : Int))
noncomputable def slices_Equal_int_l4 (x0_1 : (List Int)) (x1_2 : (List Int)) (x12_3 : Int) : Nat → (Option Ret) → (Bool → Option Ret) → Int → Option Ret
  | 0, _, _, _ => none
  | n_5 + 1, k4_0_6, k4_1_7, x13_4 =>
    bif (decide (x13_4 < x12_3)) then
      bif (inB x13_4 (List.length x0_1)) then
        bif (inB x13_4 (List.length x1_2)) then
          bif ((List.getD x0_1 (Int.toNat x13_4) (0 : Int)) != (List.getD x1_2 (Int.toNat x13_4) (0 : Int))) then
            k4_1_7 false
          else
            (slices_Equal_int_l4 x0_1 x1_2 x12_3 n_5 k4_0_6 k4_1_7) (IntKind.wrap .i64 (x13_4 + (1 : Int)))
        else none
      else none
    else
      k4_0_6
noncomputable def slices_Equal_int (N : Nat) (a0 : (List Int)) (a1 : (List Int)) (kf : Bool → Option Ret) : Option Ret :=
  bif ((List.length a0 : Int) != (List.length a1 : Int)) then
    kf false
  else
    slices_Equal_int_l4 a0 a1 (List.length a0 : Int) N (kf true) kf (0 : Int)
noncomputable def impl_rounds_l4 (N : Nat) (x1_2 : QILLIE) : Nat → ((List (List Int)) → Option Ret) → (List (List Int)) → Option Ret
  | 0, _, _ => none
  | n_4 + 1, k4_0_7, x3_3 =>
    bif (inB (IntKind.wrap .i64 ((List.length x3_3 : Int) - (1 : Int))) (List.length x3_3)) then
      impl_DefendedBy N x1_2 (List.getD x3_3 (Int.toNat (IntKind.wrap .i64 ((List.length x3_3 : Int) - (1 : Int)))) ([] : (List Int))) (fun (r20_5 : (List Int)) =>
        slices_Equal_int N r20_5 (List.getD x3_3 (Int.toNat (IntKind.wrap .i64 ((List.length x3_3 : Int) - (1 : Int)))) ([] : (List Int))) (fun (r23_6 : Bool) =>
          bif r23_6 then
            k4_0_7 x3_3
          else
            bif (decide ((List.length x3_3 + List.length [r20_5]) * 1 ≤ 4398046511104)) then
              (impl_rounds_l4 N x1_2 n_4 k4_0_7) (x3_3 ++ [r20_5])
            else none))
    else none
noncomputable def impl_rounds (N : Nat) (a0 : QILLIE) (kf : (List (List Int)) → Option Ret) : Option Ret :=
  impl_IsGraph N a0 (fun (r9_1 : Bool) =>
    bif (!r9_1) then
      kf [([] : (List Int))]
    else
      impl_rounds_l4 N a0 N kf [([] : (List Int))])
noncomputable def impl_Grounded (N : Nat) (a0 : QILLIE) (kf : (List Int) → Option Ret) : Option Ret :=
  impl_rounds N a0 (fun (r5_1 : (List (List Int))) =>
    bif (inB (IntKind.wrap .i64 ((List.length r5_1 : Int) - (1 : Int))) (List.length r5_1)) then
      kf (List.getD r5_1 (Int.toNat (IntKind.wrap .i64 ((List.length r5_1 : Int) - (1 : Int)))) ([] : (List Int)))
    else none)
noncomputable def impl_Labels_l7 (N : Nat) (x4_5 : (List Int)) (x5_6 : (List Int)) (x18_7 : Int) : Nat → ((List ByteArray) → Option Ret) → (List ByteArray) → Int → Option Ret
  | 0, _, _, _ => none
  | n_9 + 1, k7_0_13, x3_4, x19_8 =>
    bif (decide (x19_8 < x18_7)) then
      slices_Contains_int N x4_5 x19_8 (fun (r28_10 : Bool) =>
        bif r28_10 then
          bif (decide ((List.length x3_4 + List.length [s_in]) * 1 ≤ 4398046511104)) then
            (impl_Labels_l7 N x4_5 x5_6 x18_7 n_9 k7_0_13) (x3_4 ++ [s_in]) (IntKind.wrap .i64 (x19_8 + (1 : Int)))
          else none
        else
          slices_Contains_int N x5_6 x19_8 (fun (r35_11 : Bool) =>
            bif r35_11 then
              bif (decide ((List.length x3_4 + List.length [s_out]) * 1 ≤ 4398046511104)) then
                (impl_Labels_l7 N x4_5 x5_6 x18_7 n_9 k7_0_13) (x3_4 ++ [s_out]) (IntKind.wrap .i64 (x19_8 + (1 : Int)))
              else none
            else
              bif (decide ((List.length x3_4 + List.length [s_open]) * 1 ≤ 4398046511104)) then
                (impl_Labels_l7 N x4_5 x5_6 x18_7 n_9 k7_0_13) (x3_4 ++ [s_open]) (IntKind.wrap .i64 (x19_8 + (1 : Int)))
              else none))
    else
      k7_0_13 x3_4
noncomputable def impl_Labels (N : Nat) (a0 : QILLIE) (kf : (List ByteArray) → Option Ret) : Option Ret :=
  impl_IsGraph N a0 (fun (r9_1 : Bool) =>
    bif (!r9_1) then
      kf ([] : (List ByteArray))
    else
      impl_Grounded N a0 (fun (r13_2 : (List Int)) =>
        impl_HitBy N a0 r13_2 (fun (r16_3 : (List Int)) =>
          impl_Labels_l7 N r13_2 r16_3 a0.1 N kf ([] : (List ByteArray)) (0 : Int))))
noncomputable def impl_OpenClaims_l3 (x8_3 : (List ByteArray)) (x9_4 : Int) : Nat → ((List Int) → Option Ret) → (List Int) → Int → Option Ret
  | 0, _, _, _ => none
  | n_6 + 1, k3_0_8, x3_2, x10_5 =>
    bif (decide (x10_5 < x9_4)) then
      bif (inB x10_5 (List.length x8_3)) then
        bif (ByteArray.toList (List.getD x8_3 (Int.toNat x10_5) ByteArray.empty) == ByteArray.toList s_open) then
          bif (decide ((List.length x3_2 + List.length [x10_5]) * 1 ≤ 4398046511104)) then
            (impl_OpenClaims_l3 x8_3 x9_4 n_6 k3_0_8) (x3_2 ++ [x10_5]) (IntKind.wrap .i64 (x10_5 + (1 : Int)))
          else none
        else
          (impl_OpenClaims_l3 x8_3 x9_4 n_6 k3_0_8) x3_2 (IntKind.wrap .i64 (x10_5 + (1 : Int)))
      else none
    else
      k3_0_8 x3_2
noncomputable def impl_OpenClaims (N : Nat) (a0 : QILLIE) (kf : (List Int) → Option Ret) : Option Ret :=
  impl_Labels N a0 (fun (r8_1 : (List ByteArray)) =>
    impl_OpenClaims_l3 r8_1 (List.length r8_1 : Int) N kf ([] : (List Int)) (0 : Int))
noncomputable def impl_OpenShare (N : Nat) (a0 : QILLIE) (kf : Int → Option Ret) : Option Ret :=
  bif (a0.1 == (0 : Int)) then
    kf (0 : Int)
  else
    impl_IsGraph N a0 (fun (r8_1 : Bool) =>
      bif (!r8_1) then
        kf (0 : Int)
      else
        impl_OpenClaims N a0 (fun (r12_2 : (List Int)) =>
          bif (!decide (a0.1 = 0)) then
            kf (IntKind.wrap .i64 (Int.tdiv (IntKind.wrap .i64 ((100 : Int) * (List.length r12_2 : Int))) a0.1))
          else none))
noncomputable def spec_l1Int (N : Nat) (a0 : QLIIIE) (a1 : (List Int)) (kf : Int → QLIIIE → Option Ret) : Option Ret :=
  spec_l1Below N a0 (List.length a1 : Int) (fun (r9_1 : Int) (z0_2 : QLIIIE) =>
    bif (inB r9_1 (List.length a1)) then
      kf (List.getD a1 (Int.toNat r9_1) (0 : Int)) z0_2
    else none)
noncomputable def spec_LastSeal (N : Nat) (a0 : (List QIIIIE)) (kf : Int → Option Ret) : Option Ret :=
  bif ((List.length a0 : Int) == (0 : Int)) then
    kf (0 : Int)
  else
    bif (inB (IntKind.wrap .i64 ((List.length a0 : Int) - (1 : Int))) (List.length a0)) then
      kf (List.getD a0 (Int.toNat (IntKind.wrap .i64 ((List.length a0 : Int) - (1 : Int)))) zQIIIIE).2.2.2
    else none
noncomputable def spec_Mod (N : Nat) (a0 : Int) (a1 : Int) (kf : Int → Option Ret) : Option Ret :=
  spec_l1In N a1 (1 : Int) (1000000000000 : Int) (fun (r6_1 : Bool) =>
    bif (!r6_1) then
      kf (0 : Int)
    else
      bif (!decide (a1 = 0)) then
        bif (!decide (a1 = 0)) then
          kf (Int.tmod (IntKind.wrap .i64 ((Int.tmod a0 a1) + a1)) a1)
        else none
      else none)
noncomputable def spec_Hash_l3 (N : Nat) (x0_1 : (List Int)) : Nat → (Int → Option Ret) → Int → Int → Option Ret
  | 0, _, _, _ => none
  | n_4 + 1, k3_0_6, x3_2, x4_3 =>
    bif (decide (x4_3 < (List.length x0_1 : Int))) then
      bif (inB x4_3 (List.length x0_1)) then
        spec_Mod N (List.getD x0_1 (Int.toNat x4_3) (0 : Int)) (2147483647 : Int) (fun (r17_5 : Int) =>
          (spec_Hash_l3 N x0_1 n_4 k3_0_6) (Int.tmod (IntKind.wrap .i64 ((IntKind.wrap .i64 ((IntKind.wrap .i64 (x3_2 * (1000003 : Int))) + r17_5)) + (13 : Int))) (2147483647 : Int)) (IntKind.wrap .i64 (x4_3 + (1 : Int))))
      else none
    else
      k3_0_6 x3_2
noncomputable def spec_Hash (N : Nat) (a0 : (List Int)) (kf : Int → Option Ret) : Option Ret :=
  spec_Hash_l3 N a0 N kf (11 : Int) (0 : Int)
noncomputable def spec_l27Seal (N : Nat) (a0 : Int) (a1 : QIIIIE) (kf : Int → Option Ret) : Option Ret :=
  spec_Hash N [a0, a1.1, a1.2.1, a1.2.2.1] kf
noncomputable def spec_AreMinutes_l3 (N : Nat) (x0_1 : (List QIIIIE)) : Nat → (Option Ret) → (Bool → Option Ret) → Int → Int → Option Ret
  | 0, _, _, _, _ => none
  | n_4 + 1, k3_0_8, k3_1_9, x3_2, x4_3 =>
    bif (decide (x4_3 < (List.length x0_1 : Int))) then
      bif (decide ((List.length x0_1 : Int) ≤ (200 : Int))) then
        bif (inB x4_3 (List.length x0_1)) then
          spec_l27Seal N x3_2 (List.getD x0_1 (Int.toNat x4_3) zQIIIIE) (fun (r23_5 : Int) =>
            bif ((List.getD x0_1 (Int.toNat x4_3) zQIIIIE).1 != (IntKind.wrap .i64 (x4_3 + (1 : Int)))) then
              k3_1_9 false
            else
              spec_l1In N (List.getD x0_1 (Int.toNat x4_3) zQIIIIE).2.1 (1 : Int) (9 : Int) (fun (r32_6 : Bool) =>
                bif (!r32_6) then
                  k3_1_9 false
                else
                  spec_l1In N (List.getD x0_1 (Int.toNat x4_3) zQIIIIE).2.2.1 (0 : Int) (99 : Int) (fun (r38_7 : Bool) =>
                    bif (!r38_7) then
                      k3_1_9 false
                    else
                      bif ((List.getD x0_1 (Int.toNat x4_3) zQIIIIE).2.2.2 != r23_5) then
                        k3_1_9 false
                      else
                        (spec_AreMinutes_l3 N x0_1 n_4 k3_0_8 k3_1_9) r23_5 (IntKind.wrap .i64 (x4_3 + (1 : Int))))))
        else none
      else
        k3_0_8
    else
      k3_0_8
noncomputable def spec_AreMinutes (N : Nat) (a0 : (List QIIIIE)) (kf : Bool → Option Ret) : Option Ret :=
  spec_AreMinutes_l3 N a0 N (kf (decide ((List.length a0 : Int) ≤ (200 : Int)))) kf (0 : Int) (0 : Int)
noncomputable def spec_WriteLine (N : Nat) (a0 : (List QIIIIE)) (a1 : Int) (a2 : Int) (kf : (List QIIIIE) → Bool → Option Ret) : Option Ret :=
  spec_LastSeal N a0 (fun (r17_1 : Int) =>
    spec_l27Seal N r17_1 ((IntKind.wrap .i64 ((List.length a0 : Int) + (1 : Int))), (a1, (a2, (0 : Int)))) (fun (r19_2 : Int) =>
      bif (decide ((List.length ([] : (List QIIIIE)) + List.length a0) * 4 ≤ 4398046511104)) then
        bif (decide ((List.length (([] : (List QIIIIE)) ++ a0) + List.length [((IntKind.wrap .i64 ((List.length a0 : Int) + (1 : Int))), (a1, (a2, r19_2)))]) * 4 ≤ 4398046511104)) then
          spec_AreMinutes N ((([] : (List QIIIIE)) ++ a0) ++ [((IntKind.wrap .i64 ((List.length a0 : Int) + (1 : Int))), (a1, (a2, r19_2)))]) (fun (r28_3 : Bool) =>
            bif (!r28_3) then
              bif (decide ((List.length ([] : (List QIIIIE)) + List.length a0) * 4 ≤ 4398046511104)) then
                kf (([] : (List QIIIIE)) ++ a0) false
              else none
            else
              kf ((([] : (List QIIIIE)) ++ a0) ++ [((IntKind.wrap .i64 ((List.length a0 : Int) + (1 : Int))), (a1, (a2, r19_2)))]) true)
        else none
      else none))
noncomputable def spec_l19Any (N : Nat) (a0 : QLIIIE) (kf : (List QIIIIILIE) → QLIIIE → Option Ret) : Option Ret :=
  spec_l19Draw N a0 (fun (r6_1 : (List QIIIIILIE)) (z0_2 : QLIIIE) =>
    spec_l1Below N z0_2 (List.length r6_1 : Int) (fun (r10_3 : Int) (z0_4 : QLIIIE) =>
      spec_l1Below N z0_4 (14 : Int) (fun (r12_5 : Int) (z0_6 : QLIIIE) =>
        bif (r12_5 == (0 : Int)) then
          spec_l1Int N z0_6 [(0 : Int), (2 : Int), (99 : Int), (100 : Int)] (fun (r19_7 : Int) (z0_8 : QLIIIE) =>
            bif (inB r10_3 (List.length r6_1)) then
              share (List.set r6_1 (Int.toNat r10_3) (r19_7, (List.getD r6_1 (Int.toNat r10_3) zQIIIIILIE).2)) (fun (w3_9 : (List QIIIIILIE)) =>
                kf w3_9 z0_8)
            else none)
        else
          bif (r12_5 == (1 : Int)) then
            spec_l1Int N z0_6 [(-1 : Int), (9 : Int)] (fun (r28_10 : Int) (z0_11 : QLIIIE) =>
              bif (inB r10_3 (List.length r6_1)) then
                share (List.set r6_1 (Int.toNat r10_3) ((List.getD r6_1 (Int.toNat r10_3) zQIIIIILIE).1, ((List.getD r6_1 (Int.toNat r10_3) zQIIIIILIE).2.1, (r28_10, (List.getD r6_1 (Int.toNat r10_3) zQIIIIILIE).2.2.2)))) (fun (w3_12 : (List QIIIIILIE)) =>
                  kf w3_12 z0_11)
              else none)
          else
            bif (r12_5 == (2 : Int)) then
              spec_l1Int N z0_6 [(-1 : Int), (100000 : Int), (100001 : Int)] (fun (r37_13 : Int) (z0_14 : QLIIIE) =>
                bif (inB r10_3 (List.length r6_1)) then
                  share (List.set r6_1 (Int.toNat r10_3) ((List.getD r6_1 (Int.toNat r10_3) zQIIIIILIE).1, ((List.getD r6_1 (Int.toNat r10_3) zQIIIIILIE).2.1, ((List.getD r6_1 (Int.toNat r10_3) zQIIIIILIE).2.2.1, (r37_13, (List.getD r6_1 (Int.toNat r10_3) zQIIIIILIE).2.2.2.2))))) (fun (w3_15 : (List QIIIIILIE)) =>
                    kf w3_15 z0_14)
                else none)
            else
              bif (r12_5 == (3 : Int)) then
                bif (inB r10_3 (List.length r6_1)) then
                  bif (decide ((List.length (List.getD r6_1 (Int.toNat r10_3) zQIIIIILIE).2.2.2.2.2 + List.length [(2 : Int)]) * 1 ≤ 4398046511104)) then
                    bif (inB r10_3 (List.length r6_1)) then
                      bif (Nat.beq (Int.toNat r10_3) (Int.toNat r10_3)) then
                        share (List.set r6_1 (Int.toNat r10_3) ((List.getD r6_1 (Int.toNat r10_3) zQIIIIILIE).1, ((List.getD r6_1 (Int.toNat r10_3) zQIIIIILIE).2.1, ((List.getD r6_1 (Int.toNat r10_3) zQIIIIILIE).2.2.1, ((List.getD r6_1 (Int.toNat r10_3) zQIIIIILIE).2.2.2.1, ((List.getD r6_1 (Int.toNat r10_3) zQIIIIILIE).2.2.2.2.1, ((List.getD r6_1 (Int.toNat r10_3) zQIIIIILIE).2.2.2.2.2 ++ [(2 : Int)]))))))) (fun (w3_16 : (List QIIIIILIE)) =>
                          kf w3_16 z0_6)
                      else none
                    else none
                  else none
                else none
              else
                bif (r12_5 == (4 : Int)) then
                  spec_l1Int N z0_6 [(0 : Int), (99 : Int), (100 : Int)] (fun (r59_17 : Int) (z0_18 : QLIIIE) =>
                    bif (inB r10_3 (List.length r6_1)) then
                      share (List.set r6_1 (Int.toNat r10_3) ((List.getD r6_1 (Int.toNat r10_3) zQIIIIILIE).1, (r59_17, (List.getD r6_1 (Int.toNat r10_3) zQIIIIILIE).2.2))) (fun (w3_19 : (List QIIIIILIE)) =>
                        kf w3_19 z0_18)
                    else none)
                else
                  kf r6_1 z0_6)))
noncomputable def spec_l21Any (N : Nat) (a0 : QLIIIE) (kf : (List QIILIE) → QLIIIE → Option Ret) : Option Ret :=
  spec_l21Draw N a0 (fun (r6_1 : (List QIILIE)) (z0_2 : QLIIIE) =>
    spec_l1Below N z0_2 (List.length r6_1 : Int) (fun (r10_3 : Int) (z0_4 : QLIIIE) =>
      spec_l1Below N z0_4 (12 : Int) (fun (r12_5 : Int) (z0_6 : QLIIIE) =>
        bif (r12_5 == (0 : Int)) then
          spec_l1Int N z0_6 [(0 : Int), (11 : Int), (99 : Int), (100 : Int)] (fun (r19_7 : Int) (z0_8 : QLIIIE) =>
            bif (inB r10_3 (List.length r6_1)) then
              share (List.set r6_1 (Int.toNat r10_3) (r19_7, (List.getD r6_1 (Int.toNat r10_3) zQIILIE).2)) (fun (w3_9 : (List QIILIE)) =>
                kf w3_9 z0_8)
            else none)
        else
          bif (r12_5 == (1 : Int)) then
            spec_l1Int N z0_6 [(0 : Int), (99 : Int), (100 : Int)] (fun (r28_10 : Int) (z0_11 : QLIIIE) =>
              bif (inB r10_3 (List.length r6_1)) then
                share (List.set r6_1 (Int.toNat r10_3) ((List.getD r6_1 (Int.toNat r10_3) zQIILIE).1, (r28_10, (List.getD r6_1 (Int.toNat r10_3) zQIILIE).2.2))) (fun (w3_12 : (List QIILIE)) =>
                  kf w3_12 z0_11)
              else none)
          else
            bif (r12_5 == (2 : Int)) then
              bif (inB r10_3 (List.length r6_1)) then
                share (List.set r6_1 (Int.toNat r10_3) ((List.getD r6_1 (Int.toNat r10_3) zQIILIE).1, ((List.getD r6_1 (Int.toNat r10_3) zQIILIE).2.1, [(4 : Int), (4 : Int)]))) (fun (w3_13 : (List QIILIE)) =>
                  kf w3_13 z0_6)
              else none
            else
              kf r6_1 z0_6)))
noncomputable def spec_l27Any_l3 (N : Nat) : Nat → (QLIIIE → (List QIIIIE) → Option Ret) → QLIIIE → (List QIIIIE) → Int → Option Ret
  | 0, _, _, _, _ => none
  | n_6 + 1, k3_0_13, x0_3, x3_4, x4_5 =>
    bif (decide (x4_5 > (0 : Int))) then
      spec_l1Below N x0_3 (9 : Int) (fun (r16_7 : Int) (z0_8 : QLIIIE) =>
        spec_l1Below N z0_8 (5 : Int) (fun (r19_9 : Int) (z0_10 : QLIIIE) =>
          spec_WriteLine N x3_4 (IntKind.wrap .i64 ((1 : Int) + r16_7)) r19_9 (fun (r20_11 : (List QIIIIE)) (r20_12 : Bool) =>
            (spec_l27Any_l3 N n_6 k3_0_13) z0_10 r20_11 (IntKind.wrap .i64 (x4_5 - (1 : Int))))))
    else
      k3_0_13 x0_3 x3_4
noncomputable def spec_l27Any (N : Nat) (a0 : QLIIIE) (kf : (List QIIIIE) → QLIIIE → Option Ret) : Option Ret :=
  spec_l1Below N a0 (9 : Int) (fun (r8_1 : Int) (z0_2 : QLIIIE) =>
    spec_l27Any_l3 N N (fun (z0_15 : QLIIIE) (z3_16 : (List QIIIIE)) =>
      bif (decide ((List.length z3_16 : Int) > (0 : Int))) then
        spec_l1Below N z0_15 (List.length z3_16 : Int) (fun (r29_17 : Int) (z0_18 : QLIIIE) =>
          spec_l1Below N z0_18 (10 : Int) (fun (r31_19 : Int) (z0_20 : QLIIIE) =>
            bif (r31_19 == (0 : Int)) then
              spec_l1Int N z0_20 [(-1 : Int), (99 : Int), (100 : Int)] (fun (r38_21 : Int) (z0_22 : QLIIIE) =>
                bif (inB r29_17 (List.length z3_16)) then
                  share (List.set z3_16 (Int.toNat r29_17) ((List.getD z3_16 (Int.toNat r29_17) zQIIIIE).1, ((List.getD z3_16 (Int.toNat r29_17) zQIIIIE).2.1, (r38_21, (List.getD z3_16 (Int.toNat r29_17) zQIIIIE).2.2.2)))) (fun (w3_23 : (List QIIIIE)) =>
                    kf w3_23 z0_22)
                else none)
            else
              bif (r31_19 == (1 : Int)) then
                bif (inB r29_17 (List.length z3_16)) then
                  bif (inB r29_17 (List.length z3_16)) then
                    share (List.set z3_16 (Int.toNat r29_17) ((List.getD z3_16 (Int.toNat r29_17) zQIIIIE).1, ((List.getD z3_16 (Int.toNat r29_17) zQIIIIE).2.1, ((List.getD z3_16 (Int.toNat r29_17) zQIIIIE).2.2.1, (IntKind.wrap .i64 ((List.getD z3_16 (Int.toNat r29_17) zQIIIIE).2.2.2 + (1 : Int))))))) (fun (w3_24 : (List QIIIIE)) =>
                      kf w3_24 z0_20)
                  else none
                else none
              else
                bif (r31_19 == (2 : Int)) then
                  bif (inB r29_17 (List.length z3_16)) then
                    bif (inB r29_17 (List.length z3_16)) then
                      share (List.set z3_16 (Int.toNat r29_17) ((IntKind.wrap .i64 ((List.getD z3_16 (Int.toNat r29_17) zQIIIIE).1 + (1 : Int))), (List.getD z3_16 (Int.toNat r29_17) zQIIIIE).2)) (fun (w3_25 : (List QIIIIE)) =>
                        kf w3_25 z0_20)
                    else none
                  else none
                else
                  kf z3_16 z0_20))
      else
        kf z3_16 z0_15) z0_2 ([] : (List QIIIIE)) r8_1)
noncomputable def spec_DrawClubWins (N : Nat) (a0 : (List Int)) (kf : (List QIIIIILIE) → Int → Option Ret) : Option Ret :=
  spec_l1New N a0 (fun (r7_1 : QLIIIE) =>
    spec_l19Any N r7_1 (fun (r9_2 : (List QIIIIILIE)) (z4_3 : QLIIIE) =>
      spec_l1Below N z4_3 (5 : Int) (fun (r12_4 : Int) (z4_5 : QLIIIE) =>
        kf r9_2 r12_4)))
noncomputable def impl_ClubWins_l5 (x1_2 : Int) (x12_4 : (List QIIIIILIE)) (x13_5 : Int) : Nat → (Int → Option Ret) → Int → Int → Option Ret
  | 0, _, _, _ => none
  | n_7 + 1, k5_0_9, x5_3, x14_6 =>
    bif (decide (x14_6 < x13_5)) then
      bif (inB x14_6 (List.length x12_4)) then
        bif ((List.getD x12_4 (Int.toNat x14_6) zQIIIIILIE).2.1 == x1_2) then
          (impl_ClubWins_l5 x1_2 x12_4 x13_5 n_7 k5_0_9) (IntKind.wrap .i64 (x5_3 + (List.getD x12_4 (Int.toNat x14_6) zQIIIIILIE).2.2.1)) (IntKind.wrap .i64 (x14_6 + (1 : Int)))
        else
          (impl_ClubWins_l5 x1_2 x12_4 x13_5 n_7 k5_0_9) x5_3 (IntKind.wrap .i64 (x14_6 + (1 : Int)))
      else none
    else
      k5_0_9 x5_3
noncomputable def impl_ClubWins (N : Nat) (a0 : (List QIIIIILIE)) (a1 : Int) (kf : Int → Option Ret) : Option Ret :=
  impl_AreTeams N a0 (fun (r9_1 : Bool) =>
    bif (!r9_1) then
      kf (0 : Int)
    else
      impl_ClubWins_l5 a1 a0 (List.length a0 : Int) N kf (0 : Int) (0 : Int))
noncomputable def spec_DrawAveragePoints (N : Nat) (a0 : (List Int)) (kf : QIIIIILIE → Option Ret) : Option Ret :=
  spec_l1New N a0 (fun (r5_1 : QLIIIE) =>
    spec_l19Any N r5_1 (fun (r7_2 : (List QIIIIILIE)) (z3_3 : QLIIIE) =>
      bif (inB (0 : Int) (List.length r7_2)) then
        kf (List.getD r7_2 (Int.toNat (0 : Int)) zQIIIIILIE)
      else none))
noncomputable def spec_DrawSideShare (N : Nat) (a0 : (List Int)) (kf : QIIIIILIE → Option Ret) : Option Ret :=
  spec_DrawAveragePoints N a0 kf
noncomputable def impl_SideShare (N : Nat) (a0 : QIIIIILIE) (kf : Int → Option Ret) : Option Ret :=
  bif ((List.length a0.2.2.2.2.2 : Int) == (0 : Int)) then
    kf (0 : Int)
  else
    impl_InRange N a0.2.2.2.2.1 (0 : Int) (List.length a0.2.2.2.2.2 : Int) (fun (r13_1 : Bool) =>
      bif (!r13_1) then
        kf (0 : Int)
      else
        bif (!decide ((List.length a0.2.2.2.2.2 : Int) = 0)) then
          kf (IntKind.wrap .i64 (Int.tdiv (IntKind.wrap .i64 ((100 : Int) * a0.2.2.2.2.1)) (List.length a0.2.2.2.2.2 : Int)))
        else none)
noncomputable def spec_SideShare (N : Nat) (a0 : QIIIIILIE) (kf : Int → Option Ret) : Option Ret :=
  bif ((List.length a0.2.2.2.2.2 : Int) == (0 : Int)) then
    kf (0 : Int)
  else
    spec_l1In N a0.2.2.2.2.1 (0 : Int) (List.length a0.2.2.2.2.2 : Int) (fun (r13_1 : Bool) =>
      bif (!r13_1) then
        kf (0 : Int)
      else
        bif (!decide ((List.length a0.2.2.2.2.2 : Int) = 0)) then
          kf (IntKind.wrap .i64 (Int.tdiv (IntKind.wrap .i64 ((100 : Int) * a0.2.2.2.2.1)) (List.length a0.2.2.2.2.2 : Int)))
        else none)
noncomputable def spec_DrawAreJudges (N : Nat) (a0 : (List Int)) (kf : (List QIILIE) → Option Ret) : Option Ret :=
  spec_l1New N a0 (fun (r5_1 : QLIIIE) =>
    spec_l21Any N r5_1 (fun (r7_2 : (List QIILIE)) (z3_3 : QLIIIE) =>
      kf r7_2))
noncomputable def spec_DrawBusiestJudge (N : Nat) (a0 : (List Int)) (kf : (List QIILIE) → Option Ret) : Option Ret :=
  spec_DrawAreJudges N a0 kf
noncomputable def impl_BusiestJudge_l5 (x12_2 : (List QIILIE)) (x13_3 : Int) : Nat → (QIILIE → Option Ret) → QIILIE → Int → Option Ret
  | 0, _, _, _ => none
  | n_5 + 1, k5_0_7, x3_1, x14_4 =>
    bif (decide (x14_4 < x13_3)) then
      bif (inB x14_4 (List.length x12_2)) then
        bif (decide ((List.length (List.getD x12_2 (Int.toNat x14_4) zQIILIE).2.2 : Int) > (List.length x3_1.2.2 : Int))) then
          (impl_BusiestJudge_l5 x12_2 x13_3 n_5 k5_0_7) (List.getD x12_2 (Int.toNat x14_4) zQIILIE) (IntKind.wrap .i64 (x14_4 + (1 : Int)))
        else
          (impl_BusiestJudge_l5 x12_2 x13_3 n_5 k5_0_7) x3_1 (IntKind.wrap .i64 (x14_4 + (1 : Int)))
      else none
    else
      k5_0_7 x3_1
noncomputable def impl_BusiestJudge (N : Nat) (a0 : (List QIILIE)) (kf : Int → Option Ret) : Option Ret :=
  bif ((List.length a0 : Int) == (0 : Int)) then
    kf (0 : Int)
  else
    bif (inB (0 : Int) (List.length a0)) then
      impl_BusiestJudge_l5 a0 (List.length a0 : Int) N (fun (z3_9 : QIILIE) =>
        kf z3_9.1) (List.getD a0 (Int.toNat (0 : Int)) zQIILIE) (0 : Int)
    else none
noncomputable def spec_l4Copy_l3 (x1_1 : QILLIE) (x2_2 : QILLIE) : Nat → (QILLIE → Option Ret) → QILLIE → Int → Option Ret
  | 0, _, _, _ => none
  | n_5 + 1, k3_0_6, x3_3, x4_4 =>
    bif (decide (x4_4 < (List.length x1_1.2 : Int))) then
      bif (inB x4_4 (List.length x1_1.2)) then
        bif (decide ((List.length ([] : (List Int)) + List.length (List.getD x1_1.2 (Int.toNat x4_4) ([] : (List Int)))) * 1 ≤ 4398046511104)) then
          bif (decide ((List.length x3_3.2 + List.length [(([] : (List Int)) ++ (List.getD x1_1.2 (Int.toNat x4_4) ([] : (List Int))))]) * 1 ≤ 4398046511104)) then
            (spec_l4Copy_l3 x1_1 x2_2 n_5 k3_0_6) (x3_3.1, (x3_3.2 ++ [(([] : (List Int)) ++ (List.getD x1_1.2 (Int.toNat x4_4) ([] : (List Int))))])) (IntKind.wrap .i64 (x4_4 + (1 : Int)))
          else none
        else none
      else none
    else
      k3_0_6 x3_3
noncomputable def spec_l4Copy (N : Nat) (a0 : QILLIE) (kf : QILLIE → Option Ret) : Option Ret :=
  spec_l4Copy_l3 a0 ((0 : Int), ([] : (List (List Int)))) N kf (a0.1, ([] : (List (List Int)))) (0 : Int)
noncomputable def spec_AddAttack_j3 (N : Nat) (a0 : QILLIE) (kf : QILLIE → Bool → Option Ret) (y8_14 : QILLIE) : Option Ret :=
  spec_IsGraph N a0 (fun (r81_15 : Bool) =>
    bif (!r81_15) then
      spec_l4Copy N a0 (fun (r89_17 : QILLIE) =>
        kf r89_17 false)
    else
      spec_IsGraph N y8_14 (fun (r85_16 : Bool) =>
        bif (!r85_16) then
          spec_l4Copy N a0 (fun (r89_18 : QILLIE) =>
            kf r89_18 false)
        else
          kf y8_14 true))
noncomputable def spec_AddAttack_j1 (rc4_11 : QILLIE → Bool → Int → Option Ret) (x10_7 : Int) (x1_1 : Int) (x2_2 : Int) (x3_3 : QILLIE) (x8_5 : QILLIE) : Option Ret :=
  bif (decide ((List.length ([] : (List Int)) + List.length (List.getD x3_3.2 (Int.toNat x10_7) ([] : (List Int)))) * 1 ≤ 4398046511104)) then
    bif (decide ((List.length (x8_5.2 ++ [[x1_1, x2_2]]) + List.length [(([] : (List Int)) ++ (List.getD x3_3.2 (Int.toNat x10_7) ([] : (List Int))))]) * 1 ≤ 4398046511104)) then
      rc4_11 (x8_5.1, ((x8_5.2 ++ [[x1_1, x2_2]]) ++ [(([] : (List Int)) ++ (List.getD x3_3.2 (Int.toNat x10_7) ([] : (List Int))))])) true (IntKind.wrap .i64 (x10_7 + (1 : Int)))
    else none
  else none
noncomputable def spec_AddAttack_j2 (rc4_11 : QILLIE → Bool → Int → Option Ret) (x10_7 : Int) (x3_3 : QILLIE) (x8_5 : QILLIE) (x9_6 : Bool) : Option Ret :=
  bif (decide ((List.length ([] : (List Int)) + List.length (List.getD x3_3.2 (Int.toNat x10_7) ([] : (List Int)))) * 1 ≤ 4398046511104)) then
    bif (decide ((List.length x8_5.2 + List.length [(([] : (List Int)) ++ (List.getD x3_3.2 (Int.toNat x10_7) ([] : (List Int))))]) * 1 ≤ 4398046511104)) then
      rc4_11 (x8_5.1, (x8_5.2 ++ [(([] : (List Int)) ++ (List.getD x3_3.2 (Int.toNat x10_7) ([] : (List Int))))])) x9_6 (IntKind.wrap .i64 (x10_7 + (1 : Int)))
    else none
  else none
noncomputable def spec_AddAttack_l4 (N : Nat) (x1_1 : Int) (x2_2 : Int) (x3_3 : QILLIE) (x6_4 : QILLIE) : Nat → (QILLIE → Bool → Option Ret) → QILLIE → Bool → Int → Option Ret
  | 0, _, _, _, _ => none
  | n_8 + 1, k4_0_10, x8_5, x9_6, x10_7 =>
    bif (decide (x10_7 < (List.length x3_3.2 : Int))) then
      spec_IsGraph N x3_3 (fun (r22_9 : Bool) =>
        bif r22_9 then
          bif (inB x10_7 (List.length x3_3.2)) then
            bif (!x9_6) then
              bif (inB (0 : Int) (List.length (List.getD x3_3.2 (Int.toNat x10_7) ([] : (List Int))))) then
                bif (decide ((List.getD (List.getD x3_3.2 (Int.toNat x10_7) ([] : (List Int))) (Int.toNat (0 : Int)) (0 : Int)) > x1_1)) then
                  bif (decide ((List.length x8_5.2 + List.length [[x1_1, x2_2]]) * 1 ≤ 4398046511104)) then
                    spec_AddAttack_j1 (spec_AddAttack_l4 N x1_1 x2_2 x3_3 x6_4 n_8 k4_0_10) x10_7 x1_1 x2_2 x3_3 x8_5
                  else none
                else
                  bif (inB (0 : Int) (List.length (List.getD x3_3.2 (Int.toNat x10_7) ([] : (List Int))))) then
                    bif ((List.getD (List.getD x3_3.2 (Int.toNat x10_7) ([] : (List Int))) (Int.toNat (0 : Int)) (0 : Int)) == x1_1) then
                      bif (inB (1 : Int) (List.length (List.getD x3_3.2 (Int.toNat x10_7) ([] : (List Int))))) then
                        bif (decide ((List.getD (List.getD x3_3.2 (Int.toNat x10_7) ([] : (List Int))) (Int.toNat (1 : Int)) (0 : Int)) > x2_2)) then
                          bif (decide ((List.length x8_5.2 + List.length [[x1_1, x2_2]]) * 1 ≤ 4398046511104)) then
                            spec_AddAttack_j1 (spec_AddAttack_l4 N x1_1 x2_2 x3_3 x6_4 n_8 k4_0_10) x10_7 x1_1 x2_2 x3_3 x8_5
                          else none
                        else
                          spec_AddAttack_j2 (spec_AddAttack_l4 N x1_1 x2_2 x3_3 x6_4 n_8 k4_0_10) x10_7 x3_3 x8_5 x9_6
                      else none
                    else
                      spec_AddAttack_j2 (spec_AddAttack_l4 N x1_1 x2_2 x3_3 x6_4 n_8 k4_0_10) x10_7 x3_3 x8_5 x9_6
                  else none
              else none
            else
              spec_AddAttack_j2 (spec_AddAttack_l4 N x1_1 x2_2 x3_3 x6_4 n_8 k4_0_10) x10_7 x3_3 x8_5 x9_6
          else none
        else
          k4_0_10 x8_5 x9_6)
    else
      k4_0_10 x8_5 x9_6
noncomputable def spec_AddAttack (N : Nat) (a0 : QILLIE) (a1 : Int) (a2 : Int) (kf : QILLIE → Bool → Option Ret) : Option Ret :=
  spec_AddAttack_l4 N a1 a2 a0 ((0 : Int), ([] : (List (List Int)))) N (fun (z8_12 : QILLIE) (z9_13 : Bool) =>
    bif (!z9_13) then
      bif (decide ((List.length z8_12.2 + List.length [[a1, a2]]) * 1 ≤ 4398046511104)) then
        spec_AddAttack_j3 N a0 kf (z8_12.1, (z8_12.2 ++ [[a1, a2]]))
      else none
    else
      spec_AddAttack_j3 N a0 kf z8_12) (a0.1, ([] : (List (List Int)))) false (0 : Int)
noncomputable def spec_l4Draw_l3 (N : Nat) (x2_6 : QILLIE) : Nat → (QLIIIE → QILLIE → Option Ret) → QLIIIE → QILLIE → Int → Option Ret
  | 0, _, _, _, _ => none
  | n_9 + 1, k3_0_16, x0_5, x3_7, x4_8 =>
    bif (decide (x4_8 > (0 : Int))) then
      spec_l1Below N x0_5 x3_7.1 (fun (r20_10 : Int) (z0_11 : QLIIIE) =>
        spec_l1Below N z0_11 x3_7.1 (fun (r24_12 : Int) (z0_13 : QLIIIE) =>
          spec_AddAttack N x3_7 r20_10 r24_12 (fun (r25_14 : QILLIE) (r25_15 : Bool) =>
            (spec_l4Draw_l3 N x2_6 n_9 k3_0_16) z0_13 r25_14 (IntKind.wrap .i64 (x4_8 - (1 : Int))))))
    else
      k3_0_16 x0_5 x3_7
noncomputable def spec_l4Draw (N : Nat) (a0 : QLIIIE) (kf : QILLIE → QLIIIE → Option Ret) : Option Ret :=
  spec_l1Below N a0 (6 : Int) (fun (r6_1 : Int) (z0_2 : QLIIIE) =>
    spec_l1Below N z0_2 (10 : Int) (fun (r10_3 : Int) (z0_4 : QLIIIE) =>
      spec_l4Draw_l3 N ((0 : Int), ([] : (List (List Int)))) N (fun (z0_18 : QLIIIE) (z3_19 : QILLIE) =>
        kf z3_19 z0_18) z0_4 ((IntKind.wrap .i64 ((1 : Int) + r6_1)), ([] : (List (List Int)))) r10_3))
noncomputable def spec_l4Raw (N : Nat) (a0 : QLIIIE) (kf : Int → QLIIIE → Option Ret) : Option Ret :=
  spec_l1Int N a0 [(-1 : Int), (0 : Int), (5 : Int), (10 : Int), (11 : Int), (9223372036854775807 : Int), (-9223372036854775808 : Int)] kf
noncomputable def spec_l4Any (N : Nat) (a0 : QLIIIE) (kf : QILLIE → QLIIIE → Option Ret) : Option Ret :=
  spec_l4Draw N a0 (fun (r5_1 : QILLIE) (z0_2 : QLIIIE) =>
    spec_l1Below N z0_2 (14 : Int) (fun (r7_3 : Int) (z0_4 : QLIIIE) =>
      bif (r7_3 == (0 : Int)) then
        spec_l4Raw N z0_4 (fun (r11_5 : Int) (z0_6 : QLIIIE) =>
          kf (r11_5, r5_1.2) z0_6)
      else
        bif (r7_3 == (1 : Int)) then
          bif (decide ((List.length r5_1.2 + List.length [[(0 : Int)]]) * 1 ≤ 4398046511104)) then
            kf (r5_1.1, (r5_1.2 ++ [[(0 : Int)]])) z0_4
          else none
        else
          bif (r7_3 == (2 : Int)) then
            spec_l1Below N z0_4 (7 : Int) (fun (r26_7 : Int) (z0_8 : QLIIIE) =>
              spec_l1Below N z0_8 (7 : Int) (fun (r28_9 : Int) (z0_10 : QLIIIE) =>
                bif (decide ((List.length r5_1.2 + List.length [[r26_7, r28_9]]) * 1 ≤ 4398046511104)) then
                  kf (r5_1.1, (r5_1.2 ++ [[r26_7, r28_9]])) z0_10
                else none))
          else
            kf r5_1 z0_4))
noncomputable def spec_DrawIsGraph (N : Nat) (a0 : (List Int)) (kf : QILLIE → Option Ret) : Option Ret :=
  spec_l1New N a0 (fun (r5_1 : QLIIIE) =>
    spec_l4Any N r5_1 (fun (r7_2 : QILLIE) (z3_3 : QLIIIE) =>
      kf r7_2))
noncomputable def spec_DrawOpenShare (N : Nat) (a0 : (List Int)) (kf : QILLIE → Option Ret) : Option Ret :=
  spec_DrawIsGraph N a0 kf
noncomputable def spec_DrawCountWhat (N : Nat) (a0 : (List Int)) (kf : (List QIIIIE) → Int → Option Ret) : Option Ret :=
  spec_l1New N a0 (fun (r7_1 : QLIIIE) =>
    spec_l27Any N r7_1 (fun (r9_2 : (List QIIIIE)) (z4_3 : QLIIIE) =>
      spec_l1Below N z4_3 (10 : Int) (fun (r12_4 : Int) (z4_5 : QLIIIE) =>
        kf r9_2 r12_4)))
noncomputable def impl_AveragePoints (N : Nat) (a0 : QIIIIILIE) (kf : Int → Option Ret) : Option Ret :=
  bif ((List.length a0.2.2.2.2.2 : Int) == (0 : Int)) then
    kf (0 : Int)
  else
    bif (decide (a0.2.2.2.1 < (0 : Int))) then
      kf (0 : Int)
    else
      bif (!decide ((List.length a0.2.2.2.2.2 : Int) = 0)) then
        kf (IntKind.wrap .i64 (Int.tdiv a0.2.2.2.1 (List.length a0.2.2.2.2.2 : Int)))
      else none
noncomputable def impl_CountWhat_l3 (x1_1 : Int) (x8_3 : (List QIIIIE)) (x9_4 : Int) : Nat → (Int → Option Ret) → Int → Int → Option Ret
  | 0, _, _, _ => none
  | n_6 + 1, k3_0_8, x5_2, x10_5 =>
    bif (decide (x10_5 < x9_4)) then
      bif (inB x10_5 (List.length x8_3)) then
        bif ((List.getD x8_3 (Int.toNat x10_5) zQIIIIE).2.1 == x1_1) then
          (impl_CountWhat_l3 x1_1 x8_3 x9_4 n_6 k3_0_8) (IntKind.wrap .i64 (x5_2 + (1 : Int))) (IntKind.wrap .i64 (x10_5 + (1 : Int)))
        else
          (impl_CountWhat_l3 x1_1 x8_3 x9_4 n_6 k3_0_8) x5_2 (IntKind.wrap .i64 (x10_5 + (1 : Int)))
      else none
    else
      k3_0_8 x5_2
noncomputable def impl_CountWhat (N : Nat) (a0 : (List QIIIIE)) (a1 : Int) (kf : Int → Option Ret) : Option Ret :=
  impl_CountWhat_l3 a1 a0 (List.length a0 : Int) N kf (0 : Int) (0 : Int)
abbrev TG0_laws_FnMeasured : Type := Nat → (List Int) → (Bool → Option Ret) → Option Ret
abbrev TG1_laws_FnMeasured : Type := Nat → (List Int) → ((List QIIIIILIE) → Int → Option Ret) → Option Ret
abbrev TG2_laws_FnMeasured : Type := Nat → (List QIIIIILIE) → Int → (Int → Option Ret) → Option Ret
abbrev TG3_laws_FnMeasured : Type := Nat → (List Int) → (QIIIIILIE → Option Ret) → Option Ret
abbrev TG4_laws_FnMeasured : Type := Nat → QIIIIILIE → (Int → Option Ret) → Option Ret
abbrev TG5_laws_FnMeasured : Type := Nat → (List Int) → ((List QIILIE) → Option Ret) → Option Ret
abbrev TG6_laws_FnMeasured : Type := Nat → (List QIILIE) → (Int → Option Ret) → Option Ret
abbrev TG7_laws_FnMeasured : Type := Nat → (List Int) → (QILLIE → Option Ret) → Option Ret
abbrev TG8_laws_FnMeasured : Type := Nat → QILLIE → (Int → Option Ret) → Option Ret
abbrev TG9_laws_FnMeasured : Type := Nat → (List Int) → ((List QIIIIE) → Int → Option Ret) → Option Ret
abbrev TG10_laws_FnMeasured : Type := Nat → (List QIIIIILIE) → (Int → Option Ret) → Option Ret
abbrev TG11_laws_FnMeasured : Type := Nat → (List QIIIIE) → Int → (Int → Option Ret) → Option Ret
abbrev TG12_laws_FnMeasured : Type := Nat → (List Int) → (List QIIIIILIE) → Int → Nat → (Int → Option Ret) → Int → Int → Option Ret
noncomputable def laws_FnMeasured_l6 (N : Nat) (x0_4 : (List Int)) (x3_5 : (List QIIIIILIE)) (x4_6 : Int) : Nat → (Int → Option Ret) → Int → Int → Option Ret
  | 0, _, _, _ => none
  | n_9 + 1, k6_0_11, x5_7, x6_8 =>
    bif (decide (x6_8 ≤ (3 : Int))) then
      impl_ClubWins N x3_5 x6_8 (fun (r29_10 : Int) =>
        (laws_FnMeasured_l6 N x0_4 x3_5 x4_6 n_9 k6_0_11) (IntKind.wrap .i64 (x5_7 + r29_10)) (IntKind.wrap .i64 (x6_8 + (1 : Int))))
    else
      k6_0_11 x5_7
noncomputable def laws_FnMeasured_g (g0 : TG0_laws_FnMeasured) (g1 : TG1_laws_FnMeasured) (g2 : TG2_laws_FnMeasured) (g3 : TG3_laws_FnMeasured) (g4 : TG4_laws_FnMeasured) (g5 : TG4_laws_FnMeasured) (g6 : TG5_laws_FnMeasured) (g7 : TG6_laws_FnMeasured) (g8 : TG7_laws_FnMeasured) (g9 : TG8_laws_FnMeasured) (g10 : TG9_laws_FnMeasured) (g11 : TG10_laws_FnMeasured) (g12 : TG4_laws_FnMeasured) (g13 : TG11_laws_FnMeasured) (g14 : TG12_laws_FnMeasured) (N : Nat) (a0 : (List Int)) (kf : Bool → Option Ret) : Option Ret :=
  g0 N a0 (fun (r16_1 : Bool) =>
    bif r16_1 then
      kf true
    else
      g1 N a0 (fun (r19_2 : (List QIIIIILIE)) (r19_3 : Int) =>
        g14 N a0 r19_2 r19_3 N (fun (z5_13 : Int) =>
          g3 N a0 (fun (r32_14 : QIIIIILIE) =>
            g4 N r32_14 (fun (r34_15 : Int) =>
              g5 N r32_14 (fun (r37_16 : Int) =>
                bif (r34_15 != r37_16) then
                  kf false
                else
                  g6 N a0 (fun (r40_17 : (List QIILIE)) =>
                    g7 N r40_17 (fun (r42_18 : Int) =>
                      g8 N a0 (fun (r44_19 : QILLIE) =>
                        g9 N r44_19 (fun (r46_20 : Int) =>
                          g10 N a0 (fun (r49_21 : (List QIIIIE)) (r49_22 : Int) =>
                            g11 N r19_2 (fun (r54_23 : Int) =>
                              bif (decide (z5_13 ≤ r54_23)) then
                                g2 N r19_2 r19_3 (fun (r59_24 : Int) =>
                                  bif (decide (r59_24 ≥ (0 : Int))) then
                                    bif (decide (r34_15 ≥ (0 : Int))) then
                                      bif (decide (r34_15 ≤ (100 : Int))) then
                                        g12 N r32_14 (fun (r72_25 : Int) =>
                                          bif (decide (r72_25 ≥ (0 : Int))) then
                                            bif (decide ((List.length r40_17 : Int) > (0 : Int))) then
                                              bif (decide (r46_20 ≥ (0 : Int))) then
                                                bif (decide (r46_20 ≤ (100 : Int))) then
                                                  g13 N r49_21 r49_22 (fun (r95_26 : Int) =>
                                                    kf (decide (r95_26 ≤ (List.length r49_21 : Int))))
                                                else
                                                  kf false
                                              else
                                                kf false
                                            else
                                              bif (r42_18 == (0 : Int)) then
                                                bif (decide (r46_20 ≥ (0 : Int))) then
                                                  bif (decide (r46_20 ≤ (100 : Int))) then
                                                    g13 N r49_21 r49_22 (fun (r95_27 : Int) =>
                                                      kf (decide (r95_27 ≤ (List.length r49_21 : Int))))
                                                  else
                                                    kf false
                                                else
                                                  kf false
                                              else
                                                kf false
                                          else
                                            kf false)
                                      else
                                        kf false
                                    else
                                      kf false
                                  else
                                    kf false)
                              else
                                kf false)))))))))) (0 : Int) (1 : Int)))
noncomputable def laws_FnMeasured (N : Nat) (a0 : (List Int)) (kf : Bool → Option Ret) : Option Ret := laws_FnMeasured_g laws_big spec_DrawClubWins impl_ClubWins spec_DrawSideShare impl_SideShare spec_SideShare spec_DrawBusiestJudge impl_BusiestJudge spec_DrawOpenShare impl_OpenShare spec_DrawCountWhat impl_TotalWins impl_AveragePoints impl_CountWhat laws_FnMeasured_l6 N a0 kf
end Go.Pv.R
