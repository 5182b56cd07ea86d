/- What the functions compute, as plain functions. -/
import Derived.Test.YtclodbdakphhfaaPv3
namespace Go.Pv.R
set_option linter.unusedVariables false
set_option linter.unusedSimpArgs false
abbrev tQIIIIE : Ty := (.pair (.int .i64) (.pair (.int .i64) (.pair (.int .i64) (.int .i64))))
abbrev QIIIIE : Type := (Int × (Int × (Int × Int)))
def zQIIIIE : QIIIIE := ((0 : Int), ((0 : Int), ((0 : Int), (0 : Int))))
abbrev tQILLIE : Ty := (.pair (.int .i64) (.sl (.sl (.int .i64))))
noncomputable def spec_l1In (N : Nat) (a0 : Int) (a1 : Int) (a2 : Int) (kf : Bool → Option Ret) : Option Ret :=
  bif (decide (a0 ≥ a1)) then
    kf (decide (a0 ≤ a2))
  else
    kf false
noncomputable def laws_szLineS (N : Nat) (a0 : (List QIIIIE)) (a1 : Int) (kf : Int → Option Ret) : Option Ret :=
  bif (decide ((IntKind.wrap .i64 (a1 - (List.length a0 : Int))) < (0 : Int))) then
    kf (-1 : Int)
  else
    kf (IntKind.wrap .i64 (a1 - (List.length a0 : Int)))
noncomputable def laws_toLine (N : Nat) (a0 : QIIIIE) (kf : QIIIIE → Option Ret) : Option Ret :=
  kf (a0.1, (a0.2.1, (a0.2.2.1, a0.2.2.2)))
noncomputable def laws_toLineS_l3 (N : Nat) (x0_1 : (List QIIIIE)) : Nat → ((List QIIIIE) → Option Ret) → (List QIIIIE) → Int → Option Ret
  | 0, _, _, _ => none
  | n_4 + 1, k3_0_6, x3_2, x4_3 =>
    bif (decide (x4_3 < (List.length x0_1 : Int))) then
      bif (inB x4_3 (List.length x0_1)) then
        laws_toLine N (List.getD x0_1 (Int.toNat x4_3) zQIIIIE) (fun (r20_5 : QIIIIE) =>
          bif (inB x4_3 (List.length x3_2)) then
            (laws_toLineS_l3 N x0_1 n_4 k3_0_6) (List.set x3_2 (Int.toNat x4_3) r20_5) (IntKind.wrap .i64 (x4_3 + (1 : Int)))
          else none)
      else none
    else
      k3_0_6 x3_2
noncomputable def laws_toLineS (N : Nat) (a0 : (List QIIIIE)) (kf : (List QIIIIE) → Option Ret) : Option Ret :=
  bif (decide ((List.length a0 : Int) = (List.length a0 : Int)) && decide ((0 : Int) ≤ (List.length a0 : Int)) && decide ((List.length a0 : Int) ≤ 1099511627776)) then
    laws_toLineS_l3 N a0 N kf (List.replicate (Int.toNat (List.length a0 : Int)) ((0 : Int), ((0 : Int), ((0 : Int), (0 : Int))))) (0 : Int)
  else none
noncomputable def spec_Mod (N : Nat) (a0 : Int) (a1 : Int) (kf : Int → Option Ret) : Option Ret :=
  spec_l1In N a1 (1 : Int) (1000000000000 : Int) (fun (r6_1 : Bool) =>
    bif (!r6_1) then
      kf (0 : Int)
    else
      bif (!decide (a1 = 0)) then
        bif (!decide (a1 = 0)) then
          kf (Int.tmod (IntKind.wrap .i64 ((Int.tmod a0 a1) + a1)) a1)
        else none
      else none)
noncomputable def spec_Hash_l3 (N : Nat) (x0_1 : (List Int)) : Nat → (Int → Option Ret) → Int → Int → Option Ret
  | 0, _, _, _ => none
  | n_4 + 1, k3_0_6, x3_2, x4_3 =>
    bif (decide (x4_3 < (List.length x0_1 : Int))) then
      bif (inB x4_3 (List.length x0_1)) then
        spec_Mod N (List.getD x0_1 (Int.toNat x4_3) (0 : Int)) (2147483647 : Int) (fun (r17_5 : Int) =>
          (spec_Hash_l3 N x0_1 n_4 k3_0_6) (Int.tmod (IntKind.wrap .i64 ((IntKind.wrap .i64 ((IntKind.wrap .i64 (x3_2 * (1000003 : Int))) + r17_5)) + (13 : Int))) (2147483647 : Int)) (IntKind.wrap .i64 (x4_3 + (1 : Int))))
      else none
    else
      k3_0_6 x3_2
noncomputable def spec_Hash (N : Nat) (a0 : (List Int)) (kf : Int → Option Ret) : Option Ret :=
  spec_Hash_l3 N a0 N kf (11 : Int) (0 : Int)
noncomputable def spec_l27Seal (N : Nat) (a0 : Int) (a1 : QIIIIE) (kf : Int → Option Ret) : Option Ret :=
  spec_Hash N [a0, a1.1, a1.2.1, a1.2.2.1] kf
noncomputable def spec_AreMinutes_l3 (N : Nat) (x0_1 : (List QIIIIE)) : Nat → (Option Ret) → (Bool → Option Ret) → Int → Int → Option Ret
  | 0, _, _, _, _ => none
  | n_4 + 1, k3_0_8, k3_1_9, x3_2, x4_3 =>
    bif (decide (x4_3 < (List.length x0_1 : Int))) then
      bif (decide ((List.length x0_1 : Int) ≤ (200 : Int))) then
        bif (inB x4_3 (List.length x0_1)) then
          spec_l27Seal N x3_2 (List.getD x0_1 (Int.toNat x4_3) zQIIIIE) (fun (r23_5 : Int) =>
            bif ((List.getD x0_1 (Int.toNat x4_3) zQIIIIE).1 != (IntKind.wrap .i64 (x4_3 + (1 : Int)))) then
              k3_1_9 false
            else
              spec_l1In N (List.getD x0_1 (Int.toNat x4_3) zQIIIIE).2.1 (1 : Int) (9 : Int) (fun (r32_6 : Bool) =>
                bif (!r32_6) then
                  k3_1_9 false
                else
                  spec_l1In N (List.getD x0_1 (Int.toNat x4_3) zQIIIIE).2.2.1 (0 : Int) (99 : Int) (fun (r38_7 : Bool) =>
                    bif (!r38_7) then
                      k3_1_9 false
                    else
                      bif ((List.getD x0_1 (Int.toNat x4_3) zQIIIIE).2.2.2 != r23_5) then
                        k3_1_9 false
                      else
                        (spec_AreMinutes_l3 N x0_1 n_4 k3_0_8 k3_1_9) r23_5 (IntKind.wrap .i64 (x4_3 + (1 : Int))))))
        else none
      else
        k3_0_8
    else
      k3_0_8
noncomputable def spec_AreMinutes (N : Nat) (a0 : (List QIIIIE)) (kf : Bool → Option Ret) : Option Ret :=
  spec_AreMinutes_l3 N a0 N (kf (decide ((List.length a0 : Int) ≤ (200 : Int)))) kf (0 : Int) (0 : Int)
noncomputable def spec_l10Put_j1 (a0 : (List Int)) (a1 : Int) (kf : (List Int) → Option Ret) (z5_7 : Int) : Option Ret :=
  bif (decide ((0 : Int) ≤ (0 : Int)) && decide ((0 : Int) ≤ z5_7) && decide (z5_7 ≤ (List.length a0 : Int))) then
    bif (decide ((0 : Int) ≤ z5_7) && decide (z5_7 ≤ (List.length a0 : Int)) && decide ((List.length a0 : Int) ≤ (List.length a0 : Int))) then
      bif (decide ((List.length ([] : (List Int)) + List.length (List.drop (Int.toNat (0 : Int)) (List.take (Int.toNat z5_7) a0))) * 1 ≤ 4398046511104)) then
        bif (decide ((List.length (([] : (List Int)) ++ (List.drop (Int.toNat (0 : Int)) (List.take (Int.toNat z5_7) a0))) + List.length [a1]) * 1 ≤ 4398046511104)) then
          bif (decide ((List.length ((([] : (List Int)) ++ (List.drop (Int.toNat (0 : Int)) (List.take (Int.toNat z5_7) a0))) ++ [a1]) + List.length (List.drop (Int.toNat z5_7) (List.take (Int.toNat (List.length a0 : Int)) a0))) * 1 ≤ 4398046511104)) then
            kf (((([] : (List Int)) ++ (List.drop (Int.toNat (0 : Int)) (List.take (Int.toNat z5_7) a0))) ++ [a1]) ++ (List.drop (Int.toNat z5_7) (List.take (Int.toNat (List.length a0 : Int)) a0)))
          else none
        else none
      else none
    else none
  else none
noncomputable def spec_l10Put_l2 (x0_1 : (List Int)) (x1_2 : Int) : Nat → (Int → Option Ret) → Int → Option Ret
  | 0, _, _ => none
  | n_4 + 1, k2_0_5, x5_3 =>
    bif (decide (x5_3 < (List.length x0_1 : Int))) then
      bif (inB x5_3 (List.length x0_1)) then
        bif (decide ((List.getD x0_1 (Int.toNat x5_3) (0 : Int)) < x1_2)) then
          (spec_l10Put_l2 x0_1 x1_2 n_4 k2_0_5) (IntKind.wrap .i64 (x5_3 + (1 : Int)))
        else
          k2_0_5 x5_3
      else none
    else
      k2_0_5 x5_3
noncomputable def spec_l10Put (N : Nat) (a0 : (List Int)) (a1 : Int) (kf : (List Int) → Option Ret) : Option Ret :=
  spec_l10Put_l2 a0 a1 N (fun (z5_7 : Int) =>
    bif (decide (z5_7 < (List.length a0 : Int))) then
      bif (inB z5_7 (List.length a0)) then
        bif ((List.getD a0 (Int.toNat z5_7) (0 : Int)) == a1) then
          bif (decide ((List.length ([] : (List Int)) + List.length a0) * 1 ≤ 4398046511104)) then
            kf (([] : (List Int)) ++ a0)
          else none
        else
          spec_l10Put_j1 a0 a1 kf z5_7
      else none
    else
      spec_l10Put_j1 a0 a1 kf z5_7) (0 : Int)
noncomputable def impl_InRange (N : Nat) (a0 : Int) (a1 : Int) (a2 : Int) (kf : Bool → Option Ret) : Option Ret :=
  bif (decide (a1 ≤ a0)) then
    kf (decide (a0 ≤ a2))
  else
    kf false
noncomputable def impl_Mod (N : Nat) (a0 : Int) (a1 : Int) (kf : Int → Option Ret) : Option Ret :=
  impl_InRange N a1 (1 : Int) (1000000000000 : Int) (fun (r7_1 : Bool) =>
    bif (!r7_1) then
      kf (0 : Int)
    else
      bif (!decide (a1 = 0)) then
        bif (decide ((Int.tmod a0 a1) < (0 : Int))) then
          kf (IntKind.wrap .i64 ((Int.tmod a0 a1) + a1))
        else
          kf (Int.tmod a0 a1)
      else none)
noncomputable def impl_fold (N : Nat) (a0 : Int) (a1 : Int) (kf : Int → Option Ret) : Option Ret :=
  impl_Mod N a1 (2147483647 : Int) (fun (r8_1 : Int) =>
    kf (Int.tmod (IntKind.wrap .i64 ((IntKind.wrap .i64 ((IntKind.wrap .i64 (a0 * (1000003 : Int))) + r8_1)) + (13 : Int))) (2147483647 : Int)))
noncomputable def impl_Hash_l3 (N : Nat) (x6_2 : (List Int)) (x7_3 : Int) : Nat → (Int → Option Ret) → Int → Int → Option Ret
  | 0, _, _, _ => none
  | n_5 + 1, k3_0_7, x3_1, x8_4 =>
    bif (decide (x8_4 < x7_3)) then
      bif (inB x8_4 (List.length x6_2)) then
        impl_fold N x3_1 (List.getD x6_2 (Int.toNat x8_4) (0 : Int)) (fun (r14_6 : Int) =>
          (impl_Hash_l3 N x6_2 x7_3 n_5 k3_0_7) r14_6 (IntKind.wrap .i64 (x8_4 + (1 : Int))))
      else none
    else
      k3_0_7 x3_1
noncomputable def impl_Hash (N : Nat) (a0 : (List Int)) (kf : Int → Option Ret) : Option Ret :=
  impl_Hash_l3 N a0 (List.length a0 : Int) N kf (11 : Int) (0 : Int)
noncomputable def impl_lineSeal (N : Nat) (a0 : Int) (a1 : QIIIIE) (kf : Int → Option Ret) : Option Ret :=
  impl_Hash N [a0, a1.1, a1.2.1, a1.2.2.1] kf
noncomputable def impl_AreMinutes_l5 (N : Nat) (x9_2 : (List QIIIIE)) (x10_3 : Int) : Nat → (Option Ret) → (Bool → Option Ret) → Int → Int → Option Ret
  | 0, _, _, _, _ => none
  | n_5 + 1, k5_0_9, k5_1_10, x3_1, x11_4 =>
    bif (decide (x11_4 < x10_3)) then
      bif (inB x11_4 (List.length x9_2)) then
        bif ((List.getD x9_2 (Int.toNat x11_4) zQIIIIE).1 != (IntKind.wrap .i64 (x11_4 + (1 : Int)))) then
          k5_1_10 false
        else
          impl_InRange N (List.getD x9_2 (Int.toNat x11_4) zQIIIIE).2.1 (1 : Int) (9 : Int) (fun (r24_6 : Bool) =>
            bif (!r24_6) then
              k5_1_10 false
            else
              impl_InRange N (List.getD x9_2 (Int.toNat x11_4) zQIIIIE).2.2.1 (0 : Int) (99 : Int) (fun (r30_7 : Bool) =>
                bif (!r30_7) then
                  k5_1_10 false
                else
                  impl_lineSeal N x3_1 (List.getD x9_2 (Int.toNat x11_4) zQIIIIE) (fun (r38_8 : Int) =>
                    bif ((List.getD x9_2 (Int.toNat x11_4) zQIIIIE).2.2.2 != r38_8) then
                      k5_1_10 false
                    else
                      (impl_AreMinutes_l5 N x9_2 x10_3 n_5 k5_0_9 k5_1_10) (List.getD x9_2 (Int.toNat x11_4) zQIIIIE).2.2.2 (IntKind.wrap .i64 (x11_4 + (1 : Int))))))
      else none
    else
      k5_0_9
noncomputable def impl_AreMinutes (N : Nat) (a0 : (List QIIIIE)) (kf : Bool → Option Ret) : Option Ret :=
  bif (decide ((List.length a0 : Int) > (200 : Int))) then
    kf false
  else
    impl_AreMinutes_l5 N a0 (List.length a0 : Int) N (kf true) kf (0 : Int) (0 : Int)
noncomputable def slices_Sort_int (N : Nat) (a0 : (List Int)) (kf : (List Int) → Option Ret) : Option Ret :=
  bif (Nat.blt (List.length a0) 4611686018427387904) then
    kf (sortL a0)
  else none
noncomputable def laws_eqIntS_l4 (x0_1 : (List Int)) (x1_2 : (List Int)) : Nat → (Option Ret) → (Bool → Option Ret) → Int → Option Ret
  | 0, _, _, _ => none
  | n_4 + 1, k4_0_5, k4_1_6, x5_3 =>
    bif (decide (x5_3 < (List.length x0_1 : Int))) then
      bif (inB x5_3 (List.length x0_1)) then
        bif (inB x5_3 (List.length x1_2)) then
          bif ((List.getD x0_1 (Int.toNat x5_3) (0 : Int)) != (List.getD x1_2 (Int.toNat x5_3) (0 : Int))) then
            k4_1_6 false
          else
            (laws_eqIntS_l4 x0_1 x1_2 n_4 k4_0_5 k4_1_6) (IntKind.wrap .i64 (x5_3 + (1 : Int)))
        else none
      else none
    else
      k4_0_5
noncomputable def laws_eqIntS (N : Nat) (a0 : (List Int)) (a1 : (List Int)) (kf : Bool → Option Ret) : Option Ret :=
  bif ((List.length a0 : Int) != (List.length a1 : Int)) then
    kf false
  else
    laws_eqIntS_l4 a0 a1 N (kf true) kf (0 : Int)
noncomputable def laws_eqLine (N : Nat) (a0 : QIIIIE) (a1 : QIIIIE) (kf : Bool → Option Ret) : Option Ret :=
  bif (a0.1 != a1.1) then
    kf false
  else
    bif (a0.2.1 != a1.2.1) then
      kf false
    else
      bif (a0.2.2.1 != a1.2.2.1) then
        kf false
      else
        bif (a0.2.2.2 != a1.2.2.2) then
          kf false
        else
          kf true
noncomputable def laws_eqLineS_l4 (N : Nat) (x0_1 : (List QIIIIE)) (x1_2 : (List QIIIIE)) : Nat → (Option Ret) → (Bool → Option Ret) → Int → Option Ret
  | 0, _, _, _ => none
  | n_4 + 1, k4_0_6, k4_1_7, x5_3 =>
    bif (decide (x5_3 < (List.length x0_1 : Int))) then
      bif (inB x5_3 (List.length x0_1)) then
        bif (inB x5_3 (List.length x1_2)) then
          laws_eqLine N (List.getD x0_1 (Int.toNat x5_3) zQIIIIE) (List.getD x1_2 (Int.toNat x5_3) zQIIIIE) (fun (r25_5 : Bool) =>
            bif (!r25_5) then
              k4_1_7 false
            else
              (laws_eqLineS_l4 N x0_1 x1_2 n_4 k4_0_6 k4_1_7) (IntKind.wrap .i64 (x5_3 + (1 : Int))))
        else none
      else none
    else
      k4_0_6
noncomputable def laws_eqLineS (N : Nat) (a0 : (List QIIIIE)) (a1 : (List QIIIIE)) (kf : Bool → Option Ret) : Option Ret :=
  bif ((List.length a0 : Int) != (List.length a1 : Int)) then
    kf false
  else
    laws_eqLineS_l4 N a0 a1 N (kf true) kf (0 : Int)
noncomputable def laws_markLineS_l2  : Nat → ((List QIIIIE) → Int → Option Ret) → (List QIIIIE) → Int → Int → Option Ret
  | 0, _, _, _, _ => none
  | n_4 + 1, k2_0_9, x0_1, x1_2, x5_3 =>
    bif (decide (x5_3 < (List.length x0_1 : Int))) then
      bif (inB x5_3 (List.length x0_1)) then
        share (List.set x0_1 (Int.toNat x5_3) (x1_2, (List.getD x0_1 (Int.toNat x5_3) zQIIIIE).2)) (fun (w0_5 : (List QIIIIE)) =>
          bif (inB x5_3 (List.length w0_5)) then
            share (List.set w0_5 (Int.toNat x5_3) ((List.getD w0_5 (Int.toNat x5_3) zQIIIIE).1, ((IntKind.wrap .i64 (x1_2 + (1 : Int))), (List.getD w0_5 (Int.toNat x5_3) zQIIIIE).2.2))) (fun (w0_6 : (List QIIIIE)) =>
              bif (inB x5_3 (List.length w0_6)) then
                share (List.set w0_6 (Int.toNat x5_3) ((List.getD w0_6 (Int.toNat x5_3) zQIIIIE).1, ((List.getD w0_6 (Int.toNat x5_3) zQIIIIE).2.1, ((IntKind.wrap .i64 ((IntKind.wrap .i64 (x1_2 + (1 : Int))) + (1 : Int))), (List.getD w0_6 (Int.toNat x5_3) zQIIIIE).2.2.2)))) (fun (w0_7 : (List QIIIIE)) =>
                  bif (inB x5_3 (List.length w0_7)) then
                    share (List.set w0_7 (Int.toNat x5_3) ((List.getD w0_7 (Int.toNat x5_3) zQIIIIE).1, ((List.getD w0_7 (Int.toNat x5_3) zQIIIIE).2.1, ((List.getD w0_7 (Int.toNat x5_3) zQIIIIE).2.2.1, (IntKind.wrap .i64 ((IntKind.wrap .i64 ((IntKind.wrap .i64 (x1_2 + (1 : Int))) + (1 : Int))) + (1 : Int))))))) (fun (w0_8 : (List QIIIIE)) =>
                      (laws_markLineS_l2 n_4 k2_0_9) w0_8 (IntKind.wrap .i64 ((IntKind.wrap .i64 ((IntKind.wrap .i64 ((IntKind.wrap .i64 (x1_2 + (1 : Int))) + (1 : Int))) + (1 : Int))) + (1 : Int))) (IntKind.wrap .i64 (x5_3 + (1 : Int))))
                  else none)
              else none)
          else none)
      else none
    else
      k2_0_9 x0_1 x1_2
noncomputable def laws_markLineS (N : Nat) (a0 : (List QIIIIE)) (a1 : Int) (kf : Int → (List QIIIIE) → Option Ret) : Option Ret :=
  laws_markLineS_l2 N (fun (z0_11 : (List QIIIIE)) (z1_12 : Int) =>
    kf z1_12 z0_11) a0 a1 (0 : Int)
noncomputable def laws_markIntS_l2  : Nat → ((List Int) → Int → Option Ret) → (List Int) → Int → Int → Option Ret
  | 0, _, _, _, _ => none
  | n_4 + 1, k2_0_5, x0_1, x1_2, x5_3 =>
    bif (decide (x5_3 < (List.length x0_1 : Int))) then
      bif (inB x5_3 (List.length x0_1)) then
        (laws_markIntS_l2 n_4 k2_0_5) (List.set x0_1 (Int.toNat x5_3) x1_2) (IntKind.wrap .i64 (x1_2 + (1 : Int))) (IntKind.wrap .i64 (x5_3 + (1 : Int)))
      else none
    else
      k2_0_5 x0_1 x1_2
noncomputable def laws_markIntS (N : Nat) (a0 : (List Int)) (a1 : Int) (kf : Int → (List Int) → Option Ret) : Option Ret :=
  laws_markIntS_l2 N (fun (z0_7 : (List Int)) (z1_8 : Int) =>
    kf z1_8 z0_7) a0 a1 (0 : Int)
noncomputable def laws_heldIntS_l2 (x0_1 : (List Int)) : Nat → (Int → Option Ret) → (Int → Option Ret) → Int → Int → Option Ret
  | 0, _, _, _, _ => none
  | n_4 + 1, k2_0_5, k2_1_6, x1_2, x5_3 =>
    bif (decide (x5_3 < (List.length x0_1 : Int))) then
      bif (inB x5_3 (List.length x0_1)) then
        bif ((List.getD x0_1 (Int.toNat x5_3) (0 : Int)) != x1_2) then
          k2_1_6 (-1 : Int)
        else
          (laws_heldIntS_l2 x0_1 n_4 k2_0_5 k2_1_6) (IntKind.wrap .i64 (x1_2 + (1 : Int))) (IntKind.wrap .i64 (x5_3 + (1 : Int)))
      else none
    else
      k2_0_5 x1_2
noncomputable def laws_heldIntS (N : Nat) (a0 : (List Int)) (a1 : Int) (kf : Int → Option Ret) : Option Ret :=
  laws_heldIntS_l2 a0 N kf kf a1 (0 : Int)
noncomputable def spec_l24Without_l3 (x0_1 : (List Int)) (x1_2 : Int) : Nat → ((List Int) → Option Ret) → (List Int) → Int → Option Ret
  | 0, _, _, _ => none
  | n_5 + 1, k3_0_7, x5_3, x6_4 =>
    bif (decide (x6_4 < (List.length x0_1 : Int))) then
      bif (inB x6_4 (List.length x0_1)) then
        bif ((List.getD x0_1 (Int.toNat x6_4) (0 : Int)) != x1_2) then
          bif (inB x6_4 (List.length x0_1)) then
            bif (decide ((List.length x5_3 + List.length [(List.getD x0_1 (Int.toNat x6_4) (0 : Int))]) * 1 ≤ 4398046511104)) then
              (spec_l24Without_l3 x0_1 x1_2 n_5 k3_0_7) (x5_3 ++ [(List.getD x0_1 (Int.toNat x6_4) (0 : Int))]) (IntKind.wrap .i64 (x6_4 + (1 : Int)))
            else none
          else none
        else
          (spec_l24Without_l3 x0_1 x1_2 n_5 k3_0_7) x5_3 (IntKind.wrap .i64 (x6_4 + (1 : Int)))
      else none
    else
      k3_0_7 x5_3
noncomputable def spec_l24Without (N : Nat) (a0 : (List Int)) (a1 : Int) (kf : (List Int) → Option Ret) : Option Ret :=
  spec_l24Without_l3 a0 a1 N kf ([] : (List Int)) (0 : Int)
noncomputable def spec_TeamsIn_l3 (N : Nat) (x0_1 : (List QIIIIE)) : Nat → ((List Int) → Option Ret) → (List Int) → Int → Option Ret
  | 0, _, _, _ => none
  | n_4 + 1, k3_0_9, x3_2, x4_3 =>
    bif (decide (x4_3 < (List.length x0_1 : Int))) then
      spec_AreMinutes N x0_1 (fun (r12_5 : Bool) =>
        bif r12_5 then
          bif (inB x4_3 (List.length x0_1)) then
            bif ((List.getD x0_1 (Int.toNat x4_3) zQIIIIE).2.1 == (1 : Int)) then
              bif (inB x4_3 (List.length x0_1)) then
                spec_l10Put N x3_2 (List.getD x0_1 (Int.toNat x4_3) zQIIIIE).2.2.1 (fun (r29_6 : (List Int)) =>
                  (spec_TeamsIn_l3 N x0_1 n_4 k3_0_9) r29_6 (IntKind.wrap .i64 (x4_3 + (1 : Int))))
              else none
            else
              bif ((List.getD x0_1 (Int.toNat x4_3) zQIIIIE).2.1 == (6 : Int)) then
                bif (inB x4_3 (List.length x0_1)) then
                  spec_l24Without N x3_2 (List.getD x0_1 (Int.toNat x4_3) zQIIIIE).2.2.1 (fun (r38_7 : (List Int)) =>
                    (spec_TeamsIn_l3 N x0_1 n_4 k3_0_9) r38_7 (IntKind.wrap .i64 (x4_3 + (1 : Int))))
                else none
              else
                (spec_TeamsIn_l3 N x0_1 n_4 k3_0_9) x3_2 (IntKind.wrap .i64 (x4_3 + (1 : Int)))
          else none
        else
          k3_0_9 x3_2)
    else
      k3_0_9 x3_2
noncomputable def spec_TeamsIn (N : Nat) (a0 : (List QIIIIE)) (kf : (List Int) → Option Ret) : Option Ret :=
  spec_TeamsIn_l3 N a0 N kf ([] : (List Int)) (0 : Int)
noncomputable def impl_without_l3 (x1_1 : Int) (x9_3 : (List Int)) (x10_4 : Int) : Nat → ((List Int) → Option Ret) → (List Int) → Int → Option Ret
  | 0, _, _, _ => none
  | n_6 + 1, k3_0_8, x5_2, x11_5 =>
    bif (decide (x11_5 < x10_4)) then
      bif (inB x11_5 (List.length x9_3)) then
        bif ((List.getD x9_3 (Int.toNat x11_5) (0 : Int)) != x1_1) then
          bif (decide ((List.length x5_2 + List.length [(List.getD x9_3 (Int.toNat x11_5) (0 : Int))]) * 1 ≤ 4398046511104)) then
            (impl_without_l3 x1_1 x9_3 x10_4 n_6 k3_0_8) (x5_2 ++ [(List.getD x9_3 (Int.toNat x11_5) (0 : Int))]) (IntKind.wrap .i64 (x11_5 + (1 : Int)))
          else none
        else
          (impl_without_l3 x1_1 x9_3 x10_4 n_6 k3_0_8) x5_2 (IntKind.wrap .i64 (x11_5 + (1 : Int)))
      else none
    else
      k3_0_8 x5_2
noncomputable def impl_without (N : Nat) (a0 : (List Int)) (a1 : Int) (kf : (List Int) → Option Ret) : Option Ret :=
  impl_without_l3 a1 a0 (List.length a0 : Int) N kf ([] : (List Int)) (0 : Int)
noncomputable def slices_Index_int_l2 (x0_1 : (List Int)) (x1_2 : Int) (x7_3 : Int) : Nat → (Option Ret) → (Int → Option Ret) → Int → Option Ret
  | 0, _, _, _ => none
  | n_5 + 1, k2_0_6, k2_1_7, x8_4 =>
    bif (decide (x8_4 < x7_3)) then
      bif (inB x8_4 (List.length x0_1)) then
        bif (x1_2 == (List.getD x0_1 (Int.toNat x8_4) (0 : Int))) then
          k2_1_7 x8_4
        else
          (slices_Index_int_l2 x0_1 x1_2 x7_3 n_5 k2_0_6 k2_1_7) (IntKind.wrap .i64 (x8_4 + (1 : Int)))
      else none
    else
      k2_0_6
noncomputable def slices_Index_int (N : Nat) (a0 : (List Int)) (a1 : Int) (kf : Int → Option Ret) : Option Ret :=
  slices_Index_int_l2 a0 a1 (List.length a0 : Int) N (kf (-1 : Int)) kf (0 : Int)
noncomputable def slices_Contains_int (N : Nat) (a0 : (List Int)) (a1 : Int) (kf : Bool → Option Ret) : Option Ret :=
  slices_Index_int N a0 a1 (fun (r7_1 : Int) =>
    kf (decide (r7_1 ≥ (0 : Int))))
noncomputable def impl_TeamsIn_l5 (N : Nat) (x11_3 : (List QIIIIE)) (x12_4 : Int) : Nat → ((List Int) → Option Ret) → (List Int) → Int → Option Ret
  | 0, _, _, _ => none
  | n_6 + 1, k5_0_10, x3_2, x13_5 =>
    bif (decide (x13_5 < x12_4)) then
      bif (inB x13_5 (List.length x11_3)) then
        bif ((List.getD x11_3 (Int.toNat x13_5) zQIIIIE).2.1 == (6 : Int)) then
          impl_without N x3_2 (List.getD x11_3 (Int.toNat x13_5) zQIIIIE).2.2.1 (fun (r24_7 : (List Int)) =>
            (impl_TeamsIn_l5 N x11_3 x12_4 n_6 k5_0_10) r24_7 (IntKind.wrap .i64 (x13_5 + (1 : Int))))
        else
          bif ((List.getD x11_3 (Int.toNat x13_5) zQIIIIE).2.1 == (1 : Int)) then
            slices_Contains_int N x3_2 (List.getD x11_3 (Int.toNat x13_5) zQIIIIE).2.2.1 (fun (r33_8 : Bool) =>
              bif (!r33_8) then
                bif (decide ((List.length x3_2 + List.length [(List.getD x11_3 (Int.toNat x13_5) zQIIIIE).2.2.1]) * 1 ≤ 4398046511104)) then
                  (impl_TeamsIn_l5 N x11_3 x12_4 n_6 k5_0_10) (x3_2 ++ [(List.getD x11_3 (Int.toNat x13_5) zQIIIIE).2.2.1]) (IntKind.wrap .i64 (x13_5 + (1 : Int)))
                else none
              else
                (impl_TeamsIn_l5 N x11_3 x12_4 n_6 k5_0_10) x3_2 (IntKind.wrap .i64 (x13_5 + (1 : Int))))
          else
            (impl_TeamsIn_l5 N x11_3 x12_4 n_6 k5_0_10) x3_2 (IntKind.wrap .i64 (x13_5 + (1 : Int)))
      else none
    else
      k5_0_10 x3_2
noncomputable def impl_TeamsIn (N : Nat) (a0 : (List QIIIIE)) (kf : (List Int) → Option Ret) : Option Ret :=
  impl_AreMinutes N a0 (fun (r8_1 : Bool) =>
    bif (!r8_1) then
      kf ([] : (List Int))
    else
      impl_TeamsIn_l5 N a0 (List.length a0 : Int) N (fun (z3_12 : (List Int)) =>
        slices_Sort_int N z3_12 kf) ([] : (List Int)) (0 : Int))
noncomputable def laws_FnExactTeamsIn (N : Nat) (a0 : (List QIIIIE)) (kf : Bool → Option Ret) : Option Ret :=
  laws_szLineS N a0 (1048576 : Int) (fun (r13_1 : Int) =>
    bif (decide (r13_1 < (0 : Int))) then
      kf true
    else
      laws_toLineS N a0 (fun (r17_2 : (List QIIIIE)) =>
        spec_TeamsIn N r17_2 (fun (r18_3 : (List Int)) =>
          laws_toLineS N a0 (fun (r20_4 : (List QIIIIE)) =>
            impl_TeamsIn N r20_4 (fun (r22_5 : (List Int)) =>
              laws_eqIntS N r22_5 r18_3 (fun (r25_6 : Bool) =>
                bif (!r25_6) then
                  kf false
                else
                  laws_toLineS N a0 (fun (r29_7 : (List QIIIIE)) =>
                    laws_eqLineS N r20_4 r29_7 (fun (r30_8 : Bool) =>
                      bif (!r30_8) then
                        kf false
                      else
                        laws_markLineS N r20_4 (1 : Int) (fun (r34_9 : Int) (z5_10 : (List QIIIIE)) =>
                          bif (decide (r34_9 < (0 : Int))) then
                            kf false
                          else
                            laws_eqIntS N r22_5 r18_3 (fun (r40_11 : Bool) =>
                              bif (!r40_11) then
                                kf false
                              else
                                laws_markIntS N r22_5 (1 : Int) (fun (r45_12 : Int) (z6_13 : (List Int)) =>
                                  laws_heldIntS N z6_13 (1 : Int) (fun (r48_14 : Int) =>
                                    bif (decide (r48_14 < (0 : Int))) then
                                      kf false
                                    else
                                      bif (r48_14 != r45_12) then
                                        kf false
                                      else
                                        laws_toLineS N a0 (fun (r55_15 : (List QIIIIE)) =>
                                          impl_TeamsIn N r55_15 (fun (r56_16 : (List Int)) =>
                                            laws_eqIntS N r56_16 r18_3 (fun (r59_17 : Bool) =>
                                              bif (!r59_17) then
                                                kf false
                                              else
                                                laws_heldIntS N z6_13 (1 : Int) (fun (r63_18 : Int) =>
                                                  bif (decide (r63_18 < (0 : Int))) then
                                                    kf false
                                                  else
                                                    bif (r63_18 != r45_12) then
                                                      kf false
                                                    else
                                                      kf true))))))))))))))))
end Go.Pv.R
