/- What the functions compute, as plain functions. -/
import Derived.Test.YtopkjfgmjgghmaaPv3
namespace Go.Pv.R
set_option linter.unusedVariables false
set_option linter.unusedSimpArgs false
abbrev tQIIIIE : Ty := (.pair (.int .i64) (.pair (.int .i64) (.pair (.int .i64) (.int .i64))))
abbrev tQIILIE : Ty := (.pair (.int .i64) (.pair (.int .i64) (.sl (.int .i64))))
abbrev tQIIIIILIE : Ty := (.pair (.int .i64) (.pair (.int .i64) (.pair (.int .i64) (.pair (.int .i64) (.pair (.int .i64) (.sl (.int .i64)))))))
abbrev tQILLIE : Ty := (.pair (.int .i64) (.sl (.sl (.int .i64))))
abbrev QILLIE : Type := (Int × (List (List Int)))
noncomputable def laws_eqIntS_l4 (x0_1 : (List Int)) (x1_2 : (List Int)) : Nat → (Option Ret) → (Bool → Option Ret) → Int → Option Ret
  | 0, _, _, _ => none
  | n_4 + 1, k4_0_5, k4_1_6, x5_3 =>
    bif (decide (x5_3 < (List.length x0_1 : Int))) then
      bif (inB x5_3 (List.length x0_1)) then
        bif (inB x5_3 (List.length x1_2)) then
          bif ((List.getD x0_1 (Int.toNat x5_3) (0 : Int)) != (List.getD x1_2 (Int.toNat x5_3) (0 : Int))) then
            k4_1_6 false
          else
            (laws_eqIntS_l4 x0_1 x1_2 n_4 k4_0_5 k4_1_6) (IntKind.wrap .i64 (x5_3 + (1 : Int)))
        else none
      else none
    else
      k4_0_5
noncomputable def laws_eqIntS (N : Nat) (a0 : (List Int)) (a1 : (List Int)) (kf : Bool → Option Ret) : Option Ret :=
  bif ((List.length a0 : Int) != (List.length a1 : Int)) then
    kf false
  else
    laws_eqIntS_l4 a0 a1 N (kf true) kf (0 : Int)
noncomputable def spec_ExampleGraph (N : Nat)  (kf : QILLIE → Option Ret) : Option Ret :=
  kf ((5 : Int), [[(0 : Int), (1 : Int)], [(1 : Int), (0 : Int)], [(1 : Int), (2 : Int)], [(2 : Int), (3 : Int)], [(3 : Int), (4 : Int)], [(4 : Int), (2 : Int)]])
noncomputable def impl_ExampleGraph (N : Nat)  (kf : QILLIE → Option Ret) : Option Ret :=
  kf ((5 : Int), [[(0 : Int), (1 : Int)], [(1 : Int), (0 : Int)], [(1 : Int), (2 : Int)], [(2 : Int), (3 : Int)], [(3 : Int), (4 : Int)], [(4 : Int), (2 : Int)]])
noncomputable def laws_eqIntSS_l4 (N : Nat) (x0_1 : (List (List Int))) (x1_2 : (List (List Int))) : Nat → (Option Ret) → (Bool → Option Ret) → Int → Option Ret
  | 0, _, _, _ => none
  | n_4 + 1, k4_0_6, k4_1_7, x5_3 =>
    bif (decide (x5_3 < (List.length x0_1 : Int))) then
      bif (inB x5_3 (List.length x0_1)) then
        bif (inB x5_3 (List.length x1_2)) then
          laws_eqIntS N (List.getD x0_1 (Int.toNat x5_3) ([] : (List Int))) (List.getD x1_2 (Int.toNat x5_3) ([] : (List Int))) (fun (r25_5 : Bool) =>
            bif (!r25_5) then
              k4_1_7 false
            else
              (laws_eqIntSS_l4 N x0_1 x1_2 n_4 k4_0_6 k4_1_7) (IntKind.wrap .i64 (x5_3 + (1 : Int))))
        else none
      else none
    else
      k4_0_6
noncomputable def laws_eqIntSS (N : Nat) (a0 : (List (List Int))) (a1 : (List (List Int))) (kf : Bool → Option Ret) : Option Ret :=
  bif ((List.length a0 : Int) != (List.length a1 : Int)) then
    kf false
  else
    laws_eqIntSS_l4 N a0 a1 N (kf true) kf (0 : Int)
noncomputable def laws_eqGraph (N : Nat) (a0 : QILLIE) (a1 : QILLIE) (kf : Bool → Option Ret) : Option Ret :=
  bif (a0.1 != a1.1) then
    kf false
  else
    laws_eqIntSS N a0.2 a1.2 (fun (r14_1 : Bool) =>
      bif (!r14_1) then
        kf false
      else
        kf true)
noncomputable def laws_markIntS_l2  : Nat → ((List Int) → Int → Option Ret) → (List Int) → Int → Int → Option Ret
  | 0, _, _, _, _ => none
  | n_4 + 1, k2_0_5, x0_1, x1_2, x5_3 =>
    bif (decide (x5_3 < (List.length x0_1 : Int))) then
      bif (inB x5_3 (List.length x0_1)) then
        (laws_markIntS_l2 n_4 k2_0_5) (List.set x0_1 (Int.toNat x5_3) x1_2) (IntKind.wrap .i64 (x1_2 + (1 : Int))) (IntKind.wrap .i64 (x5_3 + (1 : Int)))
      else none
    else
      k2_0_5 x0_1 x1_2
noncomputable def laws_markIntS (N : Nat) (a0 : (List Int)) (a1 : Int) (kf : Int → (List Int) → Option Ret) : Option Ret :=
  laws_markIntS_l2 N (fun (z0_7 : (List Int)) (z1_8 : Int) =>
    kf z1_8 z0_7) a0 a1 (0 : Int)
noncomputable def laws_markIntSS_l2 (N : Nat) : Nat → ((List (List Int)) → Int → Option Ret) → (List (List Int)) → Int → Int → Option Ret
  | 0, _, _, _, _ => none
  | n_4 + 1, k2_0_7, x0_1, x1_2, x5_3 =>
    bif (decide (x5_3 < (List.length x0_1 : Int))) then
      bif (inB x5_3 (List.length x0_1)) then
        laws_markIntS N (List.getD x0_1 (Int.toNat x5_3) ([] : (List Int))) x1_2 (fun (r17_5 : Int) (z0_6 : (List Int)) =>
          (laws_markIntSS_l2 N n_4 k2_0_7) (List.set x0_1 (Int.toNat x5_3) z0_6) r17_5 (IntKind.wrap .i64 (x5_3 + (1 : Int))))
      else none
    else
      k2_0_7 x0_1 x1_2
noncomputable def laws_markIntSS (N : Nat) (a0 : (List (List Int))) (a1 : Int) (kf : Int → (List (List Int)) → Option Ret) : Option Ret :=
  laws_markIntSS_l2 N N (fun (z0_9 : (List (List Int))) (z1_10 : Int) =>
    kf z1_10 z0_9) a0 a1 (0 : Int)
noncomputable def laws_markGraph (N : Nat) (a0 : QILLIE) (a1 : Int) (kf : Int → QILLIE → Option Ret) : Option Ret :=
  laws_markIntSS N a0.2 a1 (fun (r8_1 : Int) (z2_2 : (List (List Int))) =>
    kf r8_1 (a0.1, z2_2))
noncomputable def laws_heldIntS_l2 (x0_1 : (List Int)) : Nat → (Int → Option Ret) → (Int → Option Ret) → Int → Int → Option Ret
  | 0, _, _, _, _ => none
  | n_4 + 1, k2_0_5, k2_1_6, x1_2, x5_3 =>
    bif (decide (x5_3 < (List.length x0_1 : Int))) then
      bif (inB x5_3 (List.length x0_1)) then
        bif ((List.getD x0_1 (Int.toNat x5_3) (0 : Int)) != x1_2) then
          k2_1_6 (-1 : Int)
        else
          (laws_heldIntS_l2 x0_1 n_4 k2_0_5 k2_1_6) (IntKind.wrap .i64 (x1_2 + (1 : Int))) (IntKind.wrap .i64 (x5_3 + (1 : Int)))
      else none
    else
      k2_0_5 x1_2
noncomputable def laws_heldIntS (N : Nat) (a0 : (List Int)) (a1 : Int) (kf : Int → Option Ret) : Option Ret :=
  laws_heldIntS_l2 a0 N kf kf a1 (0 : Int)
noncomputable def laws_heldIntSS_l2 (N : Nat) (x0_1 : (List (List Int))) : Nat → (Int → Option Ret) → (Int → Option Ret) → Int → Int → Option Ret
  | 0, _, _, _, _ => none
  | n_4 + 1, k2_0_6, k2_1_7, x1_2, x5_3 =>
    bif (decide (x5_3 < (List.length x0_1 : Int))) then
      bif (inB x5_3 (List.length x0_1)) then
        laws_heldIntS N (List.getD x0_1 (Int.toNat x5_3) ([] : (List Int))) x1_2 (fun (r17_5 : Int) =>
          bif (decide (r17_5 < (0 : Int))) then
            k2_1_7 (-1 : Int)
          else
            (laws_heldIntSS_l2 N x0_1 n_4 k2_0_6 k2_1_7) r17_5 (IntKind.wrap .i64 (x5_3 + (1 : Int))))
      else none
    else
      k2_0_6 x1_2
noncomputable def laws_heldIntSS (N : Nat) (a0 : (List (List Int))) (a1 : Int) (kf : Int → Option Ret) : Option Ret :=
  laws_heldIntSS_l2 N a0 N kf kf a1 (0 : Int)
noncomputable def laws_heldGraph (N : Nat) (a0 : QILLIE) (a1 : Int) (kf : Int → Option Ret) : Option Ret :=
  laws_heldIntSS N a0.2 a1 (fun (r8_1 : Int) =>
    bif (decide (r8_1 < (0 : Int))) then
      kf (-1 : Int)
    else
      kf r8_1)
noncomputable def laws_FnExactExampleGraph (N : Nat)  (kf : Bool → Option Ret) : Option Ret :=
  spec_ExampleGraph N (fun (r6_1 : QILLIE) =>
    impl_ExampleGraph N (fun (r7_2 : QILLIE) =>
      laws_eqGraph N r7_2 r6_1 (fun (r10_3 : Bool) =>
        bif (!r10_3) then
          kf false
        else
          laws_markGraph N r7_2 (1 : Int) (fun (r14_4 : Int) (z2_5 : QILLIE) =>
            laws_heldGraph N (r7_2.1, z2_5.2) (1 : Int) (fun (r17_6 : Int) =>
              bif (decide (r17_6 < (0 : Int))) then
                kf false
              else
                bif (r17_6 != r14_4) then
                  kf false
                else
                  impl_ExampleGraph N (fun (r23_7 : QILLIE) =>
                    laws_eqGraph N r23_7 r6_1 (fun (r26_8 : Bool) =>
                      bif (!r26_8) then
                        kf false
                      else
                        laws_heldGraph N (r7_2.1, z2_5.2) (1 : Int) (fun (r30_9 : Int) =>
                          bif (decide (r30_9 < (0 : Int))) then
                            kf false
                          else
                            bif (r30_9 != r14_4) then
                              kf false
                            else
                              kf true))))))))
end Go.Pv.R
