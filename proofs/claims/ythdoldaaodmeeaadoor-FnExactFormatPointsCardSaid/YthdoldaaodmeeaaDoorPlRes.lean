/- What the functions compute, as plain functions. -/
import Derived.Test.YthdoldaaodmeeaaDoorPv3
namespace Go.Pv.R
set_option linter.unusedVariables false
set_option linter.unusedSimpArgs false
abbrev tQILLIE : Ty := (.pair (.int .i64) (.sl (.sl (.int .i64))))
abbrev tQIIE : Ty := (.pair (.int .i64) (.int .i64))
abbrev tQIIIE : Ty := (.pair (.int .i64) (.pair (.int .i64) (.int .i64)))
abbrev QIIIE : Type := (Int × (Int × Int))
def zQIIIE : QIIIE := ((0 : Int), ((0 : Int), (0 : Int)))
abbrev tQIILIE : Ty := (.pair (.int .i64) (.pair (.int .i64) (.sl (.int .i64))))
abbrev tQIIIIILIE : Ty := (.pair (.int .i64) (.pair (.int .i64) (.pair (.int .i64) (.pair (.int .i64) (.pair (.int .i64) (.sl (.int .i64)))))))
abbrev tQIIIIE : Ty := (.pair (.int .i64) (.pair (.int .i64) (.pair (.int .i64) (.int .i64))))
abbrev tQLQIIIIILIELQIILIELQIIELILQIIIELQIIIIEIE : Ty := (.pair (.sl tQIIIIILIE) (.pair (.sl tQIILIE) (.pair (.sl tQIIE) (.pair (.sl (.int .i64)) (.pair (.sl tQIIIE) (.pair (.sl tQIIIIE) (.int .i64)))))))
noncomputable def s_e : ByteArray := ⟨#[]⟩
noncomputable def s_0 : ByteArray := ⟨#[48]⟩
noncomputable def s_h2d : ByteArray := ⟨#[45]⟩
noncomputable def s_h20 : ByteArray := ⟨#[32]⟩
noncomputable def s_h3f : ByteArray := ⟨#[63]⟩
noncomputable def s_h3f2b2d212e : ByteArray := ⟨#[63, 43, 45, 33, 46]⟩
noncomputable def s_h3a : ByteArray := ⟨#[58]⟩
noncomputable def spec_FormatInt_j1 (rc5_7 : ByteArray → Int → Option Ret) (x3_2 : ByteArray) (x4_3 : Int) (y5_5 : Int) : Option Ret :=
  bif (decide (ByteArray.size (bytesOf [(IntKind.wrap .u8 (IntKind.wrap .i64 ((48 : Int) + y5_5)))]) + ByteArray.size x3_2 ≤ 9223372036854775807)) then
    rc5_7 ((bytesOf [(IntKind.wrap .u8 (IntKind.wrap .i64 ((48 : Int) + y5_5)))]) ++ x3_2) (IntKind.wrap .i64 (Int.tdiv x4_3 (10 : Int)))
  else none
noncomputable def spec_FormatInt_l5 (x0_1 : Int) : Nat → (ByteArray → Option Ret) → ByteArray → Int → Option Ret
  | 0, _, _, _ => none
  | n_4 + 1, k5_0_6, x3_2, x4_3 =>
    bif (x4_3 != (0 : Int)) then
      bif (decide ((Int.tmod x4_3 (10 : Int)) < (0 : Int))) then
        spec_FormatInt_j1 (spec_FormatInt_l5 x0_1 n_4 k5_0_6) x3_2 x4_3 (IntKind.wrap .i64 (0 - (Int.tmod x4_3 (10 : Int))))
      else
        spec_FormatInt_j1 (spec_FormatInt_l5 x0_1 n_4 k5_0_6) x3_2 x4_3 (Int.tmod x4_3 (10 : Int))
    else
      k5_0_6 x3_2
noncomputable def spec_FormatInt (N : Nat) (a0 : Int) (kf : ByteArray → Option Ret) : Option Ret :=
  bif (a0 == (0 : Int)) then
    kf s_0
  else
    spec_FormatInt_l5 a0 N (fun (z3_8 : ByteArray) =>
      bif (decide (a0 < (0 : Int))) then
        bif (decide (ByteArray.size s_h2d + ByteArray.size z3_8 ≤ 9223372036854775807)) then
          kf (s_h2d ++ z3_8)
        else none
      else
        kf z3_8) s_e a0
noncomputable def spec_l39Join_j1 (rc3_7 : ByteArray → Int → Option Ret) (x0_1 : (List ByteArray)) (x4_3 : Int) (y3_5 : ByteArray) : Option Ret :=
  bif (inB x4_3 (List.length x0_1)) then
    bif (decide (ByteArray.size y3_5 + ByteArray.size (List.getD x0_1 (Int.toNat x4_3) ByteArray.empty) ≤ 9223372036854775807)) then
      rc3_7 (y3_5 ++ (List.getD x0_1 (Int.toNat x4_3) ByteArray.empty)) (IntKind.wrap .i64 (x4_3 + (1 : Int)))
    else none
  else none
noncomputable def spec_l39Join_l3 (x0_1 : (List ByteArray)) : Nat → (ByteArray → Option Ret) → ByteArray → Int → Option Ret
  | 0, _, _, _ => none
  | n_4 + 1, k3_0_6, x3_2, x4_3 =>
    bif (decide (x4_3 < (List.length x0_1 : Int))) then
      bif (decide (x4_3 > (0 : Int))) then
        bif (decide (ByteArray.size x3_2 + ByteArray.size s_h20 ≤ 9223372036854775807)) then
          spec_l39Join_j1 (spec_l39Join_l3 x0_1 n_4 k3_0_6) x0_1 x4_3 (x3_2 ++ s_h20)
        else none
      else
        spec_l39Join_j1 (spec_l39Join_l3 x0_1 n_4 k3_0_6) x0_1 x4_3 x3_2
    else
      k3_0_6 x3_2
noncomputable def spec_l39Join (N : Nat) (a0 : (List ByteArray)) (kf : ByteArray → Option Ret) : Option Ret :=
  spec_l39Join_l3 a0 N (fun (z3_8 : ByteArray) =>
    bif ((List.length a0 : Int) == (0 : Int)) then
      kf s_h2d
    else
      kf z3_8) s_e (0 : Int)
noncomputable def strconv_Itoa (N : Nat) (a0 : Int) (kf : ByteArray → Option Ret) : Option Ret :=
  bif (decide ((-9223372036854775808 : Int) ≤ a0) && decide (a0 ≤ (9223372036854775807 : Int))) then
    kf (itoaB a0)
  else none
noncomputable def impl_FormatInt (N : Nat) (a0 : Int) (kf : ByteArray → Option Ret) : Option Ret :=
  strconv_Itoa N a0 kf
noncomputable def strings_Join (N : Nat) (a0 : (List ByteArray)) (a1 : ByteArray) (kf : ByteArray → Option Ret) : Option Ret :=
  bif (Nat.ble (List.length a0) 140737488355328 && Nat.ble (ByteArray.size (joinB a0 a1)) 140737488355328) then
    kf (joinB a0 a1)
  else none
noncomputable def impl_joined (N : Nat) (a0 : (List ByteArray)) (kf : ByteArray → Option Ret) : Option Ret :=
  bif ((List.length a0 : Int) == (0 : Int)) then
    kf s_h2d
  else
    strings_Join N a0 s_h20 kf
noncomputable def spec_l1In (N : Nat) (a0 : Int) (a1 : Int) (a2 : Int) (kf : Bool → Option Ret) : Option Ret :=
  bif (decide (a0 ≥ a1)) then
    kf (decide (a0 ≤ a2))
  else
    kf false
noncomputable def impl_InRange (N : Nat) (a0 : Int) (a1 : Int) (a2 : Int) (kf : Bool → Option Ret) : Option Ret :=
  bif (decide (a1 ≤ a0)) then
    kf (decide (a0 ≤ a2))
  else
    kf false
noncomputable def laws_szPointS (N : Nat) (a0 : (List QIIIE)) (a1 : Int) (kf : Int → Option Ret) : Option Ret :=
  bif (decide ((IntKind.wrap .i64 (a1 - (List.length a0 : Int))) < (0 : Int))) then
    kf (-1 : Int)
  else
    kf (IntKind.wrap .i64 (a1 - (List.length a0 : Int)))
noncomputable def laws_toPoint (N : Nat) (a0 : QIIIE) (kf : QIIIE → Option Ret) : Option Ret :=
  kf (a0.1, (a0.2.1, a0.2.2))
noncomputable def laws_toPointS_l3 (N : Nat) (x0_1 : (List QIIIE)) : Nat → ((List QIIIE) → Option Ret) → (List QIIIE) → Int → Option Ret
  | 0, _, _, _ => none
  | n_4 + 1, k3_0_6, x3_2, x4_3 =>
    bif (decide (x4_3 < (List.length x0_1 : Int))) then
      bif (inB x4_3 (List.length x0_1)) then
        laws_toPoint N (List.getD x0_1 (Int.toNat x4_3) zQIIIE) (fun (r20_5 : QIIIE) =>
          bif (inB x4_3 (List.length x3_2)) then
            (laws_toPointS_l3 N x0_1 n_4 k3_0_6) (List.set x3_2 (Int.toNat x4_3) r20_5) (IntKind.wrap .i64 (x4_3 + (1 : Int)))
          else none)
      else none
    else
      k3_0_6 x3_2
noncomputable def laws_toPointS (N : Nat) (a0 : (List QIIIE)) (kf : (List QIIIE) → Option Ret) : Option Ret :=
  bif (decide ((List.length a0 : Int) = (List.length a0 : Int)) && decide ((0 : Int) ≤ (List.length a0 : Int)) && decide ((List.length a0 : Int) ≤ 1099511627776)) then
    laws_toPointS_l3 N a0 N kf (List.replicate (Int.toNat (List.length a0 : Int)) ((0 : Int), ((0 : Int), (0 : Int)))) (0 : Int)
  else none
noncomputable def spec_PointText (N : Nat) (a0 : QIIIE) (kf : ByteArray → Option Ret) : Option Ret :=
  spec_l1In N a0.2.1 (1 : Int) (2 : Int) (fun (r5_1 : Bool) =>
    bif (!r5_1) then
      kf s_e
    else
      spec_l1In N a0.2.2 (0 : Int) (4 : Int) (fun (r10_2 : Bool) =>
        bif (!r10_2) then
          kf s_e
        else
          bif (decide ((0 : Int) ≤ a0.2.2) && decide (a0.2.2 ≤ (IntKind.wrap .i64 (a0.2.2 + (1 : Int)))) && decide ((IntKind.wrap .i64 (a0.2.2 + (1 : Int))) ≤ (ByteArray.size s_h3f2b2d212e : Int))) then
            spec_FormatInt N a0.1 (fun (r15_3 : ByteArray) =>
              bif (decide (ByteArray.size r15_3 + ByteArray.size s_h3a ≤ 9223372036854775807)) then
                spec_FormatInt N a0.2.1 (fun (r19_4 : ByteArray) =>
                  bif (decide (ByteArray.size (r15_3 ++ s_h3a) + ByteArray.size r19_4 ≤ 9223372036854775807)) then
                    bif (decide (ByteArray.size ((r15_3 ++ s_h3a) ++ r19_4) + ByteArray.size (ByteArray.extract s_h3f2b2d212e (Int.toNat a0.2.2) (Int.toNat (IntKind.wrap .i64 (a0.2.2 + (1 : Int))))) ≤ 9223372036854775807)) then
                      kf (((r15_3 ++ s_h3a) ++ r19_4) ++ (ByteArray.extract s_h3f2b2d212e (Int.toNat a0.2.2) (Int.toNat (IntKind.wrap .i64 (a0.2.2 + (1 : Int))))))
                    else none
                  else none)
              else none)
          else none))
noncomputable def spec_FormatPoints_j1 (rc3_8 : (List ByteArray) → Int → Option Ret) (x3_2 : (List ByteArray)) (x4_3 : Int) (y5_6 : ByteArray) : Option Ret :=
  bif (decide ((List.length x3_2 + List.length [y5_6]) * 1 ≤ 4398046511104)) then
    rc3_8 (x3_2 ++ [y5_6]) (IntKind.wrap .i64 (x4_3 + (1 : Int)))
  else none
noncomputable def spec_FormatPoints_l3 (N : Nat) (x0_1 : (List QIIIE)) : Nat → ((List ByteArray) → Option Ret) → (List ByteArray) → Int → Option Ret
  | 0, _, _, _ => none
  | n_4 + 1, k3_0_7, x3_2, x4_3 =>
    bif (decide (x4_3 < (List.length x0_1 : Int))) then
      bif (inB x4_3 (List.length x0_1)) then
        spec_PointText N (List.getD x0_1 (Int.toNat x4_3) zQIIIE) (fun (r17_5 : ByteArray) =>
          bif (ByteArray.toList r17_5 == ByteArray.toList s_e) then
            spec_FormatPoints_j1 (spec_FormatPoints_l3 N x0_1 n_4 k3_0_7) x3_2 x4_3 s_h3f
          else
            spec_FormatPoints_j1 (spec_FormatPoints_l3 N x0_1 n_4 k3_0_7) x3_2 x4_3 r17_5)
      else none
    else
      k3_0_7 x3_2
noncomputable def spec_FormatPoints (N : Nat) (a0 : (List QIIIE)) (kf : ByteArray → Option Ret) : Option Ret :=
  spec_FormatPoints_l3 N a0 N (fun (z3_9 : (List ByteArray)) =>
    spec_l39Join N z3_9 kf) ([] : (List ByteArray)) (0 : Int)
noncomputable def impl_PointText (N : Nat) (a0 : QIIIE) (kf : ByteArray → Option Ret) : Option Ret :=
  impl_InRange N a0.2.1 (1 : Int) (2 : Int) (fun (r5_1 : Bool) =>
    bif (!r5_1) then
      kf s_e
    else
      impl_InRange N a0.2.2 (0 : Int) (4 : Int) (fun (r10_2 : Bool) =>
        bif (!r10_2) then
          kf s_e
        else
          bif (decide ((0 : Int) ≤ a0.2.2) && decide (a0.2.2 ≤ (IntKind.wrap .i64 (a0.2.2 + (1 : Int)))) && decide ((IntKind.wrap .i64 (a0.2.2 + (1 : Int))) ≤ (ByteArray.size s_h3f2b2d212e : Int))) then
            impl_FormatInt N a0.1 (fun (r15_3 : ByteArray) =>
              bif (decide (ByteArray.size r15_3 + ByteArray.size s_h3a ≤ 9223372036854775807)) then
                impl_FormatInt N a0.2.1 (fun (r19_4 : ByteArray) =>
                  bif (decide (ByteArray.size (r15_3 ++ s_h3a) + ByteArray.size r19_4 ≤ 9223372036854775807)) then
                    bif (decide (ByteArray.size ((r15_3 ++ s_h3a) ++ r19_4) + ByteArray.size (ByteArray.extract s_h3f2b2d212e (Int.toNat a0.2.2) (Int.toNat (IntKind.wrap .i64 (a0.2.2 + (1 : Int))))) ≤ 9223372036854775807)) then
                      kf (((r15_3 ++ s_h3a) ++ r19_4) ++ (ByteArray.extract s_h3f2b2d212e (Int.toNat a0.2.2) (Int.toNat (IntKind.wrap .i64 (a0.2.2 + (1 : Int))))))
                    else none
                  else none)
              else none)
          else none))
noncomputable def impl_FormatPoints_j1 (rc3_9 : (List ByteArray) → Int → Option Ret) (x10_4 : Int) (x3_1 : (List ByteArray)) (y6_7 : ByteArray) : Option Ret :=
  bif (decide ((List.length x3_1 + List.length [y6_7]) * 1 ≤ 4398046511104)) then
    rc3_9 (x3_1 ++ [y6_7]) (IntKind.wrap .i64 (x10_4 + (1 : Int)))
  else none
noncomputable def impl_FormatPoints_l3 (N : Nat) (x8_2 : (List QIIIE)) (x9_3 : Int) : Nat → ((List ByteArray) → Option Ret) → (List ByteArray) → Int → Option Ret
  | 0, _, _, _ => none
  | n_5 + 1, k3_0_8, x3_1, x10_4 =>
    bif (decide (x10_4 < x9_3)) then
      bif (inB x10_4 (List.length x8_2)) then
        impl_PointText N (List.getD x8_2 (Int.toNat x10_4) zQIIIE) (fun (r15_6 : ByteArray) =>
          bif (ByteArray.toList r15_6 == ByteArray.toList s_e) then
            impl_FormatPoints_j1 (impl_FormatPoints_l3 N x8_2 x9_3 n_5 k3_0_8) x10_4 x3_1 s_h3f
          else
            impl_FormatPoints_j1 (impl_FormatPoints_l3 N x8_2 x9_3 n_5 k3_0_8) x10_4 x3_1 r15_6)
      else none
    else
      k3_0_8 x3_1
noncomputable def impl_FormatPoints (N : Nat) (a0 : (List QIIIE)) (kf : ByteArray → Option Ret) : Option Ret :=
  impl_FormatPoints_l3 N a0 (List.length a0 : Int) N (fun (z3_10 : (List ByteArray)) =>
    impl_joined N z3_10 kf) ([] : (List ByteArray)) (0 : Int)
noncomputable def laws_eqPoint (N : Nat) (a0 : QIIIE) (a1 : QIIIE) (kf : Bool → Option Ret) : Option Ret :=
  bif (a0.1 != a1.1) then
    kf false
  else
    bif (a0.2.1 != a1.2.1) then
      kf false
    else
      bif (a0.2.2 != a1.2.2) then
        kf false
      else
        kf true
noncomputable def laws_eqPointS_l4 (N : Nat) (x0_1 : (List QIIIE)) (x1_2 : (List QIIIE)) : Nat → (Option Ret) → (Bool → Option Ret) → Int → Option Ret
  | 0, _, _, _ => none
  | n_4 + 1, k4_0_6, k4_1_7, x5_3 =>
    bif (decide (x5_3 < (List.length x0_1 : Int))) then
      bif (inB x5_3 (List.length x0_1)) then
        bif (inB x5_3 (List.length x1_2)) then
          laws_eqPoint N (List.getD x0_1 (Int.toNat x5_3) zQIIIE) (List.getD x1_2 (Int.toNat x5_3) zQIIIE) (fun (r25_5 : Bool) =>
            bif (!r25_5) then
              k4_1_7 false
            else
              (laws_eqPointS_l4 N x0_1 x1_2 n_4 k4_0_6 k4_1_7) (IntKind.wrap .i64 (x5_3 + (1 : Int))))
        else none
      else none
    else
      k4_0_6
noncomputable def laws_eqPointS (N : Nat) (a0 : (List QIIIE)) (a1 : (List QIIIE)) (kf : Bool → Option Ret) : Option Ret :=
  bif ((List.length a0 : Int) != (List.length a1 : Int)) then
    kf false
  else
    laws_eqPointS_l4 N a0 a1 N (kf true) kf (0 : Int)
noncomputable def laws_FnExactFormatPoints (N : Nat) (a0 : (List QIIIE)) (kf : Bool → Option Ret) : Option Ret :=
  laws_szPointS N a0 (1048576 : Int) (fun (r9_1 : Int) =>
    bif (decide (r9_1 < (0 : Int))) then
      kf true
    else
      laws_toPointS N a0 (fun (r13_2 : (List QIIIE)) =>
        spec_FormatPoints N r13_2 (fun (r14_3 : ByteArray) =>
          laws_toPointS N a0 (fun (r16_4 : (List QIIIE)) =>
            impl_FormatPoints N r16_4 (fun (r18_5 : ByteArray) =>
              bif (!(ByteArray.toList r18_5 == ByteArray.toList r14_3)) then
                kf false
              else
                laws_toPointS N a0 (fun (r24_6 : (List QIIIE)) =>
                  laws_eqPointS N r16_4 r24_6 (fun (r25_7 : Bool) =>
                    bif (!r25_7) then
                      kf false
                    else
                      kf true)))))))
end Go.Pv.R
