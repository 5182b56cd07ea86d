/- Their loops over lists, without rounds. -/
import Derived.Test.YtalebakjiclomaaPlRes
namespace Go.Pv.R
set_option linter.unusedVariables false
set_option linter.unusedSimpArgs false
theorem S54_l2_r {N:Nat} {x0_1:(List QIIIIILIE)} {x1_2:Int} {k2_0_7:Option Ret} {k2_1_8:Int→Option Ret} (hl:(List.length x0_1)≤maxLen) {n:Nat} (hn:(List.length x0_1) < n):S54_l2 N x0_1 x1_2 (List.length x0_1:Int) n k2_0_7 k2_1_8 (0:Int) =
  goL (fun (i:Nat) (x:QIIIIILIE) (next:Option Ret) =>
    I55 N x x1_2 (fun (r16_6:Bool) =>
     bif r16_6 then
      k2_1_8 (i:Int)
     else
      next)) (
    k2_0_7) x0_1 0:=by
 exact range0 (f:=fun n i=>S54_l2 N x0_1 x1_2 (List.length x0_1:Int) n k2_0_7 k2_1_8 i) (l:=x0_1) (fun n i h=>by
  simp only [S54_l2]
  rw [decide_eq_true (show (i:Int) < (List.length x0_1:Int) by omega)]
  simp only [cond_true,inB_nat h,Int.toNat_natCast,getD_nat _ i h]) (fun n=>by
  simp only [S54_l2]
  rw [decide_eq_false (by omega)]
  simp only [cond_false]) hl x0_1 0 n rfl (by omega) hn
theorem I35_l3_r {x1_1:Int} {x8_3:(List Int)} {k3_0_8:Int→Option Ret} {x5_2:Int} (hl:(List.length x8_3)≤maxLen) {n:Nat} (hn:(List.length x8_3) < n):I35_l3 x1_1 x8_3 (List.length x8_3:Int) n k3_0_8 x5_2 (0:Int) =
  goL1 (fun (i:Nat) (x:Int) (x5_2:Int) (next:Int→Option Ret) =>
    bif (x == x1_1) then
     next (IntKind.wrap .i64 (x5_2 + (1:Int)))
    else
     next x5_2) (fun (x5_2:Int) =>
    k3_0_8 x5_2) x8_3 0 x5_2:=by
 exact range1 (f:=fun n x5_2 i=>I35_l3 x1_1 x8_3 (List.length x8_3:Int) n k3_0_8 x5_2 i) (l:=x8_3) (fun n i x5_2 h=>by
  simp only [I35_l3]
  rw [decide_eq_true (show (i:Int) < (List.length x8_3:Int) by omega)]
  simp only [cond_true,inB_nat h,Int.toNat_natCast,getD_nat _ i h]) (fun n x5_2=>by
  simp only [I35_l3]
  rw [decide_eq_false (by omega)]
  simp only [cond_false]) hl x8_3 0 n x5_2 rfl (by omega) hn
theorem I13_l10_r {N:Nat} {x0_16:(List QIIIIILIE)} {x4_17:QIIIIILIE} {x12_18:(List QIIIIILIE)} {x13_19:Int} {x14_20:Int} {x72_21:(List Int)} {k10_0_28:Option Ret} {k10_1_29:Bool→Option Ret} (hl:(List.length x72_21)≤maxLen) {n:Nat} (hn:(List.length x72_21) < n):I13_l10 N x0_16 x4_17 x12_18 x13_19 x14_20 x72_21 (List.length x72_21:Int) n k10_0_28 k10_1_29 (0:Int) =
  goL (fun (i:Nat) (x:Int) (next:Option Ret) =>
    I34 N x0_16 x (fun (r80_25:Int) =>
     bif (decide (r80_25 < (0:Int))) then
      k10_1_29 false
     else
      bif (x == x4_17.1) then
       k10_1_29 false
      else
       bif (inB r80_25 (List.length x0_16)) then
        I35 N x4_17.2.2.2.2.2 x (fun (r93_26:Int) =>
         I35 N (List.getD x0_16 (Int.toNat r80_25) zQIIIIILIE).2.2.2.2.2 x4_17.1 (fun (r101_27:Int) =>
          bif (r93_26 != r101_27) then
           k10_1_29 false
          else
           next))
       else none)) (
    k10_0_28) x72_21 0:=by
 exact range0 (f:=fun n i=>I13_l10 N x0_16 x4_17 x12_18 x13_19 x14_20 x72_21 (List.length x72_21:Int) n k10_0_28 k10_1_29 i) (l:=x72_21) (fun n i h=>by
  simp only [I13_l10]
  rw [decide_eq_true (show (i:Int) < (List.length x72_21:Int) by omega)]
  simp only [cond_true,inB_nat h,Int.toNat_natCast,getD_nat _ i h]) (fun n=>by
  simp only [I13_l10]
  rw [decide_eq_false (by omega)]
  simp only [cond_false]) hl x72_21 0 n rfl (by omega) hn
theorem I13_l4_r {N:Nat} {x0_1:(List QIIIIILIE)} {x12_2:(List QIIIIILIE)} {k4_0_32:Option Ret} {k4_1_33:Bool→Option Ret} (hl:(List.length x12_2)≤maxLen) {n:Nat} (hn:(List.length x12_2) < n):I13_l4 N x0_1 x12_2 (List.length x12_2:Int) n k4_0_32 k4_1_33 (0:Int) =
  goL (fun (i:Nat) (x:QIIIIILIE) (next:Option Ret) =>
    I19 N x.1 (1:Int) (99:Int) (fun (r24_6:Bool) =>
     bif (!r24_6) then
      k4_1_33 false
     else
      bif (decide ((i:Int) > (0:Int))) then
       bif (inB (IntKind.wrap .i64 ((i:Int) - (1:Int))) (List.length x0_1)) then
        bif (decide (x.1≤(List.getD x0_1 (Int.toNat (IntKind.wrap .i64 ((i:Int) - (1:Int)))) zQIIIIILIE).1)) then
         k4_1_33 false
        else
         I19 N x.2.1 (1:Int) (99:Int) (fun (r44_7:Bool) =>
          bif (!r44_7) then
           k4_1_33 false
          else
           bif (decide ((List.length x.2.2.2.2.2:Int) > (20:Int))) then
            k4_1_33 false
           else
            I19 N x.2.2.1 (0:Int) (List.length x.2.2.2.2.2:Int) (fun (r55_8:Bool) =>
             bif (!r55_8) then
              k4_1_33 false
             else
              I19 N x.2.2.2.2.1 (0:Int) (List.length x.2.2.2.2.2:Int) (fun (r62_9:Bool) =>
               bif (!r62_9) then
                k4_1_33 false
               else
                I19 N x.2.2.2.1 (0:Int) (100000:Int) (fun (r68_10:Bool) =>
                 bif (!r68_10) then
                  k4_1_33 false
                 else
                  I13_l10 N x0_1 x x12_2 (List.length x12_2:Int) (i:Int) x.2.2.2.2.2 (List.length x.2.2.2.2.2:Int) N next k4_1_33 (0:Int)))))
       else none
      else
       I19 N x.2.1 (1:Int) (99:Int) (fun (r44_11:Bool) =>
        bif (!r44_11) then
         k4_1_33 false
        else
         bif (decide ((List.length x.2.2.2.2.2:Int) > (20:Int))) then
          k4_1_33 false
         else
          I19 N x.2.2.1 (0:Int) (List.length x.2.2.2.2.2:Int) (fun (r55_12:Bool) =>
           bif (!r55_12) then
            k4_1_33 false
           else
            I19 N x.2.2.2.2.1 (0:Int) (List.length x.2.2.2.2.2:Int) (fun (r62_13:Bool) =>
             bif (!r62_13) then
              k4_1_33 false
             else
              I19 N x.2.2.2.1 (0:Int) (100000:Int) (fun (r68_14:Bool) =>
               bif (!r68_14) then
                k4_1_33 false
               else
                I13_l10 N x0_1 x x12_2 (List.length x12_2:Int) (i:Int) x.2.2.2.2.2 (List.length x.2.2.2.2.2:Int) N next k4_1_33 (0:Int))))))) (
    k4_0_32) x12_2 0:=by
 exact range0 (f:=fun n i=>I13_l4 N x0_1 x12_2 (List.length x12_2:Int) n k4_0_32 k4_1_33 i) (l:=x12_2) (fun n i h=>by
  simp only [I13_l4,I13_j1]
  rw [decide_eq_true (show (i:Int) < (List.length x12_2:Int) by omega)]
  simp only [cond_true,inB_nat h,Int.toNat_natCast,getD_nat _ i h]) (fun n=>by
  simp only [I13_l4,I13_j1]
  rw [decide_eq_false (by omega)]
  simp only [cond_false]) hl x12_2 0 n rfl (by omega) hn
theorem I14_l9_r {N:Nat} {x0_10:(List QIILIE)} {x4_11:QIILIE} {x10_12:(List QIILIE)} {x11_13:Int} {x12_14:Int} {x43_15:(List Int)} {k9_0_20:Option Ret} {k9_1_21:Bool→Option Ret} (hl:(List.length x43_15)≤maxLen) {n:Nat} (hn:(List.length x43_15) < n):I14_l9 N x0_10 x4_11 x10_12 x11_13 x12_14 x43_15 (List.length x43_15:Int) n k9_0_20 k9_1_21 (0:Int) =
  goL (fun (i:Nat) (x:Int) (next:Option Ret) =>
    I19 N x (1:Int) (99:Int) (fun (r51_19:Bool) =>
     bif (!r51_19) then
      k9_1_21 false
     else
      bif (decide ((i:Int) > (0:Int))) then
       bif (inB (IntKind.wrap .i64 ((i:Int) - (1:Int))) (List.length x4_11.2.2)) then
        bif (decide (x≤(List.getD x4_11.2.2 (Int.toNat (IntKind.wrap .i64 ((i:Int) - (1:Int)))) (0:Int)))) then
         k9_1_21 false
        else
         next
       else none
      else
       next)) (
    k9_0_20) x43_15 0:=by
 exact range0 (f:=fun n i=>I14_l9 N x0_10 x4_11 x10_12 x11_13 x12_14 x43_15 (List.length x43_15:Int) n k9_0_20 k9_1_21 i) (l:=x43_15) (fun n i h=>by
  simp only [I14_l9]
  rw [decide_eq_true (show (i:Int) < (List.length x43_15:Int) by omega)]
  simp only [cond_true,inB_nat h,Int.toNat_natCast,getD_nat _ i h]) (fun n=>by
  simp only [I14_l9]
  rw [decide_eq_false (by omega)]
  simp only [cond_false]) hl x43_15 0 n rfl (by omega) hn
theorem I14_l4_r {N:Nat} {x0_1:(List QIILIE)} {x10_2:(List QIILIE)} {k4_0_24:Option Ret} {k4_1_25:Bool→Option Ret} (hl:(List.length x10_2)≤maxLen) {n:Nat} (hn:(List.length x10_2) < n):I14_l4 N x0_1 x10_2 (List.length x10_2:Int) n k4_0_24 k4_1_25 (0:Int) =
  goL (fun (i:Nat) (x:QIILIE) (next:Option Ret) =>
    I19 N x.1 (1:Int) (99:Int) (fun (r19_6:Bool) =>
     bif (!r19_6) then
      k4_1_25 false
     else
      bif (decide ((i:Int) > (0:Int))) then
       bif (inB (IntKind.wrap .i64 ((i:Int) - (1:Int))) (List.length x0_1)) then
        bif (decide (x.1≤(List.getD x0_1 (Int.toNat (IntKind.wrap .i64 ((i:Int) - (1:Int)))) zQIILIE).1)) then
         k4_1_25 false
        else
         I19 N x.2.1 (1:Int) (99:Int) (fun (r39_7:Bool) =>
          bif (!r39_7) then
           k4_1_25 false
          else
           I14_l9 N x0_1 x x10_2 (List.length x10_2:Int) (i:Int) x.2.2 (List.length x.2.2:Int) N next k4_1_25 (0:Int))
       else none
      else
       I19 N x.2.1 (1:Int) (99:Int) (fun (r39_8:Bool) =>
        bif (!r39_8) then
         k4_1_25 false
        else
         I14_l9 N x0_1 x x10_2 (List.length x10_2:Int) (i:Int) x.2.2 (List.length x.2.2:Int) N next k4_1_25 (0:Int)))) (
    k4_0_24) x10_2 0:=by
 exact range0 (f:=fun n i=>I14_l4 N x0_1 x10_2 (List.length x10_2:Int) n k4_0_24 k4_1_25 i) (l:=x10_2) (fun n i h=>by
  simp only [I14_l4,I14_j1]
  rw [decide_eq_true (show (i:Int) < (List.length x10_2:Int) by omega)]
  simp only [cond_true,inB_nat h,Int.toNat_natCast,getD_nat _ i h]) (fun n=>by
  simp only [I14_l4,I14_j1]
  rw [decide_eq_false (by omega)]
  simp only [cond_false]) hl x10_2 0 n rfl (by omega) hn
theorem I56_l3_r {N:Nat} {x6_2:(List Int)} {k3_0_7:Int→Option Ret} {x3_1:Int} (hl:(List.length x6_2)≤maxLen) {n:Nat} (hn:(List.length x6_2) < n):I56_l3 N x6_2 (List.length x6_2:Int) n k3_0_7 x3_1 (0:Int) =
  goL1 (fun (i:Nat) (x:Int) (x3_1:Int) (next:Int→Option Ret) =>
    I67 N x3_1 x (fun (r14_6:Int) =>
     next r14_6)) (fun (x3_1:Int) =>
    k3_0_7 x3_1) x6_2 0 x3_1:=by
 exact range1 (f:=fun n x3_1 i=>I56_l3 N x6_2 (List.length x6_2:Int) n k3_0_7 x3_1 i) (l:=x6_2) (fun n i x3_1 h=>by
  simp only [I56_l3]
  rw [decide_eq_true (show (i:Int) < (List.length x6_2:Int) by omega)]
  simp only [cond_true,inB_nat h,Int.toNat_natCast,getD_nat _ i h]) (fun n x3_1=>by
  simp only [I56_l3]
  rw [decide_eq_false (by omega)]
  simp only [cond_false]) hl x6_2 0 n x3_1 rfl (by omega) hn
theorem I15_l5_r {N:Nat} {x9_2:(List QIIIIE)} {k5_0_9:Option Ret} {k5_1_10:Bool→Option Ret} {x3_1:Int} (hl:(List.length x9_2)≤maxLen) {n:Nat} (hn:(List.length x9_2) < n):I15_l5 N x9_2 (List.length x9_2:Int) n k5_0_9 k5_1_10 x3_1 (0:Int) =
  goL1 (fun (i:Nat) (x:QIIIIE) (x3_1:Int) (next:Int→Option Ret) =>
    bif (x.1 != (IntKind.wrap .i64 ((i:Int) + (1:Int)))) then
     k5_1_10 false
    else
     I19 N x.2.1 (1:Int) (9:Int) (fun (r24_6:Bool) =>
      bif (!r24_6) then
       k5_1_10 false
      else
       I19 N x.2.2.1 (0:Int) (99:Int) (fun (r30_7:Bool) =>
        bif (!r30_7) then
         k5_1_10 false
        else
         I36 N x3_1 x (fun (r38_8:Int) =>
          bif (x.2.2.2 != r38_8) then
           k5_1_10 false
          else
           next x.2.2.2)))) (fun (x3_1:Int) =>
    k5_0_9) x9_2 0 x3_1:=by
 exact range1 (f:=fun n x3_1 i=>I15_l5 N x9_2 (List.length x9_2:Int) n k5_0_9 k5_1_10 x3_1 i) (l:=x9_2) (fun n i x3_1 h=>by
  simp only [I15_l5]
  rw [decide_eq_true (show (i:Int) < (List.length x9_2:Int) by omega)]
  simp only [cond_true,inB_nat h,Int.toNat_natCast,getD_nat _ i h]) (fun n x3_1=>by
  simp only [I15_l5]
  rw [decide_eq_false (by omega)]
  simp only [cond_false]) hl x9_2 0 n x3_1 rfl (by omega) hn
theorem S58_l2_r {x0_1:(List Int)} {x1_2:Int} {k2_0_6:Option Ret} {k2_1_7:Int→Option Ret} (hl:(List.length x0_1)≤maxLen) {n:Nat} (hn:(List.length x0_1) < n):S58_l2 x0_1 x1_2 (List.length x0_1:Int) n k2_0_6 k2_1_7 (0:Int) =
  goL (fun (i:Nat) (x:Int) (next:Option Ret) =>
    bif (x1_2 == x) then
     k2_1_7 (i:Int)
    else
     next) (
    k2_0_6) x0_1 0:=by
 exact range0 (f:=fun n i=>S58_l2 x0_1 x1_2 (List.length x0_1:Int) n k2_0_6 k2_1_7 i) (l:=x0_1) (fun n i h=>by
  simp only [S58_l2]
  rw [decide_eq_true (show (i:Int) < (List.length x0_1:Int) by omega)]
  simp only [cond_true,inB_nat h,Int.toNat_natCast,getD_nat _ i h]) (fun n=>by
  simp only [S58_l2]
  rw [decide_eq_false (by omega)]
  simp only [cond_false]) hl x0_1 0 n rfl (by omega) hn
theorem I16_l10_r {N:Nat} {x5_13:(List Int)} {x32_14:(List QIIIIILIE)} {k10_0_19:Option Ret} {k10_1_20:Bool→Option Ret} (hl:(List.length x32_14)≤maxLen) {n:Nat} (hn:(List.length x32_14) < n):I16_l10 N x5_13 x32_14 (List.length x32_14:Int) n k10_0_19 k10_1_20 (0:Int) =
  goL (fun (i:Nat) (x:QIIIIILIE) (next:Option Ret) =>
    I35 N x5_13 x.1 (fun (r41_18:Int) =>
     bif (r41_18 != (1:Int)) then
      k10_1_20 false
     else
      next)) (
    k10_0_19) x32_14 0:=by
 exact range0 (f:=fun n i=>I16_l10 N x5_13 x32_14 (List.length x32_14:Int) n k10_0_19 k10_1_20 i) (l:=x32_14) (fun n i h=>by
  simp only [I16_l10]
  rw [decide_eq_true (show (i:Int) < (List.length x32_14:Int) by omega)]
  simp only [cond_true,inB_nat h,Int.toNat_natCast,getD_nat _ i h]) (fun n=>by
  simp only [I16_l10]
  rw [decide_eq_false (by omega)]
  simp only [cond_false]) hl x32_14 0 n rfl (by omega) hn
theorem I16_l3_r {N:Nat} {x0_1:(List QIIIIILIE)} {x11_3:(List QIIE)} {k3_0_8:(List Int)→Option Ret} {k3_1_9:Bool→Option Ret} {x5_2:(List Int)} (hl:(List.length x11_3)≤maxLen) {n:Nat} (hn:(List.length x11_3) < n):I16_l3 N x0_1 x11_3 (List.length x11_3:Int) n k3_0_8 k3_1_9 x5_2 (0:Int) =
  goL1 (fun (i:Nat) (x:QIIE) (x5_2:(List Int)) (next:(List Int)→Option Ret) =>
    I37 N x0_1 x.1 x.2 (fun (r22_7:Bool) =>
     bif (!r22_7) then
      k3_1_9 false
     else
      bif (decide ((List.length x5_2 + List.length [x.1,x.2]) * 1≤4398046511104)) then
       next (x5_2 ++ [x.1,x.2])
      else none)) (fun (x5_2:(List Int)) =>
    k3_0_8 x5_2) x11_3 0 x5_2:=by
 exact range1 (f:=fun n x5_2 i=>I16_l3 N x0_1 x11_3 (List.length x11_3:Int) n k3_0_8 k3_1_9 x5_2 i) (l:=x11_3) (fun n i x5_2 h=>by
  simp only [I16_l3]
  rw [decide_eq_true (show (i:Int) < (List.length x11_3:Int) by omega)]
  simp only [cond_true,inB_nat h,Int.toNat_natCast,getD_nat _ i h]) (fun n x5_2=>by
  simp only [I16_l3]
  rw [decide_eq_false (by omega)]
  simp only [cond_false]) hl x11_3 0 n x5_2 rfl (by omega) hn
theorem S38_l2_r {N:Nat} {x0_1:(List QIILIE)} {x1_2:Int} {k2_0_7:Option Ret} {k2_1_8:Int→Option Ret} (hl:(List.length x0_1)≤maxLen) {n:Nat} (hn:(List.length x0_1) < n):S38_l2 N x0_1 x1_2 (List.length x0_1:Int) n k2_0_7 k2_1_8 (0:Int) =
  goL (fun (i:Nat) (x:QIILIE) (next:Option Ret) =>
    I39 N x x1_2 (fun (r16_6:Bool) =>
     bif r16_6 then
      k2_1_8 (i:Int)
     else
      next)) (
    k2_0_7) x0_1 0:=by
 exact range0 (f:=fun n i=>S38_l2 N x0_1 x1_2 (List.length x0_1:Int) n k2_0_7 k2_1_8 i) (l:=x0_1) (fun n i h=>by
  simp only [S38_l2]
  rw [decide_eq_true (show (i:Int) < (List.length x0_1:Int) by omega)]
  simp only [cond_true,inB_nat h,Int.toNat_natCast,getD_nat _ i h]) (fun n=>by
  simp only [S38_l2]
  rw [decide_eq_false (by omega)]
  simp only [cond_false]) hl x0_1 0 n rfl (by omega) hn
theorem I41_l2_r {N:Nat} {x0_1:(List QIIIIILIE)} {x4_2:QIILIE} {x14_3:(List Int)} {k2_0_9:Option Ret} {k2_1_10:Bool→Option Ret} (hl:(List.length x14_3)≤maxLen) {n:Nat} (hn:(List.length x14_3) < n):I41_l2 N x0_1 x4_2 x14_3 (List.length x14_3:Int) n k2_0_9 k2_1_10 (0:Int) =
  goL (fun (i:Nat) (x:Int) (next:Option Ret) =>
    I34 N x0_1 x (fun (r22_7:Int) =>
     bif (decide (r22_7 < (0:Int))) then
      k2_1_10 false
     else
      bif (inB r22_7 (List.length x0_1)) then
       bif ((List.getD x0_1 (Int.toNat r22_7) zQIIIIILIE).2.1 == x4_2.2.1) then
        k2_1_10 false
       else
        S40 N x4_2.2.2 x (fun (r39_8:Bool) =>
         bif r39_8 then
          k2_1_10 false
         else
          next)
      else none)) (
    k2_0_9) x14_3 0:=by
 exact range0 (f:=fun n i=>I41_l2 N x0_1 x4_2 x14_3 (List.length x14_3:Int) n k2_0_9 k2_1_10 i) (l:=x14_3) (fun n i h=>by
  simp only [I41_l2]
  rw [decide_eq_true (show (i:Int) < (List.length x14_3:Int) by omega)]
  simp only [cond_true,inB_nat h,Int.toNat_natCast,getD_nat _ i h]) (fun n=>by
  simp only [I41_l2]
  rw [decide_eq_false (by omega)]
  simp only [cond_false]) hl x14_3 0 n rfl (by omega) hn
theorem I17_l4_r {N:Nat} {x0_2:(List QIIIIILIE)} {x1_3:(List QIILIE)} {x2_4:(List QIIE)} {x3_5:(List Int)} {x22_6:(List Int)} {k4_0_13:Option Ret} {k4_1_14:Bool→Option Ret} (hl:(List.length x22_6)≤maxLen) {n:Nat} (hn:(List.length x22_6) < n):I17_l4 N x0_2 x1_3 x2_4 x3_5 x22_6 (List.length x22_6:Int) n k4_0_13 k4_1_14 (0:Int) =
  goL (fun (i:Nat) (x:Int) (next:Option Ret) =>
    S38 N x1_3 x (fun (r31_10:Int) =>
     bif (decide (r31_10 < (0:Int))) then
      k4_1_14 false
     else
      bif (decide ((0:Int)≤(0:Int)) && decide ((0:Int)≤(i:Int)) && decide ((i:Int)≤(List.length x3_5:Int))) then
       S40 N (List.drop (Int.toNat (0:Int)) (List.take (Int.toNat (i:Int)) x3_5)) x (fun (r39_11:Bool) =>
        bif r39_11 then
         k4_1_14 false
        else
         bif (inB r31_10 (List.length x1_3)) then
          bif (inB (i:Int) (List.length x2_4)) then
           I41 N x0_2 (List.getD x1_3 (Int.toNat r31_10) zQIILIE) (List.getD x2_4 (Int.toNat (i:Int)) zQIIE) (fun (r51_12:Bool) =>
            bif (!r51_12) then
             k4_1_14 false
            else
             next)
          else none
         else none)
      else none)) (
    k4_0_13) x22_6 0:=by
 exact range0 (f:=fun n i=>I17_l4 N x0_2 x1_3 x2_4 x3_5 x22_6 (List.length x22_6:Int) n k4_0_13 k4_1_14 i) (l:=x22_6) (fun n i h=>by
  simp only [I17_l4]
  rw [decide_eq_true (show (i:Int) < (List.length x22_6:Int) by omega)]
  simp only [cond_true,inB_nat h,Int.toNat_natCast,getD_nat _ i h]) (fun n=>by
  simp only [I17_l4]
  rw [decide_eq_false (by omega)]
  simp only [cond_false]) hl x22_6 0 n rfl (by omega) hn
theorem I20_l5_r {x10_3:(List QIIIIILIE)} {k5_0_7:Int→Option Ret} {x3_2:Int} (hl:(List.length x10_3)≤maxLen) {n:Nat} (hn:(List.length x10_3) < n):I20_l5 x10_3 (List.length x10_3:Int) n k5_0_7 x3_2 (0:Int) =
  goL1 (fun (i:Nat) (x:QIIIIILIE) (x3_2:Int) (next:Int→Option Ret) =>
    next (IntKind.wrap .i64 (x3_2 + x.2.2.1))) (fun (x3_2:Int) =>
    k5_0_7 x3_2) x10_3 0 x3_2:=by
 exact range1 (f:=fun n x3_2 i=>I20_l5 x10_3 (List.length x10_3:Int) n k5_0_7 x3_2 i) (l:=x10_3) (fun n i x3_2 h=>by
  simp only [I20_l5]
  rw [decide_eq_true (show (i:Int) < (List.length x10_3:Int) by omega)]
  simp only [cond_true,inB_nat h,Int.toNat_natCast,getD_nat _ i h]) (fun n x3_2=>by
  simp only [I20_l5]
  rw [decide_eq_false (by omega)]
  simp only [cond_false]) hl x10_3 0 n x3_2 rfl (by omega) hn
theorem I5_l6_r {N:Nat} {x1_7:QLQIIIIILIELQIILIELQIIELILQIIIELQIIIIEIE} {x62_8:(List QIIIE)} {k6_0_13:Option Ret} {k6_1_14:Bool→Option Ret} (hl:(List.length x62_8)≤maxLen) {n:Nat} (hn:(List.length x62_8) < n):I5_l6 N x1_7 x62_8 (List.length x62_8:Int) n k6_0_13 k6_1_14 (0:Int) =
  goL (fun (i:Nat) (x:QIIIE) (next:Option Ret) =>
    bif (!((decide ((x.1:Int)=(0:Int))) && ((decide ((x.2.1:Int)=(0:Int))) && (decide ((x.2.2:Int)=(0:Int)))))) then
     I18 N x (fun (r74_12:Bool) =>
      bif (!r74_12) then
       k6_1_14 false
      else
       bif (inB (i:Int) (List.length x1_7.2.2.2.1)) then
        bif (x.1 != (List.getD x1_7.2.2.2.1 (Int.toNat (i:Int)) (0:Int))) then
         k6_1_14 false
        else
         next
       else none)
    else
     next) (
    k6_0_13) x62_8 0:=by
 exact range0 (f:=fun n i=>I5_l6 N x1_7 x62_8 (List.length x62_8:Int) n k6_0_13 k6_1_14 i) (l:=x62_8) (fun n i h=>by
  simp only [I5_l6]
  rw [decide_eq_true (show (i:Int) < (List.length x62_8:Int) by omega)]
  simp only [cond_true,inB_nat h,Int.toNat_natCast,getD_nat _ i h]) (fun n=>by
  simp only [I5_l6]
  rw [decide_eq_false (by omega)]
  simp only [cond_false]) hl x62_8 0 n rfl (by omega) hn
theorem S51_l3_r {x0_1:(List QIIIIILIE)} {k3_0_5:(List QIIIIILIE)→Option Ret} {x3_2:(List QIIIIILIE)} (hl:(List.length x0_1)≤maxLen) {n:Nat} (hn:(List.length x0_1) < n):S51_l3 x0_1 n k3_0_5 x3_2 (0:Int) =
  goL1 (fun (i:Nat) (x:QIIIIILIE) (x3_2:(List QIIIIILIE)) (next:(List QIIIIILIE)→Option Ret) =>
    bif (decide ((List.length ([]:(List Int)) + List.length x.2.2.2.2.2) * 1≤4398046511104)) then
     bif (decide ((List.length x3_2 + List.length [(x.1,(x.2.1,(x.2.2.1,(x.2.2.2.1,(x.2.2.2.2.1,(([]:(List Int)) ++ x.2.2.2.2.2))))))]) * 6≤4398046511104)) then
      next (x3_2 ++ [(x.1,(x.2.1,(x.2.2.1,(x.2.2.2.1,(x.2.2.2.2.1,(([]:(List Int)) ++ x.2.2.2.2.2))))))])
     else none
    else none) (fun (x3_2:(List QIIIIILIE)) =>
    k3_0_5 x3_2) x0_1 0 x3_2:=by
 exact range1 (f:=fun n x3_2 i=>S51_l3 x0_1 n k3_0_5 x3_2 i) (l:=x0_1) (fun n i x3_2 h=>by
  simp only [S51_l3]
  rw [decide_eq_true (show (i:Int) < (List.length x0_1:Int) by omega)]
  simp only [cond_true,inB_nat h,Int.toNat_natCast,getD_nat _ i h]) (fun n x3_2=>by
  simp only [S51_l3]
  rw [decide_eq_false (by omega)]
  simp only [cond_false]) hl x0_1 0 n x3_2 rfl (by omega) hn
theorem S68_l2_r {x0_1:(List QIIIIILIE)} {x1_2:Int} {k2_0_5:Option Ret} {k2_1_6:Int→Option Ret} (hl:(List.length x0_1)≤maxLen) {n:Nat} (hn:(List.length x0_1) < n):S68_l2 x0_1 x1_2 n k2_0_5 k2_1_6 (0:Int) =
  goL (fun (i:Nat) (x:QIIIIILIE) (next:Option Ret) =>
    bif (x.1 == x1_2) then
     k2_1_6 (i:Int)
    else
     next) (
    k2_0_5) x0_1 0:=by
 exact range0 (f:=fun n i=>S68_l2 x0_1 x1_2 n k2_0_5 k2_1_6 i) (l:=x0_1) (fun n i h=>by
  simp only [S68_l2]
  rw [decide_eq_true (show (i:Int) < (List.length x0_1:Int) by omega)]
  simp only [cond_true,inB_nat h,Int.toNat_natCast,getD_nat _ i h]) (fun n=>by
  simp only [S68_l2]
  rw [decide_eq_false (by omega)]
  simp only [cond_false]) hl x0_1 0 n rfl (by omega) hn
theorem S70_l3_r {x0_1:(List Int)} {x1_2:Int} {k3_0_7:Int→Option Ret} {x5_3:Int} (hl:(List.length x0_1)≤maxLen) {n:Nat} (hn:(List.length x0_1) < n):S70_l3 x0_1 x1_2 n k3_0_7 x5_3 (0:Int) =
  goL1 (fun (i:Nat) (x:Int) (x5_3:Int) (next:Int→Option Ret) =>
    bif (x == x1_2) then
     next (IntKind.wrap .i64 (x5_3 + (1:Int)))
    else
     next x5_3) (fun (x5_3:Int) =>
    k3_0_7 x5_3) x0_1 0 x5_3:=by
 exact range1 (f:=fun n x5_3 i=>S70_l3 x0_1 x1_2 n k3_0_7 x5_3 i) (l:=x0_1) (fun n i x5_3 h=>by
  simp only [S70_l3]
  rw [decide_eq_true (show (i:Int) < (List.length x0_1:Int) by omega)]
  simp only [cond_true,inB_nat h,Int.toNat_natCast,getD_nat _ i h]) (fun n x5_3=>by
  simp only [S70_l3]
  rw [decide_eq_false (by omega)]
  simp only [cond_false]) hl x0_1 0 n x5_3 rfl (by omega) hn
theorem S60_l8_r {N:Nat} {x0_9:(List QIIIIILIE)} {x3_10:Int} {x4_11:QIIIIILIE} {k8_0_17:Option Ret} {k8_1_18:Bool→Option Ret} (hl:(List.length x4_11.2.2.2.2.2)≤maxLen) {n:Nat} (hn:(List.length x4_11.2.2.2.2.2) < n):S60_l8 N x0_9 x3_10 x4_11 n k8_0_17 k8_1_18 (0:Int) =
  goL (fun (i:Nat) (x : _) (next:Option Ret) =>
    S68 N x0_9 x (fun (r85_14:Int) =>
     bif (decide (r85_14 < (0:Int))) then
      k8_1_18 false
     else
      bif (r85_14 == x3_10) then
       k8_1_18 false
      else
       bif (inB r85_14 (List.length x0_9)) then
        bif (inB r85_14 (List.length x0_9)) then
         S70 N (List.getD x0_9 (Int.toNat r85_14) zQIIIIILIE).2.2.2.2.2 x4_11.1 (fun (r101_15:Int) =>
          S70 N x4_11.2.2.2.2.2 (List.getD x0_9 (Int.toNat r85_14) zQIIIIILIE).1 (fun (r109_16:Int) =>
           bif (r101_15 != r109_16) then
            k8_1_18 false
           else
            next))
        else none
       else none)) (
    k8_0_17) x4_11.2.2.2.2.2 0:=by
 exact range0 (f:=fun n i=>S60_l8 N x0_9 x3_10 x4_11 n k8_0_17 k8_1_18 i) (l:=x4_11.2.2.2.2.2) (fun n i h=>by
  simp only [S60_l8]
  rw [decide_eq_true (show (i:Int) < (List.length x4_11.2.2.2.2.2:Int) by omega)]
  simp only [cond_true,inB_nat h,Int.toNat_natCast,getD_nat _ i h]) (fun n=>by
  simp only [S60_l8]
  rw [decide_eq_false (by omega)]
  simp only [cond_false]) hl x4_11.2.2.2.2.2 0 n rfl (by omega) hn
theorem S60_l2_r {N:Nat} {x0_1:(List QIIIIILIE)} {k2_0_21:Option Ret} {k2_1_22:Bool→Option Ret} (hl:(List.length x0_1)≤maxLen) {n:Nat} (hn:(List.length x0_1) < n):S60_l2 N x0_1 n k2_0_21 k2_1_22 (0:Int) =
  goL (fun (i:Nat) (x:QIIIIILIE) (next:Option Ret) =>
    S69 N x.1 (1:Int) (99:Int) (fun (r19_4:Bool) =>
     bif (!r19_4) then
      k2_1_22 false
     else
      S69 N x.2.1 (1:Int) (99:Int) (fun (r24_5:Bool) =>
       bif (!r24_5) then
        k2_1_22 false
       else
        S69 N x.2.2.1 (0:Int) (List.length x.2.2.2.2.2:Int) (fun (r33_6:Bool) =>
         bif (!r33_6) then
          k2_1_22 false
         else
          S69 N x.2.2.2.2.1 (0:Int) (List.length x.2.2.2.2.2:Int) (fun (r42_7:Bool) =>
           bif (!r42_7) then
            k2_1_22 false
           else
            S69 N x.2.2.2.1 (0:Int) (100000:Int) (fun (r48_8:Bool) =>
             bif (!r48_8) then
              k2_1_22 false
             else
              bif (decide ((List.length x.2.2.2.2.2:Int) > (20:Int))) then
               k2_1_22 false
              else
               bif (decide ((i:Int) > (0:Int))) then
                bif (inB (IntKind.wrap .i64 ((i:Int) - (1:Int))) (List.length x0_1)) then
                 bif (decide ((List.getD x0_1 (Int.toNat (IntKind.wrap .i64 ((i:Int) - (1:Int)))) zQIIIIILIE).1 ≥ x.1)) then
                  k2_1_22 false
                 else
                  S60_l8 N x0_1 (i:Int) x N next k2_1_22 (0:Int)
                else none
               else
                S60_l8 N x0_1 (i:Int) x N next k2_1_22 (0:Int))))))) (
    k2_0_21) x0_1 0:=by
 exact range0 (f:=fun n i=>S60_l2 N x0_1 n k2_0_21 k2_1_22 i) (l:=x0_1) (fun n i h=>by
  simp only [S60_l2]
  rw [decide_eq_true (show (i:Int) < (List.length x0_1:Int) by omega)]
  simp only [cond_true,inB_nat h,Int.toNat_natCast,getD_nat _ i h]) (fun n=>by
  simp only [S60_l2]
  rw [decide_eq_false (by omega)]
  simp only [cond_false]) hl x0_1 0 n rfl (by omega) hn
theorem S44_l3_r {N:Nat} {x0_1:(List QIIIIILIE)} {k3_0_6:Int→Option Ret} {x3_2:Int} (hl:(List.length x0_1)≤maxLen) {n:Nat} (hn:(List.length x0_1) < n):S44_l3 N x0_1 n k3_0_6 x3_2 (0:Int) =
  goL1 (fun (i:Nat) (x:QIIIIILIE) (x3_2:Int) (next:Int→Option Ret) =>
    S60 N x0_1 (fun (r11_5:Bool) =>
     bif r11_5 then
      next (IntKind.wrap .i64 (x3_2 + x.2.2.1))
     else
      k3_0_6 x3_2)) (fun (x3_2:Int) =>
    k3_0_6 x3_2) x0_1 0 x3_2:=by
 exact range1 (f:=fun n x3_2 i=>S44_l3 N x0_1 n k3_0_6 x3_2 i) (l:=x0_1) (fun n i x3_2 h=>by
  simp only [S44_l3]
  rw [decide_eq_true (show (i:Int) < (List.length x0_1:Int) by omega)]
  simp only [cond_true,inB_nat h,Int.toNat_natCast,getD_nat _ i h]) (fun n x3_2=>by
  simp only [S44_l3]
  rw [decide_eq_false (by omega)]
  simp only [cond_false]) hl x0_1 0 n x3_2 rfl (by omega) hn
theorem S62_l11_r {x3_18:(List QIIIIILIE)} {k11_0_22:(List Int)→Option Ret} {x6_19:(List Int)} (hl:(List.length x3_18)≤maxLen) {n:Nat} (hn:(List.length x3_18) < n):S62_l11 x3_18 n k11_0_22 x6_19 (0:Int) =
  goL1 (fun (i:Nat) (x:QIIIIILIE) (x6_19:(List Int)) (next:(List Int)→Option Ret) =>
    bif (decide ((List.length x6_19 + List.length [x.1]) * 1≤4398046511104)) then
     next (x6_19 ++ [x.1])
    else none) (fun (x6_19:(List Int)) =>
    k11_0_22 x6_19) x3_18 0 x6_19:=by
 exact range1 (f:=fun n x6_19 i=>S62_l11 x3_18 n k11_0_22 x6_19 i) (l:=x3_18) (fun n i x6_19 h=>by
  simp only [S62_l11]
  rw [decide_eq_true (show (i:Int) < (List.length x3_18:Int) by omega)]
  simp only [cond_true,inB_nat h,Int.toNat_natCast,getD_nat _ i h]) (fun n x6_19=>by
  simp only [S62_l11]
  rw [decide_eq_false (by omega)]
  simp only [cond_false]) hl x3_18 0 n x6_19 rfl (by omega) hn
theorem S62_l3_r {N:Nat} {x0_1:(List QIIIIILIE)} {k3_0_15:(List QIIIIILIE)→Option Ret} {x3_2:(List QIIIIILIE)} (hl:(List.length x0_1)≤maxLen) {n:Nat} (hn:(List.length x0_1) < n):S62_l3 N x0_1 n k3_0_15 x3_2 (0:Int) =
  goL1 (fun (i:Nat) (x:QIIIIILIE) (x3_2:(List QIIIIILIE)) (next:(List QIIIIILIE)→Option Ret) =>
    S60 N x0_1 (fun (r15_5:Bool) =>
     bif r15_5 then
      S62_l6 N x0_1 x3_2 (i:Int) N (fun (z5_14:Int) =>
       bif (decide ((0:Int)≤(0:Int)) && decide ((0:Int)≤z5_14) && decide (z5_14≤(List.length x3_2:Int))) then
        bif (decide ((0:Int)≤z5_14) && decide (z5_14≤(List.length x3_2:Int)) && decide ((List.length x3_2:Int)≤(List.length x3_2:Int))) then
         bif (decide ((List.length ([]:(List QIIIIILIE)) + List.length (List.drop 0 (List.take (Int.toNat z5_14) x3_2))) * 6≤4398046511104)) then
          bif (decide ((List.length (([]:(List QIIIIILIE)) ++ (List.drop 0 (List.take (Int.toNat z5_14) x3_2))) + List.length [x]) * 6≤4398046511104)) then
           bif (decide ((List.length ((([]:(List QIIIIILIE)) ++ (List.drop 0 (List.take (Int.toNat z5_14) x3_2))) ++ [x]) + List.length (List.drop (Int.toNat z5_14) (List.take (Int.toNat (List.length x3_2:Int)) x3_2))) * 6≤4398046511104)) then
            next (((([]:(List QIIIIILIE)) ++ (List.drop 0 (List.take (Int.toNat z5_14) x3_2))) ++ [x]) ++ (List.drop (Int.toNat z5_14) (List.take (Int.toNat (List.length x3_2:Int)) x3_2)))
           else none
          else none
         else none
        else none
       else none) (List.length x3_2:Int)
     else
      k3_0_15 x3_2)) (fun (x3_2:(List QIIIIILIE)) =>
    k3_0_15 x3_2) x0_1 0 x3_2:=by
 exact range1 (f:=fun n x3_2 i=>S62_l3 N x0_1 n k3_0_15 x3_2 i) (l:=x0_1) (fun n i x3_2 h=>by
  simp only [S62_l3]
  rw [decide_eq_true (show (i:Int) < (List.length x0_1:Int) by omega)]
  simp only [cond_true,inB_nat h,Int.toNat_natCast,getD_nat _ i h]) (fun n x3_2=>by
  simp only [S62_l3]
  rw [decide_eq_false (by omega)]
  simp only [cond_false]) hl x0_1 0 n x3_2 rfl (by omega) hn
theorem S74_l2_r {x0_1:(List Int)} {x1_2:Int} {k2_0_5:Option Ret} {k2_1_6:Bool→Option Ret} (hl:(List.length x0_1)≤maxLen) {n:Nat} (hn:(List.length x0_1) < n):S74_l2 x0_1 x1_2 n k2_0_5 k2_1_6 (0:Int) =
  goL (fun (i:Nat) (x:Int) (next:Option Ret) =>
    bif (x == x1_2) then
     k2_1_6 true
    else
     next) (
    k2_0_5) x0_1 0:=by
 exact range0 (f:=fun n i=>S74_l2 x0_1 x1_2 n k2_0_5 k2_1_6 i) (l:=x0_1) (fun n i h=>by
  simp only [S74_l2]
  rw [decide_eq_true (show (i:Int) < (List.length x0_1:Int) by omega)]
  simp only [cond_true,inB_nat h,Int.toNat_natCast,getD_nat _ i h]) (fun n=>by
  simp only [S74_l2]
  rw [decide_eq_false (by omega)]
  simp only [cond_false]) hl x0_1 0 n rfl (by omega) hn
theorem S63_l7_r {N:Nat} {x0_6:(List QIILIE)} {x3_7:Int} {k7_0_11:Option Ret} {k7_1_12:Bool→Option Ret} (hc0:(inB x3_7 (List.length x0_6))=true) (hl:(List.length (List.getD x0_6 (Int.toNat x3_7) zQIILIE).2.2)≤maxLen) {n:Nat} (hn:(List.length (List.getD x0_6 (Int.toNat x3_7) zQIILIE).2.2) < n):S63_l7 N x0_6 x3_7 n k7_0_11 k7_1_12 (0:Int) =
  goL (fun (i:Nat) (x : _) (next:Option Ret) =>
    S69 N x (1:Int) (99:Int) (fun (r63_10:Bool) =>
     bif (!r63_10) then
      k7_1_12 false
     else
      bif (decide ((i:Int) > (0:Int))) then
       bif (inB (IntKind.wrap .i64 ((i:Int) - (1:Int))) (List.length (List.getD x0_6 (Int.toNat x3_7) zQIILIE).2.2)) then
        bif (decide ((List.getD (List.getD x0_6 (Int.toNat x3_7) zQIILIE).2.2 (Int.toNat (IntKind.wrap .i64 ((i:Int) - (1:Int)))) (0:Int)) ≥ x)) then
         k7_1_12 false
        else
         next
       else none
      else
       next)) (
    k7_0_11) ((List.getD x0_6 (Int.toNat x3_7) zQIILIE).2.2) 0:=by
 exact range0 (f:=fun n i=>S63_l7 N x0_6 x3_7 n k7_0_11 k7_1_12 i) (l:=((List.getD x0_6 (Int.toNat x3_7) zQIILIE).2.2)) (fun n i h=>by
  simp only [S63_l7,hc0,cond_true]
  rw [decide_eq_true (show (i:Int) < (List.length ((List.getD x0_6 (Int.toNat x3_7) zQIILIE).2.2):Int) by omega)]
  simp only [cond_true,inB_nat h,Int.toNat_natCast,getD_nat _ i h]) (fun n=>by
  simp only [S63_l7,hc0,cond_true]
  rw [decide_eq_false (by omega)]
  simp only [cond_false]) hl ((List.getD x0_6 (Int.toNat x3_7) zQIILIE).2.2) 0 n rfl (by omega) hn
theorem S63_l2_r {N:Nat} {x0_1:(List QIILIE)} {k2_0_15:Option Ret} {k2_1_16:Bool→Option Ret} (hl:(List.length x0_1)≤maxLen) {n:Nat} (hn:(List.length x0_1) < n):S63_l2 N x0_1 n k2_0_15 k2_1_16 (0:Int) =
  goL (fun (i:Nat) (x:QIILIE) (next:Option Ret) =>
    S69 N x.1 (1:Int) (99:Int) (fun (r16_4:Bool) =>
     bif (!r16_4) then
      k2_1_16 false
     else
      S69 N x.2.1 (1:Int) (99:Int) (fun (r24_5:Bool) =>
       bif (!r24_5) then
        k2_1_16 false
       else
        bif (decide ((i:Int) > (0:Int))) then
         bif (inB (IntKind.wrap .i64 ((i:Int) - (1:Int))) (List.length x0_1)) then
          bif (decide ((List.getD x0_1 (Int.toNat (IntKind.wrap .i64 ((i:Int) - (1:Int)))) zQIILIE).1 ≥ x.1)) then
           k2_1_16 false
          else
           S63_l7 N x0_1 (i:Int) N next k2_1_16 (0:Int)
         else none
        else
         S63_l7 N x0_1 (i:Int) N next k2_1_16 (0:Int)))) (
    k2_0_15) x0_1 0:=by
 exact range0 (f:=fun n i=>S63_l2 N x0_1 n k2_0_15 k2_1_16 i) (l:=x0_1) (fun n i h=>by
  simp only [S63_l2]
  rw [decide_eq_true (show (i:Int) < (List.length x0_1:Int) by omega)]
  simp only [cond_true,inB_nat h,Int.toNat_natCast,getD_nat _ i h]) (fun n=>by
  simp only [S63_l2]
  rw [decide_eq_false (by omega)]
  simp only [cond_false]) hl x0_1 0 n rfl (by omega) hn
theorem S81_l3_r {N:Nat} {x0_1:(List Int)} {k3_0_6:Int→Option Ret} {x3_2:Int} (hl:(List.length x0_1)≤maxLen) {n:Nat} (hn:(List.length x0_1) < n):S81_l3 N x0_1 n k3_0_6 x3_2 (0:Int) =
  goL1 (fun (i:Nat) (x:Int) (x3_2:Int) (next:Int→Option Ret) =>
    S82 N x (2147483647:Int) (fun (r17_5:Int) =>
     next (Int.tmod (IntKind.wrap .i64 ((IntKind.wrap .i64 ((IntKind.wrap .i64 (x3_2 * (1000003:Int))) + r17_5)) + (13:Int))) (2147483647:Int)))) (fun (x3_2:Int) =>
    k3_0_6 x3_2) x0_1 0 x3_2:=by
 exact range1 (f:=fun n x3_2 i=>S81_l3 N x0_1 n k3_0_6 x3_2 i) (l:=x0_1) (fun n i x3_2 h=>by
  simp only [S81_l3]
  rw [decide_eq_true (show (i:Int) < (List.length x0_1:Int) by omega)]
  simp only [cond_true,inB_nat h,Int.toNat_natCast,getD_nat _ i h]) (fun n x3_2=>by
  simp only [S81_l3]
  rw [decide_eq_false (by omega)]
  simp only [cond_false]) hl x0_1 0 n x3_2 rfl (by omega) hn
theorem S78_l3_r {N:Nat} {x0_1:(List QIIIIE)} {k3_0_8:Option Ret} {k3_1_9:Bool→Option Ret} {x3_2:Int} (hl:(List.length x0_1)≤maxLen) {n:Nat} (hn:(List.length x0_1) < n):S78_l3 N x0_1 n k3_0_8 k3_1_9 x3_2 (0:Int) =
  goL1 (fun (i:Nat) (x:QIIIIE) (x3_2:Int) (next:Int→Option Ret) =>
    bif (decide ((List.length x0_1:Int)≤(200:Int))) then
     S76 N x3_2 x (fun (r23_5:Int) =>
      bif (x.1 != (IntKind.wrap .i64 ((i:Int) + (1:Int)))) then
       k3_1_9 false
      else
       S69 N x.2.1 (1:Int) (9:Int) (fun (r32_6:Bool) =>
        bif (!r32_6) then
         k3_1_9 false
        else
         S69 N x.2.2.1 (0:Int) (99:Int) (fun (r38_7:Bool) =>
          bif (!r38_7) then
           k3_1_9 false
          else
           bif (x.2.2.2 != r23_5) then
            k3_1_9 false
           else
            next r23_5)))
    else
     k3_0_8) (fun (x3_2:Int) =>
    k3_0_8) x0_1 0 x3_2:=by
 exact range1 (f:=fun n x3_2 i=>S78_l3 N x0_1 n k3_0_8 k3_1_9 x3_2 i) (l:=x0_1) (fun n i x3_2 h=>by
  simp only [S78_l3]
  rw [decide_eq_true (show (i:Int) < (List.length x0_1:Int) by omega)]
  simp only [cond_true,inB_nat h,Int.toNat_natCast,getD_nat _ i h]) (fun n x3_2=>by
  simp only [S78_l3]
  rw [decide_eq_false (by omega)]
  simp only [cond_false]) hl x0_1 0 n x3_2 rfl (by omega) hn
theorem I9_l3_r {x8_2:(List QIIIE)} {k3_0_7:(List Int)→Option Ret} {x3_1:(List Int)} (hl:(List.length x8_2)≤maxLen) {n:Nat} (hn:(List.length x8_2) < n):I9_l3 x8_2 (List.length x8_2:Int) n k3_0_7 x3_1 (0:Int) =
  goL1 (fun (i:Nat) (x:QIIIE) (x3_1:(List Int)) (next:(List Int)→Option Ret) =>
    bif ((decide ((x.1:Int)=(0:Int))) && ((decide ((x.2.1:Int)=(0:Int))) && (decide ((x.2.2:Int)=(0:Int))))) then
     bif (decide ((List.length x3_1 + List.length [(i:Int)]) * 1≤4398046511104)) then
      next (x3_1 ++ [(i:Int)])
     else none
    else
     next x3_1) (fun (x3_1:(List Int)) =>
    k3_0_7 x3_1) x8_2 0 x3_1:=by
 exact range1 (f:=fun n x3_1 i=>I9_l3 x8_2 (List.length x8_2:Int) n k3_0_7 x3_1 i) (l:=x8_2) (fun n i x3_1 h=>by
  simp only [I9_l3]
  rw [decide_eq_true (show (i:Int) < (List.length x8_2:Int) by omega)]
  simp only [cond_true,inB_nat h,Int.toNat_natCast,getD_nat _ i h]) (fun n x3_1=>by
  simp only [I9_l3]
  rw [decide_eq_false (by omega)]
  simp only [cond_false]) hl x8_2 0 n x3_1 rfl (by omega) hn
theorem S52_l3_r {x0_1:(List QIILIE)} {k3_0_5:(List QIILIE)→Option Ret} {x3_2:(List QIILIE)} (hl:(List.length x0_1)≤maxLen) {n:Nat} (hn:(List.length x0_1) < n):S52_l3 x0_1 n k3_0_5 x3_2 (0:Int) =
  goL1 (fun (i:Nat) (x:QIILIE) (x3_2:(List QIILIE)) (next:(List QIILIE)→Option Ret) =>
    bif (decide ((List.length ([]:(List Int)) + List.length x.2.2) * 1≤4398046511104)) then
     bif (decide ((List.length x3_2 + List.length [(x.1,(x.2.1,(([]:(List Int)) ++ x.2.2)))]) * 3≤4398046511104)) then
      next (x3_2 ++ [(x.1,(x.2.1,(([]:(List Int)) ++ x.2.2)))])
     else none
    else none) (fun (x3_2:(List QIILIE)) =>
    k3_0_5 x3_2) x0_1 0 x3_2:=by
 exact range1 (f:=fun n x3_2 i=>S52_l3 x0_1 n k3_0_5 x3_2 i) (l:=x0_1) (fun n i x3_2 h=>by
  simp only [S52_l3]
  rw [decide_eq_true (show (i:Int) < (List.length x0_1:Int) by omega)]
  simp only [cond_true,inB_nat h,Int.toNat_natCast,getD_nat _ i h]) (fun n x3_2=>by
  simp only [S52_l3]
  rw [decide_eq_false (by omega)]
  simp only [cond_false]) hl x0_1 0 n x3_2 rfl (by omega) hn
theorem S28_l4_r {x0_1:(List Int)} {x1_2:(List Int)} {k4_0_6:Option Ret} {k4_1_7:Bool→Option Ret} (hl:(List.length x0_1)≤maxLen) {n:Nat} (hn:(List.length x0_1) < n):S28_l4 x0_1 x1_2 (List.length x0_1:Int) n k4_0_6 k4_1_7 (0:Int) =
  goL (fun (i:Nat) (x:Int) (next:Option Ret) =>
    bif (inB (i:Int) (List.length x1_2)) then
     bif (x != (List.getD x1_2 (Int.toNat (i:Int)) (0:Int))) then
      k4_1_7 false
     else
      next
    else none) (
    k4_0_6) x0_1 0:=by
 exact range0 (f:=fun n i=>S28_l4 x0_1 x1_2 (List.length x0_1:Int) n k4_0_6 k4_1_7 i) (l:=x0_1) (fun n i h=>by
  simp only [S28_l4]
  rw [decide_eq_true (show (i:Int) < (List.length x0_1:Int) by omega)]
  simp only [cond_true,inB_nat h,Int.toNat_natCast,getD_nat _ i h]) (fun n=>by
  simp only [S28_l4]
  rw [decide_eq_false (by omega)]
  simp only [cond_false]) hl x0_1 0 n rfl (by omega) hn
theorem S26_l4_r {N:Nat} {x1_1:(List QIIIIILIE)} {x15_2:(List QIIIIILIE)} {k4_0_7:Option Ret} {k4_1_8:Bool→Option Ret} (hl:(List.length x15_2)≤maxLen) {n:Nat} (hn:(List.length x15_2) < n):S26_l4 N x1_1 x15_2 (List.length x15_2:Int) n k4_0_7 k4_1_8 (0:Int) =
  goL (fun (i:Nat) (x:QIIIIILIE) (next:Option Ret) =>
    bif (inB (i:Int) (List.length x1_1)) then
     I27 N x (List.getD x1_1 (Int.toNat (i:Int)) zQIIIIILIE) (fun (r29_6:Bool) =>
      bif (!r29_6) then
       k4_1_8 false
      else
       next)
    else none) (
    k4_0_7) x15_2 0:=by
 exact range0 (f:=fun n i=>S26_l4 N x1_1 x15_2 (List.length x15_2:Int) n k4_0_7 k4_1_8 i) (l:=x15_2) (fun n i h=>by
  simp only [S26_l4]
  rw [decide_eq_true (show (i:Int) < (List.length x15_2:Int) by omega)]
  simp only [cond_true,inB_nat h,Int.toNat_natCast,getD_nat _ i h]) (fun n=>by
  simp only [S26_l4]
  rw [decide_eq_false (by omega)]
  simp only [cond_false]) hl x15_2 0 n rfl (by omega) hn
theorem S29_l4_r {N:Nat} {x1_1:(List QIILIE)} {x15_2:(List QIILIE)} {k4_0_7:Option Ret} {k4_1_8:Bool→Option Ret} (hl:(List.length x15_2)≤maxLen) {n:Nat} (hn:(List.length x15_2) < n):S29_l4 N x1_1 x15_2 (List.length x15_2:Int) n k4_0_7 k4_1_8 (0:Int) =
  goL (fun (i:Nat) (x:QIILIE) (next:Option Ret) =>
    bif (inB (i:Int) (List.length x1_1)) then
     I30 N x (List.getD x1_1 (Int.toNat (i:Int)) zQIILIE) (fun (r29_6:Bool) =>
      bif (!r29_6) then
       k4_1_8 false
      else
       next)
    else none) (
    k4_0_7) x15_2 0:=by
 exact range0 (f:=fun n i=>S29_l4 N x1_1 x15_2 (List.length x15_2:Int) n k4_0_7 k4_1_8 i) (l:=x15_2) (fun n i h=>by
  simp only [S29_l4]
  rw [decide_eq_true (show (i:Int) < (List.length x15_2:Int) by omega)]
  simp only [cond_true,inB_nat h,Int.toNat_natCast,getD_nat _ i h]) (fun n=>by
  simp only [S29_l4]
  rw [decide_eq_false (by omega)]
  simp only [cond_false]) hl x15_2 0 n rfl (by omega) hn
theorem S31_l4_r {x0_1:(List QIIE)} {x1_2:(List QIIE)} {k4_0_6:Option Ret} {k4_1_7:Bool→Option Ret} (hl:(List.length x0_1)≤maxLen) {n:Nat} (hn:(List.length x0_1) < n):S31_l4 x0_1 x1_2 (List.length x0_1:Int) n k4_0_6 k4_1_7 (0:Int) =
  goL (fun (i:Nat) (x:QIIE) (next:Option Ret) =>
    bif (inB (i:Int) (List.length x1_2)) then
     bif (!((decide ((x.1:Int)=(List.getD x1_2 (Int.toNat (i:Int)) zQIIE).1)) && (decide ((x.2:Int)=(List.getD x1_2 (Int.toNat (i:Int)) zQIIE).2)))) then
      k4_1_7 false
     else
      next
    else none) (
    k4_0_6) x0_1 0:=by
 exact range0 (f:=fun n i=>S31_l4 x0_1 x1_2 (List.length x0_1:Int) n k4_0_6 k4_1_7 i) (l:=x0_1) (fun n i h=>by
  simp only [S31_l4]
  rw [decide_eq_true (show (i:Int) < (List.length x0_1:Int) by omega)]
  simp only [cond_true,inB_nat h,Int.toNat_natCast,getD_nat _ i h]) (fun n=>by
  simp only [S31_l4]
  rw [decide_eq_false (by omega)]
  simp only [cond_false]) hl x0_1 0 n rfl (by omega) hn
theorem S32_l4_r {x0_1:(List QIIIE)} {x1_2:(List QIIIE)} {k4_0_6:Option Ret} {k4_1_7:Bool→Option Ret} (hl:(List.length x0_1)≤maxLen) {n:Nat} (hn:(List.length x0_1) < n):S32_l4 x0_1 x1_2 (List.length x0_1:Int) n k4_0_6 k4_1_7 (0:Int) =
  goL (fun (i:Nat) (x:QIIIE) (next:Option Ret) =>
    bif (inB (i:Int) (List.length x1_2)) then
     bif (!((decide ((x.1:Int)=(List.getD x1_2 (Int.toNat (i:Int)) zQIIIE).1)) && ((decide ((x.2.1:Int)=(List.getD x1_2 (Int.toNat (i:Int)) zQIIIE).2.1)) && (decide ((x.2.2:Int)=(List.getD x1_2 (Int.toNat (i:Int)) zQIIIE).2.2))))) then
      k4_1_7 false
     else
      next
    else none) (
    k4_0_6) x0_1 0:=by
 exact range0 (f:=fun n i=>S32_l4 x0_1 x1_2 (List.length x0_1:Int) n k4_0_6 k4_1_7 i) (l:=x0_1) (fun n i h=>by
  simp only [S32_l4]
  rw [decide_eq_true (show (i:Int) < (List.length x0_1:Int) by omega)]
  simp only [cond_true,inB_nat h,Int.toNat_natCast,getD_nat _ i h]) (fun n=>by
  simp only [S32_l4]
  rw [decide_eq_false (by omega)]
  simp only [cond_false]) hl x0_1 0 n rfl (by omega) hn
theorem S33_l4_r {x0_1:(List QIIIIE)} {x1_2:(List QIIIIE)} {k4_0_6:Option Ret} {k4_1_7:Bool→Option Ret} (hl:(List.length x0_1)≤maxLen) {n:Nat} (hn:(List.length x0_1) < n):S33_l4 x0_1 x1_2 (List.length x0_1:Int) n k4_0_6 k4_1_7 (0:Int) =
  goL (fun (i:Nat) (x:QIIIIE) (next:Option Ret) =>
    bif (inB (i:Int) (List.length x1_2)) then
     bif (!((decide ((x.1:Int)=(List.getD x1_2 (Int.toNat (i:Int)) zQIIIIE).1)) && ((decide ((x.2.1:Int)=(List.getD x1_2 (Int.toNat (i:Int)) zQIIIIE).2.1)) && ((decide ((x.2.2.1:Int)=(List.getD x1_2 (Int.toNat (i:Int)) zQIIIIE).2.2.1)) && (decide ((x.2.2.2:Int)=(List.getD x1_2 (Int.toNat (i:Int)) zQIIIIE).2.2.2)))))) then
      k4_1_7 false
     else
      next
    else none) (
    k4_0_6) x0_1 0:=by
 exact range0 (f:=fun n i=>S33_l4 x0_1 x1_2 (List.length x0_1:Int) n k4_0_6 k4_1_7 i) (l:=x0_1) (fun n i h=>by
  simp only [S33_l4]
  rw [decide_eq_true (show (i:Int) < (List.length x0_1:Int) by omega)]
  simp only [cond_true,inB_nat h,Int.toNat_natCast,getD_nat _ i h]) (fun n=>by
  simp only [S33_l4]
  rw [decide_eq_false (by omega)]
  simp only [cond_false]) hl x0_1 0 n rfl (by omega) hn
end Go.Pv.R
