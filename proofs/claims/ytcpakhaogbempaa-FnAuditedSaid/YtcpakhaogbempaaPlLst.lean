/- Their loops over lists, without rounds. -/
import Derived.Test.YtcpakhaogbempaaPlRes
namespace Go.Pv.R
set_option linter.unusedVariables false
set_option linter.unusedSimpArgs false
theorem S105_l2_r {N:Nat} {x0_1:(List QIIIIILIE)} {x1_2:Int} {k2_0_7:Option Ret} {k2_1_8:Int→Option Ret} (hl:(List.length x0_1)≤maxLen) {n:Nat} (hn:(List.length x0_1) < n):S105_l2 N x0_1 x1_2 (List.length x0_1:Int) n k2_0_7 k2_1_8 (0:Int) =
  goL (fun (i:Nat) (x:QIIIIILIE) (next:Option Ret) =>
    I106 N x x1_2 (fun (r16_6:Bool) =>
     bif r16_6 then
      k2_1_8 (i:Int)
     else
      next)) (
    k2_0_7) x0_1 0:=by
 exact range0 (f:=fun n i=>S105_l2 N x0_1 x1_2 (List.length x0_1:Int) n k2_0_7 k2_1_8 i) (l:=x0_1) (fun n i h=>by
  simp only [S105_l2]
  rw [decide_eq_true (show (i:Int) < (List.length x0_1:Int) by omega)]
  simp only [cond_true,inB_nat h,Int.toNat_natCast,getD_nat _ i h]) (fun n=>by
  simp only [S105_l2]
  rw [decide_eq_false (by omega)]
  simp only [cond_false]) hl x0_1 0 n rfl (by omega) hn
theorem I67_l3_r {x1_1:Int} {x8_3:(List Int)} {k3_0_8:Int→Option Ret} {x5_2:Int} (hl:(List.length x8_3)≤maxLen) {n:Nat} (hn:(List.length x8_3) < n):I67_l3 x1_1 x8_3 (List.length x8_3:Int) n k3_0_8 x5_2 (0:Int) =
  goL1 (fun (i:Nat) (x:Int) (x5_2:Int) (next:Int→Option Ret) =>
    bif (x == x1_1) then
     next (IntKind.wrap .i64 (x5_2 + (1:Int)))
    else
     next x5_2) (fun (x5_2:Int) =>
    k3_0_8 x5_2) x8_3 0 x5_2:=by
 exact range1 (f:=fun n x5_2 i=>I67_l3 x1_1 x8_3 (List.length x8_3:Int) n k3_0_8 x5_2 i) (l:=x8_3) (fun n i x5_2 h=>by
  simp only [I67_l3]
  rw [decide_eq_true (show (i:Int) < (List.length x8_3:Int) by omega)]
  simp only [cond_true,inB_nat h,Int.toNat_natCast,getD_nat _ i h]) (fun n x5_2=>by
  simp only [I67_l3]
  rw [decide_eq_false (by omega)]
  simp only [cond_false]) hl x8_3 0 n x5_2 rfl (by omega) hn
theorem I39_l10_r {N:Nat} {x0_16:(List QIIIIILIE)} {x4_17:QIIIIILIE} {x12_18:(List QIIIIILIE)} {x13_19:Int} {x14_20:Int} {x72_21:(List Int)} {k10_0_28:Option Ret} {k10_1_29:Bool→Option Ret} (hl:(List.length x72_21)≤maxLen) {n:Nat} (hn:(List.length x72_21) < n):I39_l10 N x0_16 x4_17 x12_18 x13_19 x14_20 x72_21 (List.length x72_21:Int) n k10_0_28 k10_1_29 (0:Int) =
  goL (fun (i:Nat) (x:Int) (next:Option Ret) =>
    I76 N x0_16 x (fun (r80_25:Int) =>
     bif (decide (r80_25 < (0:Int))) then
      k10_1_29 false
     else
      bif (x == x4_17.1) then
       k10_1_29 false
      else
       bif (inB r80_25 (List.length x0_16)) then
        I67 N x4_17.2.2.2.2.2 x (fun (r93_26:Int) =>
         I67 N (List.getD x0_16 (Int.toNat r80_25) zQIIIIILIE).2.2.2.2.2 x4_17.1 (fun (r101_27:Int) =>
          bif (r93_26 != r101_27) then
           k10_1_29 false
          else
           next))
       else none)) (
    k10_0_28) x72_21 0:=by
 exact range0 (f:=fun n i=>I39_l10 N x0_16 x4_17 x12_18 x13_19 x14_20 x72_21 (List.length x72_21:Int) n k10_0_28 k10_1_29 i) (l:=x72_21) (fun n i h=>by
  simp only [I39_l10]
  rw [decide_eq_true (show (i:Int) < (List.length x72_21:Int) by omega)]
  simp only [cond_true,inB_nat h,Int.toNat_natCast,getD_nat _ i h]) (fun n=>by
  simp only [I39_l10]
  rw [decide_eq_false (by omega)]
  simp only [cond_false]) hl x72_21 0 n rfl (by omega) hn
theorem I39_l4_r {N:Nat} {x0_1:(List QIIIIILIE)} {x12_2:(List QIIIIILIE)} {k4_0_32:Option Ret} {k4_1_33:Bool→Option Ret} (hl:(List.length x12_2)≤maxLen) {n:Nat} (hn:(List.length x12_2) < n):I39_l4 N x0_1 x12_2 (List.length x12_2:Int) n k4_0_32 k4_1_33 (0:Int) =
  goL (fun (i:Nat) (x:QIIIIILIE) (next:Option Ret) =>
    I45 N x.1 (1:Int) (99:Int) (fun (r24_6:Bool) =>
     bif (!r24_6) then
      k4_1_33 false
     else
      bif (decide ((i:Int) > (0:Int))) then
       bif (inB (IntKind.wrap .i64 ((i:Int) - (1:Int))) (List.length x0_1)) then
        bif (decide (x.1≤(List.getD x0_1 (Int.toNat (IntKind.wrap .i64 ((i:Int) - (1:Int)))) zQIIIIILIE).1)) then
         k4_1_33 false
        else
         I45 N x.2.1 (1:Int) (99:Int) (fun (r44_7:Bool) =>
          bif (!r44_7) then
           k4_1_33 false
          else
           bif (decide ((List.length x.2.2.2.2.2:Int) > (20:Int))) then
            k4_1_33 false
           else
            I45 N x.2.2.1 (0:Int) (List.length x.2.2.2.2.2:Int) (fun (r55_8:Bool) =>
             bif (!r55_8) then
              k4_1_33 false
             else
              I45 N x.2.2.2.2.1 (0:Int) (List.length x.2.2.2.2.2:Int) (fun (r62_9:Bool) =>
               bif (!r62_9) then
                k4_1_33 false
               else
                I45 N x.2.2.2.1 (0:Int) (100000:Int) (fun (r68_10:Bool) =>
                 bif (!r68_10) then
                  k4_1_33 false
                 else
                  I39_l10 N x0_1 x x12_2 (List.length x12_2:Int) (i:Int) x.2.2.2.2.2 (List.length x.2.2.2.2.2:Int) N next k4_1_33 (0:Int)))))
       else none
      else
       I45 N x.2.1 (1:Int) (99:Int) (fun (r44_11:Bool) =>
        bif (!r44_11) then
         k4_1_33 false
        else
         bif (decide ((List.length x.2.2.2.2.2:Int) > (20:Int))) then
          k4_1_33 false
         else
          I45 N x.2.2.1 (0:Int) (List.length x.2.2.2.2.2:Int) (fun (r55_12:Bool) =>
           bif (!r55_12) then
            k4_1_33 false
           else
            I45 N x.2.2.2.2.1 (0:Int) (List.length x.2.2.2.2.2:Int) (fun (r62_13:Bool) =>
             bif (!r62_13) then
              k4_1_33 false
             else
              I45 N x.2.2.2.1 (0:Int) (100000:Int) (fun (r68_14:Bool) =>
               bif (!r68_14) then
                k4_1_33 false
               else
                I39_l10 N x0_1 x x12_2 (List.length x12_2:Int) (i:Int) x.2.2.2.2.2 (List.length x.2.2.2.2.2:Int) N next k4_1_33 (0:Int))))))) (
    k4_0_32) x12_2 0:=by
 exact range0 (f:=fun n i=>I39_l4 N x0_1 x12_2 (List.length x12_2:Int) n k4_0_32 k4_1_33 i) (l:=x12_2) (fun n i h=>by
  simp only [I39_l4,I39_j1]
  rw [decide_eq_true (show (i:Int) < (List.length x12_2:Int) by omega)]
  simp only [cond_true,inB_nat h,Int.toNat_natCast,getD_nat _ i h]) (fun n=>by
  simp only [I39_l4,I39_j1]
  rw [decide_eq_false (by omega)]
  simp only [cond_false]) hl x12_2 0 n rfl (by omega) hn
theorem I40_l9_r {N:Nat} {x0_10:(List QIILIE)} {x4_11:QIILIE} {x10_12:(List QIILIE)} {x11_13:Int} {x12_14:Int} {x43_15:(List Int)} {k9_0_20:Option Ret} {k9_1_21:Bool→Option Ret} (hl:(List.length x43_15)≤maxLen) {n:Nat} (hn:(List.length x43_15) < n):I40_l9 N x0_10 x4_11 x10_12 x11_13 x12_14 x43_15 (List.length x43_15:Int) n k9_0_20 k9_1_21 (0:Int) =
  goL (fun (i:Nat) (x:Int) (next:Option Ret) =>
    I45 N x (1:Int) (99:Int) (fun (r51_19:Bool) =>
     bif (!r51_19) then
      k9_1_21 false
     else
      bif (decide ((i:Int) > (0:Int))) then
       bif (inB (IntKind.wrap .i64 ((i:Int) - (1:Int))) (List.length x4_11.2.2)) then
        bif (decide (x≤(List.getD x4_11.2.2 (Int.toNat (IntKind.wrap .i64 ((i:Int) - (1:Int)))) (0:Int)))) then
         k9_1_21 false
        else
         next
       else none
      else
       next)) (
    k9_0_20) x43_15 0:=by
 exact range0 (f:=fun n i=>I40_l9 N x0_10 x4_11 x10_12 x11_13 x12_14 x43_15 (List.length x43_15:Int) n k9_0_20 k9_1_21 i) (l:=x43_15) (fun n i h=>by
  simp only [I40_l9]
  rw [decide_eq_true (show (i:Int) < (List.length x43_15:Int) by omega)]
  simp only [cond_true,inB_nat h,Int.toNat_natCast,getD_nat _ i h]) (fun n=>by
  simp only [I40_l9]
  rw [decide_eq_false (by omega)]
  simp only [cond_false]) hl x43_15 0 n rfl (by omega) hn
theorem I40_l4_r {N:Nat} {x0_1:(List QIILIE)} {x10_2:(List QIILIE)} {k4_0_24:Option Ret} {k4_1_25:Bool→Option Ret} (hl:(List.length x10_2)≤maxLen) {n:Nat} (hn:(List.length x10_2) < n):I40_l4 N x0_1 x10_2 (List.length x10_2:Int) n k4_0_24 k4_1_25 (0:Int) =
  goL (fun (i:Nat) (x:QIILIE) (next:Option Ret) =>
    I45 N x.1 (1:Int) (99:Int) (fun (r19_6:Bool) =>
     bif (!r19_6) then
      k4_1_25 false
     else
      bif (decide ((i:Int) > (0:Int))) then
       bif (inB (IntKind.wrap .i64 ((i:Int) - (1:Int))) (List.length x0_1)) then
        bif (decide (x.1≤(List.getD x0_1 (Int.toNat (IntKind.wrap .i64 ((i:Int) - (1:Int)))) zQIILIE).1)) then
         k4_1_25 false
        else
         I45 N x.2.1 (1:Int) (99:Int) (fun (r39_7:Bool) =>
          bif (!r39_7) then
           k4_1_25 false
          else
           I40_l9 N x0_1 x x10_2 (List.length x10_2:Int) (i:Int) x.2.2 (List.length x.2.2:Int) N next k4_1_25 (0:Int))
       else none
      else
       I45 N x.2.1 (1:Int) (99:Int) (fun (r39_8:Bool) =>
        bif (!r39_8) then
         k4_1_25 false
        else
         I40_l9 N x0_1 x x10_2 (List.length x10_2:Int) (i:Int) x.2.2 (List.length x.2.2:Int) N next k4_1_25 (0:Int)))) (
    k4_0_24) x10_2 0:=by
 exact range0 (f:=fun n i=>I40_l4 N x0_1 x10_2 (List.length x10_2:Int) n k4_0_24 k4_1_25 i) (l:=x10_2) (fun n i h=>by
  simp only [I40_l4,I40_j1]
  rw [decide_eq_true (show (i:Int) < (List.length x10_2:Int) by omega)]
  simp only [cond_true,inB_nat h,Int.toNat_natCast,getD_nat _ i h]) (fun n=>by
  simp only [I40_l4,I40_j1]
  rw [decide_eq_false (by omega)]
  simp only [cond_false]) hl x10_2 0 n rfl (by omega) hn
theorem I107_l3_r {N:Nat} {x6_2:(List Int)} {k3_0_7:Int→Option Ret} {x3_1:Int} (hl:(List.length x6_2)≤maxLen) {n:Nat} (hn:(List.length x6_2) < n):I107_l3 N x6_2 (List.length x6_2:Int) n k3_0_7 x3_1 (0:Int) =
  goL1 (fun (i:Nat) (x:Int) (x3_1:Int) (next:Int→Option Ret) =>
    I130 N x3_1 x (fun (r14_6:Int) =>
     next r14_6)) (fun (x3_1:Int) =>
    k3_0_7 x3_1) x6_2 0 x3_1:=by
 exact range1 (f:=fun n x3_1 i=>I107_l3 N x6_2 (List.length x6_2:Int) n k3_0_7 x3_1 i) (l:=x6_2) (fun n i x3_1 h=>by
  simp only [I107_l3]
  rw [decide_eq_true (show (i:Int) < (List.length x6_2:Int) by omega)]
  simp only [cond_true,inB_nat h,Int.toNat_natCast,getD_nat _ i h]) (fun n x3_1=>by
  simp only [I107_l3]
  rw [decide_eq_false (by omega)]
  simp only [cond_false]) hl x6_2 0 n x3_1 rfl (by omega) hn
theorem I41_l5_r {N:Nat} {x9_2:(List QIIIIE)} {k5_0_9:Option Ret} {k5_1_10:Bool→Option Ret} {x3_1:Int} (hl:(List.length x9_2)≤maxLen) {n:Nat} (hn:(List.length x9_2) < n):I41_l5 N x9_2 (List.length x9_2:Int) n k5_0_9 k5_1_10 x3_1 (0:Int) =
  goL1 (fun (i:Nat) (x:QIIIIE) (x3_1:Int) (next:Int→Option Ret) =>
    bif (x.1 != (IntKind.wrap .i64 ((i:Int) + (1:Int)))) then
     k5_1_10 false
    else
     I45 N x.2.1 (1:Int) (9:Int) (fun (r24_6:Bool) =>
      bif (!r24_6) then
       k5_1_10 false
      else
       I45 N x.2.2.1 (0:Int) (99:Int) (fun (r30_7:Bool) =>
        bif (!r30_7) then
         k5_1_10 false
        else
         I77 N x3_1 x (fun (r38_8:Int) =>
          bif (x.2.2.2 != r38_8) then
           k5_1_10 false
          else
           next x.2.2.2)))) (fun (x3_1:Int) =>
    k5_0_9) x9_2 0 x3_1:=by
 exact range1 (f:=fun n x3_1 i=>I41_l5 N x9_2 (List.length x9_2:Int) n k5_0_9 k5_1_10 x3_1 i) (l:=x9_2) (fun n i x3_1 h=>by
  simp only [I41_l5]
  rw [decide_eq_true (show (i:Int) < (List.length x9_2:Int) by omega)]
  simp only [cond_true,inB_nat h,Int.toNat_natCast,getD_nat _ i h]) (fun n x3_1=>by
  simp only [I41_l5]
  rw [decide_eq_false (by omega)]
  simp only [cond_false]) hl x9_2 0 n x3_1 rfl (by omega) hn
theorem S109_l2_r {x0_1:(List Int)} {x1_2:Int} {k2_0_6:Option Ret} {k2_1_7:Int→Option Ret} (hl:(List.length x0_1)≤maxLen) {n:Nat} (hn:(List.length x0_1) < n):S109_l2 x0_1 x1_2 (List.length x0_1:Int) n k2_0_6 k2_1_7 (0:Int) =
  goL (fun (i:Nat) (x:Int) (next:Option Ret) =>
    bif (x1_2 == x) then
     k2_1_7 (i:Int)
    else
     next) (
    k2_0_6) x0_1 0:=by
 exact range0 (f:=fun n i=>S109_l2 x0_1 x1_2 (List.length x0_1:Int) n k2_0_6 k2_1_7 i) (l:=x0_1) (fun n i h=>by
  simp only [S109_l2]
  rw [decide_eq_true (show (i:Int) < (List.length x0_1:Int) by omega)]
  simp only [cond_true,inB_nat h,Int.toNat_natCast,getD_nat _ i h]) (fun n=>by
  simp only [S109_l2]
  rw [decide_eq_false (by omega)]
  simp only [cond_false]) hl x0_1 0 n rfl (by omega) hn
theorem I42_l10_r {N:Nat} {x5_13:(List Int)} {x32_14:(List QIIIIILIE)} {k10_0_19:Option Ret} {k10_1_20:Bool→Option Ret} (hl:(List.length x32_14)≤maxLen) {n:Nat} (hn:(List.length x32_14) < n):I42_l10 N x5_13 x32_14 (List.length x32_14:Int) n k10_0_19 k10_1_20 (0:Int) =
  goL (fun (i:Nat) (x:QIIIIILIE) (next:Option Ret) =>
    I67 N x5_13 x.1 (fun (r41_18:Int) =>
     bif (r41_18 != (1:Int)) then
      k10_1_20 false
     else
      next)) (
    k10_0_19) x32_14 0:=by
 exact range0 (f:=fun n i=>I42_l10 N x5_13 x32_14 (List.length x32_14:Int) n k10_0_19 k10_1_20 i) (l:=x32_14) (fun n i h=>by
  simp only [I42_l10]
  rw [decide_eq_true (show (i:Int) < (List.length x32_14:Int) by omega)]
  simp only [cond_true,inB_nat h,Int.toNat_natCast,getD_nat _ i h]) (fun n=>by
  simp only [I42_l10]
  rw [decide_eq_false (by omega)]
  simp only [cond_false]) hl x32_14 0 n rfl (by omega) hn
theorem I42_l3_r {N:Nat} {x0_1:(List QIIIIILIE)} {x11_3:(List QIIE)} {k3_0_8:(List Int)→Option Ret} {k3_1_9:Bool→Option Ret} {x5_2:(List Int)} (hl:(List.length x11_3)≤maxLen) {n:Nat} (hn:(List.length x11_3) < n):I42_l3 N x0_1 x11_3 (List.length x11_3:Int) n k3_0_8 k3_1_9 x5_2 (0:Int) =
  goL1 (fun (i:Nat) (x:QIIE) (x5_2:(List Int)) (next:(List Int)→Option Ret) =>
    I78 N x0_1 x.1 x.2 (fun (r22_7:Bool) =>
     bif (!r22_7) then
      k3_1_9 false
     else
      bif (decide ((List.length x5_2 + List.length [x.1,x.2]) * 1≤4398046511104)) then
       next (x5_2 ++ [x.1,x.2])
      else none)) (fun (x5_2:(List Int)) =>
    k3_0_8 x5_2) x11_3 0 x5_2:=by
 exact range1 (f:=fun n x5_2 i=>I42_l3 N x0_1 x11_3 (List.length x11_3:Int) n k3_0_8 k3_1_9 x5_2 i) (l:=x11_3) (fun n i x5_2 h=>by
  simp only [I42_l3]
  rw [decide_eq_true (show (i:Int) < (List.length x11_3:Int) by omega)]
  simp only [cond_true,inB_nat h,Int.toNat_natCast,getD_nat _ i h]) (fun n x5_2=>by
  simp only [I42_l3]
  rw [decide_eq_false (by omega)]
  simp only [cond_false]) hl x11_3 0 n x5_2 rfl (by omega) hn
theorem S79_l2_r {N:Nat} {x0_1:(List QIILIE)} {x1_2:Int} {k2_0_7:Option Ret} {k2_1_8:Int→Option Ret} (hl:(List.length x0_1)≤maxLen) {n:Nat} (hn:(List.length x0_1) < n):S79_l2 N x0_1 x1_2 (List.length x0_1:Int) n k2_0_7 k2_1_8 (0:Int) =
  goL (fun (i:Nat) (x:QIILIE) (next:Option Ret) =>
    I80 N x x1_2 (fun (r16_6:Bool) =>
     bif r16_6 then
      k2_1_8 (i:Int)
     else
      next)) (
    k2_0_7) x0_1 0:=by
 exact range0 (f:=fun n i=>S79_l2 N x0_1 x1_2 (List.length x0_1:Int) n k2_0_7 k2_1_8 i) (l:=x0_1) (fun n i h=>by
  simp only [S79_l2]
  rw [decide_eq_true (show (i:Int) < (List.length x0_1:Int) by omega)]
  simp only [cond_true,inB_nat h,Int.toNat_natCast,getD_nat _ i h]) (fun n=>by
  simp only [S79_l2]
  rw [decide_eq_false (by omega)]
  simp only [cond_false]) hl x0_1 0 n rfl (by omega) hn
theorem I69_l2_r {N:Nat} {x0_1:(List QIIIIILIE)} {x4_2:QIILIE} {x14_3:(List Int)} {k2_0_9:Option Ret} {k2_1_10:Bool→Option Ret} (hl:(List.length x14_3)≤maxLen) {n:Nat} (hn:(List.length x14_3) < n):I69_l2 N x0_1 x4_2 x14_3 (List.length x14_3:Int) n k2_0_9 k2_1_10 (0:Int) =
  goL (fun (i:Nat) (x:Int) (next:Option Ret) =>
    I76 N x0_1 x (fun (r22_7:Int) =>
     bif (decide (r22_7 < (0:Int))) then
      k2_1_10 false
     else
      bif (inB r22_7 (List.length x0_1)) then
       bif ((List.getD x0_1 (Int.toNat r22_7) zQIIIIILIE).2.1 == x4_2.2.1) then
        k2_1_10 false
       else
        S81 N x4_2.2.2 x (fun (r39_8:Bool) =>
         bif r39_8 then
          k2_1_10 false
         else
          next)
      else none)) (
    k2_0_9) x14_3 0:=by
 exact range0 (f:=fun n i=>I69_l2 N x0_1 x4_2 x14_3 (List.length x14_3:Int) n k2_0_9 k2_1_10 i) (l:=x14_3) (fun n i h=>by
  simp only [I69_l2]
  rw [decide_eq_true (show (i:Int) < (List.length x14_3:Int) by omega)]
  simp only [cond_true,inB_nat h,Int.toNat_natCast,getD_nat _ i h]) (fun n=>by
  simp only [I69_l2]
  rw [decide_eq_false (by omega)]
  simp only [cond_false]) hl x14_3 0 n rfl (by omega) hn
theorem I43_l4_r {N:Nat} {x0_2:(List QIIIIILIE)} {x1_3:(List QIILIE)} {x2_4:(List QIIE)} {x3_5:(List Int)} {x22_6:(List Int)} {k4_0_13:Option Ret} {k4_1_14:Bool→Option Ret} (hl:(List.length x22_6)≤maxLen) {n:Nat} (hn:(List.length x22_6) < n):I43_l4 N x0_2 x1_3 x2_4 x3_5 x22_6 (List.length x22_6:Int) n k4_0_13 k4_1_14 (0:Int) =
  goL (fun (i:Nat) (x:Int) (next:Option Ret) =>
    S79 N x1_3 x (fun (r31_10:Int) =>
     bif (decide (r31_10 < (0:Int))) then
      k4_1_14 false
     else
      bif (decide ((0:Int)≤(0:Int)) && decide ((0:Int)≤(i:Int)) && decide ((i:Int)≤(List.length x3_5:Int))) then
       S81 N (List.drop (Int.toNat (0:Int)) (List.take (Int.toNat (i:Int)) x3_5)) x (fun (r39_11:Bool) =>
        bif r39_11 then
         k4_1_14 false
        else
         bif (inB r31_10 (List.length x1_3)) then
          bif (inB (i:Int) (List.length x2_4)) then
           I69 N x0_2 (List.getD x1_3 (Int.toNat r31_10) zQIILIE) (List.getD x2_4 (Int.toNat (i:Int)) zQIIE) (fun (r51_12:Bool) =>
            bif (!r51_12) then
             k4_1_14 false
            else
             next)
          else none
         else none)
      else none)) (
    k4_0_13) x22_6 0:=by
 exact range0 (f:=fun n i=>I43_l4 N x0_2 x1_3 x2_4 x3_5 x22_6 (List.length x22_6:Int) n k4_0_13 k4_1_14 i) (l:=x22_6) (fun n i h=>by
  simp only [I43_l4]
  rw [decide_eq_true (show (i:Int) < (List.length x22_6:Int) by omega)]
  simp only [cond_true,inB_nat h,Int.toNat_natCast,getD_nat _ i h]) (fun n=>by
  simp only [I43_l4]
  rw [decide_eq_false (by omega)]
  simp only [cond_false]) hl x22_6 0 n rfl (by omega) hn
theorem I36_l5_r {x10_3:(List QIIIIILIE)} {k5_0_7:Int→Option Ret} {x3_2:Int} (hl:(List.length x10_3)≤maxLen) {n:Nat} (hn:(List.length x10_3) < n):I36_l5 x10_3 (List.length x10_3:Int) n k5_0_7 x3_2 (0:Int) =
  goL1 (fun (i:Nat) (x:QIIIIILIE) (x3_2:Int) (next:Int→Option Ret) =>
    next (IntKind.wrap .i64 (x3_2 + x.2.2.1))) (fun (x3_2:Int) =>
    k5_0_7 x3_2) x10_3 0 x3_2:=by
 exact range1 (f:=fun n x3_2 i=>I36_l5 x10_3 (List.length x10_3:Int) n k5_0_7 x3_2 i) (l:=x10_3) (fun n i x3_2 h=>by
  simp only [I36_l5]
  rw [decide_eq_true (show (i:Int) < (List.length x10_3:Int) by omega)]
  simp only [cond_true,inB_nat h,Int.toNat_natCast,getD_nat _ i h]) (fun n x3_2=>by
  simp only [I36_l5]
  rw [decide_eq_false (by omega)]
  simp only [cond_false]) hl x10_3 0 n x3_2 rfl (by omega) hn
theorem I8_l6_r {N:Nat} {x1_7:QLQIIIIILIELQIILIELQIIELILQIIIELQIIIIEIE} {x62_8:(List QIIIE)} {k6_0_13:Option Ret} {k6_1_14:Bool→Option Ret} (hl:(List.length x62_8)≤maxLen) {n:Nat} (hn:(List.length x62_8) < n):I8_l6 N x1_7 x62_8 (List.length x62_8:Int) n k6_0_13 k6_1_14 (0:Int) =
  goL (fun (i:Nat) (x:QIIIE) (next:Option Ret) =>
    bif (!((decide ((x.1:Int)=(0:Int))) && ((decide ((x.2.1:Int)=(0:Int))) && (decide ((x.2.2:Int)=(0:Int)))))) then
     I44 N x (fun (r74_12:Bool) =>
      bif (!r74_12) then
       k6_1_14 false
      else
       bif (inB (i:Int) (List.length x1_7.2.2.2.1)) then
        bif (x.1 != (List.getD x1_7.2.2.2.1 (Int.toNat (i:Int)) (0:Int))) then
         k6_1_14 false
        else
         next
       else none)
    else
     next) (
    k6_0_13) x62_8 0:=by
 exact range0 (f:=fun n i=>I8_l6 N x1_7 x62_8 (List.length x62_8:Int) n k6_0_13 k6_1_14 i) (l:=x62_8) (fun n i h=>by
  simp only [I8_l6]
  rw [decide_eq_true (show (i:Int) < (List.length x62_8:Int) by omega)]
  simp only [cond_true,inB_nat h,Int.toNat_natCast,getD_nat _ i h]) (fun n=>by
  simp only [I8_l6]
  rw [decide_eq_false (by omega)]
  simp only [cond_false]) hl x62_8 0 n rfl (by omega) hn
theorem S89_l3_r {x0_1:(List QIIIIILIE)} {k3_0_5:(List QIIIIILIE)→Option Ret} {x3_2:(List QIIIIILIE)} (hl:(List.length x0_1)≤maxLen) {n:Nat} (hn:(List.length x0_1) < n):S89_l3 x0_1 n k3_0_5 x3_2 (0:Int) =
  goL1 (fun (i:Nat) (x:QIIIIILIE) (x3_2:(List QIIIIILIE)) (next:(List QIIIIILIE)→Option Ret) =>
    bif (decide ((List.length ([]:(List Int)) + List.length x.2.2.2.2.2) * 1≤4398046511104)) then
     bif (decide ((List.length x3_2 + List.length [(x.1,(x.2.1,(x.2.2.1,(x.2.2.2.1,(x.2.2.2.2.1,(([]:(List Int)) ++ x.2.2.2.2.2))))))]) * 6≤4398046511104)) then
      next (x3_2 ++ [(x.1,(x.2.1,(x.2.2.1,(x.2.2.2.1,(x.2.2.2.2.1,(([]:(List Int)) ++ x.2.2.2.2.2))))))])
     else none
    else none) (fun (x3_2:(List QIIIIILIE)) =>
    k3_0_5 x3_2) x0_1 0 x3_2:=by
 exact range1 (f:=fun n x3_2 i=>S89_l3 x0_1 n k3_0_5 x3_2 i) (l:=x0_1) (fun n i x3_2 h=>by
  simp only [S89_l3]
  rw [decide_eq_true (show (i:Int) < (List.length x0_1:Int) by omega)]
  simp only [cond_true,inB_nat h,Int.toNat_natCast,getD_nat _ i h]) (fun n x3_2=>by
  simp only [S89_l3]
  rw [decide_eq_false (by omega)]
  simp only [cond_false]) hl x0_1 0 n x3_2 rfl (by omega) hn
theorem S131_l2_r {x0_1:(List QIIIIILIE)} {x1_2:Int} {k2_0_5:Option Ret} {k2_1_6:Int→Option Ret} (hl:(List.length x0_1)≤maxLen) {n:Nat} (hn:(List.length x0_1) < n):S131_l2 x0_1 x1_2 n k2_0_5 k2_1_6 (0:Int) =
  goL (fun (i:Nat) (x:QIIIIILIE) (next:Option Ret) =>
    bif (x.1 == x1_2) then
     k2_1_6 (i:Int)
    else
     next) (
    k2_0_5) x0_1 0:=by
 exact range0 (f:=fun n i=>S131_l2 x0_1 x1_2 n k2_0_5 k2_1_6 i) (l:=x0_1) (fun n i h=>by
  simp only [S131_l2]
  rw [decide_eq_true (show (i:Int) < (List.length x0_1:Int) by omega)]
  simp only [cond_true,inB_nat h,Int.toNat_natCast,getD_nat _ i h]) (fun n=>by
  simp only [S131_l2]
  rw [decide_eq_false (by omega)]
  simp only [cond_false]) hl x0_1 0 n rfl (by omega) hn
theorem S132_l3_r {x0_1:(List Int)} {x1_2:Int} {k3_0_7:Int→Option Ret} {x5_3:Int} (hl:(List.length x0_1)≤maxLen) {n:Nat} (hn:(List.length x0_1) < n):S132_l3 x0_1 x1_2 n k3_0_7 x5_3 (0:Int) =
  goL1 (fun (i:Nat) (x:Int) (x5_3:Int) (next:Int→Option Ret) =>
    bif (x == x1_2) then
     next (IntKind.wrap .i64 (x5_3 + (1:Int)))
    else
     next x5_3) (fun (x5_3:Int) =>
    k3_0_7 x5_3) x0_1 0 x5_3:=by
 exact range1 (f:=fun n x5_3 i=>S132_l3 x0_1 x1_2 n k3_0_7 x5_3 i) (l:=x0_1) (fun n i x5_3 h=>by
  simp only [S132_l3]
  rw [decide_eq_true (show (i:Int) < (List.length x0_1:Int) by omega)]
  simp only [cond_true,inB_nat h,Int.toNat_natCast,getD_nat _ i h]) (fun n x5_3=>by
  simp only [S132_l3]
  rw [decide_eq_false (by omega)]
  simp only [cond_false]) hl x0_1 0 n x5_3 rfl (by omega) hn
theorem S111_l8_r {N:Nat} {x0_9:(List QIIIIILIE)} {x3_10:Int} {x4_11:QIIIIILIE} {k8_0_17:Option Ret} {k8_1_18:Bool→Option Ret} (hl:(List.length x4_11.2.2.2.2.2)≤maxLen) {n:Nat} (hn:(List.length x4_11.2.2.2.2.2) < n):S111_l8 N x0_9 x3_10 x4_11 n k8_0_17 k8_1_18 (0:Int) =
  goL (fun (i:Nat) (x : _) (next:Option Ret) =>
    S131 N x0_9 x (fun (r85_14:Int) =>
     bif (decide (r85_14 < (0:Int))) then
      k8_1_18 false
     else
      bif (r85_14 == x3_10) then
       k8_1_18 false
      else
       bif (inB r85_14 (List.length x0_9)) then
        bif (inB r85_14 (List.length x0_9)) then
         S132 N (List.getD x0_9 (Int.toNat r85_14) zQIIIIILIE).2.2.2.2.2 x4_11.1 (fun (r101_15:Int) =>
          S132 N x4_11.2.2.2.2.2 (List.getD x0_9 (Int.toNat r85_14) zQIIIIILIE).1 (fun (r109_16:Int) =>
           bif (r101_15 != r109_16) then
            k8_1_18 false
           else
            next))
        else none
       else none)) (
    k8_0_17) x4_11.2.2.2.2.2 0:=by
 exact range0 (f:=fun n i=>S111_l8 N x0_9 x3_10 x4_11 n k8_0_17 k8_1_18 i) (l:=x4_11.2.2.2.2.2) (fun n i h=>by
  simp only [S111_l8]
  rw [decide_eq_true (show (i:Int) < (List.length x4_11.2.2.2.2.2:Int) by omega)]
  simp only [cond_true,inB_nat h,Int.toNat_natCast,getD_nat _ i h]) (fun n=>by
  simp only [S111_l8]
  rw [decide_eq_false (by omega)]
  simp only [cond_false]) hl x4_11.2.2.2.2.2 0 n rfl (by omega) hn
theorem S111_l2_r {N:Nat} {x0_1:(List QIIIIILIE)} {k2_0_21:Option Ret} {k2_1_22:Bool→Option Ret} (hl:(List.length x0_1)≤maxLen) {n:Nat} (hn:(List.length x0_1) < n):S111_l2 N x0_1 n k2_0_21 k2_1_22 (0:Int) =
  goL (fun (i:Nat) (x:QIIIIILIE) (next:Option Ret) =>
    S72 N x.1 (1:Int) (99:Int) (fun (r19_4:Bool) =>
     bif (!r19_4) then
      k2_1_22 false
     else
      S72 N x.2.1 (1:Int) (99:Int) (fun (r24_5:Bool) =>
       bif (!r24_5) then
        k2_1_22 false
       else
        S72 N x.2.2.1 (0:Int) (List.length x.2.2.2.2.2:Int) (fun (r33_6:Bool) =>
         bif (!r33_6) then
          k2_1_22 false
         else
          S72 N x.2.2.2.2.1 (0:Int) (List.length x.2.2.2.2.2:Int) (fun (r42_7:Bool) =>
           bif (!r42_7) then
            k2_1_22 false
           else
            S72 N x.2.2.2.1 (0:Int) (100000:Int) (fun (r48_8:Bool) =>
             bif (!r48_8) then
              k2_1_22 false
             else
              bif (decide ((List.length x.2.2.2.2.2:Int) > (20:Int))) then
               k2_1_22 false
              else
               bif (decide ((i:Int) > (0:Int))) then
                bif (inB (IntKind.wrap .i64 ((i:Int) - (1:Int))) (List.length x0_1)) then
                 bif (decide ((List.getD x0_1 (Int.toNat (IntKind.wrap .i64 ((i:Int) - (1:Int)))) zQIIIIILIE).1 ≥ x.1)) then
                  k2_1_22 false
                 else
                  S111_l8 N x0_1 (i:Int) x N next k2_1_22 (0:Int)
                else none
               else
                S111_l8 N x0_1 (i:Int) x N next k2_1_22 (0:Int))))))) (
    k2_0_21) x0_1 0:=by
 exact range0 (f:=fun n i=>S111_l2 N x0_1 n k2_0_21 k2_1_22 i) (l:=x0_1) (fun n i h=>by
  simp only [S111_l2]
  rw [decide_eq_true (show (i:Int) < (List.length x0_1:Int) by omega)]
  simp only [cond_true,inB_nat h,Int.toNat_natCast,getD_nat _ i h]) (fun n=>by
  simp only [S111_l2]
  rw [decide_eq_false (by omega)]
  simp only [cond_false]) hl x0_1 0 n rfl (by omega) hn
theorem S84_l3_r {N:Nat} {x0_1:(List QIIIIILIE)} {k3_0_6:Int→Option Ret} {x3_2:Int} (hl:(List.length x0_1)≤maxLen) {n:Nat} (hn:(List.length x0_1) < n):S84_l3 N x0_1 n k3_0_6 x3_2 (0:Int) =
  goL1 (fun (i:Nat) (x:QIIIIILIE) (x3_2:Int) (next:Int→Option Ret) =>
    S111 N x0_1 (fun (r11_5:Bool) =>
     bif r11_5 then
      next (IntKind.wrap .i64 (x3_2 + x.2.2.1))
     else
      k3_0_6 x3_2)) (fun (x3_2:Int) =>
    k3_0_6 x3_2) x0_1 0 x3_2:=by
 exact range1 (f:=fun n x3_2 i=>S84_l3 N x0_1 n k3_0_6 x3_2 i) (l:=x0_1) (fun n i x3_2 h=>by
  simp only [S84_l3]
  rw [decide_eq_true (show (i:Int) < (List.length x0_1:Int) by omega)]
  simp only [cond_true,inB_nat h,Int.toNat_natCast,getD_nat _ i h]) (fun n x3_2=>by
  simp only [S84_l3]
  rw [decide_eq_false (by omega)]
  simp only [cond_false]) hl x0_1 0 n x3_2 rfl (by omega) hn
theorem S113_l11_r {x3_18:(List QIIIIILIE)} {k11_0_22:(List Int)→Option Ret} {x6_19:(List Int)} (hl:(List.length x3_18)≤maxLen) {n:Nat} (hn:(List.length x3_18) < n):S113_l11 x3_18 n k11_0_22 x6_19 (0:Int) =
  goL1 (fun (i:Nat) (x:QIIIIILIE) (x6_19:(List Int)) (next:(List Int)→Option Ret) =>
    bif (decide ((List.length x6_19 + List.length [x.1]) * 1≤4398046511104)) then
     next (x6_19 ++ [x.1])
    else none) (fun (x6_19:(List Int)) =>
    k11_0_22 x6_19) x3_18 0 x6_19:=by
 exact range1 (f:=fun n x6_19 i=>S113_l11 x3_18 n k11_0_22 x6_19 i) (l:=x3_18) (fun n i x6_19 h=>by
  simp only [S113_l11]
  rw [decide_eq_true (show (i:Int) < (List.length x3_18:Int) by omega)]
  simp only [cond_true,inB_nat h,Int.toNat_natCast,getD_nat _ i h]) (fun n x6_19=>by
  simp only [S113_l11]
  rw [decide_eq_false (by omega)]
  simp only [cond_false]) hl x3_18 0 n x6_19 rfl (by omega) hn
theorem S113_l3_r {N:Nat} {x0_1:(List QIIIIILIE)} {k3_0_15:(List QIIIIILIE)→Option Ret} {x3_2:(List QIIIIILIE)} (hl:(List.length x0_1)≤maxLen) {n:Nat} (hn:(List.length x0_1) < n):S113_l3 N x0_1 n k3_0_15 x3_2 (0:Int) =
  goL1 (fun (i:Nat) (x:QIIIIILIE) (x3_2:(List QIIIIILIE)) (next:(List QIIIIILIE)→Option Ret) =>
    S111 N x0_1 (fun (r15_5:Bool) =>
     bif r15_5 then
      S113_l6 N x0_1 x3_2 (i:Int) N (fun (z5_14:Int) =>
       bif (decide ((0:Int)≤(0:Int)) && decide ((0:Int)≤z5_14) && decide (z5_14≤(List.length x3_2:Int))) then
        bif (decide ((0:Int)≤z5_14) && decide (z5_14≤(List.length x3_2:Int)) && decide ((List.length x3_2:Int)≤(List.length x3_2:Int))) then
         bif (decide ((List.length ([]:(List QIIIIILIE)) + List.length (List.drop 0 (List.take (Int.toNat z5_14) x3_2))) * 6≤4398046511104)) then
          bif (decide ((List.length (([]:(List QIIIIILIE)) ++ (List.drop 0 (List.take (Int.toNat z5_14) x3_2))) + List.length [x]) * 6≤4398046511104)) then
           bif (decide ((List.length ((([]:(List QIIIIILIE)) ++ (List.drop 0 (List.take (Int.toNat z5_14) x3_2))) ++ [x]) + List.length (List.drop (Int.toNat z5_14) (List.take (Int.toNat (List.length x3_2:Int)) x3_2))) * 6≤4398046511104)) then
            next (((([]:(List QIIIIILIE)) ++ (List.drop 0 (List.take (Int.toNat z5_14) x3_2))) ++ [x]) ++ (List.drop (Int.toNat z5_14) (List.take (Int.toNat (List.length x3_2:Int)) x3_2)))
           else none
          else none
         else none
        else none
       else none) (List.length x3_2:Int)
     else
      k3_0_15 x3_2)) (fun (x3_2:(List QIIIIILIE)) =>
    k3_0_15 x3_2) x0_1 0 x3_2:=by
 exact range1 (f:=fun n x3_2 i=>S113_l3 N x0_1 n k3_0_15 x3_2 i) (l:=x0_1) (fun n i x3_2 h=>by
  simp only [S113_l3]
  rw [decide_eq_true (show (i:Int) < (List.length x0_1:Int) by omega)]
  simp only [cond_true,inB_nat h,Int.toNat_natCast,getD_nat _ i h]) (fun n x3_2=>by
  simp only [S113_l3]
  rw [decide_eq_false (by omega)]
  simp only [cond_false]) hl x0_1 0 n x3_2 rfl (by omega) hn
theorem S118_l2_r {x0_1:(List Int)} {x1_2:Int} {k2_0_5:Option Ret} {k2_1_6:Bool→Option Ret} (hl:(List.length x0_1)≤maxLen) {n:Nat} (hn:(List.length x0_1) < n):S118_l2 x0_1 x1_2 n k2_0_5 k2_1_6 (0:Int) =
  goL (fun (i:Nat) (x:Int) (next:Option Ret) =>
    bif (x == x1_2) then
     k2_1_6 true
    else
     next) (
    k2_0_5) x0_1 0:=by
 exact range0 (f:=fun n i=>S118_l2 x0_1 x1_2 n k2_0_5 k2_1_6 i) (l:=x0_1) (fun n i h=>by
  simp only [S118_l2]
  rw [decide_eq_true (show (i:Int) < (List.length x0_1:Int) by omega)]
  simp only [cond_true,inB_nat h,Int.toNat_natCast,getD_nat _ i h]) (fun n=>by
  simp only [S118_l2]
  rw [decide_eq_false (by omega)]
  simp only [cond_false]) hl x0_1 0 n rfl (by omega) hn
theorem S114_l7_r {N:Nat} {x0_6:(List QIILIE)} {x3_7:Int} {k7_0_11:Option Ret} {k7_1_12:Bool→Option Ret} (hc0:(inB x3_7 (List.length x0_6))=true) (hl:(List.length (List.getD x0_6 (Int.toNat x3_7) zQIILIE).2.2)≤maxLen) {n:Nat} (hn:(List.length (List.getD x0_6 (Int.toNat x3_7) zQIILIE).2.2) < n):S114_l7 N x0_6 x3_7 n k7_0_11 k7_1_12 (0:Int) =
  goL (fun (i:Nat) (x : _) (next:Option Ret) =>
    S72 N x (1:Int) (99:Int) (fun (r63_10:Bool) =>
     bif (!r63_10) then
      k7_1_12 false
     else
      bif (decide ((i:Int) > (0:Int))) then
       bif (inB (IntKind.wrap .i64 ((i:Int) - (1:Int))) (List.length (List.getD x0_6 (Int.toNat x3_7) zQIILIE).2.2)) then
        bif (decide ((List.getD (List.getD x0_6 (Int.toNat x3_7) zQIILIE).2.2 (Int.toNat (IntKind.wrap .i64 ((i:Int) - (1:Int)))) (0:Int)) ≥ x)) then
         k7_1_12 false
        else
         next
       else none
      else
       next)) (
    k7_0_11) ((List.getD x0_6 (Int.toNat x3_7) zQIILIE).2.2) 0:=by
 exact range0 (f:=fun n i=>S114_l7 N x0_6 x3_7 n k7_0_11 k7_1_12 i) (l:=((List.getD x0_6 (Int.toNat x3_7) zQIILIE).2.2)) (fun n i h=>by
  simp only [S114_l7,hc0,cond_true]
  rw [decide_eq_true (show (i:Int) < (List.length ((List.getD x0_6 (Int.toNat x3_7) zQIILIE).2.2):Int) by omega)]
  simp only [cond_true,inB_nat h,Int.toNat_natCast,getD_nat _ i h]) (fun n=>by
  simp only [S114_l7,hc0,cond_true]
  rw [decide_eq_false (by omega)]
  simp only [cond_false]) hl ((List.getD x0_6 (Int.toNat x3_7) zQIILIE).2.2) 0 n rfl (by omega) hn
theorem S114_l2_r {N:Nat} {x0_1:(List QIILIE)} {k2_0_15:Option Ret} {k2_1_16:Bool→Option Ret} (hl:(List.length x0_1)≤maxLen) {n:Nat} (hn:(List.length x0_1) < n):S114_l2 N x0_1 n k2_0_15 k2_1_16 (0:Int) =
  goL (fun (i:Nat) (x:QIILIE) (next:Option Ret) =>
    S72 N x.1 (1:Int) (99:Int) (fun (r16_4:Bool) =>
     bif (!r16_4) then
      k2_1_16 false
     else
      S72 N x.2.1 (1:Int) (99:Int) (fun (r24_5:Bool) =>
       bif (!r24_5) then
        k2_1_16 false
       else
        bif (decide ((i:Int) > (0:Int))) then
         bif (inB (IntKind.wrap .i64 ((i:Int) - (1:Int))) (List.length x0_1)) then
          bif (decide ((List.getD x0_1 (Int.toNat (IntKind.wrap .i64 ((i:Int) - (1:Int)))) zQIILIE).1 ≥ x.1)) then
           k2_1_16 false
          else
           S114_l7 N x0_1 (i:Int) N next k2_1_16 (0:Int)
         else none
        else
         S114_l7 N x0_1 (i:Int) N next k2_1_16 (0:Int)))) (
    k2_0_15) x0_1 0:=by
 exact range0 (f:=fun n i=>S114_l2 N x0_1 n k2_0_15 k2_1_16 i) (l:=x0_1) (fun n i h=>by
  simp only [S114_l2]
  rw [decide_eq_true (show (i:Int) < (List.length x0_1:Int) by omega)]
  simp only [cond_true,inB_nat h,Int.toNat_natCast,getD_nat _ i h]) (fun n=>by
  simp only [S114_l2]
  rw [decide_eq_false (by omega)]
  simp only [cond_false]) hl x0_1 0 n rfl (by omega) hn
theorem S90_l3_r {x0_1:(List QIILIE)} {k3_0_5:(List QIILIE)→Option Ret} {x3_2:(List QIILIE)} (hl:(List.length x0_1)≤maxLen) {n:Nat} (hn:(List.length x0_1) < n):S90_l3 x0_1 n k3_0_5 x3_2 (0:Int) =
  goL1 (fun (i:Nat) (x:QIILIE) (x3_2:(List QIILIE)) (next:(List QIILIE)→Option Ret) =>
    bif (decide ((List.length ([]:(List Int)) + List.length x.2.2) * 1≤4398046511104)) then
     bif (decide ((List.length x3_2 + List.length [(x.1,(x.2.1,(([]:(List Int)) ++ x.2.2)))]) * 3≤4398046511104)) then
      next (x3_2 ++ [(x.1,(x.2.1,(([]:(List Int)) ++ x.2.2)))])
     else none
    else none) (fun (x3_2:(List QIILIE)) =>
    k3_0_5 x3_2) x0_1 0 x3_2:=by
 exact range1 (f:=fun n x3_2 i=>S90_l3 x0_1 n k3_0_5 x3_2 i) (l:=x0_1) (fun n i x3_2 h=>by
  simp only [S90_l3]
  rw [decide_eq_true (show (i:Int) < (List.length x0_1:Int) by omega)]
  simp only [cond_true,inB_nat h,Int.toNat_natCast,getD_nat _ i h]) (fun n x3_2=>by
  simp only [S90_l3]
  rw [decide_eq_false (by omega)]
  simp only [cond_false]) hl x0_1 0 n x3_2 rfl (by omega) hn
theorem S152_l3_r {N:Nat} {x0_1:(List Int)} {k3_0_6:Int→Option Ret} {x3_2:Int} (hl:(List.length x0_1)≤maxLen) {n:Nat} (hn:(List.length x0_1) < n):S152_l3 N x0_1 n k3_0_6 x3_2 (0:Int) =
  goL1 (fun (i:Nat) (x:Int) (x3_2:Int) (next:Int→Option Ret) =>
    S169 N x (2147483647:Int) (fun (r17_5:Int) =>
     next (Int.tmod (IntKind.wrap .i64 ((IntKind.wrap .i64 ((IntKind.wrap .i64 (x3_2 * (1000003:Int))) + r17_5)) + (13:Int))) (2147483647:Int)))) (fun (x3_2:Int) =>
    k3_0_6 x3_2) x0_1 0 x3_2:=by
 exact range1 (f:=fun n x3_2 i=>S152_l3 N x0_1 n k3_0_6 x3_2 i) (l:=x0_1) (fun n i x3_2 h=>by
  simp only [S152_l3]
  rw [decide_eq_true (show (i:Int) < (List.length x0_1:Int) by omega)]
  simp only [cond_true,inB_nat h,Int.toNat_natCast,getD_nat _ i h]) (fun n x3_2=>by
  simp only [S152_l3]
  rw [decide_eq_false (by omega)]
  simp only [cond_false]) hl x0_1 0 n x3_2 rfl (by omega) hn
theorem S129_l3_r {N:Nat} {x0_1:(List QIIIIE)} {k3_0_8:Option Ret} {k3_1_9:Bool→Option Ret} {x3_2:Int} (hl:(List.length x0_1)≤maxLen) {n:Nat} (hn:(List.length x0_1) < n):S129_l3 N x0_1 n k3_0_8 k3_1_9 x3_2 (0:Int) =
  goL1 (fun (i:Nat) (x:QIIIIE) (x3_2:Int) (next:Int→Option Ret) =>
    bif (decide ((List.length x0_1:Int)≤(200:Int))) then
     S127 N x3_2 x (fun (r23_5:Int) =>
      bif (x.1 != (IntKind.wrap .i64 ((i:Int) + (1:Int)))) then
       k3_1_9 false
      else
       S72 N x.2.1 (1:Int) (9:Int) (fun (r32_6:Bool) =>
        bif (!r32_6) then
         k3_1_9 false
        else
         S72 N x.2.2.1 (0:Int) (99:Int) (fun (r38_7:Bool) =>
          bif (!r38_7) then
           k3_1_9 false
          else
           bif (x.2.2.2 != r23_5) then
            k3_1_9 false
           else
            next r23_5)))
    else
     k3_0_8) (fun (x3_2:Int) =>
    k3_0_8) x0_1 0 x3_2:=by
 exact range1 (f:=fun n x3_2 i=>S129_l3 N x0_1 n k3_0_8 k3_1_9 x3_2 i) (l:=x0_1) (fun n i x3_2 h=>by
  simp only [S129_l3]
  rw [decide_eq_true (show (i:Int) < (List.length x0_1:Int) by omega)]
  simp only [cond_true,inB_nat h,Int.toNat_natCast,getD_nat _ i h]) (fun n x3_2=>by
  simp only [S129_l3]
  rw [decide_eq_false (by omega)]
  simp only [cond_false]) hl x0_1 0 n x3_2 rfl (by omega) hn
theorem S184_l3_r {N:Nat} {x0_1:(List QIIIIILIE)} {x1_2:(List QIIE)} {k3_0_9:(List Int)→Option Ret} {k3_1_10:Bool→Option Ret} {x5_3:(List Int)} (hl:(List.length x1_2)≤maxLen) {n:Nat} (hn:(List.length x1_2) < n):S184_l3 N x0_1 x1_2 n k3_0_9 k3_1_10 x5_3 (0:Int) =
  goL1 (fun (i:Nat) (x:QIIE) (x5_3:(List Int)) (next:(List Int)→Option Ret) =>
    S133 N x0_1 x.1 x.2 (fun (r25_6:Bool) =>
     bif (!r25_6) then
      k3_1_10 false
     else
      S118 N x5_3 x.1 (fun (r34_7:Bool) =>
       bif r34_7 then
        k3_1_10 false
       else
        S118 N x5_3 x.2 (fun (r43_8:Bool) =>
         bif r43_8 then
          k3_1_10 false
         else
          bif (decide ((List.length x5_3 + List.length [x.1,x.2]) * 1≤4398046511104)) then
           next (x5_3 ++ [x.1,x.2])
          else none)))) (fun (x5_3:(List Int)) =>
    k3_0_9 x5_3) x1_2 0 x5_3:=by
 exact range1 (f:=fun n x5_3 i=>S184_l3 N x0_1 x1_2 n k3_0_9 k3_1_10 x5_3 i) (l:=x1_2) (fun n i x5_3 h=>by
  simp only [S184_l3]
  rw [decide_eq_true (show (i:Int) < (List.length x1_2:Int) by omega)]
  simp only [cond_true,inB_nat h,Int.toNat_natCast,getD_nat _ i h]) (fun n x5_3=>by
  simp only [S184_l3]
  rw [decide_eq_false (by omega)]
  simp only [cond_false]) hl x1_2 0 n x5_3 rfl (by omega) hn
theorem S166_l2_r {x0_1:(List QIILIE)} {x1_2:Int} {k2_0_5:Option Ret} {k2_1_6:Int→Option Ret} (hl:(List.length x0_1)≤maxLen) {n:Nat} (hn:(List.length x0_1) < n):S166_l2 x0_1 x1_2 n k2_0_5 k2_1_6 (0:Int) =
  goL (fun (i:Nat) (x:QIILIE) (next:Option Ret) =>
    bif (x.1 == x1_2) then
     k2_1_6 (i:Int)
    else
     next) (
    k2_0_5) x0_1 0:=by
 exact range0 (f:=fun n i=>S166_l2 x0_1 x1_2 n k2_0_5 k2_1_6 i) (l:=x0_1) (fun n i h=>by
  simp only [S166_l2]
  rw [decide_eq_true (show (i:Int) < (List.length x0_1:Int) by omega)]
  simp only [cond_true,inB_nat h,Int.toNat_natCast,getD_nat _ i h]) (fun n=>by
  simp only [S166_l2]
  rw [decide_eq_false (by omega)]
  simp only [cond_false]) hl x0_1 0 n rfl (by omega) hn
theorem S185_l4_r {N:Nat} {x0_2:(List QIIIIILIE)} {x1_3:(List QIILIE)} {x2_4:(List QIIE)} {x3_5:(List Int)} {k4_0_11:Option Ret} {k4_1_12:Bool→Option Ret} (hl:(List.length x2_4)≤maxLen) {n:Nat} (hn:(List.length x2_4) < n):S185_l4 N x0_2 x1_3 x2_4 x3_5 n k4_0_11 k4_1_12 (0:Int) =
  goL (fun (i:Nat) (x:QIIE) (next:Option Ret) =>
    bif (inB (i:Int) (List.length x3_5)) then
     S166 N x1_3 (List.getD x3_5 (Int.toNat (i:Int)) (0:Int)) (fun (r32_8:Int) =>
      bif (decide (r32_8 < (0:Int))) then
       k4_1_12 false
      else
       bif (decide ((0:Int)≤(0:Int)) && decide ((0:Int)≤(i:Int)) && decide ((i:Int)≤(List.length x3_5:Int))) then
        bif (inB (i:Int) (List.length x3_5)) then
         S118 N (List.drop (Int.toNat (0:Int)) (List.take (Int.toNat (i:Int)) x3_5)) (List.getD x3_5 (Int.toNat (i:Int)) (0:Int)) (fun (r43_9:Bool) =>
          bif r43_9 then
           k4_1_12 false
          else
           bif (inB r32_8 (List.length x1_3)) then
            S136 N x0_2 (List.getD x1_3 (Int.toNat r32_8) zQIILIE) x (fun (r55_10:Bool) =>
             bif (!r55_10) then
              k4_1_12 false
             else
              next)
           else none)
        else none
       else none)
    else none) (
    k4_0_11) x2_4 0:=by
 exact range0 (f:=fun n i=>S185_l4 N x0_2 x1_3 x2_4 x3_5 n k4_0_11 k4_1_12 i) (l:=x2_4) (fun n i h=>by
  simp only [S185_l4]
  rw [decide_eq_true (show (i:Int) < (List.length x2_4:Int) by omega)]
  simp only [cond_true,inB_nat h,Int.toNat_natCast,getD_nat _ i h]) (fun n=>by
  simp only [S185_l4]
  rw [decide_eq_false (by omega)]
  simp only [cond_false]) hl x2_4 0 n rfl (by omega) hn
theorem S162_l7_r {N:Nat} {x1_8:QLQIIIIILIELQIILIELQIIELILQIIIELQIIIIEIE} {x3_9:QIIIE} {k7_0_13:Option Ret} {k7_1_14:Bool→Option Ret} (hl:(List.length x1_8.2.2.2.2.1)≤maxLen) {n:Nat} (hn:(List.length x1_8.2.2.2.2.1) < n):S162_l7 N x1_8 x3_9 n k7_0_13 k7_1_14 (0:Int) =
  goL (fun (i:Nat) (x : _) (next:Option Ret) =>
    bif (!((decide ((x.1:Int)=x3_9.1)) && ((decide ((x.2.1:Int)=x3_9.2.1)) && (decide ((x.2.2:Int)=x3_9.2.2))))) then
     S163 N x (fun (r98_12:Bool) =>
      bif (!r98_12) then
       k7_1_14 false
      else
       bif (inB (i:Int) (List.length x1_8.2.2.2.1)) then
        bif (x.1 != (List.getD x1_8.2.2.2.1 (Int.toNat (i:Int)) (0:Int))) then
         k7_1_14 false
        else
         next
       else none)
    else
     next) (
    k7_0_13) x1_8.2.2.2.2.1 0:=by
 exact range0 (f:=fun n i=>S162_l7 N x1_8 x3_9 n k7_0_13 k7_1_14 i) (l:=x1_8.2.2.2.2.1) (fun n i h=>by
  simp only [S162_l7]
  rw [decide_eq_true (show (i:Int) < (List.length x1_8.2.2.2.2.1:Int) by omega)]
  simp only [cond_true,inB_nat h,Int.toNat_natCast,getD_nat _ i h]) (fun n=>by
  simp only [S162_l7]
  rw [decide_eq_false (by omega)]
  simp only [cond_false]) hl x1_8.2.2.2.2.1 0 n rfl (by omega) hn
theorem S145_l3_r {x1_2:Int} {x2_3:Int} {x3_4:QLQIIIIILIELQIILIELQIIELILQIIIELQIIIIEIE} {x6_5:QLQIIIIILIELQIILIELQIIELILQIIIELQIIIIEIE} {x8_6:QLQIIIIILIELQIILIELQIIELILQIIIELQIIIIEIE} {k3_0_9:Int→Option Ret} (hl:(List.length x3_4.1)≤maxLen) {n:Nat} (hn:(List.length x3_4.1) < n):S145_l3 x1_2 x2_3 x3_4 x6_5 x8_6 n k3_0_9 (0:Int) =
  goL (fun (i:Nat) (x : _) (next:Option Ret) =>
    bif (decide (x.1 < x1_2)) then
     next
    else
     k3_0_9 (i:Int)) (
    k3_0_9 (List.length x3_4.1:Int)) x3_4.1 0:=by
 exact range0 (f:=fun n i=>S145_l3 x1_2 x2_3 x3_4 x6_5 x8_6 n k3_0_9 i) (l:=x3_4.1) (fun n i h=>by
  simp only [S145_l3]
  rw [decide_eq_true (show (i:Int) < (List.length x3_4.1:Int) by omega)]
  simp only [cond_true,inB_nat h,Int.toNat_natCast,getD_nat _ i h]) (fun n=>by
  simp only [S145_l3]
  rw [decide_eq_false (by omega)]
  simp only [cond_false]) hl x3_4.1 0 n rfl (by omega) hn
theorem S146_l3_r {x1_2:Int} {x2_3:Int} {x3_4:QLQIIIIILIELQIILIELQIIELILQIIIELQIIIIEIE} {x6_5:QLQIIIIILIELQIILIELQIIELILQIIIELQIIIIEIE} {x8_6:QLQIIIIILIELQIILIELQIIELILQIIIELQIIIIEIE} {k3_0_9:Int→Option Ret} (hl:(List.length x3_4.2.1)≤maxLen) {n:Nat} (hn:(List.length x3_4.2.1) < n):S146_l3 x1_2 x2_3 x3_4 x6_5 x8_6 n k3_0_9 (0:Int) =
  goL (fun (i:Nat) (x : _) (next:Option Ret) =>
    bif (decide (x.1 < x1_2)) then
     next
    else
     k3_0_9 (i:Int)) (
    k3_0_9 (List.length x3_4.2.1:Int)) x3_4.2.1 0:=by
 exact range0 (f:=fun n i=>S146_l3 x1_2 x2_3 x3_4 x6_5 x8_6 n k3_0_9 i) (l:=x3_4.2.1) (fun n i h=>by
  simp only [S146_l3]
  rw [decide_eq_true (show (i:Int) < (List.length x3_4.2.1:Int) by omega)]
  simp only [cond_true,inB_nat h,Int.toNat_natCast,getD_nat _ i h]) (fun n=>by
  simp only [S146_l3]
  rw [decide_eq_false (by omega)]
  simp only [cond_false]) hl x3_4.2.1 0 n rfl (by omega) hn
theorem S164_l4_r {x1_1:QLQIIIIILIELQIILIELQIIELILQIIIELQIIIIEIE} {x4_3:QIIIE} {k4_0_7:(List Int)→Option Ret} {x3_2:(List Int)} (hl:(List.length x1_1.2.2.2.2.1)≤maxLen) {n:Nat} (hn:(List.length x1_1.2.2.2.2.1) < n):S164_l4 x1_1 x4_3 n k4_0_7 x3_2 (0:Int) =
  goL1 (fun (i:Nat) (x : _) (x3_2:(List Int)) (next:(List Int)→Option Ret) =>
    bif ((decide ((x.1:Int)=x4_3.1)) && ((decide ((x.2.1:Int)=x4_3.2.1)) && (decide ((x.2.2:Int)=x4_3.2.2)))) then
     bif (decide ((List.length x3_2 + List.length [(i:Int)]) * 1≤4398046511104)) then
      next (x3_2 ++ [(i:Int)])
     else none
    else
     next x3_2) (fun (x3_2:(List Int)) =>
    k4_0_7 x3_2) x1_1.2.2.2.2.1 0 x3_2:=by
 exact range1 (f:=fun n x3_2 i=>S164_l4 x1_1 x4_3 n k4_0_7 x3_2 i) (l:=x1_1.2.2.2.2.1) (fun n i x3_2 h=>by
  simp only [S164_l4]
  rw [decide_eq_true (show (i:Int) < (List.length x1_1.2.2.2.2.1:Int) by omega)]
  simp only [cond_true,inB_nat h,Int.toNat_natCast,getD_nat _ i h]) (fun n x3_2=>by
  simp only [S164_l4]
  rw [decide_eq_false (by omega)]
  simp only [cond_false]) hl x1_1.2.2.2.2.1 0 n x3_2 rfl (by omega) hn
theorem S186_l2_r {N:Nat} {x0_1:(List QIIIE)} {k2_0_5:Option Ret} {k2_1_6:Bool→Option Ret} (hl:(List.length x0_1)≤maxLen) {n:Nat} (hn:(List.length x0_1) < n):S186_l2 N x0_1 n k2_0_5 k2_1_6 (0:Int) =
  goL (fun (i:Nat) (x:QIIIE) (next:Option Ret) =>
    S163 N x (fun (r14_4:Bool) =>
     bif (!r14_4) then
      k2_1_6 false
     else
      bif (decide ((i:Int) > (0:Int))) then
       bif (inB (IntKind.wrap .i64 ((i:Int) - (1:Int))) (List.length x0_1)) then
        bif (decide ((List.getD x0_1 (Int.toNat (IntKind.wrap .i64 ((i:Int) - (1:Int)))) zQIIIE).1 ≥ x.1)) then
         k2_1_6 false
        else
         next
       else none
      else
       next)) (
    k2_0_5) x0_1 0:=by
 exact range0 (f:=fun n i=>S186_l2 N x0_1 n k2_0_5 k2_1_6 i) (l:=x0_1) (fun n i h=>by
  simp only [S186_l2]
  rw [decide_eq_true (show (i:Int) < (List.length x0_1:Int) by omega)]
  simp only [cond_true,inB_nat h,Int.toNat_natCast,getD_nat _ i h]) (fun n=>by
  simp only [S186_l2]
  rw [decide_eq_false (by omega)]
  simp only [cond_false]) hl x0_1 0 n rfl (by omega) hn
theorem S187_l3_r {N:Nat} {x0_1:(List QIIIE)} {x1_2:Int} {k3_0_9:Int→Option Ret} {x5_3:Int} (hl:(List.length x0_1)≤maxLen) {n:Nat} (hn:(List.length x0_1) < n):S187_l3 N x0_1 x1_2 n k3_0_9 x5_3 (0:Int) =
  goL1 (fun (i:Nat) (x:QIIIE) (x5_3:Int) (next:Int→Option Ret) =>
    S186 N x0_1 (fun (r13_6:Bool) =>
     bif r13_6 then
      S189 N x (fun (r21_7:Int) =>
       bif (r21_7 == x1_2) then
        next (IntKind.wrap .i64 (x5_3 + (1:Int)))
       else
        next x5_3)
     else
      k3_0_9 x5_3)) (fun (x5_3:Int) =>
    k3_0_9 x5_3) x0_1 0 x5_3:=by
 exact range1 (f:=fun n x5_3 i=>S187_l3 N x0_1 x1_2 n k3_0_9 x5_3 i) (l:=x0_1) (fun n i x5_3 h=>by
  simp only [S187_l3]
  rw [decide_eq_true (show (i:Int) < (List.length x0_1:Int) by omega)]
  simp only [cond_true,inB_nat h,Int.toNat_natCast,getD_nat _ i h]) (fun n x5_3=>by
  simp only [S187_l3]
  rw [decide_eq_false (by omega)]
  simp only [cond_false]) hl x0_1 0 n x5_3 rfl (by omega) hn
theorem S167_l2_r {x0_1:(List Int)} {x1_2:Int} {k2_0_5:Int→Option Ret} (hl:(List.length x0_1)≤maxLen) {n:Nat} (hn:(List.length x0_1) < n):S167_l2 x0_1 x1_2 n k2_0_5 (0:Int) =
  goL (fun (i:Nat) (x:Int) (next:Option Ret) =>
    bif (decide (x < x1_2)) then
     next
    else
     k2_0_5 (i:Int)) (
    k2_0_5 (List.length x0_1:Int)) x0_1 0:=by
 exact range0 (f:=fun n i=>S167_l2 x0_1 x1_2 n k2_0_5 i) (l:=x0_1) (fun n i h=>by
  simp only [S167_l2]
  rw [decide_eq_true (show (i:Int) < (List.length x0_1:Int) by omega)]
  simp only [cond_true,inB_nat h,Int.toNat_natCast,getD_nat _ i h]) (fun n=>by
  simp only [S167_l2]
  rw [decide_eq_false (by omega)]
  simp only [cond_false]) hl x0_1 0 n rfl (by omega) hn
theorem S149_l6_r {N:Nat} {x1_5:QLQIIIIILIELQIILIELQIIELILQIIIELQIIIIEIE} {x2_6:QLQIIIIILIELQIILIELQIIELILQIIIELQIIIIEIE} {k6_0_20:QLQIIIIILIELQIILIELQIIELILQIIIELQIIIIEIE→Bool→Option Ret} {x4_7:QLQIIIIILIELQIILIELQIIELILQIIIELQIIIIEIE} {x5_8:Bool} (hl:(List.length x1_5.2.2.1)≤maxLen) {n:Nat} (hn:(List.length x1_5.2.2.1) < n):S149_l6 N x1_5 x2_6 n k6_0_20 x4_7 x5_8 (0:Int) =
  goL2 (fun (i:Nat) (x : _) (x4_7:QLQIIIIILIELQIILIELQIIELILQIIIELQIIIIEIE) (x5_8:Bool) (next:QLQIIIIILIELQIILIELQIIELILQIIIELQIIIIEIE→Bool→Option Ret) =>
    bif (inB (i:Int) (List.length x1_5.2.2.2.2.1)) then
     S165 N [(List.getD x1_5.2.2.2.2.1 (Int.toNat (i:Int)) zQIIIE)] (fun (r57_11:Int) =>
      S110 N x4_7.1 x.1 x.2 r57_11 (List.getD x1_5.2.2.2.2.1 (Int.toNat (i:Int)) zQIIIE).2.1 (List.getD x1_5.2.2.2.2.1 (Int.toNat (i:Int)) zQIIIE).2.2 (fun (r62_12:(List QIIIIILIE)) (r62_13:Bool) =>
       bif x5_8 then
        bif (inB (i:Int) (List.length x1_5.2.2.2.1)) then
         S166 N x4_7.2.1 (List.getD x1_5.2.2.2.1 (Int.toNat (i:Int)) (0:Int)) (fun (r78_14:Int) =>
          bif (inB r78_14 (List.length x4_7.2.1)) then
           S167 N (List.getD x4_7.2.1 (Int.toNat r78_14) zQIILIE).2.2 x.1 (fun (r94_15:(List Int)) =>
            S167 N r94_15 x.2 (fun (r101_16:(List Int)) =>
             bif (inB r78_14 (List.length x4_7.2.1)) then
              next (r62_12,((List.set x4_7.2.1 (Int.toNat r78_14) ((List.getD x4_7.2.1 (Int.toNat r78_14) zQIILIE).1,((List.getD x4_7.2.1 (Int.toNat r78_14) zQIILIE).2.1,r101_16))),x4_7.2.2)) r62_13
             else none))
          else none)
        else none
       else
        bif (inB (i:Int) (List.length x1_5.2.2.2.1)) then
         S166 N x4_7.2.1 (List.getD x1_5.2.2.2.1 (Int.toNat (i:Int)) (0:Int)) (fun (r78_17:Int) =>
          bif (inB r78_17 (List.length x4_7.2.1)) then
           S167 N (List.getD x4_7.2.1 (Int.toNat r78_17) zQIILIE).2.2 x.1 (fun (r94_18:(List Int)) =>
            S167 N r94_18 x.2 (fun (r101_19:(List Int)) =>
             bif (inB r78_17 (List.length x4_7.2.1)) then
              next (r62_12,((List.set x4_7.2.1 (Int.toNat r78_17) ((List.getD x4_7.2.1 (Int.toNat r78_17) zQIILIE).1,((List.getD x4_7.2.1 (Int.toNat r78_17) zQIILIE).2.1,r101_19))),x4_7.2.2)) false
             else none))
          else none)
        else none))
    else none) (fun (x4_7:QLQIIIIILIELQIILIELQIIELILQIIIELQIIIIEIE) (x5_8:Bool) =>
    k6_0_20 x4_7 x5_8) x1_5.2.2.1 0 x4_7 x5_8:=by
 exact range2 (f:=fun n x4_7 x5_8 i=>S149_l6 N x1_5 x2_6 n k6_0_20 x4_7 x5_8 i) (l:=x1_5.2.2.1) (fun n i x4_7 x5_8 h=>by
  simp only [S149_l6]
  rw [decide_eq_true (show (i:Int) < (List.length x1_5.2.2.1:Int) by omega)]
  simp only [cond_true,inB_nat h,Int.toNat_natCast,getD_nat _ i h]) (fun n x4_7 x5_8=>by
  simp only [S149_l6]
  rw [decide_eq_false (by omega)]
  simp only [cond_false]) hl x1_5.2.2.1 0 n x4_7 x5_8 rfl (by omega) hn
theorem S100_l3_r {N:Nat} {x1_2:(List QIIIIE)} {x4_3:QLQIIIIILIELQIILIELQIIELILQIIIELQIIIIEIE} {k3_0_9:QLQIIIIILIELQIILIELQIIELILQIIIELQIIIIEIE→Option Ret} {x5_4:QLQIIIIILIELQIILIELQIIELILQIIIELQIIIIEIE} (hl:(List.length x1_2)≤maxLen) {n:Nat} (hn:(List.length x1_2) < n):S100_l3 N x1_2 x4_3 n k3_0_9 x5_4 (0:Int) =
  goL1 (fun (i:Nat) (x:QIIIIE) (x5_4:QLQIIIIILIELQIILIELQIIELILQIIIELQIIIIEIE) (next:QLQIIIIILIELQIILIELQIIELILQIIIELQIIIIEIE→Option Ret) =>
    S124 N x5_4 x (fun (r21_7:QLQIIIIILIELQIILIELQIIELILQIIIELQIIIIEIE) (r21_8:Bool) =>
     next r21_7)) (fun (x5_4:QLQIIIIILIELQIILIELQIIELILQIIIELQIIIIEIE) =>
    k3_0_9 x5_4) x1_2 0 x5_4:=by
 exact range1 (f:=fun n x5_4 i=>S100_l3 N x1_2 x4_3 n k3_0_9 x5_4 i) (l:=x1_2) (fun n i x5_4 h=>by
  simp only [S100_l3]
  rw [decide_eq_true (show (i:Int) < (List.length x1_2:Int) by omega)]
  simp only [cond_true,inB_nat h,Int.toNat_natCast,getD_nat _ i h]) (fun n x5_4=>by
  simp only [S100_l3]
  rw [decide_eq_false (by omega)]
  simp only [cond_false]) hl x1_2 0 n x5_4 rfl (by omega) hn
theorem I23_l5_r {N:Nat} {x4_5:QIIIIILIE} {x8_6:(List QIIIIILIE)} {x9_7:Int} {x10_8:Int} {x15_9:(List Int)} {k5_0_14:Option Ret} {k5_1_15:Bool→Option Ret} (hl:(List.length x15_9)≤maxLen) {n:Nat} (hn:(List.length x15_9) < n):I23_l5 N x4_5 x8_6 x9_7 x10_8 x15_9 (List.length x15_9:Int) n k5_0_14 k5_1_15 (0:Int) =
  goL (fun (i:Nat) (x:Int) (next:Option Ret) =>
    I67 N x4_5.2.2.2.2.2 x (fun (r24_13:Int) =>
     bif (decide (r24_13 > (1:Int))) then
      k5_1_15 false
     else
      next)) (
    k5_0_14) x15_9 0:=by
 exact range0 (f:=fun n i=>I23_l5 N x4_5 x8_6 x9_7 x10_8 x15_9 (List.length x15_9:Int) n k5_0_14 k5_1_15 i) (l:=x15_9) (fun n i h=>by
  simp only [I23_l5]
  rw [decide_eq_true (show (i:Int) < (List.length x15_9:Int) by omega)]
  simp only [cond_true,inB_nat h,Int.toNat_natCast,getD_nat _ i h]) (fun n=>by
  simp only [I23_l5]
  rw [decide_eq_false (by omega)]
  simp only [cond_false]) hl x15_9 0 n rfl (by omega) hn
theorem I23_l2_r {N:Nat} {x8_1:(List QIIIIILIE)} {k2_0_18:Option Ret} {k2_1_19:Bool→Option Ret} (hl:(List.length x8_1)≤maxLen) {n:Nat} (hn:(List.length x8_1) < n):I23_l2 N x8_1 (List.length x8_1:Int) n k2_0_18 k2_1_19 (0:Int) =
  goL (fun (i:Nat) (x:QIIIIILIE) (next:Option Ret) =>
    I23_l5 N x x8_1 (List.length x8_1:Int) (i:Int) x.2.2.2.2.2 (List.length x.2.2.2.2.2:Int) N next k2_1_19 (0:Int)) (
    k2_0_18) x8_1 0:=by
 exact range0 (f:=fun n i=>I23_l2 N x8_1 (List.length x8_1:Int) n k2_0_18 k2_1_19 i) (l:=x8_1) (fun n i h=>by
  simp only [I23_l2]
  rw [decide_eq_true (show (i:Int) < (List.length x8_1:Int) by omega)]
  simp only [cond_true,inB_nat h,Int.toNat_natCast,getD_nat _ i h]) (fun n=>by
  simp only [I23_l2]
  rw [decide_eq_false (by omega)]
  simp only [cond_false]) hl x8_1 0 n rfl (by omega) hn
theorem S79b_l2_r {N:Nat} {x0_1:(List QIILIE)} {x1_2:Int} {k2_0_7:Option Ret} {k2_1_8:Int→Option Ret} (hl:(List.length x0_1)≤maxLen) {n:Nat} (hn:(List.length x0_1) < n):S79b_l2 N x0_1 x1_2 (List.length x0_1:Int) n k2_0_7 k2_1_8 (0:Int) =
  goL (fun (i:Nat) (x:QIILIE) (next:Option Ret) =>
    I101 N x x1_2 (fun (r16_6:Bool) =>
     bif r16_6 then
      k2_1_8 (i:Int)
     else
      next)) (
    k2_0_7) x0_1 0:=by
 exact range0 (f:=fun n i=>S79b_l2 N x0_1 x1_2 (List.length x0_1:Int) n k2_0_7 k2_1_8 i) (l:=x0_1) (fun n i h=>by
  simp only [S79b_l2]
  rw [decide_eq_true (show (i:Int) < (List.length x0_1:Int) by omega)]
  simp only [cond_true,inB_nat h,Int.toNat_natCast,getD_nat _ i h]) (fun n=>by
  simp only [S79b_l2]
  rw [decide_eq_false (by omega)]
  simp only [cond_false]) hl x0_1 0 n rfl (by omega) hn
theorem I24_l2_r {N:Nat} {x1_1:QLQIIIIILIELQIILIELQIIELILQIIIELQIIIIEIE} {x7_2:(List QIIE)} {k2_0_8:Option Ret} {k2_1_9:Bool→Option Ret} (hl:(List.length x7_2)≤maxLen) {n:Nat} (hn:(List.length x7_2) < n):I24_l2 N x1_1 x7_2 (List.length x7_2:Int) n k2_0_8 k2_1_9 (0:Int) =
  goL (fun (i:Nat) (x:QIIE) (next:Option Ret) =>
    bif (decide ((i:Int) ≥ (List.length x1_1.2.2.2.1:Int))) then
     k2_1_9 false
    else
     bif (inB (i:Int) (List.length x1_1.2.2.2.1)) then
      I68 N x1_1.2.1 (List.getD x1_1.2.2.2.1 (Int.toNat (i:Int)) (0:Int)) (fun (r26_6:Int) =>
       bif (decide (r26_6 < (0:Int))) then
        k2_1_9 false
       else
        bif (inB r26_6 (List.length x1_1.2.1)) then
         I69 N x1_1.1 (List.getD x1_1.2.1 (Int.toNat r26_6) zQIILIE) x (fun (r38_7:Bool) =>
          bif (!r38_7) then
           k2_1_9 false
          else
           next)
        else none)
     else none) (
    k2_0_8) x7_2 0:=by
 exact range0 (f:=fun n i=>I24_l2 N x1_1 x7_2 (List.length x7_2:Int) n k2_0_8 k2_1_9 i) (l:=x7_2) (fun n i h=>by
  simp only [I24_l2]
  rw [decide_eq_true (show (i:Int) < (List.length x7_2:Int) by omega)]
  simp only [cond_true,inB_nat h,Int.toNat_natCast,getD_nat _ i h]) (fun n=>by
  simp only [I24_l2]
  rw [decide_eq_false (by omega)]
  simp only [cond_false]) hl x7_2 0 n rfl (by omega) hn
theorem I12_l3_r {x8_2:(List QIIIE)} {k3_0_7:(List Int)→Option Ret} {x3_1:(List Int)} (hl:(List.length x8_2)≤maxLen) {n:Nat} (hn:(List.length x8_2) < n):I12_l3 x8_2 (List.length x8_2:Int) n k3_0_7 x3_1 (0:Int) =
  goL1 (fun (i:Nat) (x:QIIIE) (x3_1:(List Int)) (next:(List Int)→Option Ret) =>
    bif ((decide ((x.1:Int)=(0:Int))) && ((decide ((x.2.1:Int)=(0:Int))) && (decide ((x.2.2:Int)=(0:Int))))) then
     bif (decide ((List.length x3_1 + List.length [(i:Int)]) * 1≤4398046511104)) then
      next (x3_1 ++ [(i:Int)])
     else none
    else
     next x3_1) (fun (x3_1:(List Int)) =>
    k3_0_7 x3_1) x8_2 0 x3_1:=by
 exact range1 (f:=fun n x3_1 i=>I12_l3 x8_2 (List.length x8_2:Int) n k3_0_7 x3_1 i) (l:=x8_2) (fun n i x3_1 h=>by
  simp only [I12_l3]
  rw [decide_eq_true (show (i:Int) < (List.length x8_2:Int) by omega)]
  simp only [cond_true,inB_nat h,Int.toNat_natCast,getD_nat _ i h]) (fun n x3_1=>by
  simp only [I12_l3]
  rw [decide_eq_false (by omega)]
  simp only [cond_false]) hl x8_2 0 n x3_1 rfl (by omega) hn
theorem I25_l3_r {x1_2:QLQIIIIILIELQIILIELQIIELILQIIIELQIIIIEIE} {x17_4:(List QIIIIE)} {k3_0_9:Int→Option Ret} {x3_3:Int} (hl:(List.length x17_4)≤maxLen) {n:Nat} (hn:(List.length x17_4) < n):I25_l3 x1_2 x17_4 (List.length x17_4:Int) n k3_0_9 x3_3 (0:Int) =
  goL1 (fun (i:Nat) (x:QIIIIE) (x3_3:Int) (next:Int→Option Ret) =>
    bif (x.2.1 == (4:Int)) then
     next (IntKind.wrap .i64 (x3_3 - (1:Int)))
    else
     next x3_3) (fun (x3_3:Int) =>
    k3_0_9 x3_3) x17_4 0 x3_3:=by
 exact range1 (f:=fun n x3_3 i=>I25_l3 x1_2 x17_4 (List.length x17_4:Int) n k3_0_9 x3_3 i) (l:=x17_4) (fun n i x3_3 h=>by
  simp only [I25_l3]
  rw [decide_eq_true (show (i:Int) < (List.length x17_4:Int) by omega)]
  simp only [cond_true,inB_nat h,Int.toNat_natCast,getD_nat _ i h]) (fun n x3_3=>by
  simp only [I25_l3]
  rw [decide_eq_false (by omega)]
  simp only [cond_false]) hl x17_4 0 n x3_3 rfl (by omega) hn
theorem I26_l3_r {x1_1:QLQIIIIILIELQIILIELQIIELILQIIIELQIIIIEIE} {x9_5:(List QIIIIILIE)} {k3_0_9:Int→Int→Int→Option Ret} {x3_2:Int} {x4_3:Int} {x5_4:Int} (hl:(List.length x9_5)≤maxLen) {n:Nat} (hn:(List.length x9_5) < n):I26_l3 x1_1 x9_5 (List.length x9_5:Int) n k3_0_9 x3_2 x4_3 x5_4 (0:Int) =
  goL3 (fun (i:Nat) (x:QIIIIILIE) (x3_2:Int) (x4_3:Int) (x5_4:Int) (next:Int→Int→Int→Option Ret) =>
    next (IntKind.wrap .i64 (x3_2 + x.2.2.1)) (IntKind.wrap .i64 (x4_3 + x.2.2.2.2.1)) (IntKind.wrap .i64 (x5_4 + (List.length x.2.2.2.2.2:Int)))) (fun (x3_2:Int) (x4_3:Int) (x5_4:Int) =>
    k3_0_9 x3_2 x4_3 x5_4) x9_5 0 x3_2 x4_3 x5_4:=by
 exact range3 (f:=fun n x3_2 x4_3 x5_4 i=>I26_l3 x1_1 x9_5 (List.length x9_5:Int) n k3_0_9 x3_2 x4_3 x5_4 i) (l:=x9_5) (fun n i x3_2 x4_3 x5_4 h=>by
  simp only [I26_l3]
  rw [decide_eq_true (show (i:Int) < (List.length x9_5:Int) by omega)]
  simp only [cond_true,inB_nat h,Int.toNat_natCast,getD_nat _ i h]) (fun n x3_2 x4_3 x5_4=>by
  simp only [I26_l3]
  rw [decide_eq_false (by omega)]
  simp only [cond_false]) hl x9_5 0 n x3_2 x4_3 x5_4 rfl (by omega) hn
end Go.Pv.R
