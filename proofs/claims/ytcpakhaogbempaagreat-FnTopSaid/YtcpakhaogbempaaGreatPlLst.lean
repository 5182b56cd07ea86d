/- Their loops over lists, without rounds. -/
import Derived.Test.YtcpakhaogbempaaGreatPlRes
namespace Go.Pv.R
set_option linter.unusedVariables false
set_option linter.unusedSimpArgs false
theorem I163_l3_r {N:Nat} {x7_2:(List QIIIIILIE)} {k3_0_7:(List QIIIIILIE)→Option Ret} {x3_1:(List QIIIIILIE)} (hl:(List.length x7_2)≤maxLen) {n:Nat} (hn:(List.length x7_2) < n):I163_l3 N x7_2 (List.length x7_2:Int) n k3_0_7 x3_1 (0:Int) =
  goL1 (fun (i:Nat) (x:QIIIIILIE) (x3_1:(List QIIIIILIE)) (next:(List QIIIIILIE)→Option Ret) =>
    S166 N x.2.2.2.2.2 (fun (r15_6:(List Int)) =>
     bif (decide ((List.length x3_1 + List.length [(x.1,(x.2.1,(x.2.2.1,(x.2.2.2.1,(x.2.2.2.2.1,r15_6)))))]) * 6≤4398046511104)) then
      next (x3_1 ++ [(x.1,(x.2.1,(x.2.2.1,(x.2.2.2.1,(x.2.2.2.2.1,r15_6)))))])
     else none)) (fun (x3_1:(List QIIIIILIE)) =>
    k3_0_7 x3_1) x7_2 0 x3_1:=by
 exact range1 (f:=fun n x3_1 i=>I163_l3 N x7_2 (List.length x7_2:Int) n k3_0_7 x3_1 i) (l:=x7_2) (fun n i x3_1 h=>by
  simp only [I163_l3]
  rw [decide_eq_true (show (i:Int) < (List.length x7_2:Int) by omega)]
  simp only [cond_true,inB_nat h,Int.toNat_natCast,getD_nat _ i h]) (fun n x3_1=>by
  simp only [I163_l3]
  rw [decide_eq_false (by omega)]
  simp only [cond_false]) hl x7_2 0 n x3_1 rfl (by omega) hn
theorem I164_l3_r {N:Nat} {x7_2:(List QIILIE)} {k3_0_7:(List QIILIE)→Option Ret} {x3_1:(List QIILIE)} (hl:(List.length x7_2)≤maxLen) {n:Nat} (hn:(List.length x7_2) < n):I164_l3 N x7_2 (List.length x7_2:Int) n k3_0_7 x3_1 (0:Int) =
  goL1 (fun (i:Nat) (x:QIILIE) (x3_1:(List QIILIE)) (next:(List QIILIE)→Option Ret) =>
    S166 N x.2.2 (fun (r15_6:(List Int)) =>
     bif (decide ((List.length x3_1 + List.length [(x.1,(x.2.1,r15_6))]) * 3≤4398046511104)) then
      next (x3_1 ++ [(x.1,(x.2.1,r15_6))])
     else none)) (fun (x3_1:(List QIILIE)) =>
    k3_0_7 x3_1) x7_2 0 x3_1:=by
 exact range1 (f:=fun n x3_1 i=>I164_l3 N x7_2 (List.length x7_2:Int) n k3_0_7 x3_1 i) (l:=x7_2) (fun n i x3_1 h=>by
  simp only [I164_l3]
  rw [decide_eq_true (show (i:Int) < (List.length x7_2:Int) by omega)]
  simp only [cond_true,inB_nat h,Int.toNat_natCast,getD_nat _ i h]) (fun n x3_1=>by
  simp only [I164_l3]
  rw [decide_eq_false (by omega)]
  simp only [cond_false]) hl x7_2 0 n x3_1 rfl (by omega) hn
theorem S146_l2_r {N:Nat} {x0_1:(List QIIIIILIE)} {x1_2:Int} {k2_0_7:Option Ret} {k2_1_8:Int→Option Ret} (hl:(List.length x0_1)≤maxLen) {n:Nat} (hn:(List.length x0_1) < n):S146_l2 N x0_1 x1_2 (List.length x0_1:Int) n k2_0_7 k2_1_8 (0:Int) =
  goL (fun (i:Nat) (x:QIIIIILIE) (next:Option Ret) =>
    I147 N x x1_2 (fun (r16_6:Bool) =>
     bif r16_6 then
      k2_1_8 (i:Int)
     else
      next)) (
    k2_0_7) x0_1 0:=by
 exact range0 (f:=fun n i=>S146_l2 N x0_1 x1_2 (List.length x0_1:Int) n k2_0_7 k2_1_8 i) (l:=x0_1) (fun n i h=>by
  simp only [S146_l2]
  rw [decide_eq_true (show (i:Int) < (List.length x0_1:Int) by omega)]
  simp only [cond_true,inB_nat h,Int.toNat_natCast,getD_nat _ i h]) (fun n=>by
  simp only [S146_l2]
  rw [decide_eq_false (by omega)]
  simp only [cond_false]) hl x0_1 0 n rfl (by omega) hn
theorem I219_l3_r {N:Nat} {x6_2:(List Int)} {k3_0_7:Int→Option Ret} {x3_1:Int} (hl:(List.length x6_2)≤maxLen) {n:Nat} (hn:(List.length x6_2) < n):I219_l3 N x6_2 (List.length x6_2:Int) n k3_0_7 x3_1 (0:Int) =
  goL1 (fun (i:Nat) (x:Int) (x3_1:Int) (next:Int→Option Ret) =>
    I249 N x3_1 x (fun (r14_6:Int) =>
     next r14_6)) (fun (x3_1:Int) =>
    k3_0_7 x3_1) x6_2 0 x3_1:=by
 exact range1 (f:=fun n x3_1 i=>I219_l3 N x6_2 (List.length x6_2:Int) n k3_0_7 x3_1 i) (l:=x6_2) (fun n i x3_1 h=>by
  simp only [I219_l3]
  rw [decide_eq_true (show (i:Int) < (List.length x6_2:Int) by omega)]
  simp only [cond_true,inB_nat h,Int.toNat_natCast,getD_nat _ i h]) (fun n x3_1=>by
  simp only [I219_l3]
  rw [decide_eq_false (by omega)]
  simp only [cond_false]) hl x6_2 0 n x3_1 rfl (by omega) hn
theorem I75_l5_r {N:Nat} {x9_2:(List QIIIIE)} {k5_0_9:Option Ret} {k5_1_10:Bool→Option Ret} {x3_1:Int} (hl:(List.length x9_2)≤maxLen) {n:Nat} (hn:(List.length x9_2) < n):I75_l5 N x9_2 (List.length x9_2:Int) n k5_0_9 k5_1_10 x3_1 (0:Int) =
  goL1 (fun (i:Nat) (x:QIIIIE) (x3_1:Int) (next:Int→Option Ret) =>
    bif (x.1 != (IntKind.wrap .i64 ((i:Int) + (1:Int)))) then
     k5_1_10 false
    else
     I144 N x.2.1 (1:Int) (9:Int) (fun (r24_6:Bool) =>
      bif (!r24_6) then
       k5_1_10 false
      else
       I144 N x.2.2.1 (0:Int) (99:Int) (fun (r30_7:Bool) =>
        bif (!r30_7) then
         k5_1_10 false
        else
         I169 N x3_1 x (fun (r38_8:Int) =>
          bif (x.2.2.2 != r38_8) then
           k5_1_10 false
          else
           next x.2.2.2)))) (fun (x3_1:Int) =>
    k5_0_9) x9_2 0 x3_1:=by
 exact range1 (f:=fun n x3_1 i=>I75_l5 N x9_2 (List.length x9_2:Int) n k5_0_9 k5_1_10 x3_1 i) (l:=x9_2) (fun n i x3_1 h=>by
  simp only [I75_l5]
  rw [decide_eq_true (show (i:Int) < (List.length x9_2:Int) by omega)]
  simp only [cond_true,inB_nat h,Int.toNat_natCast,getD_nat _ i h]) (fun n x3_1=>by
  simp only [I75_l5]
  rw [decide_eq_false (by omega)]
  simp only [cond_false]) hl x9_2 0 n x3_1 rfl (by omega) hn
theorem I78_l3_r {x1_1:Int} {x8_3:(List Int)} {k3_0_8:Int→Option Ret} {x5_2:Int} (hl:(List.length x8_3)≤maxLen) {n:Nat} (hn:(List.length x8_3) < n):I78_l3 x1_1 x8_3 (List.length x8_3:Int) n k3_0_8 x5_2 (0:Int) =
  goL1 (fun (i:Nat) (x:Int) (x5_2:Int) (next:Int→Option Ret) =>
    bif (x == x1_1) then
     next (IntKind.wrap .i64 (x5_2 + (1:Int)))
    else
     next x5_2) (fun (x5_2:Int) =>
    k3_0_8 x5_2) x8_3 0 x5_2:=by
 exact range1 (f:=fun n x5_2 i=>I78_l3 x1_1 x8_3 (List.length x8_3:Int) n k3_0_8 x5_2 i) (l:=x8_3) (fun n i x5_2 h=>by
  simp only [I78_l3]
  rw [decide_eq_true (show (i:Int) < (List.length x8_3:Int) by omega)]
  simp only [cond_true,inB_nat h,Int.toNat_natCast,getD_nat _ i h]) (fun n x5_2=>by
  simp only [I78_l3]
  rw [decide_eq_false (by omega)]
  simp only [cond_false]) hl x8_3 0 n x5_2 rfl (by omega) hn
theorem I143_l10_r {N:Nat} {x0_16:(List QIIIIILIE)} {x4_17:QIIIIILIE} {x12_18:(List QIIIIILIE)} {x13_19:Int} {x14_20:Int} {x72_21:(List Int)} {k10_0_28:Option Ret} {k10_1_29:Bool→Option Ret} (hl:(List.length x72_21)≤maxLen) {n:Nat} (hn:(List.length x72_21) < n):I143_l10 N x0_16 x4_17 x12_18 x13_19 x14_20 x72_21 (List.length x72_21:Int) n k10_0_28 k10_1_29 (0:Int) =
  goL (fun (i:Nat) (x:Int) (next:Option Ret) =>
    I40 N x0_16 x (fun (r80_25:Int) =>
     bif (decide (r80_25 < (0:Int))) then
      k10_1_29 false
     else
      bif (x == x4_17.1) then
       k10_1_29 false
      else
       bif (inB r80_25 (List.length x0_16)) then
        I78 N x4_17.2.2.2.2.2 x (fun (r93_26:Int) =>
         I78 N (List.getD x0_16 (Int.toNat r80_25) zQIIIIILIE).2.2.2.2.2 x4_17.1 (fun (r101_27:Int) =>
          bif (r93_26 != r101_27) then
           k10_1_29 false
          else
           next))
       else none)) (
    k10_0_28) x72_21 0:=by
 exact range0 (f:=fun n i=>I143_l10 N x0_16 x4_17 x12_18 x13_19 x14_20 x72_21 (List.length x72_21:Int) n k10_0_28 k10_1_29 i) (l:=x72_21) (fun n i h=>by
  simp only [I143_l10]
  rw [decide_eq_true (show (i:Int) < (List.length x72_21:Int) by omega)]
  simp only [cond_true,inB_nat h,Int.toNat_natCast,getD_nat _ i h]) (fun n=>by
  simp only [I143_l10]
  rw [decide_eq_false (by omega)]
  simp only [cond_false]) hl x72_21 0 n rfl (by omega) hn
theorem I143_l4_r {N:Nat} {x0_1:(List QIIIIILIE)} {x12_2:(List QIIIIILIE)} {k4_0_32:Option Ret} {k4_1_33:Bool→Option Ret} (hl:(List.length x12_2)≤maxLen) {n:Nat} (hn:(List.length x12_2) < n):I143_l4 N x0_1 x12_2 (List.length x12_2:Int) n k4_0_32 k4_1_33 (0:Int) =
  goL (fun (i:Nat) (x:QIIIIILIE) (next:Option Ret) =>
    I144 N x.1 (1:Int) (99:Int) (fun (r24_6:Bool) =>
     bif (!r24_6) then
      k4_1_33 false
     else
      bif (decide ((i:Int) > (0:Int))) then
       bif (inB (IntKind.wrap .i64 ((i:Int) - (1:Int))) (List.length x0_1)) then
        bif (decide (x.1≤(List.getD x0_1 (Int.toNat (IntKind.wrap .i64 ((i:Int) - (1:Int)))) zQIIIIILIE).1)) then
         k4_1_33 false
        else
         I144 N x.2.1 (1:Int) (99:Int) (fun (r44_7:Bool) =>
          bif (!r44_7) then
           k4_1_33 false
          else
           bif (decide ((List.length x.2.2.2.2.2:Int) > (20:Int))) then
            k4_1_33 false
           else
            I144 N x.2.2.1 (0:Int) (List.length x.2.2.2.2.2:Int) (fun (r55_8:Bool) =>
             bif (!r55_8) then
              k4_1_33 false
             else
              I144 N x.2.2.2.2.1 (0:Int) (List.length x.2.2.2.2.2:Int) (fun (r62_9:Bool) =>
               bif (!r62_9) then
                k4_1_33 false
               else
                I144 N x.2.2.2.1 (0:Int) (100000:Int) (fun (r68_10:Bool) =>
                 bif (!r68_10) then
                  k4_1_33 false
                 else
                  I143_l10 N x0_1 x x12_2 (List.length x12_2:Int) (i:Int) x.2.2.2.2.2 (List.length x.2.2.2.2.2:Int) N next k4_1_33 (0:Int)))))
       else none
      else
       I144 N x.2.1 (1:Int) (99:Int) (fun (r44_11:Bool) =>
        bif (!r44_11) then
         k4_1_33 false
        else
         bif (decide ((List.length x.2.2.2.2.2:Int) > (20:Int))) then
          k4_1_33 false
         else
          I144 N x.2.2.1 (0:Int) (List.length x.2.2.2.2.2:Int) (fun (r55_12:Bool) =>
           bif (!r55_12) then
            k4_1_33 false
           else
            I144 N x.2.2.2.2.1 (0:Int) (List.length x.2.2.2.2.2:Int) (fun (r62_13:Bool) =>
             bif (!r62_13) then
              k4_1_33 false
             else
              I144 N x.2.2.2.1 (0:Int) (100000:Int) (fun (r68_14:Bool) =>
               bif (!r68_14) then
                k4_1_33 false
               else
                I143_l10 N x0_1 x x12_2 (List.length x12_2:Int) (i:Int) x.2.2.2.2.2 (List.length x.2.2.2.2.2:Int) N next k4_1_33 (0:Int))))))) (
    k4_0_32) x12_2 0:=by
 exact range0 (f:=fun n i=>I143_l4 N x0_1 x12_2 (List.length x12_2:Int) n k4_0_32 k4_1_33 i) (l:=x12_2) (fun n i h=>by
  simp only [I143_l4,I143_j1]
  rw [decide_eq_true (show (i:Int) < (List.length x12_2:Int) by omega)]
  simp only [cond_true,inB_nat h,Int.toNat_natCast,getD_nat _ i h]) (fun n=>by
  simp only [I143_l4,I143_j1]
  rw [decide_eq_false (by omega)]
  simp only [cond_false]) hl x12_2 0 n rfl (by omega) hn
theorem I79_l9_r {N:Nat} {x0_10:(List QIILIE)} {x4_11:QIILIE} {x10_12:(List QIILIE)} {x11_13:Int} {x12_14:Int} {x43_15:(List Int)} {k9_0_20:Option Ret} {k9_1_21:Bool→Option Ret} (hl:(List.length x43_15)≤maxLen) {n:Nat} (hn:(List.length x43_15) < n):I79_l9 N x0_10 x4_11 x10_12 x11_13 x12_14 x43_15 (List.length x43_15:Int) n k9_0_20 k9_1_21 (0:Int) =
  goL (fun (i:Nat) (x:Int) (next:Option Ret) =>
    I144 N x (1:Int) (99:Int) (fun (r51_19:Bool) =>
     bif (!r51_19) then
      k9_1_21 false
     else
      bif (decide ((i:Int) > (0:Int))) then
       bif (inB (IntKind.wrap .i64 ((i:Int) - (1:Int))) (List.length x4_11.2.2)) then
        bif (decide (x≤(List.getD x4_11.2.2 (Int.toNat (IntKind.wrap .i64 ((i:Int) - (1:Int)))) (0:Int)))) then
         k9_1_21 false
        else
         next
       else none
      else
       next)) (
    k9_0_20) x43_15 0:=by
 exact range0 (f:=fun n i=>I79_l9 N x0_10 x4_11 x10_12 x11_13 x12_14 x43_15 (List.length x43_15:Int) n k9_0_20 k9_1_21 i) (l:=x43_15) (fun n i h=>by
  simp only [I79_l9]
  rw [decide_eq_true (show (i:Int) < (List.length x43_15:Int) by omega)]
  simp only [cond_true,inB_nat h,Int.toNat_natCast,getD_nat _ i h]) (fun n=>by
  simp only [I79_l9]
  rw [decide_eq_false (by omega)]
  simp only [cond_false]) hl x43_15 0 n rfl (by omega) hn
theorem I79_l4_r {N:Nat} {x0_1:(List QIILIE)} {x10_2:(List QIILIE)} {k4_0_24:Option Ret} {k4_1_25:Bool→Option Ret} (hl:(List.length x10_2)≤maxLen) {n:Nat} (hn:(List.length x10_2) < n):I79_l4 N x0_1 x10_2 (List.length x10_2:Int) n k4_0_24 k4_1_25 (0:Int) =
  goL (fun (i:Nat) (x:QIILIE) (next:Option Ret) =>
    I144 N x.1 (1:Int) (99:Int) (fun (r19_6:Bool) =>
     bif (!r19_6) then
      k4_1_25 false
     else
      bif (decide ((i:Int) > (0:Int))) then
       bif (inB (IntKind.wrap .i64 ((i:Int) - (1:Int))) (List.length x0_1)) then
        bif (decide (x.1≤(List.getD x0_1 (Int.toNat (IntKind.wrap .i64 ((i:Int) - (1:Int)))) zQIILIE).1)) then
         k4_1_25 false
        else
         I144 N x.2.1 (1:Int) (99:Int) (fun (r39_7:Bool) =>
          bif (!r39_7) then
           k4_1_25 false
          else
           I79_l9 N x0_1 x x10_2 (List.length x10_2:Int) (i:Int) x.2.2 (List.length x.2.2:Int) N next k4_1_25 (0:Int))
       else none
      else
       I144 N x.2.1 (1:Int) (99:Int) (fun (r39_8:Bool) =>
        bif (!r39_8) then
         k4_1_25 false
        else
         I79_l9 N x0_1 x x10_2 (List.length x10_2:Int) (i:Int) x.2.2 (List.length x.2.2:Int) N next k4_1_25 (0:Int)))) (
    k4_0_24) x10_2 0:=by
 exact range0 (f:=fun n i=>I79_l4 N x0_1 x10_2 (List.length x10_2:Int) n k4_0_24 k4_1_25 i) (l:=x10_2) (fun n i h=>by
  simp only [I79_l4,I79_j1]
  rw [decide_eq_true (show (i:Int) < (List.length x10_2:Int) by omega)]
  simp only [cond_true,inB_nat h,Int.toNat_natCast,getD_nat _ i h]) (fun n=>by
  simp only [I79_l4,I79_j1]
  rw [decide_eq_false (by omega)]
  simp only [cond_false]) hl x10_2 0 n rfl (by omega) hn
theorem S170_l2_r {x0_1:(List Int)} {x1_2:Int} {k2_0_6:Option Ret} {k2_1_7:Int→Option Ret} (hl:(List.length x0_1)≤maxLen) {n:Nat} (hn:(List.length x0_1) < n):S170_l2 x0_1 x1_2 (List.length x0_1:Int) n k2_0_6 k2_1_7 (0:Int) =
  goL (fun (i:Nat) (x:Int) (next:Option Ret) =>
    bif (x1_2 == x) then
     k2_1_7 (i:Int)
    else
     next) (
    k2_0_6) x0_1 0:=by
 exact range0 (f:=fun n i=>S170_l2 x0_1 x1_2 (List.length x0_1:Int) n k2_0_6 k2_1_7 i) (l:=x0_1) (fun n i h=>by
  simp only [S170_l2]
  rw [decide_eq_true (show (i:Int) < (List.length x0_1:Int) by omega)]
  simp only [cond_true,inB_nat h,Int.toNat_natCast,getD_nat _ i h]) (fun n=>by
  simp only [S170_l2]
  rw [decide_eq_false (by omega)]
  simp only [cond_false]) hl x0_1 0 n rfl (by omega) hn
theorem I17_l10_r {N:Nat} {x5_13:(List Int)} {x32_14:(List QIIIIILIE)} {k10_0_19:Option Ret} {k10_1_20:Bool→Option Ret} (hl:(List.length x32_14)≤maxLen) {n:Nat} (hn:(List.length x32_14) < n):I17_l10 N x5_13 x32_14 (List.length x32_14:Int) n k10_0_19 k10_1_20 (0:Int) =
  goL (fun (i:Nat) (x:QIIIIILIE) (next:Option Ret) =>
    I78 N x5_13 x.1 (fun (r41_18:Int) =>
     bif (r41_18 != (1:Int)) then
      k10_1_20 false
     else
      next)) (
    k10_0_19) x32_14 0:=by
 exact range0 (f:=fun n i=>I17_l10 N x5_13 x32_14 (List.length x32_14:Int) n k10_0_19 k10_1_20 i) (l:=x32_14) (fun n i h=>by
  simp only [I17_l10]
  rw [decide_eq_true (show (i:Int) < (List.length x32_14:Int) by omega)]
  simp only [cond_true,inB_nat h,Int.toNat_natCast,getD_nat _ i h]) (fun n=>by
  simp only [I17_l10]
  rw [decide_eq_false (by omega)]
  simp only [cond_false]) hl x32_14 0 n rfl (by omega) hn
theorem I17_l3_r {N:Nat} {x0_1:(List QIIIIILIE)} {x11_3:(List QIIE)} {k3_0_8:(List Int)→Option Ret} {k3_1_9:Bool→Option Ret} {x5_2:(List Int)} (hl:(List.length x11_3)≤maxLen) {n:Nat} (hn:(List.length x11_3) < n):I17_l3 N x0_1 x11_3 (List.length x11_3:Int) n k3_0_8 k3_1_9 x5_2 (0:Int) =
  goL1 (fun (i:Nat) (x:QIIE) (x5_2:(List Int)) (next:(List Int)→Option Ret) =>
    I77 N x0_1 x.1 x.2 (fun (r22_7:Bool) =>
     bif (!r22_7) then
      k3_1_9 false
     else
      bif (decide ((List.length x5_2 + List.length [x.1,x.2]) * 1≤4398046511104)) then
       next (x5_2 ++ [x.1,x.2])
      else none)) (fun (x5_2:(List Int)) =>
    k3_0_8 x5_2) x11_3 0 x5_2:=by
 exact range1 (f:=fun n x5_2 i=>I17_l3 N x0_1 x11_3 (List.length x11_3:Int) n k3_0_8 k3_1_9 x5_2 i) (l:=x11_3) (fun n i x5_2 h=>by
  simp only [I17_l3]
  rw [decide_eq_true (show (i:Int) < (List.length x11_3:Int) by omega)]
  simp only [cond_true,inB_nat h,Int.toNat_natCast,getD_nat _ i h]) (fun n x5_2=>by
  simp only [I17_l3]
  rw [decide_eq_false (by omega)]
  simp only [cond_false]) hl x11_3 0 n x5_2 rfl (by omega) hn
theorem S80_l2_r {N:Nat} {x0_1:(List QIILIE)} {x1_2:Int} {k2_0_7:Option Ret} {k2_1_8:Int→Option Ret} (hl:(List.length x0_1)≤maxLen) {n:Nat} (hn:(List.length x0_1) < n):S80_l2 N x0_1 x1_2 (List.length x0_1:Int) n k2_0_7 k2_1_8 (0:Int) =
  goL (fun (i:Nat) (x:QIILIE) (next:Option Ret) =>
    I81 N x x1_2 (fun (r16_6:Bool) =>
     bif r16_6 then
      k2_1_8 (i:Int)
     else
      next)) (
    k2_0_7) x0_1 0:=by
 exact range0 (f:=fun n i=>S80_l2 N x0_1 x1_2 (List.length x0_1:Int) n k2_0_7 k2_1_8 i) (l:=x0_1) (fun n i h=>by
  simp only [S80_l2]
  rw [decide_eq_true (show (i:Int) < (List.length x0_1:Int) by omega)]
  simp only [cond_true,inB_nat h,Int.toNat_natCast,getD_nat _ i h]) (fun n=>by
  simp only [S80_l2]
  rw [decide_eq_false (by omega)]
  simp only [cond_false]) hl x0_1 0 n rfl (by omega) hn
theorem I83_l2_r {N:Nat} {x0_1:(List QIIIIILIE)} {x4_2:QIILIE} {x14_3:(List Int)} {k2_0_9:Option Ret} {k2_1_10:Bool→Option Ret} (hl:(List.length x14_3)≤maxLen) {n:Nat} (hn:(List.length x14_3) < n):I83_l2 N x0_1 x4_2 x14_3 (List.length x14_3:Int) n k2_0_9 k2_1_10 (0:Int) =
  goL (fun (i:Nat) (x:Int) (next:Option Ret) =>
    I40 N x0_1 x (fun (r22_7:Int) =>
     bif (decide (r22_7 < (0:Int))) then
      k2_1_10 false
     else
      bif (inB r22_7 (List.length x0_1)) then
       bif ((List.getD x0_1 (Int.toNat r22_7) zQIIIIILIE).2.1 == x4_2.2.1) then
        k2_1_10 false
       else
        S82 N x4_2.2.2 x (fun (r39_8:Bool) =>
         bif r39_8 then
          k2_1_10 false
         else
          next)
      else none)) (
    k2_0_9) x14_3 0:=by
 exact range0 (f:=fun n i=>I83_l2 N x0_1 x4_2 x14_3 (List.length x14_3:Int) n k2_0_9 k2_1_10 i) (l:=x14_3) (fun n i h=>by
  simp only [I83_l2]
  rw [decide_eq_true (show (i:Int) < (List.length x14_3:Int) by omega)]
  simp only [cond_true,inB_nat h,Int.toNat_natCast,getD_nat _ i h]) (fun n=>by
  simp only [I83_l2]
  rw [decide_eq_false (by omega)]
  simp only [cond_false]) hl x14_3 0 n rfl (by omega) hn
theorem I18_l4_r {N:Nat} {x0_2:(List QIIIIILIE)} {x1_3:(List QIILIE)} {x2_4:(List QIIE)} {x3_5:(List Int)} {x22_6:(List Int)} {k4_0_13:Option Ret} {k4_1_14:Bool→Option Ret} (hl:(List.length x22_6)≤maxLen) {n:Nat} (hn:(List.length x22_6) < n):I18_l4 N x0_2 x1_3 x2_4 x3_5 x22_6 (List.length x22_6:Int) n k4_0_13 k4_1_14 (0:Int) =
  goL (fun (i:Nat) (x:Int) (next:Option Ret) =>
    S80 N x1_3 x (fun (r31_10:Int) =>
     bif (decide (r31_10 < (0:Int))) then
      k4_1_14 false
     else
      bif (decide ((0:Int)≤(0:Int)) && decide ((0:Int)≤(i:Int)) && decide ((i:Int)≤(List.length x3_5:Int))) then
       S82 N (List.drop (Int.toNat (0:Int)) (List.take (Int.toNat (i:Int)) x3_5)) x (fun (r39_11:Bool) =>
        bif r39_11 then
         k4_1_14 false
        else
         bif (inB r31_10 (List.length x1_3)) then
          bif (inB (i:Int) (List.length x2_4)) then
           I83 N x0_2 (List.getD x1_3 (Int.toNat r31_10) zQIILIE) (List.getD x2_4 (Int.toNat (i:Int)) zQIIE) (fun (r51_12:Bool) =>
            bif (!r51_12) then
             k4_1_14 false
            else
             next)
          else none
         else none)
      else none)) (
    k4_0_13) x22_6 0:=by
 exact range0 (f:=fun n i=>I18_l4 N x0_2 x1_3 x2_4 x3_5 x22_6 (List.length x22_6:Int) n k4_0_13 k4_1_14 i) (l:=x22_6) (fun n i h=>by
  simp only [I18_l4]
  rw [decide_eq_true (show (i:Int) < (List.length x22_6:Int) by omega)]
  simp only [cond_true,inB_nat h,Int.toNat_natCast,getD_nat _ i h]) (fun n=>by
  simp only [I18_l4]
  rw [decide_eq_false (by omega)]
  simp only [cond_false]) hl x22_6 0 n rfl (by omega) hn
theorem I145_l5_r {x10_3:(List QIIIIILIE)} {k5_0_7:Int→Option Ret} {x3_2:Int} (hl:(List.length x10_3)≤maxLen) {n:Nat} (hn:(List.length x10_3) < n):I145_l5 x10_3 (List.length x10_3:Int) n k5_0_7 x3_2 (0:Int) =
  goL1 (fun (i:Nat) (x:QIIIIILIE) (x3_2:Int) (next:Int→Option Ret) =>
    next (IntKind.wrap .i64 (x3_2 + x.2.2.1))) (fun (x3_2:Int) =>
    k5_0_7 x3_2) x10_3 0 x3_2:=by
 exact range1 (f:=fun n x3_2 i=>I145_l5 x10_3 (List.length x10_3:Int) n k5_0_7 x3_2 i) (l:=x10_3) (fun n i x3_2 h=>by
  simp only [I145_l5]
  rw [decide_eq_true (show (i:Int) < (List.length x10_3:Int) by omega)]
  simp only [cond_true,inB_nat h,Int.toNat_natCast,getD_nat _ i h]) (fun n x3_2=>by
  simp only [I145_l5]
  rw [decide_eq_false (by omega)]
  simp only [cond_false]) hl x10_3 0 n x3_2 rfl (by omega) hn
theorem I39_l6_r {N:Nat} {x1_7:QLQIIIIILIELQIILIELQIIELILQIIIELQIIIIEIE} {x62_8:(List QIIIE)} {k6_0_13:Option Ret} {k6_1_14:Bool→Option Ret} (hl:(List.length x62_8)≤maxLen) {n:Nat} (hn:(List.length x62_8) < n):I39_l6 N x1_7 x62_8 (List.length x62_8:Int) n k6_0_13 k6_1_14 (0:Int) =
  goL (fun (i:Nat) (x:QIIIE) (next:Option Ret) =>
    bif (!((decide ((x.1:Int)=(0:Int))) && ((decide ((x.2.1:Int)=(0:Int))) && (decide ((x.2.2:Int)=(0:Int)))))) then
     I138 N x (fun (r74_12:Bool) =>
      bif (!r74_12) then
       k6_1_14 false
      else
       bif (inB (i:Int) (List.length x1_7.2.2.2.1)) then
        bif (x.1 != (List.getD x1_7.2.2.2.1 (Int.toNat (i:Int)) (0:Int))) then
         k6_1_14 false
        else
         next
       else none)
    else
     next) (
    k6_0_13) x62_8 0:=by
 exact range0 (f:=fun n i=>I39_l6 N x1_7 x62_8 (List.length x62_8:Int) n k6_0_13 k6_1_14 i) (l:=x62_8) (fun n i h=>by
  simp only [I39_l6]
  rw [decide_eq_true (show (i:Int) < (List.length x62_8:Int) by omega)]
  simp only [cond_true,inB_nat h,Int.toNat_natCast,getD_nat _ i h]) (fun n=>by
  simp only [I39_l6]
  rw [decide_eq_false (by omega)]
  simp only [cond_false]) hl x62_8 0 n rfl (by omega) hn
theorem I30_l5_r {x1_4:Int} {x2_5:Int} {x3_6:QLQIIIIILIELQIILIELQIIELILQIIIELQIIIIEIE} {x6_7:QLQIIIIILIELQIILIELQIIELILQIIIELQIIIIEIE} {x8_8:QLQIIIIILIELQIILIELQIIELILQIIIELQIIIIEIE} {k5_0_11:Int→Option Ret} (hl:(List.length x8_8.1)≤maxLen) {n:Nat} (hn:(List.length x8_8.1) < n):I30_l5 x1_4 x2_5 x3_6 x6_7 x8_8 n k5_0_11 (0:Int) =
  goL (fun (i:Nat) (x : _) (next:Option Ret) =>
    bif (decide (x.1 < x1_4)) then
     next
    else
     k5_0_11 (i:Int)) (
    k5_0_11 (List.length x8_8.1:Int)) x8_8.1 0:=by
 exact range0 (f:=fun n i=>I30_l5 x1_4 x2_5 x3_6 x6_7 x8_8 n k5_0_11 i) (l:=x8_8.1) (fun n i h=>by
  simp only [I30_l5]
  rw [decide_eq_true (show (i:Int) < (List.length x8_8.1:Int) by omega)]
  simp only [cond_true,inB_nat h,Int.toNat_natCast,getD_nat _ i h]) (fun n=>by
  simp only [I30_l5]
  rw [decide_eq_false (by omega)]
  simp only [cond_false]) hl x8_8.1 0 n rfl (by omega) hn
theorem S80b_l2_r {N:Nat} {x0_1:(List QIILIE)} {x1_2:Int} {k2_0_7:Option Ret} {k2_1_8:Int→Option Ret} (hl:(List.length x0_1)≤maxLen) {n:Nat} (hn:(List.length x0_1) < n):S80b_l2 N x0_1 x1_2 (List.length x0_1:Int) n k2_0_7 k2_1_8 (0:Int) =
  goL (fun (i:Nat) (x:QIILIE) (next:Option Ret) =>
    I209 N x x1_2 (fun (r16_6:Bool) =>
     bif r16_6 then
      k2_1_8 (i:Int)
     else
      next)) (
    k2_0_7) x0_1 0:=by
 exact range0 (f:=fun n i=>S80b_l2 N x0_1 x1_2 (List.length x0_1:Int) n k2_0_7 k2_1_8 i) (l:=x0_1) (fun n i h=>by
  simp only [S80b_l2]
  rw [decide_eq_true (show (i:Int) < (List.length x0_1:Int) by omega)]
  simp only [cond_true,inB_nat h,Int.toNat_natCast,getD_nat _ i h]) (fun n=>by
  simp only [S80b_l2]
  rw [decide_eq_false (by omega)]
  simp only [cond_false]) hl x0_1 0 n rfl (by omega) hn
theorem I32_l5_r {x1_3:Int} {x2_4:Int} {x3_5:QLQIIIIILIELQIILIELQIIELILQIIIELQIIIIEIE} {x6_6:QLQIIIIILIELQIILIELQIIELILQIIIELQIIIIEIE} {x8_7:QLQIIIIILIELQIILIELQIIELILQIIIELQIIIIEIE} {k5_0_10:Int→Option Ret} (hl:(List.length x8_7.2.1)≤maxLen) {n:Nat} (hn:(List.length x8_7.2.1) < n):I32_l5 x1_3 x2_4 x3_5 x6_6 x8_7 n k5_0_10 (0:Int) =
  goL (fun (i:Nat) (x : _) (next:Option Ret) =>
    bif (decide (x.1 < x1_3)) then
     next
    else
     k5_0_10 (i:Int)) (
    k5_0_10 (List.length x8_7.2.1:Int)) x8_7.2.1 0:=by
 exact range0 (f:=fun n i=>I32_l5 x1_3 x2_4 x3_5 x6_6 x8_7 n k5_0_10 i) (l:=x8_7.2.1) (fun n i h=>by
  simp only [I32_l5]
  rw [decide_eq_true (show (i:Int) < (List.length x8_7.2.1:Int) by omega)]
  simp only [cond_true,inB_nat h,Int.toNat_natCast,getD_nat _ i h]) (fun n=>by
  simp only [I32_l5]
  rw [decide_eq_false (by omega)]
  simp only [cond_false]) hl x8_7.2.1 0 n rfl (by omega) hn
theorem C232_l3_r {x3_1:Int} {x6_2:(List Int)} {k3_0_6:Option Ret} {k3_1_7:Int→Option Ret} (hl:(List.length x6_2)≤maxLen) {n:Nat} (hn:(List.length x6_2) < n):C232_l3 x3_1 x6_2 (List.length x6_2:Int) n k3_0_6 k3_1_7 (0:Int) =
  goL (fun (i:Nat) (x:Int) (next:Option Ret) =>
    bif (x != x3_1) then
     k3_1_7 x
    else
     next) (
    k3_0_6) x6_2 0:=by
 exact range0 (f:=fun n i=>C232_l3 x3_1 x6_2 (List.length x6_2:Int) n k3_0_6 k3_1_7 i) (l:=x6_2) (fun n i h=>by
  simp only [C232_l3]
  rw [decide_eq_true (show (i:Int) < (List.length x6_2:Int) by omega)]
  simp only [cond_true,inB_nat h,Int.toNat_natCast,getD_nat _ i h]) (fun n=>by
  simp only [C232_l3]
  rw [decide_eq_false (by omega)]
  simp only [cond_false]) hl x6_2 0 n rfl (by omega) hn
theorem I187_l7_r {x16_5:(List QIIIIILIE)} {k7_0_9:(List Int)→Option Ret} {x3_4:(List Int)} (hl:(List.length x16_5)≤maxLen) {n:Nat} (hn:(List.length x16_5) < n):I187_l7 x16_5 (List.length x16_5:Int) n k7_0_9 x3_4 (0:Int) =
  goL1 (fun (i:Nat) (x:QIIIIILIE) (x3_4:(List Int)) (next:(List Int)→Option Ret) =>
    bif (decide ((List.length x3_4 + List.length [x.1]) * 1≤4398046511104)) then
     next (x3_4 ++ [x.1])
    else none) (fun (x3_4:(List Int)) =>
    k7_0_9 x3_4) x16_5 0 x3_4:=by
 exact range1 (f:=fun n x3_4 i=>I187_l7 x16_5 (List.length x16_5:Int) n k7_0_9 x3_4 i) (l:=x16_5) (fun n i x3_4 h=>by
  simp only [I187_l7]
  rw [decide_eq_true (show (i:Int) < (List.length x16_5:Int) by omega)]
  simp only [cond_true,inB_nat h,Int.toNat_natCast,getD_nat _ i h]) (fun n x3_4=>by
  simp only [I187_l7]
  rw [decide_eq_false (by omega)]
  simp only [cond_false]) hl x16_5 0 n x3_4 rfl (by omega) hn
theorem S227_l11_r {x25_12:(List (List Int))} {k11_0_16:(List Int)→Option Ret} {x6_11:(List Int)} (hl:(List.length x25_12)≤maxLen) {n:Nat} (hn:(List.length x25_12) < n):S227_l11 x25_12 (List.length x25_12:Int) n k11_0_16 x6_11 (0:Int) =
  goL1 (fun (i:Nat) (x:(List Int)) (x6_11:(List Int)) (next:(List Int)→Option Ret) =>
    bif (decide ((List.length x6_11 + List.length x) * 1≤4398046511104)) then
     next (x6_11 ++ x)
    else none) (fun (x6_11:(List Int)) =>
    k11_0_16 x6_11) x25_12 0 x6_11:=by
 exact range1 (f:=fun n x6_11 i=>S227_l11 x25_12 (List.length x25_12:Int) n k11_0_16 x6_11 i) (l:=x25_12) (fun n i x6_11 h=>by
  simp only [S227_l11]
  rw [decide_eq_true (show (i:Int) < (List.length x25_12:Int) by omega)]
  simp only [cond_true,inB_nat h,Int.toNat_natCast,getD_nat _ i h]) (fun n x6_11=>by
  simp only [S227_l11]
  rw [decide_eq_false (by omega)]
  simp only [cond_false]) hl x25_12 0 n x6_11 rfl (by omega) hn
theorem S227_l3_r {x0_1:(List (List Int))} {x9_3:(List (List Int))} {k3_0_7:Int→Option Ret} {x3_2:Int} (hl:(List.length x9_3)≤maxLen) {n:Nat} (hn:(List.length x9_3) < n):S227_l3 x0_1 x9_3 (List.length x9_3:Int) n k3_0_7 x3_2 (0:Int) =
  goL1 (fun (i:Nat) (x:(List Int)) (x3_2:Int) (next:Int→Option Ret) =>
    bif (decide ((IntKind.wrap .i64 (x3_2 + (List.length x:Int))) < (0:Int))) then
     none
    else
     next (IntKind.wrap .i64 (x3_2 + (List.length x:Int)))) (fun (x3_2:Int) =>
    k3_0_7 x3_2) x9_3 0 x3_2:=by
 exact range1 (f:=fun n x3_2 i=>S227_l3 x0_1 x9_3 (List.length x9_3:Int) n k3_0_7 x3_2 i) (l:=x9_3) (fun n i x3_2 h=>by
  simp only [S227_l3]
  rw [decide_eq_true (show (i:Int) < (List.length x9_3:Int) by omega)]
  simp only [cond_true,inB_nat h,Int.toNat_natCast,getD_nat _ i h]) (fun n x3_2=>by
  simp only [S227_l3]
  rw [decide_eq_false (by omega)]
  simp only [cond_false]) hl x9_3 0 n x3_2 rfl (by omega) hn
theorem I41_l3_r {x8_2:(List QIIIE)} {k3_0_7:(List Int)→Option Ret} {x3_1:(List Int)} (hl:(List.length x8_2)≤maxLen) {n:Nat} (hn:(List.length x8_2) < n):I41_l3 x8_2 (List.length x8_2:Int) n k3_0_7 x3_1 (0:Int) =
  goL1 (fun (i:Nat) (x:QIIIE) (x3_1:(List Int)) (next:(List Int)→Option Ret) =>
    bif ((decide ((x.1:Int)=(0:Int))) && ((decide ((x.2.1:Int)=(0:Int))) && (decide ((x.2.2:Int)=(0:Int))))) then
     bif (decide ((List.length x3_1 + List.length [(i:Int)]) * 1≤4398046511104)) then
      next (x3_1 ++ [(i:Int)])
     else none
    else
     next x3_1) (fun (x3_1:(List Int)) =>
    k3_0_7 x3_1) x8_2 0 x3_1:=by
 exact range1 (f:=fun n x3_1 i=>I41_l3 x8_2 (List.length x8_2:Int) n k3_0_7 x3_1 i) (l:=x8_2) (fun n i x3_1 h=>by
  simp only [I41_l3]
  rw [decide_eq_true (show (i:Int) < (List.length x8_2:Int) by omega)]
  simp only [cond_true,inB_nat h,Int.toNat_natCast,getD_nat _ i h]) (fun n x3_1=>by
  simp only [I41_l3]
  rw [decide_eq_false (by omega)]
  simp only [cond_false]) hl x8_2 0 n x3_1 rfl (by omega) hn
theorem I205_l4_r {N:Nat} {x0_1:(List QIIIE)} {x8_2:(List QIIIE)} {k4_0_7:Option Ret} {k4_1_8:Bool→Option Ret} (hl:(List.length x8_2)≤maxLen) {n:Nat} (hn:(List.length x8_2) < n):I205_l4 N x0_1 x8_2 (List.length x8_2:Int) n k4_0_7 k4_1_8 (0:Int) =
  goL (fun (i:Nat) (x:QIIIE) (next:Option Ret) =>
    I138 N x (fun (r16_6:Bool) =>
     bif (!r16_6) then
      k4_1_8 false
     else
      bif (decide ((i:Int) > (0:Int))) then
       bif (inB (IntKind.wrap .i64 ((i:Int) - (1:Int))) (List.length x0_1)) then
        bif (decide (x.1≤(List.getD x0_1 (Int.toNat (IntKind.wrap .i64 ((i:Int) - (1:Int)))) zQIIIE).1)) then
         k4_1_8 false
        else
         next
       else none
      else
       next)) (
    k4_0_7) x8_2 0:=by
 exact range0 (f:=fun n i=>I205_l4 N x0_1 x8_2 (List.length x8_2:Int) n k4_0_7 k4_1_8 i) (l:=x8_2) (fun n i h=>by
  simp only [I205_l4]
  rw [decide_eq_true (show (i:Int) < (List.length x8_2:Int) by omega)]
  simp only [cond_true,inB_nat h,Int.toNat_natCast,getD_nat _ i h]) (fun n=>by
  simp only [I205_l4]
  rw [decide_eq_false (by omega)]
  simp only [cond_false]) hl x8_2 0 n rfl (by omega) hn
theorem I206_l5_r {N:Nat} {x1_2:Int} {x12_4:(List QIIIE)} {k5_0_10:Int→Option Ret} {x5_3:Int} (hl:(List.length x12_4)≤maxLen) {n:Nat} (hn:(List.length x12_4) < n):I206_l5 N x1_2 x12_4 (List.length x12_4:Int) n k5_0_10 x5_3 (0:Int) =
  goL1 (fun (i:Nat) (x:QIIIE) (x5_3:Int) (next:Int→Option Ret) =>
    I208 N x (fun (r19_8:Int) =>
     bif (r19_8 == x1_2) then
      next (IntKind.wrap .i64 (x5_3 + (1:Int)))
     else
      next x5_3)) (fun (x5_3:Int) =>
    k5_0_10 x5_3) x12_4 0 x5_3:=by
 exact range1 (f:=fun n x5_3 i=>I206_l5 N x1_2 x12_4 (List.length x12_4:Int) n k5_0_10 x5_3 i) (l:=x12_4) (fun n i x5_3 h=>by
  simp only [I206_l5]
  rw [decide_eq_true (show (i:Int) < (List.length x12_4:Int) by omega)]
  simp only [cond_true,inB_nat h,Int.toNat_natCast,getD_nat _ i h]) (fun n x5_3=>by
  simp only [I206_l5]
  rw [decide_eq_false (by omega)]
  simp only [cond_false]) hl x12_4 0 n x5_3 rfl (by omega) hn
theorem I207_l5_r {x1_2:Int} {x12_4:(List QIIIE)} {k5_0_9:Int→Option Ret} {x5_3:Int} (hl:(List.length x12_4)≤maxLen) {n:Nat} (hn:(List.length x12_4) < n):I207_l5 x1_2 x12_4 (List.length x12_4:Int) n k5_0_9 x5_3 (0:Int) =
  goL1 (fun (i:Nat) (x:QIIIE) (x5_3:Int) (next:Int→Option Ret) =>
    bif (x1_2 == (1:Int)) then
     next (IntKind.wrap .i64 (x5_3 + x.2.1))
    else
     bif (x1_2 == (2:Int)) then
      next (IntKind.wrap .i64 (x5_3 + x.2.2))
     else
      next x5_3) (fun (x5_3:Int) =>
    k5_0_9 x5_3) x12_4 0 x5_3:=by
 exact range1 (f:=fun n x5_3 i=>I207_l5 x1_2 x12_4 (List.length x12_4:Int) n k5_0_9 x5_3 i) (l:=x12_4) (fun n i x5_3 h=>by
  simp only [I207_l5]
  rw [decide_eq_true (show (i:Int) < (List.length x12_4:Int) by omega)]
  simp only [cond_true,inB_nat h,Int.toNat_natCast,getD_nat _ i h]) (fun n x5_3=>by
  simp only [I207_l5]
  rw [decide_eq_false (by omega)]
  simp only [cond_false]) hl x12_4 0 n x5_3 rfl (by omega) hn
theorem I28_l5_r {N:Nat} {x1_7:QLQIIIIILIELQIILIELQIIELILQIIIELQIIIIEIE} {x2_8:QLQIIIIILIELQIILIELQIIELILQIIIELQIIIIEIE} {x30_10:(List QIIE)} {k5_0_21:QLQIIIIILIELQIILIELQIIELILQIIIELQIIIIEIE→Option Ret} {k5_1_22:QLQIIIIILIELQIILIELQIIELILQIIIELQIIIIEIE→Bool→Option Ret} {x4_9:QLQIIIIILIELQIILIELQIIELILQIIIELQIIIIEIE} (hl:(List.length x30_10)≤maxLen) {n:Nat} (hn:(List.length x30_10) < n):I28_l5 N x1_7 x2_8 x30_10 (List.length x30_10:Int) n k5_0_21 k5_1_22 x4_9 (0:Int) =
  goL1 (fun (i:Nat) (x:QIIE) (x4_9:QLQIIIIILIELQIILIELQIIELILQIIIELQIIIIEIE) (next:QLQIIIIILIELQIILIELQIIELILQIIIELQIIIIEIE→Option Ret) =>
    bif (inB (i:Int) (List.length x1_7.2.2.2.2.1)) then
     I129 N [(List.getD x1_7.2.2.2.2.1 (Int.toNat (i:Int)) zQIIIE)] (fun (r51_14:Int) =>
      I128 N x4_9.1 x.1 x.2 r51_14 (List.getD x1_7.2.2.2.2.1 (Int.toNat (i:Int)) zQIIIE).2.1 (List.getD x1_7.2.2.2.2.1 (Int.toNat (i:Int)) zQIIIE).2.2 (fun (r56_15:(List QIIIIILIE)) (r56_16:Bool) =>
       bif (!r56_16) then
        I70 N x1_7 (fun (r63_17:QLQIIIIILIELQIILIELQIIELILQIIIELQIIIIEIE) =>
         k5_1_22 r63_17 false)
       else
        bif (inB (i:Int) (List.length x1_7.2.2.2.1)) then
         I130 N x4_9.2.1 (List.getD x1_7.2.2.2.1 (Int.toNat (i:Int)) (0:Int)) (fun (r71_18:Int) =>
          bif (inB r71_18 (List.length x4_9.2.1)) then
           bif (decide ((List.length (List.getD x4_9.2.1 (Int.toNat r71_18) zQIILIE).2.2 + List.length [x.1,x.2]) * 1≤4398046511104)) then
            S131 N ((List.getD x4_9.2.1 (Int.toNat r71_18) zQIILIE).2.2 ++ [x.1,x.2]) (fun (z10_19:(List Int)) =>
             S132 N z10_19 (fun (r90_20:(List Int)) =>
              bif (inB r71_18 (List.length x4_9.2.1)) then
               bif (Nat.beq (Int.toNat r71_18) (Int.toNat r71_18)) then
                next (r56_15,((List.set x4_9.2.1 (Int.toNat r71_18) ((List.getD x4_9.2.1 (Int.toNat r71_18) zQIILIE).1,((List.getD x4_9.2.1 (Int.toNat r71_18) zQIILIE).2.1,r90_20))),x4_9.2.2))
               else none
              else none))
           else none
          else none)
        else none))
    else none) (fun (x4_9:QLQIIIIILIELQIILIELQIIELILQIIIELQIIIIEIE) =>
    k5_0_21 x4_9) x30_10 0 x4_9:=by
 exact range1 (f:=fun n x4_9 i=>I28_l5 N x1_7 x2_8 x30_10 (List.length x30_10:Int) n k5_0_21 k5_1_22 x4_9 i) (l:=x30_10) (fun n i x4_9 h=>by
  simp only [I28_l5]
  rw [decide_eq_true (show (i:Int) < (List.length x30_10:Int) by omega)]
  simp only [cond_true,inB_nat h,Int.toNat_natCast,getD_nat _ i h]) (fun n x4_9=>by
  simp only [I28_l5]
  rw [decide_eq_false (by omega)]
  simp only [cond_false]) hl x30_10 0 n x4_9 rfl (by omega) hn
theorem I71_l5_r {N:Nat} {x4_5:QIIIIILIE} {x8_6:(List QIIIIILIE)} {x9_7:Int} {x10_8:Int} {x15_9:(List Int)} {k5_0_14:Option Ret} {k5_1_15:Bool→Option Ret} (hl:(List.length x15_9)≤maxLen) {n:Nat} (hn:(List.length x15_9) < n):I71_l5 N x4_5 x8_6 x9_7 x10_8 x15_9 (List.length x15_9:Int) n k5_0_14 k5_1_15 (0:Int) =
  goL (fun (i:Nat) (x:Int) (next:Option Ret) =>
    I78 N x4_5.2.2.2.2.2 x (fun (r24_13:Int) =>
     bif (decide (r24_13 > (1:Int))) then
      k5_1_15 false
     else
      next)) (
    k5_0_14) x15_9 0:=by
 exact range0 (f:=fun n i=>I71_l5 N x4_5 x8_6 x9_7 x10_8 x15_9 (List.length x15_9:Int) n k5_0_14 k5_1_15 i) (l:=x15_9) (fun n i h=>by
  simp only [I71_l5]
  rw [decide_eq_true (show (i:Int) < (List.length x15_9:Int) by omega)]
  simp only [cond_true,inB_nat h,Int.toNat_natCast,getD_nat _ i h]) (fun n=>by
  simp only [I71_l5]
  rw [decide_eq_false (by omega)]
  simp only [cond_false]) hl x15_9 0 n rfl (by omega) hn
theorem I71_l2_r {N:Nat} {x8_1:(List QIIIIILIE)} {k2_0_18:Option Ret} {k2_1_19:Bool→Option Ret} (hl:(List.length x8_1)≤maxLen) {n:Nat} (hn:(List.length x8_1) < n):I71_l2 N x8_1 (List.length x8_1:Int) n k2_0_18 k2_1_19 (0:Int) =
  goL (fun (i:Nat) (x:QIIIIILIE) (next:Option Ret) =>
    I71_l5 N x x8_1 (List.length x8_1:Int) (i:Int) x.2.2.2.2.2 (List.length x.2.2.2.2.2:Int) N next k2_1_19 (0:Int)) (
    k2_0_18) x8_1 0:=by
 exact range0 (f:=fun n i=>I71_l2 N x8_1 (List.length x8_1:Int) n k2_0_18 k2_1_19 i) (l:=x8_1) (fun n i h=>by
  simp only [I71_l2]
  rw [decide_eq_true (show (i:Int) < (List.length x8_1:Int) by omega)]
  simp only [cond_true,inB_nat h,Int.toNat_natCast,getD_nat _ i h]) (fun n=>by
  simp only [I71_l2]
  rw [decide_eq_false (by omega)]
  simp only [cond_false]) hl x8_1 0 n rfl (by omega) hn
theorem I72_l2_r {N:Nat} {x1_1:QLQIIIIILIELQIILIELQIIELILQIIIELQIIIIEIE} {x7_2:(List QIIE)} {k2_0_8:Option Ret} {k2_1_9:Bool→Option Ret} (hl:(List.length x7_2)≤maxLen) {n:Nat} (hn:(List.length x7_2) < n):I72_l2 N x1_1 x7_2 (List.length x7_2:Int) n k2_0_8 k2_1_9 (0:Int) =
  goL (fun (i:Nat) (x:QIIE) (next:Option Ret) =>
    bif (decide ((i:Int) ≥ (List.length x1_1.2.2.2.1:Int))) then
     k2_1_9 false
    else
     bif (inB (i:Int) (List.length x1_1.2.2.2.1)) then
      I130 N x1_1.2.1 (List.getD x1_1.2.2.2.1 (Int.toNat (i:Int)) (0:Int)) (fun (r26_6:Int) =>
       bif (decide (r26_6 < (0:Int))) then
        k2_1_9 false
       else
        bif (inB r26_6 (List.length x1_1.2.1)) then
         I83 N x1_1.1 (List.getD x1_1.2.1 (Int.toNat r26_6) zQIILIE) x (fun (r38_7:Bool) =>
          bif (!r38_7) then
           k2_1_9 false
          else
           next)
        else none)
     else none) (
    k2_0_8) x7_2 0:=by
 exact range0 (f:=fun n i=>I72_l2 N x1_1 x7_2 (List.length x7_2:Int) n k2_0_8 k2_1_9 i) (l:=x7_2) (fun n i h=>by
  simp only [I72_l2]
  rw [decide_eq_true (show (i:Int) < (List.length x7_2:Int) by omega)]
  simp only [cond_true,inB_nat h,Int.toNat_natCast,getD_nat _ i h]) (fun n=>by
  simp only [I72_l2]
  rw [decide_eq_false (by omega)]
  simp only [cond_false]) hl x7_2 0 n rfl (by omega) hn
theorem I73_l3_r {x1_2:QLQIIIIILIELQIILIELQIIELILQIIIELQIIIIEIE} {x17_4:(List QIIIIE)} {k3_0_9:Int→Option Ret} {x3_3:Int} (hl:(List.length x17_4)≤maxLen) {n:Nat} (hn:(List.length x17_4) < n):I73_l3 x1_2 x17_4 (List.length x17_4:Int) n k3_0_9 x3_3 (0:Int) =
  goL1 (fun (i:Nat) (x:QIIIIE) (x3_3:Int) (next:Int→Option Ret) =>
    bif (x.2.1 == (4:Int)) then
     next (IntKind.wrap .i64 (x3_3 - (1:Int)))
    else
     next x3_3) (fun (x3_3:Int) =>
    k3_0_9 x3_3) x17_4 0 x3_3:=by
 exact range1 (f:=fun n x3_3 i=>I73_l3 x1_2 x17_4 (List.length x17_4:Int) n k3_0_9 x3_3 i) (l:=x17_4) (fun n i x3_3 h=>by
  simp only [I73_l3]
  rw [decide_eq_true (show (i:Int) < (List.length x17_4:Int) by omega)]
  simp only [cond_true,inB_nat h,Int.toNat_natCast,getD_nat _ i h]) (fun n x3_3=>by
  simp only [I73_l3]
  rw [decide_eq_false (by omega)]
  simp only [cond_false]) hl x17_4 0 n x3_3 rfl (by omega) hn
theorem I74_l3_r {x1_1:QLQIIIIILIELQIILIELQIIELILQIIIELQIIIIEIE} {x9_5:(List QIIIIILIE)} {k3_0_9:Int→Int→Int→Option Ret} {x3_2:Int} {x4_3:Int} {x5_4:Int} (hl:(List.length x9_5)≤maxLen) {n:Nat} (hn:(List.length x9_5) < n):I74_l3 x1_1 x9_5 (List.length x9_5:Int) n k3_0_9 x3_2 x4_3 x5_4 (0:Int) =
  goL3 (fun (i:Nat) (x:QIIIIILIE) (x3_2:Int) (x4_3:Int) (x5_4:Int) (next:Int→Int→Int→Option Ret) =>
    next (IntKind.wrap .i64 (x3_2 + x.2.2.1)) (IntKind.wrap .i64 (x4_3 + x.2.2.2.2.1)) (IntKind.wrap .i64 (x5_4 + (List.length x.2.2.2.2.2:Int)))) (fun (x3_2:Int) (x4_3:Int) (x5_4:Int) =>
    k3_0_9 x3_2 x4_3 x5_4) x9_5 0 x3_2 x4_3 x5_4:=by
 exact range3 (f:=fun n x3_2 x4_3 x5_4 i=>I74_l3 x1_1 x9_5 (List.length x9_5:Int) n k3_0_9 x3_2 x4_3 x5_4 i) (l:=x9_5) (fun n i x3_2 x4_3 x5_4 h=>by
  simp only [I74_l3]
  rw [decide_eq_true (show (i:Int) < (List.length x9_5:Int) by omega)]
  simp only [cond_true,inB_nat h,Int.toNat_natCast,getD_nat _ i h]) (fun n x3_2 x4_3 x5_4=>by
  simp only [I74_l3]
  rw [decide_eq_false (by omega)]
  simp only [cond_false]) hl x9_5 0 n x3_2 x4_3 x5_4 rfl (by omega) hn
theorem S76_l4_r {x0_1:(List QIIIIE)} {x1_2:(List QIIIIE)} {k4_0_6:Option Ret} {k4_1_7:Bool→Option Ret} (hl:(List.length x0_1)≤maxLen) {n:Nat} (hn:(List.length x0_1) < n):S76_l4 x0_1 x1_2 (List.length x0_1:Int) n k4_0_6 k4_1_7 (0:Int) =
  goL (fun (i:Nat) (x:QIIIIE) (next:Option Ret) =>
    bif (inB (i:Int) (List.length x1_2)) then
     bif (!((decide ((x.1:Int)=(List.getD x1_2 (Int.toNat (i:Int)) zQIIIIE).1)) && ((decide ((x.2.1:Int)=(List.getD x1_2 (Int.toNat (i:Int)) zQIIIIE).2.1)) && ((decide ((x.2.2.1:Int)=(List.getD x1_2 (Int.toNat (i:Int)) zQIIIIE).2.2.1)) && (decide ((x.2.2.2:Int)=(List.getD x1_2 (Int.toNat (i:Int)) zQIIIIE).2.2.2)))))) then
      k4_1_7 false
     else
      next
    else none) (
    k4_0_6) x0_1 0:=by
 exact range0 (f:=fun n i=>S76_l4 x0_1 x1_2 (List.length x0_1:Int) n k4_0_6 k4_1_7 i) (l:=x0_1) (fun n i h=>by
  simp only [S76_l4]
  rw [decide_eq_true (show (i:Int) < (List.length x0_1:Int) by omega)]
  simp only [cond_true,inB_nat h,Int.toNat_natCast,getD_nat _ i h]) (fun n=>by
  simp only [S76_l4]
  rw [decide_eq_false (by omega)]
  simp only [cond_false]) hl x0_1 0 n rfl (by omega) hn
theorem L3_l18_r {N:Nat} {x4_20:(List QIIIIE)} {x5_21:QLQIIIIILIELQIILIELQIIELILQIIIELQIIIIEIE} {x6_22:Int} {x8_23:Int} {k18_0_27:Option Ret} {k18_1_28:Bool→Option Ret} (hl:(List.length x5_21.1)≤maxLen) {n:Nat} (hn:(List.length x5_21.1) < n):L3_l18 N x4_20 x5_21 x6_22 x8_23 n k18_0_27 k18_1_28 (0:Int) =
  goL (fun (i:Nat) (x : _) (next:Option Ret) =>
    bif (inB x8_23 (List.length x5_21.1)) then
     I19 N x5_21.1 (List.getD x5_21.1 (Int.toNat x8_23) zQIIIIILIE).1 x.1 (fun (r105_26:Bool) =>
      bif r105_26 then
       bif (inB x8_23 (List.length x5_21.1)) then
        bif ((List.getD x5_21.1 (Int.toNat x8_23) zQIIIIILIE).2.1 == x.2.1) then
         k18_1_28 false
        else
         next
       else none
      else
       next)
    else none) (
    k18_0_27) x5_21.1 0:=by
 exact range0 (f:=fun n i=>L3_l18 N x4_20 x5_21 x6_22 x8_23 n k18_0_27 k18_1_28 i) (l:=x5_21.1) (fun n i h=>by
  simp only [L3_l18]
  rw [decide_eq_true (show (i:Int) < (List.length x5_21.1:Int) by omega)]
  simp only [cond_true,inB_nat h,Int.toNat_natCast,getD_nat _ i h]) (fun n=>by
  simp only [L3_l18]
  rw [decide_eq_false (by omega)]
  simp only [cond_false]) hl x5_21.1 0 n rfl (by omega) hn
theorem L3_l15_r {N:Nat} {x4_15:(List QIIIIE)} {x5_16:QLQIIIIILIELQIILIELQIIELILQIIIELQIIIIEIE} {x6_17:Int} {k15_0_31:Option Ret} {k15_1_32:Bool→Option Ret} (hl:(List.length x5_16.1)≤maxLen) {n:Nat} (hn:(List.length x5_16.1) < n):L3_l15 N x4_15 x5_16 x6_17 n k15_0_31 k15_1_32 (0:Int) =
  goL (fun (i:Nat) (x : _) (next:Option Ret) =>
    L3_l18 N x4_15 x5_16 x6_17 (i:Int) N next k15_1_32 (0:Int)) (
    k15_0_31) x5_16.1 0:=by
 exact range0 (f:=fun n i=>L3_l15 N x4_15 x5_16 x6_17 n k15_0_31 k15_1_32 i) (l:=x5_16.1) (fun n i h=>by
  simp only [L3_l15]
  rw [decide_eq_true (show (i:Int) < (List.length x5_16.1:Int) by omega)]
  simp only [cond_true,inB_nat h,Int.toNat_natCast,getD_nat _ i h]) (fun n=>by
  simp only [L3_l15]
  rw [decide_eq_false (by omega)]
  simp only [cond_false]) hl x5_16.1 0 n rfl (by omega) hn
theorem L3_l6_r {N:Nat} {x4_4:(List QIIIIE)} {k6_0_35:Option Ret} {k6_1_36:Bool→Option Ret} {x5_5:QLQIIIIILIELQIILIELQIIELILQIIIELQIIIIEIE} (hl:(List.length x4_4)≤maxLen) {n:Nat} (hn:(List.length x4_4) < n):L3_l6 N x4_4 n k6_0_35 k6_1_36 x5_5 (0:Int) =
  goL1 (fun (i:Nat) (x:QIIIIE) (x5_5:QLQIIIIILIELQIILIELQIIELILQIIIELQIIIIEIE) (next:QLQIIIIILIELQIILIELQIIELILQIIIELQIIIIEIE→Option Ret) =>
    I13 N x5_5 x (fun (r31_8:QLQIIIIILIELQIILIELQIIELILQIIIELQIIIIEIE) (r31_9:Bool) =>
     I14 N r31_8 (fun (r35_10:ByteArray) =>
      bif (!(ByteArray.toList r35_10 == ByteArray.toList s_e)) then
       k6_1_36 false
      else
       I15 N r31_8.2.2.2.2.2.1 x5_5.2.2.2.2.2.1 (fun (r42_11:Bool) =>
        bif (!r42_11) then
         k6_1_36 false
        else
         bif (decide ((List.length r31_8.2.2.2.2.2.1:Int) > (IntKind.wrap .i64 ((List.length x5_5.2.2.2.2.2.1:Int) + (1:Int))))) then
          k6_1_36 false
         else
          I16 N r31_8 (fun (r56_12:Bool) =>
           bif r56_12 then
            I17 N r31_8.1 r31_8.2.2.1 (fun (r62_13:Bool) =>
             bif (!r62_13) then
              k6_1_36 false
             else
              I18 N r31_8.1 r31_8.2.1 r31_8.2.2.1 r31_8.2.2.2.1 (fun (r73_14:Bool) =>
               bif (!r73_14) then
                k6_1_36 false
               else
                L3_l15 N x4_4 r31_8 (i:Int) N (next r31_8) k6_1_36 (0:Int)))
           else
            L3_l15 N x4_4 r31_8 (i:Int) N (next r31_8) k6_1_36 (0:Int)))))) (fun (x5_5:QLQIIIIILIELQIILIELQIIELILQIIIELQIIIIEIE) =>
    k6_0_35) x4_4 0 x5_5:=by
 exact range1 (f:=fun n x5_5 i=>L3_l6 N x4_4 n k6_0_35 k6_1_36 x5_5 i) (l:=x4_4) (fun n i x5_5 h=>by
  simp only [L3_l6]
  rw [decide_eq_true (show (i:Int) < (List.length x4_4:Int) by omega)]
  simp only [cond_true,inB_nat h,Int.toNat_natCast,getD_nat _ i h]) (fun n x5_5=>by
  simp only [L3_l6]
  rw [decide_eq_false (by omega)]
  simp only [cond_false]) hl x4_4 0 n x5_5 rfl (by omega) hn
end Go.Pv.R
