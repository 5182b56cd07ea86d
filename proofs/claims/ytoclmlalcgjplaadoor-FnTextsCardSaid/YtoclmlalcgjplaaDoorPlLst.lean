/- Their loops over lists, without rounds. -/
import Derived.Test.YtoclmlalcgjplaaDoorPlRes
namespace Go.Pv.R
set_option linter.unusedVariables false
set_option linter.unusedSimpArgs false
theorem S45_l2_r {N:Nat} {x1_1:QILLIE} {k2_0_6:Option Ret} {k2_1_7:Bool→Option Ret} (hl:(List.length x1_1.2)≤maxLen) {n:Nat} (hn:(List.length x1_1.2) < n):S45_l2 N x1_1 n k2_0_6 k2_1_7 (0:Int) =
  goL (fun (i:Nat) (x : _) (next:Option Ret) =>
    bif ((List.length x:Int) != (2:Int)) then
     k2_1_7 false
    else
     bif (inB (0:Int) (List.length x)) then
      S66 N (List.getD x (Int.toNat (0:Int)) (0:Int)) (0:Int) (IntKind.wrap .i64 (x1_1.1 - (1:Int))) (fun (r28_4:Bool) =>
       bif (!r28_4) then
        k2_1_7 false
       else
        bif (inB (1:Int) (List.length x)) then
         S66 N (List.getD x (Int.toNat (1:Int)) (0:Int)) (0:Int) (IntKind.wrap .i64 (x1_1.1 - (1:Int))) (fun (r38_5:Bool) =>
          bif (!r38_5) then
           k2_1_7 false
          else
           bif (decide ((i:Int) > (0:Int))) then
            bif (inB (IntKind.wrap .i64 ((i:Int) - (1:Int))) (List.length x1_1.2)) then
             bif (inB (0:Int) (List.length (List.getD x1_1.2 (Int.toNat (IntKind.wrap .i64 ((i:Int) - (1:Int)))) ([]:(List Int))))) then
              bif (inB (0:Int) (List.length x)) then
               bif (decide ((List.getD (List.getD x1_1.2 (Int.toNat (IntKind.wrap .i64 ((i:Int) - (1:Int)))) ([]:(List Int))) (Int.toNat (0:Int)) (0:Int)) > (List.getD x (Int.toNat (0:Int)) (0:Int)))) then
                k2_1_7 false
               else
                bif (inB (0:Int) (List.length (List.getD x1_1.2 (Int.toNat (IntKind.wrap .i64 ((i:Int) - (1:Int)))) ([]:(List Int))))) then
                 bif (inB (0:Int) (List.length x)) then
                  bif ((List.getD (List.getD x1_1.2 (Int.toNat (IntKind.wrap .i64 ((i:Int) - (1:Int)))) ([]:(List Int))) (Int.toNat (0:Int)) (0:Int)) == (List.getD x (Int.toNat (0:Int)) (0:Int))) then
                   bif (inB (1:Int) (List.length (List.getD x1_1.2 (Int.toNat (IntKind.wrap .i64 ((i:Int) - (1:Int)))) ([]:(List Int))))) then
                    bif (inB (1:Int) (List.length x)) then
                     bif (decide ((List.getD (List.getD x1_1.2 (Int.toNat (IntKind.wrap .i64 ((i:Int) - (1:Int)))) ([]:(List Int))) (Int.toNat (1:Int)) (0:Int)) ≥ (List.getD x (Int.toNat (1:Int)) (0:Int)))) then
                      k2_1_7 false
                     else
                      next
                    else none
                   else none
                  else
                   next
                 else none
                else none
              else none
             else none
            else none
           else
            next)
        else none)
     else none) (
    k2_0_6) x1_1.2 0:=by
 exact range0 (f:=fun n i=>S45_l2 N x1_1 n k2_0_6 k2_1_7 i) (l:=x1_1.2) (fun n i h=>by
  simp only [S45_l2]
  rw [decide_eq_true (show (i:Int) < (List.length x1_1.2:Int) by omega)]
  simp only [cond_true,inB_nat h,Int.toNat_natCast,getD_nat _ i h]) (fun n=>by
  simp only [S45_l2]
  rw [decide_eq_false (by omega)]
  simp only [cond_false]) hl x1_1.2 0 n rfl (by omega) hn
theorem S27_l2_r {N:Nat} {x0_1:(List Int)} {x1_2:(List Int)} {x9_3:(List Int)} {k2_0_8:Option Ret} {k2_1_9:Int→Option Ret} (hl:(List.length x9_3)≤maxLen) {n:Nat} (hn:(List.length x9_3) < n):S27_l2 N x0_1 x1_2 x9_3 (List.length x9_3:Int) n k2_0_8 k2_1_9 (0:Int) =
  goL (fun (i:Nat) (x:Int) (next:Option Ret) =>
    bif (decide ((i:Int) ≥ (List.length x1_2:Int))) then
     k2_1_9 (1:Int)
    else
     bif (inB (i:Int) (List.length x1_2)) then
      C44 N x (List.getD x1_2 (Int.toNat (i:Int)) (0:Int)) (fun (r26_7:Int) =>
       bif (r26_7 != (0:Int)) then
        k2_1_9 r26_7
       else
        next)
     else none) (
    k2_0_8) x9_3 0:=by
 exact range0 (f:=fun n i=>S27_l2 N x0_1 x1_2 x9_3 (List.length x9_3:Int) n k2_0_8 k2_1_9 i) (l:=x9_3) (fun n i h=>by
  simp only [S27_l2]
  rw [decide_eq_true (show (i:Int) < (List.length x9_3:Int) by omega)]
  simp only [cond_true,inB_nat h,Int.toNat_natCast,getD_nat _ i h]) (fun n=>by
  simp only [S27_l2]
  rw [decide_eq_false (by omega)]
  simp only [cond_false]) hl x9_3 0 n rfl (by omega) hn
theorem I8_l4_r {N:Nat} {x1_2:QILLIE} {x10_3:(List (List Int))} {k4_0_10:Option Ret} {k4_1_11:Bool→Option Ret} (hl:(List.length x10_3)≤maxLen) {n:Nat} (hn:(List.length x10_3) < n):I8_l4 N x1_2 x10_3 (List.length x10_3:Int) n k4_0_10 k4_1_11 (0:Int) =
  goL (fun (i:Nat) (x:(List Int)) (next:Option Ret) =>
    bif ((List.length x:Int) != (2:Int)) then
     k4_1_11 false
    else
     bif (inB (0:Int) (List.length x)) then
      I26 N x1_2 (List.getD x (Int.toNat (0:Int)) (0:Int)) (fun (r25_7:Bool) =>
       bif (!r25_7) then
        k4_1_11 false
       else
        bif (inB (1:Int) (List.length x)) then
         I26 N x1_2 (List.getD x (Int.toNat (1:Int)) (0:Int)) (fun (r33_8:Bool) =>
          bif (!r33_8) then
           k4_1_11 false
          else
           bif (decide ((i:Int) > (0:Int))) then
            bif (inB (IntKind.wrap .i64 ((i:Int) - (1:Int))) (List.length x1_2.2)) then
             S27 N (List.getD x1_2.2 (Int.toNat (IntKind.wrap .i64 ((i:Int) - (1:Int)))) ([]:(List Int))) x (fun (r47_9:Int) =>
              bif (decide (r47_9 ≥ (0:Int))) then
               k4_1_11 false
              else
               next)
            else none
           else
            next)
        else none)
     else none) (
    k4_0_10) x10_3 0:=by
 exact range0 (f:=fun n i=>I8_l4 N x1_2 x10_3 (List.length x10_3:Int) n k4_0_10 k4_1_11 i) (l:=x10_3) (fun n i h=>by
  simp only [I8_l4]
  rw [decide_eq_true (show (i:Int) < (List.length x10_3:Int) by omega)]
  simp only [cond_true,inB_nat h,Int.toNat_natCast,getD_nat _ i h]) (fun n=>by
  simp only [I8_l4]
  rw [decide_eq_false (by omega)]
  simp only [cond_false]) hl x10_3 0 n rfl (by omega) hn
theorem I7_l5_r {N:Nat} {x13_4:(List (List Int))} {k5_0_10:ByteArray→Option Ret} {x3_3:ByteArray} (hl:(List.length x13_4)≤maxLen) {n:Nat} (hn:(List.length x13_4) < n):I7_l5 N x13_4 (List.length x13_4:Int) n k5_0_10 x3_3 (0:Int) =
  goL1 (fun (i:Nat) (x:(List Int)) (x3_3:ByteArray) (next:ByteArray→Option Ret) =>
    bif (inB (0:Int) (List.length x)) then
     bif (inB (1:Int) (List.length x)) then
      I24 N (List.getD x (Int.toNat (0:Int)) (0:Int)) (fun (r23_8:ByteArray) =>
       bif (decide (ByteArray.size s_h20 + ByteArray.size r23_8≤9223372036854775807)) then
        bif (decide (ByteArray.size (s_h20 ++ r23_8) + ByteArray.size s_h3e≤9223372036854775807)) then
         I24 N (List.getD x (Int.toNat (1:Int)) (0:Int)) (fun (r29_9:ByteArray) =>
          bif (decide (ByteArray.size ((s_h20 ++ r23_8) ++ s_h3e) + ByteArray.size r29_9≤9223372036854775807)) then
           bif (decide (ByteArray.size x3_3 + ByteArray.size (((s_h20 ++ r23_8) ++ s_h3e) ++ r29_9)≤9223372036854775807)) then
            next (x3_3 ++ (((s_h20 ++ r23_8) ++ s_h3e) ++ r29_9))
           else none
          else none)
        else none
       else none)
     else none
    else none) (fun (x3_3:ByteArray) =>
    k5_0_10 x3_3) x13_4 0 x3_3:=by
 exact range1 (f:=fun n x3_3 i=>I7_l5 N x13_4 (List.length x13_4:Int) n k5_0_10 x3_3 i) (l:=x13_4) (fun n i x3_3 h=>by
  simp only [I7_l5]
  rw [decide_eq_true (show (i:Int) < (List.length x13_4:Int) by omega)]
  simp only [cond_true,inB_nat h,Int.toNat_natCast,getD_nat _ i h]) (fun n x3_3=>by
  simp only [I7_l5]
  rw [decide_eq_false (by omega)]
  simp only [cond_false]) hl x13_4 0 n x3_3 rfl (by omega) hn
theorem S29_l4_r {x0_1:(List Int)} {x1_2:(List Int)} {k4_0_6:Option Ret} {k4_1_7:Bool→Option Ret} (hl:(List.length x0_1)≤maxLen) {n:Nat} (hn:(List.length x0_1) < n):S29_l4 x0_1 x1_2 (List.length x0_1:Int) n k4_0_6 k4_1_7 (0:Int) =
  goL (fun (i:Nat) (x:Int) (next:Option Ret) =>
    bif (inB (i:Int) (List.length x1_2)) then
     bif (x != (List.getD x1_2 (Int.toNat (i:Int)) (0:Int))) then
      k4_1_7 false
     else
      next
    else none) (
    k4_0_6) x0_1 0:=by
 exact range0 (f:=fun n i=>S29_l4 x0_1 x1_2 (List.length x0_1:Int) n k4_0_6 k4_1_7 i) (l:=x0_1) (fun n i h=>by
  simp only [S29_l4]
  rw [decide_eq_true (show (i:Int) < (List.length x0_1:Int) by omega)]
  simp only [cond_true,inB_nat h,Int.toNat_natCast,getD_nat _ i h]) (fun n=>by
  simp only [S29_l4]
  rw [decide_eq_false (by omega)]
  simp only [cond_false]) hl x0_1 0 n rfl (by omega) hn
theorem S28_l4_r {N:Nat} {x1_1:(List (List Int))} {x15_2:(List (List Int))} {k4_0_7:Option Ret} {k4_1_8:Bool→Option Ret} (hl:(List.length x15_2)≤maxLen) {n:Nat} (hn:(List.length x15_2) < n):S28_l4 N x1_1 x15_2 (List.length x15_2:Int) n k4_0_7 k4_1_8 (0:Int) =
  goL (fun (i:Nat) (x:(List Int)) (next:Option Ret) =>
    bif (inB (i:Int) (List.length x1_1)) then
     S29 N x (List.getD x1_1 (Int.toNat (i:Int)) ([]:(List Int))) (fun (r29_6:Bool) =>
      bif (!r29_6) then
       k4_1_8 false
      else
       next)
    else none) (
    k4_0_7) x15_2 0:=by
 exact range0 (f:=fun n i=>S28_l4 N x1_1 x15_2 (List.length x15_2:Int) n k4_0_7 k4_1_8 i) (l:=x15_2) (fun n i h=>by
  simp only [S28_l4]
  rw [decide_eq_true (show (i:Int) < (List.length x15_2:Int) by omega)]
  simp only [cond_true,inB_nat h,Int.toNat_natCast,getD_nat _ i h]) (fun n=>by
  simp only [S28_l4]
  rw [decide_eq_false (by omega)]
  simp only [cond_false]) hl x15_2 0 n rfl (by omega) hn
theorem I9_l5_r {x2_3:QILLIE} {x25_5:(List (List Int))} {k5_0_10:(List (List Int))→Option Ret} {x5_4:(List (List Int))} (hl:(List.length x25_5)≤maxLen) {n:Nat} (hn:(List.length x25_5) < n):I9_l5 x2_3 x25_5 (List.length x25_5:Int) n k5_0_10 x5_4 (0:Int) =
  goL1 (fun (i:Nat) (x:(List Int)) (x5_4:(List (List Int))) (next:(List (List Int))→Option Ret) =>
    bif (inB (0:Int) (List.length x)) then
     bif (decide ((List.getD x (Int.toNat (0:Int)) (0:Int)) < x2_3.1)) then
      bif (inB (1:Int) (List.length x)) then
       bif (decide ((List.getD x (Int.toNat (1:Int)) (0:Int)) < x2_3.1)) then
        bif (decide ((List.length x5_4 + List.length [x]) * 1≤4398046511104)) then
         next (x5_4 ++ [x])
        else none
       else
        next x5_4
      else none
     else
      next x5_4
    else none) (fun (x5_4:(List (List Int))) =>
    k5_0_10 x5_4) x25_5 0 x5_4:=by
 exact range1 (f:=fun n x5_4 i=>I9_l5 x2_3 x25_5 (List.length x25_5:Int) n k5_0_10 x5_4 i) (l:=x25_5) (fun n i x5_4 h=>by
  simp only [I9_l5]
  rw [decide_eq_true (show (i:Int) < (List.length x25_5:Int) by omega)]
  simp only [cond_true,inB_nat h,Int.toNat_natCast,getD_nat _ i h]) (fun n x5_4=>by
  simp only [I9_l5]
  rw [decide_eq_false (by omega)]
  simp only [cond_false]) hl x25_5 0 n x5_4 rfl (by omega) hn
theorem S31_l5_r {N:Nat} {x1_3:QILLIE} {k5_0_9:ByteArray→Option Ret} {x3_4:ByteArray} (hl:(List.length x1_3.2)≤maxLen) {n:Nat} (hn:(List.length x1_3.2) < n):S31_l5 N x1_3 n k5_0_9 x3_4 (0:Int) =
  goL1 (fun (i:Nat) (x : _) (x3_4:ByteArray) (next:ByteArray→Option Ret) =>
    bif (decide (ByteArray.size x3_4 + ByteArray.size s_h20≤9223372036854775807)) then
     bif (inB (0:Int) (List.length x)) then
      bif (inB (1:Int) (List.length x)) then
       S46 N (List.getD x (Int.toNat (0:Int)) (0:Int)) (fun (r27_7:ByteArray) =>
        bif (decide (ByteArray.size (x3_4 ++ s_h20) + ByteArray.size r27_7≤9223372036854775807)) then
         bif (decide (ByteArray.size ((x3_4 ++ s_h20) ++ r27_7) + ByteArray.size s_h3e≤9223372036854775807)) then
          S46 N (List.getD x (Int.toNat (1:Int)) (0:Int)) (fun (r37_8:ByteArray) =>
           bif (decide (ByteArray.size (((x3_4 ++ s_h20) ++ r27_7) ++ s_h3e) + ByteArray.size r37_8≤9223372036854775807)) then
            next ((((x3_4 ++ s_h20) ++ r27_7) ++ s_h3e) ++ r37_8)
           else none)
         else none
        else none)
      else none
     else none
    else none) (fun (x3_4:ByteArray) =>
    k5_0_9 x3_4) x1_3.2 0 x3_4:=by
 exact range1 (f:=fun n x3_4 i=>S31_l5 N x1_3 n k5_0_9 x3_4 i) (l:=x1_3.2) (fun n i x3_4 h=>by
  simp only [S31_l5]
  rw [decide_eq_true (show (i:Int) < (List.length x1_3.2:Int) by omega)]
  simp only [cond_true,inB_nat h,Int.toNat_natCast,getD_nat _ i h]) (fun n x3_4=>by
  simp only [S31_l5]
  rw [decide_eq_false (by omega)]
  simp only [cond_false]) hl x1_3.2 0 n x3_4 rfl (by omega) hn
theorem I36_l5_r {N:Nat} {x15_3:(List Int)} {k5_0_12:(List Int)→Option Ret} {k5_1_13:Int→Bool→Option Ret} {x4_2:(List Int)} (hl:(List.length x15_3)≤maxLen) {n:Nat} (hn:(List.length x15_3) < n):I36_l5 N x15_3 (List.length x15_3:Int) n k5_0_12 k5_1_13 x4_2 (0:Int) =
  goL1 (fun (i:Nat) (x:Int) (x4_2:(List Int)) (next:(List Int)→Option Ret) =>
    I25 N x (0:Int) (5:Int) (fun (r25_7:Bool) =>
     bif r25_7 then
      I52 N x (fun (r28_8:Int) =>
       bif (decide ((List.length x4_2 + List.length [r28_8]) * 1≤4398046511104)) then
        next (x4_2 ++ [r28_8])
       else none)
     else
      bif (x == (-1:Int)) then
       bif (decide ((List.length x4_2:Int) ≥ (1:Int))) then
        bif (inB (IntKind.wrap .i64 ((List.length x4_2:Int) - (1:Int))) (List.length x4_2)) then
         bif (inB (IntKind.wrap .i64 ((List.length x4_2:Int) - (1:Int))) (List.length x4_2)) then
          next (List.set x4_2 (Int.toNat (IntKind.wrap .i64 ((List.length x4_2:Int) - (1:Int)))) (xorV .u64 (List.getD x4_2 (Int.toNat (IntKind.wrap .i64 ((List.length x4_2:Int) - (1:Int)))) (0:Int))))
         else none
        else none
       else
        I25 N x (-4:Int) (-2:Int) (fun (r50_9:Bool) =>
         bif r50_9 then
          bif (decide ((List.length x4_2:Int) ≥ (2:Int))) then
           bif (inB (IntKind.wrap .i64 ((List.length x4_2:Int) - (2:Int))) (List.length x4_2)) then
            bif (inB (IntKind.wrap .i64 ((List.length x4_2:Int) - (1:Int))) (List.length x4_2)) then
             bif (decide ((0:Int)≤(0:Int)) && decide ((0:Int)≤(IntKind.wrap .i64 ((List.length x4_2:Int) - (1:Int)))) && decide ((IntKind.wrap .i64 ((List.length x4_2:Int) - (1:Int)))≤(List.length x4_2:Int))) then
              bif (x == (-2:Int)) then
               bif (inB (IntKind.wrap .i64 ((List.length x4_2:Int) - (2:Int))) (List.length (List.take (Int.toNat (IntKind.wrap .i64 ((List.length x4_2:Int) - (1:Int)))) x4_2))) then
                next (List.set (List.take (Int.toNat (IntKind.wrap .i64 ((List.length x4_2:Int) - (1:Int)))) x4_2) (Int.toNat (IntKind.wrap .i64 ((List.length x4_2:Int) - (2:Int)))) (IntKind.wrap .u64 (BitVec.toNat (BitVec.ofInt (IntKind.bits .u64) (List.getD x4_2 (Int.toNat (IntKind.wrap .i64 ((List.length x4_2:Int) - (2:Int)))) (0:Int)) &&& BitVec.ofInt (IntKind.bits .u64) (List.getD x4_2 (Int.toNat (IntKind.wrap .i64 ((List.length x4_2:Int) - (1:Int)))) (0:Int))))))
               else none
              else
               bif (x == (-3:Int)) then
                bif (inB (IntKind.wrap .i64 ((List.length x4_2:Int) - (2:Int))) (List.length (List.take (Int.toNat (IntKind.wrap .i64 ((List.length x4_2:Int) - (1:Int)))) x4_2))) then
                 next (List.set (List.take (Int.toNat (IntKind.wrap .i64 ((List.length x4_2:Int) - (1:Int)))) x4_2) (Int.toNat (IntKind.wrap .i64 ((List.length x4_2:Int) - (2:Int)))) (IntKind.wrap .u64 (BitVec.toNat (BitVec.ofInt (IntKind.bits .u64) (List.getD x4_2 (Int.toNat (IntKind.wrap .i64 ((List.length x4_2:Int) - (2:Int)))) (0:Int)) ||| BitVec.ofInt (IntKind.bits .u64) (List.getD x4_2 (Int.toNat (IntKind.wrap .i64 ((List.length x4_2:Int) - (1:Int)))) (0:Int))))))
                else none
               else
                bif (inB (IntKind.wrap .i64 ((List.length x4_2:Int) - (2:Int))) (List.length (List.take (Int.toNat (IntKind.wrap .i64 ((List.length x4_2:Int) - (1:Int)))) x4_2))) then
                 next (List.set (List.take (Int.toNat (IntKind.wrap .i64 ((List.length x4_2:Int) - (1:Int)))) x4_2) (Int.toNat (IntKind.wrap .i64 ((List.length x4_2:Int) - (2:Int)))) (IntKind.wrap .u64 (BitVec.toNat (BitVec.ofInt (IntKind.bits .u64) (xorV .u64 (List.getD x4_2 (Int.toNat (IntKind.wrap .i64 ((List.length x4_2:Int) - (2:Int)))) (0:Int))) ||| BitVec.ofInt (IntKind.bits .u64) (List.getD x4_2 (Int.toNat (IntKind.wrap .i64 ((List.length x4_2:Int) - (1:Int)))) (0:Int))))))
                else none
             else none
            else none
           else none
          else
           k5_1_13 (0:Int) false
         else
          k5_1_13 (0:Int) false)
      else
       I25 N x (-4:Int) (-2:Int) (fun (r50_10:Bool) =>
        bif r50_10 then
         bif (decide ((List.length x4_2:Int) ≥ (2:Int))) then
          bif (inB (IntKind.wrap .i64 ((List.length x4_2:Int) - (2:Int))) (List.length x4_2)) then
           bif (inB (IntKind.wrap .i64 ((List.length x4_2:Int) - (1:Int))) (List.length x4_2)) then
            bif (decide ((0:Int)≤(0:Int)) && decide ((0:Int)≤(IntKind.wrap .i64 ((List.length x4_2:Int) - (1:Int)))) && decide ((IntKind.wrap .i64 ((List.length x4_2:Int) - (1:Int)))≤(List.length x4_2:Int))) then
             bif (x == (-2:Int)) then
              bif (inB (IntKind.wrap .i64 ((List.length x4_2:Int) - (2:Int))) (List.length (List.take (Int.toNat (IntKind.wrap .i64 ((List.length x4_2:Int) - (1:Int)))) x4_2))) then
               next (List.set (List.take (Int.toNat (IntKind.wrap .i64 ((List.length x4_2:Int) - (1:Int)))) x4_2) (Int.toNat (IntKind.wrap .i64 ((List.length x4_2:Int) - (2:Int)))) (IntKind.wrap .u64 (BitVec.toNat (BitVec.ofInt (IntKind.bits .u64) (List.getD x4_2 (Int.toNat (IntKind.wrap .i64 ((List.length x4_2:Int) - (2:Int)))) (0:Int)) &&& BitVec.ofInt (IntKind.bits .u64) (List.getD x4_2 (Int.toNat (IntKind.wrap .i64 ((List.length x4_2:Int) - (1:Int)))) (0:Int))))))
              else none
             else
              bif (x == (-3:Int)) then
               bif (inB (IntKind.wrap .i64 ((List.length x4_2:Int) - (2:Int))) (List.length (List.take (Int.toNat (IntKind.wrap .i64 ((List.length x4_2:Int) - (1:Int)))) x4_2))) then
                next (List.set (List.take (Int.toNat (IntKind.wrap .i64 ((List.length x4_2:Int) - (1:Int)))) x4_2) (Int.toNat (IntKind.wrap .i64 ((List.length x4_2:Int) - (2:Int)))) (IntKind.wrap .u64 (BitVec.toNat (BitVec.ofInt (IntKind.bits .u64) (List.getD x4_2 (Int.toNat (IntKind.wrap .i64 ((List.length x4_2:Int) - (2:Int)))) (0:Int)) ||| BitVec.ofInt (IntKind.bits .u64) (List.getD x4_2 (Int.toNat (IntKind.wrap .i64 ((List.length x4_2:Int) - (1:Int)))) (0:Int))))))
               else none
              else
               bif (inB (IntKind.wrap .i64 ((List.length x4_2:Int) - (2:Int))) (List.length (List.take (Int.toNat (IntKind.wrap .i64 ((List.length x4_2:Int) - (1:Int)))) x4_2))) then
                next (List.set (List.take (Int.toNat (IntKind.wrap .i64 ((List.length x4_2:Int) - (1:Int)))) x4_2) (Int.toNat (IntKind.wrap .i64 ((List.length x4_2:Int) - (2:Int)))) (IntKind.wrap .u64 (BitVec.toNat (BitVec.ofInt (IntKind.bits .u64) (xorV .u64 (List.getD x4_2 (Int.toNat (IntKind.wrap .i64 ((List.length x4_2:Int) - (2:Int)))) (0:Int))) ||| BitVec.ofInt (IntKind.bits .u64) (List.getD x4_2 (Int.toNat (IntKind.wrap .i64 ((List.length x4_2:Int) - (1:Int)))) (0:Int))))))
               else none
            else none
           else none
          else none
         else
          k5_1_13 (0:Int) false
        else
         k5_1_13 (0:Int) false))) (fun (x4_2:(List Int)) =>
    k5_0_12 x4_2) x15_3 0 x4_2:=by
 exact range1 (f:=fun n x4_2 i=>I36_l5 N x15_3 (List.length x15_3:Int) n k5_0_12 k5_1_13 x4_2 i) (l:=x15_3) (fun n i x4_2 h=>by
  simp only [I36_l5]
  rw [decide_eq_true (show (i:Int) < (List.length x15_3:Int) by omega)]
  simp only [cond_true,inB_nat h,Int.toNat_natCast,getD_nat _ i h]) (fun n x4_2=>by
  simp only [I36_l5]
  rw [decide_eq_false (by omega)]
  simp only [cond_false]) hl x15_3 0 n x4_2 rfl (by omega) hn
theorem I13_l5_r {x12_3:(List Int)} {k5_0_8:(List ByteArray)→Option Ret} {x3_2:(List ByteArray)} (hl:(List.length x12_3)≤maxLen) {n:Nat} (hn:(List.length x12_3) < n):I13_l5 x12_3 (List.length x12_3:Int) n k5_0_8 x3_2 (0:Int) =
  goL1 (fun (i:Nat) (x:Int) (x3_2:(List ByteArray)) (next:(List ByteArray)→Option Ret) =>
    bif (decide (x ≥ (0:Int))) then
     bif (decide ((0:Int)≤x) && decide (x≤(IntKind.wrap .i64 (x + (1:Int)))) && decide ((IntKind.wrap .i64 (x + (1:Int)))≤(ByteArray.size s_abcdef:Int))) then
      bif (decide ((List.length x3_2 + List.length [(ByteArray.extract s_abcdef (Int.toNat x) (Int.toNat (IntKind.wrap .i64 (x + (1:Int)))))]) * 1≤4398046511104)) then
       next (x3_2 ++ [(ByteArray.extract s_abcdef (Int.toNat x) (Int.toNat (IntKind.wrap .i64 (x + (1:Int)))))])
      else none
     else none
    else
     bif (x == (-1:Int)) then
      bif (inB (IntKind.wrap .i64 ((List.length x3_2:Int) - (1:Int))) (List.length x3_2)) then
       bif (decide (ByteArray.size s_h21 + ByteArray.size (List.getD x3_2 (Int.toNat (IntKind.wrap .i64 ((List.length x3_2:Int) - (1:Int)))) ByteArray.empty)≤9223372036854775807)) then
        bif (inB (IntKind.wrap .i64 ((List.length x3_2:Int) - (1:Int))) (List.length x3_2)) then
         next (List.set x3_2 (Int.toNat (IntKind.wrap .i64 ((List.length x3_2:Int) - (1:Int)))) (s_h21 ++ (List.getD x3_2 (Int.toNat (IntKind.wrap .i64 ((List.length x3_2:Int) - (1:Int)))) ByteArray.empty)))
        else none
       else none
      else none
     else
      bif (inB (IntKind.wrap .i64 ((List.length x3_2:Int) - (2:Int))) (List.length x3_2)) then
       bif (decide (ByteArray.size s_h28 + ByteArray.size (List.getD x3_2 (Int.toNat (IntKind.wrap .i64 ((List.length x3_2:Int) - (2:Int)))) ByteArray.empty)≤9223372036854775807)) then
        bif (decide ((0:Int)≤(IntKind.wrap .i64 ((-2:Int) - x))) && decide ((IntKind.wrap .i64 ((-2:Int) - x))≤(IntKind.wrap .i64 ((IntKind.wrap .i64 ((-2:Int) - x)) + (1:Int)))) && decide ((IntKind.wrap .i64 ((IntKind.wrap .i64 ((-2:Int) - x)) + (1:Int)))≤(ByteArray.size s_h267c3e:Int))) then
         bif (decide (ByteArray.size (s_h28 ++ (List.getD x3_2 (Int.toNat (IntKind.wrap .i64 ((List.length x3_2:Int) - (2:Int)))) ByteArray.empty)) + ByteArray.size (ByteArray.extract s_h267c3e (Int.toNat (IntKind.wrap .i64 ((-2:Int) - x))) (Int.toNat (IntKind.wrap .i64 ((IntKind.wrap .i64 ((-2:Int) - x)) + (1:Int)))))≤9223372036854775807)) then
          bif (inB (IntKind.wrap .i64 ((List.length x3_2:Int) - (1:Int))) (List.length x3_2)) then
           bif (decide (ByteArray.size ((s_h28 ++ (List.getD x3_2 (Int.toNat (IntKind.wrap .i64 ((List.length x3_2:Int) - (2:Int)))) ByteArray.empty)) ++ (ByteArray.extract s_h267c3e (Int.toNat (IntKind.wrap .i64 ((-2:Int) - x))) (Int.toNat (IntKind.wrap .i64 ((IntKind.wrap .i64 ((-2:Int) - x)) + (1:Int)))))) + ByteArray.size (List.getD x3_2 (Int.toNat (IntKind.wrap .i64 ((List.length x3_2:Int) - (1:Int)))) ByteArray.empty)≤9223372036854775807)) then
            bif (decide (ByteArray.size (((s_h28 ++ (List.getD x3_2 (Int.toNat (IntKind.wrap .i64 ((List.length x3_2:Int) - (2:Int)))) ByteArray.empty)) ++ (ByteArray.extract s_h267c3e (Int.toNat (IntKind.wrap .i64 ((-2:Int) - x))) (Int.toNat (IntKind.wrap .i64 ((IntKind.wrap .i64 ((-2:Int) - x)) + (1:Int)))))) ++ (List.getD x3_2 (Int.toNat (IntKind.wrap .i64 ((List.length x3_2:Int) - (1:Int)))) ByteArray.empty)) + ByteArray.size s_h29≤9223372036854775807)) then
             bif (inB (IntKind.wrap .i64 ((List.length x3_2:Int) - (2:Int))) (List.length x3_2)) then
              bif (decide ((0:Int)≤(0:Int)) && decide ((0:Int)≤(IntKind.wrap .i64 ((List.length x3_2:Int) - (1:Int)))) && decide ((IntKind.wrap .i64 ((List.length x3_2:Int) - (1:Int)))≤(List.length (List.set x3_2 (Int.toNat (IntKind.wrap .i64 ((List.length x3_2:Int) - (2:Int)))) ((((s_h28 ++ (List.getD x3_2 (Int.toNat (IntKind.wrap .i64 ((List.length x3_2:Int) - (2:Int)))) ByteArray.empty)) ++ (ByteArray.extract s_h267c3e (Int.toNat (IntKind.wrap .i64 ((-2:Int) - x))) (Int.toNat (IntKind.wrap .i64 ((IntKind.wrap .i64 ((-2:Int) - x)) + (1:Int)))))) ++ (List.getD x3_2 (Int.toNat (IntKind.wrap .i64 ((List.length x3_2:Int) - (1:Int)))) ByteArray.empty)) ++ s_h29)):Int))) then
               next (List.take (Int.toNat (IntKind.wrap .i64 ((List.length x3_2:Int) - (1:Int)))) (List.set x3_2 (Int.toNat (IntKind.wrap .i64 ((List.length x3_2:Int) - (2:Int)))) ((((s_h28 ++ (List.getD x3_2 (Int.toNat (IntKind.wrap .i64 ((List.length x3_2:Int) - (2:Int)))) ByteArray.empty)) ++ (ByteArray.extract s_h267c3e (Int.toNat (IntKind.wrap .i64 ((-2:Int) - x))) (Int.toNat (IntKind.wrap .i64 ((IntKind.wrap .i64 ((-2:Int) - x)) + (1:Int)))))) ++ (List.getD x3_2 (Int.toNat (IntKind.wrap .i64 ((List.length x3_2:Int) - (1:Int)))) ByteArray.empty)) ++ s_h29)))
              else none
             else none
            else none
           else none
          else none
         else none
        else none
       else none
      else none) (fun (x3_2:(List ByteArray)) =>
    k5_0_8 x3_2) x12_3 0 x3_2:=by
 exact range1 (f:=fun n x3_2 i=>I13_l5 x12_3 (List.length x12_3:Int) n k5_0_8 x3_2 i) (l:=x12_3) (fun n i x3_2 h=>by
  simp only [I13_l5]
  rw [decide_eq_true (show (i:Int) < (List.length x12_3:Int) by omega)]
  simp only [cond_true,inB_nat h,Int.toNat_natCast,getD_nat _ i h]) (fun n x3_2=>by
  simp only [I13_l5]
  rw [decide_eq_false (by omega)]
  simp only [cond_false]) hl x12_3 0 n x3_2 rfl (by omega) hn
theorem S51_l11_r {x25_12:(List (List Int))} {k11_0_16:(List Int)→Option Ret} {x6_11:(List Int)} (hl:(List.length x25_12)≤maxLen) {n:Nat} (hn:(List.length x25_12) < n):S51_l11 x25_12 (List.length x25_12:Int) n k11_0_16 x6_11 (0:Int) =
  goL1 (fun (i:Nat) (x:(List Int)) (x6_11:(List Int)) (next:(List Int)→Option Ret) =>
    bif (decide ((List.length x6_11 + List.length x) * 1≤4398046511104)) then
     next (x6_11 ++ x)
    else none) (fun (x6_11:(List Int)) =>
    k11_0_16 x6_11) x25_12 0 x6_11:=by
 exact range1 (f:=fun n x6_11 i=>S51_l11 x25_12 (List.length x25_12:Int) n k11_0_16 x6_11 i) (l:=x25_12) (fun n i x6_11 h=>by
  simp only [S51_l11]
  rw [decide_eq_true (show (i:Int) < (List.length x25_12:Int) by omega)]
  simp only [cond_true,inB_nat h,Int.toNat_natCast,getD_nat _ i h]) (fun n x6_11=>by
  simp only [S51_l11]
  rw [decide_eq_false (by omega)]
  simp only [cond_false]) hl x25_12 0 n x6_11 rfl (by omega) hn
theorem S51_l3_r {x0_1:(List (List Int))} {x9_3:(List (List Int))} {k3_0_7:Int→Option Ret} {x3_2:Int} (hl:(List.length x9_3)≤maxLen) {n:Nat} (hn:(List.length x9_3) < n):S51_l3 x0_1 x9_3 (List.length x9_3:Int) n k3_0_7 x3_2 (0:Int) =
  goL1 (fun (i:Nat) (x:(List Int)) (x3_2:Int) (next:Int→Option Ret) =>
    bif (decide ((IntKind.wrap .i64 (x3_2 + (List.length x:Int))) < (0:Int))) then
     none
    else
     next (IntKind.wrap .i64 (x3_2 + (List.length x:Int)))) (fun (x3_2:Int) =>
    k3_0_7 x3_2) x9_3 0 x3_2:=by
 exact range1 (f:=fun n x3_2 i=>S51_l3 x0_1 x9_3 (List.length x9_3:Int) n k3_0_7 x3_2 i) (l:=x9_3) (fun n i x3_2 h=>by
  simp only [S51_l3]
  rw [decide_eq_true (show (i:Int) < (List.length x9_3:Int) by omega)]
  simp only [cond_true,inB_nat h,Int.toNat_natCast,getD_nat _ i h]) (fun n x3_2=>by
  simp only [S51_l3]
  rw [decide_eq_false (by omega)]
  simp only [cond_false]) hl x9_3 0 n x3_2 rfl (by omega) hn
theorem L15_l4_r {x0_1:(List Int)} {x1_2:(List Int)} {k4_0_5:Option Ret} {k4_1_6:Bool→Option Ret} (hl:(List.length x0_1)≤maxLen) {n:Nat} (hn:(List.length x0_1) < n):L15_l4 x0_1 x1_2 n k4_0_5 k4_1_6 (0:Int) =
  goL (fun (i:Nat) (x:Int) (next:Option Ret) =>
    bif (inB (i:Int) (List.length x1_2)) then
     bif (x != (List.getD x1_2 (Int.toNat (i:Int)) (0:Int))) then
      k4_1_6 false
     else
      next
    else none) (
    k4_0_5) x0_1 0:=by
 exact range0 (f:=fun n i=>L15_l4 x0_1 x1_2 n k4_0_5 k4_1_6 i) (l:=x0_1) (fun n i h=>by
  simp only [L15_l4]
  rw [decide_eq_true (show (i:Int) < (List.length x0_1:Int) by omega)]
  simp only [cond_true,inB_nat h,Int.toNat_natCast,getD_nat _ i h]) (fun n=>by
  simp only [L15_l4]
  rw [decide_eq_false (by omega)]
  simp only [cond_false]) hl x0_1 0 n rfl (by omega) hn
theorem S53_l3_r {N:Nat} {x0_1:(List Int)} {k3_0_9:Int→Option Ret} {k3_1_10:Bool→Option Ret} {x3_2:Int} (hl:(List.length x0_1)≤maxLen) {n:Nat} (hn:(List.length x0_1) < n):S53_l3 N x0_1 n k3_0_9 k3_1_10 x3_2 (0:Int) =
  goL1 (fun (i:Nat) (x:Int) (x3_2:Int) (next:Int→Option Ret) =>
    S66 N x (0:Int) (5:Int) (fun (r16_5:Bool) =>
     bif r16_5 then
      next (IntKind.wrap .i64 (x3_2 + (1:Int)))
     else
      bif (x == (-1:Int)) then
       bif (decide (x3_2 ≥ (1:Int))) then
        next x3_2
       else
        S66 N x (-4:Int) (-2:Int) (fun (r34_6:Bool) =>
         bif r34_6 then
          bif (decide (x3_2 ≥ (2:Int))) then
           next (IntKind.wrap .i64 (x3_2 - (1:Int)))
          else
           k3_1_10 false
         else
          k3_1_10 false)
      else
       S66 N x (-4:Int) (-2:Int) (fun (r34_7:Bool) =>
        bif r34_7 then
         bif (decide (x3_2 ≥ (2:Int))) then
          next (IntKind.wrap .i64 (x3_2 - (1:Int)))
         else
          k3_1_10 false
        else
         k3_1_10 false))) (fun (x3_2:Int) =>
    k3_0_9 x3_2) x0_1 0 x3_2:=by
 exact range1 (f:=fun n x3_2 i=>S53_l3 N x0_1 n k3_0_9 k3_1_10 x3_2 i) (l:=x0_1) (fun n i x3_2 h=>by
  simp only [S53_l3]
  rw [decide_eq_true (show (i:Int) < (List.length x0_1:Int) by omega)]
  simp only [cond_true,inB_nat h,Int.toNat_natCast,getD_nat _ i h]) (fun n x3_2=>by
  simp only [S53_l3]
  rw [decide_eq_false (by omega)]
  simp only [cond_false]) hl x0_1 0 n x3_2 rfl (by omega) hn
theorem S37_l5_r {x0_2:(List Int)} {k5_0_7:(List ByteArray)→Option Ret} {x3_3:(List ByteArray)} (hl:(List.length x0_2)≤maxLen) {n:Nat} (hn:(List.length x0_2) < n):S37_l5 x0_2 n k5_0_7 x3_3 (0:Int) =
  goL1 (fun (i:Nat) (x:Int) (x3_3:(List ByteArray)) (next:(List ByteArray)→Option Ret) =>
    bif (decide (x ≥ (0:Int))) then
     bif (decide ((0:Int)≤x) && decide (x≤(IntKind.wrap .i64 (x + (1:Int)))) && decide ((IntKind.wrap .i64 (x + (1:Int)))≤(ByteArray.size s_abcdef:Int))) then
      bif (decide ((List.length x3_3 + List.length [(ByteArray.extract s_abcdef (Int.toNat x) (Int.toNat (IntKind.wrap .i64 (x + (1:Int)))))]) * 1≤4398046511104)) then
       next (x3_3 ++ [(ByteArray.extract s_abcdef (Int.toNat x) (Int.toNat (IntKind.wrap .i64 (x + (1:Int)))))])
      else none
     else none
    else
     bif (x == (-1:Int)) then
      bif (inB (IntKind.wrap .i64 ((List.length x3_3:Int) - (1:Int))) (List.length x3_3)) then
       bif (decide (ByteArray.size s_h21 + ByteArray.size (List.getD x3_3 (Int.toNat (IntKind.wrap .i64 ((List.length x3_3:Int) - (1:Int)))) ByteArray.empty)≤9223372036854775807)) then
        bif (inB (IntKind.wrap .i64 ((List.length x3_3:Int) - (1:Int))) (List.length x3_3)) then
         next (List.set x3_3 (Int.toNat (IntKind.wrap .i64 ((List.length x3_3:Int) - (1:Int)))) (s_h21 ++ (List.getD x3_3 (Int.toNat (IntKind.wrap .i64 ((List.length x3_3:Int) - (1:Int)))) ByteArray.empty)))
        else none
       else none
      else none
     else
      bif (inB (IntKind.wrap .i64 ((List.length x3_3:Int) - (2:Int))) (List.length x3_3)) then
       bif (decide (ByteArray.size s_h28 + ByteArray.size (List.getD x3_3 (Int.toNat (IntKind.wrap .i64 ((List.length x3_3:Int) - (2:Int)))) ByteArray.empty)≤9223372036854775807)) then
        bif (inB (IntKind.wrap .i64 ((List.length x3_3:Int) - (1:Int))) (List.length x3_3)) then
         bif (inB (IntKind.wrap .i64 ((IntKind.wrap .i64 (0 - x)) - (2:Int))) (List.length [s_h26,s_h7c,s_h3e])) then
          bif (decide (ByteArray.size (s_h28 ++ (List.getD x3_3 (Int.toNat (IntKind.wrap .i64 ((List.length x3_3:Int) - (2:Int)))) ByteArray.empty)) + ByteArray.size (List.getD [s_h26,s_h7c,s_h3e] (Int.toNat (IntKind.wrap .i64 ((IntKind.wrap .i64 (0 - x)) - (2:Int)))) ByteArray.empty)≤9223372036854775807)) then
           bif (decide (ByteArray.size ((s_h28 ++ (List.getD x3_3 (Int.toNat (IntKind.wrap .i64 ((List.length x3_3:Int) - (2:Int)))) ByteArray.empty)) ++ (List.getD [s_h26,s_h7c,s_h3e] (Int.toNat (IntKind.wrap .i64 ((IntKind.wrap .i64 (0 - x)) - (2:Int)))) ByteArray.empty)) + ByteArray.size (List.getD x3_3 (Int.toNat (IntKind.wrap .i64 ((List.length x3_3:Int) - (1:Int)))) ByteArray.empty)≤9223372036854775807)) then
            bif (decide (ByteArray.size (((s_h28 ++ (List.getD x3_3 (Int.toNat (IntKind.wrap .i64 ((List.length x3_3:Int) - (2:Int)))) ByteArray.empty)) ++ (List.getD [s_h26,s_h7c,s_h3e] (Int.toNat (IntKind.wrap .i64 ((IntKind.wrap .i64 (0 - x)) - (2:Int)))) ByteArray.empty)) ++ (List.getD x3_3 (Int.toNat (IntKind.wrap .i64 ((List.length x3_3:Int) - (1:Int)))) ByteArray.empty)) + ByteArray.size s_h29≤9223372036854775807)) then
             bif (decide ((0:Int)≤(0:Int)) && decide ((0:Int)≤(IntKind.wrap .i64 ((List.length x3_3:Int) - (2:Int)))) && decide ((IntKind.wrap .i64 ((List.length x3_3:Int) - (2:Int)))≤(List.length x3_3:Int))) then
              bif (decide ((List.length (List.take (Int.toNat (IntKind.wrap .i64 ((List.length x3_3:Int) - (2:Int)))) x3_3) + List.length [((((s_h28 ++ (List.getD x3_3 (Int.toNat (IntKind.wrap .i64 ((List.length x3_3:Int) - (2:Int)))) ByteArray.empty)) ++ (List.getD [s_h26,s_h7c,s_h3e] (Int.toNat (IntKind.wrap .i64 ((IntKind.wrap .i64 (0 - x)) - (2:Int)))) ByteArray.empty)) ++ (List.getD x3_3 (Int.toNat (IntKind.wrap .i64 ((List.length x3_3:Int) - (1:Int)))) ByteArray.empty)) ++ s_h29)]) * 1≤4398046511104)) then
               next ((List.take (Int.toNat (IntKind.wrap .i64 ((List.length x3_3:Int) - (2:Int)))) x3_3) ++ [((((s_h28 ++ (List.getD x3_3 (Int.toNat (IntKind.wrap .i64 ((List.length x3_3:Int) - (2:Int)))) ByteArray.empty)) ++ (List.getD [s_h26,s_h7c,s_h3e] (Int.toNat (IntKind.wrap .i64 ((IntKind.wrap .i64 (0 - x)) - (2:Int)))) ByteArray.empty)) ++ (List.getD x3_3 (Int.toNat (IntKind.wrap .i64 ((List.length x3_3:Int) - (1:Int)))) ByteArray.empty)) ++ s_h29)])
              else none
             else none
            else none
           else none
          else none
         else none
        else none
       else none
      else none) (fun (x3_3:(List ByteArray)) =>
    k5_0_7 x3_3) x0_2 0 x3_3:=by
 exact range1 (f:=fun n x3_3 i=>S37_l5 x0_2 n k5_0_7 x3_3 i) (l:=x0_2) (fun n i x3_3 h=>by
  simp only [S37_l5]
  rw [decide_eq_true (show (i:Int) < (List.length x0_2:Int) by omega)]
  simp only [cond_true,inB_nat h,Int.toNat_natCast,getD_nat _ i h]) (fun n x3_3=>by
  simp only [S37_l5]
  rw [decide_eq_false (by omega)]
  simp only [cond_false]) hl x0_2 0 n x3_3 rfl (by omega) hn
theorem S85_l2_r {N:Nat} {x0_1:(List QIIIE)} {k2_0_7:Option Ret} {k2_1_8:Bool→Option Ret} (hl:(List.length x0_1)≤maxLen) {n:Nat} (hn:(List.length x0_1) < n):S85_l2 N x0_1 n k2_0_7 k2_1_8 (0:Int) =
  goL (fun (i:Nat) (x:QIIIE) (next:Option Ret) =>
    S66 N x.1 (1:Int) (99:Int) (fun (r15_4:Bool) =>
     bif (!r15_4) then
      k2_1_8 false
     else
      S66 N x.2.1 (1:Int) (2:Int) (fun (r23_5:Bool) =>
       bif (!r23_5) then
        k2_1_8 false
       else
        S66 N x.2.2 (0:Int) (4:Int) (fun (r32_6:Bool) =>
         bif (!r32_6) then
          k2_1_8 false
         else
          bif (decide ((i:Int) > (0:Int))) then
           bif (inB (IntKind.wrap .i64 ((i:Int) - (1:Int))) (List.length x0_1)) then
            bif (decide ((List.getD x0_1 (Int.toNat (IntKind.wrap .i64 ((i:Int) - (1:Int)))) zQIIIE).1 ≥ x.1)) then
             k2_1_8 false
            else
             next
           else none
          else
           next)))) (
    k2_0_7) x0_1 0:=by
 exact range0 (f:=fun n i=>S85_l2 N x0_1 n k2_0_7 k2_1_8 i) (l:=x0_1) (fun n i h=>by
  simp only [S85_l2]
  rw [decide_eq_true (show (i:Int) < (List.length x0_1:Int) by omega)]
  simp only [cond_true,inB_nat h,Int.toNat_natCast,getD_nat _ i h]) (fun n=>by
  simp only [S85_l2]
  rw [decide_eq_false (by omega)]
  simp only [cond_false]) hl x0_1 0 n rfl (by omega) hn
theorem S72_l2_r {x0_1:(List QIIIE)} {x1_2:Int} {x2_3:Int} {k2_0_6:Int→Option Ret} (hl:(List.length x0_1)≤maxLen) {n:Nat} (hn:(List.length x0_1) < n):S72_l2 x0_1 x1_2 x2_3 n k2_0_6 (0:Int) =
  goL (fun (i:Nat) (x:QIIIE) (next:Option Ret) =>
    bif (decide (x.1 < x1_2)) then
     next
    else
     k2_0_6 (i:Int)) (
    k2_0_6 (List.length x0_1:Int)) x0_1 0:=by
 exact range0 (f:=fun n i=>S72_l2 x0_1 x1_2 x2_3 n k2_0_6 i) (l:=x0_1) (fun n i h=>by
  simp only [S72_l2]
  rw [decide_eq_true (show (i:Int) < (List.length x0_1:Int) by omega)]
  simp only [cond_true,inB_nat h,Int.toNat_natCast,getD_nat _ i h]) (fun n=>by
  simp only [S72_l2]
  rw [decide_eq_false (by omega)]
  simp only [cond_false]) hl x0_1 0 n rfl (by omega) hn
end Go.Pv.R
