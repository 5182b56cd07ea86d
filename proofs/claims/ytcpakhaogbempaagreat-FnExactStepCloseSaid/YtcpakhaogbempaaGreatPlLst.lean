/- Their loops over lists, without rounds. -/
import Derived.Test.YtcpakhaogbempaaGreatPlRes
namespace Go.Pv.R
set_option linter.unusedVariables false
set_option linter.unusedSimpArgs false
theorem L84_l5_r {N:Nat} {x0_1:(List QIIIIILIE)} {k5_0_6:Int→Option Ret} {k5_1_7:Int→Option Ret} {x1_2:Int} (hl:(List.length x0_1)≤maxLen) {n:Nat} (hn:(List.length x0_1) < n):L84_l5 N x0_1 n k5_0_6 k5_1_7 x1_2 (0:Int) =
  goL1 (fun (i:Nat) (x:QIIIIILIE) (x1_2:Int) (next:Int→Option Ret) =>
    L171 N x x1_2 (fun (r23_5:Int) =>
     bif (decide (r23_5 < (0:Int))) then
      k5_1_7 (-1:Int)
     else
      next r23_5)) (fun (x1_2:Int) =>
    k5_0_6 x1_2) x0_1 0 x1_2:=by
 exact range1 (f:=fun n x1_2 i=>L84_l5 N x0_1 n k5_0_6 k5_1_7 x1_2 i) (l:=x0_1) (fun n i x1_2 h=>by
  simp only [L84_l5]
  rw [decide_eq_true (show (i:Int) < (List.length x0_1:Int) by omega)]
  simp only [cond_true,inB_nat h,Int.toNat_natCast,getD_nat _ i h]) (fun n x1_2=>by
  simp only [L84_l5]
  rw [decide_eq_false (by omega)]
  simp only [cond_false]) hl x0_1 0 n x1_2 rfl (by omega) hn
theorem L85_l5_r {N:Nat} {x0_1:(List QIILIE)} {k5_0_6:Int→Option Ret} {k5_1_7:Int→Option Ret} {x1_2:Int} (hl:(List.length x0_1)≤maxLen) {n:Nat} (hn:(List.length x0_1) < n):L85_l5 N x0_1 n k5_0_6 k5_1_7 x1_2 (0:Int) =
  goL1 (fun (i:Nat) (x:QIILIE) (x1_2:Int) (next:Int→Option Ret) =>
    L172 N x x1_2 (fun (r23_5:Int) =>
     bif (decide (r23_5 < (0:Int))) then
      k5_1_7 (-1:Int)
     else
      next r23_5)) (fun (x1_2:Int) =>
    k5_0_6 x1_2) x0_1 0 x1_2:=by
 exact range1 (f:=fun n x1_2 i=>L85_l5 N x0_1 n k5_0_6 k5_1_7 x1_2 i) (l:=x0_1) (fun n i x1_2 h=>by
  simp only [L85_l5]
  rw [decide_eq_true (show (i:Int) < (List.length x0_1:Int) by omega)]
  simp only [cond_true,inB_nat h,Int.toNat_natCast,getD_nat _ i h]) (fun n x1_2=>by
  simp only [L85_l5]
  rw [decide_eq_false (by omega)]
  simp only [cond_false]) hl x0_1 0 n x1_2 rfl (by omega) hn
theorem L98_l3_r {x0_1:(List Int)} {k3_0_5:(List Int)→Option Ret} {x3_2:(List Int)} (hl:(List.length x0_1)≤maxLen) {n:Nat} (hn:(List.length x0_1) < n):L98_l3 x0_1 n k3_0_5 x3_2 (0:Int) =
  goL1 (fun (i:Nat) (x:Int) (x3_2:(List Int)) (next:(List Int)→Option Ret) =>
    bif (inB (i:Int) (List.length x3_2)) then
     next (List.set x3_2 (Int.toNat (i:Int)) x)
    else none) (fun (x3_2:(List Int)) =>
    k3_0_5 x3_2) x0_1 0 x3_2:=by
 exact range1 (f:=fun n x3_2 i=>L98_l3 x0_1 n k3_0_5 x3_2 i) (l:=x0_1) (fun n i x3_2 h=>by
  simp only [L98_l3]
  rw [decide_eq_true (show (i:Int) < (List.length x0_1:Int) by omega)]
  simp only [cond_true,inB_nat h,Int.toNat_natCast,getD_nat _ i h]) (fun n x3_2=>by
  simp only [L98_l3]
  rw [decide_eq_false (by omega)]
  simp only [cond_false]) hl x0_1 0 n x3_2 rfl (by omega) hn
theorem L95_l3_r {N:Nat} {x0_1:(List QIIIIILIE)} {k3_0_6:(List QIIIIILIE)→Option Ret} {x3_2:(List QIIIIILIE)} (hl:(List.length x0_1)≤maxLen) {n:Nat} (hn:(List.length x0_1) < n):L95_l3 N x0_1 n k3_0_6 x3_2 (0:Int) =
  goL1 (fun (i:Nat) (x:QIIIIILIE) (x3_2:(List QIIIIILIE)) (next:(List QIIIIILIE)→Option Ret) =>
    L181 N x (fun (r20_5:QIIIIILIE) =>
     bif (inB (i:Int) (List.length x3_2)) then
      next (List.set x3_2 (Int.toNat (i:Int)) r20_5)
     else none)) (fun (x3_2:(List QIIIIILIE)) =>
    k3_0_6 x3_2) x0_1 0 x3_2:=by
 exact range1 (f:=fun n x3_2 i=>L95_l3 N x0_1 n k3_0_6 x3_2 i) (l:=x0_1) (fun n i x3_2 h=>by
  simp only [L95_l3]
  rw [decide_eq_true (show (i:Int) < (List.length x0_1:Int) by omega)]
  simp only [cond_true,inB_nat h,Int.toNat_natCast,getD_nat _ i h]) (fun n x3_2=>by
  simp only [L95_l3]
  rw [decide_eq_false (by omega)]
  simp only [cond_false]) hl x0_1 0 n x3_2 rfl (by omega) hn
theorem L96_l3_r {N:Nat} {x0_1:(List QIILIE)} {k3_0_6:(List QIILIE)→Option Ret} {x3_2:(List QIILIE)} (hl:(List.length x0_1)≤maxLen) {n:Nat} (hn:(List.length x0_1) < n):L96_l3 N x0_1 n k3_0_6 x3_2 (0:Int) =
  goL1 (fun (i:Nat) (x:QIILIE) (x3_2:(List QIILIE)) (next:(List QIILIE)→Option Ret) =>
    L182 N x (fun (r20_5:QIILIE) =>
     bif (inB (i:Int) (List.length x3_2)) then
      next (List.set x3_2 (Int.toNat (i:Int)) r20_5)
     else none)) (fun (x3_2:(List QIILIE)) =>
    k3_0_6 x3_2) x0_1 0 x3_2:=by
 exact range1 (f:=fun n x3_2 i=>L96_l3 N x0_1 n k3_0_6 x3_2 i) (l:=x0_1) (fun n i x3_2 h=>by
  simp only [L96_l3]
  rw [decide_eq_true (show (i:Int) < (List.length x0_1:Int) by omega)]
  simp only [cond_true,inB_nat h,Int.toNat_natCast,getD_nat _ i h]) (fun n x3_2=>by
  simp only [L96_l3]
  rw [decide_eq_false (by omega)]
  simp only [cond_false]) hl x0_1 0 n x3_2 rfl (by omega) hn
theorem L97_l3_r {N:Nat} {x0_1:(List QIIE)} {k3_0_6:(List QIIE)→Option Ret} {x3_2:(List QIIE)} (hl:(List.length x0_1)≤maxLen) {n:Nat} (hn:(List.length x0_1) < n):L97_l3 N x0_1 n k3_0_6 x3_2 (0:Int) =
  goL1 (fun (i:Nat) (x:QIIE) (x3_2:(List QIIE)) (next:(List QIIE)→Option Ret) =>
    L183 N x (fun (r20_5:QIIE) =>
     bif (inB (i:Int) (List.length x3_2)) then
      next (List.set x3_2 (Int.toNat (i:Int)) r20_5)
     else none)) (fun (x3_2:(List QIIE)) =>
    k3_0_6 x3_2) x0_1 0 x3_2:=by
 exact range1 (f:=fun n x3_2 i=>L97_l3 N x0_1 n k3_0_6 x3_2 i) (l:=x0_1) (fun n i x3_2 h=>by
  simp only [L97_l3]
  rw [decide_eq_true (show (i:Int) < (List.length x0_1:Int) by omega)]
  simp only [cond_true,inB_nat h,Int.toNat_natCast,getD_nat _ i h]) (fun n x3_2=>by
  simp only [L97_l3]
  rw [decide_eq_false (by omega)]
  simp only [cond_false]) hl x0_1 0 n x3_2 rfl (by omega) hn
theorem L99_l3_r {N:Nat} {x0_1:(List QIIIE)} {k3_0_6:(List QIIIE)→Option Ret} {x3_2:(List QIIIE)} (hl:(List.length x0_1)≤maxLen) {n:Nat} (hn:(List.length x0_1) < n):L99_l3 N x0_1 n k3_0_6 x3_2 (0:Int) =
  goL1 (fun (i:Nat) (x:QIIIE) (x3_2:(List QIIIE)) (next:(List QIIIE)→Option Ret) =>
    L184 N x (fun (r20_5:QIIIE) =>
     bif (inB (i:Int) (List.length x3_2)) then
      next (List.set x3_2 (Int.toNat (i:Int)) r20_5)
     else none)) (fun (x3_2:(List QIIIE)) =>
    k3_0_6 x3_2) x0_1 0 x3_2:=by
 exact range1 (f:=fun n x3_2 i=>L99_l3 N x0_1 n k3_0_6 x3_2 i) (l:=x0_1) (fun n i x3_2 h=>by
  simp only [L99_l3]
  rw [decide_eq_true (show (i:Int) < (List.length x0_1:Int) by omega)]
  simp only [cond_true,inB_nat h,Int.toNat_natCast,getD_nat _ i h]) (fun n x3_2=>by
  simp only [L99_l3]
  rw [decide_eq_false (by omega)]
  simp only [cond_false]) hl x0_1 0 n x3_2 rfl (by omega) hn
theorem L100_l3_r {N:Nat} {x0_1:(List QIIIIE)} {k3_0_6:(List QIIIIE)→Option Ret} {x3_2:(List QIIIIE)} (hl:(List.length x0_1)≤maxLen) {n:Nat} (hn:(List.length x0_1) < n):L100_l3 N x0_1 n k3_0_6 x3_2 (0:Int) =
  goL1 (fun (i:Nat) (x:QIIIIE) (x3_2:(List QIIIIE)) (next:(List QIIIIE)→Option Ret) =>
    L185 N x (fun (r20_5:QIIIIE) =>
     bif (inB (i:Int) (List.length x3_2)) then
      next (List.set x3_2 (Int.toNat (i:Int)) r20_5)
     else none)) (fun (x3_2:(List QIIIIE)) =>
    k3_0_6 x3_2) x0_1 0 x3_2:=by
 exact range1 (f:=fun n x3_2 i=>L100_l3 N x0_1 n k3_0_6 x3_2 i) (l:=x0_1) (fun n i x3_2 h=>by
  simp only [L100_l3]
  rw [decide_eq_true (show (i:Int) < (List.length x0_1:Int) by omega)]
  simp only [cond_true,inB_nat h,Int.toNat_natCast,getD_nat _ i h]) (fun n x3_2=>by
  simp only [L100_l3]
  rw [decide_eq_false (by omega)]
  simp only [cond_false]) hl x0_1 0 n x3_2 rfl (by omega) hn
theorem S173_l3_r {x0_1:(List QIIIIILIE)} {k3_0_5:(List QIIIIILIE)→Option Ret} {x3_2:(List QIIIIILIE)} (hl:(List.length x0_1)≤maxLen) {n:Nat} (hn:(List.length x0_1) < n):S173_l3 x0_1 n k3_0_5 x3_2 (0:Int) =
  goL1 (fun (i:Nat) (x:QIIIIILIE) (x3_2:(List QIIIIILIE)) (next:(List QIIIIILIE)→Option Ret) =>
    bif (decide ((List.length ([]:(List Int)) + List.length x.2.2.2.2.2) * 1≤4398046511104)) then
     bif (decide ((List.length x3_2 + List.length [(x.1,(x.2.1,(x.2.2.1,(x.2.2.2.1,(x.2.2.2.2.1,(([]:(List Int)) ++ x.2.2.2.2.2))))))]) * 6≤4398046511104)) then
      next (x3_2 ++ [(x.1,(x.2.1,(x.2.2.1,(x.2.2.2.1,(x.2.2.2.2.1,(([]:(List Int)) ++ x.2.2.2.2.2))))))])
     else none
    else none) (fun (x3_2:(List QIIIIILIE)) =>
    k3_0_5 x3_2) x0_1 0 x3_2:=by
 exact range1 (f:=fun n x3_2 i=>S173_l3 x0_1 n k3_0_5 x3_2 i) (l:=x0_1) (fun n i x3_2 h=>by
  simp only [S173_l3]
  rw [decide_eq_true (show (i:Int) < (List.length x0_1:Int) by omega)]
  simp only [cond_true,inB_nat h,Int.toNat_natCast,getD_nat _ i h]) (fun n x3_2=>by
  simp only [S173_l3]
  rw [decide_eq_false (by omega)]
  simp only [cond_false]) hl x0_1 0 n x3_2 rfl (by omega) hn
theorem S174_l3_r {x0_1:(List QIILIE)} {k3_0_5:(List QIILIE)→Option Ret} {x3_2:(List QIILIE)} (hl:(List.length x0_1)≤maxLen) {n:Nat} (hn:(List.length x0_1) < n):S174_l3 x0_1 n k3_0_5 x3_2 (0:Int) =
  goL1 (fun (i:Nat) (x:QIILIE) (x3_2:(List QIILIE)) (next:(List QIILIE)→Option Ret) =>
    bif (decide ((List.length ([]:(List Int)) + List.length x.2.2) * 1≤4398046511104)) then
     bif (decide ((List.length x3_2 + List.length [(x.1,(x.2.1,(([]:(List Int)) ++ x.2.2)))]) * 3≤4398046511104)) then
      next (x3_2 ++ [(x.1,(x.2.1,(([]:(List Int)) ++ x.2.2)))])
     else none
    else none) (fun (x3_2:(List QIILIE)) =>
    k3_0_5 x3_2) x0_1 0 x3_2:=by
 exact range1 (f:=fun n x3_2 i=>S174_l3 x0_1 n k3_0_5 x3_2 i) (l:=x0_1) (fun n i x3_2 h=>by
  simp only [S174_l3]
  rw [decide_eq_true (show (i:Int) < (List.length x0_1:Int) by omega)]
  simp only [cond_true,inB_nat h,Int.toNat_natCast,getD_nat _ i h]) (fun n x3_2=>by
  simp only [S174_l3]
  rw [decide_eq_false (by omega)]
  simp only [cond_false]) hl x0_1 0 n x3_2 rfl (by omega) hn
theorem S200_l2_r {x0_1:(List QIIIIILIE)} {x1_2:Int} {k2_0_5:Option Ret} {k2_1_6:Int→Option Ret} (hl:(List.length x0_1)≤maxLen) {n:Nat} (hn:(List.length x0_1) < n):S200_l2 x0_1 x1_2 n k2_0_5 k2_1_6 (0:Int) =
  goL (fun (i:Nat) (x:QIIIIILIE) (next:Option Ret) =>
    bif (x.1 == x1_2) then
     k2_1_6 (i:Int)
    else
     next) (
    k2_0_5) x0_1 0:=by
 exact range0 (f:=fun n i=>S200_l2 x0_1 x1_2 n k2_0_5 k2_1_6 i) (l:=x0_1) (fun n i h=>by
  simp only [S200_l2]
  rw [decide_eq_true (show (i:Int) < (List.length x0_1:Int) by omega)]
  simp only [cond_true,inB_nat h,Int.toNat_natCast,getD_nat _ i h]) (fun n=>by
  simp only [S200_l2]
  rw [decide_eq_false (by omega)]
  simp only [cond_false]) hl x0_1 0 n rfl (by omega) hn
theorem S220_l3_r {x0_1:(List Int)} {x1_2:Int} {k3_0_7:Int→Option Ret} {x5_3:Int} (hl:(List.length x0_1)≤maxLen) {n:Nat} (hn:(List.length x0_1) < n):S220_l3 x0_1 x1_2 n k3_0_7 x5_3 (0:Int) =
  goL1 (fun (i:Nat) (x:Int) (x5_3:Int) (next:Int→Option Ret) =>
    bif (x == x1_2) then
     next (IntKind.wrap .i64 (x5_3 + (1:Int)))
    else
     next x5_3) (fun (x5_3:Int) =>
    k3_0_7 x5_3) x0_1 0 x5_3:=by
 exact range1 (f:=fun n x5_3 i=>S220_l3 x0_1 x1_2 n k3_0_7 x5_3 i) (l:=x0_1) (fun n i x5_3 h=>by
  simp only [S220_l3]
  rw [decide_eq_true (show (i:Int) < (List.length x0_1:Int) by omega)]
  simp only [cond_true,inB_nat h,Int.toNat_natCast,getD_nat _ i h]) (fun n x5_3=>by
  simp only [S220_l3]
  rw [decide_eq_false (by omega)]
  simp only [cond_false]) hl x0_1 0 n x5_3 rfl (by omega) hn
theorem S175_l8_r {N:Nat} {x0_9:(List QIIIIILIE)} {x3_10:Int} {x4_11:QIIIIILIE} {k8_0_17:Option Ret} {k8_1_18:Bool→Option Ret} (hl:(List.length x4_11.2.2.2.2.2)≤maxLen) {n:Nat} (hn:(List.length x4_11.2.2.2.2.2) < n):S175_l8 N x0_9 x3_10 x4_11 n k8_0_17 k8_1_18 (0:Int) =
  goL (fun (i:Nat) (x : _) (next:Option Ret) =>
    S200 N x0_9 x (fun (r85_14:Int) =>
     bif (decide (r85_14 < (0:Int))) then
      k8_1_18 false
     else
      bif (r85_14 == x3_10) then
       k8_1_18 false
      else
       bif (inB r85_14 (List.length x0_9)) then
        bif (inB r85_14 (List.length x0_9)) then
         S220 N (List.getD x0_9 (Int.toNat r85_14) zQIIIIILIE).2.2.2.2.2 x4_11.1 (fun (r101_15:Int) =>
          S220 N x4_11.2.2.2.2.2 (List.getD x0_9 (Int.toNat r85_14) zQIIIIILIE).1 (fun (r109_16:Int) =>
           bif (r101_15 != r109_16) then
            k8_1_18 false
           else
            next))
        else none
       else none)) (
    k8_0_17) x4_11.2.2.2.2.2 0:=by
 exact range0 (f:=fun n i=>S175_l8 N x0_9 x3_10 x4_11 n k8_0_17 k8_1_18 i) (l:=x4_11.2.2.2.2.2) (fun n i h=>by
  simp only [S175_l8]
  rw [decide_eq_true (show (i:Int) < (List.length x4_11.2.2.2.2.2:Int) by omega)]
  simp only [cond_true,inB_nat h,Int.toNat_natCast,getD_nat _ i h]) (fun n=>by
  simp only [S175_l8]
  rw [decide_eq_false (by omega)]
  simp only [cond_false]) hl x4_11.2.2.2.2.2 0 n rfl (by omega) hn
theorem S175_l2_r {N:Nat} {x0_1:(List QIIIIILIE)} {k2_0_21:Option Ret} {k2_1_22:Bool→Option Ret} (hl:(List.length x0_1)≤maxLen) {n:Nat} (hn:(List.length x0_1) < n):S175_l2 N x0_1 n k2_0_21 k2_1_22 (0:Int) =
  goL (fun (i:Nat) (x:QIIIIILIE) (next:Option Ret) =>
    S195 N x.1 (1:Int) (99:Int) (fun (r19_4:Bool) =>
     bif (!r19_4) then
      k2_1_22 false
     else
      S195 N x.2.1 (1:Int) (99:Int) (fun (r24_5:Bool) =>
       bif (!r24_5) then
        k2_1_22 false
       else
        S195 N x.2.2.1 (0:Int) (List.length x.2.2.2.2.2:Int) (fun (r33_6:Bool) =>
         bif (!r33_6) then
          k2_1_22 false
         else
          S195 N x.2.2.2.2.1 (0:Int) (List.length x.2.2.2.2.2:Int) (fun (r42_7:Bool) =>
           bif (!r42_7) then
            k2_1_22 false
           else
            S195 N x.2.2.2.1 (0:Int) (100000:Int) (fun (r48_8:Bool) =>
             bif (!r48_8) then
              k2_1_22 false
             else
              bif (decide ((List.length x.2.2.2.2.2:Int) > (20:Int))) then
               k2_1_22 false
              else
               bif (decide ((i:Int) > (0:Int))) then
                bif (inB (IntKind.wrap .i64 ((i:Int) - (1:Int))) (List.length x0_1)) then
                 bif (decide ((List.getD x0_1 (Int.toNat (IntKind.wrap .i64 ((i:Int) - (1:Int)))) zQIIIIILIE).1 ≥ x.1)) then
                  k2_1_22 false
                 else
                  S175_l8 N x0_1 (i:Int) x N next k2_1_22 (0:Int)
                else none
               else
                S175_l8 N x0_1 (i:Int) x N next k2_1_22 (0:Int))))))) (
    k2_0_21) x0_1 0:=by
 exact range0 (f:=fun n i=>S175_l2 N x0_1 n k2_0_21 k2_1_22 i) (l:=x0_1) (fun n i h=>by
  simp only [S175_l2]
  rw [decide_eq_true (show (i:Int) < (List.length x0_1:Int) by omega)]
  simp only [cond_true,inB_nat h,Int.toNat_natCast,getD_nat _ i h]) (fun n=>by
  simp only [S175_l2]
  rw [decide_eq_false (by omega)]
  simp only [cond_false]) hl x0_1 0 n rfl (by omega) hn
theorem S224_l2_r {x0_1:(List Int)} {x1_2:Int} {k2_0_5:Option Ret} {k2_1_6:Bool→Option Ret} (hl:(List.length x0_1)≤maxLen) {n:Nat} (hn:(List.length x0_1) < n):S224_l2 x0_1 x1_2 n k2_0_5 k2_1_6 (0:Int) =
  goL (fun (i:Nat) (x:Int) (next:Option Ret) =>
    bif (x == x1_2) then
     k2_1_6 true
    else
     next) (
    k2_0_5) x0_1 0:=by
 exact range0 (f:=fun n i=>S224_l2 x0_1 x1_2 n k2_0_5 k2_1_6 i) (l:=x0_1) (fun n i h=>by
  simp only [S224_l2]
  rw [decide_eq_true (show (i:Int) < (List.length x0_1:Int) by omega)]
  simp only [cond_true,inB_nat h,Int.toNat_natCast,getD_nat _ i h]) (fun n=>by
  simp only [S224_l2]
  rw [decide_eq_false (by omega)]
  simp only [cond_false]) hl x0_1 0 n rfl (by omega) hn
theorem S178_l7_r {N:Nat} {x0_6:(List QIILIE)} {x3_7:Int} {k7_0_11:Option Ret} {k7_1_12:Bool→Option Ret} (hc0:(inB x3_7 (List.length x0_6))=true) (hl:(List.length (List.getD x0_6 (Int.toNat x3_7) zQIILIE).2.2)≤maxLen) {n:Nat} (hn:(List.length (List.getD x0_6 (Int.toNat x3_7) zQIILIE).2.2) < n):S178_l7 N x0_6 x3_7 n k7_0_11 k7_1_12 (0:Int) =
  goL (fun (i:Nat) (x : _) (next:Option Ret) =>
    S195 N x (1:Int) (99:Int) (fun (r63_10:Bool) =>
     bif (!r63_10) then
      k7_1_12 false
     else
      bif (decide ((i:Int) > (0:Int))) then
       bif (inB (IntKind.wrap .i64 ((i:Int) - (1:Int))) (List.length (List.getD x0_6 (Int.toNat x3_7) zQIILIE).2.2)) then
        bif (decide ((List.getD (List.getD x0_6 (Int.toNat x3_7) zQIILIE).2.2 (Int.toNat (IntKind.wrap .i64 ((i:Int) - (1:Int)))) (0:Int)) ≥ x)) then
         k7_1_12 false
        else
         next
       else none
      else
       next)) (
    k7_0_11) ((List.getD x0_6 (Int.toNat x3_7) zQIILIE).2.2) 0:=by
 exact range0 (f:=fun n i=>S178_l7 N x0_6 x3_7 n k7_0_11 k7_1_12 i) (l:=((List.getD x0_6 (Int.toNat x3_7) zQIILIE).2.2)) (fun n i h=>by
  simp only [S178_l7,hc0,cond_true]
  rw [decide_eq_true (show (i:Int) < (List.length ((List.getD x0_6 (Int.toNat x3_7) zQIILIE).2.2):Int) by omega)]
  simp only [cond_true,inB_nat h,Int.toNat_natCast,getD_nat _ i h]) (fun n=>by
  simp only [S178_l7,hc0,cond_true]
  rw [decide_eq_false (by omega)]
  simp only [cond_false]) hl ((List.getD x0_6 (Int.toNat x3_7) zQIILIE).2.2) 0 n rfl (by omega) hn
theorem S178_l2_r {N:Nat} {x0_1:(List QIILIE)} {k2_0_15:Option Ret} {k2_1_16:Bool→Option Ret} (hl:(List.length x0_1)≤maxLen) {n:Nat} (hn:(List.length x0_1) < n):S178_l2 N x0_1 n k2_0_15 k2_1_16 (0:Int) =
  goL (fun (i:Nat) (x:QIILIE) (next:Option Ret) =>
    S195 N x.1 (1:Int) (99:Int) (fun (r16_4:Bool) =>
     bif (!r16_4) then
      k2_1_16 false
     else
      S195 N x.2.1 (1:Int) (99:Int) (fun (r24_5:Bool) =>
       bif (!r24_5) then
        k2_1_16 false
       else
        bif (decide ((i:Int) > (0:Int))) then
         bif (inB (IntKind.wrap .i64 ((i:Int) - (1:Int))) (List.length x0_1)) then
          bif (decide ((List.getD x0_1 (Int.toNat (IntKind.wrap .i64 ((i:Int) - (1:Int)))) zQIILIE).1 ≥ x.1)) then
           k2_1_16 false
          else
           S178_l7 N x0_1 (i:Int) N next k2_1_16 (0:Int)
         else none
        else
         S178_l7 N x0_1 (i:Int) N next k2_1_16 (0:Int)))) (
    k2_0_15) x0_1 0:=by
 exact range0 (f:=fun n i=>S178_l2 N x0_1 n k2_0_15 k2_1_16 i) (l:=x0_1) (fun n i h=>by
  simp only [S178_l2]
  rw [decide_eq_true (show (i:Int) < (List.length x0_1:Int) by omega)]
  simp only [cond_true,inB_nat h,Int.toNat_natCast,getD_nat _ i h]) (fun n=>by
  simp only [S178_l2]
  rw [decide_eq_false (by omega)]
  simp only [cond_false]) hl x0_1 0 n rfl (by omega) hn
theorem S248_l3_r {N:Nat} {x0_1:(List Int)} {k3_0_6:Int→Option Ret} {x3_2:Int} (hl:(List.length x0_1)≤maxLen) {n:Nat} (hn:(List.length x0_1) < n):S248_l3 N x0_1 n k3_0_6 x3_2 (0:Int) =
  goL1 (fun (i:Nat) (x:Int) (x3_2:Int) (next:Int→Option Ret) =>
    S261 N x (2147483647:Int) (fun (r17_5:Int) =>
     next (Int.tmod (IntKind.wrap .i64 ((IntKind.wrap .i64 ((IntKind.wrap .i64 (x3_2 * (1000003:Int))) + r17_5)) + (13:Int))) (2147483647:Int)))) (fun (x3_2:Int) =>
    k3_0_6 x3_2) x0_1 0 x3_2:=by
 exact range1 (f:=fun n x3_2 i=>S248_l3 N x0_1 n k3_0_6 x3_2 i) (l:=x0_1) (fun n i x3_2 h=>by
  simp only [S248_l3]
  rw [decide_eq_true (show (i:Int) < (List.length x0_1:Int) by omega)]
  simp only [cond_true,inB_nat h,Int.toNat_natCast,getD_nat _ i h]) (fun n x3_2=>by
  simp only [S248_l3]
  rw [decide_eq_false (by omega)]
  simp only [cond_false]) hl x0_1 0 n x3_2 rfl (by omega) hn
theorem S158_l3_r {N:Nat} {x0_1:(List QIIIIE)} {k3_0_8:Option Ret} {k3_1_9:Bool→Option Ret} {x3_2:Int} (hl:(List.length x0_1)≤maxLen) {n:Nat} (hn:(List.length x0_1) < n):S158_l3 N x0_1 n k3_0_8 k3_1_9 x3_2 (0:Int) =
  goL1 (fun (i:Nat) (x:QIIIIE) (x3_2:Int) (next:Int→Option Ret) =>
    bif (decide ((List.length x0_1:Int)≤(200:Int))) then
     S218 N x3_2 x (fun (r23_5:Int) =>
      bif (x.1 != (IntKind.wrap .i64 ((i:Int) + (1:Int)))) then
       k3_1_9 false
      else
       S195 N x.2.1 (1:Int) (9:Int) (fun (r32_6:Bool) =>
        bif (!r32_6) then
         k3_1_9 false
        else
         S195 N x.2.2.1 (0:Int) (99:Int) (fun (r38_7:Bool) =>
          bif (!r38_7) then
           k3_1_9 false
          else
           bif (x.2.2.2 != r23_5) then
            k3_1_9 false
           else
            next r23_5)))
    else
     k3_0_8) (fun (x3_2:Int) =>
    k3_0_8) x0_1 0 x3_2:=by
 exact range1 (f:=fun n x3_2 i=>S158_l3 N x0_1 n k3_0_8 k3_1_9 x3_2 i) (l:=x0_1) (fun n i x3_2 h=>by
  simp only [S158_l3]
  rw [decide_eq_true (show (i:Int) < (List.length x0_1:Int) by omega)]
  simp only [cond_true,inB_nat h,Int.toNat_natCast,getD_nat _ i h]) (fun n x3_2=>by
  simp only [S158_l3]
  rw [decide_eq_false (by omega)]
  simp only [cond_false]) hl x0_1 0 n x3_2 rfl (by omega) hn
theorem S196_l3_r {N:Nat} {x0_1:(List QIIIIILIE)} {k3_0_6:Int→Option Ret} {x3_2:Int} (hl:(List.length x0_1)≤maxLen) {n:Nat} (hn:(List.length x0_1) < n):S196_l3 N x0_1 n k3_0_6 x3_2 (0:Int) =
  goL1 (fun (i:Nat) (x:QIIIIILIE) (x3_2:Int) (next:Int→Option Ret) =>
    S175 N x0_1 (fun (r11_5:Bool) =>
     bif r11_5 then
      next (IntKind.wrap .i64 (x3_2 + x.2.2.1))
     else
      k3_0_6 x3_2)) (fun (x3_2:Int) =>
    k3_0_6 x3_2) x0_1 0 x3_2:=by
 exact range1 (f:=fun n x3_2 i=>S196_l3 N x0_1 n k3_0_6 x3_2 i) (l:=x0_1) (fun n i x3_2 h=>by
  simp only [S196_l3]
  rw [decide_eq_true (show (i:Int) < (List.length x0_1:Int) by omega)]
  simp only [cond_true,inB_nat h,Int.toNat_natCast,getD_nat _ i h]) (fun n x3_2=>by
  simp only [S196_l3]
  rw [decide_eq_false (by omega)]
  simp only [cond_false]) hl x0_1 0 n x3_2 rfl (by omega) hn
theorem S197_l3_r {N:Nat} {x0_1:(List QIIIIILIE)} {x1_2:(List QIIE)} {k3_0_9:(List Int)→Option Ret} {k3_1_10:Bool→Option Ret} {x5_3:(List Int)} (hl:(List.length x1_2)≤maxLen) {n:Nat} (hn:(List.length x1_2) < n):S197_l3 N x0_1 x1_2 n k3_0_9 k3_1_10 x5_3 (0:Int) =
  goL1 (fun (i:Nat) (x:QIIE) (x5_3:(List Int)) (next:(List Int)→Option Ret) =>
    S221 N x0_1 x.1 x.2 (fun (r25_6:Bool) =>
     bif (!r25_6) then
      k3_1_10 false
     else
      S224 N x5_3 x.1 (fun (r34_7:Bool) =>
       bif r34_7 then
        k3_1_10 false
       else
        S224 N x5_3 x.2 (fun (r43_8:Bool) =>
         bif r43_8 then
          k3_1_10 false
         else
          bif (decide ((List.length x5_3 + List.length [x.1,x.2]) * 1≤4398046511104)) then
           next (x5_3 ++ [x.1,x.2])
          else none)))) (fun (x5_3:(List Int)) =>
    k3_0_9 x5_3) x1_2 0 x5_3:=by
 exact range1 (f:=fun n x5_3 i=>S197_l3 N x0_1 x1_2 n k3_0_9 k3_1_10 x5_3 i) (l:=x1_2) (fun n i x5_3 h=>by
  simp only [S197_l3]
  rw [decide_eq_true (show (i:Int) < (List.length x1_2:Int) by omega)]
  simp only [cond_true,inB_nat h,Int.toNat_natCast,getD_nat _ i h]) (fun n x5_3=>by
  simp only [S197_l3]
  rw [decide_eq_false (by omega)]
  simp only [cond_false]) hl x1_2 0 n x5_3 rfl (by omega) hn
theorem S126_l2_r {x0_1:(List QIILIE)} {x1_2:Int} {k2_0_5:Option Ret} {k2_1_6:Int→Option Ret} (hl:(List.length x0_1)≤maxLen) {n:Nat} (hn:(List.length x0_1) < n):S126_l2 x0_1 x1_2 n k2_0_5 k2_1_6 (0:Int) =
  goL (fun (i:Nat) (x:QIILIE) (next:Option Ret) =>
    bif (x.1 == x1_2) then
     k2_1_6 (i:Int)
    else
     next) (
    k2_0_5) x0_1 0:=by
 exact range0 (f:=fun n i=>S126_l2 x0_1 x1_2 n k2_0_5 k2_1_6 i) (l:=x0_1) (fun n i h=>by
  simp only [S126_l2]
  rw [decide_eq_true (show (i:Int) < (List.length x0_1:Int) by omega)]
  simp only [cond_true,inB_nat h,Int.toNat_natCast,getD_nat _ i h]) (fun n=>by
  simp only [S126_l2]
  rw [decide_eq_false (by omega)]
  simp only [cond_false]) hl x0_1 0 n rfl (by omega) hn
theorem S198_l4_r {N:Nat} {x0_2:(List QIIIIILIE)} {x1_3:(List QIILIE)} {x2_4:(List QIIE)} {x3_5:(List Int)} {k4_0_11:Option Ret} {k4_1_12:Bool→Option Ret} (hl:(List.length x2_4)≤maxLen) {n:Nat} (hn:(List.length x2_4) < n):S198_l4 N x0_2 x1_3 x2_4 x3_5 n k4_0_11 k4_1_12 (0:Int) =
  goL (fun (i:Nat) (x:QIIE) (next:Option Ret) =>
    bif (inB (i:Int) (List.length x3_5)) then
     S126 N x1_3 (List.getD x3_5 (Int.toNat (i:Int)) (0:Int)) (fun (r32_8:Int) =>
      bif (decide (r32_8 < (0:Int))) then
       k4_1_12 false
      else
       bif (decide ((0:Int)≤(0:Int)) && decide ((0:Int)≤(i:Int)) && decide ((i:Int)≤(List.length x3_5:Int))) then
        bif (inB (i:Int) (List.length x3_5)) then
         S224 N (List.drop (Int.toNat (0:Int)) (List.take (Int.toNat (i:Int)) x3_5)) (List.getD x3_5 (Int.toNat (i:Int)) (0:Int)) (fun (r43_9:Bool) =>
          bif r43_9 then
           k4_1_12 false
          else
           bif (inB r32_8 (List.length x1_3)) then
            S225 N x0_2 (List.getD x1_3 (Int.toNat r32_8) zQIILIE) x (fun (r55_10:Bool) =>
             bif (!r55_10) then
              k4_1_12 false
             else
              next)
           else none)
        else none
       else none)
    else none) (
    k4_0_11) x2_4 0:=by
 exact range0 (f:=fun n i=>S198_l4 N x0_2 x1_3 x2_4 x3_5 n k4_0_11 k4_1_12 i) (l:=x2_4) (fun n i h=>by
  simp only [S198_l4]
  rw [decide_eq_true (show (i:Int) < (List.length x2_4:Int) by omega)]
  simp only [cond_true,inB_nat h,Int.toNat_natCast,getD_nat _ i h]) (fun n=>by
  simp only [S198_l4]
  rw [decide_eq_false (by omega)]
  simp only [cond_false]) hl x2_4 0 n rfl (by omega) hn
theorem S122_l7_r {N:Nat} {x1_8:QLQIIIIILIELQIILIELQIIELILQIIIELQIIIIEIE} {x3_9:QIIIE} {k7_0_13:Option Ret} {k7_1_14:Bool→Option Ret} (hl:(List.length x1_8.2.2.2.2.1)≤maxLen) {n:Nat} (hn:(List.length x1_8.2.2.2.2.1) < n):S122_l7 N x1_8 x3_9 n k7_0_13 k7_1_14 (0:Int) =
  goL (fun (i:Nat) (x : _) (next:Option Ret) =>
    bif (!((decide ((x.1:Int)=x3_9.1)) && ((decide ((x.2.1:Int)=x3_9.2.1)) && (decide ((x.2.2:Int)=x3_9.2.2))))) then
     S199 N x (fun (r98_12:Bool) =>
      bif (!r98_12) then
       k7_1_14 false
      else
       bif (inB (i:Int) (List.length x1_8.2.2.2.1)) then
        bif (x.1 != (List.getD x1_8.2.2.2.1 (Int.toNat (i:Int)) (0:Int))) then
         k7_1_14 false
        else
         next
       else none)
    else
     next) (
    k7_0_13) x1_8.2.2.2.2.1 0:=by
 exact range0 (f:=fun n i=>S122_l7 N x1_8 x3_9 n k7_0_13 k7_1_14 i) (l:=x1_8.2.2.2.2.1) (fun n i h=>by
  simp only [S122_l7]
  rw [decide_eq_true (show (i:Int) < (List.length x1_8.2.2.2.2.1:Int) by omega)]
  simp only [cond_true,inB_nat h,Int.toNat_natCast,getD_nat _ i h]) (fun n=>by
  simp only [S122_l7]
  rw [decide_eq_false (by omega)]
  simp only [cond_false]) hl x1_8.2.2.2.2.1 0 n rfl (by omega) hn
theorem I163_l3_r {N:Nat} {x7_2:(List QIIIIILIE)} {k3_0_7:(List QIIIIILIE)→Option Ret} {x3_1:(List QIIIIILIE)} (hl:(List.length x7_2)≤maxLen) {n:Nat} (hn:(List.length x7_2) < n):I163_l3 N x7_2 (List.length x7_2:Int) n k3_0_7 x3_1 (0:Int) =
  goL1 (fun (i:Nat) (x:QIIIIILIE) (x3_1:(List QIIIIILIE)) (next:(List QIIIIILIE)→Option Ret) =>
    S166 N x.2.2.2.2.2 (fun (r15_6:(List Int)) =>
     bif (decide ((List.length x3_1 + List.length [(x.1,(x.2.1,(x.2.2.1,(x.2.2.2.1,(x.2.2.2.2.1,r15_6)))))]) * 6≤4398046511104)) then
      next (x3_1 ++ [(x.1,(x.2.1,(x.2.2.1,(x.2.2.2.1,(x.2.2.2.2.1,r15_6)))))])
     else none)) (fun (x3_1:(List QIIIIILIE)) =>
    k3_0_7 x3_1) x7_2 0 x3_1:=by
 exact range1 (f:=fun n x3_1 i=>I163_l3 N x7_2 (List.length x7_2:Int) n k3_0_7 x3_1 i) (l:=x7_2) (fun n i x3_1 h=>by
  simp only [I163_l3]
  rw [decide_eq_true (show (i:Int) < (List.length x7_2:Int) by omega)]
  simp only [cond_true,inB_nat h,Int.toNat_natCast,getD_nat _ i h]) (fun n x3_1=>by
  simp only [I163_l3]
  rw [decide_eq_false (by omega)]
  simp only [cond_false]) hl x7_2 0 n x3_1 rfl (by omega) hn
theorem I164_l3_r {N:Nat} {x7_2:(List QIILIE)} {k3_0_7:(List QIILIE)→Option Ret} {x3_1:(List QIILIE)} (hl:(List.length x7_2)≤maxLen) {n:Nat} (hn:(List.length x7_2) < n):I164_l3 N x7_2 (List.length x7_2:Int) n k3_0_7 x3_1 (0:Int) =
  goL1 (fun (i:Nat) (x:QIILIE) (x3_1:(List QIILIE)) (next:(List QIILIE)→Option Ret) =>
    S166 N x.2.2 (fun (r15_6:(List Int)) =>
     bif (decide ((List.length x3_1 + List.length [(x.1,(x.2.1,r15_6))]) * 3≤4398046511104)) then
      next (x3_1 ++ [(x.1,(x.2.1,r15_6))])
     else none)) (fun (x3_1:(List QIILIE)) =>
    k3_0_7 x3_1) x7_2 0 x3_1:=by
 exact range1 (f:=fun n x3_1 i=>I164_l3 N x7_2 (List.length x7_2:Int) n k3_0_7 x3_1 i) (l:=x7_2) (fun n i x3_1 h=>by
  simp only [I164_l3]
  rw [decide_eq_true (show (i:Int) < (List.length x7_2:Int) by omega)]
  simp only [cond_true,inB_nat h,Int.toNat_natCast,getD_nat _ i h]) (fun n x3_1=>by
  simp only [I164_l3]
  rw [decide_eq_false (by omega)]
  simp only [cond_false]) hl x7_2 0 n x3_1 rfl (by omega) hn
theorem S146_l2_r {N:Nat} {x0_1:(List QIIIIILIE)} {x1_2:Int} {k2_0_7:Option Ret} {k2_1_8:Int→Option Ret} (hl:(List.length x0_1)≤maxLen) {n:Nat} (hn:(List.length x0_1) < n):S146_l2 N x0_1 x1_2 (List.length x0_1:Int) n k2_0_7 k2_1_8 (0:Int) =
  goL (fun (i:Nat) (x:QIIIIILIE) (next:Option Ret) =>
    I147 N x x1_2 (fun (r16_6:Bool) =>
     bif r16_6 then
      k2_1_8 (i:Int)
     else
      next)) (
    k2_0_7) x0_1 0:=by
 exact range0 (f:=fun n i=>S146_l2 N x0_1 x1_2 (List.length x0_1:Int) n k2_0_7 k2_1_8 i) (l:=x0_1) (fun n i h=>by
  simp only [S146_l2]
  rw [decide_eq_true (show (i:Int) < (List.length x0_1:Int) by omega)]
  simp only [cond_true,inB_nat h,Int.toNat_natCast,getD_nat _ i h]) (fun n=>by
  simp only [S146_l2]
  rw [decide_eq_false (by omega)]
  simp only [cond_false]) hl x0_1 0 n rfl (by omega) hn
theorem I78_l3_r {x1_1:Int} {x8_3:(List Int)} {k3_0_8:Int→Option Ret} {x5_2:Int} (hl:(List.length x8_3)≤maxLen) {n:Nat} (hn:(List.length x8_3) < n):I78_l3 x1_1 x8_3 (List.length x8_3:Int) n k3_0_8 x5_2 (0:Int) =
  goL1 (fun (i:Nat) (x:Int) (x5_2:Int) (next:Int→Option Ret) =>
    bif (x == x1_1) then
     next (IntKind.wrap .i64 (x5_2 + (1:Int)))
    else
     next x5_2) (fun (x5_2:Int) =>
    k3_0_8 x5_2) x8_3 0 x5_2:=by
 exact range1 (f:=fun n x5_2 i=>I78_l3 x1_1 x8_3 (List.length x8_3:Int) n k3_0_8 x5_2 i) (l:=x8_3) (fun n i x5_2 h=>by
  simp only [I78_l3]
  rw [decide_eq_true (show (i:Int) < (List.length x8_3:Int) by omega)]
  simp only [cond_true,inB_nat h,Int.toNat_natCast,getD_nat _ i h]) (fun n x5_2=>by
  simp only [I78_l3]
  rw [decide_eq_false (by omega)]
  simp only [cond_false]) hl x8_3 0 n x5_2 rfl (by omega) hn
theorem I143_l10_r {N:Nat} {x0_16:(List QIIIIILIE)} {x4_17:QIIIIILIE} {x12_18:(List QIIIIILIE)} {x13_19:Int} {x14_20:Int} {x72_21:(List Int)} {k10_0_28:Option Ret} {k10_1_29:Bool→Option Ret} (hl:(List.length x72_21)≤maxLen) {n:Nat} (hn:(List.length x72_21) < n):I143_l10 N x0_16 x4_17 x12_18 x13_19 x14_20 x72_21 (List.length x72_21:Int) n k10_0_28 k10_1_29 (0:Int) =
  goL (fun (i:Nat) (x:Int) (next:Option Ret) =>
    I40 N x0_16 x (fun (r80_25:Int) =>
     bif (decide (r80_25 < (0:Int))) then
      k10_1_29 false
     else
      bif (x == x4_17.1) then
       k10_1_29 false
      else
       bif (inB r80_25 (List.length x0_16)) then
        I78 N x4_17.2.2.2.2.2 x (fun (r93_26:Int) =>
         I78 N (List.getD x0_16 (Int.toNat r80_25) zQIIIIILIE).2.2.2.2.2 x4_17.1 (fun (r101_27:Int) =>
          bif (r93_26 != r101_27) then
           k10_1_29 false
          else
           next))
       else none)) (
    k10_0_28) x72_21 0:=by
 exact range0 (f:=fun n i=>I143_l10 N x0_16 x4_17 x12_18 x13_19 x14_20 x72_21 (List.length x72_21:Int) n k10_0_28 k10_1_29 i) (l:=x72_21) (fun n i h=>by
  simp only [I143_l10]
  rw [decide_eq_true (show (i:Int) < (List.length x72_21:Int) by omega)]
  simp only [cond_true,inB_nat h,Int.toNat_natCast,getD_nat _ i h]) (fun n=>by
  simp only [I143_l10]
  rw [decide_eq_false (by omega)]
  simp only [cond_false]) hl x72_21 0 n rfl (by omega) hn
theorem I143_l4_r {N:Nat} {x0_1:(List QIIIIILIE)} {x12_2:(List QIIIIILIE)} {k4_0_32:Option Ret} {k4_1_33:Bool→Option Ret} (hl:(List.length x12_2)≤maxLen) {n:Nat} (hn:(List.length x12_2) < n):I143_l4 N x0_1 x12_2 (List.length x12_2:Int) n k4_0_32 k4_1_33 (0:Int) =
  goL (fun (i:Nat) (x:QIIIIILIE) (next:Option Ret) =>
    I144 N x.1 (1:Int) (99:Int) (fun (r24_6:Bool) =>
     bif (!r24_6) then
      k4_1_33 false
     else
      bif (decide ((i:Int) > (0:Int))) then
       bif (inB (IntKind.wrap .i64 ((i:Int) - (1:Int))) (List.length x0_1)) then
        bif (decide (x.1≤(List.getD x0_1 (Int.toNat (IntKind.wrap .i64 ((i:Int) - (1:Int)))) zQIIIIILIE).1)) then
         k4_1_33 false
        else
         I144 N x.2.1 (1:Int) (99:Int) (fun (r44_7:Bool) =>
          bif (!r44_7) then
           k4_1_33 false
          else
           bif (decide ((List.length x.2.2.2.2.2:Int) > (20:Int))) then
            k4_1_33 false
           else
            I144 N x.2.2.1 (0:Int) (List.length x.2.2.2.2.2:Int) (fun (r55_8:Bool) =>
             bif (!r55_8) then
              k4_1_33 false
             else
              I144 N x.2.2.2.2.1 (0:Int) (List.length x.2.2.2.2.2:Int) (fun (r62_9:Bool) =>
               bif (!r62_9) then
                k4_1_33 false
               else
                I144 N x.2.2.2.1 (0:Int) (100000:Int) (fun (r68_10:Bool) =>
                 bif (!r68_10) then
                  k4_1_33 false
                 else
                  I143_l10 N x0_1 x x12_2 (List.length x12_2:Int) (i:Int) x.2.2.2.2.2 (List.length x.2.2.2.2.2:Int) N next k4_1_33 (0:Int)))))
       else none
      else
       I144 N x.2.1 (1:Int) (99:Int) (fun (r44_11:Bool) =>
        bif (!r44_11) then
         k4_1_33 false
        else
         bif (decide ((List.length x.2.2.2.2.2:Int) > (20:Int))) then
          k4_1_33 false
         else
          I144 N x.2.2.1 (0:Int) (List.length x.2.2.2.2.2:Int) (fun (r55_12:Bool) =>
           bif (!r55_12) then
            k4_1_33 false
           else
            I144 N x.2.2.2.2.1 (0:Int) (List.length x.2.2.2.2.2:Int) (fun (r62_13:Bool) =>
             bif (!r62_13) then
              k4_1_33 false
             else
              I144 N x.2.2.2.1 (0:Int) (100000:Int) (fun (r68_14:Bool) =>
               bif (!r68_14) then
                k4_1_33 false
               else
                I143_l10 N x0_1 x x12_2 (List.length x12_2:Int) (i:Int) x.2.2.2.2.2 (List.length x.2.2.2.2.2:Int) N next k4_1_33 (0:Int))))))) (
    k4_0_32) x12_2 0:=by
 exact range0 (f:=fun n i=>I143_l4 N x0_1 x12_2 (List.length x12_2:Int) n k4_0_32 k4_1_33 i) (l:=x12_2) (fun n i h=>by
  simp only [I143_l4,I143_j1]
  rw [decide_eq_true (show (i:Int) < (List.length x12_2:Int) by omega)]
  simp only [cond_true,inB_nat h,Int.toNat_natCast,getD_nat _ i h]) (fun n=>by
  simp only [I143_l4,I143_j1]
  rw [decide_eq_false (by omega)]
  simp only [cond_false]) hl x12_2 0 n rfl (by omega) hn
theorem I79_l9_r {N:Nat} {x0_10:(List QIILIE)} {x4_11:QIILIE} {x10_12:(List QIILIE)} {x11_13:Int} {x12_14:Int} {x43_15:(List Int)} {k9_0_20:Option Ret} {k9_1_21:Bool→Option Ret} (hl:(List.length x43_15)≤maxLen) {n:Nat} (hn:(List.length x43_15) < n):I79_l9 N x0_10 x4_11 x10_12 x11_13 x12_14 x43_15 (List.length x43_15:Int) n k9_0_20 k9_1_21 (0:Int) =
  goL (fun (i:Nat) (x:Int) (next:Option Ret) =>
    I144 N x (1:Int) (99:Int) (fun (r51_19:Bool) =>
     bif (!r51_19) then
      k9_1_21 false
     else
      bif (decide ((i:Int) > (0:Int))) then
       bif (inB (IntKind.wrap .i64 ((i:Int) - (1:Int))) (List.length x4_11.2.2)) then
        bif (decide (x≤(List.getD x4_11.2.2 (Int.toNat (IntKind.wrap .i64 ((i:Int) - (1:Int)))) (0:Int)))) then
         k9_1_21 false
        else
         next
       else none
      else
       next)) (
    k9_0_20) x43_15 0:=by
 exact range0 (f:=fun n i=>I79_l9 N x0_10 x4_11 x10_12 x11_13 x12_14 x43_15 (List.length x43_15:Int) n k9_0_20 k9_1_21 i) (l:=x43_15) (fun n i h=>by
  simp only [I79_l9]
  rw [decide_eq_true (show (i:Int) < (List.length x43_15:Int) by omega)]
  simp only [cond_true,inB_nat h,Int.toNat_natCast,getD_nat _ i h]) (fun n=>by
  simp only [I79_l9]
  rw [decide_eq_false (by omega)]
  simp only [cond_false]) hl x43_15 0 n rfl (by omega) hn
theorem I79_l4_r {N:Nat} {x0_1:(List QIILIE)} {x10_2:(List QIILIE)} {k4_0_24:Option Ret} {k4_1_25:Bool→Option Ret} (hl:(List.length x10_2)≤maxLen) {n:Nat} (hn:(List.length x10_2) < n):I79_l4 N x0_1 x10_2 (List.length x10_2:Int) n k4_0_24 k4_1_25 (0:Int) =
  goL (fun (i:Nat) (x:QIILIE) (next:Option Ret) =>
    I144 N x.1 (1:Int) (99:Int) (fun (r19_6:Bool) =>
     bif (!r19_6) then
      k4_1_25 false
     else
      bif (decide ((i:Int) > (0:Int))) then
       bif (inB (IntKind.wrap .i64 ((i:Int) - (1:Int))) (List.length x0_1)) then
        bif (decide (x.1≤(List.getD x0_1 (Int.toNat (IntKind.wrap .i64 ((i:Int) - (1:Int)))) zQIILIE).1)) then
         k4_1_25 false
        else
         I144 N x.2.1 (1:Int) (99:Int) (fun (r39_7:Bool) =>
          bif (!r39_7) then
           k4_1_25 false
          else
           I79_l9 N x0_1 x x10_2 (List.length x10_2:Int) (i:Int) x.2.2 (List.length x.2.2:Int) N next k4_1_25 (0:Int))
       else none
      else
       I144 N x.2.1 (1:Int) (99:Int) (fun (r39_8:Bool) =>
        bif (!r39_8) then
         k4_1_25 false
        else
         I79_l9 N x0_1 x x10_2 (List.length x10_2:Int) (i:Int) x.2.2 (List.length x.2.2:Int) N next k4_1_25 (0:Int)))) (
    k4_0_24) x10_2 0:=by
 exact range0 (f:=fun n i=>I79_l4 N x0_1 x10_2 (List.length x10_2:Int) n k4_0_24 k4_1_25 i) (l:=x10_2) (fun n i h=>by
  simp only [I79_l4,I79_j1]
  rw [decide_eq_true (show (i:Int) < (List.length x10_2:Int) by omega)]
  simp only [cond_true,inB_nat h,Int.toNat_natCast,getD_nat _ i h]) (fun n=>by
  simp only [I79_l4,I79_j1]
  rw [decide_eq_false (by omega)]
  simp only [cond_false]) hl x10_2 0 n rfl (by omega) hn
theorem I219_l3_r {N:Nat} {x6_2:(List Int)} {k3_0_7:Int→Option Ret} {x3_1:Int} (hl:(List.length x6_2)≤maxLen) {n:Nat} (hn:(List.length x6_2) < n):I219_l3 N x6_2 (List.length x6_2:Int) n k3_0_7 x3_1 (0:Int) =
  goL1 (fun (i:Nat) (x:Int) (x3_1:Int) (next:Int→Option Ret) =>
    I249 N x3_1 x (fun (r14_6:Int) =>
     next r14_6)) (fun (x3_1:Int) =>
    k3_0_7 x3_1) x6_2 0 x3_1:=by
 exact range1 (f:=fun n x3_1 i=>I219_l3 N x6_2 (List.length x6_2:Int) n k3_0_7 x3_1 i) (l:=x6_2) (fun n i x3_1 h=>by
  simp only [I219_l3]
  rw [decide_eq_true (show (i:Int) < (List.length x6_2:Int) by omega)]
  simp only [cond_true,inB_nat h,Int.toNat_natCast,getD_nat _ i h]) (fun n x3_1=>by
  simp only [I219_l3]
  rw [decide_eq_false (by omega)]
  simp only [cond_false]) hl x6_2 0 n x3_1 rfl (by omega) hn
theorem I75_l5_r {N:Nat} {x9_2:(List QIIIIE)} {k5_0_9:Option Ret} {k5_1_10:Bool→Option Ret} {x3_1:Int} (hl:(List.length x9_2)≤maxLen) {n:Nat} (hn:(List.length x9_2) < n):I75_l5 N x9_2 (List.length x9_2:Int) n k5_0_9 k5_1_10 x3_1 (0:Int) =
  goL1 (fun (i:Nat) (x:QIIIIE) (x3_1:Int) (next:Int→Option Ret) =>
    bif (x.1 != (IntKind.wrap .i64 ((i:Int) + (1:Int)))) then
     k5_1_10 false
    else
     I144 N x.2.1 (1:Int) (9:Int) (fun (r24_6:Bool) =>
      bif (!r24_6) then
       k5_1_10 false
      else
       I144 N x.2.2.1 (0:Int) (99:Int) (fun (r30_7:Bool) =>
        bif (!r30_7) then
         k5_1_10 false
        else
         I169 N x3_1 x (fun (r38_8:Int) =>
          bif (x.2.2.2 != r38_8) then
           k5_1_10 false
          else
           next x.2.2.2)))) (fun (x3_1:Int) =>
    k5_0_9) x9_2 0 x3_1:=by
 exact range1 (f:=fun n x3_1 i=>I75_l5 N x9_2 (List.length x9_2:Int) n k5_0_9 k5_1_10 x3_1 i) (l:=x9_2) (fun n i x3_1 h=>by
  simp only [I75_l5]
  rw [decide_eq_true (show (i:Int) < (List.length x9_2:Int) by omega)]
  simp only [cond_true,inB_nat h,Int.toNat_natCast,getD_nat _ i h]) (fun n x3_1=>by
  simp only [I75_l5]
  rw [decide_eq_false (by omega)]
  simp only [cond_false]) hl x9_2 0 n x3_1 rfl (by omega) hn
theorem S170_l2_r {x0_1:(List Int)} {x1_2:Int} {k2_0_6:Option Ret} {k2_1_7:Int→Option Ret} (hl:(List.length x0_1)≤maxLen) {n:Nat} (hn:(List.length x0_1) < n):S170_l2 x0_1 x1_2 (List.length x0_1:Int) n k2_0_6 k2_1_7 (0:Int) =
  goL (fun (i:Nat) (x:Int) (next:Option Ret) =>
    bif (x1_2 == x) then
     k2_1_7 (i:Int)
    else
     next) (
    k2_0_6) x0_1 0:=by
 exact range0 (f:=fun n i=>S170_l2 x0_1 x1_2 (List.length x0_1:Int) n k2_0_6 k2_1_7 i) (l:=x0_1) (fun n i h=>by
  simp only [S170_l2]
  rw [decide_eq_true (show (i:Int) < (List.length x0_1:Int) by omega)]
  simp only [cond_true,inB_nat h,Int.toNat_natCast,getD_nat _ i h]) (fun n=>by
  simp only [S170_l2]
  rw [decide_eq_false (by omega)]
  simp only [cond_false]) hl x0_1 0 n rfl (by omega) hn
theorem I17_l10_r {N:Nat} {x5_13:(List Int)} {x32_14:(List QIIIIILIE)} {k10_0_19:Option Ret} {k10_1_20:Bool→Option Ret} (hl:(List.length x32_14)≤maxLen) {n:Nat} (hn:(List.length x32_14) < n):I17_l10 N x5_13 x32_14 (List.length x32_14:Int) n k10_0_19 k10_1_20 (0:Int) =
  goL (fun (i:Nat) (x:QIIIIILIE) (next:Option Ret) =>
    I78 N x5_13 x.1 (fun (r41_18:Int) =>
     bif (r41_18 != (1:Int)) then
      k10_1_20 false
     else
      next)) (
    k10_0_19) x32_14 0:=by
 exact range0 (f:=fun n i=>I17_l10 N x5_13 x32_14 (List.length x32_14:Int) n k10_0_19 k10_1_20 i) (l:=x32_14) (fun n i h=>by
  simp only [I17_l10]
  rw [decide_eq_true (show (i:Int) < (List.length x32_14:Int) by omega)]
  simp only [cond_true,inB_nat h,Int.toNat_natCast,getD_nat _ i h]) (fun n=>by
  simp only [I17_l10]
  rw [decide_eq_false (by omega)]
  simp only [cond_false]) hl x32_14 0 n rfl (by omega) hn
theorem I17_l3_r {N:Nat} {x0_1:(List QIIIIILIE)} {x11_3:(List QIIE)} {k3_0_8:(List Int)→Option Ret} {k3_1_9:Bool→Option Ret} {x5_2:(List Int)} (hl:(List.length x11_3)≤maxLen) {n:Nat} (hn:(List.length x11_3) < n):I17_l3 N x0_1 x11_3 (List.length x11_3:Int) n k3_0_8 k3_1_9 x5_2 (0:Int) =
  goL1 (fun (i:Nat) (x:QIIE) (x5_2:(List Int)) (next:(List Int)→Option Ret) =>
    I77 N x0_1 x.1 x.2 (fun (r22_7:Bool) =>
     bif (!r22_7) then
      k3_1_9 false
     else
      bif (decide ((List.length x5_2 + List.length [x.1,x.2]) * 1≤4398046511104)) then
       next (x5_2 ++ [x.1,x.2])
      else none)) (fun (x5_2:(List Int)) =>
    k3_0_8 x5_2) x11_3 0 x5_2:=by
 exact range1 (f:=fun n x5_2 i=>I17_l3 N x0_1 x11_3 (List.length x11_3:Int) n k3_0_8 k3_1_9 x5_2 i) (l:=x11_3) (fun n i x5_2 h=>by
  simp only [I17_l3]
  rw [decide_eq_true (show (i:Int) < (List.length x11_3:Int) by omega)]
  simp only [cond_true,inB_nat h,Int.toNat_natCast,getD_nat _ i h]) (fun n x5_2=>by
  simp only [I17_l3]
  rw [decide_eq_false (by omega)]
  simp only [cond_false]) hl x11_3 0 n x5_2 rfl (by omega) hn
theorem S80_l2_r {N:Nat} {x0_1:(List QIILIE)} {x1_2:Int} {k2_0_7:Option Ret} {k2_1_8:Int→Option Ret} (hl:(List.length x0_1)≤maxLen) {n:Nat} (hn:(List.length x0_1) < n):S80_l2 N x0_1 x1_2 (List.length x0_1:Int) n k2_0_7 k2_1_8 (0:Int) =
  goL (fun (i:Nat) (x:QIILIE) (next:Option Ret) =>
    I81 N x x1_2 (fun (r16_6:Bool) =>
     bif r16_6 then
      k2_1_8 (i:Int)
     else
      next)) (
    k2_0_7) x0_1 0:=by
 exact range0 (f:=fun n i=>S80_l2 N x0_1 x1_2 (List.length x0_1:Int) n k2_0_7 k2_1_8 i) (l:=x0_1) (fun n i h=>by
  simp only [S80_l2]
  rw [decide_eq_true (show (i:Int) < (List.length x0_1:Int) by omega)]
  simp only [cond_true,inB_nat h,Int.toNat_natCast,getD_nat _ i h]) (fun n=>by
  simp only [S80_l2]
  rw [decide_eq_false (by omega)]
  simp only [cond_false]) hl x0_1 0 n rfl (by omega) hn
theorem I83_l2_r {N:Nat} {x0_1:(List QIIIIILIE)} {x4_2:QIILIE} {x14_3:(List Int)} {k2_0_9:Option Ret} {k2_1_10:Bool→Option Ret} (hl:(List.length x14_3)≤maxLen) {n:Nat} (hn:(List.length x14_3) < n):I83_l2 N x0_1 x4_2 x14_3 (List.length x14_3:Int) n k2_0_9 k2_1_10 (0:Int) =
  goL (fun (i:Nat) (x:Int) (next:Option Ret) =>
    I40 N x0_1 x (fun (r22_7:Int) =>
     bif (decide (r22_7 < (0:Int))) then
      k2_1_10 false
     else
      bif (inB r22_7 (List.length x0_1)) then
       bif ((List.getD x0_1 (Int.toNat r22_7) zQIIIIILIE).2.1 == x4_2.2.1) then
        k2_1_10 false
       else
        S82 N x4_2.2.2 x (fun (r39_8:Bool) =>
         bif r39_8 then
          k2_1_10 false
         else
          next)
      else none)) (
    k2_0_9) x14_3 0:=by
 exact range0 (f:=fun n i=>I83_l2 N x0_1 x4_2 x14_3 (List.length x14_3:Int) n k2_0_9 k2_1_10 i) (l:=x14_3) (fun n i h=>by
  simp only [I83_l2]
  rw [decide_eq_true (show (i:Int) < (List.length x14_3:Int) by omega)]
  simp only [cond_true,inB_nat h,Int.toNat_natCast,getD_nat _ i h]) (fun n=>by
  simp only [I83_l2]
  rw [decide_eq_false (by omega)]
  simp only [cond_false]) hl x14_3 0 n rfl (by omega) hn
theorem I18_l4_r {N:Nat} {x0_2:(List QIIIIILIE)} {x1_3:(List QIILIE)} {x2_4:(List QIIE)} {x3_5:(List Int)} {x22_6:(List Int)} {k4_0_13:Option Ret} {k4_1_14:Bool→Option Ret} (hl:(List.length x22_6)≤maxLen) {n:Nat} (hn:(List.length x22_6) < n):I18_l4 N x0_2 x1_3 x2_4 x3_5 x22_6 (List.length x22_6:Int) n k4_0_13 k4_1_14 (0:Int) =
  goL (fun (i:Nat) (x:Int) (next:Option Ret) =>
    S80 N x1_3 x (fun (r31_10:Int) =>
     bif (decide (r31_10 < (0:Int))) then
      k4_1_14 false
     else
      bif (decide ((0:Int)≤(0:Int)) && decide ((0:Int)≤(i:Int)) && decide ((i:Int)≤(List.length x3_5:Int))) then
       S82 N (List.drop (Int.toNat (0:Int)) (List.take (Int.toNat (i:Int)) x3_5)) x (fun (r39_11:Bool) =>
        bif r39_11 then
         k4_1_14 false
        else
         bif (inB r31_10 (List.length x1_3)) then
          bif (inB (i:Int) (List.length x2_4)) then
           I83 N x0_2 (List.getD x1_3 (Int.toNat r31_10) zQIILIE) (List.getD x2_4 (Int.toNat (i:Int)) zQIIE) (fun (r51_12:Bool) =>
            bif (!r51_12) then
             k4_1_14 false
            else
             next)
          else none
         else none)
      else none)) (
    k4_0_13) x22_6 0:=by
 exact range0 (f:=fun n i=>I18_l4 N x0_2 x1_3 x2_4 x3_5 x22_6 (List.length x22_6:Int) n k4_0_13 k4_1_14 i) (l:=x22_6) (fun n i h=>by
  simp only [I18_l4]
  rw [decide_eq_true (show (i:Int) < (List.length x22_6:Int) by omega)]
  simp only [cond_true,inB_nat h,Int.toNat_natCast,getD_nat _ i h]) (fun n=>by
  simp only [I18_l4]
  rw [decide_eq_false (by omega)]
  simp only [cond_false]) hl x22_6 0 n rfl (by omega) hn
theorem I145_l5_r {x10_3:(List QIIIIILIE)} {k5_0_7:Int→Option Ret} {x3_2:Int} (hl:(List.length x10_3)≤maxLen) {n:Nat} (hn:(List.length x10_3) < n):I145_l5 x10_3 (List.length x10_3:Int) n k5_0_7 x3_2 (0:Int) =
  goL1 (fun (i:Nat) (x:QIIIIILIE) (x3_2:Int) (next:Int→Option Ret) =>
    next (IntKind.wrap .i64 (x3_2 + x.2.2.1))) (fun (x3_2:Int) =>
    k5_0_7 x3_2) x10_3 0 x3_2:=by
 exact range1 (f:=fun n x3_2 i=>I145_l5 x10_3 (List.length x10_3:Int) n k5_0_7 x3_2 i) (l:=x10_3) (fun n i x3_2 h=>by
  simp only [I145_l5]
  rw [decide_eq_true (show (i:Int) < (List.length x10_3:Int) by omega)]
  simp only [cond_true,inB_nat h,Int.toNat_natCast,getD_nat _ i h]) (fun n x3_2=>by
  simp only [I145_l5]
  rw [decide_eq_false (by omega)]
  simp only [cond_false]) hl x10_3 0 n x3_2 rfl (by omega) hn
theorem I39_l6_r {N:Nat} {x1_7:QLQIIIIILIELQIILIELQIIELILQIIIELQIIIIEIE} {x62_8:(List QIIIE)} {k6_0_13:Option Ret} {k6_1_14:Bool→Option Ret} (hl:(List.length x62_8)≤maxLen) {n:Nat} (hn:(List.length x62_8) < n):I39_l6 N x1_7 x62_8 (List.length x62_8:Int) n k6_0_13 k6_1_14 (0:Int) =
  goL (fun (i:Nat) (x:QIIIE) (next:Option Ret) =>
    bif (!((decide ((x.1:Int)=(0:Int))) && ((decide ((x.2.1:Int)=(0:Int))) && (decide ((x.2.2:Int)=(0:Int)))))) then
     I138 N x (fun (r74_12:Bool) =>
      bif (!r74_12) then
       k6_1_14 false
      else
       bif (inB (i:Int) (List.length x1_7.2.2.2.1)) then
        bif (x.1 != (List.getD x1_7.2.2.2.1 (Int.toNat (i:Int)) (0:Int))) then
         k6_1_14 false
        else
         next
       else none)
    else
     next) (
    k6_0_13) x62_8 0:=by
 exact range0 (f:=fun n i=>I39_l6 N x1_7 x62_8 (List.length x62_8:Int) n k6_0_13 k6_1_14 i) (l:=x62_8) (fun n i h=>by
  simp only [I39_l6]
  rw [decide_eq_true (show (i:Int) < (List.length x62_8:Int) by omega)]
  simp only [cond_true,inB_nat h,Int.toNat_natCast,getD_nat _ i h]) (fun n=>by
  simp only [I39_l6]
  rw [decide_eq_false (by omega)]
  simp only [cond_false]) hl x62_8 0 n rfl (by omega) hn
theorem L107_l4_r {x0_1:(List Int)} {x1_2:(List Int)} {k4_0_5:Option Ret} {k4_1_6:Bool→Option Ret} (hl:(List.length x0_1)≤maxLen) {n:Nat} (hn:(List.length x0_1) < n):L107_l4 x0_1 x1_2 n k4_0_5 k4_1_6 (0:Int) =
  goL (fun (i:Nat) (x:Int) (next:Option Ret) =>
    bif (inB (i:Int) (List.length x1_2)) then
     bif (x != (List.getD x1_2 (Int.toNat (i:Int)) (0:Int))) then
      k4_1_6 false
     else
      next
    else none) (
    k4_0_5) x0_1 0:=by
 exact range0 (f:=fun n i=>L107_l4 x0_1 x1_2 n k4_0_5 k4_1_6 i) (l:=x0_1) (fun n i h=>by
  simp only [L107_l4]
  rw [decide_eq_true (show (i:Int) < (List.length x0_1:Int) by omega)]
  simp only [cond_true,inB_nat h,Int.toNat_natCast,getD_nat _ i h]) (fun n=>by
  simp only [L107_l4]
  rw [decide_eq_false (by omega)]
  simp only [cond_false]) hl x0_1 0 n rfl (by omega) hn
theorem L104_l4_r {N:Nat} {x0_1:(List QIIIIILIE)} {x1_2:(List QIIIIILIE)} {k4_0_6:Option Ret} {k4_1_7:Bool→Option Ret} (hl:(List.length x0_1)≤maxLen) {n:Nat} (hn:(List.length x0_1) < n):L104_l4 N x0_1 x1_2 n k4_0_6 k4_1_7 (0:Int) =
  goL (fun (i:Nat) (x:QIIIIILIE) (next:Option Ret) =>
    bif (inB (i:Int) (List.length x1_2)) then
     L190 N x (List.getD x1_2 (Int.toNat (i:Int)) zQIIIIILIE) (fun (r25_5:Bool) =>
      bif (!r25_5) then
       k4_1_7 false
      else
       next)
    else none) (
    k4_0_6) x0_1 0:=by
 exact range0 (f:=fun n i=>L104_l4 N x0_1 x1_2 n k4_0_6 k4_1_7 i) (l:=x0_1) (fun n i h=>by
  simp only [L104_l4]
  rw [decide_eq_true (show (i:Int) < (List.length x0_1:Int) by omega)]
  simp only [cond_true,inB_nat h,Int.toNat_natCast,getD_nat _ i h]) (fun n=>by
  simp only [L104_l4]
  rw [decide_eq_false (by omega)]
  simp only [cond_false]) hl x0_1 0 n rfl (by omega) hn
theorem L105_l4_r {N:Nat} {x0_1:(List QIILIE)} {x1_2:(List QIILIE)} {k4_0_6:Option Ret} {k4_1_7:Bool→Option Ret} (hl:(List.length x0_1)≤maxLen) {n:Nat} (hn:(List.length x0_1) < n):L105_l4 N x0_1 x1_2 n k4_0_6 k4_1_7 (0:Int) =
  goL (fun (i:Nat) (x:QIILIE) (next:Option Ret) =>
    bif (inB (i:Int) (List.length x1_2)) then
     L191 N x (List.getD x1_2 (Int.toNat (i:Int)) zQIILIE) (fun (r25_5:Bool) =>
      bif (!r25_5) then
       k4_1_7 false
      else
       next)
    else none) (
    k4_0_6) x0_1 0:=by
 exact range0 (f:=fun n i=>L105_l4 N x0_1 x1_2 n k4_0_6 k4_1_7 i) (l:=x0_1) (fun n i h=>by
  simp only [L105_l4]
  rw [decide_eq_true (show (i:Int) < (List.length x0_1:Int) by omega)]
  simp only [cond_true,inB_nat h,Int.toNat_natCast,getD_nat _ i h]) (fun n=>by
  simp only [L105_l4]
  rw [decide_eq_false (by omega)]
  simp only [cond_false]) hl x0_1 0 n rfl (by omega) hn
theorem L106_l4_r {N:Nat} {x0_1:(List QIIE)} {x1_2:(List QIIE)} {k4_0_6:Option Ret} {k4_1_7:Bool→Option Ret} (hl:(List.length x0_1)≤maxLen) {n:Nat} (hn:(List.length x0_1) < n):L106_l4 N x0_1 x1_2 n k4_0_6 k4_1_7 (0:Int) =
  goL (fun (i:Nat) (x:QIIE) (next:Option Ret) =>
    bif (inB (i:Int) (List.length x1_2)) then
     L192 N x (List.getD x1_2 (Int.toNat (i:Int)) zQIIE) (fun (r25_5:Bool) =>
      bif (!r25_5) then
       k4_1_7 false
      else
       next)
    else none) (
    k4_0_6) x0_1 0:=by
 exact range0 (f:=fun n i=>L106_l4 N x0_1 x1_2 n k4_0_6 k4_1_7 i) (l:=x0_1) (fun n i h=>by
  simp only [L106_l4]
  rw [decide_eq_true (show (i:Int) < (List.length x0_1:Int) by omega)]
  simp only [cond_true,inB_nat h,Int.toNat_natCast,getD_nat _ i h]) (fun n=>by
  simp only [L106_l4]
  rw [decide_eq_false (by omega)]
  simp only [cond_false]) hl x0_1 0 n rfl (by omega) hn
theorem L108_l4_r {N:Nat} {x0_1:(List QIIIE)} {x1_2:(List QIIIE)} {k4_0_6:Option Ret} {k4_1_7:Bool→Option Ret} (hl:(List.length x0_1)≤maxLen) {n:Nat} (hn:(List.length x0_1) < n):L108_l4 N x0_1 x1_2 n k4_0_6 k4_1_7 (0:Int) =
  goL (fun (i:Nat) (x:QIIIE) (next:Option Ret) =>
    bif (inB (i:Int) (List.length x1_2)) then
     L193 N x (List.getD x1_2 (Int.toNat (i:Int)) zQIIIE) (fun (r25_5:Bool) =>
      bif (!r25_5) then
       k4_1_7 false
      else
       next)
    else none) (
    k4_0_6) x0_1 0:=by
 exact range0 (f:=fun n i=>L108_l4 N x0_1 x1_2 n k4_0_6 k4_1_7 i) (l:=x0_1) (fun n i h=>by
  simp only [L108_l4]
  rw [decide_eq_true (show (i:Int) < (List.length x0_1:Int) by omega)]
  simp only [cond_true,inB_nat h,Int.toNat_natCast,getD_nat _ i h]) (fun n=>by
  simp only [L108_l4]
  rw [decide_eq_false (by omega)]
  simp only [cond_false]) hl x0_1 0 n rfl (by omega) hn
theorem L109_l4_r {N:Nat} {x0_1:(List QIIIIE)} {x1_2:(List QIIIIE)} {k4_0_6:Option Ret} {k4_1_7:Bool→Option Ret} (hl:(List.length x0_1)≤maxLen) {n:Nat} (hn:(List.length x0_1) < n):L109_l4 N x0_1 x1_2 n k4_0_6 k4_1_7 (0:Int) =
  goL (fun (i:Nat) (x:QIIIIE) (next:Option Ret) =>
    bif (inB (i:Int) (List.length x1_2)) then
     L194 N x (List.getD x1_2 (Int.toNat (i:Int)) zQIIIIE) (fun (r25_5:Bool) =>
      bif (!r25_5) then
       k4_1_7 false
      else
       next)
    else none) (
    k4_0_6) x0_1 0:=by
 exact range0 (f:=fun n i=>L109_l4 N x0_1 x1_2 n k4_0_6 k4_1_7 i) (l:=x0_1) (fun n i h=>by
  simp only [L109_l4]
  rw [decide_eq_true (show (i:Int) < (List.length x0_1:Int) by omega)]
  simp only [cond_true,inB_nat h,Int.toNat_natCast,getD_nat _ i h]) (fun n=>by
  simp only [L109_l4]
  rw [decide_eq_false (by omega)]
  simp only [cond_false]) hl x0_1 0 n rfl (by omega) hn
theorem S123_l4_r {x1_1:QLQIIIIILIELQIILIELQIIELILQIIIELQIIIIEIE} {x4_3:QIIIE} {k4_0_7:(List Int)→Option Ret} {x3_2:(List Int)} (hl:(List.length x1_1.2.2.2.2.1)≤maxLen) {n:Nat} (hn:(List.length x1_1.2.2.2.2.1) < n):S123_l4 x1_1 x4_3 n k4_0_7 x3_2 (0:Int) =
  goL1 (fun (i:Nat) (x : _) (x3_2:(List Int)) (next:(List Int)→Option Ret) =>
    bif ((decide ((x.1:Int)=x4_3.1)) && ((decide ((x.2.1:Int)=x4_3.2.1)) && (decide ((x.2.2:Int)=x4_3.2.2)))) then
     bif (decide ((List.length x3_2 + List.length [(i:Int)]) * 1≤4398046511104)) then
      next (x3_2 ++ [(i:Int)])
     else none
    else
     next x3_2) (fun (x3_2:(List Int)) =>
    k4_0_7 x3_2) x1_1.2.2.2.2.1 0 x3_2:=by
 exact range1 (f:=fun n x3_2 i=>S123_l4 x1_1 x4_3 n k4_0_7 x3_2 i) (l:=x1_1.2.2.2.2.1) (fun n i x3_2 h=>by
  simp only [S123_l4]
  rw [decide_eq_true (show (i:Int) < (List.length x1_1.2.2.2.2.1:Int) by omega)]
  simp only [cond_true,inB_nat h,Int.toNat_natCast,getD_nat _ i h]) (fun n x3_2=>by
  simp only [S123_l4]
  rw [decide_eq_false (by omega)]
  simp only [cond_false]) hl x1_1.2.2.2.2.1 0 n x3_2 rfl (by omega) hn
theorem S201_l2_r {N:Nat} {x0_1:(List QIIIE)} {k2_0_5:Option Ret} {k2_1_6:Bool→Option Ret} (hl:(List.length x0_1)≤maxLen) {n:Nat} (hn:(List.length x0_1) < n):S201_l2 N x0_1 n k2_0_5 k2_1_6 (0:Int) =
  goL (fun (i:Nat) (x:QIIIE) (next:Option Ret) =>
    S199 N x (fun (r14_4:Bool) =>
     bif (!r14_4) then
      k2_1_6 false
     else
      bif (decide ((i:Int) > (0:Int))) then
       bif (inB (IntKind.wrap .i64 ((i:Int) - (1:Int))) (List.length x0_1)) then
        bif (decide ((List.getD x0_1 (Int.toNat (IntKind.wrap .i64 ((i:Int) - (1:Int)))) zQIIIE).1 ≥ x.1)) then
         k2_1_6 false
        else
         next
       else none
      else
       next)) (
    k2_0_5) x0_1 0:=by
 exact range0 (f:=fun n i=>S201_l2 N x0_1 n k2_0_5 k2_1_6 i) (l:=x0_1) (fun n i h=>by
  simp only [S201_l2]
  rw [decide_eq_true (show (i:Int) < (List.length x0_1:Int) by omega)]
  simp only [cond_true,inB_nat h,Int.toNat_natCast,getD_nat _ i h]) (fun n=>by
  simp only [S201_l2]
  rw [decide_eq_false (by omega)]
  simp only [cond_false]) hl x0_1 0 n rfl (by omega) hn
theorem S202_l3_r {N:Nat} {x0_1:(List QIIIE)} {x1_2:Int} {k3_0_9:Int→Option Ret} {x5_3:Int} (hl:(List.length x0_1)≤maxLen) {n:Nat} (hn:(List.length x0_1) < n):S202_l3 N x0_1 x1_2 n k3_0_9 x5_3 (0:Int) =
  goL1 (fun (i:Nat) (x:QIIIE) (x5_3:Int) (next:Int→Option Ret) =>
    S201 N x0_1 (fun (r13_6:Bool) =>
     bif r13_6 then
      S204 N x (fun (r21_7:Int) =>
       bif (r21_7 == x1_2) then
        next (IntKind.wrap .i64 (x5_3 + (1:Int)))
       else
        next x5_3)
     else
      k3_0_9 x5_3)) (fun (x5_3:Int) =>
    k3_0_9 x5_3) x0_1 0 x5_3:=by
 exact range1 (f:=fun n x5_3 i=>S202_l3 N x0_1 x1_2 n k3_0_9 x5_3 i) (l:=x0_1) (fun n i x5_3 h=>by
  simp only [S202_l3]
  rw [decide_eq_true (show (i:Int) < (List.length x0_1:Int) by omega)]
  simp only [cond_true,inB_nat h,Int.toNat_natCast,getD_nat _ i h]) (fun n x5_3=>by
  simp only [S202_l3]
  rw [decide_eq_false (by omega)]
  simp only [cond_false]) hl x0_1 0 n x5_3 rfl (by omega) hn
theorem S127_l2_r {x0_1:(List Int)} {x1_2:Int} {k2_0_5:Int→Option Ret} (hl:(List.length x0_1)≤maxLen) {n:Nat} (hn:(List.length x0_1) < n):S127_l2 x0_1 x1_2 n k2_0_5 (0:Int) =
  goL (fun (i:Nat) (x:Int) (next:Option Ret) =>
    bif (decide (x < x1_2)) then
     next
    else
     k2_0_5 (i:Int)) (
    k2_0_5 (List.length x0_1:Int)) x0_1 0:=by
 exact range0 (f:=fun n i=>S127_l2 x0_1 x1_2 n k2_0_5 i) (l:=x0_1) (fun n i h=>by
  simp only [S127_l2]
  rw [decide_eq_true (show (i:Int) < (List.length x0_1:Int) by omega)]
  simp only [cond_true,inB_nat h,Int.toNat_natCast,getD_nat _ i h]) (fun n=>by
  simp only [S127_l2]
  rw [decide_eq_false (by omega)]
  simp only [cond_false]) hl x0_1 0 n rfl (by omega) hn
theorem S27_l6_r {N:Nat} {x1_5:QLQIIIIILIELQIILIELQIIELILQIIIELQIIIIEIE} {x2_6:QLQIIIIILIELQIILIELQIIELILQIIIELQIIIIEIE} {k6_0_20:QLQIIIIILIELQIILIELQIIELILQIIIELQIIIIEIE→Bool→Option Ret} {x4_7:QLQIIIIILIELQIILIELQIIELILQIIIELQIIIIEIE} {x5_8:Bool} (hl:(List.length x1_5.2.2.1)≤maxLen) {n:Nat} (hn:(List.length x1_5.2.2.1) < n):S27_l6 N x1_5 x2_6 n k6_0_20 x4_7 x5_8 (0:Int) =
  goL2 (fun (i:Nat) (x : _) (x4_7:QLQIIIIILIELQIILIELQIIELILQIIIELQIIIIEIE) (x5_8:Bool) (next:QLQIIIIILIELQIILIELQIIELILQIIIELQIIIIEIE→Bool→Option Ret) =>
    bif (inB (i:Int) (List.length x1_5.2.2.2.2.1)) then
     S125 N [(List.getD x1_5.2.2.2.2.1 (Int.toNat (i:Int)) zQIIIE)] (fun (r57_11:Int) =>
      S124 N x4_7.1 x.1 x.2 r57_11 (List.getD x1_5.2.2.2.2.1 (Int.toNat (i:Int)) zQIIIE).2.1 (List.getD x1_5.2.2.2.2.1 (Int.toNat (i:Int)) zQIIIE).2.2 (fun (r62_12:(List QIIIIILIE)) (r62_13:Bool) =>
       bif x5_8 then
        bif (inB (i:Int) (List.length x1_5.2.2.2.1)) then
         S126 N x4_7.2.1 (List.getD x1_5.2.2.2.1 (Int.toNat (i:Int)) (0:Int)) (fun (r78_14:Int) =>
          bif (inB r78_14 (List.length x4_7.2.1)) then
           S127 N (List.getD x4_7.2.1 (Int.toNat r78_14) zQIILIE).2.2 x.1 (fun (r94_15:(List Int)) =>
            S127 N r94_15 x.2 (fun (r101_16:(List Int)) =>
             bif (inB r78_14 (List.length x4_7.2.1)) then
              next (r62_12,((List.set x4_7.2.1 (Int.toNat r78_14) ((List.getD x4_7.2.1 (Int.toNat r78_14) zQIILIE).1,((List.getD x4_7.2.1 (Int.toNat r78_14) zQIILIE).2.1,r101_16))),x4_7.2.2)) r62_13
             else none))
          else none)
        else none
       else
        bif (inB (i:Int) (List.length x1_5.2.2.2.1)) then
         S126 N x4_7.2.1 (List.getD x1_5.2.2.2.1 (Int.toNat (i:Int)) (0:Int)) (fun (r78_17:Int) =>
          bif (inB r78_17 (List.length x4_7.2.1)) then
           S127 N (List.getD x4_7.2.1 (Int.toNat r78_17) zQIILIE).2.2 x.1 (fun (r94_18:(List Int)) =>
            S127 N r94_18 x.2 (fun (r101_19:(List Int)) =>
             bif (inB r78_17 (List.length x4_7.2.1)) then
              next (r62_12,((List.set x4_7.2.1 (Int.toNat r78_17) ((List.getD x4_7.2.1 (Int.toNat r78_17) zQIILIE).1,((List.getD x4_7.2.1 (Int.toNat r78_17) zQIILIE).2.1,r101_19))),x4_7.2.2)) false
             else none))
          else none)
        else none))
    else none) (fun (x4_7:QLQIIIIILIELQIILIELQIIELILQIIIELQIIIIEIE) (x5_8:Bool) =>
    k6_0_20 x4_7 x5_8) x1_5.2.2.1 0 x4_7 x5_8:=by
 exact range2 (f:=fun n x4_7 x5_8 i=>S27_l6 N x1_5 x2_6 n k6_0_20 x4_7 x5_8 i) (l:=x1_5.2.2.1) (fun n i x4_7 x5_8 h=>by
  simp only [S27_l6]
  rw [decide_eq_true (show (i:Int) < (List.length x1_5.2.2.1:Int) by omega)]
  simp only [cond_true,inB_nat h,Int.toNat_natCast,getD_nat _ i h]) (fun n x4_7 x5_8=>by
  simp only [S27_l6]
  rw [decide_eq_false (by omega)]
  simp only [cond_false]) hl x1_5.2.2.1 0 n x4_7 x5_8 rfl (by omega) hn
theorem I41_l3_r {x8_2:(List QIIIE)} {k3_0_7:(List Int)→Option Ret} {x3_1:(List Int)} (hl:(List.length x8_2)≤maxLen) {n:Nat} (hn:(List.length x8_2) < n):I41_l3 x8_2 (List.length x8_2:Int) n k3_0_7 x3_1 (0:Int) =
  goL1 (fun (i:Nat) (x:QIIIE) (x3_1:(List Int)) (next:(List Int)→Option Ret) =>
    bif ((decide ((x.1:Int)=(0:Int))) && ((decide ((x.2.1:Int)=(0:Int))) && (decide ((x.2.2:Int)=(0:Int))))) then
     bif (decide ((List.length x3_1 + List.length [(i:Int)]) * 1≤4398046511104)) then
      next (x3_1 ++ [(i:Int)])
     else none
    else
     next x3_1) (fun (x3_1:(List Int)) =>
    k3_0_7 x3_1) x8_2 0 x3_1:=by
 exact range1 (f:=fun n x3_1 i=>I41_l3 x8_2 (List.length x8_2:Int) n k3_0_7 x3_1 i) (l:=x8_2) (fun n i x3_1 h=>by
  simp only [I41_l3]
  rw [decide_eq_true (show (i:Int) < (List.length x8_2:Int) by omega)]
  simp only [cond_true,inB_nat h,Int.toNat_natCast,getD_nat _ i h]) (fun n x3_1=>by
  simp only [I41_l3]
  rw [decide_eq_false (by omega)]
  simp only [cond_false]) hl x8_2 0 n x3_1 rfl (by omega) hn
theorem I205_l4_r {N:Nat} {x0_1:(List QIIIE)} {x8_2:(List QIIIE)} {k4_0_7:Option Ret} {k4_1_8:Bool→Option Ret} (hl:(List.length x8_2)≤maxLen) {n:Nat} (hn:(List.length x8_2) < n):I205_l4 N x0_1 x8_2 (List.length x8_2:Int) n k4_0_7 k4_1_8 (0:Int) =
  goL (fun (i:Nat) (x:QIIIE) (next:Option Ret) =>
    I138 N x (fun (r16_6:Bool) =>
     bif (!r16_6) then
      k4_1_8 false
     else
      bif (decide ((i:Int) > (0:Int))) then
       bif (inB (IntKind.wrap .i64 ((i:Int) - (1:Int))) (List.length x0_1)) then
        bif (decide (x.1≤(List.getD x0_1 (Int.toNat (IntKind.wrap .i64 ((i:Int) - (1:Int)))) zQIIIE).1)) then
         k4_1_8 false
        else
         next
       else none
      else
       next)) (
    k4_0_7) x8_2 0:=by
 exact range0 (f:=fun n i=>I205_l4 N x0_1 x8_2 (List.length x8_2:Int) n k4_0_7 k4_1_8 i) (l:=x8_2) (fun n i h=>by
  simp only [I205_l4]
  rw [decide_eq_true (show (i:Int) < (List.length x8_2:Int) by omega)]
  simp only [cond_true,inB_nat h,Int.toNat_natCast,getD_nat _ i h]) (fun n=>by
  simp only [I205_l4]
  rw [decide_eq_false (by omega)]
  simp only [cond_false]) hl x8_2 0 n rfl (by omega) hn
theorem I206_l5_r {N:Nat} {x1_2:Int} {x12_4:(List QIIIE)} {k5_0_10:Int→Option Ret} {x5_3:Int} (hl:(List.length x12_4)≤maxLen) {n:Nat} (hn:(List.length x12_4) < n):I206_l5 N x1_2 x12_4 (List.length x12_4:Int) n k5_0_10 x5_3 (0:Int) =
  goL1 (fun (i:Nat) (x:QIIIE) (x5_3:Int) (next:Int→Option Ret) =>
    I208 N x (fun (r19_8:Int) =>
     bif (r19_8 == x1_2) then
      next (IntKind.wrap .i64 (x5_3 + (1:Int)))
     else
      next x5_3)) (fun (x5_3:Int) =>
    k5_0_10 x5_3) x12_4 0 x5_3:=by
 exact range1 (f:=fun n x5_3 i=>I206_l5 N x1_2 x12_4 (List.length x12_4:Int) n k5_0_10 x5_3 i) (l:=x12_4) (fun n i x5_3 h=>by
  simp only [I206_l5]
  rw [decide_eq_true (show (i:Int) < (List.length x12_4:Int) by omega)]
  simp only [cond_true,inB_nat h,Int.toNat_natCast,getD_nat _ i h]) (fun n x5_3=>by
  simp only [I206_l5]
  rw [decide_eq_false (by omega)]
  simp only [cond_false]) hl x12_4 0 n x5_3 rfl (by omega) hn
theorem I207_l5_r {x1_2:Int} {x12_4:(List QIIIE)} {k5_0_9:Int→Option Ret} {x5_3:Int} (hl:(List.length x12_4)≤maxLen) {n:Nat} (hn:(List.length x12_4) < n):I207_l5 x1_2 x12_4 (List.length x12_4:Int) n k5_0_9 x5_3 (0:Int) =
  goL1 (fun (i:Nat) (x:QIIIE) (x5_3:Int) (next:Int→Option Ret) =>
    bif (x1_2 == (1:Int)) then
     next (IntKind.wrap .i64 (x5_3 + x.2.1))
    else
     bif (x1_2 == (2:Int)) then
      next (IntKind.wrap .i64 (x5_3 + x.2.2))
     else
      next x5_3) (fun (x5_3:Int) =>
    k5_0_9 x5_3) x12_4 0 x5_3:=by
 exact range1 (f:=fun n x5_3 i=>I207_l5 x1_2 x12_4 (List.length x12_4:Int) n k5_0_9 x5_3 i) (l:=x12_4) (fun n i x5_3 h=>by
  simp only [I207_l5]
  rw [decide_eq_true (show (i:Int) < (List.length x12_4:Int) by omega)]
  simp only [cond_true,inB_nat h,Int.toNat_natCast,getD_nat _ i h]) (fun n x5_3=>by
  simp only [I207_l5]
  rw [decide_eq_false (by omega)]
  simp only [cond_false]) hl x12_4 0 n x5_3 rfl (by omega) hn
theorem S80b_l2_r {N:Nat} {x0_1:(List QIILIE)} {x1_2:Int} {k2_0_7:Option Ret} {k2_1_8:Int→Option Ret} (hl:(List.length x0_1)≤maxLen) {n:Nat} (hn:(List.length x0_1) < n):S80b_l2 N x0_1 x1_2 (List.length x0_1:Int) n k2_0_7 k2_1_8 (0:Int) =
  goL (fun (i:Nat) (x:QIILIE) (next:Option Ret) =>
    I209 N x x1_2 (fun (r16_6:Bool) =>
     bif r16_6 then
      k2_1_8 (i:Int)
     else
      next)) (
    k2_0_7) x0_1 0:=by
 exact range0 (f:=fun n i=>S80b_l2 N x0_1 x1_2 (List.length x0_1:Int) n k2_0_7 k2_1_8 i) (l:=x0_1) (fun n i h=>by
  simp only [S80b_l2]
  rw [decide_eq_true (show (i:Int) < (List.length x0_1:Int) by omega)]
  simp only [cond_true,inB_nat h,Int.toNat_natCast,getD_nat _ i h]) (fun n=>by
  simp only [S80b_l2]
  rw [decide_eq_false (by omega)]
  simp only [cond_false]) hl x0_1 0 n rfl (by omega) hn
theorem I28_l5_r {N:Nat} {x1_7:QLQIIIIILIELQIILIELQIIELILQIIIELQIIIIEIE} {x2_8:QLQIIIIILIELQIILIELQIIELILQIIIELQIIIIEIE} {x30_10:(List QIIE)} {k5_0_21:QLQIIIIILIELQIILIELQIIELILQIIIELQIIIIEIE→Option Ret} {k5_1_22:QLQIIIIILIELQIILIELQIIELILQIIIELQIIIIEIE→Bool→Option Ret} {x4_9:QLQIIIIILIELQIILIELQIIELILQIIIELQIIIIEIE} (hl:(List.length x30_10)≤maxLen) {n:Nat} (hn:(List.length x30_10) < n):I28_l5 N x1_7 x2_8 x30_10 (List.length x30_10:Int) n k5_0_21 k5_1_22 x4_9 (0:Int) =
  goL1 (fun (i:Nat) (x:QIIE) (x4_9:QLQIIIIILIELQIILIELQIIELILQIIIELQIIIIEIE) (next:QLQIIIIILIELQIILIELQIIELILQIIIELQIIIIEIE→Option Ret) =>
    bif (inB (i:Int) (List.length x1_7.2.2.2.2.1)) then
     I129 N [(List.getD x1_7.2.2.2.2.1 (Int.toNat (i:Int)) zQIIIE)] (fun (r51_14:Int) =>
      I128 N x4_9.1 x.1 x.2 r51_14 (List.getD x1_7.2.2.2.2.1 (Int.toNat (i:Int)) zQIIIE).2.1 (List.getD x1_7.2.2.2.2.1 (Int.toNat (i:Int)) zQIIIE).2.2 (fun (r56_15:(List QIIIIILIE)) (r56_16:Bool) =>
       bif (!r56_16) then
        I70 N x1_7 (fun (r63_17:QLQIIIIILIELQIILIELQIIELILQIIIELQIIIIEIE) =>
         k5_1_22 r63_17 false)
       else
        bif (inB (i:Int) (List.length x1_7.2.2.2.1)) then
         I130 N x4_9.2.1 (List.getD x1_7.2.2.2.1 (Int.toNat (i:Int)) (0:Int)) (fun (r71_18:Int) =>
          bif (inB r71_18 (List.length x4_9.2.1)) then
           bif (decide ((List.length (List.getD x4_9.2.1 (Int.toNat r71_18) zQIILIE).2.2 + List.length [x.1,x.2]) * 1≤4398046511104)) then
            S131 N ((List.getD x4_9.2.1 (Int.toNat r71_18) zQIILIE).2.2 ++ [x.1,x.2]) (fun (z10_19:(List Int)) =>
             S132 N z10_19 (fun (r90_20:(List Int)) =>
              bif (inB r71_18 (List.length x4_9.2.1)) then
               bif (Nat.beq (Int.toNat r71_18) (Int.toNat r71_18)) then
                next (r56_15,((List.set x4_9.2.1 (Int.toNat r71_18) ((List.getD x4_9.2.1 (Int.toNat r71_18) zQIILIE).1,((List.getD x4_9.2.1 (Int.toNat r71_18) zQIILIE).2.1,r90_20))),x4_9.2.2))
               else none
              else none))
           else none
          else none)
        else none))
    else none) (fun (x4_9:QLQIIIIILIELQIILIELQIIELILQIIIELQIIIIEIE) =>
    k5_0_21 x4_9) x30_10 0 x4_9:=by
 exact range1 (f:=fun n x4_9 i=>I28_l5 N x1_7 x2_8 x30_10 (List.length x30_10:Int) n k5_0_21 k5_1_22 x4_9 i) (l:=x30_10) (fun n i x4_9 h=>by
  simp only [I28_l5]
  rw [decide_eq_true (show (i:Int) < (List.length x30_10:Int) by omega)]
  simp only [cond_true,inB_nat h,Int.toNat_natCast,getD_nat _ i h]) (fun n x4_9=>by
  simp only [I28_l5]
  rw [decide_eq_false (by omega)]
  simp only [cond_false]) hl x30_10 0 n x4_9 rfl (by omega) hn
end Go.Pv.R
