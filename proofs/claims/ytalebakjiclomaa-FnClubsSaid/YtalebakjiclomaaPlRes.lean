/- What the functions compute, as plain functions. -/
import Derived.Test.YtalebakjiclomaaPv4
namespace Go.Pv.R
set_option linter.unusedVariables false
set_option linter.unusedSimpArgs false
abbrev tQIILIE:Ty:=(.pair (.int .i64) (.pair (.int .i64) (.sl (.int .i64))))
abbrev QIILIE:Type:=(Int × (Int × (List Int)))
def zQIILIE:QIILIE:=((0:Int),((0:Int),([]:(List Int))))
abbrev tQIIIIILIE:Ty:=(.pair (.int .i64) (.pair (.int .i64) (.pair (.int .i64) (.pair (.int .i64) (.pair (.int .i64) (.sl (.int .i64)))))))
abbrev QIIIIILIE:Type:=(Int × (Int × (Int × (Int × (Int × (List Int))))))
def zQIIIIILIE:QIIIIILIE:=((0:Int),((0:Int),((0:Int),((0:Int),((0:Int),([]:(List Int)))))))
abbrev tQIIE:Ty:=(.pair (.int .i64) (.int .i64))
abbrev QIIE:Type:=(Int × Int)
def zQIIE:QIIE:=((0:Int),(0:Int))
abbrev tQIIIE:Ty:=(.pair (.int .i64) (.pair (.int .i64) (.int .i64)))
abbrev QIIIE:Type:=(Int × (Int × Int))
def zQIIIE:QIIIE:=((0:Int),((0:Int),(0:Int)))
abbrev tQIIIIE:Ty:=(.pair (.int .i64) (.pair (.int .i64) (.pair (.int .i64) (.int .i64))))
abbrev QIIIIE:Type:=(Int × (Int × (Int × Int)))
def zQIIIIE:QIIIIE:=((0:Int),((0:Int),((0:Int),(0:Int))))
abbrev tQLQIIIIILIELQIILIELQIIELILQIIIELQIIIIEIE:Ty:=(.pair (.sl tQIIIIILIE) (.pair (.sl tQIILIE) (.pair (.sl tQIIE) (.pair (.sl (.int .i64)) (.pair (.sl tQIIIE) (.pair (.sl tQIIIIE) (.int .i64)))))))
abbrev QLQIIIIILIELQIILIELQIIELILQIIIELQIIIIEIE:Type:=((List QIIIIILIE) × ((List QIILIE) × ((List QIIE) × ((List Int) × ((List QIIIE) × ((List QIIIIE) × Int))))))
abbrev tQLIIIE:Ty:=(.pair (.sl (.int .u8)) (.pair (.int .i64) (.int .i64)))
abbrev QLIIIE:Type:=((List Int) × (Int × Int))
noncomputable def L4 (N:Nat) (a0:(List Int)) (kf:Bool→Option Ret):Option Ret:=
 kf (decide ((List.length a0:Int) > (1048576:Int)))
noncomputable def I6 (N:Nat)  (kf:QLQIIIIILIELQIILIELQIIELILQIIIELQIIIIEIE→Option Ret):Option Ret:=
 kf (([]:(List QIIIIILIE)),(([]:(List QIILIE)),(([]:(List QIIE)),(([]:(List Int)),(([]:(List QIIIE)),(([]:(List QIIIIE)),(0:Int)))))))
noncomputable def I19 (N:Nat) (a0:Int) (a1:Int) (a2:Int) (kf:Bool→Option Ret):Option Ret:=
 bif (decide (a1≤a0)) then
  kf (decide (a0≤a2))
 else
  kf false
noncomputable def I55 (N:Nat) (a0:QIIIIILIE) (a1:Int) (kf:Bool→Option Ret):Option Ret:=
 kf (a0.1 == a1)
noncomputable def S54_l2 (N:Nat) (x0_1:(List QIIIIILIE)) (x1_2:Int) (x7_3:Int):Nat→(Option Ret)→(Int→Option Ret)→Int→Option Ret
 | 0,_,_,_=>none
 | n_5 + 1,k2_0_7,k2_1_8,x8_4 =>
  bif (decide (x8_4 < x7_3)) then
   bif (inB x8_4 (List.length x0_1)) then
    I55 N (List.getD x0_1 (Int.toNat x8_4) zQIIIIILIE) x1_2 (fun (r16_6:Bool) =>
     bif r16_6 then
      k2_1_8 x8_4
     else
      (S54_l2 N x0_1 x1_2 x7_3 n_5 k2_0_7 k2_1_8) (IntKind.wrap .i64 (x8_4 + (1:Int))))
   else none
  else
   k2_0_7
noncomputable def S54 (N:Nat) (a0:(List QIIIIILIE)) (a1_0:Int) (kf:Int→Option Ret):Option Ret:=
 S54_l2 N a0 a1_0 (List.length a0:Int) N (kf (-1:Int)) kf (0:Int)
noncomputable def I34 (N:Nat) (a0:(List QIIIIILIE)) (a1:Int) (kf:Int→Option Ret):Option Ret:=
 S54 N a0 a1 kf
noncomputable def I35_l3 (x1_1:Int) (x8_3:(List Int)) (x9_4:Int):Nat→(Int→Option Ret)→Int→Int→Option Ret
 | 0,_,_,_=>none
 | n_6 + 1,k3_0_8,x5_2,x10_5 =>
  bif (decide (x10_5 < x9_4)) then
   bif (inB x10_5 (List.length x8_3)) then
    bif ((List.getD x8_3 (Int.toNat x10_5) (0:Int)) == x1_1) then
     (I35_l3 x1_1 x8_3 x9_4 n_6 k3_0_8) (IntKind.wrap .i64 (x5_2 + (1:Int))) (IntKind.wrap .i64 (x10_5 + (1:Int)))
    else
     (I35_l3 x1_1 x8_3 x9_4 n_6 k3_0_8) x5_2 (IntKind.wrap .i64 (x10_5 + (1:Int)))
   else none
  else
   k3_0_8 x5_2
noncomputable def I35 (N:Nat) (a0:(List Int)) (a1:Int) (kf:Int→Option Ret):Option Ret:=
 I35_l3 a1 a0 (List.length a0:Int) N kf (0:Int) (0:Int)
noncomputable def I13_l10 (N:Nat) (x0_16:(List QIIIIILIE)) (x4_17:QIIIIILIE) (x12_18:(List QIIIIILIE)) (x13_19:Int) (x14_20:Int) (x72_21:(List Int)) (x73_22:Int):Nat→(Option Ret)→(Bool→Option Ret)→Int→Option Ret
 | 0,_,_,_=>none
 | n_24 + 1,k10_0_28,k10_1_29,x74_23 =>
  bif (decide (x74_23 < x73_22)) then
   bif (inB x74_23 (List.length x72_21)) then
    I34 N x0_16 (List.getD x72_21 (Int.toNat x74_23) (0:Int)) (fun (r80_25:Int) =>
     bif (decide (r80_25 < (0:Int))) then
      k10_1_29 false
     else
      bif ((List.getD x72_21 (Int.toNat x74_23) (0:Int)) == x4_17.1) then
       k10_1_29 false
      else
       bif (inB r80_25 (List.length x0_16)) then
        I35 N x4_17.2.2.2.2.2 (List.getD x72_21 (Int.toNat x74_23) (0:Int)) (fun (r93_26:Int) =>
         I35 N (List.getD x0_16 (Int.toNat r80_25) zQIIIIILIE).2.2.2.2.2 x4_17.1 (fun (r101_27:Int) =>
          bif (r93_26 != r101_27) then
           k10_1_29 false
          else
           (I13_l10 N x0_16 x4_17 x12_18 x13_19 x14_20 x72_21 x73_22 n_24 k10_0_28 k10_1_29) (IntKind.wrap .i64 (x74_23 + (1:Int)))))
       else none)
   else none
  else
   k10_0_28
noncomputable def I13_j1 (N:Nat) (k4_1_33:Bool→Option Ret) (rc4_34:Int→Option Ret) (x0_1:(List QIIIIILIE)) (x12_2:(List QIIIIILIE)) (x13_3:Int) (x14_4:Int):Option Ret:=
 I13_l10 N x0_1 (List.getD x12_2 (Int.toNat x14_4) zQIIIIILIE) x12_2 x13_3 x14_4 (List.getD x12_2 (Int.toNat x14_4) zQIIIIILIE).2.2.2.2.2 (List.length (List.getD x12_2 (Int.toNat x14_4) zQIIIIILIE).2.2.2.2.2:Int) N (rc4_34 (IntKind.wrap .i64 (x14_4 + (1:Int)))) k4_1_33 (0:Int)
noncomputable def I13_l4 (N:Nat) (x0_1:(List QIIIIILIE)) (x12_2:(List QIIIIILIE)) (x13_3:Int):Nat→(Option Ret)→(Bool→Option Ret)→Int→Option Ret
 | 0,_,_,_=>none
 | n_5 + 1,k4_0_32,k4_1_33,x14_4 =>
  bif (decide (x14_4 < x13_3)) then
   bif (inB x14_4 (List.length x12_2)) then
    I19 N (List.getD x12_2 (Int.toNat x14_4) zQIIIIILIE).1 (1:Int) (99:Int) (fun (r24_6:Bool) =>
     bif (!r24_6) then
      k4_1_33 false
     else
      bif (decide (x14_4 > (0:Int))) then
       bif (inB (IntKind.wrap .i64 (x14_4 - (1:Int))) (List.length x0_1)) then
        bif (decide ((List.getD x12_2 (Int.toNat x14_4) zQIIIIILIE).1≤(List.getD x0_1 (Int.toNat (IntKind.wrap .i64 (x14_4 - (1:Int)))) zQIIIIILIE).1)) then
         k4_1_33 false
        else
         I19 N (List.getD x12_2 (Int.toNat x14_4) zQIIIIILIE).2.1 (1:Int) (99:Int) (fun (r44_7:Bool) =>
          bif (!r44_7) then
           k4_1_33 false
          else
           bif (decide ((List.length (List.getD x12_2 (Int.toNat x14_4) zQIIIIILIE).2.2.2.2.2:Int) > (20:Int))) then
            k4_1_33 false
           else
            I19 N (List.getD x12_2 (Int.toNat x14_4) zQIIIIILIE).2.2.1 (0:Int) (List.length (List.getD x12_2 (Int.toNat x14_4) zQIIIIILIE).2.2.2.2.2:Int) (fun (r55_8:Bool) =>
             bif (!r55_8) then
              k4_1_33 false
             else
              I19 N (List.getD x12_2 (Int.toNat x14_4) zQIIIIILIE).2.2.2.2.1 (0:Int) (List.length (List.getD x12_2 (Int.toNat x14_4) zQIIIIILIE).2.2.2.2.2:Int) (fun (r62_9:Bool) =>
               bif (!r62_9) then
                k4_1_33 false
               else
                I19 N (List.getD x12_2 (Int.toNat x14_4) zQIIIIILIE).2.2.2.1 (0:Int) (100000:Int) (fun (r68_10:Bool) =>
                 bif (!r68_10) then
                  k4_1_33 false
                 else
                  I13_j1 N k4_1_33 (I13_l4 N x0_1 x12_2 x13_3 n_5 k4_0_32 k4_1_33) x0_1 x12_2 x13_3 x14_4))))
       else none
      else
       I19 N (List.getD x12_2 (Int.toNat x14_4) zQIIIIILIE).2.1 (1:Int) (99:Int) (fun (r44_11:Bool) =>
        bif (!r44_11) then
         k4_1_33 false
        else
         bif (decide ((List.length (List.getD x12_2 (Int.toNat x14_4) zQIIIIILIE).2.2.2.2.2:Int) > (20:Int))) then
          k4_1_33 false
         else
          I19 N (List.getD x12_2 (Int.toNat x14_4) zQIIIIILIE).2.2.1 (0:Int) (List.length (List.getD x12_2 (Int.toNat x14_4) zQIIIIILIE).2.2.2.2.2:Int) (fun (r55_12:Bool) =>
           bif (!r55_12) then
            k4_1_33 false
           else
            I19 N (List.getD x12_2 (Int.toNat x14_4) zQIIIIILIE).2.2.2.2.1 (0:Int) (List.length (List.getD x12_2 (Int.toNat x14_4) zQIIIIILIE).2.2.2.2.2:Int) (fun (r62_13:Bool) =>
             bif (!r62_13) then
              k4_1_33 false
             else
              I19 N (List.getD x12_2 (Int.toNat x14_4) zQIIIIILIE).2.2.2.1 (0:Int) (100000:Int) (fun (r68_14:Bool) =>
               bif (!r68_14) then
                k4_1_33 false
               else
                I13_j1 N k4_1_33 (I13_l4 N x0_1 x12_2 x13_3 n_5 k4_0_32 k4_1_33) x0_1 x12_2 x13_3 x14_4)))))
   else none
  else
   k4_0_32
noncomputable def I13 (N:Nat) (a0:(List QIIIIILIE)) (kf:Bool→Option Ret):Option Ret:=
 bif (decide ((List.length a0:Int) > (10:Int))) then
  kf false
 else
  I13_l4 N a0 a0 (List.length a0:Int) N (kf true) kf (0:Int)
noncomputable def I14_l9 (N:Nat) (x0_10:(List QIILIE)) (x4_11:QIILIE) (x10_12:(List QIILIE)) (x11_13:Int) (x12_14:Int) (x43_15:(List Int)) (x44_16:Int):Nat→(Option Ret)→(Bool→Option Ret)→Int→Option Ret
 | 0,_,_,_=>none
 | n_18 + 1,k9_0_20,k9_1_21,x45_17 =>
  bif (decide (x45_17 < x44_16)) then
   bif (inB x45_17 (List.length x43_15)) then
    I19 N (List.getD x43_15 (Int.toNat x45_17) (0:Int)) (1:Int) (99:Int) (fun (r51_19:Bool) =>
     bif (!r51_19) then
      k9_1_21 false
     else
      bif (decide (x45_17 > (0:Int))) then
       bif (inB (IntKind.wrap .i64 (x45_17 - (1:Int))) (List.length x4_11.2.2)) then
        bif (decide ((List.getD x43_15 (Int.toNat x45_17) (0:Int))≤(List.getD x4_11.2.2 (Int.toNat (IntKind.wrap .i64 (x45_17 - (1:Int)))) (0:Int)))) then
         k9_1_21 false
        else
         (I14_l9 N x0_10 x4_11 x10_12 x11_13 x12_14 x43_15 x44_16 n_18 k9_0_20 k9_1_21) (IntKind.wrap .i64 (x45_17 + (1:Int)))
       else none
      else
       (I14_l9 N x0_10 x4_11 x10_12 x11_13 x12_14 x43_15 x44_16 n_18 k9_0_20 k9_1_21) (IntKind.wrap .i64 (x45_17 + (1:Int))))
   else none
  else
   k9_0_20
noncomputable def I14_j1 (N:Nat) (k4_1_25:Bool→Option Ret) (rc4_26:Int→Option Ret) (x0_1:(List QIILIE)) (x10_2:(List QIILIE)) (x11_3:Int) (x12_4:Int):Option Ret:=
 I14_l9 N x0_1 (List.getD x10_2 (Int.toNat x12_4) zQIILIE) x10_2 x11_3 x12_4 (List.getD x10_2 (Int.toNat x12_4) zQIILIE).2.2 (List.length (List.getD x10_2 (Int.toNat x12_4) zQIILIE).2.2:Int) N (rc4_26 (IntKind.wrap .i64 (x12_4 + (1:Int)))) k4_1_25 (0:Int)
noncomputable def I14_l4 (N:Nat) (x0_1:(List QIILIE)) (x10_2:(List QIILIE)) (x11_3:Int):Nat→(Option Ret)→(Bool→Option Ret)→Int→Option Ret
 | 0,_,_,_=>none
 | n_5 + 1,k4_0_24,k4_1_25,x12_4 =>
  bif (decide (x12_4 < x11_3)) then
   bif (inB x12_4 (List.length x10_2)) then
    I19 N (List.getD x10_2 (Int.toNat x12_4) zQIILIE).1 (1:Int) (99:Int) (fun (r19_6:Bool) =>
     bif (!r19_6) then
      k4_1_25 false
     else
      bif (decide (x12_4 > (0:Int))) then
       bif (inB (IntKind.wrap .i64 (x12_4 - (1:Int))) (List.length x0_1)) then
        bif (decide ((List.getD x10_2 (Int.toNat x12_4) zQIILIE).1≤(List.getD x0_1 (Int.toNat (IntKind.wrap .i64 (x12_4 - (1:Int)))) zQIILIE).1)) then
         k4_1_25 false
        else
         I19 N (List.getD x10_2 (Int.toNat x12_4) zQIILIE).2.1 (1:Int) (99:Int) (fun (r39_7:Bool) =>
          bif (!r39_7) then
           k4_1_25 false
          else
           I14_j1 N k4_1_25 (I14_l4 N x0_1 x10_2 x11_3 n_5 k4_0_24 k4_1_25) x0_1 x10_2 x11_3 x12_4)
       else none
      else
       I19 N (List.getD x10_2 (Int.toNat x12_4) zQIILIE).2.1 (1:Int) (99:Int) (fun (r39_8:Bool) =>
        bif (!r39_8) then
         k4_1_25 false
        else
         I14_j1 N k4_1_25 (I14_l4 N x0_1 x10_2 x11_3 n_5 k4_0_24 k4_1_25) x0_1 x10_2 x11_3 x12_4))
   else none
  else
   k4_0_24
noncomputable def I14 (N:Nat) (a0:(List QIILIE)) (kf:Bool→Option Ret):Option Ret:=
 bif (decide ((List.length a0:Int) > (10:Int))) then
  kf false
 else
  I14_l4 N a0 a0 (List.length a0:Int) N (kf true) kf (0:Int)
noncomputable def I79 (N:Nat) (a0:Int) (a1:Int) (kf:Int→Option Ret):Option Ret:=
 I19 N a1 (1:Int) (1000000000000:Int) (fun (r7_1:Bool) =>
  bif (!r7_1) then
   kf (0:Int)
  else
   bif (!decide (a1=0)) then
    bif (decide ((Int.tmod a0 a1) < (0:Int))) then
     kf (IntKind.wrap .i64 ((Int.tmod a0 a1) + a1))
    else
     kf (Int.tmod a0 a1)
   else none)
noncomputable def I67 (N:Nat) (a0:Int) (a1:Int) (kf:Int→Option Ret):Option Ret:=
 I79 N a1 (2147483647:Int) (fun (r8_1:Int) =>
  kf (Int.tmod (IntKind.wrap .i64 ((IntKind.wrap .i64 ((IntKind.wrap .i64 (a0 * (1000003:Int))) + r8_1)) + (13:Int))) (2147483647:Int)))
noncomputable def I56_l3 (N:Nat) (x6_2:(List Int)) (x7_3:Int):Nat→(Int→Option Ret)→Int→Int→Option Ret
 | 0,_,_,_=>none
 | n_5 + 1,k3_0_7,x3_1,x8_4 =>
  bif (decide (x8_4 < x7_3)) then
   bif (inB x8_4 (List.length x6_2)) then
    I67 N x3_1 (List.getD x6_2 (Int.toNat x8_4) (0:Int)) (fun (r14_6:Int) =>
     (I56_l3 N x6_2 x7_3 n_5 k3_0_7) r14_6 (IntKind.wrap .i64 (x8_4 + (1:Int))))
   else none
  else
   k3_0_7 x3_1
noncomputable def I56 (N:Nat) (a0:(List Int)) (kf:Int→Option Ret):Option Ret:=
 I56_l3 N a0 (List.length a0:Int) N kf (11:Int) (0:Int)
noncomputable def I36 (N:Nat) (a0:Int) (a1:QIIIIE) (kf:Int→Option Ret):Option Ret:=
 I56 N [a0,a1.1,a1.2.1,a1.2.2.1] kf
noncomputable def I15_l5 (N:Nat) (x9_2:(List QIIIIE)) (x10_3:Int):Nat→(Option Ret)→(Bool→Option Ret)→Int→Int→Option Ret
 | 0,_,_,_,_=>none
 | n_5 + 1,k5_0_9,k5_1_10,x3_1,x11_4 =>
  bif (decide (x11_4 < x10_3)) then
   bif (inB x11_4 (List.length x9_2)) then
    bif ((List.getD x9_2 (Int.toNat x11_4) zQIIIIE).1 != (IntKind.wrap .i64 (x11_4 + (1:Int)))) then
     k5_1_10 false
    else
     I19 N (List.getD x9_2 (Int.toNat x11_4) zQIIIIE).2.1 (1:Int) (9:Int) (fun (r24_6:Bool) =>
      bif (!r24_6) then
       k5_1_10 false
      else
       I19 N (List.getD x9_2 (Int.toNat x11_4) zQIIIIE).2.2.1 (0:Int) (99:Int) (fun (r30_7:Bool) =>
        bif (!r30_7) then
         k5_1_10 false
        else
         I36 N x3_1 (List.getD x9_2 (Int.toNat x11_4) zQIIIIE) (fun (r38_8:Int) =>
          bif ((List.getD x9_2 (Int.toNat x11_4) zQIIIIE).2.2.2 != r38_8) then
           k5_1_10 false
          else
           (I15_l5 N x9_2 x10_3 n_5 k5_0_9 k5_1_10) (List.getD x9_2 (Int.toNat x11_4) zQIIIIE).2.2.2 (IntKind.wrap .i64 (x11_4 + (1:Int))))))
   else none
  else
   k5_0_9
noncomputable def I15 (N:Nat) (a0:(List QIIIIE)) (kf:Bool→Option Ret):Option Ret:=
 bif (decide ((List.length a0:Int) > (200:Int))) then
  kf false
 else
  I15_l5 N a0 (List.length a0:Int) N (kf true) kf (0:Int) (0:Int)
noncomputable def I7 (N:Nat) (a0:QLQIIIIILIELQIILIELQIIELILQIIIELQIIIIEIE) (kf:Bool→Option Ret):Option Ret:=
 kf (decide ((List.length a0.2.2.1:Int) > (0:Int)))
noncomputable def S58_l2 (x0_1:(List Int)) (x1_2:Int) (x7_3:Int):Nat→(Option Ret)→(Int→Option Ret)→Int→Option Ret
 | 0,_,_,_=>none
 | n_5 + 1,k2_0_6,k2_1_7,x8_4 =>
  bif (decide (x8_4 < x7_3)) then
   bif (inB x8_4 (List.length x0_1)) then
    bif (x1_2 == (List.getD x0_1 (Int.toNat x8_4) (0:Int))) then
     k2_1_7 x8_4
    else
     (S58_l2 x0_1 x1_2 x7_3 n_5 k2_0_6 k2_1_7) (IntKind.wrap .i64 (x8_4 + (1:Int)))
   else none
  else
   k2_0_6
noncomputable def S58 (N:Nat) (a0:(List Int)) (a1:Int) (kf:Int→Option Ret):Option Ret:=
 S58_l2 a0 a1 (List.length a0:Int) N (kf (-1:Int)) kf (0:Int)
noncomputable def S40 (N:Nat) (a0:(List Int)) (a1:Int) (kf:Bool→Option Ret):Option Ret:=
 S58 N a0 a1 (fun (r7_1:Int) =>
  kf (decide (r7_1 ≥ (0:Int))))
noncomputable def I57 (N:Nat) (a0:(List QIIIIILIE)) (a1:Int) (a2:Int) (kf:Bool→Option Ret):Option Ret:=
 I34 N a0 a1 (fun (r10_1:Int) =>
  bif (decide (r10_1 ≥ (0:Int))) then
   bif (inB r10_1 (List.length a0)) then
    S40 N (List.getD a0 (Int.toNat r10_1) zQIIIIILIE).2.2.2.2.2 a2 kf
   else none
  else
   kf false)
noncomputable def I37 (N:Nat) (a0:(List QIIIIILIE)) (a1:Int) (a2:Int) (kf:Bool→Option Ret):Option Ret:=
 I34 N a0 a1 (fun (r11_1:Int) =>
  I34 N a0 a2 (fun (r14_2:Int) =>
   I13 N a0 (fun (r16_3:Bool) =>
    bif r16_3 then
     bif (decide (r11_1 ≥ (0:Int))) then
      bif (decide (r14_2 ≥ (0:Int))) then
       bif (r11_1 != r14_2) then
        bif (inB r11_1 (List.length a0)) then
         bif (inB r14_2 (List.length a0)) then
          bif ((List.getD a0 (Int.toNat r11_1) zQIIIIILIE).2.1 != (List.getD a0 (Int.toNat r14_2) zQIIIIILIE).2.1) then
           I57 N a0 a1 a2 (fun (r47_4:Bool) =>
            kf (!r47_4))
          else
           kf false
         else none
        else none
       else
        kf false
      else
       kf false
     else
      kf false
    else
     kf false)))
noncomputable def I16_l10 (N:Nat) (x5_13:(List Int)) (x32_14:(List QIIIIILIE)) (x33_15:Int):Nat→(Option Ret)→(Bool→Option Ret)→Int→Option Ret
 | 0,_,_,_=>none
 | n_17 + 1,k10_0_19,k10_1_20,x34_16 =>
  bif (decide (x34_16 < x33_15)) then
   bif (inB x34_16 (List.length x32_14)) then
    I35 N x5_13 (List.getD x32_14 (Int.toNat x34_16) zQIIIIILIE).1 (fun (r41_18:Int) =>
     bif (r41_18 != (1:Int)) then
      k10_1_20 false
     else
      (I16_l10 N x5_13 x32_14 x33_15 n_17 k10_0_19 k10_1_20) (IntKind.wrap .i64 (x34_16 + (1:Int))))
   else none
  else
   k10_0_19
noncomputable def I16_l3 (N:Nat) (x0_1:(List QIIIIILIE)) (x11_3:(List QIIE)) (x12_4:Int):Nat→((List Int)→Option Ret)→(Bool→Option Ret)→(List Int)→Int→Option Ret
 | 0,_,_,_,_=>none
 | n_6 + 1,k3_0_8,k3_1_9,x5_2,x13_5 =>
  bif (decide (x13_5 < x12_4)) then
   bif (inB x13_5 (List.length x11_3)) then
    I37 N x0_1 (List.getD x11_3 (Int.toNat x13_5) zQIIE).1 (List.getD x11_3 (Int.toNat x13_5) zQIIE).2 (fun (r22_7:Bool) =>
     bif (!r22_7) then
      k3_1_9 false
     else
      bif (decide ((List.length x5_2 + List.length [(List.getD x11_3 (Int.toNat x13_5) zQIIE).1,(List.getD x11_3 (Int.toNat x13_5) zQIIE).2]) * 1≤4398046511104)) then
       (I16_l3 N x0_1 x11_3 x12_4 n_6 k3_0_8 k3_1_9) (x5_2 ++ [(List.getD x11_3 (Int.toNat x13_5) zQIIE).1,(List.getD x11_3 (Int.toNat x13_5) zQIIE).2]) (IntKind.wrap .i64 (x13_5 + (1:Int)))
      else none)
   else none
  else
   k3_0_8 x5_2
noncomputable def I16 (N:Nat) (a0:(List QIIIIILIE)) (a1:(List QIIE)) (kf:Bool→Option Ret):Option Ret:=
 I16_l3 N a0 a1 (List.length a1:Int) N (fun (z5_11:(List Int)) =>
  I16_l10 N z5_11 a0 (List.length a0:Int) N (kf true) kf (0:Int)) kf ([]:(List Int)) (0:Int)
noncomputable def I39 (N:Nat) (a0:QIILIE) (a1:Int) (kf:Bool→Option Ret):Option Ret:=
 kf (a0.1 == a1)
noncomputable def S38_l2 (N:Nat) (x0_1:(List QIILIE)) (x1_2:Int) (x7_3:Int):Nat→(Option Ret)→(Int→Option Ret)→Int→Option Ret
 | 0,_,_,_=>none
 | n_5 + 1,k2_0_7,k2_1_8,x8_4 =>
  bif (decide (x8_4 < x7_3)) then
   bif (inB x8_4 (List.length x0_1)) then
    I39 N (List.getD x0_1 (Int.toNat x8_4) zQIILIE) x1_2 (fun (r16_6:Bool) =>
     bif r16_6 then
      k2_1_8 x8_4
     else
      (S38_l2 N x0_1 x1_2 x7_3 n_5 k2_0_7 k2_1_8) (IntKind.wrap .i64 (x8_4 + (1:Int))))
   else none
  else
   k2_0_7
noncomputable def S38 (N:Nat) (a0:(List QIILIE)) (a1_0:Int) (kf:Int→Option Ret):Option Ret:=
 S38_l2 N a0 a1_0 (List.length a0:Int) N (kf (-1:Int)) kf (0:Int)
noncomputable def I41_l2 (N:Nat) (x0_1:(List QIIIIILIE)) (x4_2:QIILIE) (x14_3:(List Int)) (x15_4:Int):Nat→(Option Ret)→(Bool→Option Ret)→Int→Option Ret
 | 0,_,_,_=>none
 | n_6 + 1,k2_0_9,k2_1_10,x16_5 =>
  bif (decide (x16_5 < x15_4)) then
   bif (inB x16_5 (List.length x14_3)) then
    I34 N x0_1 (List.getD x14_3 (Int.toNat x16_5) (0:Int)) (fun (r22_7:Int) =>
     bif (decide (r22_7 < (0:Int))) then
      k2_1_10 false
     else
      bif (inB r22_7 (List.length x0_1)) then
       bif ((List.getD x0_1 (Int.toNat r22_7) zQIIIIILIE).2.1 == x4_2.2.1) then
        k2_1_10 false
       else
        S40 N x4_2.2.2 (List.getD x14_3 (Int.toNat x16_5) (0:Int)) (fun (r39_8:Bool) =>
         bif r39_8 then
          k2_1_10 false
         else
          (I41_l2 N x0_1 x4_2 x14_3 x15_4 n_6 k2_0_9 k2_1_10) (IntKind.wrap .i64 (x16_5 + (1:Int))))
      else none)
   else none
  else
   k2_0_9
noncomputable def I41 (N:Nat) (a0:(List QIIIIILIE)) (a1:QIILIE) (a2:QIIE) (kf:Bool→Option Ret):Option Ret:=
 I41_l2 N a0 a1 [a2.1,a2.2] (List.length [a2.1,a2.2]:Int) N (kf true) kf (0:Int)
noncomputable def I17_l4 (N:Nat) (x0_2:(List QIIIIILIE)) (x1_3:(List QIILIE)) (x2_4:(List QIIE)) (x3_5:(List Int)) (x22_6:(List Int)) (x23_7:Int):Nat→(Option Ret)→(Bool→Option Ret)→Int→Option Ret
 | 0,_,_,_=>none
 | n_9 + 1,k4_0_13,k4_1_14,x24_8 =>
  bif (decide (x24_8 < x23_7)) then
   bif (inB x24_8 (List.length x22_6)) then
    S38 N x1_3 (List.getD x22_6 (Int.toNat x24_8) (0:Int)) (fun (r31_10:Int) =>
     bif (decide (r31_10 < (0:Int))) then
      k4_1_14 false
     else
      bif (decide ((0:Int)≤(0:Int)) && decide ((0:Int)≤x24_8) && decide (x24_8≤(List.length x3_5:Int))) then
       S40 N (List.drop (Int.toNat (0:Int)) (List.take (Int.toNat x24_8) x3_5)) (List.getD x22_6 (Int.toNat x24_8) (0:Int)) (fun (r39_11:Bool) =>
        bif r39_11 then
         k4_1_14 false
        else
         bif (inB r31_10 (List.length x1_3)) then
          bif (inB x24_8 (List.length x2_4)) then
           I41 N x0_2 (List.getD x1_3 (Int.toNat r31_10) zQIILIE) (List.getD x2_4 (Int.toNat x24_8) zQIIE) (fun (r51_12:Bool) =>
            bif (!r51_12) then
             k4_1_14 false
            else
             (I17_l4 N x0_2 x1_3 x2_4 x3_5 x22_6 x23_7 n_9 k4_0_13 k4_1_14) (IntKind.wrap .i64 (x24_8 + (1:Int))))
          else none
         else none)
      else none)
   else none
  else
   k4_0_13
noncomputable def I17 (N:Nat) (a0:(List QIIIIILIE)) (a1:(List QIILIE)) (a2:(List QIIE)) (a3:(List Int)) (kf:Bool→Option Ret):Option Ret:=
 I14 N a1 (fun (r13_1:Bool) =>
  bif (!r13_1) then
   kf false
  else
   bif ((List.length a3:Int) != (List.length a2:Int)) then
    kf false
   else
    I17_l4 N a0 a1 a2 a3 a3 (List.length a3:Int) N (kf true) kf (0:Int))
noncomputable def I18 (N:Nat) (a0:QIIIE) (kf:Bool→Option Ret):Option Ret:=
 I19 N a0.1 (1:Int) (99:Int) (fun (r5_1:Bool) =>
  bif r5_1 then
   I19 N a0.2.1 (0:Int) (100:Int) (fun (r9_2:Bool) =>
    bif r9_2 then
     I19 N a0.2.2 (0:Int) (100:Int) (fun (r14_3:Bool) =>
      bif r14_3 then
       kf (a0.2.1 != a0.2.2)
      else
       kf false)
    else
     kf false)
  else
   kf false)
noncomputable def I20_l5 (x10_3:(List QIIIIILIE)) (x11_4:Int):Nat→(Int→Option Ret)→Int→Int→Option Ret
 | 0,_,_,_=>none
 | n_6 + 1,k5_0_7,x3_2,x12_5 =>
  bif (decide (x12_5 < x11_4)) then
   bif (inB x12_5 (List.length x10_3)) then
    (I20_l5 x10_3 x11_4 n_6 k5_0_7) (IntKind.wrap .i64 (x3_2 + (List.getD x10_3 (Int.toNat x12_5) zQIIIIILIE).2.2.1)) (IntKind.wrap .i64 (x12_5 + (1:Int)))
   else none
  else
   k5_0_7 x3_2
noncomputable def I20 (N:Nat) (a0:(List QIIIIILIE)) (kf:Int→Option Ret):Option Ret:=
 I13 N a0 (fun (r7_1:Bool) =>
  bif (!r7_1) then
   kf (0:Int)
  else
   I20_l5 a0 (List.length a0:Int) N kf (0:Int) (0:Int))
noncomputable def I5_l6 (N:Nat) (x1_7:QLQIIIIILIELQIILIELQIIELILQIIIELQIIIIEIE) (x62_8:(List QIIIE)) (x63_9:Int):Nat→(Option Ret)→(Bool→Option Ret)→Int→Option Ret
 | 0,_,_,_=>none
 | n_11 + 1,k6_0_13,k6_1_14,x64_10 =>
  bif (decide (x64_10 < x63_9)) then
   bif (inB x64_10 (List.length x62_8)) then
    bif (!((decide (((List.getD x62_8 (Int.toNat x64_10) zQIIIE).1:Int)=(0:Int))) && ((decide (((List.getD x62_8 (Int.toNat x64_10) zQIIIE).2.1:Int)=(0:Int))) && (decide (((List.getD x62_8 (Int.toNat x64_10) zQIIIE).2.2:Int)=(0:Int)))))) then
     I18 N (List.getD x62_8 (Int.toNat x64_10) zQIIIE) (fun (r74_12:Bool) =>
      bif (!r74_12) then
       k6_1_14 false
      else
       bif (inB x64_10 (List.length x1_7.2.2.2.1)) then
        bif ((List.getD x62_8 (Int.toNat x64_10) zQIIIE).1 != (List.getD x1_7.2.2.2.1 (Int.toNat x64_10) (0:Int))) then
         k6_1_14 false
        else
         (I5_l6 N x1_7 x62_8 x63_9 n_11 k6_0_13 k6_1_14) (IntKind.wrap .i64 (x64_10 + (1:Int)))
       else none)
    else
     (I5_l6 N x1_7 x62_8 x63_9 n_11 k6_0_13 k6_1_14) (IntKind.wrap .i64 (x64_10 + (1:Int)))
   else none
  else
   k6_0_13
noncomputable def I5_j1 (N:Nat) (a0:QLQIIIIILIELQIILIELQIIELILQIIIELQIIIIEIE) (kf:Bool→Option Ret):Option Ret:=
 I5_l6 N a0 a0.2.2.2.2.1 (List.length a0.2.2.2.2.1:Int) N (
  I19 N a0.2.2.2.2.2.2 (0:Int) (1000:Int) (fun (r90_17:Bool) =>
   bif r90_17 then
    I20 N a0.1 (fun (r94_18:Int) =>
     kf (r94_18 == a0.2.2.2.2.2.2))
   else
    kf false)) kf (0:Int)
noncomputable def I5 (N:Nat) (a0:QLQIIIIILIELQIILIELQIIELILQIIIELQIIIIEIE) (kf:Bool→Option Ret):Option Ret:=
 I13 N a0.1 (fun (r7_1:Bool) =>
  bif (!r7_1) then
   kf false
  else
   I14 N a0.2.1 (fun (r12_2:Bool) =>
    bif (!r12_2) then
     kf false
    else
     I15 N a0.2.2.2.2.2.1 (fun (r18_3:Bool) =>
      bif (!r18_3) then
       kf false
      else
       bif ((List.length a0.2.2.2.1:Int) != (List.length a0.2.2.1:Int)) then
        kf false
       else
        bif ((List.length a0.2.2.2.2.1:Int) != (List.length a0.2.2.1:Int)) then
         kf false
        else
         I7 N a0 (fun (r40_4:Bool) =>
          bif r40_4 then
           I16 N a0.1 a0.2.2.1 (fun (r46_5:Bool) =>
            bif (!r46_5) then
             kf false
            else
             I17 N a0.1 a0.2.1 a0.2.2.1 a0.2.2.2.1 (fun (r57_6:Bool) =>
              bif (!r57_6) then
               kf false
              else
               I5_j1 N a0 kf))
          else
           I5_j1 N a0 kf))))
noncomputable def S22_l3 (x0_1:(List Int)):Nat→(Int→Option Ret)→Int→Int→Option Ret
 | 0,_,_,_=>none
 | n_4 + 1,k3_0_5,x3_2,x4_3 =>
  bif (decide (x4_3 < (List.length x0_1:Int))) then
   bif (decide (x4_3 < (4000:Int))) then
    bif (inB x4_3 (List.length x0_1)) then
     (S22_l3 x0_1 n_4 k3_0_5) (IntKind.wrap .i64 (BitVec.toNat (BitVec.ofInt (IntKind.bits .i64) (IntKind.wrap .i64 ((IntKind.wrap .i64 ((IntKind.wrap .i64 (x3_2 * (137:Int))) + (IntKind.wrap .i64 (List.getD x0_1 (Int.toNat x4_3) (0:Int))))) + (11:Int))) &&& BitVec.ofInt (IntKind.bits .i64) (1073741823:Int)))) (IntKind.wrap .i64 (x4_3 + (1:Int)))
    else none
   else
    k3_0_5 x3_2
  else
   k3_0_5 x3_2
noncomputable def S22 (N:Nat) (a0:(List Int)) (kf:QLIIIE→Option Ret):Option Ret:=
 S22_l3 a0 N (fun (z3_7:Int) =>
  kf (a0,((0:Int),z3_7))) (IntKind.wrap .i64 ((193017:Int) + (List.length a0:Int))) (0:Int)
noncomputable def S53 (N:Nat) (a0:QLIIIE) (kf:Int→QLIIIE→Option Ret):Option Ret:=
 share (IntKind.wrap .i64 ((IntKind.wrap .i64 (a0.2.2 * (6364136223846793005:Int))) + (1442695040888963407:Int))) (fun (w0_1:Int) =>
  bif (decide (0≤(33:Int))) then
   bif (decide (0≤(47:Int))) then
    bif (decide (a0.2.1 < (List.length a0.1:Int))) then
     bif (inB a0.2.1 (List.length a0.1)) then
      kf (IntKind.wrap .i64 (BitVec.toNat (BitVec.ofInt (IntKind.bits .i64) (IntKind.wrap .i64 ((IntKind.wrap .i64 (BitVec.toNat (BitVec.ofInt (IntKind.bits .i64) (IntKind.wrap .i64 (BitVec.toNat (BitVec.ofInt (IntKind.bits .i64) (Int.fdiv w0_1 (2 ^ (min (Int.toNat (33:Int)) (IntKind.bits .i64)))) ^^^ BitVec.ofInt (IntKind.bits .i64) (Int.fdiv w0_1 (2 ^ (min (Int.toNat (47:Int)) (IntKind.bits .i64))))))) &&& BitVec.ofInt (IntKind.bits .i64) (255:Int)))) + (IntKind.wrap .i64 (List.getD a0.1 (Int.toNat a0.2.1) (0:Int))))) &&& BitVec.ofInt (IntKind.bits .i64) (255:Int)))) (a0.1,((IntKind.wrap .i64 (a0.2.1 + (1:Int))),w0_1))
     else none
    else
     kf (IntKind.wrap .i64 (BitVec.toNat (BitVec.ofInt (IntKind.bits .i64) (IntKind.wrap .i64 (BitVec.toNat (BitVec.ofInt (IntKind.bits .i64) (Int.fdiv w0_1 (2 ^ (min (Int.toNat (33:Int)) (IntKind.bits .i64)))) ^^^ BitVec.ofInt (IntKind.bits .i64) (Int.fdiv w0_1 (2 ^ (min (Int.toNat (47:Int)) (IntKind.bits .i64))))))) &&& BitVec.ofInt (IntKind.bits .i64) (255:Int)))) (a0.1,(a0.2.1,w0_1))
   else none
  else none)
noncomputable def S25 (N:Nat) (a0:QLIIIE) (a1:Int) (kf:Int→QLIIIE→Option Ret):Option Ret:=
 bif (decide (a1≤(0:Int))) then
  kf (0:Int) a0
 else
  bif (decide (a1≤(256:Int))) then
   S53 N a0 (fun (r13_1:Int) (z0_2:QLIIIE) =>
    bif (!decide (a1=0)) then
     kf (Int.tmod r13_1 a1) z0_2
    else none)
  else
   S53 N a0 (fun (r17_3:Int) (z0_4:QLIIIE) =>
    S53 N z0_4 (fun (r19_5:Int) (z0_6:QLIIIE) =>
     S53 N z0_6 (fun (r21_7:Int) (z0_8:QLIIIE) =>
      bif (!decide (a1=0)) then
       kf (Int.tmod (IntKind.wrap .i64 ((IntKind.wrap .i64 ((IntKind.wrap .i64 (r17_3 * (65536:Int))) + (IntKind.wrap .i64 (r19_5 * (256:Int))))) + r21_7)) a1) z0_8
      else none)))
noncomputable def S51_l3 (x0_1:(List QIIIIILIE)):Nat→((List QIIIIILIE)→Option Ret)→(List QIIIIILIE)→Int→Option Ret
 | 0,_,_,_=>none
 | n_4 + 1,k3_0_5,x3_2,x4_3 =>
  bif (decide (x4_3 < (List.length x0_1:Int))) then
   bif (inB x4_3 (List.length x0_1)) then
    bif (decide ((List.length ([]:(List Int)) + List.length (List.getD x0_1 (Int.toNat x4_3) zQIIIIILIE).2.2.2.2.2) * 1≤4398046511104)) then
     bif (decide ((List.length x3_2 + List.length [((List.getD x0_1 (Int.toNat x4_3) zQIIIIILIE).1,((List.getD x0_1 (Int.toNat x4_3) zQIIIIILIE).2.1,((List.getD x0_1 (Int.toNat x4_3) zQIIIIILIE).2.2.1,((List.getD x0_1 (Int.toNat x4_3) zQIIIIILIE).2.2.2.1,((List.getD x0_1 (Int.toNat x4_3) zQIIIIILIE).2.2.2.2.1,(([]:(List Int)) ++ (List.getD x0_1 (Int.toNat x4_3) zQIIIIILIE).2.2.2.2.2))))))]) * 6≤4398046511104)) then
      (S51_l3 x0_1 n_4 k3_0_5) (x3_2 ++ [((List.getD x0_1 (Int.toNat x4_3) zQIIIIILIE).1,((List.getD x0_1 (Int.toNat x4_3) zQIIIIILIE).2.1,((List.getD x0_1 (Int.toNat x4_3) zQIIIIILIE).2.2.1,((List.getD x0_1 (Int.toNat x4_3) zQIIIIILIE).2.2.2.1,((List.getD x0_1 (Int.toNat x4_3) zQIIIIILIE).2.2.2.2.1,(([]:(List Int)) ++ (List.getD x0_1 (Int.toNat x4_3) zQIIIIILIE).2.2.2.2.2))))))]) (IntKind.wrap .i64 (x4_3 + (1:Int)))
     else none
    else none
   else none
  else
   k3_0_5 x3_2
noncomputable def S51 (N:Nat) (a0:(List QIIIIILIE)) (kf:(List QIIIIILIE)→Option Ret):Option Ret:=
 S51_l3 a0 N kf ([]:(List QIIIIILIE)) (0:Int)
noncomputable def S68_l2 (x0_1:(List QIIIIILIE)) (x1_2:Int):Nat→(Option Ret)→(Int→Option Ret)→Int→Option Ret
 | 0,_,_,_=>none
 | n_4 + 1,k2_0_5,k2_1_6,x5_3 =>
  bif (decide (x5_3 < (List.length x0_1:Int))) then
   bif (inB x5_3 (List.length x0_1)) then
    bif ((List.getD x0_1 (Int.toNat x5_3) zQIIIIILIE).1 == x1_2) then
     k2_1_6 x5_3
    else
     (S68_l2 x0_1 x1_2 n_4 k2_0_5 k2_1_6) (IntKind.wrap .i64 (x5_3 + (1:Int)))
   else none
  else
   k2_0_5
noncomputable def S68 (N:Nat) (a0:(List QIIIIILIE)) (a1:Int) (kf:Int→Option Ret):Option Ret:=
 S68_l2 a0 a1 N (kf (-1:Int)) kf (0:Int)
noncomputable def S69 (N:Nat) (a0:Int) (a1:Int) (a2:Int) (kf:Bool→Option Ret):Option Ret:=
 bif (decide (a0 ≥ a1)) then
  kf (decide (a0≤a2))
 else
  kf false
noncomputable def S70_l3 (x0_1:(List Int)) (x1_2:Int):Nat→(Int→Option Ret)→Int→Int→Option Ret
 | 0,_,_,_=>none
 | n_5 + 1,k3_0_7,x5_3,x6_4 =>
  bif (decide (x6_4 < (List.length x0_1:Int))) then
   bif (inB x6_4 (List.length x0_1)) then
    bif ((List.getD x0_1 (Int.toNat x6_4) (0:Int)) == x1_2) then
     (S70_l3 x0_1 x1_2 n_5 k3_0_7) (IntKind.wrap .i64 (x5_3 + (1:Int))) (IntKind.wrap .i64 (x6_4 + (1:Int)))
    else
     (S70_l3 x0_1 x1_2 n_5 k3_0_7) x5_3 (IntKind.wrap .i64 (x6_4 + (1:Int)))
   else none
  else
   k3_0_7 x5_3
noncomputable def S70 (N:Nat) (a0:(List Int)) (a1:Int) (kf:Int→Option Ret):Option Ret:=
 S70_l3 a0 a1 N kf (0:Int) (0:Int)
noncomputable def S60_l8 (N:Nat) (x0_9:(List QIIIIILIE)) (x3_10:Int) (x4_11:QIIIIILIE):Nat→(Option Ret)→(Bool→Option Ret)→Int→Option Ret
 | 0,_,_,_=>none
 | n_13 + 1,k8_0_17,k8_1_18,x5_12 =>
  bif (decide (x5_12 < (List.length x4_11.2.2.2.2.2:Int))) then
   bif (inB x5_12 (List.length x4_11.2.2.2.2.2)) then
    S68 N x0_9 (List.getD x4_11.2.2.2.2.2 (Int.toNat x5_12) (0:Int)) (fun (r85_14:Int) =>
     bif (decide (r85_14 < (0:Int))) then
      k8_1_18 false
     else
      bif (r85_14 == x3_10) then
       k8_1_18 false
      else
       bif (inB r85_14 (List.length x0_9)) then
        bif (inB r85_14 (List.length x0_9)) then
         S70 N (List.getD x0_9 (Int.toNat r85_14) zQIIIIILIE).2.2.2.2.2 x4_11.1 (fun (r101_15:Int) =>
          S70 N x4_11.2.2.2.2.2 (List.getD x0_9 (Int.toNat r85_14) zQIIIIILIE).1 (fun (r109_16:Int) =>
           bif (r101_15 != r109_16) then
            k8_1_18 false
           else
            (S60_l8 N x0_9 x3_10 x4_11 n_13 k8_0_17 k8_1_18) (IntKind.wrap .i64 (x5_12 + (1:Int)))))
        else none
       else none)
   else none
  else
   k8_0_17
noncomputable def S60_l2 (N:Nat) (x0_1:(List QIIIIILIE)):Nat→(Option Ret)→(Bool→Option Ret)→Int→Option Ret
 | 0,_,_,_=>none
 | n_3 + 1,k2_0_21,k2_1_22,x3_2 =>
  bif (decide (x3_2 < (List.length x0_1:Int))) then
   bif (inB x3_2 (List.length x0_1)) then
    S69 N (List.getD x0_1 (Int.toNat x3_2) zQIIIIILIE).1 (1:Int) (99:Int) (fun (r19_4:Bool) =>
     bif (!r19_4) then
      k2_1_22 false
     else
      S69 N (List.getD x0_1 (Int.toNat x3_2) zQIIIIILIE).2.1 (1:Int) (99:Int) (fun (r24_5:Bool) =>
       bif (!r24_5) then
        k2_1_22 false
       else
        S69 N (List.getD x0_1 (Int.toNat x3_2) zQIIIIILIE).2.2.1 (0:Int) (List.length (List.getD x0_1 (Int.toNat x3_2) zQIIIIILIE).2.2.2.2.2:Int) (fun (r33_6:Bool) =>
         bif (!r33_6) then
          k2_1_22 false
         else
          S69 N (List.getD x0_1 (Int.toNat x3_2) zQIIIIILIE).2.2.2.2.1 (0:Int) (List.length (List.getD x0_1 (Int.toNat x3_2) zQIIIIILIE).2.2.2.2.2:Int) (fun (r42_7:Bool) =>
           bif (!r42_7) then
            k2_1_22 false
           else
            S69 N (List.getD x0_1 (Int.toNat x3_2) zQIIIIILIE).2.2.2.1 (0:Int) (100000:Int) (fun (r48_8:Bool) =>
             bif (!r48_8) then
              k2_1_22 false
             else
              bif (decide ((List.length (List.getD x0_1 (Int.toNat x3_2) zQIIIIILIE).2.2.2.2.2:Int) > (20:Int))) then
               k2_1_22 false
              else
               bif (decide (x3_2 > (0:Int))) then
                bif (inB (IntKind.wrap .i64 (x3_2 - (1:Int))) (List.length x0_1)) then
                 bif (decide ((List.getD x0_1 (Int.toNat (IntKind.wrap .i64 (x3_2 - (1:Int)))) zQIIIIILIE).1 ≥ (List.getD x0_1 (Int.toNat x3_2) zQIIIIILIE).1)) then
                  k2_1_22 false
                 else
                  S60_l8 N x0_1 x3_2 (List.getD x0_1 (Int.toNat x3_2) zQIIIIILIE) N ((S60_l2 N x0_1 n_3 k2_0_21 k2_1_22) (IntKind.wrap .i64 (x3_2 + (1:Int)))) k2_1_22 (0:Int)
                else none
               else
                S60_l8 N x0_1 x3_2 (List.getD x0_1 (Int.toNat x3_2) zQIIIIILIE) N ((S60_l2 N x0_1 n_3 k2_0_21 k2_1_22) (IntKind.wrap .i64 (x3_2 + (1:Int)))) k2_1_22 (0:Int))))))
   else none
  else
   k2_0_21
noncomputable def S60 (N:Nat) (a0:(List QIIIIILIE)) (kf:Bool→Option Ret):Option Ret:=
 S60_l2 N a0 N (kf (decide ((List.length a0:Int)≤(10:Int)))) kf (0:Int)
noncomputable def S59_j1 (N:Nat) (a0:(List QIIIIILIE)) (kf:(List QIIIIILIE)→Bool→Option Ret) (y14_12:(List QIIIIILIE)):Option Ret:=
 S60 N y14_12 (fun (r136_13:Bool) =>
  bif (!r136_13) then
   S51 N a0 (fun (r139_14:(List QIIIIILIE)) =>
    kf r139_14 false)
  else
   kf y14_12 true)
noncomputable def S59 (N:Nat) (a0:(List QIIIIILIE)) (a1:Int) (a2:Int) (a3:Int) (a4:Int) (a5:Int) (kf:(List QIIIIILIE)→Bool→Option Ret):Option Ret:=
 S51 N a0 (fun (r18_1:(List QIIIIILIE)) =>
  S68 N a0 a1 (fun (r21_2:Int) =>
   S68 N a0 a2 (fun (r24_3:Int) =>
    S60 N a0 (fun (r26_4:Bool) =>
     bif (!r26_4) then
      kf r18_1 false
     else
      bif (decide (r21_2 < (0:Int))) then
       kf r18_1 false
      else
       bif (decide (r24_3 < (0:Int))) then
        kf r18_1 false
       else
        bif (r21_2 == r24_3) then
         kf r18_1 false
        else
         S69 N a3 (1:Int) (2:Int) (fun (r43_5:Bool) =>
          bif (!r43_5) then
           kf r18_1 false
          else
           S69 N a4 (0:Int) (1000:Int) (fun (r48_6:Bool) =>
            bif (!r48_6) then
             kf r18_1 false
            else
             S69 N a5 (0:Int) (1000:Int) (fun (r53_7:Bool) =>
              bif (!r53_7) then
               kf r18_1 false
              else
               bif (inB r21_2 (List.length r18_1)) then
                bif (decide ((List.length (List.getD r18_1 (Int.toNat r21_2) zQIIIIILIE).2.2.2.2.2 + List.length [a2]) * 1≤4398046511104)) then
                 bif (inB r21_2 (List.length r18_1)) then
                  bif (Nat.beq (Int.toNat r21_2) (Int.toNat r21_2)) then
                   bif (inB r24_3 (List.length (List.set r18_1 (Int.toNat r21_2) ((List.getD r18_1 (Int.toNat r21_2) zQIIIIILIE).1,((List.getD r18_1 (Int.toNat r21_2) zQIIIIILIE).2.1,((List.getD r18_1 (Int.toNat r21_2) zQIIIIILIE).2.2.1,((List.getD r18_1 (Int.toNat r21_2) zQIIIIILIE).2.2.2.1,((List.getD r18_1 (Int.toNat r21_2) zQIIIIILIE).2.2.2.2.1,((List.getD r18_1 (Int.toNat r21_2) zQIIIIILIE).2.2.2.2.2 ++ [a2]))))))))) then
                    bif (decide ((List.length (List.getD (List.set r18_1 (Int.toNat r21_2) ((List.getD r18_1 (Int.toNat r21_2) zQIIIIILIE).1,((List.getD r18_1 (Int.toNat r21_2) zQIIIIILIE).2.1,((List.getD r18_1 (Int.toNat r21_2) zQIIIIILIE).2.2.1,((List.getD r18_1 (Int.toNat r21_2) zQIIIIILIE).2.2.2.1,((List.getD r18_1 (Int.toNat r21_2) zQIIIIILIE).2.2.2.2.1,((List.getD r18_1 (Int.toNat r21_2) zQIIIIILIE).2.2.2.2.2 ++ [a2]))))))) (Int.toNat r24_3) zQIIIIILIE).2.2.2.2.2 + List.length [a1]) * 1≤4398046511104)) then
                     bif (inB r24_3 (List.length (List.set r18_1 (Int.toNat r21_2) ((List.getD r18_1 (Int.toNat r21_2) zQIIIIILIE).1,((List.getD r18_1 (Int.toNat r21_2) zQIIIIILIE).2.1,((List.getD r18_1 (Int.toNat r21_2) zQIIIIILIE).2.2.1,((List.getD r18_1 (Int.toNat r21_2) zQIIIIILIE).2.2.2.1,((List.getD r18_1 (Int.toNat r21_2) zQIIIIILIE).2.2.2.2.1,((List.getD r18_1 (Int.toNat r21_2) zQIIIIILIE).2.2.2.2.2 ++ [a2]))))))))) then
                      bif (Nat.beq (Int.toNat r24_3) (Int.toNat r24_3)) then
                       share (List.set (List.set r18_1 (Int.toNat r21_2) ((List.getD r18_1 (Int.toNat r21_2) zQIIIIILIE).1,((List.getD r18_1 (Int.toNat r21_2) zQIIIIILIE).2.1,((List.getD r18_1 (Int.toNat r21_2) zQIIIIILIE).2.2.1,((List.getD r18_1 (Int.toNat r21_2) zQIIIIILIE).2.2.2.1,((List.getD r18_1 (Int.toNat r21_2) zQIIIIILIE).2.2.2.2.1,((List.getD r18_1 (Int.toNat r21_2) zQIIIIILIE).2.2.2.2.2 ++ [a2]))))))) (Int.toNat r24_3) ((List.getD (List.set r18_1 (Int.toNat r21_2) ((List.getD r18_1 (Int.toNat r21_2) zQIIIIILIE).1,((List.getD r18_1 (Int.toNat r21_2) zQIIIIILIE).2.1,((List.getD r18_1 (Int.toNat r21_2) zQIIIIILIE).2.2.1,((List.getD r18_1 (Int.toNat r21_2) zQIIIIILIE).2.2.2.1,((List.getD r18_1 (Int.toNat r21_2) zQIIIIILIE).2.2.2.2.1,((List.getD r18_1 (Int.toNat r21_2) zQIIIIILIE).2.2.2.2.2 ++ [a2]))))))) (Int.toNat r24_3) zQIIIIILIE).1,((List.getD (List.set r18_1 (Int.toNat r21_2) ((List.getD r18_1 (Int.toNat r21_2) zQIIIIILIE).1,((List.getD r18_1 (Int.toNat r21_2) zQIIIIILIE).2.1,((List.getD r18_1 (Int.toNat r21_2) zQIIIIILIE).2.2.1,((List.getD r18_1 (Int.toNat r21_2) zQIIIIILIE).2.2.2.1,((List.getD r18_1 (Int.toNat r21_2) zQIIIIILIE).2.2.2.2.1,((List.getD r18_1 (Int.toNat r21_2) zQIIIIILIE).2.2.2.2.2 ++ [a2]))))))) (Int.toNat r24_3) zQIIIIILIE).2.1,((List.getD (List.set r18_1 (Int.toNat r21_2) ((List.getD r18_1 (Int.toNat r21_2) zQIIIIILIE).1,((List.getD r18_1 (Int.toNat r21_2) zQIIIIILIE).2.1,((List.getD r18_1 (Int.toNat r21_2) zQIIIIILIE).2.2.1,((List.getD r18_1 (Int.toNat r21_2) zQIIIIILIE).2.2.2.1,((List.getD r18_1 (Int.toNat r21_2) zQIIIIILIE).2.2.2.2.1,((List.getD r18_1 (Int.toNat r21_2) zQIIIIILIE).2.2.2.2.2 ++ [a2]))))))) (Int.toNat r24_3) zQIIIIILIE).2.2.1,((List.getD (List.set r18_1 (Int.toNat r21_2) ((List.getD r18_1 (Int.toNat r21_2) zQIIIIILIE).1,((List.getD r18_1 (Int.toNat r21_2) zQIIIIILIE).2.1,((List.getD r18_1 (Int.toNat r21_2) zQIIIIILIE).2.2.1,((List.getD r18_1 (Int.toNat r21_2) zQIIIIILIE).2.2.2.1,((List.getD r18_1 (Int.toNat r21_2) zQIIIIILIE).2.2.2.2.1,((List.getD r18_1 (Int.toNat r21_2) zQIIIIILIE).2.2.2.2.2 ++ [a2]))))))) (Int.toNat r24_3) zQIIIIILIE).2.2.2.1,((List.getD (List.set r18_1 (Int.toNat r21_2) ((List.getD r18_1 (Int.toNat r21_2) zQIIIIILIE).1,((List.getD r18_1 (Int.toNat r21_2) zQIIIIILIE).2.1,((List.getD r18_1 (Int.toNat r21_2) zQIIIIILIE).2.2.1,((List.getD r18_1 (Int.toNat r21_2) zQIIIIILIE).2.2.2.1,((List.getD r18_1 (Int.toNat r21_2) zQIIIIILIE).2.2.2.2.1,((List.getD r18_1 (Int.toNat r21_2) zQIIIIILIE).2.2.2.2.2 ++ [a2]))))))) (Int.toNat r24_3) zQIIIIILIE).2.2.2.2.1,((List.getD (List.set r18_1 (Int.toNat r21_2) ((List.getD r18_1 (Int.toNat r21_2) zQIIIIILIE).1,((List.getD r18_1 (Int.toNat r21_2) zQIIIIILIE).2.1,((List.getD r18_1 (Int.toNat r21_2) zQIIIIILIE).2.2.1,((List.getD r18_1 (Int.toNat r21_2) zQIIIIILIE).2.2.2.1,((List.getD r18_1 (Int.toNat r21_2) zQIIIIILIE).2.2.2.2.1,((List.getD r18_1 (Int.toNat r21_2) zQIIIIILIE).2.2.2.2.2 ++ [a2]))))))) (Int.toNat r24_3) zQIIIIILIE).2.2.2.2.2 ++ [a1]))))))) (fun (w14_8:(List QIIIIILIE)) =>
                        bif (inB r21_2 (List.length w14_8)) then
                         bif (inB r21_2 (List.length w14_8)) then
                          bif (inB r21_2 (List.length (List.set w14_8 (Int.toNat r21_2) ((List.getD w14_8 (Int.toNat r21_2) zQIIIIILIE).1,((List.getD w14_8 (Int.toNat r21_2) zQIIIIILIE).2.1,((List.getD w14_8 (Int.toNat r21_2) zQIIIIILIE).2.2.1,((List.getD w14_8 (Int.toNat r21_2) zQIIIIILIE).2.2.2.1,((IntKind.wrap .i64 ((List.getD w14_8 (Int.toNat r21_2) zQIIIIILIE).2.2.2.2.1 + (1:Int))),(List.getD w14_8 (Int.toNat r21_2) zQIIIIILIE).2.2.2.2.2)))))))) then
                           bif (inB r21_2 (List.length (List.set w14_8 (Int.toNat r21_2) ((List.getD w14_8 (Int.toNat r21_2) zQIIIIILIE).1,((List.getD w14_8 (Int.toNat r21_2) zQIIIIILIE).2.1,((List.getD w14_8 (Int.toNat r21_2) zQIIIIILIE).2.2.1,((List.getD w14_8 (Int.toNat r21_2) zQIIIIILIE).2.2.2.1,((IntKind.wrap .i64 ((List.getD w14_8 (Int.toNat r21_2) zQIIIIILIE).2.2.2.2.1 + (1:Int))),(List.getD w14_8 (Int.toNat r21_2) zQIIIIILIE).2.2.2.2.2)))))))) then
                            share (List.set (List.set w14_8 (Int.toNat r21_2) ((List.getD w14_8 (Int.toNat r21_2) zQIIIIILIE).1,((List.getD w14_8 (Int.toNat r21_2) zQIIIIILIE).2.1,((List.getD w14_8 (Int.toNat r21_2) zQIIIIILIE).2.2.1,((List.getD w14_8 (Int.toNat r21_2) zQIIIIILIE).2.2.2.1,((IntKind.wrap .i64 ((List.getD w14_8 (Int.toNat r21_2) zQIIIIILIE).2.2.2.2.1 + (1:Int))),(List.getD w14_8 (Int.toNat r21_2) zQIIIIILIE).2.2.2.2.2)))))) (Int.toNat r21_2) ((List.getD (List.set w14_8 (Int.toNat r21_2) ((List.getD w14_8 (Int.toNat r21_2) zQIIIIILIE).1,((List.getD w14_8 (Int.toNat r21_2) zQIIIIILIE).2.1,((List.getD w14_8 (Int.toNat r21_2) zQIIIIILIE).2.2.1,((List.getD w14_8 (Int.toNat r21_2) zQIIIIILIE).2.2.2.1,((IntKind.wrap .i64 ((List.getD w14_8 (Int.toNat r21_2) zQIIIIILIE).2.2.2.2.1 + (1:Int))),(List.getD w14_8 (Int.toNat r21_2) zQIIIIILIE).2.2.2.2.2)))))) (Int.toNat r21_2) zQIIIIILIE).1,((List.getD (List.set w14_8 (Int.toNat r21_2) ((List.getD w14_8 (Int.toNat r21_2) zQIIIIILIE).1,((List.getD w14_8 (Int.toNat r21_2) zQIIIIILIE).2.1,((List.getD w14_8 (Int.toNat r21_2) zQIIIIILIE).2.2.1,((List.getD w14_8 (Int.toNat r21_2) zQIIIIILIE).2.2.2.1,((IntKind.wrap .i64 ((List.getD w14_8 (Int.toNat r21_2) zQIIIIILIE).2.2.2.2.1 + (1:Int))),(List.getD w14_8 (Int.toNat r21_2) zQIIIIILIE).2.2.2.2.2)))))) (Int.toNat r21_2) zQIIIIILIE).2.1,((List.getD (List.set w14_8 (Int.toNat r21_2) ((List.getD w14_8 (Int.toNat r21_2) zQIIIIILIE).1,((List.getD w14_8 (Int.toNat r21_2) zQIIIIILIE).2.1,((List.getD w14_8 (Int.toNat r21_2) zQIIIIILIE).2.2.1,((List.getD w14_8 (Int.toNat r21_2) zQIIIIILIE).2.2.2.1,((IntKind.wrap .i64 ((List.getD w14_8 (Int.toNat r21_2) zQIIIIILIE).2.2.2.2.1 + (1:Int))),(List.getD w14_8 (Int.toNat r21_2) zQIIIIILIE).2.2.2.2.2)))))) (Int.toNat r21_2) zQIIIIILIE).2.2.1,((IntKind.wrap .i64 ((List.getD (List.set w14_8 (Int.toNat r21_2) ((List.getD w14_8 (Int.toNat r21_2) zQIIIIILIE).1,((List.getD w14_8 (Int.toNat r21_2) zQIIIIILIE).2.1,((List.getD w14_8 (Int.toNat r21_2) zQIIIIILIE).2.2.1,((List.getD w14_8 (Int.toNat r21_2) zQIIIIILIE).2.2.2.1,((IntKind.wrap .i64 ((List.getD w14_8 (Int.toNat r21_2) zQIIIIILIE).2.2.2.2.1 + (1:Int))),(List.getD w14_8 (Int.toNat r21_2) zQIIIIILIE).2.2.2.2.2)))))) (Int.toNat r21_2) zQIIIIILIE).2.2.2.1 + a4)),(List.getD (List.set w14_8 (Int.toNat r21_2) ((List.getD w14_8 (Int.toNat r21_2) zQIIIIILIE).1,((List.getD w14_8 (Int.toNat r21_2) zQIIIIILIE).2.1,((List.getD w14_8 (Int.toNat r21_2) zQIIIIILIE).2.2.1,((List.getD w14_8 (Int.toNat r21_2) zQIIIIILIE).2.2.2.1,((IntKind.wrap .i64 ((List.getD w14_8 (Int.toNat r21_2) zQIIIIILIE).2.2.2.2.1 + (1:Int))),(List.getD w14_8 (Int.toNat r21_2) zQIIIIILIE).2.2.2.2.2)))))) (Int.toNat r21_2) zQIIIIILIE).2.2.2.2))))) (fun (w14_9:(List QIIIIILIE)) =>
                             bif (inB r24_3 (List.length w14_9)) then
                              bif (inB r24_3 (List.length w14_9)) then
                               bif (a3 == (1:Int)) then
                                bif (inB r21_2 (List.length (List.set w14_9 (Int.toNat r24_3) ((List.getD w14_9 (Int.toNat r24_3) zQIIIIILIE).1,((List.getD w14_9 (Int.toNat r24_3) zQIIIIILIE).2.1,((List.getD w14_9 (Int.toNat r24_3) zQIIIIILIE).2.2.1,((IntKind.wrap .i64 ((List.getD w14_9 (Int.toNat r24_3) zQIIIIILIE).2.2.2.1 + a5)),(List.getD w14_9 (Int.toNat r24_3) zQIIIIILIE).2.2.2.2))))))) then
                                 bif (inB r21_2 (List.length (List.set w14_9 (Int.toNat r24_3) ((List.getD w14_9 (Int.toNat r24_3) zQIIIIILIE).1,((List.getD w14_9 (Int.toNat r24_3) zQIIIIILIE).2.1,((List.getD w14_9 (Int.toNat r24_3) zQIIIIILIE).2.2.1,((IntKind.wrap .i64 ((List.getD w14_9 (Int.toNat r24_3) zQIIIIILIE).2.2.2.1 + a5)),(List.getD w14_9 (Int.toNat r24_3) zQIIIIILIE).2.2.2.2))))))) then
                                  share (List.set (List.set w14_9 (Int.toNat r24_3) ((List.getD w14_9 (Int.toNat r24_3) zQIIIIILIE).1,((List.getD w14_9 (Int.toNat r24_3) zQIIIIILIE).2.1,((List.getD w14_9 (Int.toNat r24_3) zQIIIIILIE).2.2.1,((IntKind.wrap .i64 ((List.getD w14_9 (Int.toNat r24_3) zQIIIIILIE).2.2.2.1 + a5)),(List.getD w14_9 (Int.toNat r24_3) zQIIIIILIE).2.2.2.2))))) (Int.toNat r21_2) ((List.getD (List.set w14_9 (Int.toNat r24_3) ((List.getD w14_9 (Int.toNat r24_3) zQIIIIILIE).1,((List.getD w14_9 (Int.toNat r24_3) zQIIIIILIE).2.1,((List.getD w14_9 (Int.toNat r24_3) zQIIIIILIE).2.2.1,((IntKind.wrap .i64 ((List.getD w14_9 (Int.toNat r24_3) zQIIIIILIE).2.2.2.1 + a5)),(List.getD w14_9 (Int.toNat r24_3) zQIIIIILIE).2.2.2.2))))) (Int.toNat r21_2) zQIIIIILIE).1,((List.getD (List.set w14_9 (Int.toNat r24_3) ((List.getD w14_9 (Int.toNat r24_3) zQIIIIILIE).1,((List.getD w14_9 (Int.toNat r24_3) zQIIIIILIE).2.1,((List.getD w14_9 (Int.toNat r24_3) zQIIIIILIE).2.2.1,((IntKind.wrap .i64 ((List.getD w14_9 (Int.toNat r24_3) zQIIIIILIE).2.2.2.1 + a5)),(List.getD w14_9 (Int.toNat r24_3) zQIIIIILIE).2.2.2.2))))) (Int.toNat r21_2) zQIIIIILIE).2.1,((IntKind.wrap .i64 ((List.getD (List.set w14_9 (Int.toNat r24_3) ((List.getD w14_9 (Int.toNat r24_3) zQIIIIILIE).1,((List.getD w14_9 (Int.toNat r24_3) zQIIIIILIE).2.1,((List.getD w14_9 (Int.toNat r24_3) zQIIIIILIE).2.2.1,((IntKind.wrap .i64 ((List.getD w14_9 (Int.toNat r24_3) zQIIIIILIE).2.2.2.1 + a5)),(List.getD w14_9 (Int.toNat r24_3) zQIIIIILIE).2.2.2.2))))) (Int.toNat r21_2) zQIIIIILIE).2.2.1 + (1:Int))),(List.getD (List.set w14_9 (Int.toNat r24_3) ((List.getD w14_9 (Int.toNat r24_3) zQIIIIILIE).1,((List.getD w14_9 (Int.toNat r24_3) zQIIIIILIE).2.1,((List.getD w14_9 (Int.toNat r24_3) zQIIIIILIE).2.2.1,((IntKind.wrap .i64 ((List.getD w14_9 (Int.toNat r24_3) zQIIIIILIE).2.2.2.1 + a5)),(List.getD w14_9 (Int.toNat r24_3) zQIIIIILIE).2.2.2.2))))) (Int.toNat r21_2) zQIIIIILIE).2.2.2)))) (fun (w14_10:(List QIIIIILIE)) =>
                                   S59_j1 N a0 kf w14_10)
                                 else none
                                else none
                               else
                                bif (inB r24_3 (List.length (List.set w14_9 (Int.toNat r24_3) ((List.getD w14_9 (Int.toNat r24_3) zQIIIIILIE).1,((List.getD w14_9 (Int.toNat r24_3) zQIIIIILIE).2.1,((List.getD w14_9 (Int.toNat r24_3) zQIIIIILIE).2.2.1,((IntKind.wrap .i64 ((List.getD w14_9 (Int.toNat r24_3) zQIIIIILIE).2.2.2.1 + a5)),(List.getD w14_9 (Int.toNat r24_3) zQIIIIILIE).2.2.2.2))))))) then
                                 bif (inB r24_3 (List.length (List.set w14_9 (Int.toNat r24_3) ((List.getD w14_9 (Int.toNat r24_3) zQIIIIILIE).1,((List.getD w14_9 (Int.toNat r24_3) zQIIIIILIE).2.1,((List.getD w14_9 (Int.toNat r24_3) zQIIIIILIE).2.2.1,((IntKind.wrap .i64 ((List.getD w14_9 (Int.toNat r24_3) zQIIIIILIE).2.2.2.1 + a5)),(List.getD w14_9 (Int.toNat r24_3) zQIIIIILIE).2.2.2.2))))))) then
                                  share (List.set (List.set w14_9 (Int.toNat r24_3) ((List.getD w14_9 (Int.toNat r24_3) zQIIIIILIE).1,((List.getD w14_9 (Int.toNat r24_3) zQIIIIILIE).2.1,((List.getD w14_9 (Int.toNat r24_3) zQIIIIILIE).2.2.1,((IntKind.wrap .i64 ((List.getD w14_9 (Int.toNat r24_3) zQIIIIILIE).2.2.2.1 + a5)),(List.getD w14_9 (Int.toNat r24_3) zQIIIIILIE).2.2.2.2))))) (Int.toNat r24_3) ((List.getD (List.set w14_9 (Int.toNat r24_3) ((List.getD w14_9 (Int.toNat r24_3) zQIIIIILIE).1,((List.getD w14_9 (Int.toNat r24_3) zQIIIIILIE).2.1,((List.getD w14_9 (Int.toNat r24_3) zQIIIIILIE).2.2.1,((IntKind.wrap .i64 ((List.getD w14_9 (Int.toNat r24_3) zQIIIIILIE).2.2.2.1 + a5)),(List.getD w14_9 (Int.toNat r24_3) zQIIIIILIE).2.2.2.2))))) (Int.toNat r24_3) zQIIIIILIE).1,((List.getD (List.set w14_9 (Int.toNat r24_3) ((List.getD w14_9 (Int.toNat r24_3) zQIIIIILIE).1,((List.getD w14_9 (Int.toNat r24_3) zQIIIIILIE).2.1,((List.getD w14_9 (Int.toNat r24_3) zQIIIIILIE).2.2.1,((IntKind.wrap .i64 ((List.getD w14_9 (Int.toNat r24_3) zQIIIIILIE).2.2.2.1 + a5)),(List.getD w14_9 (Int.toNat r24_3) zQIIIIILIE).2.2.2.2))))) (Int.toNat r24_3) zQIIIIILIE).2.1,((IntKind.wrap .i64 ((List.getD (List.set w14_9 (Int.toNat r24_3) ((List.getD w14_9 (Int.toNat r24_3) zQIIIIILIE).1,((List.getD w14_9 (Int.toNat r24_3) zQIIIIILIE).2.1,((List.getD w14_9 (Int.toNat r24_3) zQIIIIILIE).2.2.1,((IntKind.wrap .i64 ((List.getD w14_9 (Int.toNat r24_3) zQIIIIILIE).2.2.2.1 + a5)),(List.getD w14_9 (Int.toNat r24_3) zQIIIIILIE).2.2.2.2))))) (Int.toNat r24_3) zQIIIIILIE).2.2.1 + (1:Int))),(List.getD (List.set w14_9 (Int.toNat r24_3) ((List.getD w14_9 (Int.toNat r24_3) zQIIIIILIE).1,((List.getD w14_9 (Int.toNat r24_3) zQIIIIILIE).2.1,((List.getD w14_9 (Int.toNat r24_3) zQIIIIILIE).2.2.1,((IntKind.wrap .i64 ((List.getD w14_9 (Int.toNat r24_3) zQIIIIILIE).2.2.2.1 + a5)),(List.getD w14_9 (Int.toNat r24_3) zQIIIIILIE).2.2.2.2))))) (Int.toNat r24_3) zQIIIIILIE).2.2.2)))) (fun (w14_11:(List QIIIIILIE)) =>
                                   S59_j1 N a0 kf w14_11)
                                 else none
                                else none
                              else none
                             else none)
                           else none
                          else none
                         else none
                        else none)
                      else none
                     else none
                    else none
                   else none
                  else none
                 else none
                else none
               else none)))))))
noncomputable def S42_l3 (N:Nat):Nat→(QLIIIE→(List QIIIIILIE)→Option Ret)→QLIIIE→(List QIIIIILIE)→Int→Option Ret
 | 0,_,_,_,_=>none
 | n_4 + 1,k3_0_9,x0_1,x3_2,x4_3 =>
  S25 N x0_1 (5:Int) (fun (r9_5:Int) (z0_6:QLIIIE) =>
   bif (decide (x4_3≤(IntKind.wrap .i64 ((2:Int) + r9_5)))) then
    S25 N z0_6 (3:Int) (fun (r18_7:Int) (z0_8:QLIIIE) =>
     bif (decide ((List.length x3_2 + List.length [((IntKind.wrap .i64 ((2:Int) * x4_3)),((IntKind.wrap .i64 ((1:Int) + r18_7)),((0:Int),((0:Int),((0:Int),([]:(List Int)))))))]) * 6≤4398046511104)) then
      (S42_l3 N n_4 k3_0_9) z0_8 (x3_2 ++ [((IntKind.wrap .i64 ((2:Int) * x4_3)),((IntKind.wrap .i64 ((1:Int) + r18_7)),((0:Int),((0:Int),((0:Int),([]:(List Int)))))))]) (IntKind.wrap .i64 (x4_3 + (1:Int)))
     else none)
   else
    k3_0_9 z0_6 x3_2)
noncomputable def S42_l7 (N:Nat):Nat→(QLIIIE→(List QIIIIILIE)→Option Ret)→QLIIIE→(List QIIIIILIE)→Int→Option Ret
 | 0,_,_,_,_=>none
 | n_18 + 1,k7_0_31,x0_15,x3_16,x5_17 =>
  bif (decide (x5_17 > (0:Int))) then
   S25 N x0_15 (6:Int) (fun (r32_19:Int) (z0_20:QLIIIE) =>
    S25 N z0_20 (6:Int) (fun (r36_21:Int) (z0_22:QLIIIE) =>
     S25 N z0_22 (2:Int) (fun (r40_23:Int) (z0_24:QLIIIE) =>
      S25 N z0_24 (20:Int) (fun (r43_25:Int) (z0_26:QLIIIE) =>
       S25 N z0_26 (20:Int) (fun (r46_27:Int) (z0_28:QLIIIE) =>
        S59 N x3_16 (IntKind.wrap .i64 ((2:Int) * (IntKind.wrap .i64 ((1:Int) + r32_19)))) (IntKind.wrap .i64 ((2:Int) * (IntKind.wrap .i64 ((1:Int) + r36_21)))) (IntKind.wrap .i64 ((1:Int) + r40_23)) (IntKind.wrap .i64 ((60:Int) + r43_25)) (IntKind.wrap .i64 ((60:Int) + r46_27)) (fun (r48_29:(List QIIIIILIE)) (r48_30:Bool) =>
         (S42_l7 N n_18 k7_0_31) z0_28 r48_29 (IntKind.wrap .i64 (x5_17 - (1:Int)))))))))
  else
   k7_0_31 x0_15 x3_16
noncomputable def S42 (N:Nat) (a0:QLIIIE) (kf:(List QIIIIILIE)→QLIIIE→Option Ret):Option Ret:=
 S42_l3 N N (fun (z0_11:QLIIIE) (z3_12:(List QIIIIILIE)) =>
  S25 N z0_11 (7:Int) (fun (r24_13:Int) (z0_14:QLIIIE) =>
   S42_l7 N N (fun (z0_33:QLIIIE) (z3_34:(List QIIIIILIE)) =>
    kf z3_34 z0_33) z0_14 z3_12 r24_13)) a0 ([]:(List QIIIIILIE)) (1:Int)
noncomputable def S47 (N:Nat) (a0:QLIIIE) (a1:Int) (kf:Bool→QLIIIE→Option Ret):Option Ret:=
 S25 N a0 a1 (fun (r7_1:Int) (z0_2:QLIIIE) =>
  kf (r7_1 == (0:Int)) z0_2)
noncomputable def S43_j1 (r17_7:Int) (rc3_17:QLIIIE→(List QIILIE)→Int→Option Ret) (x3_2:(List QIILIE)) (x4_3:Int) (y0_14:QLIIIE) (y5_15:(List Int)):Option Ret:=
 bif (decide ((List.length x3_2 + List.length [((IntKind.wrap .i64 ((10:Int) + x4_3)),((IntKind.wrap .i64 ((1:Int) + r17_7)),y5_15))]) * 3≤4398046511104)) then
  rc3_17 y0_14 (x3_2 ++ [((IntKind.wrap .i64 ((10:Int) + x4_3)),((IntKind.wrap .i64 ((1:Int) + r17_7)),y5_15))]) (IntKind.wrap .i64 (x4_3 + (1:Int)))
 else none
noncomputable def S43_l3 (N:Nat):Nat→(QLIIIE→(List QIILIE)→Option Ret)→QLIIIE→(List QIILIE)→Int→Option Ret
 | 0,_,_,_,_=>none
 | n_4 + 1,k3_0_16,x0_1,x3_2,x4_3 =>
  S25 N x0_1 (5:Int) (fun (r9_5:Int) (z0_6:QLIIIE) =>
   bif (decide (x4_3≤(IntKind.wrap .i64 ((1:Int) + r9_5)))) then
    S25 N z0_6 (5:Int) (fun (r17_7:Int) (z0_8:QLIIIE) =>
     S47 N z0_8 (3:Int) (fun (r21_9:Bool) (z0_10:QLIIIE) =>
      bif r21_9 then
       S25 N z0_10 (6:Int) (fun (r23_11:Int) (z0_12:QLIIIE) =>
        share [(IntKind.wrap .i64 ((2:Int) * (IntKind.wrap .i64 ((1:Int) + r23_11))))] (fun (w5_13:(List Int)) =>
         S43_j1 r17_7 (S43_l3 N n_4 k3_0_16) x3_2 x4_3 z0_12 w5_13))
      else
       S43_j1 r17_7 (S43_l3 N n_4 k3_0_16) x3_2 x4_3 z0_10 ([]:(List Int))))
   else
    k3_0_16 z0_6 x3_2)
noncomputable def S43 (N:Nat) (a0:QLIIIE) (kf:(List QIILIE)→QLIIIE→Option Ret):Option Ret:=
 S43_l3 N N (fun (z0_18:QLIIIE) (z3_19:(List QIILIE)) =>
  kf z3_19 z0_18) a0 ([]:(List QIILIE)) (1:Int)
noncomputable def S44_l3 (N:Nat) (x0_1:(List QIIIIILIE)):Nat→(Int→Option Ret)→Int→Int→Option Ret
 | 0,_,_,_=>none
 | n_4 + 1,k3_0_6,x3_2,x4_3 =>
  bif (decide (x4_3 < (List.length x0_1:Int))) then
   S60 N x0_1 (fun (r11_5:Bool) =>
    bif r11_5 then
     bif (inB x4_3 (List.length x0_1)) then
      (S44_l3 N x0_1 n_4 k3_0_6) (IntKind.wrap .i64 (x3_2 + (List.getD x0_1 (Int.toNat x4_3) zQIIIIILIE).2.2.1)) (IntKind.wrap .i64 (x4_3 + (1:Int)))
     else none
    else
     k3_0_6 x3_2)
  else
   k3_0_6 x3_2
noncomputable def S44 (N:Nat) (a0:(List QIIIIILIE)) (kf:Int→Option Ret):Option Ret:=
 S44_l3 N a0 N kf (0:Int) (0:Int)
noncomputable def S73 (N:Nat) (a0:QIIIIILIE) (a1:QIIIIILIE) (kf:Bool→Option Ret):Option Ret:=
 bif (a0.2.2.1 != a1.2.2.1) then
  kf (decide (a0.2.2.1 > a1.2.2.1))
 else
  bif (decide (a0.2.2.2.1 > a1.2.2.2.1)) then
   kf true
  else
   bif (a0.2.2.2.1 == a1.2.2.2.1) then
    kf (decide (a0.1 < a1.1))
   else
    kf false
noncomputable def S62_l11 (x3_18:(List QIIIIILIE)):Nat→((List Int)→Option Ret)→(List Int)→Int→Option Ret
 | 0,_,_,_=>none
 | n_21 + 1,k11_0_22,x6_19,x7_20 =>
  bif (decide (x7_20 < (List.length x3_18:Int))) then
   bif (inB x7_20 (List.length x3_18)) then
    bif (decide ((List.length x6_19 + List.length [(List.getD x3_18 (Int.toNat x7_20) zQIIIIILIE).1]) * 1≤4398046511104)) then
     (S62_l11 x3_18 n_21 k11_0_22) (x6_19 ++ [(List.getD x3_18 (Int.toNat x7_20) zQIIIIILIE).1]) (IntKind.wrap .i64 (x7_20 + (1:Int)))
    else none
   else none
  else
   k11_0_22 x6_19
noncomputable def S62_l6 (N:Nat) (x0_6:(List QIIIIILIE)) (x3_7:(List QIIIIILIE)) (x4_8:Int):Nat→(Int→Option Ret)→Int→Option Ret
 | 0,_,_=>none
 | n_10 + 1,k6_0_12,x5_9 =>
  bif (decide (x5_9 > (0:Int))) then
   bif (inB x4_8 (List.length x0_6)) then
    bif (inB (IntKind.wrap .i64 (x5_9 - (1:Int))) (List.length x3_7)) then
     S73 N (List.getD x0_6 (Int.toNat x4_8) zQIIIIILIE) (List.getD x3_7 (Int.toNat (IntKind.wrap .i64 (x5_9 - (1:Int)))) zQIIIIILIE) (fun (r33_11:Bool) =>
      bif r33_11 then
       (S62_l6 N x0_6 x3_7 x4_8 n_10 k6_0_12) (IntKind.wrap .i64 (x5_9 - (1:Int)))
      else
       k6_0_12 x5_9)
    else none
   else none
  else
   k6_0_12 x5_9
noncomputable def S62_l3 (N:Nat) (x0_1:(List QIIIIILIE)):Nat→((List QIIIIILIE)→Option Ret)→(List QIIIIILIE)→Int→Option Ret
 | 0,_,_,_=>none
 | n_4 + 1,k3_0_15,x3_2,x4_3 =>
  bif (decide (x4_3 < (List.length x0_1:Int))) then
   S60 N x0_1 (fun (r15_5:Bool) =>
    bif r15_5 then
     S62_l6 N x0_1 x3_2 x4_3 N (fun (z5_14:Int) =>
      bif (decide ((0:Int)≤(0:Int)) && decide ((0:Int)≤z5_14) && decide (z5_14≤(List.length x3_2:Int))) then
       bif (inB x4_3 (List.length x0_1)) then
        bif (decide ((0:Int)≤z5_14) && decide (z5_14≤(List.length x3_2:Int)) && decide ((List.length x3_2:Int)≤(List.length x3_2:Int))) then
         bif (decide ((List.length ([]:(List QIIIIILIE)) + List.length (List.drop 0 (List.take (Int.toNat z5_14) x3_2))) * 6≤4398046511104)) then
          bif (decide ((List.length (([]:(List QIIIIILIE)) ++ (List.drop 0 (List.take (Int.toNat z5_14) x3_2))) + List.length [(List.getD x0_1 (Int.toNat x4_3) zQIIIIILIE)]) * 6≤4398046511104)) then
           bif (decide ((List.length ((([]:(List QIIIIILIE)) ++ (List.drop 0 (List.take (Int.toNat z5_14) x3_2))) ++ [(List.getD x0_1 (Int.toNat x4_3) zQIIIIILIE)]) + List.length (List.drop (Int.toNat z5_14) (List.take (Int.toNat (List.length x3_2:Int)) x3_2))) * 6≤4398046511104)) then
            (S62_l3 N x0_1 n_4 k3_0_15) (((([]:(List QIIIIILIE)) ++ (List.drop 0 (List.take (Int.toNat z5_14) x3_2))) ++ [(List.getD x0_1 (Int.toNat x4_3) zQIIIIILIE)]) ++ (List.drop (Int.toNat z5_14) (List.take (Int.toNat (List.length x3_2:Int)) x3_2))) (IntKind.wrap .i64 (x4_3 + (1:Int)))
           else none
          else none
         else none
        else none
       else none
      else none) (List.length x3_2:Int)
    else
     k3_0_15 x3_2)
  else
   k3_0_15 x3_2
noncomputable def S62 (N:Nat) (a0:(List QIIIIILIE)) (kf:(List Int)→Option Ret):Option Ret:=
 S62_l3 N a0 N (fun (z3_17:(List QIIIIILIE)) =>
  S62_l11 z3_17 N kf ([]:(List Int)) (0:Int)) ([]:(List QIIIIILIE)) (0:Int)
noncomputable def S74_l2 (x0_1:(List Int)) (x1_2:Int):Nat→(Option Ret)→(Bool→Option Ret)→Int→Option Ret
 | 0,_,_,_=>none
 | n_4 + 1,k2_0_5,k2_1_6,x5_3 =>
  bif (decide (x5_3 < (List.length x0_1:Int))) then
   bif (inB x5_3 (List.length x0_1)) then
    bif ((List.getD x0_1 (Int.toNat x5_3) (0:Int)) == x1_2) then
     k2_1_6 true
    else
     (S74_l2 x0_1 x1_2 n_4 k2_0_5 k2_1_6) (IntKind.wrap .i64 (x5_3 + (1:Int)))
   else none
  else
   k2_0_5
noncomputable def S74 (N:Nat) (a0:(List Int)) (a1:Int) (kf:Bool→Option Ret):Option Ret:=
 S74_l2 a0 a1 N (kf false) kf (0:Int)
noncomputable def S80 (N:Nat) (a0:(List QIIIIILIE)) (a1:Int) (a2:Int) (kf:Bool→Option Ret):Option Ret:=
 S68 N a0 a1 (fun (r10_1:Int) =>
  bif (decide (r10_1 ≥ (0:Int))) then
   bif (inB r10_1 (List.length a0)) then
    S74 N (List.getD a0 (Int.toNat r10_1) zQIIIIILIE).2.2.2.2.2 a2 kf
   else none
  else
   kf false)
noncomputable def S71 (N:Nat) (a0:(List QIIIIILIE)) (a1:Int) (a2:Int) (kf:Bool→Option Ret):Option Ret:=
 S68 N a0 a1 (fun (r11_1:Int) =>
  S68 N a0 a2 (fun (r14_2:Int) =>
   S60 N a0 (fun (r16_3:Bool) =>
    bif r16_3 then
     bif (decide (r11_1 ≥ (0:Int))) then
      bif (decide (r14_2 ≥ (0:Int))) then
       bif (r11_1 != r14_2) then
        bif (inB r11_1 (List.length a0)) then
         bif (inB r14_2 (List.length a0)) then
          bif ((List.getD a0 (Int.toNat r11_1) zQIIIIILIE).2.1 != (List.getD a0 (Int.toNat r14_2) zQIIIIILIE).2.1) then
           S80 N a0 a1 a2 (fun (r47_4:Bool) =>
            kf (!r47_4))
          else
           kf false
         else none
        else none
       else
        kf false
      else
       kf false
     else
      kf false
    else
     kf false)))
noncomputable def S72 (N:Nat) (a0:(List QIIIIILIE)) (a1:Int) (a2:Int) (kf:QIIE→Option Ret):Option Ret:=
 S68 N a0 a1 (fun (r11_1:Int) =>
  S68 N a0 a2 (fun (r14_2:Int) =>
   S60 N a0 (fun (r16_3:Bool) =>
    bif (!r16_3) then
     kf ((0:Int),(0:Int))
    else
     bif (decide (r11_1 < (0:Int))) then
      kf ((0:Int),(0:Int))
     else
      bif (decide (r14_2 < (0:Int))) then
       kf ((0:Int),(0:Int))
      else
       bif (r11_1 == r14_2) then
        kf ((0:Int),(0:Int))
       else
        bif (inB r14_2 (List.length a0)) then
         bif (inB r11_1 (List.length a0)) then
          bif (decide ((List.getD a0 (Int.toNat r14_2) zQIIIIILIE).2.2.2.2.1 < (List.getD a0 (Int.toNat r11_1) zQIIIIILIE).2.2.2.2.1)) then
           kf (a2,a1)
          else
           bif (inB r14_2 (List.length a0)) then
            bif (inB r11_1 (List.length a0)) then
             bif ((List.getD a0 (Int.toNat r14_2) zQIIIIILIE).2.2.2.2.1 == (List.getD a0 (Int.toNat r11_1) zQIIIIILIE).2.2.2.2.1) then
              bif (inB r14_2 (List.length a0)) then
               bif (inB r11_1 (List.length a0)) then
                S73 N (List.getD a0 (Int.toNat r14_2) zQIIIIILIE) (List.getD a0 (Int.toNat r11_1) zQIIIIILIE) (fun (r64_4:Bool) =>
                 bif r64_4 then
                  kf (a2,a1)
                 else
                  kf (a1,a2))
               else none
              else none
             else
              kf (a1,a2)
            else none
           else none
         else none
        else none)))
noncomputable def S61_l4 (N:Nat) (self:(List QIIIIILIE)→(List Int)→((List QIIE)→Bool→Option Ret)→Option Ret) (x0_1:(List QIIIIILIE)) (x1_2:(List Int)):Nat→(Option Ret)→((List QIIE)→Bool→Option Ret)→Int→Option Ret
 | 0,_,_,_=>none
 | n_4 + 1,k4_0_9,k4_1_10,x6_3 =>
  bif (decide (x6_3 < (List.length x1_2:Int))) then
   bif (inB (0:Int) (List.length x1_2)) then
    bif (inB x6_3 (List.length x1_2)) then
     S71 N x0_1 (List.getD x1_2 (Int.toNat (0:Int)) (0:Int)) (List.getD x1_2 (Int.toNat x6_3) (0:Int)) (fun (r28_5:Bool) =>
      bif (!r28_5) then
       (S61_l4 N self x0_1 x1_2 n_4 k4_0_9 k4_1_10) (IntKind.wrap .i64 (x6_3 + (1:Int)))
      else
       bif (decide ((0:Int)≤(1:Int)) && decide ((1:Int)≤x6_3) && decide (x6_3≤(List.length x1_2:Int))) then
        bif (decide ((0:Int)≤(IntKind.wrap .i64 (x6_3 + (1:Int)))) && decide ((IntKind.wrap .i64 (x6_3 + (1:Int)))≤(List.length x1_2:Int)) && decide ((List.length x1_2:Int)≤(List.length x1_2:Int))) then
         bif (decide ((List.length ([]:(List Int)) + List.length (List.drop (Int.toNat (1:Int)) (List.take (Int.toNat x6_3) x1_2))) * 1≤4398046511104)) then
          bif (decide ((List.length (([]:(List Int)) ++ (List.drop (Int.toNat (1:Int)) (List.take (Int.toNat x6_3) x1_2))) + List.length (List.drop (Int.toNat (IntKind.wrap .i64 (x6_3 + (1:Int)))) (List.take (Int.toNat (List.length x1_2:Int)) x1_2))) * 1≤4398046511104)) then
           self x0_1 ((([]:(List Int)) ++ (List.drop (Int.toNat (1:Int)) (List.take (Int.toNat x6_3) x1_2))) ++ (List.drop (Int.toNat (IntKind.wrap .i64 (x6_3 + (1:Int)))) (List.take (Int.toNat (List.length x1_2:Int)) x1_2))) (fun (r43_6:(List QIIE)) (r43_7:Bool) =>
            bif r43_7 then
             bif (inB (0:Int) (List.length x1_2)) then
              bif (inB x6_3 (List.length x1_2)) then
               S72 N x0_1 (List.getD x1_2 (Int.toNat (0:Int)) (0:Int)) (List.getD x1_2 (Int.toNat x6_3) (0:Int)) (fun (r55_8:QIIE) =>
                bif (decide ((List.length [r55_8] + List.length r43_6) * 2≤4398046511104)) then
                 k4_1_10 ([r55_8] ++ r43_6) true
                else none)
              else none
             else none
            else
             (S61_l4 N self x0_1 x1_2 n_4 k4_0_9 k4_1_10) (IntKind.wrap .i64 (x6_3 + (1:Int))))
          else none
         else none
        else none
       else none)
    else none
   else none
  else
   k4_0_9
noncomputable def S61_b (self:(List QIIIIILIE)→(List Int)→((List QIIE)→Bool→Option Ret)→Option Ret) (N:Nat) (a0:(List QIIIIILIE)) (a1:(List Int)) (kf:(List QIIE)→Bool→Option Ret):Option Ret:=
 bif ((List.length a1:Int) == (0:Int)) then
  kf ([]:(List QIIE)) true
 else
  S61_l4 N self a0 a1 N (kf ([]:(List QIIE)) false) kf (1:Int)
noncomputable def S61:Nat→(List QIIIIILIE)→(List Int)→((List QIIE)→Bool→Option Ret)→Option Ret
 | 0,_,_,_=>none
 | N + 1,a0,a1,kf=>S61_b (S61 N) N a0 a1 kf
noncomputable def S45 (N:Nat) (a0:(List QIIIIILIE)) (kf:(List QIIE)→Bool→Option Ret):Option Ret:=
 S60 N a0 (fun (r5_1:Bool) =>
  bif (!r5_1) then
   kf ([]:(List QIIE)) false
  else
   bif ((Int.tmod (List.length a0:Int) (2:Int)) == (1:Int)) then
    kf ([]:(List QIIE)) false
   else
    S62 N a0 (fun (r16_2:(List Int)) =>
     S61 N a0 r16_2 kf))
noncomputable def S63_l7 (N:Nat) (x0_6:(List QIILIE)) (x3_7:Int):Nat→(Option Ret)→(Bool→Option Ret)→Int→Option Ret
 | 0,_,_,_=>none
 | n_9 + 1,k7_0_11,k7_1_12,x4_8 =>
  bif (inB x3_7 (List.length x0_6)) then
   bif (decide (x4_8 < (List.length (List.getD x0_6 (Int.toNat x3_7) zQIILIE).2.2:Int))) then
    bif (inB x3_7 (List.length x0_6)) then
     bif (inB x4_8 (List.length (List.getD x0_6 (Int.toNat x3_7) zQIILIE).2.2)) then
      S69 N (List.getD (List.getD x0_6 (Int.toNat x3_7) zQIILIE).2.2 (Int.toNat x4_8) (0:Int)) (1:Int) (99:Int) (fun (r63_10:Bool) =>
       bif (!r63_10) then
        k7_1_12 false
       else
        bif (decide (x4_8 > (0:Int))) then
         bif (inB x3_7 (List.length x0_6)) then
          bif (inB (IntKind.wrap .i64 (x4_8 - (1:Int))) (List.length (List.getD x0_6 (Int.toNat x3_7) zQIILIE).2.2)) then
           bif (inB x3_7 (List.length x0_6)) then
            bif (inB x4_8 (List.length (List.getD x0_6 (Int.toNat x3_7) zQIILIE).2.2)) then
             bif (decide ((List.getD (List.getD x0_6 (Int.toNat x3_7) zQIILIE).2.2 (Int.toNat (IntKind.wrap .i64 (x4_8 - (1:Int)))) (0:Int)) ≥ (List.getD (List.getD x0_6 (Int.toNat x3_7) zQIILIE).2.2 (Int.toNat x4_8) (0:Int)))) then
              k7_1_12 false
             else
              (S63_l7 N x0_6 x3_7 n_9 k7_0_11 k7_1_12) (IntKind.wrap .i64 (x4_8 + (1:Int)))
            else none
           else none
          else none
         else none
        else
         (S63_l7 N x0_6 x3_7 n_9 k7_0_11 k7_1_12) (IntKind.wrap .i64 (x4_8 + (1:Int))))
     else none
    else none
   else
    k7_0_11
  else none
noncomputable def S63_l2 (N:Nat) (x0_1:(List QIILIE)):Nat→(Option Ret)→(Bool→Option Ret)→Int→Option Ret
 | 0,_,_,_=>none
 | n_3 + 1,k2_0_15,k2_1_16,x3_2 =>
  bif (decide (x3_2 < (List.length x0_1:Int))) then
   bif (inB x3_2 (List.length x0_1)) then
    S69 N (List.getD x0_1 (Int.toNat x3_2) zQIILIE).1 (1:Int) (99:Int) (fun (r16_4:Bool) =>
     bif (!r16_4) then
      k2_1_16 false
     else
      bif (inB x3_2 (List.length x0_1)) then
       S69 N (List.getD x0_1 (Int.toNat x3_2) zQIILIE).2.1 (1:Int) (99:Int) (fun (r24_5:Bool) =>
        bif (!r24_5) then
         k2_1_16 false
        else
         bif (decide (x3_2 > (0:Int))) then
          bif (inB (IntKind.wrap .i64 (x3_2 - (1:Int))) (List.length x0_1)) then
           bif (inB x3_2 (List.length x0_1)) then
            bif (decide ((List.getD x0_1 (Int.toNat (IntKind.wrap .i64 (x3_2 - (1:Int)))) zQIILIE).1 ≥ (List.getD x0_1 (Int.toNat x3_2) zQIILIE).1)) then
             k2_1_16 false
            else
             S63_l7 N x0_1 x3_2 N ((S63_l2 N x0_1 n_3 k2_0_15 k2_1_16) (IntKind.wrap .i64 (x3_2 + (1:Int)))) k2_1_16 (0:Int)
           else none
          else none
         else
          S63_l7 N x0_1 x3_2 N ((S63_l2 N x0_1 n_3 k2_0_15 k2_1_16) (IntKind.wrap .i64 (x3_2 + (1:Int)))) k2_1_16 (0:Int))
      else none)
   else none
  else
   k2_0_15
noncomputable def S63 (N:Nat) (a0:(List QIILIE)) (kf:Bool→Option Ret):Option Ret:=
 S63_l2 N a0 N (kf (decide ((List.length a0:Int)≤(10:Int)))) kf (0:Int)
noncomputable def S75 (N:Nat) (a0:(List QIIIIILIE)) (a1:QIILIE) (a2:QIIE) (kf:Bool→Option Ret):Option Ret:=
 S68 N a0 a2.1 (fun (r12_1:Int) =>
  S68 N a0 a2.2 (fun (r16_2:Int) =>
   bif (decide (r12_1 ≥ (0:Int))) then
    bif (decide (r16_2 ≥ (0:Int))) then
     bif (inB r12_1 (List.length a0)) then
      bif ((List.getD a0 (Int.toNat r12_1) zQIIIIILIE).2.1 != a1.2.1) then
       bif (inB r16_2 (List.length a0)) then
        bif ((List.getD a0 (Int.toNat r16_2) zQIIIIILIE).2.1 != a1.2.1) then
         S74 N a1.2.2 a2.1 (fun (r48_3:Bool) =>
          bif (!r48_3) then
           S74 N a1.2.2 a2.2 (fun (r56_4:Bool) =>
            kf (!r56_4))
          else
           kf false)
        else
         kf false
       else none
      else
       kf false
     else none
    else
     kf false
   else
    kf false))
noncomputable def S64_l4 (N:Nat) (self:(List QIIIIILIE)→(List QIILIE)→(List QIIE)→(List Int)→((List Int)→Bool→Option Ret)→Option Ret) (x0_1:(List QIIIIILIE)) (x1_2:(List QIILIE)) (x2_3:(List QIIE)) (x3_4:(List Int)):Nat→(Option Ret)→((List Int)→Bool→Option Ret)→Int→Option Ret
 | 0,_,_,_=>none
 | n_6 + 1,k4_0_11,k4_1_12,x10_5 =>
  bif (decide (x10_5 < (List.length x1_2:Int))) then
   bif (inB x10_5 (List.length x1_2)) then
    S74 N x3_4 (List.getD x1_2 (Int.toNat x10_5) zQIILIE).1 (fun (r29_7:Bool) =>
     bif r29_7 then
      (S64_l4 N self x0_1 x1_2 x2_3 x3_4 n_6 k4_0_11 k4_1_12) (IntKind.wrap .i64 (x10_5 + (1:Int)))
     else
      bif (inB x10_5 (List.length x1_2)) then
       bif (inB (0:Int) (List.length x2_3)) then
        S75 N x0_1 (List.getD x1_2 (Int.toNat x10_5) zQIILIE) (List.getD x2_3 (Int.toNat (0:Int)) zQIIE) (fun (r39_8:Bool) =>
         bif (!r39_8) then
          (S64_l4 N self x0_1 x1_2 x2_3 x3_4 n_6 k4_0_11 k4_1_12) (IntKind.wrap .i64 (x10_5 + (1:Int)))
         else
          bif (decide ((0:Int)≤(1:Int)) && decide ((1:Int)≤(List.length x2_3:Int)) && decide ((List.length x2_3:Int)≤(List.length x2_3:Int))) then
           bif (inB x10_5 (List.length x1_2)) then
            bif (decide ((List.length ([]:(List Int)) + List.length x3_4) * 1≤4398046511104)) then
             bif (decide ((List.length (([]:(List Int)) ++ x3_4) + List.length [(List.getD x1_2 (Int.toNat x10_5) zQIILIE).1]) * 1≤4398046511104)) then
              self x0_1 x1_2 (List.drop (Int.toNat (1:Int)) (List.take (Int.toNat (List.length x2_3:Int)) x2_3)) ((([]:(List Int)) ++ x3_4) ++ [(List.getD x1_2 (Int.toNat x10_5) zQIILIE).1]) (fun (r57_9:(List Int)) (r57_10:Bool) =>
               bif r57_10 then
                bif (inB x10_5 (List.length x1_2)) then
                 bif (decide ((List.length [(List.getD x1_2 (Int.toNat x10_5) zQIILIE).1] + List.length r57_9) * 1≤4398046511104)) then
                  k4_1_12 ([(List.getD x1_2 (Int.toNat x10_5) zQIILIE).1] ++ r57_9) true
                 else none
                else none
               else
                (S64_l4 N self x0_1 x1_2 x2_3 x3_4 n_6 k4_0_11 k4_1_12) (IntKind.wrap .i64 (x10_5 + (1:Int))))
             else none
            else none
           else none
          else none)
       else none
      else none)
   else none
  else
   k4_0_11
noncomputable def S64_b (self:(List QIIIIILIE)→(List QIILIE)→(List QIIE)→(List Int)→((List Int)→Bool→Option Ret)→Option Ret) (N:Nat) (a0:(List QIIIIILIE)) (a1:(List QIILIE)) (a2:(List QIIE)) (a3:(List Int)) (kf:(List Int)→Bool→Option Ret):Option Ret:=
 bif ((List.length a2:Int) == (0:Int)) then
  kf ([]:(List Int)) true
 else
  S64_l4 N self a0 a1 a2 a3 N (kf ([]:(List Int)) false) kf (0:Int)
noncomputable def S64:Nat→(List QIIIIILIE)→(List QIILIE)→(List QIIE)→(List Int)→((List Int)→Bool→Option Ret)→Option Ret
 | 0,_,_,_,_,_=>none
 | N + 1,a0,a1,a2,a3,kf=>S64_b (S64 N) N a0 a1 a2 a3 kf
noncomputable def S46 (N:Nat) (a0:(List QIIIIILIE)) (a1:(List QIILIE)) (a2:(List QIIE)) (kf:(List Int)→Bool→Option Ret):Option Ret:=
 S63 N a1 (fun (r9_1:Bool) =>
  bif (!r9_1) then
   kf ([]:(List Int)) false
  else
   S60 N a0 (fun (r13_2:Bool) =>
    bif (!r13_2) then
     kf ([]:(List Int)) false
    else
     S64 N a0 a1 a2 ([]:(List Int)) kf))
noncomputable def S65 (N:Nat) (a0:QLIIIE) (a1:(List Int)) (kf:Int→QLIIIE→Option Ret):Option Ret:=
 S25 N a0 (List.length a1:Int) (fun (r9_1:Int) (z0_2:QLIIIE) =>
  bif (inB r9_1 (List.length a1)) then
   kf (List.getD a1 (Int.toNat r9_1) (0:Int)) z0_2
  else none)
noncomputable def S48 (N:Nat) (a0:QLIIIE) (kf:(List QIIIIILIE)→QLIIIE→Option Ret):Option Ret:=
 S42 N a0 (fun (r6_1:(List QIIIIILIE)) (z0_2:QLIIIE) =>
  S25 N z0_2 (List.length r6_1:Int) (fun (r10_3:Int) (z0_4:QLIIIE) =>
   S25 N z0_4 (14:Int) (fun (r12_5:Int) (z0_6:QLIIIE) =>
    bif (r12_5 == (0:Int)) then
     S65 N z0_6 [(0:Int),(2:Int),(99:Int),(100:Int)] (fun (r19_7:Int) (z0_8:QLIIIE) =>
      bif (inB r10_3 (List.length r6_1)) then
       share (List.set r6_1 (Int.toNat r10_3) (r19_7,(List.getD r6_1 (Int.toNat r10_3) zQIIIIILIE).2)) (fun (w3_9:(List QIIIIILIE)) =>
        kf w3_9 z0_8)
      else none)
    else
     bif (r12_5 == (1:Int)) then
      S65 N z0_6 [(-1:Int),(9:Int)] (fun (r28_10:Int) (z0_11:QLIIIE) =>
       bif (inB r10_3 (List.length r6_1)) then
        share (List.set r6_1 (Int.toNat r10_3) ((List.getD r6_1 (Int.toNat r10_3) zQIIIIILIE).1,((List.getD r6_1 (Int.toNat r10_3) zQIIIIILIE).2.1,(r28_10,(List.getD r6_1 (Int.toNat r10_3) zQIIIIILIE).2.2.2)))) (fun (w3_12:(List QIIIIILIE)) =>
         kf w3_12 z0_11)
       else none)
     else
      bif (r12_5 == (2:Int)) then
       S65 N z0_6 [(-1:Int),(100000:Int),(100001:Int)] (fun (r37_13:Int) (z0_14:QLIIIE) =>
        bif (inB r10_3 (List.length r6_1)) then
         share (List.set r6_1 (Int.toNat r10_3) ((List.getD r6_1 (Int.toNat r10_3) zQIIIIILIE).1,((List.getD r6_1 (Int.toNat r10_3) zQIIIIILIE).2.1,((List.getD r6_1 (Int.toNat r10_3) zQIIIIILIE).2.2.1,(r37_13,(List.getD r6_1 (Int.toNat r10_3) zQIIIIILIE).2.2.2.2))))) (fun (w3_15:(List QIIIIILIE)) =>
          kf w3_15 z0_14)
        else none)
      else
       bif (r12_5 == (3:Int)) then
        bif (inB r10_3 (List.length r6_1)) then
         bif (decide ((List.length (List.getD r6_1 (Int.toNat r10_3) zQIIIIILIE).2.2.2.2.2 + List.length [(2:Int)]) * 1≤4398046511104)) then
          bif (inB r10_3 (List.length r6_1)) then
           bif (Nat.beq (Int.toNat r10_3) (Int.toNat r10_3)) then
            share (List.set r6_1 (Int.toNat r10_3) ((List.getD r6_1 (Int.toNat r10_3) zQIIIIILIE).1,((List.getD r6_1 (Int.toNat r10_3) zQIIIIILIE).2.1,((List.getD r6_1 (Int.toNat r10_3) zQIIIIILIE).2.2.1,((List.getD r6_1 (Int.toNat r10_3) zQIIIIILIE).2.2.2.1,((List.getD r6_1 (Int.toNat r10_3) zQIIIIILIE).2.2.2.2.1,((List.getD r6_1 (Int.toNat r10_3) zQIIIIILIE).2.2.2.2.2 ++ [(2:Int)]))))))) (fun (w3_16:(List QIIIIILIE)) =>
             kf w3_16 z0_6)
           else none
          else none
         else none
        else none
       else
        bif (r12_5 == (4:Int)) then
         S65 N z0_6 [(0:Int),(99:Int),(100:Int)] (fun (r59_17:Int) (z0_18:QLIIIE) =>
          bif (inB r10_3 (List.length r6_1)) then
           share (List.set r6_1 (Int.toNat r10_3) ((List.getD r6_1 (Int.toNat r10_3) zQIIIIILIE).1,(r59_17,(List.getD r6_1 (Int.toNat r10_3) zQIIIIILIE).2.2))) (fun (w3_19:(List QIIIIILIE)) =>
            kf w3_19 z0_18)
          else none)
        else
         kf r6_1 z0_6)))
noncomputable def S49 (N:Nat) (a0:QLIIIE) (kf:(List QIILIE)→QLIIIE→Option Ret):Option Ret:=
 S43 N a0 (fun (r6_1:(List QIILIE)) (z0_2:QLIIIE) =>
  S25 N z0_2 (List.length r6_1:Int) (fun (r10_3:Int) (z0_4:QLIIIE) =>
   S25 N z0_4 (12:Int) (fun (r12_5:Int) (z0_6:QLIIIE) =>
    bif (r12_5 == (0:Int)) then
     S65 N z0_6 [(0:Int),(11:Int),(99:Int),(100:Int)] (fun (r19_7:Int) (z0_8:QLIIIE) =>
      bif (inB r10_3 (List.length r6_1)) then
       share (List.set r6_1 (Int.toNat r10_3) (r19_7,(List.getD r6_1 (Int.toNat r10_3) zQIILIE).2)) (fun (w3_9:(List QIILIE)) =>
        kf w3_9 z0_8)
      else none)
    else
     bif (r12_5 == (1:Int)) then
      S65 N z0_6 [(0:Int),(99:Int),(100:Int)] (fun (r28_10:Int) (z0_11:QLIIIE) =>
       bif (inB r10_3 (List.length r6_1)) then
        share (List.set r6_1 (Int.toNat r10_3) ((List.getD r6_1 (Int.toNat r10_3) zQIILIE).1,(r28_10,(List.getD r6_1 (Int.toNat r10_3) zQIILIE).2.2))) (fun (w3_12:(List QIILIE)) =>
         kf w3_12 z0_11)
       else none)
     else
      bif (r12_5 == (2:Int)) then
       bif (inB r10_3 (List.length r6_1)) then
        share (List.set r6_1 (Int.toNat r10_3) ((List.getD r6_1 (Int.toNat r10_3) zQIILIE).1,((List.getD r6_1 (Int.toNat r10_3) zQIILIE).2.1,[(4:Int),(4:Int)]))) (fun (w3_13:(List QIILIE)) =>
         kf w3_13 z0_6)
       else none
      else
       kf r6_1 z0_6)))
noncomputable def S77 (N:Nat) (a0:(List QIIIIE)) (kf:Int→Option Ret):Option Ret:=
 bif ((List.length a0:Int) == (0:Int)) then
  kf (0:Int)
 else
  bif (inB (IntKind.wrap .i64 ((List.length a0:Int) - (1:Int))) (List.length a0)) then
   kf (List.getD a0 (Int.toNat (IntKind.wrap .i64 ((List.length a0:Int) - (1:Int)))) zQIIIIE).2.2.2
  else none
noncomputable def S82 (N:Nat) (a0:Int) (a1:Int) (kf:Int→Option Ret):Option Ret:=
 S69 N a1 (1:Int) (1000000000000:Int) (fun (r6_1:Bool) =>
  bif (!r6_1) then
   kf (0:Int)
  else
   bif (!decide (a1=0)) then
    bif (!decide (a1=0)) then
     kf (Int.tmod (IntKind.wrap .i64 ((Int.tmod a0 a1) + a1)) a1)
    else none
   else none)
noncomputable def S81_l3 (N:Nat) (x0_1:(List Int)):Nat→(Int→Option Ret)→Int→Int→Option Ret
 | 0,_,_,_=>none
 | n_4 + 1,k3_0_6,x3_2,x4_3 =>
  bif (decide (x4_3 < (List.length x0_1:Int))) then
   bif (inB x4_3 (List.length x0_1)) then
    S82 N (List.getD x0_1 (Int.toNat x4_3) (0:Int)) (2147483647:Int) (fun (r17_5:Int) =>
     (S81_l3 N x0_1 n_4 k3_0_6) (Int.tmod (IntKind.wrap .i64 ((IntKind.wrap .i64 ((IntKind.wrap .i64 (x3_2 * (1000003:Int))) + r17_5)) + (13:Int))) (2147483647:Int)) (IntKind.wrap .i64 (x4_3 + (1:Int))))
   else none
  else
   k3_0_6 x3_2
noncomputable def S81 (N:Nat) (a0:(List Int)) (kf:Int→Option Ret):Option Ret:=
 S81_l3 N a0 N kf (11:Int) (0:Int)
noncomputable def S76 (N:Nat) (a0:Int) (a1:QIIIIE) (kf:Int→Option Ret):Option Ret:=
 S81 N [a0,a1.1,a1.2.1,a1.2.2.1] kf
noncomputable def S78_l3 (N:Nat) (x0_1:(List QIIIIE)):Nat→(Option Ret)→(Bool→Option Ret)→Int→Int→Option Ret
 | 0,_,_,_,_=>none
 | n_4 + 1,k3_0_8,k3_1_9,x3_2,x4_3 =>
  bif (decide (x4_3 < (List.length x0_1:Int))) then
   bif (decide ((List.length x0_1:Int)≤(200:Int))) then
    bif (inB x4_3 (List.length x0_1)) then
     S76 N x3_2 (List.getD x0_1 (Int.toNat x4_3) zQIIIIE) (fun (r23_5:Int) =>
      bif ((List.getD x0_1 (Int.toNat x4_3) zQIIIIE).1 != (IntKind.wrap .i64 (x4_3 + (1:Int)))) then
       k3_1_9 false
      else
       S69 N (List.getD x0_1 (Int.toNat x4_3) zQIIIIE).2.1 (1:Int) (9:Int) (fun (r32_6:Bool) =>
        bif (!r32_6) then
         k3_1_9 false
        else
         S69 N (List.getD x0_1 (Int.toNat x4_3) zQIIIIE).2.2.1 (0:Int) (99:Int) (fun (r38_7:Bool) =>
          bif (!r38_7) then
           k3_1_9 false
          else
           bif ((List.getD x0_1 (Int.toNat x4_3) zQIIIIE).2.2.2 != r23_5) then
            k3_1_9 false
           else
            (S78_l3 N x0_1 n_4 k3_0_8 k3_1_9) r23_5 (IntKind.wrap .i64 (x4_3 + (1:Int))))))
    else none
   else
    k3_0_8
  else
   k3_0_8
noncomputable def S78 (N:Nat) (a0:(List QIIIIE)) (kf:Bool→Option Ret):Option Ret:=
 S78_l3 N a0 N (kf (decide ((List.length a0:Int)≤(200:Int)))) kf (0:Int) (0:Int)
noncomputable def S66 (N:Nat) (a0:(List QIIIIE)) (a1:Int) (a2:Int) (kf:(List QIIIIE)→Bool→Option Ret):Option Ret:=
 S77 N a0 (fun (r17_1:Int) =>
  S76 N r17_1 ((IntKind.wrap .i64 ((List.length a0:Int) + (1:Int))),(a1,(a2,(0:Int)))) (fun (r19_2:Int) =>
   bif (decide ((List.length ([]:(List QIIIIE)) + List.length a0) * 4≤4398046511104)) then
    bif (decide ((List.length (([]:(List QIIIIE)) ++ a0) + List.length [((IntKind.wrap .i64 ((List.length a0:Int) + (1:Int))),(a1,(a2,r19_2)))]) * 4≤4398046511104)) then
     S78 N ((([]:(List QIIIIE)) ++ a0) ++ [((IntKind.wrap .i64 ((List.length a0:Int) + (1:Int))),(a1,(a2,r19_2)))]) (fun (r28_3:Bool) =>
      bif (!r28_3) then
       bif (decide ((List.length ([]:(List QIIIIE)) + List.length a0) * 4≤4398046511104)) then
        kf (([]:(List QIIIIE)) ++ a0) false
       else none
      else
       kf ((([]:(List QIIIIE)) ++ a0) ++ [((IntKind.wrap .i64 ((List.length a0:Int) + (1:Int))),(a1,(a2,r19_2)))]) true)
    else none
   else none))
noncomputable def S50_l3 (N:Nat):Nat→(QLIIIE→(List QIIIIE)→Option Ret)→QLIIIE→(List QIIIIE)→Int→Option Ret
 | 0,_,_,_,_=>none
 | n_6 + 1,k3_0_13,x0_3,x3_4,x4_5 =>
  bif (decide (x4_5 > (0:Int))) then
   S25 N x0_3 (9:Int) (fun (r16_7:Int) (z0_8:QLIIIE) =>
    S25 N z0_8 (5:Int) (fun (r19_9:Int) (z0_10:QLIIIE) =>
     S66 N x3_4 (IntKind.wrap .i64 ((1:Int) + r16_7)) r19_9 (fun (r20_11:(List QIIIIE)) (r20_12:Bool) =>
      (S50_l3 N n_6 k3_0_13) z0_10 r20_11 (IntKind.wrap .i64 (x4_5 - (1:Int))))))
  else
   k3_0_13 x0_3 x3_4
noncomputable def S50 (N:Nat) (a0:QLIIIE) (kf:(List QIIIIE)→QLIIIE→Option Ret):Option Ret:=
 S25 N a0 (9:Int) (fun (r8_1:Int) (z0_2:QLIIIE) =>
  S50_l3 N N (fun (z0_15:QLIIIE) (z3_16:(List QIIIIE)) =>
   bif (decide ((List.length z3_16:Int) > (0:Int))) then
    S25 N z0_15 (List.length z3_16:Int) (fun (r29_17:Int) (z0_18:QLIIIE) =>
     S25 N z0_18 (10:Int) (fun (r31_19:Int) (z0_20:QLIIIE) =>
      bif (r31_19 == (0:Int)) then
       S65 N z0_20 [(-1:Int),(99:Int),(100:Int)] (fun (r38_21:Int) (z0_22:QLIIIE) =>
        bif (inB r29_17 (List.length z3_16)) then
         share (List.set z3_16 (Int.toNat r29_17) ((List.getD z3_16 (Int.toNat r29_17) zQIIIIE).1,((List.getD z3_16 (Int.toNat r29_17) zQIIIIE).2.1,(r38_21,(List.getD z3_16 (Int.toNat r29_17) zQIIIIE).2.2.2)))) (fun (w3_23:(List QIIIIE)) =>
          kf w3_23 z0_22)
        else none)
      else
       bif (r31_19 == (1:Int)) then
        bif (inB r29_17 (List.length z3_16)) then
         bif (inB r29_17 (List.length z3_16)) then
          share (List.set z3_16 (Int.toNat r29_17) ((List.getD z3_16 (Int.toNat r29_17) zQIIIIE).1,((List.getD z3_16 (Int.toNat r29_17) zQIIIIE).2.1,((List.getD z3_16 (Int.toNat r29_17) zQIIIIE).2.2.1,(IntKind.wrap .i64 ((List.getD z3_16 (Int.toNat r29_17) zQIIIIE).2.2.2 + (1:Int))))))) (fun (w3_24:(List QIIIIE)) =>
           kf w3_24 z0_20)
         else none
        else none
       else
        bif (r31_19 == (2:Int)) then
         bif (inB r29_17 (List.length z3_16)) then
          bif (inB r29_17 (List.length z3_16)) then
           share (List.set z3_16 (Int.toNat r29_17) ((IntKind.wrap .i64 ((List.getD z3_16 (Int.toNat r29_17) zQIIIIE).1 + (1:Int))),(List.getD z3_16 (Int.toNat r29_17) zQIIIIE).2)) (fun (w3_25:(List QIIIIE)) =>
            kf w3_25 z0_20)
          else none
         else none
        else
         kf z3_16 z0_20))
   else
    kf z3_16 z0_15) z0_2 ([]:(List QIIIIE)) r8_1)
abbrev TG0_S23:Type:=Nat→QLIIIE→((List QIIIIILIE)→QLIIIE→Option Ret)→Option Ret
abbrev TG1_S23:Type:=Nat→QLIIIE→((List QIILIE)→QLIIIE→Option Ret)→Option Ret
abbrev TG2_S23:Type:=Nat→(List QIIIIILIE)→(Int→Option Ret)→Option Ret
abbrev TG3_S23:Type:=Nat→(List QIIIIILIE)→((List QIIE)→Bool→Option Ret)→Option Ret
abbrev TG4_S23:Type:=Nat→(List QIIIIILIE)→(List QIILIE)→(List QIIE)→((List Int)→Bool→Option Ret)→Option Ret
abbrev TG5_S23:Type:=Nat→QLIIIE→Int→(Bool→QLIIIE→Option Ret)→Option Ret
abbrev TG6_S23:Type:=Nat→QLIIIE→Int→(Int→QLIIIE→Option Ret)→Option Ret
abbrev TG7_S23:Type:=Nat→QLIIIE→((List QIIIIE)→QLIIIE→Option Ret)→Option Ret
noncomputable def S23_j1_g (g0:TG0_S23) (g1:TG1_S23) (g2:TG2_S23) (g3:TG3_S23) (g4:TG4_S23) (g5:TG5_S23) (g6:TG6_S23) (g7:TG0_S23) (g8:TG1_S23) (g9:TG7_S23) (kf:QLQIIIIILIELQIILIELQIIELILQIIIELQIIIIEIE→QLIIIE→Option Ret) (y3_16:(List QIIE)) (y0_27:QLIIIE) (y3_28:(List QIIIIILIE)) (y3_29:(List QIILIE)) (y3_30:(List Int)) (y3_31:(List QIIIE)) (y3_32:(List QIIIIE)) (y3_33:Int):Option Ret:=
 kf (y3_28,(y3_29,(y3_16,(y3_30,(y3_31,(y3_32,y3_33)))))) y0_27
noncomputable def S23_j2_g (g0:TG0_S23) (g1:TG1_S23) (g2:TG2_S23) (g3:TG3_S23) (g4:TG4_S23) (g5:TG5_S23) (g6:TG6_S23) (g7:TG0_S23) (g8:TG1_S23) (g9:TG7_S23) (N:Nat) (kf:QLQIIIIILIELQIILIELQIIELILQIIIELQIIIIEIE→QLIIIE→Option Ret) (r11_3:(List QIILIE)) (r15_5:Int) (r9_1:(List QIIIIILIE)) (y0_15:QLIIIE) (y3_16:(List QIIE)) (y3_17:(List Int)) (y3_18:(List QIIIE)):Option Ret:=
 g6 N y0_15 (12:Int) (fun (r64_19:Int) (z0_20:QLIIIE) =>
  bif (r64_19 == (0:Int)) then
   g7 N z0_20 (fun (r68_21:(List QIIIIILIE)) (z0_22:QLIIIE) =>
    S23_j1_g g0 g1 g2 g3 g4 g5 g6 g7 g8 g9 kf y3_16 z0_22 r68_21 r11_3 y3_17 y3_18 ([]:(List QIIIIE)) r15_5)
  else
   bif (r64_19 == (1:Int)) then
    g8 N z0_20 (fun (r73_23:(List QIILIE)) (z0_24:QLIIIE) =>
     S23_j1_g g0 g1 g2 g3 g4 g5 g6 g7 g8 g9 kf y3_16 z0_24 r9_1 r73_23 y3_17 y3_18 ([]:(List QIIIIE)) r15_5)
   else
    bif (r64_19 == (2:Int)) then
     S23_j1_g g0 g1 g2 g3 g4 g5 g6 g7 g8 g9 kf y3_16 z0_20 r9_1 r11_3 y3_17 y3_18 ([]:(List QIIIIE)) (IntKind.wrap .i64 (r15_5 + (1:Int)))
    else
     bif (r64_19 == (3:Int)) then
      g9 N z0_20 (fun (r84_25:(List QIIIIE)) (z0_26:QLIIIE) =>
       S23_j1_g g0 g1 g2 g3 g4 g5 g6 g7 g8 g9 kf y3_16 z0_26 r9_1 r11_3 y3_17 y3_18 r84_25 r15_5)
     else
      bif (r64_19 == (4:Int)) then
       bif (decide ((List.length y3_17 + List.length [(11:Int)]) * 1≤4398046511104)) then
        S23_j1_g g0 g1 g2 g3 g4 g5 g6 g7 g8 g9 kf y3_16 z0_20 r9_1 r11_3 (y3_17 ++ [(11:Int)]) y3_18 ([]:(List QIIIIE)) r15_5
       else none
      else
       bif (r64_19 == (5:Int)) then
        bif (decide ((List.length y3_18 + List.length [((0:Int),((0:Int),(0:Int)))]) * 3≤4398046511104)) then
         S23_j1_g g0 g1 g2 g3 g4 g5 g6 g7 g8 g9 kf y3_16 z0_20 r9_1 r11_3 y3_17 (y3_18 ++ [((0:Int),((0:Int),(0:Int)))]) ([]:(List QIIIIE)) r15_5
        else none
       else
        S23_j1_g g0 g1 g2 g3 g4 g5 g6 g7 g8 g9 kf y3_16 z0_20 r9_1 r11_3 y3_17 y3_18 ([]:(List QIIIIE)) r15_5)
noncomputable def S23_g (g0:TG0_S23) (g1:TG1_S23) (g2:TG2_S23) (g3:TG3_S23) (g4:TG4_S23) (g5:TG5_S23) (g6:TG6_S23) (g7:TG0_S23) (g8:TG1_S23) (g9:TG7_S23) (N:Nat) (a0:QLIIIE) (kf:QLQIIIIILIELQIILIELQIIELILQIIIELQIIIIEIE→QLIIIE→Option Ret):Option Ret:=
 g0 N a0 (fun (r9_1:(List QIIIIILIE)) (z0_2:QLIIIE) =>
  g1 N z0_2 (fun (r11_3:(List QIILIE)) (z0_4:QLIIIE) =>
   g2 N r9_1 (fun (r15_5:Int) =>
    g3 N r9_1 (fun (r20_6:(List QIIE)) (r20_7:Bool) =>
     g4 N r9_1 r11_3 r20_6 (fun (r29_8:(List Int)) (r29_9:Bool) =>
      bif r20_7 then
       bif r29_9 then
        g5 N z0_4 (3:Int) (fun (r38_10:Bool) (z0_11:QLIIIE) =>
         bif (!r38_10) then
          bif (decide ((List.length r20_6:Int)=(List.length r20_6:Int)) && decide ((0:Int)≤(List.length r20_6:Int)) && decide ((List.length r20_6:Int)≤1099511627776)) then
           bif (decide ((List.length r20_6:Int) > (0:Int))) then
            g5 N z0_11 (2:Int) (fun (r54_12:Bool) (z0_13:QLIIIE) =>
             bif r54_12 then
              bif (inB (0:Int) (List.length r29_8)) then
               bif (inB (0:Int) (List.length (List.replicate (Int.toNat (List.length r20_6:Int)) ((0:Int),((0:Int),(0:Int)))))) then
                share (List.set (List.replicate (Int.toNat (List.length r20_6:Int)) ((0:Int),((0:Int),(0:Int)))) (Int.toNat (0:Int)) ((List.getD r29_8 (Int.toNat (0:Int)) (0:Int)),((70:Int),(60:Int)))) (fun (w3_14:(List QIIIE)) =>
                 S23_j2_g g0 g1 g2 g3 g4 g5 g6 g7 g8 g9 N kf r11_3 r15_5 r9_1 z0_13 r20_6 r29_8 w3_14)
               else none
              else none
             else
              S23_j2_g g0 g1 g2 g3 g4 g5 g6 g7 g8 g9 N kf r11_3 r15_5 r9_1 z0_13 r20_6 r29_8 (List.replicate (Int.toNat (List.length r20_6:Int)) ((0:Int),((0:Int),(0:Int)))))
           else
            S23_j2_g g0 g1 g2 g3 g4 g5 g6 g7 g8 g9 N kf r11_3 r15_5 r9_1 z0_11 r20_6 r29_8 (List.replicate (Int.toNat (List.length r20_6:Int)) ((0:Int),((0:Int),(0:Int))))
          else none
         else
          S23_j2_g g0 g1 g2 g3 g4 g5 g6 g7 g8 g9 N kf r11_3 r15_5 r9_1 z0_11 ([]:(List QIIE)) ([]:(List Int)) ([]:(List QIIIE)))
       else
        S23_j2_g g0 g1 g2 g3 g4 g5 g6 g7 g8 g9 N kf r11_3 r15_5 r9_1 z0_4 ([]:(List QIIE)) ([]:(List Int)) ([]:(List QIIIE))
      else
       S23_j2_g g0 g1 g2 g3 g4 g5 g6 g7 g8 g9 N kf r11_3 r15_5 r9_1 z0_4 ([]:(List QIIE)) ([]:(List Int)) ([]:(List QIIIE)))))))
noncomputable def S23 (N:Nat) (a0:QLIIIE) (kf:QLQIIIIILIELQIILIELQIIELILQIIIELQIIIIEIE→QLIIIE→Option Ret):Option Ret:=S23_g S42 S43 S44 S45 S46 S47 S25 S48 S49 S50 N a0 kf
noncomputable def S21 (N:Nat) (a0:(List Int)) (kf:QLQIIIIILIELQIILIELQIIELILQIIIELQIIIIEIE→Option Ret):Option Ret:=
 S22 N a0 (fun (r5_1:QLIIIE) =>
  S23 N r5_1 (fun (r7_2:QLQIIIIILIELQIILIELQIIELILQIIIELQIIIIEIE) (z3_3:QLIIIE) =>
   kf r7_2))
noncomputable def S8 (N:Nat) (a0:(List Int)) (kf:QLQIIIIILIELQIILIELQIIELILQIIIELQIIIIEIE→Option Ret):Option Ret:=
 S21 N a0 kf
noncomputable def I9_l3 (x8_2:(List QIIIE)) (x9_3:Int):Nat→((List Int)→Option Ret)→(List Int)→Int→Option Ret
 | 0,_,_,_=>none
 | n_5 + 1,k3_0_7,x3_1,x10_4 =>
  bif (decide (x10_4 < x9_3)) then
   bif (inB x10_4 (List.length x8_2)) then
    bif ((decide (((List.getD x8_2 (Int.toNat x10_4) zQIIIE).1:Int)=(0:Int))) && ((decide (((List.getD x8_2 (Int.toNat x10_4) zQIIIE).2.1:Int)=(0:Int))) && (decide (((List.getD x8_2 (Int.toNat x10_4) zQIIIE).2.2:Int)=(0:Int))))) then
     bif (decide ((List.length x3_1 + List.length [x10_4]) * 1≤4398046511104)) then
      (I9_l3 x8_2 x9_3 n_5 k3_0_7) (x3_1 ++ [x10_4]) (IntKind.wrap .i64 (x10_4 + (1:Int)))
     else none
    else
     (I9_l3 x8_2 x9_3 n_5 k3_0_7) x3_1 (IntKind.wrap .i64 (x10_4 + (1:Int)))
   else none
  else
   k3_0_7 x3_1
noncomputable def I9 (N:Nat) (a0:QLQIIIIILIELQIILIELQIIELILQIIIELQIIIIEIE) (kf:(List Int)→Option Ret):Option Ret:=
 I9_l3 a0.2.2.2.2.1 (List.length a0.2.2.2.2.1:Int) N kf ([]:(List Int)) (0:Int)
noncomputable def L10_l2 (x0_1:(List Int)):Nat→(Option Ret)→(Bool→Option Ret)→Int→Option Ret
 | 0,_,_,_=>none
 | n_3 + 1,k2_0_4,k2_1_5,x3_2 =>
  bif (decide (x3_2 < (List.length x0_1:Int))) then
   bif (inB (IntKind.wrap .i64 (x3_2 - (1:Int))) (List.length x0_1)) then
    bif (inB x3_2 (List.length x0_1)) then
     bif (decide ((List.getD x0_1 (Int.toNat (IntKind.wrap .i64 (x3_2 - (1:Int)))) (0:Int)) ≥ (List.getD x0_1 (Int.toNat x3_2) (0:Int)))) then
      k2_1_5 false
     else
      (L10_l2 x0_1 n_3 k2_0_4 k2_1_5) (IntKind.wrap .i64 (x3_2 + (1:Int)))
    else none
   else none
  else
   k2_0_4
noncomputable def L10 (N:Nat) (a0:(List Int)) (kf:Bool→Option Ret):Option Ret:=
 L10_l2 a0 N (kf true) kf (1:Int)
noncomputable def S52_l3 (x0_1:(List QIILIE)):Nat→((List QIILIE)→Option Ret)→(List QIILIE)→Int→Option Ret
 | 0,_,_,_=>none
 | n_4 + 1,k3_0_5,x3_2,x4_3 =>
  bif (decide (x4_3 < (List.length x0_1:Int))) then
   bif (inB x4_3 (List.length x0_1)) then
    bif (decide ((List.length ([]:(List Int)) + List.length (List.getD x0_1 (Int.toNat x4_3) zQIILIE).2.2) * 1≤4398046511104)) then
     bif (decide ((List.length x3_2 + List.length [((List.getD x0_1 (Int.toNat x4_3) zQIILIE).1,((List.getD x0_1 (Int.toNat x4_3) zQIILIE).2.1,(([]:(List Int)) ++ (List.getD x0_1 (Int.toNat x4_3) zQIILIE).2.2)))]) * 3≤4398046511104)) then
      (S52_l3 x0_1 n_4 k3_0_5) (x3_2 ++ [((List.getD x0_1 (Int.toNat x4_3) zQIILIE).1,((List.getD x0_1 (Int.toNat x4_3) zQIILIE).2.1,(([]:(List Int)) ++ (List.getD x0_1 (Int.toNat x4_3) zQIILIE).2.2)))]) (IntKind.wrap .i64 (x4_3 + (1:Int)))
     else none
    else none
   else none
  else
   k3_0_5 x3_2
noncomputable def S52 (N:Nat) (a0:(List QIILIE)) (kf:(List QIILIE)→Option Ret):Option Ret:=
 S52_l3 a0 N kf ([]:(List QIILIE)) (0:Int)
noncomputable def S24 (N:Nat) (a0:QLQIIIIILIELQIILIELQIIELILQIIIELQIIIIEIE) (kf:QLQIIIIILIELQIILIELQIIELILQIIIELQIIIIEIE→Option Ret):Option Ret:=
 S51 N a0.1 (fun (r5_1:(List QIIIIILIE)) =>
  S52 N a0.2.1 (fun (r8_2:(List QIILIE)) =>
   bif (decide ((List.length ([]:(List QIIE)) + List.length a0.2.2.1) * 2≤4398046511104)) then
    bif (decide ((List.length ([]:(List Int)) + List.length a0.2.2.2.1) * 1≤4398046511104)) then
     bif (decide ((List.length ([]:(List QIIIE)) + List.length a0.2.2.2.2.1) * 3≤4398046511104)) then
      bif (decide ((List.length ([]:(List QIIIIE)) + List.length a0.2.2.2.2.2.1) * 4≤4398046511104)) then
       kf (r5_1,(r8_2,((([]:(List QIIE)) ++ a0.2.2.1),((([]:(List Int)) ++ a0.2.2.2.1),((([]:(List QIIIE)) ++ a0.2.2.2.2.1),((([]:(List QIIIIE)) ++ a0.2.2.2.2.2.1),a0.2.2.2.2.2.2))))))
      else none
     else none
    else none
   else none))
noncomputable def S11 (N:Nat) (a0:(List Int)) (kf:QLQIIIIILIELQIILIELQIIELILQIIIELQIIIIEIE→QLQIIIIILIELQIILIELQIIELILQIIIELQIIIIEIE→Option Ret):Option Ret:=
 S22 N a0 (fun (r8_1:QLIIIE) =>
  S23 N r8_1 (fun (r10_2:QLQIIIIILIELQIILIELQIIELILQIIIELQIIIIEIE) (z4_3:QLIIIE) =>
   S24 N r10_2 (fun (r12_4:QLQIIIIILIELQIILIELQIIELILQIIIELQIIIIEIE) =>
    S25 N z4_3 (5:Int) (fun (r14_5:Int) (z4_6:QLIIIE) =>
     bif (r14_5 == (0:Int)) then
      S23 N z4_6 (fun (r18_7:QLQIIIIILIELQIILIELQIIELILQIIIELQIIIIEIE) (z4_8:QLIIIE) =>
       kf r10_2 r18_7)
     else
      bif (r14_5 == (1:Int)) then
       kf r10_2 (r12_4.1,(r12_4.2.1,(r12_4.2.2.1,(r12_4.2.2.2.1,(r12_4.2.2.2.2.1,(r12_4.2.2.2.2.2.1,(IntKind.wrap .i64 (r12_4.2.2.2.2.2.2 + (1:Int)))))))))
      else
       bif (r14_5 == (2:Int)) then
        bif (decide ((List.length r12_4.2.2.2.2.2.1 + List.length [((1:Int),((0:Int),((0:Int),(0:Int))))]) * 4≤4398046511104)) then
         kf r10_2 (r12_4.1,(r12_4.2.1,(r12_4.2.2.1,(r12_4.2.2.2.1,(r12_4.2.2.2.2.1,((r12_4.2.2.2.2.2.1 ++ [((1:Int),((0:Int),((0:Int),(0:Int))))]),r12_4.2.2.2.2.2.2))))))
        else none
       else
        kf r10_2 r12_4))))
noncomputable def S28_l4 (x0_1:(List Int)) (x1_2:(List Int)) (x12_3:Int):Nat→(Option Ret)→(Bool→Option Ret)→Int→Option Ret
 | 0,_,_,_=>none
 | n_5 + 1,k4_0_6,k4_1_7,x13_4 =>
  bif (decide (x13_4 < x12_3)) then
   bif (inB x13_4 (List.length x0_1)) then
    bif (inB x13_4 (List.length x1_2)) then
     bif ((List.getD x0_1 (Int.toNat x13_4) (0:Int)) != (List.getD x1_2 (Int.toNat x13_4) (0:Int))) then
      k4_1_7 false
     else
      (S28_l4 x0_1 x1_2 x12_3 n_5 k4_0_6 k4_1_7) (IntKind.wrap .i64 (x13_4 + (1:Int)))
    else none
   else none
  else
   k4_0_6
noncomputable def S28 (N:Nat) (a0:(List Int)) (a1:(List Int)) (kf:Bool→Option Ret):Option Ret:=
 bif ((List.length a0:Int) != (List.length a1:Int)) then
  kf false
 else
  S28_l4 a0 a1 (List.length a0:Int) N (kf true) kf (0:Int)
noncomputable def I27 (N:Nat) (a0:QIIIIILIE) (a1:QIIIIILIE) (kf:Bool→Option Ret):Option Ret:=
 bif (a0.1 == a1.1) then
  bif (a0.2.1 == a1.2.1) then
   bif (a0.2.2.1 == a1.2.2.1) then
    bif (a0.2.2.2.1 == a1.2.2.2.1) then
     bif (a0.2.2.2.2.1 == a1.2.2.2.2.1) then
      S28 N a0.2.2.2.2.2 a1.2.2.2.2.2 kf
     else
      kf false
    else
     kf false
   else
    kf false
  else
   kf false
 else
  kf false
noncomputable def S26_l4 (N:Nat) (x1_1:(List QIIIIILIE)) (x15_2:(List QIIIIILIE)) (x16_3:Int):Nat→(Option Ret)→(Bool→Option Ret)→Int→Option Ret
 | 0,_,_,_=>none
 | n_5 + 1,k4_0_7,k4_1_8,x17_4 =>
  bif (decide (x17_4 < x16_3)) then
   bif (inB x17_4 (List.length x15_2)) then
    bif (inB x17_4 (List.length x1_1)) then
     I27 N (List.getD x15_2 (Int.toNat x17_4) zQIIIIILIE) (List.getD x1_1 (Int.toNat x17_4) zQIIIIILIE) (fun (r29_6:Bool) =>
      bif (!r29_6) then
       k4_1_8 false
      else
       (S26_l4 N x1_1 x15_2 x16_3 n_5 k4_0_7 k4_1_8) (IntKind.wrap .i64 (x17_4 + (1:Int))))
    else none
   else none
  else
   k4_0_7
noncomputable def S26 (N:Nat) (a0:(List QIIIIILIE)) (a1:(List QIIIIILIE)) (kf:Bool→Option Ret):Option Ret:=
 bif ((List.length a0:Int) != (List.length a1:Int)) then
  kf false
 else
  S26_l4 N a1 a0 (List.length a0:Int) N (kf true) kf (0:Int)
noncomputable def I30 (N:Nat) (a0:QIILIE) (a1:QIILIE) (kf:Bool→Option Ret):Option Ret:=
 bif (a0.1 == a1.1) then
  bif (a0.2.1 == a1.2.1) then
   S28 N a0.2.2 a1.2.2 kf
  else
   kf false
 else
  kf false
noncomputable def S29_l4 (N:Nat) (x1_1:(List QIILIE)) (x15_2:(List QIILIE)) (x16_3:Int):Nat→(Option Ret)→(Bool→Option Ret)→Int→Option Ret
 | 0,_,_,_=>none
 | n_5 + 1,k4_0_7,k4_1_8,x17_4 =>
  bif (decide (x17_4 < x16_3)) then
   bif (inB x17_4 (List.length x15_2)) then
    bif (inB x17_4 (List.length x1_1)) then
     I30 N (List.getD x15_2 (Int.toNat x17_4) zQIILIE) (List.getD x1_1 (Int.toNat x17_4) zQIILIE) (fun (r29_6:Bool) =>
      bif (!r29_6) then
       k4_1_8 false
      else
       (S29_l4 N x1_1 x15_2 x16_3 n_5 k4_0_7 k4_1_8) (IntKind.wrap .i64 (x17_4 + (1:Int))))
    else none
   else none
  else
   k4_0_7
noncomputable def S29 (N:Nat) (a0:(List QIILIE)) (a1:(List QIILIE)) (kf:Bool→Option Ret):Option Ret:=
 bif ((List.length a0:Int) != (List.length a1:Int)) then
  kf false
 else
  S29_l4 N a1 a0 (List.length a0:Int) N (kf true) kf (0:Int)
noncomputable def S31_l4 (x0_1:(List QIIE)) (x1_2:(List QIIE)) (x12_3:Int):Nat→(Option Ret)→(Bool→Option Ret)→Int→Option Ret
 | 0,_,_,_=>none
 | n_5 + 1,k4_0_6,k4_1_7,x13_4 =>
  bif (decide (x13_4 < x12_3)) then
   bif (inB x13_4 (List.length x0_1)) then
    bif (inB x13_4 (List.length x1_2)) then
     bif (!((decide (((List.getD x0_1 (Int.toNat x13_4) zQIIE).1:Int)=(List.getD x1_2 (Int.toNat x13_4) zQIIE).1)) && (decide (((List.getD x0_1 (Int.toNat x13_4) zQIIE).2:Int)=(List.getD x1_2 (Int.toNat x13_4) zQIIE).2)))) then
      k4_1_7 false
     else
      (S31_l4 x0_1 x1_2 x12_3 n_5 k4_0_6 k4_1_7) (IntKind.wrap .i64 (x13_4 + (1:Int)))
    else none
   else none
  else
   k4_0_6
noncomputable def S31 (N:Nat) (a0:(List QIIE)) (a1:(List QIIE)) (kf:Bool→Option Ret):Option Ret:=
 bif ((List.length a0:Int) != (List.length a1:Int)) then
  kf false
 else
  S31_l4 a0 a1 (List.length a0:Int) N (kf true) kf (0:Int)
noncomputable def S32_l4 (x0_1:(List QIIIE)) (x1_2:(List QIIIE)) (x12_3:Int):Nat→(Option Ret)→(Bool→Option Ret)→Int→Option Ret
 | 0,_,_,_=>none
 | n_5 + 1,k4_0_6,k4_1_7,x13_4 =>
  bif (decide (x13_4 < x12_3)) then
   bif (inB x13_4 (List.length x0_1)) then
    bif (inB x13_4 (List.length x1_2)) then
     bif (!((decide (((List.getD x0_1 (Int.toNat x13_4) zQIIIE).1:Int)=(List.getD x1_2 (Int.toNat x13_4) zQIIIE).1)) && ((decide (((List.getD x0_1 (Int.toNat x13_4) zQIIIE).2.1:Int)=(List.getD x1_2 (Int.toNat x13_4) zQIIIE).2.1)) && (decide (((List.getD x0_1 (Int.toNat x13_4) zQIIIE).2.2:Int)=(List.getD x1_2 (Int.toNat x13_4) zQIIIE).2.2))))) then
      k4_1_7 false
     else
      (S32_l4 x0_1 x1_2 x12_3 n_5 k4_0_6 k4_1_7) (IntKind.wrap .i64 (x13_4 + (1:Int)))
    else none
   else none
  else
   k4_0_6
noncomputable def S32 (N:Nat) (a0:(List QIIIE)) (a1:(List QIIIE)) (kf:Bool→Option Ret):Option Ret:=
 bif ((List.length a0:Int) != (List.length a1:Int)) then
  kf false
 else
  S32_l4 a0 a1 (List.length a0:Int) N (kf true) kf (0:Int)
noncomputable def S33_l4 (x0_1:(List QIIIIE)) (x1_2:(List QIIIIE)) (x12_3:Int):Nat→(Option Ret)→(Bool→Option Ret)→Int→Option Ret
 | 0,_,_,_=>none
 | n_5 + 1,k4_0_6,k4_1_7,x13_4 =>
  bif (decide (x13_4 < x12_3)) then
   bif (inB x13_4 (List.length x0_1)) then
    bif (inB x13_4 (List.length x1_2)) then
     bif (!((decide (((List.getD x0_1 (Int.toNat x13_4) zQIIIIE).1:Int)=(List.getD x1_2 (Int.toNat x13_4) zQIIIIE).1)) && ((decide (((List.getD x0_1 (Int.toNat x13_4) zQIIIIE).2.1:Int)=(List.getD x1_2 (Int.toNat x13_4) zQIIIIE).2.1)) && ((decide (((List.getD x0_1 (Int.toNat x13_4) zQIIIIE).2.2.1:Int)=(List.getD x1_2 (Int.toNat x13_4) zQIIIIE).2.2.1)) && (decide (((List.getD x0_1 (Int.toNat x13_4) zQIIIIE).2.2.2:Int)=(List.getD x1_2 (Int.toNat x13_4) zQIIIIE).2.2.2)))))) then
      k4_1_7 false
     else
      (S33_l4 x0_1 x1_2 x12_3 n_5 k4_0_6 k4_1_7) (IntKind.wrap .i64 (x13_4 + (1:Int)))
    else none
   else none
  else
   k4_0_6
noncomputable def S33 (N:Nat) (a0:(List QIIIIE)) (a1:(List QIIIIE)) (kf:Bool→Option Ret):Option Ret:=
 bif ((List.length a0:Int) != (List.length a1:Int)) then
  kf false
 else
  S33_l4 a0 a1 (List.length a0:Int) N (kf true) kf (0:Int)
noncomputable def I12 (N:Nat) (a0:QLQIIIIILIELQIILIELQIIELILQIIIELQIIIIEIE) (a1:QLQIIIIILIELQIILIELQIIELILQIIIELQIIIIEIE) (kf:Bool→Option Ret):Option Ret:=
 bif (a0.2.2.2.2.2.2 == a1.2.2.2.2.2.2) then
  S26 N a0.1 a1.1 (fun (r15_1:Bool) =>
   bif r15_1 then
    S29 N a0.2.1 a1.2.1 (fun (r22_2:Bool) =>
     bif r22_2 then
      S31 N a0.2.2.1 a1.2.2.1 (fun (r29_3:Bool) =>
       bif r29_3 then
        S28 N a0.2.2.2.1 a1.2.2.2.1 (fun (r36_4:Bool) =>
         bif r36_4 then
          S32 N a0.2.2.2.2.1 a1.2.2.2.2.1 (fun (r43_5:Bool) =>
           bif r43_5 then
            S33 N a0.2.2.2.2.2.1 a1.2.2.2.2.2.1 kf
           else
            kf false)
         else
          kf false)
       else
        kf false)
     else
      kf false)
   else
    kf false)
 else
  kf false
abbrev TG0_L3:Type:=Nat→(List Int)→(Bool→Option Ret)→Option Ret
abbrev TG1_L3:Type:=Nat→(QLQIIIIILIELQIILIELQIIELILQIIIELQIIIIEIE→Option Ret)→Option Ret
abbrev TG2_L3:Type:=Nat→QLQIIIIILIELQIILIELQIIELILQIIIELQIIIIEIE→(Bool→Option Ret)→Option Ret
abbrev TG3_L3:Type:=Nat→(List Int)→(QLQIIIIILIELQIILIELQIIELILQIIIELQIIIIEIE→Option Ret)→Option Ret
abbrev TG4_L3:Type:=Nat→QLQIIIIILIELQIILIELQIIELILQIIIELQIIIIEIE→((List Int)→Option Ret)→Option Ret
abbrev TG5_L3:Type:=Nat→(List Int)→(QLQIIIIILIELQIILIELQIIELILQIIIELQIIIIEIE→QLQIIIIILIELQIILIELQIIELILQIIIELQIIIIEIE→Option Ret)→Option Ret
abbrev TG6_L3:Type:=Nat→QLQIIIIILIELQIILIELQIIELILQIIIELQIIIIEIE→QLQIIIIILIELQIILIELQIIELILQIIIELQIIIIEIE→(Bool→Option Ret)→Option Ret
noncomputable def L3_j1_g (g0:TG0_L3) (g1:TG1_L3) (g2:TG2_L3) (g3:TG2_L3) (g4:TG3_L3) (g5:TG4_L3) (g6:TG0_L3) (g7:TG5_L3) (g8:TG6_L3) (N:Nat) (a0:(List Int)) (kf:Bool→Option Ret):Option Ret:=
 g7 N a0 (fun (r46_11:QLQIIIIILIELQIILIELQIIELILQIIIELQIIIIEIE) (r46_12:QLQIIIIILIELQIILIELQIIELILQIIIELQIIIIEIE) =>
  g8 N r46_11 r46_12 (fun (r51_13:Bool) =>
   g8 N r46_12 r46_11 (fun (r54_14:Bool) =>
    bif (r51_13 == r54_14) then
     g8 N r46_11 r46_11 kf
    else
     kf false)))
noncomputable def L3_g (g0:TG0_L3) (g1:TG1_L3) (g2:TG2_L3) (g3:TG2_L3) (g4:TG3_L3) (g5:TG4_L3) (g6:TG0_L3) (g7:TG5_L3) (g8:TG6_L3) (N:Nat) (a0:(List Int)) (kf:Bool→Option Ret):Option Ret:=
 g0 N a0 (fun (r8_1:Bool) =>
  bif r8_1 then
   kf true
  else
   g1 N (fun (r9_2:QLQIIIIILIELQIILIELQIIELILQIIIELQIIIIEIE) =>
    g2 N r9_2 (fun (r10_3:Bool) =>
     bif (!r10_3) then
      kf false
     else
      g1 N (fun (r13_4:QLQIIIIILIELQIILIELQIIELILQIIIELQIIIIEIE) =>
       g3 N r13_4 (fun (r14_5:Bool) =>
        bif r14_5 then
         kf false
        else
         g4 N a0 (fun (r17_6:QLQIIIIILIELQIILIELQIIELILQIIIELQIIIIEIE) =>
          g5 N r17_6 (fun (r19_7:(List Int)) =>
           g6 N r19_7 (fun (r21_8:Bool) =>
            bif (!r21_8) then
             kf false
            else
             bif (decide ((List.length r19_7:Int) > (List.length r17_6.2.2.2.2.1:Int))) then
              kf false
             else
              g2 N r17_6 (fun (r33_9:Bool) =>
               bif r33_9 then
                g3 N r17_6 (fun (r36_10:Bool) =>
                 bif (!(r36_10 == (decide ((List.length r17_6.2.2.2.1:Int) > (0:Int))))) then
                  kf false
                 else
                  L3_j1_g g0 g1 g2 g3 g4 g5 g6 g7 g8 N a0 kf)
               else
                L3_j1_g g0 g1 g2 g3 g4 g5 g6 g7 g8 N a0 kf)))))))))
noncomputable def L3 (N:Nat) (a0:(List Int)) (kf:Bool→Option Ret):Option Ret:=L3_g L4 I6 I5 I7 S8 I9 L10 S11 I12 N a0 kf
end Go.Pv.R
