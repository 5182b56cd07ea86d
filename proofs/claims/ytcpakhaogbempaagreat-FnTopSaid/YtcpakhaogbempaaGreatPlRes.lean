/- What the functions compute, as plain functions. -/
import Derived.Test.YtcpakhaogbempaaGreatPv4
namespace Go.Pv.R
set_option linter.unusedVariables false
set_option linter.unusedSimpArgs false
abbrev tQIILIE:Ty:=(.pair (.int .i64) (.pair (.int .i64) (.sl (.int .i64))))
abbrev QIILIE:Type:=(Int × (Int × (List Int)))
def zQIILIE:QIILIE:=((0:Int),((0:Int),([]:(List Int))))
abbrev tQIIIIILIE:Ty:=(.pair (.int .i64) (.pair (.int .i64) (.pair (.int .i64) (.pair (.int .i64) (.pair (.int .i64) (.sl (.int .i64)))))))
abbrev QIIIIILIE:Type:=(Int × (Int × (Int × (Int × (Int × (List Int))))))
def zQIIIIILIE:QIIIIILIE:=((0:Int),((0:Int),((0:Int),((0:Int),((0:Int),([]:(List Int)))))))
abbrev tQIIE:Ty:=(.pair (.int .i64) (.int .i64))
abbrev QIIE:Type:=(Int × Int)
def zQIIE:QIIE:=((0:Int),(0:Int))
abbrev tQIIIE:Ty:=(.pair (.int .i64) (.pair (.int .i64) (.int .i64)))
abbrev QIIIE:Type:=(Int × (Int × Int))
def zQIIIE:QIIIE:=((0:Int),((0:Int),(0:Int)))
abbrev tQIIIIE:Ty:=(.pair (.int .i64) (.pair (.int .i64) (.pair (.int .i64) (.int .i64))))
abbrev QIIIIE:Type:=(Int × (Int × (Int × Int)))
def zQIIIIE:QIIIIE:=((0:Int),((0:Int),((0:Int),(0:Int))))
abbrev tQLIIIE:Ty:=(.pair (.sl (.int .u8)) (.pair (.int .i64) (.int .i64)))
abbrev QLIIIE:Type:=((List Int) × (Int × Int))
abbrev tQLQIIIIILIELQIILIELQIIELILQIIIELQIIIIEIE:Ty:=(.pair (.sl tQIIIIILIE) (.pair (.sl tQIILIE) (.pair (.sl tQIIE) (.pair (.sl (.int .i64)) (.pair (.sl tQIIIE) (.pair (.sl tQIIIIE) (.int .i64)))))))
abbrev QLQIIIIILIELQIILIELQIIELILQIIIELQIIIIEIE:Type:=((List QIIIIILIE) × ((List QIILIE) × ((List QIIE) × ((List Int) × ((List QIIIE) × ((List QIIIIE) × Int))))))
noncomputable def s_h00010202030303030404040404040404050505050505050505050505050505050606060606060606:ByteArray:=⟨#[0,1,2,2,3,3,3,3,4,4,4,4,4,4,4,4,5,5,5,5,5,5,5,5,5,5,5,5,5,5,5,5,6,6,6,6,6,6,6,6,6,6,6,6,6,6,6,6,6,6,6,6,6,6,6,6,6,6,6,6,6,6,6,6,7,7,7,7,7,7,7,7,7,7,7,7,7,7,7,7,7,7,7,7,7,7,7,7,7,7,7,7,7,7,7,7,7,7,7,7,7,7,7,7,7,7,7,7,7,7,7,7,7,7,7,7,7,7,7,7,7,7,7,7,7,7,7,7,8,8,8,8,8,8,8,8,8,8,8,8,8,8,8,8,8,8,8,8,8,8,8,8,8,8,8,8,8,8,8,8,8,8,8,8,8,8,8,8,8,8,8,8,8,8,8,8,8,8,8,8,8,8,8,8,8,8,8,8,8,8,8,8,8,8,8,8,8,8,8,8,8,8,8,8,8,8,8,8,8,8,8,8,8,8,8,8,8,8,8,8,8,8,8,8,8,8,8,8,8,8,8,8,8,8,8,8,8,8,8,8,8,8,8,8,8,8,8,8,8,8,8,8,8,8,8,8]⟩
noncomputable def s_e:ByteArray:=⟨#[]⟩
noncomputable def s_rematch:ByteArray:=⟨#[114,101,109,97,116,99,104]⟩
noncomputable def s_judge:ByteArray:=⟨#[106,117,100,103,101]⟩
noncomputable def s_minutes:ByteArray:=⟨#[109,105,110,117,116,101,115]⟩
noncomputable def s_sum:ByteArray:=⟨#[115,117,109]⟩
noncomputable def s_club:ByteArray:=⟨#[99,108,117,98]⟩
noncomputable def L11 (N:Nat) (a0:(List Int)) (kf:Bool→Option Ret):Option Ret:=
 kf (decide ((List.length a0:Int) > (1048576:Int)))
noncomputable def S67_l3 (x0_1:(List Int)):Nat→(Int→Option Ret)→Int→Int→Option Ret
 | 0,_,_,_=>none
 | n_4 + 1,k3_0_5,x3_2,x4_3 =>
  bif (decide (x4_3 < (List.length x0_1:Int))) then
   bif (decide (x4_3 < (4000:Int))) then
    bif (inB x4_3 (List.length x0_1)) then
     (S67_l3 x0_1 n_4 k3_0_5) (IntKind.wrap .i64 (BitVec.toNat (BitVec.ofInt (IntKind.bits .i64) (IntKind.wrap .i64 ((IntKind.wrap .i64 ((IntKind.wrap .i64 (x3_2 * (137:Int))) + (IntKind.wrap .i64 (List.getD x0_1 (Int.toNat x4_3) (0:Int))))) + (11:Int))) &&& BitVec.ofInt (IntKind.bits .i64) (1073741823:Int)))) (IntKind.wrap .i64 (x4_3 + (1:Int)))
    else none
   else
    k3_0_5 x3_2
  else
   k3_0_5 x3_2
noncomputable def S67 (N:Nat) (a0:(List Int)) (kf:QLIIIE→Option Ret):Option Ret:=
 S67_l3 a0 N (fun (z3_7:Int) =>
  kf (a0,((0:Int),z3_7))) (IntKind.wrap .i64 ((193017:Int) + (List.length a0:Int))) (0:Int)
noncomputable def S68 (N:Nat)  (kf:QLQIIIIILIELQIILIELQIIELILQIIIELQIIIIEIE→Option Ret):Option Ret:=
 kf (([]:(List QIIIIILIE)),(([]:(List QIILIE)),(([]:(List QIIE)),(([]:(List Int)),(([]:(List QIIIE)),(([]:(List QIIIIE)),(0:Int)))))))
noncomputable def S216 (N:Nat) (a0:QLIIIE) (kf:Int→QLIIIE→Option Ret):Option Ret:=
 share (IntKind.wrap .i64 ((IntKind.wrap .i64 (a0.2.2 * (6364136223846793005:Int))) + (1442695040888963407:Int))) (fun (w0_1:Int) =>
  bif (decide (0≤(33:Int))) then
   bif (decide (0≤(47:Int))) then
    bif (decide (a0.2.1 < (List.length a0.1:Int))) then
     bif (inB a0.2.1 (List.length a0.1)) then
      kf (IntKind.wrap .i64 (BitVec.toNat (BitVec.ofInt (IntKind.bits .i64) (IntKind.wrap .i64 ((IntKind.wrap .i64 (BitVec.toNat (BitVec.ofInt (IntKind.bits .i64) (IntKind.wrap .i64 (BitVec.toNat (BitVec.ofInt (IntKind.bits .i64) (Int.fdiv w0_1 (2 ^ (min (Int.toNat (33:Int)) (IntKind.bits .i64)))) ^^^ BitVec.ofInt (IntKind.bits .i64) (Int.fdiv w0_1 (2 ^ (min (Int.toNat (47:Int)) (IntKind.bits .i64))))))) &&& BitVec.ofInt (IntKind.bits .i64) (255:Int)))) + (IntKind.wrap .i64 (List.getD a0.1 (Int.toNat a0.2.1) (0:Int))))) &&& BitVec.ofInt (IntKind.bits .i64) (255:Int)))) (a0.1,((IntKind.wrap .i64 (a0.2.1 + (1:Int))),w0_1))
     else none
    else
     kf (IntKind.wrap .i64 (BitVec.toNat (BitVec.ofInt (IntKind.bits .i64) (IntKind.wrap .i64 (BitVec.toNat (BitVec.ofInt (IntKind.bits .i64) (Int.fdiv w0_1 (2 ^ (min (Int.toNat (33:Int)) (IntKind.bits .i64)))) ^^^ BitVec.ofInt (IntKind.bits .i64) (Int.fdiv w0_1 (2 ^ (min (Int.toNat (47:Int)) (IntKind.bits .i64))))))) &&& BitVec.ofInt (IntKind.bits .i64) (255:Int)))) (a0.1,(a0.2.1,w0_1))
   else none
  else none)
noncomputable def S137 (N:Nat) (a0:QLIIIE) (a1:Int) (kf:Int→QLIIIE→Option Ret):Option Ret:=
 bif (decide (a1≤(0:Int))) then
  kf (0:Int) a0
 else
  bif (decide (a1≤(256:Int))) then
   S216 N a0 (fun (r13_1:Int) (z0_2:QLIIIE) =>
    bif (!decide (a1=0)) then
     kf (Int.tmod r13_1 a1) z0_2
    else none)
  else
   S216 N a0 (fun (r17_3:Int) (z0_4:QLIIIE) =>
    S216 N z0_4 (fun (r19_5:Int) (z0_6:QLIIIE) =>
     S216 N z0_6 (fun (r21_7:Int) (z0_8:QLIIIE) =>
      bif (!decide (a1=0)) then
       kf (Int.tmod (IntKind.wrap .i64 ((IntKind.wrap .i64 ((IntKind.wrap .i64 (r17_3 * (65536:Int))) + (IntKind.wrap .i64 (r19_5 * (256:Int))))) + r21_7)) a1) z0_8
      else none)))
noncomputable def S140 (N:Nat) (a0:QLIIIE) (a1:Int) (kf:Bool→QLIIIE→Option Ret):Option Ret:=
 S137 N a0 a1 (fun (r7_1:Int) (z0_2:QLIIIE) =>
  kf (r7_1 == (0:Int)) z0_2)
noncomputable def S134 (N:Nat) (a0:QLIIIE) (a1:(List Int)) (kf:Int→QLIIIE→Option Ret):Option Ret:=
 S137 N a0 (List.length a1:Int) (fun (r9_1:Int) (z0_2:QLIIIE) =>
  bif (inB r9_1 (List.length a1)) then
   kf (List.getD a1 (Int.toNat r9_1) (0:Int)) z0_2
  else none)
noncomputable def S155 (N:Nat) (a0:QLIIIE) (kf:QIIIIE→QLIIIE→Option Ret):Option Ret:=
 S134 N a0 [(1:Int),(2:Int),(3:Int),(3:Int),(4:Int),(4:Int),(4:Int),(5:Int),(5:Int),(6:Int)] (fun (r6_1:Int) (z0_2:QLIIIE) =>
  bif (r6_1 == (1:Int)) then
   S137 N z0_2 (9:Int) (fun (r13_3:Int) (z0_4:QLIIIE) =>
    S137 N z0_4 (3:Int) (fun (r17_5:Int) (z0_6:QLIIIE) =>
     kf (r6_1,((IntKind.wrap .i64 ((1:Int) + r13_3)),((IntKind.wrap .i64 ((1:Int) + r17_5)),(0:Int)))) z0_6))
  else
   bif (r6_1 == (2:Int)) then
    S137 N z0_2 (5:Int) (fun (r23_7:Int) (z0_8:QLIIIE) =>
     kf (r6_1,((IntKind.wrap .i64 ((11:Int) + r23_7)),((4:Int),(0:Int)))) z0_8)
   else
    bif (r6_1 == (4:Int)) then
     S137 N z0_2 (3:Int) (fun (r30_9:Int) (z0_10:QLIIIE) =>
      S137 N z0_10 (20:Int) (fun (r33_11:Int) (z0_12:QLIIIE) =>
       S137 N z0_12 (20:Int) (fun (r37_13:Int) (z0_14:QLIIIE) =>
        kf (r6_1,((IntKind.wrap .i64 ((60:Int) + r33_11)),((IntKind.wrap .i64 ((60:Int) + r37_13)),r30_9))) z0_14)))
    else
     bif (r6_1 == (6:Int)) then
      S137 N z0_2 (9:Int) (fun (r43_15:Int) (z0_16:QLIIIE) =>
       kf (r6_1,((IntKind.wrap .i64 ((1:Int) + r43_15)),((0:Int),(0:Int)))) z0_16)
     else
      kf (r6_1,((0:Int),((0:Int),(0:Int)))) z0_2)
noncomputable def S69_l5 (N:Nat):Nat→(QLIIIE→(List QIIIIE)→Option Ret)→QLIIIE→(List QIIIIE)→Int→Option Ret
 | 0,_,_,_,_=>none
 | n_9 + 1,k5_0_12,x0_6,x3_7,x4_8 =>
  bif (decide (x4_8 > (0:Int))) then
   S155 N x0_6 (fun (r25_10:QIIIIE) (z0_11:QLIIIE) =>
    bif (decide ((List.length x3_7 + List.length [r25_10]) * 4≤4398046511104)) then
     (S69_l5 N n_9 k5_0_12) z0_11 (x3_7 ++ [r25_10]) (IntKind.wrap .i64 (x4_8 - (1:Int)))
    else none)
  else
   k5_0_12 x0_6 x3_7
noncomputable def S69_j1 (N:Nat) (kf:(List QIIIIE)→QLIIIE→Option Ret) (z0_2:QLIIIE) (y3_3:(List QIIIIE)):Option Ret:=
 S137 N z0_2 (14:Int) (fun (r18_4:Int) (z0_5:QLIIIE) =>
  S69_l5 N N (fun (z0_14:QLIIIE) (z3_15:(List QIIIIE)) =>
   kf z3_15 z0_14) z0_5 y3_3 r18_4)
noncomputable def S69 (N:Nat) (a0:QLIIIE) (kf:(List QIIIIE)→QLIIIE→Option Ret):Option Ret:=
 S140 N a0 (2:Int) (fun (r11_1:Bool) (z0_2:QLIIIE) =>
  bif r11_1 then
   bif (decide ((List.length [((1:Int),((2:Int),((1:Int),(0:Int)))),((1:Int),((4:Int),((2:Int),(0:Int)))),((2:Int),((11:Int),((4:Int),(0:Int)))),((2:Int),((12:Int),((5:Int),(0:Int))))] + List.length [((1:Int),((6:Int),((1:Int),(0:Int)))),((1:Int),((8:Int),((3:Int),(0:Int))))]) * 4≤4398046511104)) then
    S69_j1 N kf z0_2 ([((1:Int),((2:Int),((1:Int),(0:Int)))),((1:Int),((4:Int),((2:Int),(0:Int)))),((2:Int),((11:Int),((4:Int),(0:Int)))),((2:Int),((12:Int),((5:Int),(0:Int))))] ++ [((1:Int),((6:Int),((1:Int),(0:Int)))),((1:Int),((8:Int),((3:Int),(0:Int))))])
   else none
  else
   S69_j1 N kf z0_2 [((1:Int),((2:Int),((1:Int),(0:Int)))),((1:Int),((4:Int),((2:Int),(0:Int)))),((2:Int),((11:Int),((4:Int),(0:Int)))),((2:Int),((12:Int),((5:Int),(0:Int))))])
noncomputable def S12 (N:Nat) (a0:(List Int)) (kf:QLQIIIIILIELQIILIELQIIELILQIIIELQIIIIEIE→(List QIIIIE)→Option Ret):Option Ret:=
 S67 N a0 (fun (r6_1:QLIIIE) =>
  S68 N (fun (r7_2:QLQIIIIILIELQIILIELQIIELILQIIIELQIIIIEIE) =>
   S69 N r6_1 (fun (r9_3:(List QIIIIE)) (z4_4:QLIIIE) =>
    kf r7_2 r9_3)))
noncomputable def S166 (N:Nat) (a0:(List Int)) (kf:(List Int)→Option Ret):Option Ret:=
 bif (List.isEmpty a0) then
  both (kf ([]:(List Int))) (
   bif (decide ((List.length ([]:(List Int)) + List.length a0) * 1≤4398046511104)) then
    kf (([]:(List Int)) ++ a0)
   else none)
 else
  bif (decide ((List.length ([]:(List Int)) + List.length a0) * 1≤4398046511104)) then
   kf (([]:(List Int)) ++ a0)
  else none
noncomputable def I163_l3 (N:Nat) (x7_2:(List QIIIIILIE)) (x8_3:Int):Nat→((List QIIIIILIE)→Option Ret)→(List QIIIIILIE)→Int→Option Ret
 | 0,_,_,_=>none
 | n_5 + 1,k3_0_7,x3_1,x9_4 =>
  bif (decide (x9_4 < x8_3)) then
   bif (inB x9_4 (List.length x7_2)) then
    S166 N (List.getD x7_2 (Int.toNat x9_4) zQIIIIILIE).2.2.2.2.2 (fun (r15_6:(List Int)) =>
     bif (decide ((List.length x3_1 + List.length [((List.getD x7_2 (Int.toNat x9_4) zQIIIIILIE).1,((List.getD x7_2 (Int.toNat x9_4) zQIIIIILIE).2.1,((List.getD x7_2 (Int.toNat x9_4) zQIIIIILIE).2.2.1,((List.getD x7_2 (Int.toNat x9_4) zQIIIIILIE).2.2.2.1,((List.getD x7_2 (Int.toNat x9_4) zQIIIIILIE).2.2.2.2.1,r15_6)))))]) * 6≤4398046511104)) then
      (I163_l3 N x7_2 x8_3 n_5 k3_0_7) (x3_1 ++ [((List.getD x7_2 (Int.toNat x9_4) zQIIIIILIE).1,((List.getD x7_2 (Int.toNat x9_4) zQIIIIILIE).2.1,((List.getD x7_2 (Int.toNat x9_4) zQIIIIILIE).2.2.1,((List.getD x7_2 (Int.toNat x9_4) zQIIIIILIE).2.2.2.1,((List.getD x7_2 (Int.toNat x9_4) zQIIIIILIE).2.2.2.2.1,r15_6)))))]) (IntKind.wrap .i64 (x9_4 + (1:Int)))
     else none)
   else none
  else
   k3_0_7 x3_1
noncomputable def I163 (N:Nat) (a0:(List QIIIIILIE)) (kf:(List QIIIIILIE)→Option Ret):Option Ret:=
 I163_l3 N a0 (List.length a0:Int) N kf ([]:(List QIIIIILIE)) (0:Int)
noncomputable def I164_l3 (N:Nat) (x7_2:(List QIILIE)) (x8_3:Int):Nat→((List QIILIE)→Option Ret)→(List QIILIE)→Int→Option Ret
 | 0,_,_,_=>none
 | n_5 + 1,k3_0_7,x3_1,x9_4 =>
  bif (decide (x9_4 < x8_3)) then
   bif (inB x9_4 (List.length x7_2)) then
    S166 N (List.getD x7_2 (Int.toNat x9_4) zQIILIE).2.2 (fun (r15_6:(List Int)) =>
     bif (decide ((List.length x3_1 + List.length [((List.getD x7_2 (Int.toNat x9_4) zQIILIE).1,((List.getD x7_2 (Int.toNat x9_4) zQIILIE).2.1,r15_6))]) * 3≤4398046511104)) then
      (I164_l3 N x7_2 x8_3 n_5 k3_0_7) (x3_1 ++ [((List.getD x7_2 (Int.toNat x9_4) zQIILIE).1,((List.getD x7_2 (Int.toNat x9_4) zQIILIE).2.1,r15_6))]) (IntKind.wrap .i64 (x9_4 + (1:Int)))
     else none)
   else none
  else
   k3_0_7 x3_1
noncomputable def I164 (N:Nat) (a0:(List QIILIE)) (kf:(List QIILIE)→Option Ret):Option Ret:=
 I164_l3 N a0 (List.length a0:Int) N kf ([]:(List QIILIE)) (0:Int)
noncomputable def S165 (N:Nat) (a0:(List QIIE)) (kf:(List QIIE)→Option Ret):Option Ret:=
 bif (List.isEmpty a0) then
  both (kf ([]:(List QIIE))) (
   bif (decide ((List.length ([]:(List QIIE)) + List.length a0) * 2≤4398046511104)) then
    kf (([]:(List QIIE)) ++ a0)
   else none)
 else
  bif (decide ((List.length ([]:(List QIIE)) + List.length a0) * 2≤4398046511104)) then
   kf (([]:(List QIIE)) ++ a0)
  else none
noncomputable def S167 (N:Nat) (a0:(List QIIIE)) (kf:(List QIIIE)→Option Ret):Option Ret:=
 bif (List.isEmpty a0) then
  both (kf ([]:(List QIIIE))) (
   bif (decide ((List.length ([]:(List QIIIE)) + List.length a0) * 3≤4398046511104)) then
    kf (([]:(List QIIIE)) ++ a0)
   else none)
 else
  bif (decide ((List.length ([]:(List QIIIE)) + List.length a0) * 3≤4398046511104)) then
   kf (([]:(List QIIIE)) ++ a0)
  else none
noncomputable def S168 (N:Nat) (a0:(List QIIIIE)) (kf:(List QIIIIE)→Option Ret):Option Ret:=
 bif (List.isEmpty a0) then
  both (kf ([]:(List QIIIIE))) (
   bif (decide ((List.length ([]:(List QIIIIE)) + List.length a0) * 4≤4398046511104)) then
    kf (([]:(List QIIIIE)) ++ a0)
   else none)
 else
  bif (decide ((List.length ([]:(List QIIIIE)) + List.length a0) * 4≤4398046511104)) then
   kf (([]:(List QIIIIE)) ++ a0)
  else none
noncomputable def I70 (N:Nat) (a0:QLQIIIIILIELQIILIELQIIELILQIIIELQIIIIEIE) (kf:QLQIIIIILIELQIILIELQIIELILQIIIELQIIIIEIE→Option Ret):Option Ret:=
 I163 N a0.1 (fun (r5_1:(List QIIIIILIE)) =>
  I164 N a0.2.1 (fun (r8_2:(List QIILIE)) =>
   S165 N a0.2.2.1 (fun (r13_3:(List QIIE)) =>
    S166 N a0.2.2.2.1 (fun (r16_4:(List Int)) =>
     S167 N a0.2.2.2.2.1 (fun (r19_5:(List QIIIE)) =>
      S168 N a0.2.2.2.2.2.1 (fun (r22_6:(List QIIIIE)) =>
       kf (r5_1,(r8_2,(r13_3,(r16_4,(r19_5,(r22_6,a0.2.2.2.2.2.2))))))))))))
noncomputable def I147 (N:Nat) (a0:QIIIIILIE) (a1:Int) (kf:Bool→Option Ret):Option Ret:=
 kf (a0.1 == a1)
noncomputable def S146_l2 (N:Nat) (x0_1:(List QIIIIILIE)) (x1_2:Int) (x7_3:Int):Nat→(Option Ret)→(Int→Option Ret)→Int→Option Ret
 | 0,_,_,_=>none
 | n_5 + 1,k2_0_7,k2_1_8,x8_4 =>
  bif (decide (x8_4 < x7_3)) then
   bif (inB x8_4 (List.length x0_1)) then
    I147 N (List.getD x0_1 (Int.toNat x8_4) zQIIIIILIE) x1_2 (fun (r16_6:Bool) =>
     bif r16_6 then
      k2_1_8 x8_4
     else
      (S146_l2 N x0_1 x1_2 x7_3 n_5 k2_0_7 k2_1_8) (IntKind.wrap .i64 (x8_4 + (1:Int))))
   else none
  else
   k2_0_7
noncomputable def S146 (N:Nat) (a0:(List QIIIIILIE)) (a1_0:Int) (kf:Int→Option Ret):Option Ret:=
 S146_l2 N a0 a1_0 (List.length a0:Int) N (kf (-1:Int)) kf (0:Int)
noncomputable def I40 (N:Nat) (a0:(List QIIIIILIE)) (a1:Int) (kf:Int→Option Ret):Option Ret:=
 S146 N a0 a1 kf
noncomputable def I16 (N:Nat) (a0:QLQIIIIILIELQIILIELQIIELILQIIIELQIIIIEIE) (kf:Bool→Option Ret):Option Ret:=
 kf (decide ((List.length a0.2.2.1:Int) > (0:Int)))
noncomputable def S135 (N:Nat) (a0:(List QIIIIILIE)) (a1:Int) (a2:(List QIIIIILIE)) (kf:(List QIIIIILIE)→Option Ret):Option Ret:=
 bif (decide ((0:Int)≤a1) && (decide (a1≤(List.length a0:Int)) && (Nat.blt 0 (List.length a2) && Nat.ble ((List.length a0 + List.length a2) * Ty.size tQIIIIILIE) 4398046511104))) then
  kf (List.take (Int.toNat a1) a0 ++ a2 ++ List.drop (Int.toNat a1) a0)
 else none
noncomputable def I234 (N:Nat) (a0:(List QIIIIE)) (kf:Int→Option Ret):Option Ret:=
 bif ((List.length a0:Int) == (0:Int)) then
  kf (0:Int)
 else
  bif (inB (IntKind.wrap .i64 ((List.length a0:Int) - (1:Int))) (List.length a0)) then
   kf (List.getD a0 (Int.toNat (IntKind.wrap .i64 ((List.length a0:Int) - (1:Int)))) zQIIIIE).2.2.2
  else none
noncomputable def I144 (N:Nat) (a0:Int) (a1:Int) (a2:Int) (kf:Bool→Option Ret):Option Ret:=
 bif (decide (a1≤a0)) then
  kf (decide (a0≤a2))
 else
  kf false
noncomputable def I262 (N:Nat) (a0:Int) (a1:Int) (kf:Int→Option Ret):Option Ret:=
 I144 N a1 (1:Int) (1000000000000:Int) (fun (r7_1:Bool) =>
  bif (!r7_1) then
   kf (0:Int)
  else
   bif (!decide (a1=0)) then
    bif (decide ((Int.tmod a0 a1) < (0:Int))) then
     kf (IntKind.wrap .i64 ((Int.tmod a0 a1) + a1))
    else
     kf (Int.tmod a0 a1)
   else none)
noncomputable def I249 (N:Nat) (a0:Int) (a1:Int) (kf:Int→Option Ret):Option Ret:=
 I262 N a1 (2147483647:Int) (fun (r8_1:Int) =>
  kf (Int.tmod (IntKind.wrap .i64 ((IntKind.wrap .i64 ((IntKind.wrap .i64 (a0 * (1000003:Int))) + r8_1)) + (13:Int))) (2147483647:Int)))
noncomputable def I219_l3 (N:Nat) (x6_2:(List Int)) (x7_3:Int):Nat→(Int→Option Ret)→Int→Int→Option Ret
 | 0,_,_,_=>none
 | n_5 + 1,k3_0_7,x3_1,x8_4 =>
  bif (decide (x8_4 < x7_3)) then
   bif (inB x8_4 (List.length x6_2)) then
    I249 N x3_1 (List.getD x6_2 (Int.toNat x8_4) (0:Int)) (fun (r14_6:Int) =>
     (I219_l3 N x6_2 x7_3 n_5 k3_0_7) r14_6 (IntKind.wrap .i64 (x8_4 + (1:Int))))
   else none
  else
   k3_0_7 x3_1
noncomputable def I219 (N:Nat) (a0:(List Int)) (kf:Int→Option Ret):Option Ret:=
 I219_l3 N a0 (List.length a0:Int) N kf (11:Int) (0:Int)
noncomputable def I169 (N:Nat) (a0:Int) (a1:QIIIIE) (kf:Int→Option Ret):Option Ret:=
 I219 N [a0,a1.1,a1.2.1,a1.2.2.1] kf
noncomputable def I75_l5 (N:Nat) (x9_2:(List QIIIIE)) (x10_3:Int):Nat→(Option Ret)→(Bool→Option Ret)→Int→Int→Option Ret
 | 0,_,_,_,_=>none
 | n_5 + 1,k5_0_9,k5_1_10,x3_1,x11_4 =>
  bif (decide (x11_4 < x10_3)) then
   bif (inB x11_4 (List.length x9_2)) then
    bif ((List.getD x9_2 (Int.toNat x11_4) zQIIIIE).1 != (IntKind.wrap .i64 (x11_4 + (1:Int)))) then
     k5_1_10 false
    else
     I144 N (List.getD x9_2 (Int.toNat x11_4) zQIIIIE).2.1 (1:Int) (9:Int) (fun (r24_6:Bool) =>
      bif (!r24_6) then
       k5_1_10 false
      else
       I144 N (List.getD x9_2 (Int.toNat x11_4) zQIIIIE).2.2.1 (0:Int) (99:Int) (fun (r30_7:Bool) =>
        bif (!r30_7) then
         k5_1_10 false
        else
         I169 N x3_1 (List.getD x9_2 (Int.toNat x11_4) zQIIIIE) (fun (r38_8:Int) =>
          bif ((List.getD x9_2 (Int.toNat x11_4) zQIIIIE).2.2.2 != r38_8) then
           k5_1_10 false
          else
           (I75_l5 N x9_2 x10_3 n_5 k5_0_9 k5_1_10) (List.getD x9_2 (Int.toNat x11_4) zQIIIIE).2.2.2 (IntKind.wrap .i64 (x11_4 + (1:Int))))))
   else none
  else
   k5_0_9
noncomputable def I75 (N:Nat) (a0:(List QIIIIE)) (kf:Bool→Option Ret):Option Ret:=
 bif (decide ((List.length a0:Int) > (200:Int))) then
  kf false
 else
  I75_l5 N a0 (List.length a0:Int) N (kf true) kf (0:Int) (0:Int)
noncomputable def I189 (N:Nat) (a0:(List QIIIIE)) (a1:Int) (a2:Int) (kf:(List QIIIIE)→Bool→Option Ret):Option Ret:=
 I234 N a0 (fun (r17_1:Int) =>
  I169 N r17_1 ((IntKind.wrap .i64 ((List.length a0:Int) + (1:Int))),(a1,(a2,(0:Int)))) (fun (r19_2:Int) =>
   S168 N a0 (fun (r22_3:(List QIIIIE)) =>
    bif (decide ((List.length r22_3 + List.length [((IntKind.wrap .i64 ((List.length a0:Int) + (1:Int))),(a1,(a2,r19_2)))]) * 4≤4398046511104)) then
     I75 N (r22_3 ++ [((IntKind.wrap .i64 ((List.length a0:Int) + (1:Int))),(a1,(a2,r19_2)))]) (fun (r27_4:Bool) =>
      bif (!r27_4) then
       S168 N a0 (fun (r30_5:(List QIIIIE)) =>
        kf r30_5 false)
      else
       kf (r22_3 ++ [((IntKind.wrap .i64 ((List.length a0:Int) + (1:Int))),(a1,(a2,r19_2)))]) true)
    else none)))
noncomputable def I78_l3 (x1_1:Int) (x8_3:(List Int)) (x9_4:Int):Nat→(Int→Option Ret)→Int→Int→Option Ret
 | 0,_,_,_=>none
 | n_6 + 1,k3_0_8,x5_2,x10_5 =>
  bif (decide (x10_5 < x9_4)) then
   bif (inB x10_5 (List.length x8_3)) then
    bif ((List.getD x8_3 (Int.toNat x10_5) (0:Int)) == x1_1) then
     (I78_l3 x1_1 x8_3 x9_4 n_6 k3_0_8) (IntKind.wrap .i64 (x5_2 + (1:Int))) (IntKind.wrap .i64 (x10_5 + (1:Int)))
    else
     (I78_l3 x1_1 x8_3 x9_4 n_6 k3_0_8) x5_2 (IntKind.wrap .i64 (x10_5 + (1:Int)))
   else none
  else
   k3_0_8 x5_2
noncomputable def I78 (N:Nat) (a0:(List Int)) (a1:Int) (kf:Int→Option Ret):Option Ret:=
 I78_l3 a1 a0 (List.length a0:Int) N kf (0:Int) (0:Int)
noncomputable def I143_l10 (N:Nat) (x0_16:(List QIIIIILIE)) (x4_17:QIIIIILIE) (x12_18:(List QIIIIILIE)) (x13_19:Int) (x14_20:Int) (x72_21:(List Int)) (x73_22:Int):Nat→(Option Ret)→(Bool→Option Ret)→Int→Option Ret
 | 0,_,_,_=>none
 | n_24 + 1,k10_0_28,k10_1_29,x74_23 =>
  bif (decide (x74_23 < x73_22)) then
   bif (inB x74_23 (List.length x72_21)) then
    I40 N x0_16 (List.getD x72_21 (Int.toNat x74_23) (0:Int)) (fun (r80_25:Int) =>
     bif (decide (r80_25 < (0:Int))) then
      k10_1_29 false
     else
      bif ((List.getD x72_21 (Int.toNat x74_23) (0:Int)) == x4_17.1) then
       k10_1_29 false
      else
       bif (inB r80_25 (List.length x0_16)) then
        I78 N x4_17.2.2.2.2.2 (List.getD x72_21 (Int.toNat x74_23) (0:Int)) (fun (r93_26:Int) =>
         I78 N (List.getD x0_16 (Int.toNat r80_25) zQIIIIILIE).2.2.2.2.2 x4_17.1 (fun (r101_27:Int) =>
          bif (r93_26 != r101_27) then
           k10_1_29 false
          else
           (I143_l10 N x0_16 x4_17 x12_18 x13_19 x14_20 x72_21 x73_22 n_24 k10_0_28 k10_1_29) (IntKind.wrap .i64 (x74_23 + (1:Int)))))
       else none)
   else none
  else
   k10_0_28
noncomputable def I143_j1 (N:Nat) (k4_1_33:Bool→Option Ret) (rc4_34:Int→Option Ret) (x0_1:(List QIIIIILIE)) (x12_2:(List QIIIIILIE)) (x13_3:Int) (x14_4:Int):Option Ret:=
 I143_l10 N x0_1 (List.getD x12_2 (Int.toNat x14_4) zQIIIIILIE) x12_2 x13_3 x14_4 (List.getD x12_2 (Int.toNat x14_4) zQIIIIILIE).2.2.2.2.2 (List.length (List.getD x12_2 (Int.toNat x14_4) zQIIIIILIE).2.2.2.2.2:Int) N (rc4_34 (IntKind.wrap .i64 (x14_4 + (1:Int)))) k4_1_33 (0:Int)
noncomputable def I143_l4 (N:Nat) (x0_1:(List QIIIIILIE)) (x12_2:(List QIIIIILIE)) (x13_3:Int):Nat→(Option Ret)→(Bool→Option Ret)→Int→Option Ret
 | 0,_,_,_=>none
 | n_5 + 1,k4_0_32,k4_1_33,x14_4 =>
  bif (decide (x14_4 < x13_3)) then
   bif (inB x14_4 (List.length x12_2)) then
    I144 N (List.getD x12_2 (Int.toNat x14_4) zQIIIIILIE).1 (1:Int) (99:Int) (fun (r24_6:Bool) =>
     bif (!r24_6) then
      k4_1_33 false
     else
      bif (decide (x14_4 > (0:Int))) then
       bif (inB (IntKind.wrap .i64 (x14_4 - (1:Int))) (List.length x0_1)) then
        bif (decide ((List.getD x12_2 (Int.toNat x14_4) zQIIIIILIE).1≤(List.getD x0_1 (Int.toNat (IntKind.wrap .i64 (x14_4 - (1:Int)))) zQIIIIILIE).1)) then
         k4_1_33 false
        else
         I144 N (List.getD x12_2 (Int.toNat x14_4) zQIIIIILIE).2.1 (1:Int) (99:Int) (fun (r44_7:Bool) =>
          bif (!r44_7) then
           k4_1_33 false
          else
           bif (decide ((List.length (List.getD x12_2 (Int.toNat x14_4) zQIIIIILIE).2.2.2.2.2:Int) > (20:Int))) then
            k4_1_33 false
           else
            I144 N (List.getD x12_2 (Int.toNat x14_4) zQIIIIILIE).2.2.1 (0:Int) (List.length (List.getD x12_2 (Int.toNat x14_4) zQIIIIILIE).2.2.2.2.2:Int) (fun (r55_8:Bool) =>
             bif (!r55_8) then
              k4_1_33 false
             else
              I144 N (List.getD x12_2 (Int.toNat x14_4) zQIIIIILIE).2.2.2.2.1 (0:Int) (List.length (List.getD x12_2 (Int.toNat x14_4) zQIIIIILIE).2.2.2.2.2:Int) (fun (r62_9:Bool) =>
               bif (!r62_9) then
                k4_1_33 false
               else
                I144 N (List.getD x12_2 (Int.toNat x14_4) zQIIIIILIE).2.2.2.1 (0:Int) (100000:Int) (fun (r68_10:Bool) =>
                 bif (!r68_10) then
                  k4_1_33 false
                 else
                  I143_j1 N k4_1_33 (I143_l4 N x0_1 x12_2 x13_3 n_5 k4_0_32 k4_1_33) x0_1 x12_2 x13_3 x14_4))))
       else none
      else
       I144 N (List.getD x12_2 (Int.toNat x14_4) zQIIIIILIE).2.1 (1:Int) (99:Int) (fun (r44_11:Bool) =>
        bif (!r44_11) then
         k4_1_33 false
        else
         bif (decide ((List.length (List.getD x12_2 (Int.toNat x14_4) zQIIIIILIE).2.2.2.2.2:Int) > (20:Int))) then
          k4_1_33 false
         else
          I144 N (List.getD x12_2 (Int.toNat x14_4) zQIIIIILIE).2.2.1 (0:Int) (List.length (List.getD x12_2 (Int.toNat x14_4) zQIIIIILIE).2.2.2.2.2:Int) (fun (r55_12:Bool) =>
           bif (!r55_12) then
            k4_1_33 false
           else
            I144 N (List.getD x12_2 (Int.toNat x14_4) zQIIIIILIE).2.2.2.2.1 (0:Int) (List.length (List.getD x12_2 (Int.toNat x14_4) zQIIIIILIE).2.2.2.2.2:Int) (fun (r62_13:Bool) =>
             bif (!r62_13) then
              k4_1_33 false
             else
              I144 N (List.getD x12_2 (Int.toNat x14_4) zQIIIIILIE).2.2.2.1 (0:Int) (100000:Int) (fun (r68_14:Bool) =>
               bif (!r68_14) then
                k4_1_33 false
               else
                I143_j1 N k4_1_33 (I143_l4 N x0_1 x12_2 x13_3 n_5 k4_0_32 k4_1_33) x0_1 x12_2 x13_3 x14_4)))))
   else none
  else
   k4_0_32
noncomputable def I143 (N:Nat) (a0:(List QIIIIILIE)) (kf:Bool→Option Ret):Option Ret:=
 bif (decide ((List.length a0:Int) > (10:Int))) then
  kf false
 else
  I143_l4 N a0 a0 (List.length a0:Int) N (kf true) kf (0:Int)
noncomputable def I79_l9 (N:Nat) (x0_10:(List QIILIE)) (x4_11:QIILIE) (x10_12:(List QIILIE)) (x11_13:Int) (x12_14:Int) (x43_15:(List Int)) (x44_16:Int):Nat→(Option Ret)→(Bool→Option Ret)→Int→Option Ret
 | 0,_,_,_=>none
 | n_18 + 1,k9_0_20,k9_1_21,x45_17 =>
  bif (decide (x45_17 < x44_16)) then
   bif (inB x45_17 (List.length x43_15)) then
    I144 N (List.getD x43_15 (Int.toNat x45_17) (0:Int)) (1:Int) (99:Int) (fun (r51_19:Bool) =>
     bif (!r51_19) then
      k9_1_21 false
     else
      bif (decide (x45_17 > (0:Int))) then
       bif (inB (IntKind.wrap .i64 (x45_17 - (1:Int))) (List.length x4_11.2.2)) then
        bif (decide ((List.getD x43_15 (Int.toNat x45_17) (0:Int))≤(List.getD x4_11.2.2 (Int.toNat (IntKind.wrap .i64 (x45_17 - (1:Int)))) (0:Int)))) then
         k9_1_21 false
        else
         (I79_l9 N x0_10 x4_11 x10_12 x11_13 x12_14 x43_15 x44_16 n_18 k9_0_20 k9_1_21) (IntKind.wrap .i64 (x45_17 + (1:Int)))
       else none
      else
       (I79_l9 N x0_10 x4_11 x10_12 x11_13 x12_14 x43_15 x44_16 n_18 k9_0_20 k9_1_21) (IntKind.wrap .i64 (x45_17 + (1:Int))))
   else none
  else
   k9_0_20
noncomputable def I79_j1 (N:Nat) (k4_1_25:Bool→Option Ret) (rc4_26:Int→Option Ret) (x0_1:(List QIILIE)) (x10_2:(List QIILIE)) (x11_3:Int) (x12_4:Int):Option Ret:=
 I79_l9 N x0_1 (List.getD x10_2 (Int.toNat x12_4) zQIILIE) x10_2 x11_3 x12_4 (List.getD x10_2 (Int.toNat x12_4) zQIILIE).2.2 (List.length (List.getD x10_2 (Int.toNat x12_4) zQIILIE).2.2:Int) N (rc4_26 (IntKind.wrap .i64 (x12_4 + (1:Int)))) k4_1_25 (0:Int)
noncomputable def I79_l4 (N:Nat) (x0_1:(List QIILIE)) (x10_2:(List QIILIE)) (x11_3:Int):Nat→(Option Ret)→(Bool→Option Ret)→Int→Option Ret
 | 0,_,_,_=>none
 | n_5 + 1,k4_0_24,k4_1_25,x12_4 =>
  bif (decide (x12_4 < x11_3)) then
   bif (inB x12_4 (List.length x10_2)) then
    I144 N (List.getD x10_2 (Int.toNat x12_4) zQIILIE).1 (1:Int) (99:Int) (fun (r19_6:Bool) =>
     bif (!r19_6) then
      k4_1_25 false
     else
      bif (decide (x12_4 > (0:Int))) then
       bif (inB (IntKind.wrap .i64 (x12_4 - (1:Int))) (List.length x0_1)) then
        bif (decide ((List.getD x10_2 (Int.toNat x12_4) zQIILIE).1≤(List.getD x0_1 (Int.toNat (IntKind.wrap .i64 (x12_4 - (1:Int)))) zQIILIE).1)) then
         k4_1_25 false
        else
         I144 N (List.getD x10_2 (Int.toNat x12_4) zQIILIE).2.1 (1:Int) (99:Int) (fun (r39_7:Bool) =>
          bif (!r39_7) then
           k4_1_25 false
          else
           I79_j1 N k4_1_25 (I79_l4 N x0_1 x10_2 x11_3 n_5 k4_0_24 k4_1_25) x0_1 x10_2 x11_3 x12_4)
       else none
      else
       I144 N (List.getD x10_2 (Int.toNat x12_4) zQIILIE).2.1 (1:Int) (99:Int) (fun (r39_8:Bool) =>
        bif (!r39_8) then
         k4_1_25 false
        else
         I79_j1 N k4_1_25 (I79_l4 N x0_1 x10_2 x11_3 n_5 k4_0_24 k4_1_25) x0_1 x10_2 x11_3 x12_4))
   else none
  else
   k4_0_24
noncomputable def I79 (N:Nat) (a0:(List QIILIE)) (kf:Bool→Option Ret):Option Ret:=
 bif (decide ((List.length a0:Int) > (10:Int))) then
  kf false
 else
  I79_l4 N a0 a0 (List.length a0:Int) N (kf true) kf (0:Int)
noncomputable def S170_l2 (x0_1:(List Int)) (x1_2:Int) (x7_3:Int):Nat→(Option Ret)→(Int→Option Ret)→Int→Option Ret
 | 0,_,_,_=>none
 | n_5 + 1,k2_0_6,k2_1_7,x8_4 =>
  bif (decide (x8_4 < x7_3)) then
   bif (inB x8_4 (List.length x0_1)) then
    bif (x1_2 == (List.getD x0_1 (Int.toNat x8_4) (0:Int))) then
     k2_1_7 x8_4
    else
     (S170_l2 x0_1 x1_2 x7_3 n_5 k2_0_6 k2_1_7) (IntKind.wrap .i64 (x8_4 + (1:Int)))
   else none
  else
   k2_0_6
noncomputable def S170 (N:Nat) (a0:(List Int)) (a1:Int) (kf:Int→Option Ret):Option Ret:=
 S170_l2 a0 a1 (List.length a0:Int) N (kf (-1:Int)) kf (0:Int)
noncomputable def S82 (N:Nat) (a0:(List Int)) (a1:Int) (kf:Bool→Option Ret):Option Ret:=
 S170 N a0 a1 (fun (r7_1:Int) =>
  kf (decide (r7_1 ≥ (0:Int))))
noncomputable def I19 (N:Nat) (a0:(List QIIIIILIE)) (a1:Int) (a2:Int) (kf:Bool→Option Ret):Option Ret:=
 I40 N a0 a1 (fun (r10_1:Int) =>
  bif (decide (r10_1 ≥ (0:Int))) then
   bif (inB r10_1 (List.length a0)) then
    S82 N (List.getD a0 (Int.toNat r10_1) zQIIIIILIE).2.2.2.2.2 a2 kf
   else none
  else
   kf false)
noncomputable def I77 (N:Nat) (a0:(List QIIIIILIE)) (a1:Int) (a2:Int) (kf:Bool→Option Ret):Option Ret:=
 I40 N a0 a1 (fun (r11_1:Int) =>
  I40 N a0 a2 (fun (r14_2:Int) =>
   I143 N a0 (fun (r16_3:Bool) =>
    bif r16_3 then
     bif (decide (r11_1 ≥ (0:Int))) then
      bif (decide (r14_2 ≥ (0:Int))) then
       bif (r11_1 != r14_2) then
        bif (inB r11_1 (List.length a0)) then
         bif (inB r14_2 (List.length a0)) then
          bif ((List.getD a0 (Int.toNat r11_1) zQIIIIILIE).2.1 != (List.getD a0 (Int.toNat r14_2) zQIIIIILIE).2.1) then
           I19 N a0 a1 a2 (fun (r47_4:Bool) =>
            kf (!r47_4))
          else
           kf false
         else none
        else none
       else
        kf false
      else
       kf false
     else
      kf false
    else
     kf false)))
noncomputable def I17_l10 (N:Nat) (x5_13:(List Int)) (x32_14:(List QIIIIILIE)) (x33_15:Int):Nat→(Option Ret)→(Bool→Option Ret)→Int→Option Ret
 | 0,_,_,_=>none
 | n_17 + 1,k10_0_19,k10_1_20,x34_16 =>
  bif (decide (x34_16 < x33_15)) then
   bif (inB x34_16 (List.length x32_14)) then
    I78 N x5_13 (List.getD x32_14 (Int.toNat x34_16) zQIIIIILIE).1 (fun (r41_18:Int) =>
     bif (r41_18 != (1:Int)) then
      k10_1_20 false
     else
      (I17_l10 N x5_13 x32_14 x33_15 n_17 k10_0_19 k10_1_20) (IntKind.wrap .i64 (x34_16 + (1:Int))))
   else none
  else
   k10_0_19
noncomputable def I17_l3 (N:Nat) (x0_1:(List QIIIIILIE)) (x11_3:(List QIIE)) (x12_4:Int):Nat→((List Int)→Option Ret)→(Bool→Option Ret)→(List Int)→Int→Option Ret
 | 0,_,_,_,_=>none
 | n_6 + 1,k3_0_8,k3_1_9,x5_2,x13_5 =>
  bif (decide (x13_5 < x12_4)) then
   bif (inB x13_5 (List.length x11_3)) then
    I77 N x0_1 (List.getD x11_3 (Int.toNat x13_5) zQIIE).1 (List.getD x11_3 (Int.toNat x13_5) zQIIE).2 (fun (r22_7:Bool) =>
     bif (!r22_7) then
      k3_1_9 false
     else
      bif (decide ((List.length x5_2 + List.length [(List.getD x11_3 (Int.toNat x13_5) zQIIE).1,(List.getD x11_3 (Int.toNat x13_5) zQIIE).2]) * 1≤4398046511104)) then
       (I17_l3 N x0_1 x11_3 x12_4 n_6 k3_0_8 k3_1_9) (x5_2 ++ [(List.getD x11_3 (Int.toNat x13_5) zQIIE).1,(List.getD x11_3 (Int.toNat x13_5) zQIIE).2]) (IntKind.wrap .i64 (x13_5 + (1:Int)))
      else none)
   else none
  else
   k3_0_8 x5_2
noncomputable def I17 (N:Nat) (a0:(List QIIIIILIE)) (a1:(List QIIE)) (kf:Bool→Option Ret):Option Ret:=
 I17_l3 N a0 a1 (List.length a1:Int) N (fun (z5_11:(List Int)) =>
  I17_l10 N z5_11 a0 (List.length a0:Int) N (kf true) kf (0:Int)) kf ([]:(List Int)) (0:Int)
noncomputable def I81 (N:Nat) (a0:QIILIE) (a1:Int) (kf:Bool→Option Ret):Option Ret:=
 kf (a0.1 == a1)
noncomputable def S80_l2 (N:Nat) (x0_1:(List QIILIE)) (x1_2:Int) (x7_3:Int):Nat→(Option Ret)→(Int→Option Ret)→Int→Option Ret
 | 0,_,_,_=>none
 | n_5 + 1,k2_0_7,k2_1_8,x8_4 =>
  bif (decide (x8_4 < x7_3)) then
   bif (inB x8_4 (List.length x0_1)) then
    I81 N (List.getD x0_1 (Int.toNat x8_4) zQIILIE) x1_2 (fun (r16_6:Bool) =>
     bif r16_6 then
      k2_1_8 x8_4
     else
      (S80_l2 N x0_1 x1_2 x7_3 n_5 k2_0_7 k2_1_8) (IntKind.wrap .i64 (x8_4 + (1:Int))))
   else none
  else
   k2_0_7
noncomputable def S80 (N:Nat) (a0:(List QIILIE)) (a1_0:Int) (kf:Int→Option Ret):Option Ret:=
 S80_l2 N a0 a1_0 (List.length a0:Int) N (kf (-1:Int)) kf (0:Int)
noncomputable def I83_l2 (N:Nat) (x0_1:(List QIIIIILIE)) (x4_2:QIILIE) (x14_3:(List Int)) (x15_4:Int):Nat→(Option Ret)→(Bool→Option Ret)→Int→Option Ret
 | 0,_,_,_=>none
 | n_6 + 1,k2_0_9,k2_1_10,x16_5 =>
  bif (decide (x16_5 < x15_4)) then
   bif (inB x16_5 (List.length x14_3)) then
    I40 N x0_1 (List.getD x14_3 (Int.toNat x16_5) (0:Int)) (fun (r22_7:Int) =>
     bif (decide (r22_7 < (0:Int))) then
      k2_1_10 false
     else
      bif (inB r22_7 (List.length x0_1)) then
       bif ((List.getD x0_1 (Int.toNat r22_7) zQIIIIILIE).2.1 == x4_2.2.1) then
        k2_1_10 false
       else
        S82 N x4_2.2.2 (List.getD x14_3 (Int.toNat x16_5) (0:Int)) (fun (r39_8:Bool) =>
         bif r39_8 then
          k2_1_10 false
         else
          (I83_l2 N x0_1 x4_2 x14_3 x15_4 n_6 k2_0_9 k2_1_10) (IntKind.wrap .i64 (x16_5 + (1:Int))))
      else none)
   else none
  else
   k2_0_9
noncomputable def I83 (N:Nat) (a0:(List QIIIIILIE)) (a1:QIILIE) (a2:QIIE) (kf:Bool→Option Ret):Option Ret:=
 I83_l2 N a0 a1 [a2.1,a2.2] (List.length [a2.1,a2.2]:Int) N (kf true) kf (0:Int)
noncomputable def I18_l4 (N:Nat) (x0_2:(List QIIIIILIE)) (x1_3:(List QIILIE)) (x2_4:(List QIIE)) (x3_5:(List Int)) (x22_6:(List Int)) (x23_7:Int):Nat→(Option Ret)→(Bool→Option Ret)→Int→Option Ret
 | 0,_,_,_=>none
 | n_9 + 1,k4_0_13,k4_1_14,x24_8 =>
  bif (decide (x24_8 < x23_7)) then
   bif (inB x24_8 (List.length x22_6)) then
    S80 N x1_3 (List.getD x22_6 (Int.toNat x24_8) (0:Int)) (fun (r31_10:Int) =>
     bif (decide (r31_10 < (0:Int))) then
      k4_1_14 false
     else
      bif (decide ((0:Int)≤(0:Int)) && decide ((0:Int)≤x24_8) && decide (x24_8≤(List.length x3_5:Int))) then
       S82 N (List.drop (Int.toNat (0:Int)) (List.take (Int.toNat x24_8) x3_5)) (List.getD x22_6 (Int.toNat x24_8) (0:Int)) (fun (r39_11:Bool) =>
        bif r39_11 then
         k4_1_14 false
        else
         bif (inB r31_10 (List.length x1_3)) then
          bif (inB x24_8 (List.length x2_4)) then
           I83 N x0_2 (List.getD x1_3 (Int.toNat r31_10) zQIILIE) (List.getD x2_4 (Int.toNat x24_8) zQIIE) (fun (r51_12:Bool) =>
            bif (!r51_12) then
             k4_1_14 false
            else
             (I18_l4 N x0_2 x1_3 x2_4 x3_5 x22_6 x23_7 n_9 k4_0_13 k4_1_14) (IntKind.wrap .i64 (x24_8 + (1:Int))))
          else none
         else none)
      else none)
   else none
  else
   k4_0_13
noncomputable def I18 (N:Nat) (a0:(List QIIIIILIE)) (a1:(List QIILIE)) (a2:(List QIIE)) (a3:(List Int)) (kf:Bool→Option Ret):Option Ret:=
 I79 N a1 (fun (r13_1:Bool) =>
  bif (!r13_1) then
   kf false
  else
   bif ((List.length a3:Int) != (List.length a2:Int)) then
    kf false
   else
    I18_l4 N a0 a1 a2 a3 a3 (List.length a3:Int) N (kf true) kf (0:Int))
noncomputable def I138 (N:Nat) (a0:QIIIE) (kf:Bool→Option Ret):Option Ret:=
 I144 N a0.1 (1:Int) (99:Int) (fun (r5_1:Bool) =>
  bif r5_1 then
   I144 N a0.2.1 (0:Int) (100:Int) (fun (r9_2:Bool) =>
    bif r9_2 then
     I144 N a0.2.2 (0:Int) (100:Int) (fun (r14_3:Bool) =>
      bif r14_3 then
       kf (a0.2.1 != a0.2.2)
      else
       kf false)
    else
     kf false)
  else
   kf false)
noncomputable def I145_l5 (x10_3:(List QIIIIILIE)) (x11_4:Int):Nat→(Int→Option Ret)→Int→Int→Option Ret
 | 0,_,_,_=>none
 | n_6 + 1,k5_0_7,x3_2,x12_5 =>
  bif (decide (x12_5 < x11_4)) then
   bif (inB x12_5 (List.length x10_3)) then
    (I145_l5 x10_3 x11_4 n_6 k5_0_7) (IntKind.wrap .i64 (x3_2 + (List.getD x10_3 (Int.toNat x12_5) zQIIIIILIE).2.2.1)) (IntKind.wrap .i64 (x12_5 + (1:Int)))
   else none
  else
   k5_0_7 x3_2
noncomputable def I145 (N:Nat) (a0:(List QIIIIILIE)) (kf:Int→Option Ret):Option Ret:=
 I143 N a0 (fun (r7_1:Bool) =>
  bif (!r7_1) then
   kf (0:Int)
  else
   I145_l5 a0 (List.length a0:Int) N kf (0:Int) (0:Int))
noncomputable def I39_l6 (N:Nat) (x1_7:QLQIIIIILIELQIILIELQIIELILQIIIELQIIIIEIE) (x62_8:(List QIIIE)) (x63_9:Int):Nat→(Option Ret)→(Bool→Option Ret)→Int→Option Ret
 | 0,_,_,_=>none
 | n_11 + 1,k6_0_13,k6_1_14,x64_10 =>
  bif (decide (x64_10 < x63_9)) then
   bif (inB x64_10 (List.length x62_8)) then
    bif (!((decide (((List.getD x62_8 (Int.toNat x64_10) zQIIIE).1:Int)=(0:Int))) && ((decide (((List.getD x62_8 (Int.toNat x64_10) zQIIIE).2.1:Int)=(0:Int))) && (decide (((List.getD x62_8 (Int.toNat x64_10) zQIIIE).2.2:Int)=(0:Int)))))) then
     I138 N (List.getD x62_8 (Int.toNat x64_10) zQIIIE) (fun (r74_12:Bool) =>
      bif (!r74_12) then
       k6_1_14 false
      else
       bif (inB x64_10 (List.length x1_7.2.2.2.1)) then
        bif ((List.getD x62_8 (Int.toNat x64_10) zQIIIE).1 != (List.getD x1_7.2.2.2.1 (Int.toNat x64_10) (0:Int))) then
         k6_1_14 false
        else
         (I39_l6 N x1_7 x62_8 x63_9 n_11 k6_0_13 k6_1_14) (IntKind.wrap .i64 (x64_10 + (1:Int)))
       else none)
    else
     (I39_l6 N x1_7 x62_8 x63_9 n_11 k6_0_13 k6_1_14) (IntKind.wrap .i64 (x64_10 + (1:Int)))
   else none
  else
   k6_0_13
noncomputable def I39_j1 (N:Nat) (a0:QLQIIIIILIELQIILIELQIIELILQIIIELQIIIIEIE) (kf:Bool→Option Ret):Option Ret:=
 I39_l6 N a0 a0.2.2.2.2.1 (List.length a0.2.2.2.2.1:Int) N (
  I144 N a0.2.2.2.2.2.2 (0:Int) (1000:Int) (fun (r90_17:Bool) =>
   bif r90_17 then
    I145 N a0.1 (fun (r94_18:Int) =>
     kf (r94_18 == a0.2.2.2.2.2.2))
   else
    kf false)) kf (0:Int)
noncomputable def I39 (N:Nat) (a0:QLQIIIIILIELQIILIELQIIELILQIIIELQIIIIEIE) (kf:Bool→Option Ret):Option Ret:=
 I143 N a0.1 (fun (r7_1:Bool) =>
  bif (!r7_1) then
   kf false
  else
   I79 N a0.2.1 (fun (r12_2:Bool) =>
    bif (!r12_2) then
     kf false
    else
     I75 N a0.2.2.2.2.2.1 (fun (r18_3:Bool) =>
      bif (!r18_3) then
       kf false
      else
       bif ((List.length a0.2.2.2.1:Int) != (List.length a0.2.2.1:Int)) then
        kf false
       else
        bif ((List.length a0.2.2.2.2.1:Int) != (List.length a0.2.2.1:Int)) then
         kf false
        else
         I16 N a0 (fun (r40_4:Bool) =>
          bif r40_4 then
           I17 N a0.1 a0.2.2.1 (fun (r46_5:Bool) =>
            bif (!r46_5) then
             kf false
            else
             I18 N a0.1 a0.2.1 a0.2.2.1 a0.2.2.2.1 (fun (r57_6:Bool) =>
              bif (!r57_6) then
               kf false
              else
               I39_j1 N a0 kf))
          else
           I39_j1 N a0 kf))))
noncomputable def I103 (N:Nat) (a0:QLQIIIIILIELQIILIELQIIELILQIIIELQIIIIEIE) (a1:QLQIIIIILIELQIILIELQIIELILQIIIELQIIIIEIE) (a2:Int) (a3:Int) (kf:QLQIIIIILIELQIILIELQIIELILQIIIELQIIIIEIE→Bool→Option Ret):Option Ret:=
 I189 N a1.2.2.2.2.2.1 a2 a3 (fun (r16_1:(List QIIIIE)) (r16_2:Bool) =>
  bif (!r16_2) then
   I70 N a0 (fun (r33_5:QLQIIIIILIELQIILIELQIIELILQIIIELQIIIIEIE) =>
    kf r33_5 false)
  else
   I39 N a0 (fun (r24_3:Bool) =>
    bif (!r24_3) then
     I70 N a0 (fun (r33_5:QLQIIIIILIELQIILIELQIIELILQIIIELQIIIIEIE) =>
      kf r33_5 false)
    else
     I39 N (a1.1,(a1.2.1,(a1.2.2.1,(a1.2.2.2.1,(a1.2.2.2.2.1,(r16_1,a1.2.2.2.2.2.2)))))) (fun (r29_4:Bool) =>
      bif (!r29_4) then
       I70 N a0 (fun (r33_6:QLQIIIIILIELQIILIELQIIELILQIIIELQIIIIEIE) =>
        kf r33_6 false)
      else
       kf (a1.1,(a1.2.1,(a1.2.2.1,(a1.2.2.2.1,(a1.2.2.2.2.1,(r16_1,a1.2.2.2.2.2.2)))))) true)))
noncomputable def I30_l5 (x1_4:Int) (x2_5:Int) (x3_6:QLQIIIIILIELQIILIELQIIELILQIIIELQIIIIEIE) (x6_7:QLQIIIIILIELQIILIELQIIELILQIIIELQIIIIEIE) (x8_8:QLQIIIIILIELQIILIELQIIELILQIIIELQIIIIEIE):Nat→(Int→Option Ret)→Int→Option Ret
 | 0,_,_=>none
 | n_10 + 1,k5_0_11,x9_9 =>
  bif (decide (x9_9 < (List.length x8_8.1:Int))) then
   bif (inB x9_9 (List.length x8_8.1)) then
    bif (decide ((List.getD x8_8.1 (Int.toNat x9_9) zQIIIIILIE).1 < x1_4)) then
     (I30_l5 x1_4 x2_5 x3_6 x6_7 x8_8 n_10 k5_0_11) (IntKind.wrap .i64 (x9_9 + (1:Int)))
    else
     k5_0_11 x9_9
   else none
  else
   k5_0_11 x9_9
noncomputable def I30 (N:Nat) (a0:QLQIIIIILIELQIILIELQIIELILQIIIELQIIIIEIE) (a1:Int) (a2:Int) (kf:QLQIIIIILIELQIILIELQIIELILQIIIELQIIIIEIE→Bool→Option Ret):Option Ret:=
 I70 N a0 (fun (r11_1:QLQIIIIILIELQIILIELQIIELILQIIIELQIIIIEIE) =>
  I40 N a0.1 a1 (fun (r15_2:Int) =>
   bif (decide (r15_2 ≥ (0:Int))) then
    kf r11_1 false
   else
    I16 N a0 (fun (r19_3:Bool) =>
     bif r19_3 then
      kf r11_1 false
     else
      I30_l5 a1 a2 a0 (([]:(List QIIIIILIE)),(([]:(List QIILIE)),(([]:(List QIIE)),(([]:(List Int)),(([]:(List QIIIE)),(([]:(List QIIIIE)),(0:Int))))))) r11_1 N (fun (z9_13:Int) =>
       S135 N r11_1.1 z9_13 [(a1,(a2,((0:Int),((0:Int),((0:Int),([]:(List Int)))))))] (fun (r46_14:(List QIIIIILIE)) =>
        I103 N a0 (r46_14,r11_1.2) (1:Int) a1 kf)) (0:Int))))
noncomputable def I209 (N:Nat) (a0:QIILIE) (a1:Int) (kf:Bool→Option Ret):Option Ret:=
 kf (a0.1 == a1)
noncomputable def S80b_l2 (N:Nat) (x0_1:(List QIILIE)) (x1_2:Int) (x7_3:Int):Nat→(Option Ret)→(Int→Option Ret)→Int→Option Ret
 | 0,_,_,_=>none
 | n_5 + 1,k2_0_7,k2_1_8,x8_4 =>
  bif (decide (x8_4 < x7_3)) then
   bif (inB x8_4 (List.length x0_1)) then
    I209 N (List.getD x0_1 (Int.toNat x8_4) zQIILIE) x1_2 (fun (r16_6:Bool) =>
     bif r16_6 then
      k2_1_8 x8_4
     else
      (S80b_l2 N x0_1 x1_2 x7_3 n_5 k2_0_7 k2_1_8) (IntKind.wrap .i64 (x8_4 + (1:Int))))
   else none
  else
   k2_0_7
noncomputable def S80b (N:Nat) (a0:(List QIILIE)) (a1_0:Int) (kf:Int→Option Ret):Option Ret:=
 S80b_l2 N a0 a1_0 (List.length a0:Int) N (kf (-1:Int)) kf (0:Int)
noncomputable def I130 (N:Nat) (a0:(List QIILIE)) (a1:Int) (kf:Int→Option Ret):Option Ret:=
 S80b N a0 a1 kf
noncomputable def S136 (N:Nat) (a0:(List QIILIE)) (a1:Int) (a2:(List QIILIE)) (kf:(List QIILIE)→Option Ret):Option Ret:=
 bif (decide ((0:Int)≤a1) && (decide (a1≤(List.length a0:Int)) && (Nat.blt 0 (List.length a2) && Nat.ble ((List.length a0 + List.length a2) * Ty.size tQIILIE) 4398046511104))) then
  kf (List.take (Int.toNat a1) a0 ++ a2 ++ List.drop (Int.toNat a1) a0)
 else none
noncomputable def I32_l5 (x1_3:Int) (x2_4:Int) (x3_5:QLQIIIIILIELQIILIELQIIELILQIIIELQIIIIEIE) (x6_6:QLQIIIIILIELQIILIELQIIELILQIIIELQIIIIEIE) (x8_7:QLQIIIIILIELQIILIELQIIELILQIIIELQIIIIEIE):Nat→(Int→Option Ret)→Int→Option Ret
 | 0,_,_=>none
 | n_9 + 1,k5_0_10,x9_8 =>
  bif (decide (x9_8 < (List.length x8_7.2.1:Int))) then
   bif (inB x9_8 (List.length x8_7.2.1)) then
    bif (decide ((List.getD x8_7.2.1 (Int.toNat x9_8) zQIILIE).1 < x1_3)) then
     (I32_l5 x1_3 x2_4 x3_5 x6_6 x8_7 n_9 k5_0_10) (IntKind.wrap .i64 (x9_8 + (1:Int)))
    else
     k5_0_10 x9_8
   else none
  else
   k5_0_10 x9_8
noncomputable def I32 (N:Nat) (a0:QLQIIIIILIELQIILIELQIIELILQIIIELQIIIIEIE) (a1:Int) (a2:Int) (kf:QLQIIIIILIELQIILIELQIIELILQIIIELQIIIIEIE→Bool→Option Ret):Option Ret:=
 I70 N a0 (fun (r11_1:QLQIIIIILIELQIILIELQIIELILQIIIELQIIIIEIE) =>
  I130 N a0.2.1 a1 (fun (r15_2:Int) =>
   bif (decide (r15_2 ≥ (0:Int))) then
    kf r11_1 false
   else
    I32_l5 a1 a2 a0 (([]:(List QIIIIILIE)),(([]:(List QIILIE)),(([]:(List QIIE)),(([]:(List Int)),(([]:(List QIIIE)),(([]:(List QIIIIE)),(0:Int))))))) r11_1 N (fun (z9_12:Int) =>
     S136 N r11_1.2.1 z9_12 [(a1,(a2,([]:(List Int))))] (fun (r42_13:(List QIILIE)) =>
      I103 N a0 (r11_1.1,(r42_13,r11_1.2.2)) (2:Int) a1 kf)) (0:Int)))
noncomputable def S229 (N:Nat) (a0:(List QIIIIILIE)) (kf:(List QIIIIILIE)→Option Ret):Option Ret:=
 bif (List.isEmpty a0) then
  both (kf ([]:(List QIIIIILIE))) (
   bif (decide ((List.length ([]:(List QIIIIILIE)) + List.length a0) * 6≤4398046511104)) then
    kf (([]:(List QIIIIILIE)) ++ a0)
   else none)
 else
  bif (decide ((List.length ([]:(List QIIIIILIE)) + List.length a0) * 6≤4398046511104)) then
   kf (([]:(List QIIIIILIE)) ++ a0)
  else none
noncomputable def M245_j1 (kf:Int→Option Ret) (y0_5:Int) (y2_6:Int):Option Ret:=
 bif (inB (IntKind.wrap .u8 y0_5) (ByteArray.size s_h00010202030303030404040404040404050505050505050505050505050505050606060606060606)) then
  kf (IntKind.wrap .i64 (y2_6 + (IntKind.wrap .i64 (bt s_h00010202030303030404040404040404050505050505050505050505050505050606060606060606 (IntKind.wrap .u8 y0_5)))))
 else none
noncomputable def M245_j2 (kf:Int→Option Ret) (y0_3:Int) (y2_4:Int):Option Ret:=
 bif (decide (y0_3 ≥ (256:Int))) then
  bif (decide (0≤(8:Int))) then
   M245_j1 kf (Int.fdiv y0_3 (2 ^ (min (Int.toNat (8:Int)) (IntKind.bits .u64)))) (IntKind.wrap .i64 (y2_4 + (8:Int)))
  else none
 else
  M245_j1 kf y0_3 y2_4
noncomputable def M245_j3 (kf:Int→Option Ret) (y0_1:Int) (y2_2:Int):Option Ret:=
 bif (decide (y0_1 ≥ (65536:Int))) then
  bif (decide (0≤(16:Int))) then
   M245_j2 kf (Int.fdiv y0_1 (2 ^ (min (Int.toNat (16:Int)) (IntKind.bits .u64)))) (IntKind.wrap .i64 (y2_2 + (16:Int)))
  else none
 else
  M245_j2 kf y0_1 y2_2
noncomputable def M245 (N:Nat) (a0:Int) (kf:Int→Option Ret):Option Ret:=
 bif (decide (a0 ≥ (4294967296:Int))) then
  bif (decide (0≤(32:Int))) then
   M245_j3 kf (Int.fdiv a0 (2 ^ (min (Int.toNat (32:Int)) (IntKind.bits .u64)))) (32:Int)
  else none
 else
  M245_j3 kf a0 (0:Int)
noncomputable def M211 (N:Nat) (a0:Int) (kf:Int→Option Ret):Option Ret:=
 M245 N a0 kf
noncomputable def C253 (N:Nat) (a0:Int) (kf:Bool→Option Ret):Option Ret:=
 kf (a0 != a0)
noncomputable def C233 (N:Nat) (a0:Int) (a1:Int) (kf:Int→Option Ret):Option Ret:=
 C253 N a0 (fun (r8_1:Bool) =>
  C253 N a1 (fun (r10_2:Bool) =>
   bif r8_1 then
    bif r10_2 then
     kf (0:Int)
    else
     kf (-1:Int)
   else
    bif r10_2 then
     kf (1:Int)
    else
     bif (decide (a0 < a1)) then
      kf (-1:Int)
     else
      bif (decide (a0 > a1)) then
       kf (1:Int)
      else
       kf (0:Int)))
noncomputable def C232_l3 (x3_1:Int) (x6_2:(List Int)) (x7_3:Int):Nat→(Option Ret)→(Int→Option Ret)→Int→Option Ret
 | 0,_,_,_=>none
 | n_5 + 1,k3_0_6,k3_1_7,x8_4 =>
  bif (decide (x8_4 < x7_3)) then
   bif (inB x8_4 (List.length x6_2)) then
    bif ((List.getD x6_2 (Int.toNat x8_4) (0:Int)) != x3_1) then
     k3_1_7 (List.getD x6_2 (Int.toNat x8_4) (0:Int))
    else
     (C232_l3 x3_1 x6_2 x7_3 n_5 k3_0_6 k3_1_7) (IntKind.wrap .i64 (x8_4 + (1:Int)))
   else none
  else
   k3_0_6
noncomputable def C232 (N:Nat) (a0:(List Int)) (kf:Int→Option Ret):Option Ret:=
 C232_l3 (0:Int) a0 (List.length a0:Int) N (kf (0:Int)) kf (0:Int)
noncomputable def I231 (N:Nat) (a0:QIIIIILIE) (a1:QIIIIILIE) (kf:Int→Option Ret):Option Ret:=
 C233 N a1.2.2.1 a0.2.2.1 (fun (r9_1:Int) =>
  C233 N a1.2.2.2.1 a0.2.2.2.1 (fun (r14_2:Int) =>
   C233 N a0.1 a1.1 (fun (r19_3:Int) =>
    C232 N [r9_1,r14_2,r19_3] kf)))
noncomputable def S263_l4 (N:Nat) (x1_7:Int) (x2_8:Int) (x8_9:Int):Nat→((List QIIIIILIE)→Option Ret)→(List QIIIIILIE)→Int→Option Ret
 | 0,_,_,_=>none
 | n_11 + 1,k4_0_15,x0_6,x9_10 =>
  bif (decide (x9_10 > x1_7)) then
   bif (inB x9_10 (List.length x0_6)) then
    bif (inB (IntKind.wrap .i64 (x9_10 - (1:Int))) (List.length x0_6)) then
     I231 N (List.getD x0_6 (Int.toNat x9_10) zQIIIIILIE) (List.getD x0_6 (Int.toNat (IntKind.wrap .i64 (x9_10 - (1:Int)))) zQIIIIILIE) (fun (r32_12:Int) =>
      bif (decide (r32_12 < (0:Int))) then
       bif (inB (IntKind.wrap .i64 (x9_10 - (1:Int))) (List.length x0_6)) then
        bif (inB x9_10 (List.length x0_6)) then
         bif (inB x9_10 (List.length x0_6)) then
          share (List.set x0_6 (Int.toNat x9_10) (List.getD x0_6 (Int.toNat (IntKind.wrap .i64 (x9_10 - (1:Int)))) zQIIIIILIE)) (fun (w0_13:(List QIIIIILIE)) =>
           bif (inB (IntKind.wrap .i64 (x9_10 - (1:Int))) (List.length w0_13)) then
            share (List.set w0_13 (Int.toNat (IntKind.wrap .i64 (x9_10 - (1:Int)))) (List.getD x0_6 (Int.toNat x9_10) zQIIIIILIE)) (fun (w0_14:(List QIIIIILIE)) =>
             (S263_l4 N x1_7 x2_8 x8_9 n_11 k4_0_15) w0_14 (IntKind.wrap .i64 (x9_10 - (1:Int))))
           else none)
         else none
        else none
       else none
      else
       k4_0_15 x0_6)
    else none
   else none
  else
   k4_0_15 x0_6
noncomputable def S263_l1 (N:Nat) (x1_2:Int) (x2_3:Int):Nat→((List QIIIIILIE)→Option Ret)→(List QIIIIILIE)→Int→Option Ret
 | 0,_,_,_=>none
 | n_5 + 1,k1_0_18,x0_1,x8_4 =>
  bif (decide (x8_4 < x2_3)) then
   S263_l4 N x1_2 x2_3 x8_4 N (fun (z0_17:(List QIIIIILIE)) =>
    (S263_l1 N x1_2 x2_3 n_5 k1_0_18) z0_17 (IntKind.wrap .i64 (x8_4 + (1:Int)))) x0_1 x8_4
  else
   k1_0_18 x0_1
noncomputable def S263 (N:Nat) (a0:(List QIIIIILIE)) (a1:Int) (a2:Int) (kf:(List QIIIIILIE)→Option Ret):Option Ret:=
 S263_l1 N a1 a2 N kf a0 (IntKind.wrap .i64 (a1 + (1:Int)))
noncomputable def S252_l2 (N:Nat) (x0_1:(List QIIIIILIE)) (x1_2:Int) (x2_3:Int) (x3_4:Int) (x10_5:Bool) (x11_6:Bool):Nat→((List QIIIIILIE)→Option Ret)→Option Ret
 | 0,_=>none
 | n_7 + 1,k2_0_9 =>
  bif (decide ((IntKind.wrap .i64 (x2_3 - x1_2))≤(12:Int))) then
   S263 N x0_1 x1_2 x2_3 k2_0_9
  else
   bif (x3_4 == (0:Int)) then
    none
   else
    bif (!x10_5) then
     none
    else none
noncomputable def S252 (N:Nat) (a0:(List QIIIIILIE)) (a1:Int) (a2:Int) (a3:Int) (kf:(List QIIIIILIE)→Option Ret):Option Ret:=
 S252_l2 N a0 a1 a2 a3 true true N kf
noncomputable def S230 (N:Nat) (a0:(List QIIIIILIE)) (kf:(List QIIIIILIE)→Option Ret):Option Ret:=
 M211 N (IntKind.wrap .u64 (List.length a0:Int)) (fun (r11_1:Int) =>
  S252 N a0 (0:Int) (List.length a0:Int) r11_1 kf)
noncomputable def I187_l7 (x16_5:(List QIIIIILIE)) (x17_6:Int):Nat→((List Int)→Option Ret)→(List Int)→Int→Option Ret
 | 0,_,_,_=>none
 | n_8 + 1,k7_0_9,x3_4,x18_7 =>
  bif (decide (x18_7 < x17_6)) then
   bif (inB x18_7 (List.length x16_5)) then
    bif (decide ((List.length x3_4 + List.length [(List.getD x16_5 (Int.toNat x18_7) zQIIIIILIE).1]) * 1≤4398046511104)) then
     (I187_l7 x16_5 x17_6 n_8 k7_0_9) (x3_4 ++ [(List.getD x16_5 (Int.toNat x18_7) zQIIIIILIE).1]) (IntKind.wrap .i64 (x18_7 + (1:Int)))
    else none
   else none
  else
   k7_0_9 x3_4
noncomputable def I187 (N:Nat) (a0:(List QIIIIILIE)) (kf:(List Int)→Option Ret):Option Ret:=
 I143 N a0 (fun (r9_1:Bool) =>
  bif (!r9_1) then
   kf ([]:(List Int))
  else
   S229 N a0 (fun (r13_2:(List QIIIIILIE)) =>
    S230 N r13_2 (fun (z4_3:(List QIIIIILIE)) =>
     I187_l7 z4_3 (List.length z4_3:Int) N kf ([]:(List Int)) (0:Int))))
noncomputable def S251 (N:Nat) (a0:(List Int)) (a1:Int) (kf:(List Int)→Option Ret):Option Ret:=
 bif (List.isEmpty a0 && (decide ((0:Int)≤a1) && decide (a1≤(549755813888:Int)))) then
  kf ([]:List Int)
 else none
noncomputable def S227_l11 (x25_12:(List (List Int))) (x26_13:Int):Nat→((List Int)→Option Ret)→(List Int)→Int→Option Ret
 | 0,_,_,_=>none
 | n_15 + 1,k11_0_16,x6_11,x27_14 =>
  bif (decide (x27_14 < x26_13)) then
   bif (inB x27_14 (List.length x25_12)) then
    bif (decide ((List.length x6_11 + List.length (List.getD x25_12 (Int.toNat x27_14) ([]:(List Int)))) * 1≤4398046511104)) then
     (S227_l11 x25_12 x26_13 n_15 k11_0_16) (x6_11 ++ (List.getD x25_12 (Int.toNat x27_14) ([]:(List Int)))) (IntKind.wrap .i64 (x27_14 + (1:Int)))
    else none
   else none
  else
   k11_0_16 x6_11
noncomputable def S227_l3 (x0_1:(List (List Int))) (x9_3:(List (List Int))) (x10_4:Int):Nat→(Int→Option Ret)→Int→Int→Option Ret
 | 0,_,_,_=>none
 | n_6 + 1,k3_0_7,x3_2,x11_5 =>
  bif (decide (x11_5 < x10_4)) then
   bif (inB x11_5 (List.length x9_3)) then
    bif (decide ((IntKind.wrap .i64 (x3_2 + (List.length (List.getD x9_3 (Int.toNat x11_5) ([]:(List Int))):Int))) < (0:Int))) then
     none
    else
     (S227_l3 x0_1 x9_3 x10_4 n_6 k3_0_7) (IntKind.wrap .i64 (x3_2 + (List.length (List.getD x9_3 (Int.toNat x11_5) ([]:(List Int))):Int))) (IntKind.wrap .i64 (x11_5 + (1:Int)))
   else none
  else
   k3_0_7 x3_2
noncomputable def S227 (N:Nat) (a0:(List (List Int))) (kf:(List Int)→Option Ret):Option Ret:=
 S227_l3 a0 a0 (List.length a0:Int) N (fun (z3_9:Int) =>
  S251 N ([]:(List Int)) z3_9 (fun (r24_10:(List Int)) =>
   S227_l11 a0 (List.length a0:Int) N kf r24_10 (0:Int))) (0:Int) (0:Int)
noncomputable def I228 (N:Nat) (a0:(List QIIIIILIE)) (a1:Int) (a2:Int) (kf:QIIE→Option Ret):Option Ret:=
 I40 N a0 a1 (fun (r14_1:Int) =>
  I40 N a0 a2 (fun (r17_2:Int) =>
   I143 N a0 (fun (r19_3:Bool) =>
    bif (!r19_3) then
     kf ((0:Int),(0:Int))
    else
     bif (decide (r14_1 < (0:Int))) then
      kf ((0:Int),(0:Int))
     else
      bif (decide (r17_2 < (0:Int))) then
       kf ((0:Int),(0:Int))
      else
       bif (r14_1 == r17_2) then
        kf ((0:Int),(0:Int))
       else
        bif (inB r14_1 (List.length a0)) then
         bif (inB r17_2 (List.length a0)) then
          I187 N a0 (fun (r46_4:(List Int)) =>
           bif (decide ((List.getD a0 (Int.toNat r14_1) zQIIIIILIE).2.2.2.2.1 < (List.getD a0 (Int.toNat r17_2) zQIIIIILIE).2.2.2.2.1)) then
            kf (a1,a2)
           else
            bif ((List.getD a0 (Int.toNat r14_1) zQIIIIILIE).2.2.2.2.1 == (List.getD a0 (Int.toNat r17_2) zQIIIIILIE).2.2.2.2.1) then
             S170 N r46_4 a1 (fun (r57_5:Int) =>
              S170 N r46_4 a2 (fun (r60_6:Int) =>
               bif (decide (r57_5 < r60_6)) then
                kf (a1,a2)
               else
                kf (a2,a1)))
            else
             kf (a2,a1))
         else none
        else none)))
noncomputable def I186_l4 (N:Nat) (self:(List QIIIIILIE)→(List Int)→((List QIIE)→Bool→Option Ret)→Option Ret) (x0_1:(List QIIIIILIE)) (x1_2:(List Int)):Nat→(Option Ret)→((List QIIE)→Bool→Option Ret)→Int→Option Ret
 | 0,_,_,_=>none
 | n_4 + 1,k4_0_10,k4_1_11,x6_3 =>
  bif (decide (x6_3 < (List.length x1_2:Int))) then
   bif (inB (0:Int) (List.length x1_2)) then
    bif (inB x6_3 (List.length x1_2)) then
     I77 N x0_1 (List.getD x1_2 (Int.toNat (0:Int)) (0:Int)) (List.getD x1_2 (Int.toNat x6_3) (0:Int)) (fun (r27_5:Bool) =>
      bif (!r27_5) then
       (I186_l4 N self x0_1 x1_2 n_4 k4_0_10 k4_1_11) (IntKind.wrap .i64 (x6_3 + (1:Int)))
      else
       bif (decide ((0:Int)≤(1:Int)) && decide ((1:Int)≤x6_3) && decide (x6_3≤(List.length x1_2:Int))) then
        bif (decide ((0:Int)≤(IntKind.wrap .i64 (x6_3 + (1:Int)))) && decide ((IntKind.wrap .i64 (x6_3 + (1:Int)))≤(List.length x1_2:Int)) && decide ((List.length x1_2:Int)≤(List.length x1_2:Int))) then
         S227 N [(List.drop (Int.toNat (1:Int)) (List.take (Int.toNat x6_3) x1_2)),(List.drop (Int.toNat (IntKind.wrap .i64 (x6_3 + (1:Int)))) (List.take (Int.toNat (List.length x1_2:Int)) x1_2))] (fun (r39_6:(List Int)) =>
          self x0_1 r39_6 (fun (r40_7:(List QIIE)) (r40_8:Bool) =>
           bif r40_8 then
            bif (inB (0:Int) (List.length x1_2)) then
             bif (inB x6_3 (List.length x1_2)) then
              I228 N x0_1 (List.getD x1_2 (Int.toNat (0:Int)) (0:Int)) (List.getD x1_2 (Int.toNat x6_3) (0:Int)) (fun (r52_9:QIIE) =>
               bif (decide ((List.length [r52_9] + List.length r40_7) * 2≤4398046511104)) then
                k4_1_11 ([r52_9] ++ r40_7) true
               else none)
             else none
            else none
           else
            (I186_l4 N self x0_1 x1_2 n_4 k4_0_10 k4_1_11) (IntKind.wrap .i64 (x6_3 + (1:Int)))))
        else none
       else none)
    else none
   else none
  else
   k4_0_10
noncomputable def I186_b (self:(List QIIIIILIE)→(List Int)→((List QIIE)→Bool→Option Ret)→Option Ret) (N:Nat) (a0:(List QIIIIILIE)) (a1:(List Int)) (kf:(List QIIE)→Bool→Option Ret):Option Ret:=
 bif ((List.length a1:Int) == (0:Int)) then
  kf ([]:(List QIIE)) true
 else
  I186_l4 N self a0 a1 N (kf ([]:(List QIIE)) false) kf (1:Int)
noncomputable def I186:Nat→(List QIIIIILIE)→(List Int)→((List QIIE)→Bool→Option Ret)→Option Ret
 | 0,_,_,_=>none
 | N + 1,a0,a1,kf=>I186_b (I186 N) N a0 a1 kf
noncomputable def I101 (N:Nat) (a0:(List QIIIIILIE)) (kf:(List QIIE)→Bool→Option Ret):Option Ret:=
 I143 N a0 (fun (r5_1:Bool) =>
  bif (!r5_1) then
   kf ([]:(List QIIE)) false
  else
   bif ((Int.tmod (List.length a0:Int) (2:Int)) == (1:Int)) then
    kf ([]:(List QIIE)) false
   else
    I187 N a0 (fun (r16_2:(List Int)) =>
     I186 N a0 r16_2 kf))
noncomputable def I188_l4 (N:Nat) (self:(List QIIIIILIE)→(List QIILIE)→(List QIIE)→(List Int)→((List Int)→Bool→Option Ret)→Option Ret) (x0_1:(List QIIIIILIE)) (x1_2:(List QIILIE)) (x2_3:(List QIIE)) (x3_4:(List Int)) (x18_5:(List QIILIE)) (x19_6:Int):Nat→(Option Ret)→((List Int)→Bool→Option Ret)→Int→Option Ret
 | 0,_,_,_=>none
 | n_8 + 1,k4_0_14,k4_1_15,x20_7 =>
  bif (decide (x20_7 < x19_6)) then
   bif (inB x20_7 (List.length x18_5)) then
    S82 N x3_4 (List.getD x18_5 (Int.toNat x20_7) zQIILIE).1 (fun (r27_9:Bool) =>
     bif r27_9 then
      (I188_l4 N self x0_1 x1_2 x2_3 x3_4 x18_5 x19_6 n_8 k4_0_14 k4_1_15) (IntKind.wrap .i64 (x20_7 + (1:Int)))
     else
      bif (inB (0:Int) (List.length x2_3)) then
       I83 N x0_1 (List.getD x18_5 (Int.toNat x20_7) zQIILIE) (List.getD x2_3 (Int.toNat (0:Int)) zQIIE) (fun (r34_10:Bool) =>
        bif (!r34_10) then
         (I188_l4 N self x0_1 x1_2 x2_3 x3_4 x18_5 x19_6 n_8 k4_0_14 k4_1_15) (IntKind.wrap .i64 (x20_7 + (1:Int)))
        else
         bif (decide ((0:Int)≤(1:Int)) && decide ((1:Int)≤(List.length x2_3:Int)) && decide ((List.length x2_3:Int)≤(List.length x2_3:Int))) then
          S166 N x3_4 (fun (r43_11:(List Int)) =>
           bif (decide ((List.length r43_11 + List.length [(List.getD x18_5 (Int.toNat x20_7) zQIILIE).1]) * 1≤4398046511104)) then
            self x0_1 x1_2 (List.drop (Int.toNat (1:Int)) (List.take (Int.toNat (List.length x2_3:Int)) x2_3)) (r43_11 ++ [(List.getD x18_5 (Int.toNat x20_7) zQIILIE).1]) (fun (r48_12:(List Int)) (r48_13:Bool) =>
             bif r48_13 then
              bif (decide ((List.length [(List.getD x18_5 (Int.toNat x20_7) zQIILIE).1] + List.length r48_12) * 1≤4398046511104)) then
               k4_1_15 ([(List.getD x18_5 (Int.toNat x20_7) zQIILIE).1] ++ r48_12) true
              else none
             else
              (I188_l4 N self x0_1 x1_2 x2_3 x3_4 x18_5 x19_6 n_8 k4_0_14 k4_1_15) (IntKind.wrap .i64 (x20_7 + (1:Int))))
           else none)
         else none)
      else none)
   else none
  else
   k4_0_14
noncomputable def I188_b (self:(List QIIIIILIE)→(List QIILIE)→(List QIIE)→(List Int)→((List Int)→Bool→Option Ret)→Option Ret) (N:Nat) (a0:(List QIIIIILIE)) (a1:(List QIILIE)) (a2:(List QIIE)) (a3:(List Int)) (kf:(List Int)→Bool→Option Ret):Option Ret:=
 bif ((List.length a2:Int) == (0:Int)) then
  kf ([]:(List Int)) true
 else
  I188_l4 N self a0 a1 a2 a3 a1 (List.length a1:Int) N (kf ([]:(List Int)) false) kf (0:Int)
noncomputable def I188:Nat→(List QIIIIILIE)→(List QIILIE)→(List QIIE)→(List Int)→((List Int)→Bool→Option Ret)→Option Ret
 | 0,_,_,_,_,_=>none
 | N + 1,a0,a1,a2,a3,kf=>I188_b (I188 N) N a0 a1 a2 a3 kf
noncomputable def I102 (N:Nat) (a0:(List QIIIIILIE)) (a1:(List QIILIE)) (a2:(List QIIE)) (kf:(List Int)→Bool→Option Ret):Option Ret:=
 I79 N a1 (fun (r9_1:Bool) =>
  bif (!r9_1) then
   kf ([]:(List Int)) false
  else
   I143 N a0 (fun (r13_2:Bool) =>
    bif (!r13_2) then
     kf ([]:(List Int)) false
    else
     bif (decide ((List.length a2:Int) > (List.length a1:Int))) then
      kf ([]:(List Int)) false
     else
      I188 N a0 a1 a2 ([]:(List Int)) kf))
noncomputable def I23 (N:Nat) (a0:QLQIIIIILIELQIILIELQIIELILQIIIELQIIIIEIE) (kf:QLQIIIIILIELQIILIELQIIELILQIIIELQIIIIEIE→Bool→Option Ret):Option Ret:=
 I70 N a0 (fun (r10_1:QLQIIIIILIELQIILIELQIIELILQIIIELQIIIIEIE) =>
  I39 N a0 (fun (r12_2:Bool) =>
   bif (!r12_2) then
    kf r10_1 false
   else
    I16 N a0 (fun (r16_3:Bool) =>
     bif r16_3 then
      kf r10_1 false
     else
      bif ((List.length a0.1:Int) == (0:Int)) then
       kf r10_1 false
      else
       I101 N a0.1 (fun (r28_4:(List QIIE)) (r28_5:Bool) =>
        I102 N a0.1 a0.2.1 r28_4 (fun (r37_6:(List Int)) (r37_7:Bool) =>
         bif (!r28_5) then
          kf r10_1 false
         else
          bif (!r37_7) then
           kf r10_1 false
          else
           bif (decide ((List.length r28_4:Int)=(List.length r28_4:Int)) && decide ((0:Int)≤(List.length r28_4:Int)) && decide ((List.length r28_4:Int)≤1099511627776)) then
            I103 N a0 (r10_1.1,(r10_1.2.1,(r28_4,(r37_6,((List.replicate (Int.toNat (List.length r28_4:Int)) ((0:Int),((0:Int),(0:Int)))),r10_1.2.2.2.2.2))))) (3:Int) (0:Int) kf
           else none)))))
noncomputable def I35 (N:Nat) (a0:QLQIIIIILIELQIILIELQIIELILQIIIELQIIIIEIE) (a1:Int) (a2:Int) (a3:Int) (kf:QLQIIIIILIELQIILIELQIIELILQIIIELQIIIIEIE→Bool→Option Ret):Option Ret:=
 I70 N a0 (fun (r13_1:QLQIIIIILIELQIILIELQIIELILQIIIELQIIIIEIE) =>
  I39 N a0 (fun (r15_2:Bool) =>
   bif (!r15_2) then
    kf r13_1 false
   else
    bif (decide (a1 < (0:Int))) then
     kf r13_1 false
    else
     bif (decide (a1 ≥ (List.length a0.2.2.1:Int))) then
      kf r13_1 false
     else
      bif (inB a1 (List.length a0.2.2.2.2.1)) then
       bif (!((decide (((List.getD a0.2.2.2.2.1 (Int.toNat a1) zQIIIE).1:Int)=(0:Int))) && ((decide (((List.getD a0.2.2.2.2.1 (Int.toNat a1) zQIIIE).2.1:Int)=(0:Int))) && (decide (((List.getD a0.2.2.2.2.1 (Int.toNat a1) zQIIIE).2.2:Int)=(0:Int)))))) then
        kf r13_1 false
       else
        bif (inB a1 (List.length a0.2.2.2.1)) then
         I138 N ((List.getD a0.2.2.2.1 (Int.toNat a1) (0:Int)),(a2,a3)) (fun (r47_3:Bool) =>
          bif (!r47_3) then
           kf r13_1 false
          else
           bif (inB a1 (List.length r13_1.2.2.2.2.1)) then
            I103 N a0 (r13_1.1,(r13_1.2.1,(r13_1.2.2.1,(r13_1.2.2.2.1,((List.set r13_1.2.2.2.2.1 (Int.toNat a1) ((List.getD a0.2.2.2.1 (Int.toNat a1) (0:Int)),(a2,a3))),r13_1.2.2.2.2.2))))) (4:Int) (List.getD a0.2.2.2.1 (Int.toNat a1) (0:Int)) kf
           else none)
        else none
      else none))
noncomputable def I41_l3 (x8_2:(List QIIIE)) (x9_3:Int):Nat→((List Int)→Option Ret)→(List Int)→Int→Option Ret
 | 0,_,_,_=>none
 | n_5 + 1,k3_0_7,x3_1,x10_4 =>
  bif (decide (x10_4 < x9_3)) then
   bif (inB x10_4 (List.length x8_2)) then
    bif ((decide (((List.getD x8_2 (Int.toNat x10_4) zQIIIE).1:Int)=(0:Int))) && ((decide (((List.getD x8_2 (Int.toNat x10_4) zQIIIE).2.1:Int)=(0:Int))) && (decide (((List.getD x8_2 (Int.toNat x10_4) zQIIIE).2.2:Int)=(0:Int))))) then
     bif (decide ((List.length x3_1 + List.length [x10_4]) * 1≤4398046511104)) then
      (I41_l3 x8_2 x9_3 n_5 k3_0_7) (x3_1 ++ [x10_4]) (IntKind.wrap .i64 (x10_4 + (1:Int)))
     else none
    else
     (I41_l3 x8_2 x9_3 n_5 k3_0_7) x3_1 (IntKind.wrap .i64 (x10_4 + (1:Int)))
   else none
  else
   k3_0_7 x3_1
noncomputable def I41 (N:Nat) (a0:QLQIIIIILIELQIILIELQIIELILQIIIELQIIIIEIE) (kf:(List Int)→Option Ret):Option Ret:=
 I41_l3 a0.2.2.2.2.1 (List.length a0.2.2.2.2.1:Int) N kf ([]:(List Int)) (0:Int)
noncomputable def I205_l4 (N:Nat) (x0_1:(List QIIIE)) (x8_2:(List QIIIE)) (x9_3:Int):Nat→(Option Ret)→(Bool→Option Ret)→Int→Option Ret
 | 0,_,_,_=>none
 | n_5 + 1,k4_0_7,k4_1_8,x10_4 =>
  bif (decide (x10_4 < x9_3)) then
   bif (inB x10_4 (List.length x8_2)) then
    I138 N (List.getD x8_2 (Int.toNat x10_4) zQIIIE) (fun (r16_6:Bool) =>
     bif (!r16_6) then
      k4_1_8 false
     else
      bif (decide (x10_4 > (0:Int))) then
       bif (inB (IntKind.wrap .i64 (x10_4 - (1:Int))) (List.length x0_1)) then
        bif (decide ((List.getD x8_2 (Int.toNat x10_4) zQIIIE).1≤(List.getD x0_1 (Int.toNat (IntKind.wrap .i64 (x10_4 - (1:Int)))) zQIIIE).1)) then
         k4_1_8 false
        else
         (I205_l4 N x0_1 x8_2 x9_3 n_5 k4_0_7 k4_1_8) (IntKind.wrap .i64 (x10_4 + (1:Int)))
       else none
      else
       (I205_l4 N x0_1 x8_2 x9_3 n_5 k4_0_7 k4_1_8) (IntKind.wrap .i64 (x10_4 + (1:Int))))
   else none
  else
   k4_0_7
noncomputable def I205 (N:Nat) (a0:(List QIIIE)) (kf:Bool→Option Ret):Option Ret:=
 bif (decide ((List.length a0:Int) > (9:Int))) then
  kf false
 else
  I205_l4 N a0 a0 (List.length a0:Int) N (kf true) kf (0:Int)
noncomputable def I208 (N:Nat) (a0:QIIIE) (kf:Int→Option Ret):Option Ret:=
 bif (decide (a0.2.1 > a0.2.2)) then
  kf (1:Int)
 else
  kf (2:Int)
noncomputable def I206_l5 (N:Nat) (x1_2:Int) (x12_4:(List QIIIE)) (x13_5:Int):Nat→(Int→Option Ret)→Int→Int→Option Ret
 | 0,_,_,_=>none
 | n_7 + 1,k5_0_10,x5_3,x14_6 =>
  bif (decide (x14_6 < x13_5)) then
   bif (inB x14_6 (List.length x12_4)) then
    I208 N (List.getD x12_4 (Int.toNat x14_6) zQIIIE) (fun (r19_8:Int) =>
     bif (r19_8 == x1_2) then
      (I206_l5 N x1_2 x12_4 x13_5 n_7 k5_0_10) (IntKind.wrap .i64 (x5_3 + (1:Int))) (IntKind.wrap .i64 (x14_6 + (1:Int)))
     else
      (I206_l5 N x1_2 x12_4 x13_5 n_7 k5_0_10) x5_3 (IntKind.wrap .i64 (x14_6 + (1:Int))))
   else none
  else
   k5_0_10 x5_3
noncomputable def I206 (N:Nat) (a0:(List QIIIE)) (a1:Int) (kf:Int→Option Ret):Option Ret:=
 I205 N a0 (fun (r9_1:Bool) =>
  bif (!r9_1) then
   kf (0:Int)
  else
   I206_l5 N a1 a0 (List.length a0:Int) N kf (0:Int) (0:Int))
noncomputable def I207_l5 (x1_2:Int) (x12_4:(List QIIIE)) (x13_5:Int):Nat→(Int→Option Ret)→Int→Int→Option Ret
 | 0,_,_,_=>none
 | n_7 + 1,k5_0_9,x5_3,x14_6 =>
  bif (decide (x14_6 < x13_5)) then
   bif (inB x14_6 (List.length x12_4)) then
    bif (x1_2 == (1:Int)) then
     (I207_l5 x1_2 x12_4 x13_5 n_7 k5_0_9) (IntKind.wrap .i64 (x5_3 + (List.getD x12_4 (Int.toNat x14_6) zQIIIE).2.1)) (IntKind.wrap .i64 (x14_6 + (1:Int)))
    else
     bif (x1_2 == (2:Int)) then
      (I207_l5 x1_2 x12_4 x13_5 n_7 k5_0_9) (IntKind.wrap .i64 (x5_3 + (List.getD x12_4 (Int.toNat x14_6) zQIIIE).2.2)) (IntKind.wrap .i64 (x14_6 + (1:Int)))
     else
      (I207_l5 x1_2 x12_4 x13_5 n_7 k5_0_9) x5_3 (IntKind.wrap .i64 (x14_6 + (1:Int)))
   else none
  else
   k5_0_9 x5_3
noncomputable def I207 (N:Nat) (a0:(List QIIIE)) (a1:Int) (kf:Int→Option Ret):Option Ret:=
 I205 N a0 (fun (r9_1:Bool) =>
  bif (!r9_1) then
   kf (0:Int)
  else
   I207_l5 a1 a0 (List.length a0:Int) N kf (0:Int) (0:Int))
noncomputable def I129_j1 (N:Nat) (a0:(List QIIIE)) (kf:Int→Option Ret):Option Ret:=
 bif (inB (0:Int) (List.length a0)) then
  I208 N (List.getD a0 (Int.toNat (0:Int)) zQIIIE) kf
 else none
noncomputable def I129 (N:Nat) (a0:(List QIIIE)) (kf:Int→Option Ret):Option Ret:=
 bif ((List.length a0:Int) == (0:Int)) then
  kf (0:Int)
 else
  I205 N a0 (fun (r10_1:Bool) =>
   bif (!r10_1) then
    kf (0:Int)
   else
    I206 N a0 (1:Int) (fun (r14_2:Int) =>
     I206 N a0 (2:Int) (fun (r16_3:Int) =>
      I207 N a0 (1:Int) (fun (r19_4:Int) =>
       I207 N a0 (2:Int) (fun (r21_5:Int) =>
        bif (decide ((IntKind.wrap .i64 (r14_2 - r16_3)) > (0:Int))) then
         kf (1:Int)
        else
         bif ((IntKind.wrap .i64 (r14_2 - r16_3)) == (0:Int)) then
          bif (decide ((IntKind.wrap .i64 (r19_4 - r21_5)) > (0:Int))) then
           kf (1:Int)
          else
           bif (decide ((IntKind.wrap .i64 (r14_2 - r16_3)) < (0:Int))) then
            kf (2:Int)
           else
            bif (decide ((IntKind.wrap .i64 (r19_4 - r21_5)) < (0:Int))) then
             kf (2:Int)
            else
             I129_j1 N a0 kf
         else
          bif (decide ((IntKind.wrap .i64 (r14_2 - r16_3)) < (0:Int))) then
           kf (2:Int)
          else
           bif (decide ((IntKind.wrap .i64 (r19_4 - r21_5)) < (0:Int))) then
            kf (2:Int)
           else
            I129_j1 N a0 kf)))))
noncomputable def I128_j1 (N:Nat) (a0:(List QIIIIILIE)) (a4:Int) (a5:Int) (kf:(List QIIIIILIE)→Bool→Option Ret) (r21_2:Int) (r24_3:Int) (y14_11:(List QIIIIILIE)):Option Ret:=
 bif (inB r21_2 (List.length y14_11)) then
  bif (inB r21_2 (List.length y14_11)) then
   bif (inB r24_3 (List.length (List.set y14_11 (Int.toNat r21_2) ((List.getD y14_11 (Int.toNat r21_2) zQIIIIILIE).1,((List.getD y14_11 (Int.toNat r21_2) zQIIIIILIE).2.1,((List.getD y14_11 (Int.toNat r21_2) zQIIIIILIE).2.2.1,((IntKind.wrap .i64 ((List.getD y14_11 (Int.toNat r21_2) zQIIIIILIE).2.2.2.1 + a4)),(List.getD y14_11 (Int.toNat r21_2) zQIIIIILIE).2.2.2.2))))))) then
    bif (inB r24_3 (List.length (List.set y14_11 (Int.toNat r21_2) ((List.getD y14_11 (Int.toNat r21_2) zQIIIIILIE).1,((List.getD y14_11 (Int.toNat r21_2) zQIIIIILIE).2.1,((List.getD y14_11 (Int.toNat r21_2) zQIIIIILIE).2.2.1,((IntKind.wrap .i64 ((List.getD y14_11 (Int.toNat r21_2) zQIIIIILIE).2.2.2.1 + a4)),(List.getD y14_11 (Int.toNat r21_2) zQIIIIILIE).2.2.2.2))))))) then
     share (List.set (List.set y14_11 (Int.toNat r21_2) ((List.getD y14_11 (Int.toNat r21_2) zQIIIIILIE).1,((List.getD y14_11 (Int.toNat r21_2) zQIIIIILIE).2.1,((List.getD y14_11 (Int.toNat r21_2) zQIIIIILIE).2.2.1,((IntKind.wrap .i64 ((List.getD y14_11 (Int.toNat r21_2) zQIIIIILIE).2.2.2.1 + a4)),(List.getD y14_11 (Int.toNat r21_2) zQIIIIILIE).2.2.2.2))))) (Int.toNat r24_3) ((List.getD (List.set y14_11 (Int.toNat r21_2) ((List.getD y14_11 (Int.toNat r21_2) zQIIIIILIE).1,((List.getD y14_11 (Int.toNat r21_2) zQIIIIILIE).2.1,((List.getD y14_11 (Int.toNat r21_2) zQIIIIILIE).2.2.1,((IntKind.wrap .i64 ((List.getD y14_11 (Int.toNat r21_2) zQIIIIILIE).2.2.2.1 + a4)),(List.getD y14_11 (Int.toNat r21_2) zQIIIIILIE).2.2.2.2))))) (Int.toNat r24_3) zQIIIIILIE).1,((List.getD (List.set y14_11 (Int.toNat r21_2) ((List.getD y14_11 (Int.toNat r21_2) zQIIIIILIE).1,((List.getD y14_11 (Int.toNat r21_2) zQIIIIILIE).2.1,((List.getD y14_11 (Int.toNat r21_2) zQIIIIILIE).2.2.1,((IntKind.wrap .i64 ((List.getD y14_11 (Int.toNat r21_2) zQIIIIILIE).2.2.2.1 + a4)),(List.getD y14_11 (Int.toNat r21_2) zQIIIIILIE).2.2.2.2))))) (Int.toNat r24_3) zQIIIIILIE).2.1,((List.getD (List.set y14_11 (Int.toNat r21_2) ((List.getD y14_11 (Int.toNat r21_2) zQIIIIILIE).1,((List.getD y14_11 (Int.toNat r21_2) zQIIIIILIE).2.1,((List.getD y14_11 (Int.toNat r21_2) zQIIIIILIE).2.2.1,((IntKind.wrap .i64 ((List.getD y14_11 (Int.toNat r21_2) zQIIIIILIE).2.2.2.1 + a4)),(List.getD y14_11 (Int.toNat r21_2) zQIIIIILIE).2.2.2.2))))) (Int.toNat r24_3) zQIIIIILIE).2.2.1,((IntKind.wrap .i64 ((List.getD (List.set y14_11 (Int.toNat r21_2) ((List.getD y14_11 (Int.toNat r21_2) zQIIIIILIE).1,((List.getD y14_11 (Int.toNat r21_2) zQIIIIILIE).2.1,((List.getD y14_11 (Int.toNat r21_2) zQIIIIILIE).2.2.1,((IntKind.wrap .i64 ((List.getD y14_11 (Int.toNat r21_2) zQIIIIILIE).2.2.2.1 + a4)),(List.getD y14_11 (Int.toNat r21_2) zQIIIIILIE).2.2.2.2))))) (Int.toNat r24_3) zQIIIIILIE).2.2.2.1 + a5)),(List.getD (List.set y14_11 (Int.toNat r21_2) ((List.getD y14_11 (Int.toNat r21_2) zQIIIIILIE).1,((List.getD y14_11 (Int.toNat r21_2) zQIIIIILIE).2.1,((List.getD y14_11 (Int.toNat r21_2) zQIIIIILIE).2.2.1,((IntKind.wrap .i64 ((List.getD y14_11 (Int.toNat r21_2) zQIIIIILIE).2.2.2.1 + a4)),(List.getD y14_11 (Int.toNat r21_2) zQIIIIILIE).2.2.2.2))))) (Int.toNat r24_3) zQIIIIILIE).2.2.2.2))))) (fun (w14_12:(List QIIIIILIE)) =>
      I143 N w14_12 (fun (r126_13:Bool) =>
       bif (!r126_13) then
        I163 N a0 (fun (r129_14:(List QIIIIILIE)) =>
         kf r129_14 false)
       else
        kf w14_12 true))
    else none
   else none
  else none
 else none
noncomputable def I128 (N:Nat) (a0:(List QIIIIILIE)) (a1:Int) (a2:Int) (a3:Int) (a4:Int) (a5:Int) (kf:(List QIIIIILIE)→Bool→Option Ret):Option Ret:=
 I163 N a0 (fun (r18_1:(List QIIIIILIE)) =>
  I40 N a0 a1 (fun (r21_2:Int) =>
   I40 N a0 a2 (fun (r24_3:Int) =>
    I143 N a0 (fun (r26_4:Bool) =>
     bif (!r26_4) then
      kf r18_1 false
     else
      bif (decide (r21_2 < (0:Int))) then
       kf r18_1 false
      else
       bif (decide (r24_3 < (0:Int))) then
        kf r18_1 false
       else
        bif (r21_2 == r24_3) then
         kf r18_1 false
        else
         I144 N a3 (1:Int) (2:Int) (fun (r43_5:Bool) =>
          bif (!r43_5) then
           kf r18_1 false
          else
           I144 N a4 (0:Int) (1000:Int) (fun (r48_6:Bool) =>
            bif (!r48_6) then
             kf r18_1 false
            else
             I144 N a5 (0:Int) (1000:Int) (fun (r53_7:Bool) =>
              bif (!r53_7) then
               kf r18_1 false
              else
               bif (inB r21_2 (List.length r18_1)) then
                bif (inB r24_3 (List.length r18_1)) then
                 bif (decide ((List.length (List.getD r18_1 (Int.toNat r21_2) zQIIIIILIE).2.2.2.2.2 + List.length [a2]) * 1≤4398046511104)) then
                  bif ((!(Nat.beq (Int.toNat r21_2) (Int.toNat r24_3))) && true) then
                   bif (decide ((List.length (List.getD r18_1 (Int.toNat r24_3) zQIIIIILIE).2.2.2.2.2 + List.length [a1]) * 1≤4398046511104)) then
                    bif (inB r21_2 (List.length r18_1)) then
                     bif (Nat.beq (Int.toNat r21_2) (Int.toNat r21_2)) then
                      bif (inB r24_3 (List.length (List.set r18_1 (Int.toNat r21_2) ((List.getD r18_1 (Int.toNat r21_2) zQIIIIILIE).1,((List.getD r18_1 (Int.toNat r21_2) zQIIIIILIE).2.1,((List.getD r18_1 (Int.toNat r21_2) zQIIIIILIE).2.2.1,((List.getD r18_1 (Int.toNat r21_2) zQIIIIILIE).2.2.2.1,((List.getD r18_1 (Int.toNat r21_2) zQIIIIILIE).2.2.2.2.1,((List.getD r18_1 (Int.toNat r21_2) zQIIIIILIE).2.2.2.2.2 ++ [a2]))))))))) then
                       bif (Nat.beq (Int.toNat r24_3) (Int.toNat r24_3)) then
                        share (List.set (List.set r18_1 (Int.toNat r21_2) ((List.getD r18_1 (Int.toNat r21_2) zQIIIIILIE).1,((List.getD r18_1 (Int.toNat r21_2) zQIIIIILIE).2.1,((List.getD r18_1 (Int.toNat r21_2) zQIIIIILIE).2.2.1,((List.getD r18_1 (Int.toNat r21_2) zQIIIIILIE).2.2.2.1,((List.getD r18_1 (Int.toNat r21_2) zQIIIIILIE).2.2.2.2.1,((List.getD r18_1 (Int.toNat r21_2) zQIIIIILIE).2.2.2.2.2 ++ [a2]))))))) (Int.toNat r24_3) ((List.getD (List.set r18_1 (Int.toNat r21_2) ((List.getD r18_1 (Int.toNat r21_2) zQIIIIILIE).1,((List.getD r18_1 (Int.toNat r21_2) zQIIIIILIE).2.1,((List.getD r18_1 (Int.toNat r21_2) zQIIIIILIE).2.2.1,((List.getD r18_1 (Int.toNat r21_2) zQIIIIILIE).2.2.2.1,((List.getD r18_1 (Int.toNat r21_2) zQIIIIILIE).2.2.2.2.1,((List.getD r18_1 (Int.toNat r21_2) zQIIIIILIE).2.2.2.2.2 ++ [a2]))))))) (Int.toNat r24_3) zQIIIIILIE).1,((List.getD (List.set r18_1 (Int.toNat r21_2) ((List.getD r18_1 (Int.toNat r21_2) zQIIIIILIE).1,((List.getD r18_1 (Int.toNat r21_2) zQIIIIILIE).2.1,((List.getD r18_1 (Int.toNat r21_2) zQIIIIILIE).2.2.1,((List.getD r18_1 (Int.toNat r21_2) zQIIIIILIE).2.2.2.1,((List.getD r18_1 (Int.toNat r21_2) zQIIIIILIE).2.2.2.2.1,((List.getD r18_1 (Int.toNat r21_2) zQIIIIILIE).2.2.2.2.2 ++ [a2]))))))) (Int.toNat r24_3) zQIIIIILIE).2.1,((List.getD (List.set r18_1 (Int.toNat r21_2) ((List.getD r18_1 (Int.toNat r21_2) zQIIIIILIE).1,((List.getD r18_1 (Int.toNat r21_2) zQIIIIILIE).2.1,((List.getD r18_1 (Int.toNat r21_2) zQIIIIILIE).2.2.1,((List.getD r18_1 (Int.toNat r21_2) zQIIIIILIE).2.2.2.1,((List.getD r18_1 (Int.toNat r21_2) zQIIIIILIE).2.2.2.2.1,((List.getD r18_1 (Int.toNat r21_2) zQIIIIILIE).2.2.2.2.2 ++ [a2]))))))) (Int.toNat r24_3) zQIIIIILIE).2.2.1,((List.getD (List.set r18_1 (Int.toNat r21_2) ((List.getD r18_1 (Int.toNat r21_2) zQIIIIILIE).1,((List.getD r18_1 (Int.toNat r21_2) zQIIIIILIE).2.1,((List.getD r18_1 (Int.toNat r21_2) zQIIIIILIE).2.2.1,((List.getD r18_1 (Int.toNat r21_2) zQIIIIILIE).2.2.2.1,((List.getD r18_1 (Int.toNat r21_2) zQIIIIILIE).2.2.2.2.1,((List.getD r18_1 (Int.toNat r21_2) zQIIIIILIE).2.2.2.2.2 ++ [a2]))))))) (Int.toNat r24_3) zQIIIIILIE).2.2.2.1,((List.getD (List.set r18_1 (Int.toNat r21_2) ((List.getD r18_1 (Int.toNat r21_2) zQIIIIILIE).1,((List.getD r18_1 (Int.toNat r21_2) zQIIIIILIE).2.1,((List.getD r18_1 (Int.toNat r21_2) zQIIIIILIE).2.2.1,((List.getD r18_1 (Int.toNat r21_2) zQIIIIILIE).2.2.2.1,((List.getD r18_1 (Int.toNat r21_2) zQIIIIILIE).2.2.2.2.1,((List.getD r18_1 (Int.toNat r21_2) zQIIIIILIE).2.2.2.2.2 ++ [a2]))))))) (Int.toNat r24_3) zQIIIIILIE).2.2.2.2.1,((List.getD r18_1 (Int.toNat r24_3) zQIIIIILIE).2.2.2.2.2 ++ [a1]))))))) (fun (w14_8:(List QIIIIILIE)) =>
                         bif (inB r21_2 (List.length w14_8)) then
                          bif (inB r21_2 (List.length w14_8)) then
                           bif (a3 == (1:Int)) then
                            bif (inB r21_2 (List.length (List.set w14_8 (Int.toNat r21_2) ((List.getD w14_8 (Int.toNat r21_2) zQIIIIILIE).1,((List.getD w14_8 (Int.toNat r21_2) zQIIIIILIE).2.1,((List.getD w14_8 (Int.toNat r21_2) zQIIIIILIE).2.2.1,((List.getD w14_8 (Int.toNat r21_2) zQIIIIILIE).2.2.2.1,((IntKind.wrap .i64 ((List.getD w14_8 (Int.toNat r21_2) zQIIIIILIE).2.2.2.2.1 + (1:Int))),(List.getD w14_8 (Int.toNat r21_2) zQIIIIILIE).2.2.2.2.2)))))))) then
                             bif (inB r21_2 (List.length (List.set w14_8 (Int.toNat r21_2) ((List.getD w14_8 (Int.toNat r21_2) zQIIIIILIE).1,((List.getD w14_8 (Int.toNat r21_2) zQIIIIILIE).2.1,((List.getD w14_8 (Int.toNat r21_2) zQIIIIILIE).2.2.1,((List.getD w14_8 (Int.toNat r21_2) zQIIIIILIE).2.2.2.1,((IntKind.wrap .i64 ((List.getD w14_8 (Int.toNat r21_2) zQIIIIILIE).2.2.2.2.1 + (1:Int))),(List.getD w14_8 (Int.toNat r21_2) zQIIIIILIE).2.2.2.2.2)))))))) then
                              share (List.set (List.set w14_8 (Int.toNat r21_2) ((List.getD w14_8 (Int.toNat r21_2) zQIIIIILIE).1,((List.getD w14_8 (Int.toNat r21_2) zQIIIIILIE).2.1,((List.getD w14_8 (Int.toNat r21_2) zQIIIIILIE).2.2.1,((List.getD w14_8 (Int.toNat r21_2) zQIIIIILIE).2.2.2.1,((IntKind.wrap .i64 ((List.getD w14_8 (Int.toNat r21_2) zQIIIIILIE).2.2.2.2.1 + (1:Int))),(List.getD w14_8 (Int.toNat r21_2) zQIIIIILIE).2.2.2.2.2)))))) (Int.toNat r21_2) ((List.getD (List.set w14_8 (Int.toNat r21_2) ((List.getD w14_8 (Int.toNat r21_2) zQIIIIILIE).1,((List.getD w14_8 (Int.toNat r21_2) zQIIIIILIE).2.1,((List.getD w14_8 (Int.toNat r21_2) zQIIIIILIE).2.2.1,((List.getD w14_8 (Int.toNat r21_2) zQIIIIILIE).2.2.2.1,((IntKind.wrap .i64 ((List.getD w14_8 (Int.toNat r21_2) zQIIIIILIE).2.2.2.2.1 + (1:Int))),(List.getD w14_8 (Int.toNat r21_2) zQIIIIILIE).2.2.2.2.2)))))) (Int.toNat r21_2) zQIIIIILIE).1,((List.getD (List.set w14_8 (Int.toNat r21_2) ((List.getD w14_8 (Int.toNat r21_2) zQIIIIILIE).1,((List.getD w14_8 (Int.toNat r21_2) zQIIIIILIE).2.1,((List.getD w14_8 (Int.toNat r21_2) zQIIIIILIE).2.2.1,((List.getD w14_8 (Int.toNat r21_2) zQIIIIILIE).2.2.2.1,((IntKind.wrap .i64 ((List.getD w14_8 (Int.toNat r21_2) zQIIIIILIE).2.2.2.2.1 + (1:Int))),(List.getD w14_8 (Int.toNat r21_2) zQIIIIILIE).2.2.2.2.2)))))) (Int.toNat r21_2) zQIIIIILIE).2.1,((IntKind.wrap .i64 ((List.getD (List.set w14_8 (Int.toNat r21_2) ((List.getD w14_8 (Int.toNat r21_2) zQIIIIILIE).1,((List.getD w14_8 (Int.toNat r21_2) zQIIIIILIE).2.1,((List.getD w14_8 (Int.toNat r21_2) zQIIIIILIE).2.2.1,((List.getD w14_8 (Int.toNat r21_2) zQIIIIILIE).2.2.2.1,((IntKind.wrap .i64 ((List.getD w14_8 (Int.toNat r21_2) zQIIIIILIE).2.2.2.2.1 + (1:Int))),(List.getD w14_8 (Int.toNat r21_2) zQIIIIILIE).2.2.2.2.2)))))) (Int.toNat r21_2) zQIIIIILIE).2.2.1 + (1:Int))),(List.getD (List.set w14_8 (Int.toNat r21_2) ((List.getD w14_8 (Int.toNat r21_2) zQIIIIILIE).1,((List.getD w14_8 (Int.toNat r21_2) zQIIIIILIE).2.1,((List.getD w14_8 (Int.toNat r21_2) zQIIIIILIE).2.2.1,((List.getD w14_8 (Int.toNat r21_2) zQIIIIILIE).2.2.2.1,((IntKind.wrap .i64 ((List.getD w14_8 (Int.toNat r21_2) zQIIIIILIE).2.2.2.2.1 + (1:Int))),(List.getD w14_8 (Int.toNat r21_2) zQIIIIILIE).2.2.2.2.2)))))) (Int.toNat r21_2) zQIIIIILIE).2.2.2)))) (fun (w14_9:(List QIIIIILIE)) =>
                               I128_j1 N a0 a4 a5 kf r21_2 r24_3 w14_9)
                             else none
                            else none
                           else
                            bif (inB r24_3 (List.length (List.set w14_8 (Int.toNat r21_2) ((List.getD w14_8 (Int.toNat r21_2) zQIIIIILIE).1,((List.getD w14_8 (Int.toNat r21_2) zQIIIIILIE).2.1,((List.getD w14_8 (Int.toNat r21_2) zQIIIIILIE).2.2.1,((List.getD w14_8 (Int.toNat r21_2) zQIIIIILIE).2.2.2.1,((IntKind.wrap .i64 ((List.getD w14_8 (Int.toNat r21_2) zQIIIIILIE).2.2.2.2.1 + (1:Int))),(List.getD w14_8 (Int.toNat r21_2) zQIIIIILIE).2.2.2.2.2)))))))) then
                             bif (inB r24_3 (List.length (List.set w14_8 (Int.toNat r21_2) ((List.getD w14_8 (Int.toNat r21_2) zQIIIIILIE).1,((List.getD w14_8 (Int.toNat r21_2) zQIIIIILIE).2.1,((List.getD w14_8 (Int.toNat r21_2) zQIIIIILIE).2.2.1,((List.getD w14_8 (Int.toNat r21_2) zQIIIIILIE).2.2.2.1,((IntKind.wrap .i64 ((List.getD w14_8 (Int.toNat r21_2) zQIIIIILIE).2.2.2.2.1 + (1:Int))),(List.getD w14_8 (Int.toNat r21_2) zQIIIIILIE).2.2.2.2.2)))))))) then
                              share (List.set (List.set w14_8 (Int.toNat r21_2) ((List.getD w14_8 (Int.toNat r21_2) zQIIIIILIE).1,((List.getD w14_8 (Int.toNat r21_2) zQIIIIILIE).2.1,((List.getD w14_8 (Int.toNat r21_2) zQIIIIILIE).2.2.1,((List.getD w14_8 (Int.toNat r21_2) zQIIIIILIE).2.2.2.1,((IntKind.wrap .i64 ((List.getD w14_8 (Int.toNat r21_2) zQIIIIILIE).2.2.2.2.1 + (1:Int))),(List.getD w14_8 (Int.toNat r21_2) zQIIIIILIE).2.2.2.2.2)))))) (Int.toNat r24_3) ((List.getD (List.set w14_8 (Int.toNat r21_2) ((List.getD w14_8 (Int.toNat r21_2) zQIIIIILIE).1,((List.getD w14_8 (Int.toNat r21_2) zQIIIIILIE).2.1,((List.getD w14_8 (Int.toNat r21_2) zQIIIIILIE).2.2.1,((List.getD w14_8 (Int.toNat r21_2) zQIIIIILIE).2.2.2.1,((IntKind.wrap .i64 ((List.getD w14_8 (Int.toNat r21_2) zQIIIIILIE).2.2.2.2.1 + (1:Int))),(List.getD w14_8 (Int.toNat r21_2) zQIIIIILIE).2.2.2.2.2)))))) (Int.toNat r24_3) zQIIIIILIE).1,((List.getD (List.set w14_8 (Int.toNat r21_2) ((List.getD w14_8 (Int.toNat r21_2) zQIIIIILIE).1,((List.getD w14_8 (Int.toNat r21_2) zQIIIIILIE).2.1,((List.getD w14_8 (Int.toNat r21_2) zQIIIIILIE).2.2.1,((List.getD w14_8 (Int.toNat r21_2) zQIIIIILIE).2.2.2.1,((IntKind.wrap .i64 ((List.getD w14_8 (Int.toNat r21_2) zQIIIIILIE).2.2.2.2.1 + (1:Int))),(List.getD w14_8 (Int.toNat r21_2) zQIIIIILIE).2.2.2.2.2)))))) (Int.toNat r24_3) zQIIIIILIE).2.1,((IntKind.wrap .i64 ((List.getD (List.set w14_8 (Int.toNat r21_2) ((List.getD w14_8 (Int.toNat r21_2) zQIIIIILIE).1,((List.getD w14_8 (Int.toNat r21_2) zQIIIIILIE).2.1,((List.getD w14_8 (Int.toNat r21_2) zQIIIIILIE).2.2.1,((List.getD w14_8 (Int.toNat r21_2) zQIIIIILIE).2.2.2.1,((IntKind.wrap .i64 ((List.getD w14_8 (Int.toNat r21_2) zQIIIIILIE).2.2.2.2.1 + (1:Int))),(List.getD w14_8 (Int.toNat r21_2) zQIIIIILIE).2.2.2.2.2)))))) (Int.toNat r24_3) zQIIIIILIE).2.2.1 + (1:Int))),(List.getD (List.set w14_8 (Int.toNat r21_2) ((List.getD w14_8 (Int.toNat r21_2) zQIIIIILIE).1,((List.getD w14_8 (Int.toNat r21_2) zQIIIIILIE).2.1,((List.getD w14_8 (Int.toNat r21_2) zQIIIIILIE).2.2.1,((List.getD w14_8 (Int.toNat r21_2) zQIIIIILIE).2.2.2.1,((IntKind.wrap .i64 ((List.getD w14_8 (Int.toNat r21_2) zQIIIIILIE).2.2.2.2.1 + (1:Int))),(List.getD w14_8 (Int.toNat r21_2) zQIIIIILIE).2.2.2.2.2)))))) (Int.toNat r24_3) zQIIIIILIE).2.2.2)))) (fun (w14_10:(List QIIIIILIE)) =>
                               I128_j1 N a0 a4 a5 kf r21_2 r24_3 w14_10)
                             else none
                            else none
                          else none
                         else none)
                       else none
                      else none
                     else none
                    else none
                   else none
                  else none
                 else none
                else none
               else none)))))))
noncomputable def S131 (N:Nat) (a0:(List Int)) (kf:(List Int)→Option Ret):Option Ret:=
 bif (Nat.blt (List.length a0) 4611686018427387904) then
  kf (sortL a0)
 else none
noncomputable def S132 (N:Nat) (a0:(List Int)) (kf:(List Int)→Option Ret):Option Ret:=
 kf (compactL a0)
noncomputable def I28_l5 (N:Nat) (x1_7:QLQIIIIILIELQIILIELQIIELILQIIIELQIIIIEIE) (x2_8:QLQIIIIILIELQIILIELQIIELILQIIIELQIIIIEIE) (x30_10:(List QIIE)) (x31_11:Int):Nat→(QLQIIIIILIELQIILIELQIIELILQIIIELQIIIIEIE→Option Ret)→(QLQIIIIILIELQIILIELQIIELILQIIIELQIIIIEIE→Bool→Option Ret)→QLQIIIIILIELQIILIELQIIELILQIIIELQIIIIEIE→Int→Option Ret
 | 0,_,_,_,_=>none
 | n_13 + 1,k5_0_21,k5_1_22,x4_9,x32_12 =>
  bif (decide (x32_12 < x31_11)) then
   bif (inB x32_12 (List.length x30_10)) then
    bif (inB x32_12 (List.length x1_7.2.2.2.2.1)) then
     I129 N [(List.getD x1_7.2.2.2.2.1 (Int.toNat x32_12) zQIIIE)] (fun (r51_14:Int) =>
      I128 N x4_9.1 (List.getD x30_10 (Int.toNat x32_12) zQIIE).1 (List.getD x30_10 (Int.toNat x32_12) zQIIE).2 r51_14 (List.getD x1_7.2.2.2.2.1 (Int.toNat x32_12) zQIIIE).2.1 (List.getD x1_7.2.2.2.2.1 (Int.toNat x32_12) zQIIIE).2.2 (fun (r56_15:(List QIIIIILIE)) (r56_16:Bool) =>
       bif (!r56_16) then
        I70 N x1_7 (fun (r63_17:QLQIIIIILIELQIILIELQIIELILQIIIELQIIIIEIE) =>
         k5_1_22 r63_17 false)
       else
        bif (inB x32_12 (List.length x1_7.2.2.2.1)) then
         I130 N x4_9.2.1 (List.getD x1_7.2.2.2.1 (Int.toNat x32_12) (0:Int)) (fun (r71_18:Int) =>
          bif (inB r71_18 (List.length x4_9.2.1)) then
           bif (decide ((List.length (List.getD x4_9.2.1 (Int.toNat r71_18) zQIILIE).2.2 + List.length [(List.getD x30_10 (Int.toNat x32_12) zQIIE).1,(List.getD x30_10 (Int.toNat x32_12) zQIIE).2]) * 1≤4398046511104)) then
            S131 N ((List.getD x4_9.2.1 (Int.toNat r71_18) zQIILIE).2.2 ++ [(List.getD x30_10 (Int.toNat x32_12) zQIIE).1,(List.getD x30_10 (Int.toNat x32_12) zQIIE).2]) (fun (z10_19:(List Int)) =>
             S132 N z10_19 (fun (r90_20:(List Int)) =>
              bif (inB r71_18 (List.length x4_9.2.1)) then
               bif (Nat.beq (Int.toNat r71_18) (Int.toNat r71_18)) then
                (I28_l5 N x1_7 x2_8 x30_10 x31_11 n_13 k5_0_21 k5_1_22) (r56_15,((List.set x4_9.2.1 (Int.toNat r71_18) ((List.getD x4_9.2.1 (Int.toNat r71_18) zQIILIE).1,((List.getD x4_9.2.1 (Int.toNat r71_18) zQIILIE).2.1,r90_20))),x4_9.2.2)) (IntKind.wrap .i64 (x32_12 + (1:Int)))
               else none
              else none))
           else none
          else none)
        else none))
    else none
   else none
  else
   k5_0_21 x4_9
noncomputable def I28 (N:Nat) (a0:QLQIIIIILIELQIILIELQIIELILQIIIELQIIIIEIE) (kf:QLQIIIIILIELQIILIELQIIELILQIIIELQIIIIEIE→Bool→Option Ret):Option Ret:=
 I39 N a0 (fun (r12_1:Bool) =>
  bif (!r12_1) then
   I70 N a0 (fun (r26_4:QLQIIIIILIELQIILIELQIIELILQIIIELQIIIIEIE) =>
    kf r26_4 false)
  else
   I16 N a0 (fun (r16_2:Bool) =>
    bif (!r16_2) then
     I70 N a0 (fun (r26_4:QLQIIIIILIELQIILIELQIIELILQIIIELQIIIIEIE) =>
      kf r26_4 false)
    else
     I41 N a0 (fun (r21_3:(List Int)) =>
      bif (decide ((List.length r21_3:Int) > (0:Int))) then
       I70 N a0 (fun (r26_5:QLQIIIIILIELQIILIELQIIELILQIIIELQIIIIEIE) =>
        kf r26_5 false)
      else
       I70 N a0 (fun (r28_6:QLQIIIIILIELQIILIELQIIELILQIIIELQIIIIEIE) =>
        I28_l5 N a0 (([]:(List QIIIIILIE)),(([]:(List QIILIE)),(([]:(List QIIE)),(([]:(List Int)),(([]:(List QIIIE)),(([]:(List QIIIIE)),(0:Int))))))) a0.2.2.1 (List.length a0.2.2.1:Int) N (fun (z4_24:QLQIIIIILIELQIILIELQIIELILQIIIELQIIIIEIE) =>
         I103 N a0 (z4_24.1,(z4_24.2.1,(([]:(List QIIE)),(([]:(List Int)),(([]:(List QIIIE)),(z4_24.2.2.2.2.2.1,(IntKind.wrap .i64 (z4_24.2.2.2.2.2.2 + (List.length a0.2.2.1:Int))))))))) (5:Int) (0:Int) kf) kf r28_6 (0:Int)))))
noncomputable def S142 (N:Nat) (a0:(List QIIIIILIE)) (a1:Int) (a2:Int) (kf:(List QIIIIILIE)→Option Ret):Option Ret:=
 bif (decide ((0:Int)≤a1) && (decide (a1≤a2) && decide (a2≤(List.length a0:Int)))) then
  kf (List.take (Int.toNat a1) a0 ++ List.drop (Int.toNat a2) a0)
 else none
noncomputable def I38 (N:Nat) (a0:QLQIIIIILIELQIILIELQIIELILQIIIELQIIIIEIE) (a1:Int) (kf:QLQIIIIILIELQIILIELQIIELILQIIIELQIIIIEIE→Bool→Option Ret):Option Ret:=
 I70 N a0 (fun (r9_1:QLQIIIIILIELQIILIELQIIELILQIIIELQIIIIEIE) =>
  I40 N a0.1 a1 (fun (r13_2:Int) =>
   bif (decide (r13_2 < (0:Int))) then
    kf r9_1 false
   else
    bif (inB r13_2 (List.length a0.1)) then
     bif (decide ((List.length (List.getD a0.1 (Int.toNat r13_2) zQIIIIILIE).2.2.2.2.2:Int) > (0:Int))) then
      kf r9_1 false
     else
      I16 N a0 (fun (r28_3:Bool) =>
       bif r28_3 then
        kf r9_1 false
       else
        S142 N r9_1.1 r13_2 (IntKind.wrap .i64 (r13_2 + (1:Int))) (fun (r36_4:(List QIIIIILIE)) =>
         I103 N a0 (r36_4,r9_1.2) (6:Int) a1 kf))
    else none))
noncomputable def I13 (N:Nat) (a0:QLQIIIIILIELQIILIELQIIELILQIIIELQIIIIEIE) (a1:QIIIIE) (kf:QLQIIIIILIELQIILIELQIIELILQIIIELQIIIIEIE→Bool→Option Ret):Option Ret:=
 bif (a1.1 == (1:Int)) then
  I30 N a0 a1.2.1 a1.2.2.1 kf
 else
  bif (a1.1 == (2:Int)) then
   I32 N a0 a1.2.1 a1.2.2.1 kf
  else
   bif (a1.1 == (3:Int)) then
    I23 N a0 kf
   else
    bif (a1.1 == (4:Int)) then
     I35 N a0 a1.2.2.2 a1.2.1 a1.2.2.1 kf
    else
     bif (a1.1 == (5:Int)) then
      I28 N a0 kf
     else
      bif (a1.1 == (6:Int)) then
       I38 N a0 a1.2.1 kf
      else
       I70 N a0 (fun (r61_13:QLQIIIIILIELQIILIELQIIELILQIIIELQIIIIEIE) =>
        kf r61_13 false)
noncomputable def I71_l5 (N:Nat) (x4_5:QIIIIILIE) (x8_6:(List QIIIIILIE)) (x9_7:Int) (x10_8:Int) (x15_9:(List Int)) (x16_10:Int):Nat→(Option Ret)→(Bool→Option Ret)→Int→Option Ret
 | 0,_,_,_=>none
 | n_12 + 1,k5_0_14,k5_1_15,x17_11 =>
  bif (decide (x17_11 < x16_10)) then
   bif (inB x17_11 (List.length x15_9)) then
    I78 N x4_5.2.2.2.2.2 (List.getD x15_9 (Int.toNat x17_11) (0:Int)) (fun (r24_13:Int) =>
     bif (decide (r24_13 > (1:Int))) then
      k5_1_15 false
     else
      (I71_l5 N x4_5 x8_6 x9_7 x10_8 x15_9 x16_10 n_12 k5_0_14 k5_1_15) (IntKind.wrap .i64 (x17_11 + (1:Int))))
   else none
  else
   k5_0_14
noncomputable def I71_l2 (N:Nat) (x8_1:(List QIIIIILIE)) (x9_2:Int):Nat→(Option Ret)→(Bool→Option Ret)→Int→Option Ret
 | 0,_,_,_=>none
 | n_4 + 1,k2_0_18,k2_1_19,x10_3 =>
  bif (decide (x10_3 < x9_2)) then
   bif (inB x10_3 (List.length x8_1)) then
    I71_l5 N (List.getD x8_1 (Int.toNat x10_3) zQIIIIILIE) x8_1 x9_2 x10_3 (List.getD x8_1 (Int.toNat x10_3) zQIIIIILIE).2.2.2.2.2 (List.length (List.getD x8_1 (Int.toNat x10_3) zQIIIIILIE).2.2.2.2.2:Int) N ((I71_l2 N x8_1 x9_2 n_4 k2_0_18 k2_1_19) (IntKind.wrap .i64 (x10_3 + (1:Int)))) k2_1_19 (0:Int)
   else none
  else
   k2_0_18
noncomputable def I71 (N:Nat) (a0:QLQIIIIILIELQIILIELQIIELILQIIIELQIIIIEIE) (kf:Bool→Option Ret):Option Ret:=
 I71_l2 N a0.1 (List.length a0.1:Int) N (kf true) kf (0:Int)
noncomputable def I72_l2 (N:Nat) (x1_1:QLQIIIIILIELQIILIELQIIELILQIIIELQIIIIEIE) (x7_2:(List QIIE)) (x8_3:Int):Nat→(Option Ret)→(Bool→Option Ret)→Int→Option Ret
 | 0,_,_,_=>none
 | n_5 + 1,k2_0_8,k2_1_9,x9_4 =>
  bif (decide (x9_4 < x8_3)) then
   bif (inB x9_4 (List.length x7_2)) then
    bif (decide (x9_4 ≥ (List.length x1_1.2.2.2.1:Int))) then
     k2_1_9 false
    else
     bif (inB x9_4 (List.length x1_1.2.2.2.1)) then
      I130 N x1_1.2.1 (List.getD x1_1.2.2.2.1 (Int.toNat x9_4) (0:Int)) (fun (r26_6:Int) =>
       bif (decide (r26_6 < (0:Int))) then
        k2_1_9 false
       else
        bif (inB r26_6 (List.length x1_1.2.1)) then
         I83 N x1_1.1 (List.getD x1_1.2.1 (Int.toNat r26_6) zQIILIE) (List.getD x7_2 (Int.toNat x9_4) zQIIE) (fun (r38_7:Bool) =>
          bif (!r38_7) then
           k2_1_9 false
          else
           (I72_l2 N x1_1 x7_2 x8_3 n_5 k2_0_8 k2_1_9) (IntKind.wrap .i64 (x9_4 + (1:Int))))
        else none)
     else none
   else none
  else
   k2_0_8
noncomputable def I72 (N:Nat) (a0:QLQIIIIILIELQIILIELQIIELILQIIIELQIIIIEIE) (kf:Bool→Option Ret):Option Ret:=
 I72_l2 N a0 a0.2.2.1 (List.length a0.2.2.1:Int) N (kf true) kf (0:Int)
noncomputable def I73_l3 (x1_2:QLQIIIIILIELQIILIELQIIELILQIIIELQIIIIEIE) (x17_4:(List QIIIIE)) (x18_5:Int):Nat→(Int→Option Ret)→Int→Int→Option Ret
 | 0,_,_,_=>none
 | n_7 + 1,k3_0_9,x3_3,x19_6 =>
  bif (decide (x19_6 < x18_5)) then
   bif (inB x19_6 (List.length x17_4)) then
    bif ((List.getD x17_4 (Int.toNat x19_6) zQIIIIE).2.1 == (4:Int)) then
     (I73_l3 x1_2 x17_4 x18_5 n_7 k3_0_9) (IntKind.wrap .i64 (x3_3 - (1:Int))) (IntKind.wrap .i64 (x19_6 + (1:Int)))
    else
     (I73_l3 x1_2 x17_4 x18_5 n_7 k3_0_9) x3_3 (IntKind.wrap .i64 (x19_6 + (1:Int)))
   else none
  else
   k3_0_9 x3_3
noncomputable def I73 (N:Nat) (a0:QLQIIIIILIELQIILIELQIIELILQIIIELQIIIIEIE) (kf:Bool→Option Ret):Option Ret:=
 I41 N a0 (fun (r13_1:(List Int)) =>
  I73_l3 a0 a0.2.2.2.2.2.1 (List.length a0.2.2.2.2.2.1:Int) N (fun (z3_11:Int) =>
   I75 N a0.2.2.2.2.2.1 (fun (r31_12:Bool) =>
    bif r31_12 then
     I144 N a0.2.2.2.2.2.2 (0:Int) (1000:Int) (fun (r35_13:Bool) =>
      bif r35_13 then
       kf (z3_11 == (0:Int))
      else
       kf false)
    else
     kf false)) (IntKind.wrap .i64 ((IntKind.wrap .i64 (a0.2.2.2.2.2.2 + (List.length a0.2.2.2.2.1:Int))) - (List.length r13_1:Int))) (0:Int))
noncomputable def I74_l3 (x1_1:QLQIIIIILIELQIILIELQIIELILQIIIELQIIIIEIE) (x9_5:(List QIIIIILIE)) (x10_6:Int):Nat→(Int→Int→Int→Option Ret)→Int→Int→Int→Int→Option Ret
 | 0,_,_,_,_,_=>none
 | n_8 + 1,k3_0_9,x3_2,x4_3,x5_4,x11_7 =>
  bif (decide (x11_7 < x10_6)) then
   bif (inB x11_7 (List.length x9_5)) then
    (I74_l3 x1_1 x9_5 x10_6 n_8 k3_0_9) (IntKind.wrap .i64 (x3_2 + (List.getD x9_5 (Int.toNat x11_7) zQIIIIILIE).2.2.1)) (IntKind.wrap .i64 (x4_3 + (List.getD x9_5 (Int.toNat x11_7) zQIIIIILIE).2.2.2.2.1)) (IntKind.wrap .i64 (x5_4 + (List.length (List.getD x9_5 (Int.toNat x11_7) zQIIIIILIE).2.2.2.2.2:Int))) (IntKind.wrap .i64 (x11_7 + (1:Int)))
   else none
  else
   k3_0_9 x3_2 x4_3 x5_4
noncomputable def I74 (N:Nat) (a0:QLQIIIIILIELQIILIELQIIELILQIIIELQIIIIEIE) (kf:Bool→Option Ret):Option Ret:=
 I74_l3 a0 a0.1 (List.length a0.1:Int) N (fun (z3_11:Int) (z4_12:Int) (z5_13:Int) =>
  I143 N a0.1 (fun (r31_14:Bool) =>
   bif r31_14 then
    bif ((IntKind.wrap .i64 ((2:Int) * z3_11)) == z5_13) then
     kf ((IntKind.wrap .i64 ((2:Int) * z4_12)) == z5_13)
    else
     kf false
   else
    kf false)) (0:Int) (0:Int) (0:Int) (0:Int)
noncomputable def I14 (N:Nat) (a0:QLQIIIIILIELQIILIELQIIELILQIIIELQIIIIEIE) (kf:ByteArray→Option Ret):Option Ret:=
 I71 N a0 (fun (r5_1:Bool) =>
  bif (!r5_1) then
   kf s_rematch
  else
   I72 N a0 (fun (r9_2:Bool) =>
    bif (!r9_2) then
     kf s_judge
    else
     I73 N a0 (fun (r13_3:Bool) =>
      bif (!r13_3) then
       kf s_minutes
      else
       I74 N a0 (fun (r17_4:Bool) =>
        bif (!r17_4) then
         kf s_sum
        else
         I39 N a0 (fun (r21_5:Bool) =>
          bif (!r21_5) then
           kf s_club
          else
           kf s_e)))))
noncomputable def S76_l4 (x0_1:(List QIIIIE)) (x1_2:(List QIIIIE)) (x12_3:Int):Nat→(Option Ret)→(Bool→Option Ret)→Int→Option Ret
 | 0,_,_,_=>none
 | n_5 + 1,k4_0_6,k4_1_7,x13_4 =>
  bif (decide (x13_4 < x12_3)) then
   bif (inB x13_4 (List.length x0_1)) then
    bif (inB x13_4 (List.length x1_2)) then
     bif (!((decide (((List.getD x0_1 (Int.toNat x13_4) zQIIIIE).1:Int)=(List.getD x1_2 (Int.toNat x13_4) zQIIIIE).1)) && ((decide (((List.getD x0_1 (Int.toNat x13_4) zQIIIIE).2.1:Int)=(List.getD x1_2 (Int.toNat x13_4) zQIIIIE).2.1)) && ((decide (((List.getD x0_1 (Int.toNat x13_4) zQIIIIE).2.2.1:Int)=(List.getD x1_2 (Int.toNat x13_4) zQIIIIE).2.2.1)) && (decide (((List.getD x0_1 (Int.toNat x13_4) zQIIIIE).2.2.2:Int)=(List.getD x1_2 (Int.toNat x13_4) zQIIIIE).2.2.2)))))) then
      k4_1_7 false
     else
      (S76_l4 x0_1 x1_2 x12_3 n_5 k4_0_6 k4_1_7) (IntKind.wrap .i64 (x13_4 + (1:Int)))
    else none
   else none
  else
   k4_0_6
noncomputable def S76 (N:Nat) (a0:(List QIIIIE)) (a1:(List QIIIIE)) (kf:Bool→Option Ret):Option Ret:=
 bif ((List.length a0:Int) != (List.length a1:Int)) then
  kf false
 else
  S76_l4 a0 a1 (List.length a0:Int) N (kf true) kf (0:Int)
noncomputable def I15 (N:Nat) (a0:(List QIIIIE)) (a1:(List QIIIIE)) (kf:Bool→Option Ret):Option Ret:=
 I75 N a0 (fun (r6_1:Bool) =>
  bif r6_1 then
   I75 N a1 (fun (r9_2:Bool) =>
    bif r9_2 then
     bif (decide ((List.length a0:Int) ≥ (List.length a1:Int))) then
      bif (decide ((0:Int)≤(0:Int)) && decide ((0:Int)≤(List.length a1:Int)) && decide ((List.length a1:Int)≤(List.length a0:Int))) then
       S76 N (List.drop (Int.toNat (0:Int)) (List.take (Int.toNat (List.length a1:Int)) a0)) a1 kf
      else none
     else
      kf false
    else
     kf false)
  else
   kf false)
noncomputable def L3_l18 (N:Nat) (x4_20:(List QIIIIE)) (x5_21:QLQIIIIILIELQIILIELQIIELILQIIIELQIIIIEIE) (x6_22:Int) (x8_23:Int):Nat→(Option Ret)→(Bool→Option Ret)→Int→Option Ret
 | 0,_,_,_=>none
 | n_25 + 1,k18_0_27,k18_1_28,x9_24 =>
  bif (decide (x9_24 < (List.length x5_21.1:Int))) then
   bif (inB x8_23 (List.length x5_21.1)) then
    bif (inB x9_24 (List.length x5_21.1)) then
     I19 N x5_21.1 (List.getD x5_21.1 (Int.toNat x8_23) zQIIIIILIE).1 (List.getD x5_21.1 (Int.toNat x9_24) zQIIIIILIE).1 (fun (r105_26:Bool) =>
      bif r105_26 then
       bif (inB x8_23 (List.length x5_21.1)) then
        bif (inB x9_24 (List.length x5_21.1)) then
         bif ((List.getD x5_21.1 (Int.toNat x8_23) zQIIIIILIE).2.1 == (List.getD x5_21.1 (Int.toNat x9_24) zQIIIIILIE).2.1) then
          k18_1_28 false
         else
          (L3_l18 N x4_20 x5_21 x6_22 x8_23 n_25 k18_0_27 k18_1_28) (IntKind.wrap .i64 (x9_24 + (1:Int)))
        else none
       else none
      else
       (L3_l18 N x4_20 x5_21 x6_22 x8_23 n_25 k18_0_27 k18_1_28) (IntKind.wrap .i64 (x9_24 + (1:Int))))
    else none
   else none
  else
   k18_0_27
noncomputable def L3_l15 (N:Nat) (x4_15:(List QIIIIE)) (x5_16:QLQIIIIILIELQIILIELQIIELILQIIIELQIIIIEIE) (x6_17:Int):Nat→(Option Ret)→(Bool→Option Ret)→Int→Option Ret
 | 0,_,_,_=>none
 | n_19 + 1,k15_0_31,k15_1_32,x8_18 =>
  bif (decide (x8_18 < (List.length x5_16.1:Int))) then
   L3_l18 N x4_15 x5_16 x6_17 x8_18 N ((L3_l15 N x4_15 x5_16 x6_17 n_19 k15_0_31 k15_1_32) (IntKind.wrap .i64 (x8_18 + (1:Int)))) k15_1_32 (0:Int)
  else
   k15_0_31
noncomputable def L3_l6 (N:Nat) (x4_4:(List QIIIIE)):Nat→(Option Ret)→(Bool→Option Ret)→QLQIIIIILIELQIILIELQIIELILQIIIELQIIIIEIE→Int→Option Ret
 | 0,_,_,_,_=>none
 | n_7 + 1,k6_0_35,k6_1_36,x5_5,x6_6 =>
  bif (decide (x6_6 < (List.length x4_4:Int))) then
   bif (inB x6_6 (List.length x4_4)) then
    I13 N x5_5 (List.getD x4_4 (Int.toNat x6_6) zQIIIIE) (fun (r31_8:QLQIIIIILIELQIILIELQIIELILQIIIELQIIIIEIE) (r31_9:Bool) =>
     I14 N r31_8 (fun (r35_10:ByteArray) =>
      bif (!(ByteArray.toList r35_10 == ByteArray.toList s_e)) then
       k6_1_36 false
      else
       I15 N r31_8.2.2.2.2.2.1 x5_5.2.2.2.2.2.1 (fun (r42_11:Bool) =>
        bif (!r42_11) then
         k6_1_36 false
        else
         bif (decide ((List.length r31_8.2.2.2.2.2.1:Int) > (IntKind.wrap .i64 ((List.length x5_5.2.2.2.2.2.1:Int) + (1:Int))))) then
          k6_1_36 false
         else
          I16 N r31_8 (fun (r56_12:Bool) =>
           bif r56_12 then
            I17 N r31_8.1 r31_8.2.2.1 (fun (r62_13:Bool) =>
             bif (!r62_13) then
              k6_1_36 false
             else
              I18 N r31_8.1 r31_8.2.1 r31_8.2.2.1 r31_8.2.2.2.1 (fun (r73_14:Bool) =>
               bif (!r73_14) then
                k6_1_36 false
               else
                L3_l15 N x4_4 r31_8 x6_6 N ((L3_l6 N x4_4 n_7 k6_0_35 k6_1_36) r31_8 (IntKind.wrap .i64 (x6_6 + (1:Int)))) k6_1_36 (0:Int)))
           else
            L3_l15 N x4_4 r31_8 x6_6 N ((L3_l6 N x4_4 n_7 k6_0_35 k6_1_36) r31_8 (IntKind.wrap .i64 (x6_6 + (1:Int)))) k6_1_36 (0:Int)))))
   else none
  else
   k6_0_35
noncomputable def L3 (N:Nat) (a0:(List Int)) (kf:Bool→Option Ret):Option Ret:=
 L11 N a0 (fun (r11_1:Bool) =>
  bif r11_1 then
   kf true
  else
   S12 N a0 (fun (r14_2:QLQIIIIILIELQIILIELQIIELILQIIIELQIIIIEIE) (r14_3:(List QIIIIE)) =>
    L3_l6 N r14_3 N (kf true) kf r14_2 (0:Int)))
end Go.Pv.R
