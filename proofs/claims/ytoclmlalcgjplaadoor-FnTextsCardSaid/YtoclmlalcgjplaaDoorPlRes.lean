/- What the functions compute, as plain functions. -/
import Derived.Test.YtoclmlalcgjplaaDoorPv4
namespace Go.Pv.R
set_option linter.unusedVariables false
set_option linter.unusedSimpArgs false
abbrev tQLIIIE:Ty:=(.pair (.sl (.int .u8)) (.pair (.int .i64) (.int .i64)))
abbrev QLIIIE:Type:=((List Int) × (Int × Int))
abbrev tQILLIE:Ty:=(.pair (.int .i64) (.sl (.sl (.int .i64))))
abbrev QILLIE:Type:=(Int × (List (List Int)))
abbrev tQIIIE:Ty:=(.pair (.int .i64) (.pair (.int .i64) (.int .i64)))
abbrev QIIIE:Type:=(Int × (Int × Int))
def zQIIIE:QIIIE:=((0:Int),((0:Int),(0:Int)))
noncomputable def s_e:ByteArray:=⟨#[]⟩
noncomputable def s_h20:ByteArray:=⟨#[32]⟩
noncomputable def s_h3e:ByteArray:=⟨#[62]⟩
noncomputable def s_0:ByteArray:=⟨#[48]⟩
noncomputable def s_h2d:ByteArray:=⟨#[45]⟩
noncomputable def s_h3320303e3120313e32:ByteArray:=⟨#[51,32,48,62,49,32,49,62,50]⟩
noncomputable def s_h3320313e3220303e31:ByteArray:=⟨#[51,32,49,62,50,32,48,62,49]⟩
noncomputable def s_h3320303e33:ByteArray:=⟨#[51,32,48,62,51]⟩
noncomputable def s_h3320303e:ByteArray:=⟨#[51,32,48,62]⟩
noncomputable def s_03:ByteArray:=⟨#[48,51]⟩
noncomputable def s_h2d31:ByteArray:=⟨#[45,49]⟩
noncomputable def s_h332020303e31:ByteArray:=⟨#[51,32,32,48,62,49]⟩
noncomputable def s_h3320303e313e32:ByteArray:=⟨#[51,32,48,62,49,62,50]⟩
noncomputable def s_11:ByteArray:=⟨#[49,49]⟩
noncomputable def s_abcdef:ByteArray:=⟨#[97,98,99,100,101,102]⟩
noncomputable def s_h21:ByteArray:=⟨#[33]⟩
noncomputable def s_h28:ByteArray:=⟨#[40]⟩
noncomputable def s_h267c3e:ByteArray:=⟨#[38,124,62]⟩
noncomputable def s_h29:ByteArray:=⟨#[41]⟩
noncomputable def s_h26:ByteArray:=⟨#[38]⟩
noncomputable def s_h7c:ByteArray:=⟨#[124]⟩
noncomputable def s_h2861266229:ByteArray:=⟨#[40,97,38,98,41]⟩
noncomputable def s_h612662:ByteArray:=⟨#[97,38,98]⟩
noncomputable def s_h212161:ByteArray:=⟨#[33,33,97]⟩
noncomputable def s_h286129:ByteArray:=⟨#[40,97,41]⟩
noncomputable def s_g:ByteArray:=⟨#[103]⟩
noncomputable def s_h28612629:ByteArray:=⟨#[40,97,38,41]⟩
noncomputable def s_h2828612662297c63:ByteArray:=⟨#[40,40,97,38,98,41,124,99]⟩
noncomputable def s_h28612a6229:ByteArray:=⟨#[40,97,42,98,41]⟩
noncomputable def s_h28613e28627c21632929:ByteArray:=⟨#[40,97,62,40,98,124,33,99,41,41]⟩
noncomputable def s_h3f2b2d212e:ByteArray:=⟨#[63,43,45,33,46]⟩
noncomputable def s_h3a:ByteArray:=⟨#[58]⟩
noncomputable def s_h2c:ByteArray:=⟨#[44]⟩
noncomputable def s_h7b:ByteArray:=⟨#[123]⟩
noncomputable def s_h7d:ByteArray:=⟨#[125]⟩
noncomputable def L4 (N:Nat) (a0:(List Int)) (kf:Bool→Option Ret):Option Ret:=
 kf (decide ((List.length a0:Int) > (1048576:Int)))
noncomputable def S30_l3 (x0_1:(List Int)):Nat→(Int→Option Ret)→Int→Int→Option Ret
 | 0,_,_,_=>none
 | n_4 + 1,k3_0_5,x3_2,x4_3 =>
  bif (decide (x4_3 < (List.length x0_1:Int))) then
   bif (decide (x4_3 < (4000:Int))) then
    bif (inB x4_3 (List.length x0_1)) then
     (S30_l3 x0_1 n_4 k3_0_5) (IntKind.wrap .i64 (BitVec.toNat (BitVec.ofInt (IntKind.bits .i64) (IntKind.wrap .i64 ((IntKind.wrap .i64 ((IntKind.wrap .i64 (x3_2 * (137:Int))) + (IntKind.wrap .i64 (List.getD x0_1 (Int.toNat x4_3) (0:Int))))) + (11:Int))) &&& BitVec.ofInt (IntKind.bits .i64) (1073741823:Int)))) (IntKind.wrap .i64 (x4_3 + (1:Int)))
    else none
   else
    k3_0_5 x3_2
  else
   k3_0_5 x3_2
noncomputable def S30 (N:Nat) (a0:(List Int)) (kf:QLIIIE→Option Ret):Option Ret:=
 S30_l3 a0 N (fun (z3_7:Int) =>
  kf (a0,((0:Int),z3_7))) (IntKind.wrap .i64 ((193017:Int) + (List.length a0:Int))) (0:Int)
noncomputable def S68 (N:Nat) (a0:QLIIIE) (kf:Int→QLIIIE→Option Ret):Option Ret:=
 share (IntKind.wrap .i64 ((IntKind.wrap .i64 (a0.2.2 * (6364136223846793005:Int))) + (1442695040888963407:Int))) (fun (w0_1:Int) =>
  bif (decide (0≤(33:Int))) then
   bif (decide (0≤(47:Int))) then
    bif (decide (a0.2.1 < (List.length a0.1:Int))) then
     bif (inB a0.2.1 (List.length a0.1)) then
      kf (IntKind.wrap .i64 (BitVec.toNat (BitVec.ofInt (IntKind.bits .i64) (IntKind.wrap .i64 ((IntKind.wrap .i64 (BitVec.toNat (BitVec.ofInt (IntKind.bits .i64) (IntKind.wrap .i64 (BitVec.toNat (BitVec.ofInt (IntKind.bits .i64) (Int.fdiv w0_1 (2 ^ (min (Int.toNat (33:Int)) (IntKind.bits .i64)))) ^^^ BitVec.ofInt (IntKind.bits .i64) (Int.fdiv w0_1 (2 ^ (min (Int.toNat (47:Int)) (IntKind.bits .i64))))))) &&& BitVec.ofInt (IntKind.bits .i64) (255:Int)))) + (IntKind.wrap .i64 (List.getD a0.1 (Int.toNat a0.2.1) (0:Int))))) &&& BitVec.ofInt (IntKind.bits .i64) (255:Int)))) (a0.1,((IntKind.wrap .i64 (a0.2.1 + (1:Int))),w0_1))
     else none
    else
     kf (IntKind.wrap .i64 (BitVec.toNat (BitVec.ofInt (IntKind.bits .i64) (IntKind.wrap .i64 (BitVec.toNat (BitVec.ofInt (IntKind.bits .i64) (Int.fdiv w0_1 (2 ^ (min (Int.toNat (33:Int)) (IntKind.bits .i64)))) ^^^ BitVec.ofInt (IntKind.bits .i64) (Int.fdiv w0_1 (2 ^ (min (Int.toNat (47:Int)) (IntKind.bits .i64))))))) &&& BitVec.ofInt (IntKind.bits .i64) (255:Int)))) (a0.1,(a0.2.1,w0_1))
   else none
  else none)
noncomputable def S48 (N:Nat) (a0:QLIIIE) (a1:Int) (kf:Int→QLIIIE→Option Ret):Option Ret:=
 bif (decide (a1≤(0:Int))) then
  kf (0:Int) a0
 else
  bif (decide (a1≤(256:Int))) then
   S68 N a0 (fun (r13_1:Int) (z0_2:QLIIIE) =>
    bif (!decide (a1=0)) then
     kf (Int.tmod r13_1 a1) z0_2
    else none)
  else
   S68 N a0 (fun (r17_3:Int) (z0_4:QLIIIE) =>
    S68 N z0_4 (fun (r19_5:Int) (z0_6:QLIIIE) =>
     S68 N z0_6 (fun (r21_7:Int) (z0_8:QLIIIE) =>
      bif (!decide (a1=0)) then
       kf (Int.tmod (IntKind.wrap .i64 ((IntKind.wrap .i64 ((IntKind.wrap .i64 (r17_3 * (65536:Int))) + (IntKind.wrap .i64 (r19_5 * (256:Int))))) + r21_7)) a1) z0_8
      else none)))
noncomputable def S66 (N:Nat) (a0:Int) (a1:Int) (a2:Int) (kf:Bool→Option Ret):Option Ret:=
 bif (decide (a0 ≥ a1)) then
  kf (decide (a0≤a2))
 else
  kf false
noncomputable def S45_l2 (N:Nat) (x1_1:QILLIE):Nat→(Option Ret)→(Bool→Option Ret)→Int→Option Ret
 | 0,_,_,_=>none
 | n_3 + 1,k2_0_6,k2_1_7,x3_2 =>
  bif (decide (x3_2 < (List.length x1_1.2:Int))) then
   bif (inB x3_2 (List.length x1_1.2)) then
    bif ((List.length (List.getD x1_1.2 (Int.toNat x3_2) ([]:(List Int))):Int) != (2:Int)) then
     k2_1_7 false
    else
     bif (inB (0:Int) (List.length (List.getD x1_1.2 (Int.toNat x3_2) ([]:(List Int))))) then
      S66 N (List.getD (List.getD x1_1.2 (Int.toNat x3_2) ([]:(List Int))) (Int.toNat (0:Int)) (0:Int)) (0:Int) (IntKind.wrap .i64 (x1_1.1 - (1:Int))) (fun (r28_4:Bool) =>
       bif (!r28_4) then
        k2_1_7 false
       else
        bif (inB (1:Int) (List.length (List.getD x1_1.2 (Int.toNat x3_2) ([]:(List Int))))) then
         S66 N (List.getD (List.getD x1_1.2 (Int.toNat x3_2) ([]:(List Int))) (Int.toNat (1:Int)) (0:Int)) (0:Int) (IntKind.wrap .i64 (x1_1.1 - (1:Int))) (fun (r38_5:Bool) =>
          bif (!r38_5) then
           k2_1_7 false
          else
           bif (decide (x3_2 > (0:Int))) then
            bif (inB (IntKind.wrap .i64 (x3_2 - (1:Int))) (List.length x1_1.2)) then
             bif (inB (0:Int) (List.length (List.getD x1_1.2 (Int.toNat (IntKind.wrap .i64 (x3_2 - (1:Int)))) ([]:(List Int))))) then
              bif (inB (0:Int) (List.length (List.getD x1_1.2 (Int.toNat x3_2) ([]:(List Int))))) then
               bif (decide ((List.getD (List.getD x1_1.2 (Int.toNat (IntKind.wrap .i64 (x3_2 - (1:Int)))) ([]:(List Int))) (Int.toNat (0:Int)) (0:Int)) > (List.getD (List.getD x1_1.2 (Int.toNat x3_2) ([]:(List Int))) (Int.toNat (0:Int)) (0:Int)))) then
                k2_1_7 false
               else
                bif (inB (0:Int) (List.length (List.getD x1_1.2 (Int.toNat (IntKind.wrap .i64 (x3_2 - (1:Int)))) ([]:(List Int))))) then
                 bif (inB (0:Int) (List.length (List.getD x1_1.2 (Int.toNat x3_2) ([]:(List Int))))) then
                  bif ((List.getD (List.getD x1_1.2 (Int.toNat (IntKind.wrap .i64 (x3_2 - (1:Int)))) ([]:(List Int))) (Int.toNat (0:Int)) (0:Int)) == (List.getD (List.getD x1_1.2 (Int.toNat x3_2) ([]:(List Int))) (Int.toNat (0:Int)) (0:Int))) then
                   bif (inB (1:Int) (List.length (List.getD x1_1.2 (Int.toNat (IntKind.wrap .i64 (x3_2 - (1:Int)))) ([]:(List Int))))) then
                    bif (inB (1:Int) (List.length (List.getD x1_1.2 (Int.toNat x3_2) ([]:(List Int))))) then
                     bif (decide ((List.getD (List.getD x1_1.2 (Int.toNat (IntKind.wrap .i64 (x3_2 - (1:Int)))) ([]:(List Int))) (Int.toNat (1:Int)) (0:Int)) ≥ (List.getD (List.getD x1_1.2 (Int.toNat x3_2) ([]:(List Int))) (Int.toNat (1:Int)) (0:Int)))) then
                      k2_1_7 false
                     else
                      (S45_l2 N x1_1 n_3 k2_0_6 k2_1_7) (IntKind.wrap .i64 (x3_2 + (1:Int)))
                    else none
                   else none
                  else
                   (S45_l2 N x1_1 n_3 k2_0_6 k2_1_7) (IntKind.wrap .i64 (x3_2 + (1:Int)))
                 else none
                else none
              else none
             else none
            else none
           else
            (S45_l2 N x1_1 n_3 k2_0_6 k2_1_7) (IntKind.wrap .i64 (x3_2 + (1:Int))))
        else none)
     else none
   else none
  else
   k2_0_6
noncomputable def S45 (N:Nat) (a0:QILLIE) (kf:Bool→Option Ret):Option Ret:=
 S45_l2 N a0 N (S66 N a0.1 (0:Int) (10:Int) kf) kf (0:Int)
noncomputable def S83_l3 (x1_1:QILLIE) (x2_2:QILLIE):Nat→(QILLIE→Option Ret)→QILLIE→Int→Option Ret
 | 0,_,_,_=>none
 | n_5 + 1,k3_0_6,x3_3,x4_4 =>
  bif (decide (x4_4 < (List.length x1_1.2:Int))) then
   bif (inB x4_4 (List.length x1_1.2)) then
    bif (decide ((List.length ([]:(List Int)) + List.length (List.getD x1_1.2 (Int.toNat x4_4) ([]:(List Int)))) * 1≤4398046511104)) then
     bif (decide ((List.length x3_3.2 + List.length [(([]:(List Int)) ++ (List.getD x1_1.2 (Int.toNat x4_4) ([]:(List Int))))]) * 1≤4398046511104)) then
      (S83_l3 x1_1 x2_2 n_5 k3_0_6) (x3_3.1,(x3_3.2 ++ [(([]:(List Int)) ++ (List.getD x1_1.2 (Int.toNat x4_4) ([]:(List Int))))])) (IntKind.wrap .i64 (x4_4 + (1:Int)))
     else none
    else none
   else none
  else
   k3_0_6 x3_3
noncomputable def S83 (N:Nat) (a0:QILLIE) (kf:QILLIE→Option Ret):Option Ret:=
 S83_l3 a0 ((0:Int),([]:(List (List Int)))) N kf (a0.1,([]:(List (List Int)))) (0:Int)
noncomputable def S67_j3 (N:Nat) (a0:QILLIE) (kf:QILLIE→Bool→Option Ret) (y8_14:QILLIE):Option Ret:=
 S45 N a0 (fun (r81_15:Bool) =>
  bif (!r81_15) then
   S83 N a0 (fun (r89_17:QILLIE) =>
    kf r89_17 false)
  else
   S45 N y8_14 (fun (r85_16:Bool) =>
    bif (!r85_16) then
     S83 N a0 (fun (r89_18:QILLIE) =>
      kf r89_18 false)
    else
     kf y8_14 true))
noncomputable def S67_j1 (rc4_11:QILLIE→Bool→Int→Option Ret) (x10_7:Int) (x1_1:Int) (x2_2:Int) (x3_3:QILLIE) (x8_5:QILLIE):Option Ret:=
 bif (decide ((List.length ([]:(List Int)) + List.length (List.getD x3_3.2 (Int.toNat x10_7) ([]:(List Int)))) * 1≤4398046511104)) then
  bif (decide ((List.length (x8_5.2 ++ [[x1_1,x2_2]]) + List.length [(([]:(List Int)) ++ (List.getD x3_3.2 (Int.toNat x10_7) ([]:(List Int))))]) * 1≤4398046511104)) then
   rc4_11 (x8_5.1,((x8_5.2 ++ [[x1_1,x2_2]]) ++ [(([]:(List Int)) ++ (List.getD x3_3.2 (Int.toNat x10_7) ([]:(List Int))))])) true (IntKind.wrap .i64 (x10_7 + (1:Int)))
  else none
 else none
noncomputable def S67_j2 (rc4_11:QILLIE→Bool→Int→Option Ret) (x10_7:Int) (x3_3:QILLIE) (x8_5:QILLIE) (x9_6:Bool):Option Ret:=
 bif (decide ((List.length ([]:(List Int)) + List.length (List.getD x3_3.2 (Int.toNat x10_7) ([]:(List Int)))) * 1≤4398046511104)) then
  bif (decide ((List.length x8_5.2 + List.length [(([]:(List Int)) ++ (List.getD x3_3.2 (Int.toNat x10_7) ([]:(List Int))))]) * 1≤4398046511104)) then
   rc4_11 (x8_5.1,(x8_5.2 ++ [(([]:(List Int)) ++ (List.getD x3_3.2 (Int.toNat x10_7) ([]:(List Int))))])) x9_6 (IntKind.wrap .i64 (x10_7 + (1:Int)))
  else none
 else none
noncomputable def S67_l4 (N:Nat) (x1_1:Int) (x2_2:Int) (x3_3:QILLIE) (x6_4:QILLIE):Nat→(QILLIE→Bool→Option Ret)→QILLIE→Bool→Int→Option Ret
 | 0,_,_,_,_=>none
 | n_8 + 1,k4_0_10,x8_5,x9_6,x10_7 =>
  bif (decide (x10_7 < (List.length x3_3.2:Int))) then
   S45 N x3_3 (fun (r22_9:Bool) =>
    bif r22_9 then
     bif (inB x10_7 (List.length x3_3.2)) then
      bif (!x9_6) then
       bif (inB (0:Int) (List.length (List.getD x3_3.2 (Int.toNat x10_7) ([]:(List Int))))) then
        bif (decide ((List.getD (List.getD x3_3.2 (Int.toNat x10_7) ([]:(List Int))) (Int.toNat (0:Int)) (0:Int)) > x1_1)) then
         bif (decide ((List.length x8_5.2 + List.length [[x1_1,x2_2]]) * 1≤4398046511104)) then
          S67_j1 (S67_l4 N x1_1 x2_2 x3_3 x6_4 n_8 k4_0_10) x10_7 x1_1 x2_2 x3_3 x8_5
         else none
        else
         bif (inB (0:Int) (List.length (List.getD x3_3.2 (Int.toNat x10_7) ([]:(List Int))))) then
          bif ((List.getD (List.getD x3_3.2 (Int.toNat x10_7) ([]:(List Int))) (Int.toNat (0:Int)) (0:Int)) == x1_1) then
           bif (inB (1:Int) (List.length (List.getD x3_3.2 (Int.toNat x10_7) ([]:(List Int))))) then
            bif (decide ((List.getD (List.getD x3_3.2 (Int.toNat x10_7) ([]:(List Int))) (Int.toNat (1:Int)) (0:Int)) > x2_2)) then
             bif (decide ((List.length x8_5.2 + List.length [[x1_1,x2_2]]) * 1≤4398046511104)) then
              S67_j1 (S67_l4 N x1_1 x2_2 x3_3 x6_4 n_8 k4_0_10) x10_7 x1_1 x2_2 x3_3 x8_5
             else none
            else
             S67_j2 (S67_l4 N x1_1 x2_2 x3_3 x6_4 n_8 k4_0_10) x10_7 x3_3 x8_5 x9_6
           else none
          else
           S67_j2 (S67_l4 N x1_1 x2_2 x3_3 x6_4 n_8 k4_0_10) x10_7 x3_3 x8_5 x9_6
         else none
       else none
      else
       S67_j2 (S67_l4 N x1_1 x2_2 x3_3 x6_4 n_8 k4_0_10) x10_7 x3_3 x8_5 x9_6
     else none
    else
     k4_0_10 x8_5 x9_6)
  else
   k4_0_10 x8_5 x9_6
noncomputable def S67 (N:Nat) (a0:QILLIE) (a1:Int) (a2:Int) (kf:QILLIE→Bool→Option Ret):Option Ret:=
 S67_l4 N a1 a2 a0 ((0:Int),([]:(List (List Int)))) N (fun (z8_12:QILLIE) (z9_13:Bool) =>
  bif (!z9_13) then
   bif (decide ((List.length z8_12.2 + List.length [[a1,a2]]) * 1≤4398046511104)) then
    S67_j3 N a0 kf (z8_12.1,(z8_12.2 ++ [[a1,a2]]))
   else none
  else
   S67_j3 N a0 kf z8_12) (a0.1,([]:(List (List Int)))) false (0:Int)
noncomputable def S47_l3 (N:Nat) (x2_6:QILLIE):Nat→(QLIIIE→QILLIE→Option Ret)→QLIIIE→QILLIE→Int→Option Ret
 | 0,_,_,_,_=>none
 | n_9 + 1,k3_0_16,x0_5,x3_7,x4_8 =>
  bif (decide (x4_8 > (0:Int))) then
   S48 N x0_5 x3_7.1 (fun (r20_10:Int) (z0_11:QLIIIE) =>
    S48 N z0_11 x3_7.1 (fun (r24_12:Int) (z0_13:QLIIIE) =>
     S67 N x3_7 r20_10 r24_12 (fun (r25_14:QILLIE) (r25_15:Bool) =>
      (S47_l3 N x2_6 n_9 k3_0_16) z0_13 r25_14 (IntKind.wrap .i64 (x4_8 - (1:Int))))))
  else
   k3_0_16 x0_5 x3_7
noncomputable def S47 (N:Nat) (a0:QLIIIE) (kf:QILLIE→QLIIIE→Option Ret):Option Ret:=
 S48 N a0 (6:Int) (fun (r6_1:Int) (z0_2:QLIIIE) =>
  S48 N z0_2 (10:Int) (fun (r10_3:Int) (z0_4:QLIIIE) =>
   S47_l3 N ((0:Int),([]:(List (List Int)))) N (fun (z0_18:QLIIIE) (z3_19:QILLIE) =>
    kf z3_19 z0_18) z0_4 ((IntKind.wrap .i64 ((1:Int) + r6_1)),([]:(List (List Int)))) r10_3))
noncomputable def S55 (N:Nat) (a0:QLIIIE) (a1:(List Int)) (kf:Int→QLIIIE→Option Ret):Option Ret:=
 S48 N a0 (List.length a1:Int) (fun (r9_1:Int) (z0_2:QLIIIE) =>
  bif (inB r9_1 (List.length a1)) then
   kf (List.getD a1 (Int.toNat r9_1) (0:Int)) z0_2
  else none)
noncomputable def S49 (N:Nat) (a0:QLIIIE) (kf:Int→QLIIIE→Option Ret):Option Ret:=
 S55 N a0 [(-1:Int),(0:Int),(5:Int),(10:Int),(11:Int),(9223372036854775807:Int),(-9223372036854775808:Int)] kf
noncomputable def S32 (N:Nat) (a0:QLIIIE) (kf:QILLIE→QLIIIE→Option Ret):Option Ret:=
 S47 N a0 (fun (r5_1:QILLIE) (z0_2:QLIIIE) =>
  S48 N z0_2 (14:Int) (fun (r7_3:Int) (z0_4:QLIIIE) =>
   bif (r7_3 == (0:Int)) then
    S49 N z0_4 (fun (r11_5:Int) (z0_6:QLIIIE) =>
     kf (r11_5,r5_1.2) z0_6)
   else
    bif (r7_3 == (1:Int)) then
     bif (decide ((List.length r5_1.2 + List.length [[(0:Int)]]) * 1≤4398046511104)) then
      kf (r5_1.1,(r5_1.2 ++ [[(0:Int)]])) z0_4
     else none
    else
     bif (r7_3 == (2:Int)) then
      S48 N z0_4 (7:Int) (fun (r26_7:Int) (z0_8:QLIIIE) =>
       S48 N z0_8 (7:Int) (fun (r28_9:Int) (z0_10:QLIIIE) =>
        bif (decide ((List.length r5_1.2 + List.length [[r26_7,r28_9]]) * 1≤4398046511104)) then
         kf (r5_1.1,(r5_1.2 ++ [[r26_7,r28_9]])) z0_10
        else none))
     else
      kf r5_1 z0_4))
noncomputable def S20 (N:Nat) (a0:(List Int)) (kf:QILLIE→Option Ret):Option Ret:=
 S30 N a0 (fun (r5_1:QLIIIE) =>
  S32 N r5_1 (fun (r7_2:QILLIE) (z3_3:QLIIIE) =>
   kf r7_2))
noncomputable def S5 (N:Nat) (a0:(List Int)) (kf:QILLIE→Option Ret):Option Ret:=
 S20 N a0 kf
noncomputable def I25 (N:Nat) (a0:Int) (a1:Int) (a2:Int) (kf:Bool→Option Ret):Option Ret:=
 bif (decide (a1≤a0)) then
  kf (decide (a0≤a2))
 else
  kf false
noncomputable def I26 (N:Nat) (a0:QILLIE) (a1:Int) (kf:Bool→Option Ret):Option Ret:=
 I25 N a1 (0:Int) (IntKind.wrap .i64 (a0.1 - (1:Int))) kf
noncomputable def C65 (N:Nat) (a0:Int) (kf:Bool→Option Ret):Option Ret:=
 kf (a0 != a0)
noncomputable def C44 (N:Nat) (a0:Int) (a1:Int) (kf:Int→Option Ret):Option Ret:=
 C65 N a0 (fun (r8_1:Bool) =>
  C65 N a1 (fun (r10_2:Bool) =>
   bif r8_1 then
    bif r10_2 then
     kf (0:Int)
    else
     kf (-1:Int)
   else
    bif r10_2 then
     kf (1:Int)
    else
     bif (decide (a0 < a1)) then
      kf (-1:Int)
     else
      bif (decide (a0 > a1)) then
       kf (1:Int)
      else
       kf (0:Int)))
noncomputable def S27_l2 (N:Nat) (x0_1:(List Int)) (x1_2:(List Int)) (x9_3:(List Int)) (x10_4:Int):Nat→(Option Ret)→(Int→Option Ret)→Int→Option Ret
 | 0,_,_,_=>none
 | n_6 + 1,k2_0_8,k2_1_9,x11_5 =>
  bif (decide (x11_5 < x10_4)) then
   bif (inB x11_5 (List.length x9_3)) then
    bif (decide (x11_5 ≥ (List.length x1_2:Int))) then
     k2_1_9 (1:Int)
    else
     bif (inB x11_5 (List.length x1_2)) then
      C44 N (List.getD x9_3 (Int.toNat x11_5) (0:Int)) (List.getD x1_2 (Int.toNat x11_5) (0:Int)) (fun (r26_7:Int) =>
       bif (r26_7 != (0:Int)) then
        k2_1_9 r26_7
       else
        (S27_l2 N x0_1 x1_2 x9_3 x10_4 n_6 k2_0_8 k2_1_9) (IntKind.wrap .i64 (x11_5 + (1:Int))))
     else none
   else none
  else
   k2_0_8
noncomputable def S27 (N:Nat) (a0:(List Int)) (a1:(List Int)) (kf:Int→Option Ret):Option Ret:=
 S27_l2 N a0 a1 a0 (List.length a0:Int) N (
  bif (decide ((List.length a0:Int) < (List.length a1:Int))) then
   kf (-1:Int)
  else
   kf (0:Int)) kf (0:Int)
noncomputable def I8_l4 (N:Nat) (x1_2:QILLIE) (x10_3:(List (List Int))) (x11_4:Int):Nat→(Option Ret)→(Bool→Option Ret)→Int→Option Ret
 | 0,_,_,_=>none
 | n_6 + 1,k4_0_10,k4_1_11,x12_5 =>
  bif (decide (x12_5 < x11_4)) then
   bif (inB x12_5 (List.length x10_3)) then
    bif ((List.length (List.getD x10_3 (Int.toNat x12_5) ([]:(List Int))):Int) != (2:Int)) then
     k4_1_11 false
    else
     bif (inB (0:Int) (List.length (List.getD x10_3 (Int.toNat x12_5) ([]:(List Int))))) then
      I26 N x1_2 (List.getD (List.getD x10_3 (Int.toNat x12_5) ([]:(List Int))) (Int.toNat (0:Int)) (0:Int)) (fun (r25_7:Bool) =>
       bif (!r25_7) then
        k4_1_11 false
       else
        bif (inB (1:Int) (List.length (List.getD x10_3 (Int.toNat x12_5) ([]:(List Int))))) then
         I26 N x1_2 (List.getD (List.getD x10_3 (Int.toNat x12_5) ([]:(List Int))) (Int.toNat (1:Int)) (0:Int)) (fun (r33_8:Bool) =>
          bif (!r33_8) then
           k4_1_11 false
          else
           bif (decide (x12_5 > (0:Int))) then
            bif (inB (IntKind.wrap .i64 (x12_5 - (1:Int))) (List.length x1_2.2)) then
             S27 N (List.getD x1_2.2 (Int.toNat (IntKind.wrap .i64 (x12_5 - (1:Int)))) ([]:(List Int))) (List.getD x10_3 (Int.toNat x12_5) ([]:(List Int))) (fun (r47_9:Int) =>
              bif (decide (r47_9 ≥ (0:Int))) then
               k4_1_11 false
              else
               (I8_l4 N x1_2 x10_3 x11_4 n_6 k4_0_10 k4_1_11) (IntKind.wrap .i64 (x12_5 + (1:Int))))
            else none
           else
            (I8_l4 N x1_2 x10_3 x11_4 n_6 k4_0_10 k4_1_11) (IntKind.wrap .i64 (x12_5 + (1:Int))))
        else none)
     else none
   else none
  else
   k4_0_10
noncomputable def I8 (N:Nat) (a0:QILLIE) (kf:Bool→Option Ret):Option Ret:=
 I25 N a0.1 (0:Int) (10:Int) (fun (r7_1:Bool) =>
  bif (!r7_1) then
   kf false
  else
   I8_l4 N a0 a0.2 (List.length a0.2:Int) N (kf true) kf (0:Int))
noncomputable def S43 (N:Nat) (a0:Int) (kf:ByteArray→Option Ret):Option Ret:=
 bif (decide ((-9223372036854775808:Int)≤a0) && decide (a0≤(9223372036854775807:Int))) then
  kf (itoaB a0)
 else none
noncomputable def I24 (N:Nat) (a0:Int) (kf:ByteArray→Option Ret):Option Ret:=
 S43 N a0 kf
noncomputable def I7_l5 (N:Nat) (x13_4:(List (List Int))) (x14_5:Int):Nat→(ByteArray→Option Ret)→ByteArray→Int→Option Ret
 | 0,_,_,_=>none
 | n_7 + 1,k5_0_10,x3_3,x15_6 =>
  bif (decide (x15_6 < x14_5)) then
   bif (inB x15_6 (List.length x13_4)) then
    bif (inB (0:Int) (List.length (List.getD x13_4 (Int.toNat x15_6) ([]:(List Int))))) then
     bif (inB (1:Int) (List.length (List.getD x13_4 (Int.toNat x15_6) ([]:(List Int))))) then
      I24 N (List.getD (List.getD x13_4 (Int.toNat x15_6) ([]:(List Int))) (Int.toNat (0:Int)) (0:Int)) (fun (r23_8:ByteArray) =>
       bif (decide (ByteArray.size s_h20 + ByteArray.size r23_8≤9223372036854775807)) then
        bif (decide (ByteArray.size (s_h20 ++ r23_8) + ByteArray.size s_h3e≤9223372036854775807)) then
         I24 N (List.getD (List.getD x13_4 (Int.toNat x15_6) ([]:(List Int))) (Int.toNat (1:Int)) (0:Int)) (fun (r29_9:ByteArray) =>
          bif (decide (ByteArray.size ((s_h20 ++ r23_8) ++ s_h3e) + ByteArray.size r29_9≤9223372036854775807)) then
           bif (decide (ByteArray.size x3_3 + ByteArray.size (((s_h20 ++ r23_8) ++ s_h3e) ++ r29_9)≤9223372036854775807)) then
            (I7_l5 N x13_4 x14_5 n_7 k5_0_10) (x3_3 ++ (((s_h20 ++ r23_8) ++ s_h3e) ++ r29_9)) (IntKind.wrap .i64 (x15_6 + (1:Int)))
           else none
          else none)
        else none
       else none)
     else none
    else none
   else none
  else
   k5_0_10 x3_3
noncomputable def I7 (N:Nat) (a0:QILLIE) (kf:ByteArray→Option Ret):Option Ret:=
 I8 N a0 (fun (r7_1:Bool) =>
  bif (!r7_1) then
   kf s_e
  else
   I24 N a0.1 (fun (r11_2:ByteArray) =>
    I7_l5 N a0.2 (List.length a0.2:Int) N kf r11_2 (0:Int)))
noncomputable def S21 (N:Nat) (a0:ByteArray) (a1:ByteArray) (kf:(List ByteArray)→Option Ret):Option Ret:=
 bif (Nat.blt (ByteArray.size a0) 4294967281 && Nat.beq (ByteArray.size a1) 1) then
  kf (splitL a0 a1)
 else none
noncomputable def I22_l5 (x0_1:ByteArray) (x25_3:Int):Nat→(Int→Option Ret)→(Int→Bool→Option Ret)→Int→Int→Option Ret
 | 0,_,_,_,_=>none
 | n_5 + 1,k5_0_6,k5_1_7,x4_2,x26_4 =>
  bif (decide (x26_4 < x25_3)) then
   bif (inB x26_4 (ByteArray.size x0_1)) then
    bif (decide ((bt x0_1 x26_4) < (48:Int))) then
     k5_1_7 (0:Int) false
    else
     bif (inB x26_4 (ByteArray.size x0_1)) then
      bif (decide ((bt x0_1 x26_4) > (57:Int))) then
       k5_1_7 (0:Int) false
      else
       bif (inB x26_4 (ByteArray.size x0_1)) then
        (I22_l5 x0_1 x25_3 n_5 k5_0_6 k5_1_7) (IntKind.wrap .i64 ((IntKind.wrap .i64 ((10:Int) * x4_2)) + (IntKind.wrap .i64 (IntKind.wrap .u8 ((bt x0_1 x26_4) - (48:Int)))))) (IntKind.wrap .i64 (x26_4 + (1:Int)))
       else none
     else none
   else none
  else
   k5_0_6 x4_2
noncomputable def I22_j1 (N:Nat) (a0:ByteArray) (kf:Int→Bool→Option Ret):Option Ret:=
 I22_l5 a0 (ByteArray.size a0:Int) N (fun (z4_9:Int) =>
  bif (decide (z4_9 > (1000000000000:Int))) then
   kf (0:Int) false
  else
   kf z4_9 true) kf (0:Int) (0:Int)
noncomputable def I22 (N:Nat) (a0:ByteArray) (kf:Int→Bool→Option Ret):Option Ret:=
 bif ((ByteArray.size a0:Int) == (0:Int)) then
  kf (0:Int) false
 else
  bif (decide ((ByteArray.size a0:Int) > (13:Int))) then
   kf (0:Int) false
  else
   bif (decide ((ByteArray.size a0:Int) > (1:Int))) then
    bif (inB (0:Int) (ByteArray.size a0)) then
     bif ((bt a0 (0:Int)) == (48:Int)) then
      kf (0:Int) false
     else
      I22_j1 N a0 kf
    else none
   else
    I22_j1 N a0 kf
noncomputable def S23 (N:Nat) (a0:ByteArray) (a1:ByteArray) (kf:ByteArray→ByteArray→Bool→Option Ret):Option Ret:=
 bif (Nat.blt (ByteArray.size a0) 4294967281 && Nat.beq (ByteArray.size a1) 1) then
  kf (cutA a0 a1) (cutB a0 a1) (cutF a0 a1)
 else none
noncomputable def I6_l5 (N:Nat) (x0_4:ByteArray) (x2_5:QILLIE) (x30_8:(List ByteArray)) (x31_9:Int):Nat→(Bool→QILLIE→Option Ret)→Bool→QILLIE→Int→Option Ret
 | 0,_,_,_,_=>none
 | n_11 + 1,k5_0_19,x6_6,x7_7,x32_10 =>
  bif (decide (x32_10 < x31_9)) then
   bif (inB x32_10 (List.length x30_8)) then
    S23 N (List.getD x30_8 (Int.toNat x32_10) ByteArray.empty) s_h3e (fun (r38_12:ByteArray) (r38_13:ByteArray) (r38_14:Bool) =>
     I22 N r38_12 (fun (r44_15:Int) (r44_16:Bool) =>
      I22 N r38_13 (fun (r49_17:Int) (r49_18:Bool) =>
       bif x6_6 then
        bif r44_16 then
         bif (decide ((List.length x7_7.2 + List.length [[r44_15,r49_17]]) * 1≤4398046511104)) then
          (I6_l5 N x0_4 x2_5 x30_8 x31_9 n_11 k5_0_19) r49_18 (x7_7.1,(x7_7.2 ++ [[r44_15,r49_17]])) (IntKind.wrap .i64 (x32_10 + (1:Int)))
         else none
        else
         bif (decide ((List.length x7_7.2 + List.length [[r44_15,r49_17]]) * 1≤4398046511104)) then
          (I6_l5 N x0_4 x2_5 x30_8 x31_9 n_11 k5_0_19) false (x7_7.1,(x7_7.2 ++ [[r44_15,r49_17]])) (IntKind.wrap .i64 (x32_10 + (1:Int)))
         else none
       else
        bif (decide ((List.length x7_7.2 + List.length [[r44_15,r49_17]]) * 1≤4398046511104)) then
         (I6_l5 N x0_4 x2_5 x30_8 x31_9 n_11 k5_0_19) false (x7_7.1,(x7_7.2 ++ [[r44_15,r49_17]])) (IntKind.wrap .i64 (x32_10 + (1:Int)))
        else none)))
   else none
  else
   k5_0_19 x6_6 x7_7
noncomputable def I6 (N:Nat) (a0:ByteArray) (kf:QILLIE→Bool→Option Ret):Option Ret:=
 S21 N a0 s_h20 (fun (r18_1:(List ByteArray)) =>
  bif (inB (0:Int) (List.length r18_1)) then
   I22 N (List.getD r18_1 (Int.toNat (0:Int)) ByteArray.empty) (fun (r23_2:Int) (r23_3:Bool) =>
    bif (decide ((0:Int)≤(1:Int)) && decide ((1:Int)≤(List.length r18_1:Int)) && decide ((List.length r18_1:Int)≤(List.length r18_1:Int))) then
     I6_l5 N a0 ((0:Int),([]:(List (List Int)))) (List.drop (Int.toNat (1:Int)) (List.take (Int.toNat (List.length r18_1:Int)) r18_1)) (List.length (List.drop (Int.toNat (1:Int)) (List.take (Int.toNat (List.length r18_1:Int)) r18_1)):Int) N (fun (z6_21:Bool) (z7_22:QILLIE) =>
      bif (!z6_21) then
       kf ((0:Int),([]:(List (List Int)))) false
      else
       I7 N z7_22 (fun (r72_23:ByteArray) =>
        bif (!(ByteArray.toList r72_23 == ByteArray.toList a0)) then
         kf ((0:Int),([]:(List (List Int)))) false
        else
         kf z7_22 true)) r23_3 (r23_2,([]:(List (List Int)))) (0:Int)
    else none)
  else none)
noncomputable def S29_l4 (x0_1:(List Int)) (x1_2:(List Int)) (x12_3:Int):Nat→(Option Ret)→(Bool→Option Ret)→Int→Option Ret
 | 0,_,_,_=>none
 | n_5 + 1,k4_0_6,k4_1_7,x13_4 =>
  bif (decide (x13_4 < x12_3)) then
   bif (inB x13_4 (List.length x0_1)) then
    bif (inB x13_4 (List.length x1_2)) then
     bif ((List.getD x0_1 (Int.toNat x13_4) (0:Int)) != (List.getD x1_2 (Int.toNat x13_4) (0:Int))) then
      k4_1_7 false
     else
      (S29_l4 x0_1 x1_2 x12_3 n_5 k4_0_6 k4_1_7) (IntKind.wrap .i64 (x13_4 + (1:Int)))
    else none
   else none
  else
   k4_0_6
noncomputable def S29 (N:Nat) (a0:(List Int)) (a1:(List Int)) (kf:Bool→Option Ret):Option Ret:=
 bif ((List.length a0:Int) != (List.length a1:Int)) then
  kf false
 else
  S29_l4 a0 a1 (List.length a0:Int) N (kf true) kf (0:Int)
noncomputable def S28_l4 (N:Nat) (x1_1:(List (List Int))) (x15_2:(List (List Int))) (x16_3:Int):Nat→(Option Ret)→(Bool→Option Ret)→Int→Option Ret
 | 0,_,_,_=>none
 | n_5 + 1,k4_0_7,k4_1_8,x17_4 =>
  bif (decide (x17_4 < x16_3)) then
   bif (inB x17_4 (List.length x15_2)) then
    bif (inB x17_4 (List.length x1_1)) then
     S29 N (List.getD x15_2 (Int.toNat x17_4) ([]:(List Int))) (List.getD x1_1 (Int.toNat x17_4) ([]:(List Int))) (fun (r29_6:Bool) =>
      bif (!r29_6) then
       k4_1_8 false
      else
       (S28_l4 N x1_1 x15_2 x16_3 n_5 k4_0_7 k4_1_8) (IntKind.wrap .i64 (x17_4 + (1:Int))))
    else none
   else none
  else
   k4_0_7
noncomputable def S28 (N:Nat) (a0:(List (List Int))) (a1:(List (List Int))) (kf:Bool→Option Ret):Option Ret:=
 bif ((List.length a0:Int) != (List.length a1:Int)) then
  kf false
 else
  S28_l4 N a1 a0 (List.length a0:Int) N (kf true) kf (0:Int)
noncomputable def I9_l5 (x2_3:QILLIE) (x25_5:(List (List Int))) (x26_6:Int):Nat→((List (List Int))→Option Ret)→(List (List Int))→Int→Option Ret
 | 0,_,_,_=>none
 | n_8 + 1,k5_0_10,x5_4,x27_7 =>
  bif (decide (x27_7 < x26_6)) then
   bif (inB x27_7 (List.length x25_5)) then
    bif (inB (0:Int) (List.length (List.getD x25_5 (Int.toNat x27_7) ([]:(List Int))))) then
     bif (decide ((List.getD (List.getD x25_5 (Int.toNat x27_7) ([]:(List Int))) (Int.toNat (0:Int)) (0:Int)) < x2_3.1)) then
      bif (inB (1:Int) (List.length (List.getD x25_5 (Int.toNat x27_7) ([]:(List Int))))) then
       bif (decide ((List.getD (List.getD x25_5 (Int.toNat x27_7) ([]:(List Int))) (Int.toNat (1:Int)) (0:Int)) < x2_3.1)) then
        bif (decide ((List.length x5_4 + List.length [(List.getD x25_5 (Int.toNat x27_7) ([]:(List Int)))]) * 1≤4398046511104)) then
         (I9_l5 x2_3 x25_5 x26_6 n_8 k5_0_10) (x5_4 ++ [(List.getD x25_5 (Int.toNat x27_7) ([]:(List Int)))]) (IntKind.wrap .i64 (x27_7 + (1:Int)))
        else none
       else
        (I9_l5 x2_3 x25_5 x26_6 n_8 k5_0_10) x5_4 (IntKind.wrap .i64 (x27_7 + (1:Int)))
      else none
     else
      (I9_l5 x2_3 x25_5 x26_6 n_8 k5_0_10) x5_4 (IntKind.wrap .i64 (x27_7 + (1:Int)))
    else none
   else none
  else
   k5_0_10 x5_4
noncomputable def I9 (N:Nat) (a0:QILLIE) (a1:QILLIE) (kf:Bool→Option Ret):Option Ret:=
 I8 N a0 (fun (r9_1:Bool) =>
  bif (!r9_1) then
   kf false
  else
   I8 N a1 (fun (r13_2:Bool) =>
    bif (!r13_2) then
     kf false
    else
     bif (decide (a0.1 > a1.1)) then
      kf false
     else
      I9_l5 a0 a1.2 (List.length a1.2:Int) N (fun (z5_12:(List (List Int))) =>
       S28 N a0.2 z5_12 kf) ([]:(List (List Int))) (0:Int)))
noncomputable def S46_j1 (rc5_7:ByteArray→Int→Option Ret) (x3_2:ByteArray) (x4_3:Int) (y5_5:Int):Option Ret:=
 bif (decide (ByteArray.size (bytesOf [(IntKind.wrap .u8 (IntKind.wrap .i64 ((48:Int) + y5_5)))]) + ByteArray.size x3_2≤9223372036854775807)) then
  rc5_7 ((bytesOf [(IntKind.wrap .u8 (IntKind.wrap .i64 ((48:Int) + y5_5)))]) ++ x3_2) (IntKind.wrap .i64 (Int.tdiv x4_3 (10:Int)))
 else none
noncomputable def S46_l5 (x0_1:Int):Nat→(ByteArray→Option Ret)→ByteArray→Int→Option Ret
 | 0,_,_,_=>none
 | n_4 + 1,k5_0_6,x3_2,x4_3 =>
  bif (x4_3 != (0:Int)) then
   bif (decide ((Int.tmod x4_3 (10:Int)) < (0:Int))) then
    S46_j1 (S46_l5 x0_1 n_4 k5_0_6) x3_2 x4_3 (IntKind.wrap .i64 (0 - (Int.tmod x4_3 (10:Int))))
   else
    S46_j1 (S46_l5 x0_1 n_4 k5_0_6) x3_2 x4_3 (Int.tmod x4_3 (10:Int))
  else
   k5_0_6 x3_2
noncomputable def S46 (N:Nat) (a0:Int) (kf:ByteArray→Option Ret):Option Ret:=
 bif (a0 == (0:Int)) then
  kf s_0
 else
  S46_l5 a0 N (fun (z3_8:ByteArray) =>
   bif (decide (a0 < (0:Int))) then
    bif (decide (ByteArray.size s_h2d + ByteArray.size z3_8≤9223372036854775807)) then
     kf (s_h2d ++ z3_8)
    else none
   else
    kf z3_8) s_e a0
noncomputable def S31_l5 (N:Nat) (x1_3:QILLIE):Nat→(ByteArray→Option Ret)→ByteArray→Int→Option Ret
 | 0,_,_,_=>none
 | n_6 + 1,k5_0_9,x3_4,x4_5 =>
  bif (decide (x4_5 < (List.length x1_3.2:Int))) then
   bif (decide (ByteArray.size x3_4 + ByteArray.size s_h20≤9223372036854775807)) then
    bif (inB x4_5 (List.length x1_3.2)) then
     bif (inB (0:Int) (List.length (List.getD x1_3.2 (Int.toNat x4_5) ([]:(List Int))))) then
      bif (inB x4_5 (List.length x1_3.2)) then
       bif (inB (1:Int) (List.length (List.getD x1_3.2 (Int.toNat x4_5) ([]:(List Int))))) then
        S46 N (List.getD (List.getD x1_3.2 (Int.toNat x4_5) ([]:(List Int))) (Int.toNat (0:Int)) (0:Int)) (fun (r27_7:ByteArray) =>
         bif (decide (ByteArray.size (x3_4 ++ s_h20) + ByteArray.size r27_7≤9223372036854775807)) then
          bif (decide (ByteArray.size ((x3_4 ++ s_h20) ++ r27_7) + ByteArray.size s_h3e≤9223372036854775807)) then
           S46 N (List.getD (List.getD x1_3.2 (Int.toNat x4_5) ([]:(List Int))) (Int.toNat (1:Int)) (0:Int)) (fun (r37_8:ByteArray) =>
            bif (decide (ByteArray.size (((x3_4 ++ s_h20) ++ r27_7) ++ s_h3e) + ByteArray.size r37_8≤9223372036854775807)) then
             (S31_l5 N x1_3 n_6 k5_0_9) ((((x3_4 ++ s_h20) ++ r27_7) ++ s_h3e) ++ r37_8) (IntKind.wrap .i64 (x4_5 + (1:Int)))
            else none)
          else none
         else none)
       else none
      else none
     else none
    else none
   else none
  else
   k5_0_9 x3_4
noncomputable def S31 (N:Nat) (a0:QILLIE) (kf:ByteArray→Option Ret):Option Ret:=
 S45 N a0 (fun (r6_1:Bool) =>
  bif (!r6_1) then
   kf s_e
  else
   S46 N a0.1 (fun (r10_2:ByteArray) =>
    S31_l5 N a0 N kf r10_2 (0:Int)))
noncomputable def S33 (N:Nat) (a0:QLIIIE) (a1:(List ByteArray)) (kf:ByteArray→QLIIIE→Option Ret):Option Ret:=
 S48 N a0 (List.length a1:Int) (fun (r9_1:Int) (z0_2:QLIIIE) =>
  bif (inB r9_1 (List.length a1)) then
   kf (List.getD a1 (Int.toNat r9_1) ByteArray.empty) z0_2
  else none)
noncomputable def S10 (N:Nat) (a0:(List Int)) (kf:ByteArray→Option Ret):Option Ret:=
 S30 N a0 (fun (r6_1:QLIIIE) =>
  S32 N r6_1 (fun (r8_2:QILLIE) (z3_3:QLIIIE) =>
   S31 N r8_2 (fun (r9_4:ByteArray) =>
    bif (decide (ByteArray.size r9_4 + ByteArray.size s_h20≤9223372036854775807)) then
     S33 N z3_3 [r9_4,r9_4,r9_4,(r9_4 ++ s_h20),s_h3320303e3120313e32,s_h3320313e3220303e31,s_h3320303e33,s_h3320303e,s_03,s_e,s_h2d31,s_h332020303e31,s_h3320303e313e32,s_11,s_0] (fun (r17_5:ByteArray) (z3_6:QLIIIE) =>
      kf r17_5)
    else none)))
noncomputable def S71 (N:Nat) (a0:QLIIIE) (a1:Int) (kf:Bool→QLIIIE→Option Ret):Option Ret:=
 S48 N a0 a1 (fun (r7_1:Int) (z0_2:QLIIIE) =>
  kf (r7_1 == (0:Int)) z0_2)
noncomputable def S54_b (self:QLIIIE→Int→((List Int)→QLIIIE→Option Ret)→Option Ret) (N:Nat) (a0:QLIIIE) (a1:Int) (kf:(List Int)→QLIIIE→Option Ret):Option Ret:=
 bif (a1 == (0:Int)) then
  S48 N a0 (4:Int) (fun (r13_3:Int) (z0_4:QLIIIE) =>
   kf [r13_3] z0_4)
 else
  S71 N a0 (4:Int) (fun (r10_1:Bool) (z0_2:QLIIIE) =>
   bif r10_1 then
    S48 N z0_2 (4:Int) (fun (r13_5:Int) (z0_6:QLIIIE) =>
     kf [r13_5] z0_6)
   else
    S71 N z0_2 (4:Int) (fun (r16_7:Bool) (z0_8:QLIIIE) =>
     bif r16_7 then
      self z0_8 (IntKind.wrap .i64 (a1 - (1:Int))) (fun (r20_9:(List Int)) (z0_10:QLIIIE) =>
       bif (decide ((List.length r20_9 + List.length [(-1:Int)]) * 1≤4398046511104)) then
        kf (r20_9 ++ [(-1:Int)]) z0_10
       else none)
     else
      self z0_8 (IntKind.wrap .i64 (a1 - (1:Int))) (fun (r26_11:(List Int)) (z0_12:QLIIIE) =>
       self z0_12 (IntKind.wrap .i64 (a1 - (1:Int))) (fun (r31_13:(List Int)) (z0_14:QLIIIE) =>
        bif (decide ((List.length r26_11 + List.length r31_13) * 1≤4398046511104)) then
         S48 N z0_14 (3:Int) (fun (r34_15:Int) (z0_16:QLIIIE) =>
          bif (decide ((List.length (r26_11 ++ r31_13) + List.length [(IntKind.wrap .i64 ((-2:Int) - r34_15))]) * 1≤4398046511104)) then
           kf ((r26_11 ++ r31_13) ++ [(IntKind.wrap .i64 ((-2:Int) - r34_15))]) z0_16
          else none)
        else none))))
noncomputable def S54:Nat→QLIIIE→Int→((List Int)→QLIIIE→Option Ret)→Option Ret
 | 0,_,_,_=>none
 | N + 1,a0,a1,kf=>S54_b (S54 N) N a0 a1 kf
noncomputable def S38 (N:Nat) (a0:QLIIIE) (kf:(List Int)→QLIIIE→Option Ret):Option Ret:=
 S54 N a0 (3:Int) (fun (r5_1:(List Int)) (z0_2:QLIIIE) =>
  S48 N z0_2 (10:Int) (fun (r7_3:Int) (z0_4:QLIIIE) =>
   bif (r7_3 == (0:Int)) then
    S48 N z0_4 (List.length r5_1:Int) (fun (r14_5:Int) (z0_6:QLIIIE) =>
     S55 N z0_6 [(-5:Int),(-4:Int),(5:Int),(6:Int),(9223372036854775807:Int)] (fun (r17_7:Int) (z0_8:QLIIIE) =>
      bif (inB r14_5 (List.length r5_1)) then
       kf (List.set r5_1 (Int.toNat r14_5) r17_7) z0_8
      else none))
   else
    bif (r7_3 == (1:Int)) then
     bif (decide ((0:Int)≤(1:Int)) && decide ((1:Int)≤(List.length r5_1:Int)) && decide ((List.length r5_1:Int)≤(List.length r5_1:Int))) then
      kf (List.drop (Int.toNat (1:Int)) (List.take (Int.toNat (List.length r5_1:Int)) r5_1)) z0_4
     else none
    else
     kf r5_1 z0_4))
noncomputable def S34 (N:Nat) (a0:(List Int)) (kf:(List Int)→Option Ret):Option Ret:=
 S30 N a0 (fun (r5_1:QLIIIE) =>
  S38 N r5_1 (fun (r7_2:(List Int)) (z3_3:QLIIIE) =>
   kf r7_2))
noncomputable def S11 (N:Nat) (a0:(List Int)) (kf:(List Int)→Option Ret):Option Ret:=
 S34 N a0 kf
noncomputable def I52_l3 (x0_1:Int):Nat→(Int→Option Ret)→Int→Int→Option Ret
 | 0,_,_,_=>none
 | n_4 + 1,k3_0_6,x3_2,x5_3 =>
  bif (decide (x5_3 < (64:Int))) then
   bif (decide (0≤x0_1)) then
    bif ((IntKind.wrap .i64 (BitVec.toNat (BitVec.ofInt (IntKind.bits .i64) (Int.fdiv x5_3 (2 ^ (min (Int.toNat x0_1) (IntKind.bits .i64)))) &&& BitVec.ofInt (IntKind.bits .i64) (1:Int)))) == (1:Int)) then
     bif (decide (0≤x5_3)) then
      (I52_l3 x0_1 n_4 k3_0_6) (IntKind.wrap .u64 (BitVec.toNat (BitVec.ofInt (IntKind.bits .u64) x3_2 ||| BitVec.ofInt (IntKind.bits .u64) (IntKind.wrap .u64 ((1:Int) * 2 ^ (min (Int.toNat x5_3) (IntKind.bits .u64))))))) (IntKind.wrap .i64 (x5_3 + (1:Int)))
     else none
    else
     (I52_l3 x0_1 n_4 k3_0_6) x3_2 (IntKind.wrap .i64 (x5_3 + (1:Int)))
   else none
  else
   k3_0_6 x3_2
noncomputable def I52 (N:Nat) (a0:Int) (kf:Int→Option Ret):Option Ret:=
 I52_l3 a0 N kf (0:Int) (0:Int)
noncomputable def I36_l5 (N:Nat) (x15_3:(List Int)) (x16_4:Int):Nat→((List Int)→Option Ret)→(Int→Bool→Option Ret)→(List Int)→Int→Option Ret
 | 0,_,_,_,_=>none
 | n_6 + 1,k5_0_12,k5_1_13,x4_2,x17_5 =>
  bif (decide (x17_5 < x16_4)) then
   bif (inB x17_5 (List.length x15_3)) then
    I25 N (List.getD x15_3 (Int.toNat x17_5) (0:Int)) (0:Int) (5:Int) (fun (r25_7:Bool) =>
     bif r25_7 then
      I52 N (List.getD x15_3 (Int.toNat x17_5) (0:Int)) (fun (r28_8:Int) =>
       bif (decide ((List.length x4_2 + List.length [r28_8]) * 1≤4398046511104)) then
        (I36_l5 N x15_3 x16_4 n_6 k5_0_12 k5_1_13) (x4_2 ++ [r28_8]) (IntKind.wrap .i64 (x17_5 + (1:Int)))
       else none)
     else
      bif ((List.getD x15_3 (Int.toNat x17_5) (0:Int)) == (-1:Int)) then
       bif (decide ((List.length x4_2:Int) ≥ (1:Int))) then
        bif (inB (IntKind.wrap .i64 ((List.length x4_2:Int) - (1:Int))) (List.length x4_2)) then
         bif (inB (IntKind.wrap .i64 ((List.length x4_2:Int) - (1:Int))) (List.length x4_2)) then
          (I36_l5 N x15_3 x16_4 n_6 k5_0_12 k5_1_13) (List.set x4_2 (Int.toNat (IntKind.wrap .i64 ((List.length x4_2:Int) - (1:Int)))) (xorV .u64 (List.getD x4_2 (Int.toNat (IntKind.wrap .i64 ((List.length x4_2:Int) - (1:Int)))) (0:Int)))) (IntKind.wrap .i64 (x17_5 + (1:Int)))
         else none
        else none
       else
        I25 N (List.getD x15_3 (Int.toNat x17_5) (0:Int)) (-4:Int) (-2:Int) (fun (r50_9:Bool) =>
         bif r50_9 then
          bif (decide ((List.length x4_2:Int) ≥ (2:Int))) then
           bif (inB (IntKind.wrap .i64 ((List.length x4_2:Int) - (2:Int))) (List.length x4_2)) then
            bif (inB (IntKind.wrap .i64 ((List.length x4_2:Int) - (1:Int))) (List.length x4_2)) then
             bif (decide ((0:Int)≤(0:Int)) && decide ((0:Int)≤(IntKind.wrap .i64 ((List.length x4_2:Int) - (1:Int)))) && decide ((IntKind.wrap .i64 ((List.length x4_2:Int) - (1:Int)))≤(List.length x4_2:Int))) then
              bif ((List.getD x15_3 (Int.toNat x17_5) (0:Int)) == (-2:Int)) then
               bif (inB (IntKind.wrap .i64 ((List.length x4_2:Int) - (2:Int))) (List.length (List.take (Int.toNat (IntKind.wrap .i64 ((List.length x4_2:Int) - (1:Int)))) x4_2))) then
                (I36_l5 N x15_3 x16_4 n_6 k5_0_12 k5_1_13) (List.set (List.take (Int.toNat (IntKind.wrap .i64 ((List.length x4_2:Int) - (1:Int)))) x4_2) (Int.toNat (IntKind.wrap .i64 ((List.length x4_2:Int) - (2:Int)))) (IntKind.wrap .u64 (BitVec.toNat (BitVec.ofInt (IntKind.bits .u64) (List.getD x4_2 (Int.toNat (IntKind.wrap .i64 ((List.length x4_2:Int) - (2:Int)))) (0:Int)) &&& BitVec.ofInt (IntKind.bits .u64) (List.getD x4_2 (Int.toNat (IntKind.wrap .i64 ((List.length x4_2:Int) - (1:Int)))) (0:Int)))))) (IntKind.wrap .i64 (x17_5 + (1:Int)))
               else none
              else
               bif ((List.getD x15_3 (Int.toNat x17_5) (0:Int)) == (-3:Int)) then
                bif (inB (IntKind.wrap .i64 ((List.length x4_2:Int) - (2:Int))) (List.length (List.take (Int.toNat (IntKind.wrap .i64 ((List.length x4_2:Int) - (1:Int)))) x4_2))) then
                 (I36_l5 N x15_3 x16_4 n_6 k5_0_12 k5_1_13) (List.set (List.take (Int.toNat (IntKind.wrap .i64 ((List.length x4_2:Int) - (1:Int)))) x4_2) (Int.toNat (IntKind.wrap .i64 ((List.length x4_2:Int) - (2:Int)))) (IntKind.wrap .u64 (BitVec.toNat (BitVec.ofInt (IntKind.bits .u64) (List.getD x4_2 (Int.toNat (IntKind.wrap .i64 ((List.length x4_2:Int) - (2:Int)))) (0:Int)) ||| BitVec.ofInt (IntKind.bits .u64) (List.getD x4_2 (Int.toNat (IntKind.wrap .i64 ((List.length x4_2:Int) - (1:Int)))) (0:Int)))))) (IntKind.wrap .i64 (x17_5 + (1:Int)))
                else none
               else
                bif (inB (IntKind.wrap .i64 ((List.length x4_2:Int) - (2:Int))) (List.length (List.take (Int.toNat (IntKind.wrap .i64 ((List.length x4_2:Int) - (1:Int)))) x4_2))) then
                 (I36_l5 N x15_3 x16_4 n_6 k5_0_12 k5_1_13) (List.set (List.take (Int.toNat (IntKind.wrap .i64 ((List.length x4_2:Int) - (1:Int)))) x4_2) (Int.toNat (IntKind.wrap .i64 ((List.length x4_2:Int) - (2:Int)))) (IntKind.wrap .u64 (BitVec.toNat (BitVec.ofInt (IntKind.bits .u64) (xorV .u64 (List.getD x4_2 (Int.toNat (IntKind.wrap .i64 ((List.length x4_2:Int) - (2:Int)))) (0:Int))) ||| BitVec.ofInt (IntKind.bits .u64) (List.getD x4_2 (Int.toNat (IntKind.wrap .i64 ((List.length x4_2:Int) - (1:Int)))) (0:Int)))))) (IntKind.wrap .i64 (x17_5 + (1:Int)))
                else none
             else none
            else none
           else none
          else
           k5_1_13 (0:Int) false
         else
          k5_1_13 (0:Int) false)
      else
       I25 N (List.getD x15_3 (Int.toNat x17_5) (0:Int)) (-4:Int) (-2:Int) (fun (r50_10:Bool) =>
        bif r50_10 then
         bif (decide ((List.length x4_2:Int) ≥ (2:Int))) then
          bif (inB (IntKind.wrap .i64 ((List.length x4_2:Int) - (2:Int))) (List.length x4_2)) then
           bif (inB (IntKind.wrap .i64 ((List.length x4_2:Int) - (1:Int))) (List.length x4_2)) then
            bif (decide ((0:Int)≤(0:Int)) && decide ((0:Int)≤(IntKind.wrap .i64 ((List.length x4_2:Int) - (1:Int)))) && decide ((IntKind.wrap .i64 ((List.length x4_2:Int) - (1:Int)))≤(List.length x4_2:Int))) then
             bif ((List.getD x15_3 (Int.toNat x17_5) (0:Int)) == (-2:Int)) then
              bif (inB (IntKind.wrap .i64 ((List.length x4_2:Int) - (2:Int))) (List.length (List.take (Int.toNat (IntKind.wrap .i64 ((List.length x4_2:Int) - (1:Int)))) x4_2))) then
               (I36_l5 N x15_3 x16_4 n_6 k5_0_12 k5_1_13) (List.set (List.take (Int.toNat (IntKind.wrap .i64 ((List.length x4_2:Int) - (1:Int)))) x4_2) (Int.toNat (IntKind.wrap .i64 ((List.length x4_2:Int) - (2:Int)))) (IntKind.wrap .u64 (BitVec.toNat (BitVec.ofInt (IntKind.bits .u64) (List.getD x4_2 (Int.toNat (IntKind.wrap .i64 ((List.length x4_2:Int) - (2:Int)))) (0:Int)) &&& BitVec.ofInt (IntKind.bits .u64) (List.getD x4_2 (Int.toNat (IntKind.wrap .i64 ((List.length x4_2:Int) - (1:Int)))) (0:Int)))))) (IntKind.wrap .i64 (x17_5 + (1:Int)))
              else none
             else
              bif ((List.getD x15_3 (Int.toNat x17_5) (0:Int)) == (-3:Int)) then
               bif (inB (IntKind.wrap .i64 ((List.length x4_2:Int) - (2:Int))) (List.length (List.take (Int.toNat (IntKind.wrap .i64 ((List.length x4_2:Int) - (1:Int)))) x4_2))) then
                (I36_l5 N x15_3 x16_4 n_6 k5_0_12 k5_1_13) (List.set (List.take (Int.toNat (IntKind.wrap .i64 ((List.length x4_2:Int) - (1:Int)))) x4_2) (Int.toNat (IntKind.wrap .i64 ((List.length x4_2:Int) - (2:Int)))) (IntKind.wrap .u64 (BitVec.toNat (BitVec.ofInt (IntKind.bits .u64) (List.getD x4_2 (Int.toNat (IntKind.wrap .i64 ((List.length x4_2:Int) - (2:Int)))) (0:Int)) ||| BitVec.ofInt (IntKind.bits .u64) (List.getD x4_2 (Int.toNat (IntKind.wrap .i64 ((List.length x4_2:Int) - (1:Int)))) (0:Int)))))) (IntKind.wrap .i64 (x17_5 + (1:Int)))
               else none
              else
               bif (inB (IntKind.wrap .i64 ((List.length x4_2:Int) - (2:Int))) (List.length (List.take (Int.toNat (IntKind.wrap .i64 ((List.length x4_2:Int) - (1:Int)))) x4_2))) then
                (I36_l5 N x15_3 x16_4 n_6 k5_0_12 k5_1_13) (List.set (List.take (Int.toNat (IntKind.wrap .i64 ((List.length x4_2:Int) - (1:Int)))) x4_2) (Int.toNat (IntKind.wrap .i64 ((List.length x4_2:Int) - (2:Int)))) (IntKind.wrap .u64 (BitVec.toNat (BitVec.ofInt (IntKind.bits .u64) (xorV .u64 (List.getD x4_2 (Int.toNat (IntKind.wrap .i64 ((List.length x4_2:Int) - (2:Int)))) (0:Int))) ||| BitVec.ofInt (IntKind.bits .u64) (List.getD x4_2 (Int.toNat (IntKind.wrap .i64 ((List.length x4_2:Int) - (1:Int)))) (0:Int)))))) (IntKind.wrap .i64 (x17_5 + (1:Int)))
               else none
            else none
           else none
          else none
         else
          k5_1_13 (0:Int) false
        else
         k5_1_13 (0:Int) false))
   else none
  else
   k5_0_12 x4_2
noncomputable def I36 (N:Nat) (a0:(List Int)) (kf:Int→Bool→Option Ret):Option Ret:=
 I25 N (List.length a0:Int) (1:Int) (24:Int) (fun (r12_1:Bool) =>
  bif (!r12_1) then
   kf (0:Int) false
  else
   I36_l5 N a0 (List.length a0:Int) N (fun (z4_15:(List Int)) =>
    bif (inB (0:Int) (List.length z4_15)) then
     kf (List.getD z4_15 (Int.toNat (0:Int)) (0:Int)) ((List.length z4_15:Int) == (1:Int))
    else none) kf ([]:(List Int)) (0:Int))
noncomputable def I14 (N:Nat) (a0:(List Int)) (kf:Bool→Option Ret):Option Ret:=
 I36 N a0 (fun (r7_1:Int) (r7_2:Bool) =>
  kf r7_2)
noncomputable def I13_l5 (x12_3:(List Int)) (x13_4:Int):Nat→((List ByteArray)→Option Ret)→(List ByteArray)→Int→Option Ret
 | 0,_,_,_=>none
 | n_6 + 1,k5_0_8,x3_2,x14_5 =>
  bif (decide (x14_5 < x13_4)) then
   bif (inB x14_5 (List.length x12_3)) then
    bif (decide ((List.getD x12_3 (Int.toNat x14_5) (0:Int)) ≥ (0:Int))) then
     bif (decide ((0:Int)≤(List.getD x12_3 (Int.toNat x14_5) (0:Int))) && decide ((List.getD x12_3 (Int.toNat x14_5) (0:Int))≤(IntKind.wrap .i64 ((List.getD x12_3 (Int.toNat x14_5) (0:Int)) + (1:Int)))) && decide ((IntKind.wrap .i64 ((List.getD x12_3 (Int.toNat x14_5) (0:Int)) + (1:Int)))≤(ByteArray.size s_abcdef:Int))) then
      bif (decide ((List.length x3_2 + List.length [(ByteArray.extract s_abcdef (Int.toNat (List.getD x12_3 (Int.toNat x14_5) (0:Int))) (Int.toNat (IntKind.wrap .i64 ((List.getD x12_3 (Int.toNat x14_5) (0:Int)) + (1:Int)))))]) * 1≤4398046511104)) then
       (I13_l5 x12_3 x13_4 n_6 k5_0_8) (x3_2 ++ [(ByteArray.extract s_abcdef (Int.toNat (List.getD x12_3 (Int.toNat x14_5) (0:Int))) (Int.toNat (IntKind.wrap .i64 ((List.getD x12_3 (Int.toNat x14_5) (0:Int)) + (1:Int)))))]) (IntKind.wrap .i64 (x14_5 + (1:Int)))
      else none
     else none
    else
     bif ((List.getD x12_3 (Int.toNat x14_5) (0:Int)) == (-1:Int)) then
      bif (inB (IntKind.wrap .i64 ((List.length x3_2:Int) - (1:Int))) (List.length x3_2)) then
       bif (decide (ByteArray.size s_h21 + ByteArray.size (List.getD x3_2 (Int.toNat (IntKind.wrap .i64 ((List.length x3_2:Int) - (1:Int)))) ByteArray.empty)≤9223372036854775807)) then
        bif (inB (IntKind.wrap .i64 ((List.length x3_2:Int) - (1:Int))) (List.length x3_2)) then
         (I13_l5 x12_3 x13_4 n_6 k5_0_8) (List.set x3_2 (Int.toNat (IntKind.wrap .i64 ((List.length x3_2:Int) - (1:Int)))) (s_h21 ++ (List.getD x3_2 (Int.toNat (IntKind.wrap .i64 ((List.length x3_2:Int) - (1:Int)))) ByteArray.empty))) (IntKind.wrap .i64 (x14_5 + (1:Int)))
        else none
       else none
      else none
     else
      bif (inB (IntKind.wrap .i64 ((List.length x3_2:Int) - (2:Int))) (List.length x3_2)) then
       bif (decide (ByteArray.size s_h28 + ByteArray.size (List.getD x3_2 (Int.toNat (IntKind.wrap .i64 ((List.length x3_2:Int) - (2:Int)))) ByteArray.empty)≤9223372036854775807)) then
        bif (decide ((0:Int)≤(IntKind.wrap .i64 ((-2:Int) - (List.getD x12_3 (Int.toNat x14_5) (0:Int))))) && decide ((IntKind.wrap .i64 ((-2:Int) - (List.getD x12_3 (Int.toNat x14_5) (0:Int))))≤(IntKind.wrap .i64 ((IntKind.wrap .i64 ((-2:Int) - (List.getD x12_3 (Int.toNat x14_5) (0:Int)))) + (1:Int)))) && decide ((IntKind.wrap .i64 ((IntKind.wrap .i64 ((-2:Int) - (List.getD x12_3 (Int.toNat x14_5) (0:Int)))) + (1:Int)))≤(ByteArray.size s_h267c3e:Int))) then
         bif (decide (ByteArray.size (s_h28 ++ (List.getD x3_2 (Int.toNat (IntKind.wrap .i64 ((List.length x3_2:Int) - (2:Int)))) ByteArray.empty)) + ByteArray.size (ByteArray.extract s_h267c3e (Int.toNat (IntKind.wrap .i64 ((-2:Int) - (List.getD x12_3 (Int.toNat x14_5) (0:Int))))) (Int.toNat (IntKind.wrap .i64 ((IntKind.wrap .i64 ((-2:Int) - (List.getD x12_3 (Int.toNat x14_5) (0:Int)))) + (1:Int)))))≤9223372036854775807)) then
          bif (inB (IntKind.wrap .i64 ((List.length x3_2:Int) - (1:Int))) (List.length x3_2)) then
           bif (decide (ByteArray.size ((s_h28 ++ (List.getD x3_2 (Int.toNat (IntKind.wrap .i64 ((List.length x3_2:Int) - (2:Int)))) ByteArray.empty)) ++ (ByteArray.extract s_h267c3e (Int.toNat (IntKind.wrap .i64 ((-2:Int) - (List.getD x12_3 (Int.toNat x14_5) (0:Int))))) (Int.toNat (IntKind.wrap .i64 ((IntKind.wrap .i64 ((-2:Int) - (List.getD x12_3 (Int.toNat x14_5) (0:Int)))) + (1:Int)))))) + ByteArray.size (List.getD x3_2 (Int.toNat (IntKind.wrap .i64 ((List.length x3_2:Int) - (1:Int)))) ByteArray.empty)≤9223372036854775807)) then
            bif (decide (ByteArray.size (((s_h28 ++ (List.getD x3_2 (Int.toNat (IntKind.wrap .i64 ((List.length x3_2:Int) - (2:Int)))) ByteArray.empty)) ++ (ByteArray.extract s_h267c3e (Int.toNat (IntKind.wrap .i64 ((-2:Int) - (List.getD x12_3 (Int.toNat x14_5) (0:Int))))) (Int.toNat (IntKind.wrap .i64 ((IntKind.wrap .i64 ((-2:Int) - (List.getD x12_3 (Int.toNat x14_5) (0:Int)))) + (1:Int)))))) ++ (List.getD x3_2 (Int.toNat (IntKind.wrap .i64 ((List.length x3_2:Int) - (1:Int)))) ByteArray.empty)) + ByteArray.size s_h29≤9223372036854775807)) then
             bif (inB (IntKind.wrap .i64 ((List.length x3_2:Int) - (2:Int))) (List.length x3_2)) then
              bif (decide ((0:Int)≤(0:Int)) && decide ((0:Int)≤(IntKind.wrap .i64 ((List.length x3_2:Int) - (1:Int)))) && decide ((IntKind.wrap .i64 ((List.length x3_2:Int) - (1:Int)))≤(List.length (List.set x3_2 (Int.toNat (IntKind.wrap .i64 ((List.length x3_2:Int) - (2:Int)))) ((((s_h28 ++ (List.getD x3_2 (Int.toNat (IntKind.wrap .i64 ((List.length x3_2:Int) - (2:Int)))) ByteArray.empty)) ++ (ByteArray.extract s_h267c3e (Int.toNat (IntKind.wrap .i64 ((-2:Int) - (List.getD x12_3 (Int.toNat x14_5) (0:Int))))) (Int.toNat (IntKind.wrap .i64 ((IntKind.wrap .i64 ((-2:Int) - (List.getD x12_3 (Int.toNat x14_5) (0:Int)))) + (1:Int)))))) ++ (List.getD x3_2 (Int.toNat (IntKind.wrap .i64 ((List.length x3_2:Int) - (1:Int)))) ByteArray.empty)) ++ s_h29)):Int))) then
               (I13_l5 x12_3 x13_4 n_6 k5_0_8) (List.take (Int.toNat (IntKind.wrap .i64 ((List.length x3_2:Int) - (1:Int)))) (List.set x3_2 (Int.toNat (IntKind.wrap .i64 ((List.length x3_2:Int) - (2:Int)))) ((((s_h28 ++ (List.getD x3_2 (Int.toNat (IntKind.wrap .i64 ((List.length x3_2:Int) - (2:Int)))) ByteArray.empty)) ++ (ByteArray.extract s_h267c3e (Int.toNat (IntKind.wrap .i64 ((-2:Int) - (List.getD x12_3 (Int.toNat x14_5) (0:Int))))) (Int.toNat (IntKind.wrap .i64 ((IntKind.wrap .i64 ((-2:Int) - (List.getD x12_3 (Int.toNat x14_5) (0:Int)))) + (1:Int)))))) ++ (List.getD x3_2 (Int.toNat (IntKind.wrap .i64 ((List.length x3_2:Int) - (1:Int)))) ByteArray.empty)) ++ s_h29))) (IntKind.wrap .i64 (x14_5 + (1:Int)))
              else none
             else none
            else none
           else none
          else none
         else none
        else none
       else none
      else none
   else none
  else
   k5_0_8 x3_2
noncomputable def I13 (N:Nat) (a0:(List Int)) (kf:ByteArray→Option Ret):Option Ret:=
 I14 N a0 (fun (r9_1:Bool) =>
  bif (!r9_1) then
   kf s_e
  else
   I13_l5 a0 (List.length a0:Int) N (fun (z3_10:(List ByteArray)) =>
    bif (inB (0:Int) (List.length z3_10)) then
     kf (List.getD z3_10 (Int.toNat (0:Int)) ByteArray.empty)
    else none) ([]:(List ByteArray)) (0:Int))
noncomputable def S50 (N:Nat) (a0:ByteArray) (a1:Int) (kf:Int→Option Ret):Option Ret:=
 kf (letterAt a0 a1)
noncomputable def S70 (N:Nat) (a0:(List Int)) (a1:Int) (kf:(List Int)→Option Ret):Option Ret:=
 bif (List.isEmpty a0 && (decide ((0:Int)≤a1) && decide (a1≤(549755813888:Int)))) then
  kf ([]:List Int)
 else none
noncomputable def S51_l11 (x25_12:(List (List Int))) (x26_13:Int):Nat→((List Int)→Option Ret)→(List Int)→Int→Option Ret
 | 0,_,_,_=>none
 | n_15 + 1,k11_0_16,x6_11,x27_14 =>
  bif (decide (x27_14 < x26_13)) then
   bif (inB x27_14 (List.length x25_12)) then
    bif (decide ((List.length x6_11 + List.length (List.getD x25_12 (Int.toNat x27_14) ([]:(List Int)))) * 1≤4398046511104)) then
     (S51_l11 x25_12 x26_13 n_15 k11_0_16) (x6_11 ++ (List.getD x25_12 (Int.toNat x27_14) ([]:(List Int)))) (IntKind.wrap .i64 (x27_14 + (1:Int)))
    else none
   else none
  else
   k11_0_16 x6_11
noncomputable def S51_l3 (x0_1:(List (List Int))) (x9_3:(List (List Int))) (x10_4:Int):Nat→(Int→Option Ret)→Int→Int→Option Ret
 | 0,_,_,_=>none
 | n_6 + 1,k3_0_7,x3_2,x11_5 =>
  bif (decide (x11_5 < x10_4)) then
   bif (inB x11_5 (List.length x9_3)) then
    bif (decide ((IntKind.wrap .i64 (x3_2 + (List.length (List.getD x9_3 (Int.toNat x11_5) ([]:(List Int))):Int))) < (0:Int))) then
     none
    else
     (S51_l3 x0_1 x9_3 x10_4 n_6 k3_0_7) (IntKind.wrap .i64 (x3_2 + (List.length (List.getD x9_3 (Int.toNat x11_5) ([]:(List Int))):Int))) (IntKind.wrap .i64 (x11_5 + (1:Int)))
   else none
  else
   k3_0_7 x3_2
noncomputable def S51 (N:Nat) (a0:(List (List Int))) (kf:(List Int)→Option Ret):Option Ret:=
 S51_l3 a0 a0 (List.length a0:Int) N (fun (z3_9:Int) =>
  S70 N ([]:(List Int)) z3_9 (fun (r24_10:(List Int)) =>
   S51_l11 a0 (List.length a0:Int) N kf r24_10 (0:Int))) (0:Int) (0:Int)
noncomputable def I35_b (self:ByteArray→((List Int)→ByteArray→Bool→Option Ret)→Option Ret) (N:Nat) (a0:ByteArray) (kf:(List Int)→ByteArray→Bool→Option Ret):Option Ret:=
 bif (ByteArray.toList a0 == ByteArray.toList s_e) then
  kf ([]:(List Int)) s_e false
 else
  bif (inB (0:Int) (ByteArray.size a0)) then
   bif ((bt a0 (0:Int)) == (33:Int)) then
    bif (decide ((0:Int)≤(1:Int)) && decide ((1:Int)≤(ByteArray.size a0:Int)) && decide ((ByteArray.size a0:Int)≤(ByteArray.size a0:Int))) then
     self (ByteArray.extract a0 (Int.toNat (1:Int)) (Int.toNat (ByteArray.size a0:Int))) (fun (r24_1:(List Int)) (r24_2:ByteArray) (r24_3:Bool) =>
      bif (decide ((List.length r24_1 + List.length [(-1:Int)]) * 1≤4398046511104)) then
       kf (r24_1 ++ [(-1:Int)]) r24_2 r24_3
      else none)
    else none
   else
    bif (inB (0:Int) (ByteArray.size a0)) then
     bif ((bt a0 (0:Int)) == (40:Int)) then
      bif (decide ((0:Int)≤(1:Int)) && decide ((1:Int)≤(ByteArray.size a0:Int)) && decide ((ByteArray.size a0:Int)≤(ByteArray.size a0:Int))) then
       self (ByteArray.extract a0 (Int.toNat (1:Int)) (Int.toNat (ByteArray.size a0:Int))) (fun (r40_4:(List Int)) (r40_5:ByteArray) (r40_6:Bool) =>
        bif (!r40_6) then
         kf ([]:(List Int)) s_e false
        else
         bif (ByteArray.toList r40_5 == ByteArray.toList s_e) then
          kf ([]:(List Int)) s_e false
         else
          bif (inB (0:Int) (ByteArray.size r40_5)) then
           S50 N s_h267c3e (bt r40_5 (0:Int)) (fun (r52_7:Int) =>
            bif (decide ((0:Int)≤(1:Int)) && decide ((1:Int)≤(ByteArray.size r40_5:Int)) && decide ((ByteArray.size r40_5:Int)≤(ByteArray.size r40_5:Int))) then
             self (ByteArray.extract r40_5 (Int.toNat (1:Int)) (Int.toNat (ByteArray.size r40_5:Int))) (fun (r56_8:(List Int)) (r56_9:ByteArray) (r56_10:Bool) =>
              bif (decide (r52_7 < (0:Int))) then
               kf ([]:(List Int)) s_e false
              else
               bif (!r56_10) then
                kf ([]:(List Int)) s_e false
               else
                bif (ByteArray.toList r56_9 == ByteArray.toList s_e) then
                 kf ([]:(List Int)) s_e false
                else
                 bif (inB (0:Int) (ByteArray.size r56_9)) then
                  bif ((bt r56_9 (0:Int)) != (41:Int)) then
                   kf ([]:(List Int)) s_e false
                  else
                   bif (decide ((0:Int)≤(1:Int)) && decide ((1:Int)≤(ByteArray.size r56_9:Int)) && decide ((ByteArray.size r56_9:Int)≤(ByteArray.size r56_9:Int))) then
                    S51 N [r40_4,r56_8,[(IntKind.wrap .i64 ((-2:Int) - r52_7))]] (fun (r81_11:(List Int)) =>
                     kf r81_11 (ByteArray.extract r56_9 (Int.toNat (1:Int)) (Int.toNat (ByteArray.size r56_9:Int))) true)
                   else none
                 else none)
            else none)
          else none)
      else none
     else
      bif (inB (0:Int) (ByteArray.size a0)) then
       bif (decide ((0:Int)≤(1:Int)) && decide ((1:Int)≤(ByteArray.size a0:Int)) && decide ((ByteArray.size a0:Int)≤(ByteArray.size a0:Int))) then
        kf [(IntKind.wrap .i64 ((IntKind.wrap .i64 (bt a0 (0:Int))) - (97:Int)))] (ByteArray.extract a0 (Int.toNat (1:Int)) (Int.toNat (ByteArray.size a0:Int))) true
       else none
      else none
    else none
  else none
noncomputable def I35:Nat→ByteArray→((List Int)→ByteArray→Bool→Option Ret)→Option Ret
 | 0,_,_=>none
 | N + 1,a0,kf=>I35_b (I35 N) N a0 kf
noncomputable def I12 (N:Nat) (a0:ByteArray) (kf:(List Int)→Bool→Option Ret):Option Ret:=
 bif (decide ((ByteArray.size a0:Int) > (100:Int))) then
  kf ([]:(List Int)) false
 else
  I35 N a0 (fun (r13_1:(List Int)) (r13_2:ByteArray) (r13_3:Bool) =>
   bif (!r13_3) then
    kf ([]:(List Int)) false
   else
    bif (!(ByteArray.toList r13_2 == ByteArray.toList s_e)) then
     kf ([]:(List Int)) false
    else
     I13 N r13_1 (fun (r25_4:ByteArray) =>
      bif (!(ByteArray.toList r25_4 == ByteArray.toList a0)) then
       kf ([]:(List Int)) false
      else
       kf r13_1 true))
noncomputable def L15_l4 (x0_1:(List Int)) (x1_2:(List Int)):Nat→(Option Ret)→(Bool→Option Ret)→Int→Option Ret
 | 0,_,_,_=>none
 | n_4 + 1,k4_0_5,k4_1_6,x5_3 =>
  bif (decide (x5_3 < (List.length x0_1:Int))) then
   bif (inB x5_3 (List.length x0_1)) then
    bif (inB x5_3 (List.length x1_2)) then
     bif ((List.getD x0_1 (Int.toNat x5_3) (0:Int)) != (List.getD x1_2 (Int.toNat x5_3) (0:Int))) then
      k4_1_6 false
     else
      (L15_l4 x0_1 x1_2 n_4 k4_0_5 k4_1_6) (IntKind.wrap .i64 (x5_3 + (1:Int)))
    else none
   else none
  else
   k4_0_5
noncomputable def L15 (N:Nat) (a0:(List Int)) (a1:(List Int)) (kf:Bool→Option Ret):Option Ret:=
 bif ((List.length a0:Int) != (List.length a1:Int)) then
  kf false
 else
  L15_l4 a0 a1 N (kf true) kf (0:Int)
noncomputable def S53_l3 (N:Nat) (x0_1:(List Int)):Nat→(Int→Option Ret)→(Bool→Option Ret)→Int→Int→Option Ret
 | 0,_,_,_,_=>none
 | n_4 + 1,k3_0_9,k3_1_10,x3_2,x4_3 =>
  bif (decide (x4_3 < (List.length x0_1:Int))) then
   bif (inB x4_3 (List.length x0_1)) then
    S66 N (List.getD x0_1 (Int.toNat x4_3) (0:Int)) (0:Int) (5:Int) (fun (r16_5:Bool) =>
     bif r16_5 then
      (S53_l3 N x0_1 n_4 k3_0_9 k3_1_10) (IntKind.wrap .i64 (x3_2 + (1:Int))) (IntKind.wrap .i64 (x4_3 + (1:Int)))
     else
      bif (inB x4_3 (List.length x0_1)) then
       bif ((List.getD x0_1 (Int.toNat x4_3) (0:Int)) == (-1:Int)) then
        bif (decide (x3_2 ≥ (1:Int))) then
         (S53_l3 N x0_1 n_4 k3_0_9 k3_1_10) x3_2 (IntKind.wrap .i64 (x4_3 + (1:Int)))
        else
         bif (inB x4_3 (List.length x0_1)) then
          S66 N (List.getD x0_1 (Int.toNat x4_3) (0:Int)) (-4:Int) (-2:Int) (fun (r34_6:Bool) =>
           bif r34_6 then
            bif (decide (x3_2 ≥ (2:Int))) then
             (S53_l3 N x0_1 n_4 k3_0_9 k3_1_10) (IntKind.wrap .i64 (x3_2 - (1:Int))) (IntKind.wrap .i64 (x4_3 + (1:Int)))
            else
             k3_1_10 false
           else
            k3_1_10 false)
         else none
       else
        bif (inB x4_3 (List.length x0_1)) then
         S66 N (List.getD x0_1 (Int.toNat x4_3) (0:Int)) (-4:Int) (-2:Int) (fun (r34_7:Bool) =>
          bif r34_7 then
           bif (decide (x3_2 ≥ (2:Int))) then
            (S53_l3 N x0_1 n_4 k3_0_9 k3_1_10) (IntKind.wrap .i64 (x3_2 - (1:Int))) (IntKind.wrap .i64 (x4_3 + (1:Int)))
           else
            k3_1_10 false
          else
           k3_1_10 false)
        else none
      else none)
   else none
  else
   k3_0_9 x3_2
noncomputable def S53 (N:Nat) (a0:(List Int)) (kf:Bool→Option Ret):Option Ret:=
 S53_l3 N a0 N (fun (z3_12:Int) =>
  bif (z3_12 == (1:Int)) then
   kf (decide ((List.length a0:Int)≤(24:Int)))
  else
   kf false) kf (0:Int) (0:Int)
noncomputable def S37_l5 (x0_2:(List Int)):Nat→((List ByteArray)→Option Ret)→(List ByteArray)→Int→Option Ret
 | 0,_,_,_=>none
 | n_5 + 1,k5_0_7,x3_3,x4_4 =>
  bif (decide (x4_4 < (List.length x0_2:Int))) then
   bif (inB x4_4 (List.length x0_2)) then
    bif (decide ((List.getD x0_2 (Int.toNat x4_4) (0:Int)) ≥ (0:Int))) then
     bif (inB x4_4 (List.length x0_2)) then
      bif (inB x4_4 (List.length x0_2)) then
       bif (decide ((0:Int)≤(List.getD x0_2 (Int.toNat x4_4) (0:Int))) && decide ((List.getD x0_2 (Int.toNat x4_4) (0:Int))≤(IntKind.wrap .i64 ((List.getD x0_2 (Int.toNat x4_4) (0:Int)) + (1:Int)))) && decide ((IntKind.wrap .i64 ((List.getD x0_2 (Int.toNat x4_4) (0:Int)) + (1:Int)))≤(ByteArray.size s_abcdef:Int))) then
        bif (decide ((List.length x3_3 + List.length [(ByteArray.extract s_abcdef (Int.toNat (List.getD x0_2 (Int.toNat x4_4) (0:Int))) (Int.toNat (IntKind.wrap .i64 ((List.getD x0_2 (Int.toNat x4_4) (0:Int)) + (1:Int)))))]) * 1≤4398046511104)) then
         (S37_l5 x0_2 n_5 k5_0_7) (x3_3 ++ [(ByteArray.extract s_abcdef (Int.toNat (List.getD x0_2 (Int.toNat x4_4) (0:Int))) (Int.toNat (IntKind.wrap .i64 ((List.getD x0_2 (Int.toNat x4_4) (0:Int)) + (1:Int)))))]) (IntKind.wrap .i64 (x4_4 + (1:Int)))
        else none
       else none
      else none
     else none
    else
     bif (inB x4_4 (List.length x0_2)) then
      bif ((List.getD x0_2 (Int.toNat x4_4) (0:Int)) == (-1:Int)) then
       bif (inB (IntKind.wrap .i64 ((List.length x3_3:Int) - (1:Int))) (List.length x3_3)) then
        bif (decide (ByteArray.size s_h21 + ByteArray.size (List.getD x3_3 (Int.toNat (IntKind.wrap .i64 ((List.length x3_3:Int) - (1:Int)))) ByteArray.empty)≤9223372036854775807)) then
         bif (inB (IntKind.wrap .i64 ((List.length x3_3:Int) - (1:Int))) (List.length x3_3)) then
          (S37_l5 x0_2 n_5 k5_0_7) (List.set x3_3 (Int.toNat (IntKind.wrap .i64 ((List.length x3_3:Int) - (1:Int)))) (s_h21 ++ (List.getD x3_3 (Int.toNat (IntKind.wrap .i64 ((List.length x3_3:Int) - (1:Int)))) ByteArray.empty))) (IntKind.wrap .i64 (x4_4 + (1:Int)))
         else none
        else none
       else none
      else
       bif (inB (IntKind.wrap .i64 ((List.length x3_3:Int) - (2:Int))) (List.length x3_3)) then
        bif (decide (ByteArray.size s_h28 + ByteArray.size (List.getD x3_3 (Int.toNat (IntKind.wrap .i64 ((List.length x3_3:Int) - (2:Int)))) ByteArray.empty)≤9223372036854775807)) then
         bif (inB x4_4 (List.length x0_2)) then
          bif (inB (IntKind.wrap .i64 ((List.length x3_3:Int) - (1:Int))) (List.length x3_3)) then
           bif (inB (IntKind.wrap .i64 ((IntKind.wrap .i64 (0 - (List.getD x0_2 (Int.toNat x4_4) (0:Int)))) - (2:Int))) (List.length [s_h26,s_h7c,s_h3e])) then
            bif (decide (ByteArray.size (s_h28 ++ (List.getD x3_3 (Int.toNat (IntKind.wrap .i64 ((List.length x3_3:Int) - (2:Int)))) ByteArray.empty)) + ByteArray.size (List.getD [s_h26,s_h7c,s_h3e] (Int.toNat (IntKind.wrap .i64 ((IntKind.wrap .i64 (0 - (List.getD x0_2 (Int.toNat x4_4) (0:Int)))) - (2:Int)))) ByteArray.empty)≤9223372036854775807)) then
             bif (decide (ByteArray.size ((s_h28 ++ (List.getD x3_3 (Int.toNat (IntKind.wrap .i64 ((List.length x3_3:Int) - (2:Int)))) ByteArray.empty)) ++ (List.getD [s_h26,s_h7c,s_h3e] (Int.toNat (IntKind.wrap .i64 ((IntKind.wrap .i64 (0 - (List.getD x0_2 (Int.toNat x4_4) (0:Int)))) - (2:Int)))) ByteArray.empty)) + ByteArray.size (List.getD x3_3 (Int.toNat (IntKind.wrap .i64 ((List.length x3_3:Int) - (1:Int)))) ByteArray.empty)≤9223372036854775807)) then
              bif (decide (ByteArray.size (((s_h28 ++ (List.getD x3_3 (Int.toNat (IntKind.wrap .i64 ((List.length x3_3:Int) - (2:Int)))) ByteArray.empty)) ++ (List.getD [s_h26,s_h7c,s_h3e] (Int.toNat (IntKind.wrap .i64 ((IntKind.wrap .i64 (0 - (List.getD x0_2 (Int.toNat x4_4) (0:Int)))) - (2:Int)))) ByteArray.empty)) ++ (List.getD x3_3 (Int.toNat (IntKind.wrap .i64 ((List.length x3_3:Int) - (1:Int)))) ByteArray.empty)) + ByteArray.size s_h29≤9223372036854775807)) then
               bif (decide ((0:Int)≤(0:Int)) && decide ((0:Int)≤(IntKind.wrap .i64 ((List.length x3_3:Int) - (2:Int)))) && decide ((IntKind.wrap .i64 ((List.length x3_3:Int) - (2:Int)))≤(List.length x3_3:Int))) then
                bif (decide ((List.length (List.take (Int.toNat (IntKind.wrap .i64 ((List.length x3_3:Int) - (2:Int)))) x3_3) + List.length [((((s_h28 ++ (List.getD x3_3 (Int.toNat (IntKind.wrap .i64 ((List.length x3_3:Int) - (2:Int)))) ByteArray.empty)) ++ (List.getD [s_h26,s_h7c,s_h3e] (Int.toNat (IntKind.wrap .i64 ((IntKind.wrap .i64 (0 - (List.getD x0_2 (Int.toNat x4_4) (0:Int)))) - (2:Int)))) ByteArray.empty)) ++ (List.getD x3_3 (Int.toNat (IntKind.wrap .i64 ((List.length x3_3:Int) - (1:Int)))) ByteArray.empty)) ++ s_h29)]) * 1≤4398046511104)) then
                 (S37_l5 x0_2 n_5 k5_0_7) ((List.take (Int.toNat (IntKind.wrap .i64 ((List.length x3_3:Int) - (2:Int)))) x3_3) ++ [((((s_h28 ++ (List.getD x3_3 (Int.toNat (IntKind.wrap .i64 ((List.length x3_3:Int) - (2:Int)))) ByteArray.empty)) ++ (List.getD [s_h26,s_h7c,s_h3e] (Int.toNat (IntKind.wrap .i64 ((IntKind.wrap .i64 (0 - (List.getD x0_2 (Int.toNat x4_4) (0:Int)))) - (2:Int)))) ByteArray.empty)) ++ (List.getD x3_3 (Int.toNat (IntKind.wrap .i64 ((List.length x3_3:Int) - (1:Int)))) ByteArray.empty)) ++ s_h29)]) (IntKind.wrap .i64 (x4_4 + (1:Int)))
                else none
               else none
              else none
             else none
            else none
           else none
          else none
         else none
        else none
       else none
     else none
   else none
  else
   k5_0_7 x3_3
noncomputable def S37 (N:Nat) (a0:(List Int)) (kf:ByteArray→Option Ret):Option Ret:=
 S53 N a0 (fun (r8_1:Bool) =>
  bif (!r8_1) then
   kf s_e
  else
   S37_l5 a0 N (fun (z3_9:(List ByteArray)) =>
    bif (inB (0:Int) (List.length z3_9)) then
     kf (List.getD z3_9 (Int.toNat (0:Int)) ByteArray.empty)
    else none) ([]:(List ByteArray)) (0:Int))
noncomputable def S16 (N:Nat) (a0:(List Int)) (kf:ByteArray→Option Ret):Option Ret:=
 S30 N a0 (fun (r6_1:QLIIIE) =>
  S38 N r6_1 (fun (r8_2:(List Int)) (z3_3:QLIIIE) =>
   S37 N r8_2 (fun (r9_4:ByteArray) =>
    bif (decide (ByteArray.size r9_4 + ByteArray.size s_h29≤9223372036854775807)) then
     S33 N z3_3 [r9_4,r9_4,r9_4,(r9_4 ++ s_h29),s_h2861266229,s_h612662,s_h212161,s_h286129,s_g,s_e,s_h21,s_h28612629,s_h2828612662297c63,s_h28612a6229,s_h28613e28627c21632929] (fun (r17_5:ByteArray) (z3_6:QLIIIE) =>
      kf r17_5)
    else none)))
noncomputable def S85_l2 (N:Nat) (x0_1:(List QIIIE)):Nat→(Option Ret)→(Bool→Option Ret)→Int→Option Ret
 | 0,_,_,_=>none
 | n_3 + 1,k2_0_7,k2_1_8,x3_2 =>
  bif (decide (x3_2 < (List.length x0_1:Int))) then
   bif (inB x3_2 (List.length x0_1)) then
    S66 N (List.getD x0_1 (Int.toNat x3_2) zQIIIE).1 (1:Int) (99:Int) (fun (r15_4:Bool) =>
     bif (!r15_4) then
      k2_1_8 false
     else
      bif (inB x3_2 (List.length x0_1)) then
       S66 N (List.getD x0_1 (Int.toNat x3_2) zQIIIE).2.1 (1:Int) (2:Int) (fun (r23_5:Bool) =>
        bif (!r23_5) then
         k2_1_8 false
        else
         bif (inB x3_2 (List.length x0_1)) then
          S66 N (List.getD x0_1 (Int.toNat x3_2) zQIIIE).2.2 (0:Int) (4:Int) (fun (r32_6:Bool) =>
           bif (!r32_6) then
            k2_1_8 false
           else
            bif (decide (x3_2 > (0:Int))) then
             bif (inB (IntKind.wrap .i64 (x3_2 - (1:Int))) (List.length x0_1)) then
              bif (inB x3_2 (List.length x0_1)) then
               bif (decide ((List.getD x0_1 (Int.toNat (IntKind.wrap .i64 (x3_2 - (1:Int)))) zQIIIE).1 ≥ (List.getD x0_1 (Int.toNat x3_2) zQIIIE).1)) then
                k2_1_8 false
               else
                (S85_l2 N x0_1 n_3 k2_0_7 k2_1_8) (IntKind.wrap .i64 (x3_2 + (1:Int)))
              else none
             else none
            else
             (S85_l2 N x0_1 n_3 k2_0_7 k2_1_8) (IntKind.wrap .i64 (x3_2 + (1:Int))))
         else none)
      else none)
   else none
  else
   k2_0_7
noncomputable def S85 (N:Nat) (a0:(List QIIIE)) (kf:Bool→Option Ret):Option Ret:=
 S85_l2 N a0 N (kf (decide ((List.length a0:Int)≤(30:Int)))) kf (0:Int)
noncomputable def S72_l2 (x0_1:(List QIIIE)) (x1_2:Int) (x2_3:Int):Nat→(Int→Option Ret)→Int→Option Ret
 | 0,_,_=>none
 | n_5 + 1,k2_0_6,x8_4 =>
  bif (decide (x8_4 < (List.length x0_1:Int))) then
   bif (inB x8_4 (List.length x0_1)) then
    bif (decide ((List.getD x0_1 (Int.toNat x8_4) zQIIIE).1 < x1_2)) then
     (S72_l2 x0_1 x1_2 x2_3 n_5 k2_0_6) (IntKind.wrap .i64 (x8_4 + (1:Int)))
    else
     k2_0_6 x8_4
   else none
  else
   k2_0_6 x8_4
noncomputable def S72 (N:Nat) (a0:(List QIIIE)) (a1:Int) (a2:Int) (kf:(List QIIIE)→Bool→Option Ret):Option Ret:=
 S72_l2 a0 a1 a2 N (fun (z8_8:Int) =>
  bif (decide ((0:Int)≤(0:Int)) && decide ((0:Int)≤z8_8) && decide (z8_8≤(List.length a0:Int))) then
   bif (decide ((0:Int)≤z8_8) && decide (z8_8≤(List.length a0:Int)) && decide ((List.length a0:Int)≤(List.length a0:Int))) then
    bif (decide ((List.length ([]:(List QIIIE)) + List.length (List.drop (Int.toNat (0:Int)) (List.take (Int.toNat z8_8) a0))) * 3≤4398046511104)) then
     bif (decide ((List.length (([]:(List QIIIE)) ++ (List.drop (Int.toNat (0:Int)) (List.take (Int.toNat z8_8) a0))) + List.length [(a1,(a2,(0:Int)))]) * 3≤4398046511104)) then
      bif (decide ((List.length ((([]:(List QIIIE)) ++ (List.drop (Int.toNat (0:Int)) (List.take (Int.toNat z8_8) a0))) ++ [(a1,(a2,(0:Int)))]) + List.length (List.drop (Int.toNat z8_8) (List.take (Int.toNat (List.length a0:Int)) a0))) * 3≤4398046511104)) then
       S85 N (((([]:(List QIIIE)) ++ (List.drop (Int.toNat (0:Int)) (List.take (Int.toNat z8_8) a0))) ++ [(a1,(a2,(0:Int)))]) ++ (List.drop (Int.toNat z8_8) (List.take (Int.toNat (List.length a0:Int)) a0))) (fun (r40_9:Bool) =>
        bif (!r40_9) then
         bif (decide ((List.length ([]:(List QIIIE)) + List.length a0) * 3≤4398046511104)) then
          kf (([]:(List QIIIE)) ++ a0) false
         else none
        else
         kf (((([]:(List QIIIE)) ++ (List.drop (Int.toNat (0:Int)) (List.take (Int.toNat z8_8) a0))) ++ [(a1,(a2,(0:Int)))]) ++ (List.drop (Int.toNat z8_8) (List.take (Int.toNat (List.length a0:Int)) a0))) true)
      else none
     else none
    else none
   else none
  else none) (0:Int)
noncomputable def S73_j1 (k3_1_14:(List QIIIE)→Bool→Option Ret) (r47_10:Bool) (rc3_15:Int→Option Ret) (x0_1:(List QIIIE)) (x10_5:(List QIIIE)) (x11_6:Int) (x1_2:Int) (x3_4:Int):Option Ret:=
 bif ((List.getD x0_1 (Int.toNat x11_6) zQIIIE).1 == x1_2) then
  bif r47_10 then
   bif (inB x11_6 (List.length x10_5)) then
    k3_1_14 (List.set x10_5 (Int.toNat x11_6) ((List.getD x10_5 (Int.toNat x11_6) zQIIIE).1,((List.getD x10_5 (Int.toNat x11_6) zQIIIE).2.1,x3_4))) true
   else none
  else
   rc3_15 (IntKind.wrap .i64 (x11_6 + (1:Int)))
 else
  rc3_15 (IntKind.wrap .i64 (x11_6 + (1:Int)))
noncomputable def S73_j2 (N:Nat) (k3_1_14:(List QIIIE)→Bool→Option Ret) (rc3_15:Int→Option Ret) (x0_1:(List QIIIE)) (x10_5:(List QIIIE)) (x11_6:Int) (x1_2:Int) (x2_3:Int) (x3_4:Int):Option Ret:=
 bif ((List.getD x0_1 (Int.toNat x11_6) zQIIIE).2.2 == (2:Int)) then
  bif (x2_3 == (List.getD x0_1 (Int.toNat x11_6) zQIIIE).2.1) then
   S66 N x3_4 (3:Int) (4:Int) (fun (r60_12:Bool) =>
    bif ((List.getD x0_1 (Int.toNat x11_6) zQIIIE).1 == x1_2) then
     bif r60_12 then
      bif (inB x11_6 (List.length x10_5)) then
       k3_1_14 (List.set x10_5 (Int.toNat x11_6) ((List.getD x10_5 (Int.toNat x11_6) zQIIIE).1,((List.getD x10_5 (Int.toNat x11_6) zQIIIE).2.1,x3_4))) true
      else none
     else
      rc3_15 (IntKind.wrap .i64 (x11_6 + (1:Int)))
    else
     rc3_15 (IntKind.wrap .i64 (x11_6 + (1:Int))))
  else
   bif ((List.getD x0_1 (Int.toNat x11_6) zQIIIE).1 == x1_2) then
    rc3_15 (IntKind.wrap .i64 (x11_6 + (1:Int)))
   else
    rc3_15 (IntKind.wrap .i64 (x11_6 + (1:Int)))
 else
  bif ((List.getD x0_1 (Int.toNat x11_6) zQIIIE).1 == x1_2) then
   rc3_15 (IntKind.wrap .i64 (x11_6 + (1:Int)))
  else
   rc3_15 (IntKind.wrap .i64 (x11_6 + (1:Int)))
noncomputable def S73_l3 (N:Nat) (x0_1:(List QIIIE)) (x1_2:Int) (x2_3:Int) (x3_4:Int) (x10_5:(List QIIIE)):Nat→(Option Ret)→((List QIIIE)→Bool→Option Ret)→Int→Option Ret
 | 0,_,_,_=>none
 | n_7 + 1,k3_0_13,k3_1_14,x11_6 =>
  bif (decide (x11_6 < (List.length x0_1:Int))) then
   S85 N x0_1 (fun (r24_8:Bool) =>
    bif r24_8 then
     S66 N x2_3 (1:Int) (2:Int) (fun (r28_9:Bool) =>
      bif r28_9 then
       bif (inB x11_6 (List.length x0_1)) then
        bif ((List.getD x0_1 (Int.toNat x11_6) zQIIIE).2.2 == (0:Int)) then
         bif (x2_3 != (List.getD x0_1 (Int.toNat x11_6) zQIIIE).2.1) then
          S66 N x3_4 (1:Int) (2:Int) (fun (r47_10:Bool) =>
           bif ((List.getD x0_1 (Int.toNat x11_6) zQIIIE).2.2 == (2:Int)) then
            bif (x2_3 == (List.getD x0_1 (Int.toNat x11_6) zQIIIE).2.1) then
             S66 N x3_4 (3:Int) (4:Int) (fun (r60_11:Bool) =>
              bif ((List.getD x0_1 (Int.toNat x11_6) zQIIIE).1 == x1_2) then
               bif r47_10 then
                bif (inB x11_6 (List.length x10_5)) then
                 k3_1_14 (List.set x10_5 (Int.toNat x11_6) ((List.getD x10_5 (Int.toNat x11_6) zQIIIE).1,((List.getD x10_5 (Int.toNat x11_6) zQIIIE).2.1,x3_4))) true
                else none
               else
                bif r60_11 then
                 bif (inB x11_6 (List.length x10_5)) then
                  k3_1_14 (List.set x10_5 (Int.toNat x11_6) ((List.getD x10_5 (Int.toNat x11_6) zQIIIE).1,((List.getD x10_5 (Int.toNat x11_6) zQIIIE).2.1,x3_4))) true
                 else none
                else
                 (S73_l3 N x0_1 x1_2 x2_3 x3_4 x10_5 n_7 k3_0_13 k3_1_14) (IntKind.wrap .i64 (x11_6 + (1:Int)))
              else
               (S73_l3 N x0_1 x1_2 x2_3 x3_4 x10_5 n_7 k3_0_13 k3_1_14) (IntKind.wrap .i64 (x11_6 + (1:Int))))
            else
             S73_j1 k3_1_14 r47_10 (S73_l3 N x0_1 x1_2 x2_3 x3_4 x10_5 n_7 k3_0_13 k3_1_14) x0_1 x10_5 x11_6 x1_2 x3_4
           else
            S73_j1 k3_1_14 r47_10 (S73_l3 N x0_1 x1_2 x2_3 x3_4 x10_5 n_7 k3_0_13 k3_1_14) x0_1 x10_5 x11_6 x1_2 x3_4)
         else
          S73_j2 N k3_1_14 (S73_l3 N x0_1 x1_2 x2_3 x3_4 x10_5 n_7 k3_0_13 k3_1_14) x0_1 x10_5 x11_6 x1_2 x2_3 x3_4
        else
         S73_j2 N k3_1_14 (S73_l3 N x0_1 x1_2 x2_3 x3_4 x10_5 n_7 k3_0_13 k3_1_14) x0_1 x10_5 x11_6 x1_2 x2_3 x3_4
       else none
      else
       k3_0_13)
    else
     k3_0_13)
  else
   k3_0_13
noncomputable def S73 (N:Nat) (a0:(List QIIIE)) (a1:Int) (a2:Int) (a3:Int) (kf:(List QIIIE)→Bool→Option Ret):Option Ret:=
 bif (decide ((List.length ([]:(List QIIIE)) + List.length a0) * 3≤4398046511104)) then
  S73_l3 N a0 a1 a2 a3 (([]:(List QIIIE)) ++ a0) N (kf (([]:(List QIIIE)) ++ a0) false) kf (0:Int)
 else none
noncomputable def S56_l3 (N:Nat):Nat→(QLIIIE→(List QIIIE)→Option Ret)→QLIIIE→(List QIIIE)→Int→Option Ret
 | 0,_,_,_,_=>none
 | n_6 + 1,k3_0_21,x0_3,x3_4,x4_5 =>
  bif (decide (x4_5 > (0:Int))) then
   S48 N x0_3 (6:Int) (fun (r15_7:Int) (z0_8:QLIIIE) =>
    S48 N z0_8 (2:Int) (fun (r18_9:Int) (z0_10:QLIIIE) =>
     S72 N x3_4 (IntKind.wrap .i64 ((1:Int) + r15_7)) (IntKind.wrap .i64 ((1:Int) + r18_9)) (fun (r20_11:(List QIIIE)) (r20_12:Bool) =>
      S48 N z0_10 (6:Int) (fun (r26_13:Int) (z0_14:QLIIIE) =>
       S48 N z0_14 (2:Int) (fun (r29_15:Int) (z0_16:QLIIIE) =>
        S48 N z0_16 (4:Int) (fun (r32_17:Int) (z0_18:QLIIIE) =>
         S73 N r20_11 (IntKind.wrap .i64 ((1:Int) + r26_13)) (IntKind.wrap .i64 ((1:Int) + r29_15)) (IntKind.wrap .i64 ((1:Int) + r32_17)) (fun (r34_19:(List QIIIE)) (r34_20:Bool) =>
          (S56_l3 N n_6 k3_0_21) z0_18 r34_19 (IntKind.wrap .i64 (x4_5 - (1:Int))))))))))
  else
   k3_0_21 x0_3 x3_4
noncomputable def S56 (N:Nat) (a0:QLIIIE) (kf:(List QIIIE)→QLIIIE→Option Ret):Option Ret:=
 S48 N a0 (10:Int) (fun (r7_1:Int) (z0_2:QLIIIE) =>
  S56_l3 N N (fun (z0_23:QLIIIE) (z3_24:(List QIIIE)) =>
   kf z3_24 z0_23) z0_2 ([]:(List QIIIE)) r7_1)
noncomputable def S39 (N:Nat) (a0:QLIIIE) (kf:(List QIIIE)→QLIIIE→Option Ret):Option Ret:=
 S56 N a0 (fun (r6_1:(List QIIIE)) (z0_2:QLIIIE) =>
  bif (decide ((List.length r6_1:Int) > (0:Int))) then
   S48 N z0_2 (List.length r6_1:Int) (fun (r13_3:Int) (z0_4:QLIIIE) =>
    S48 N z0_4 (12:Int) (fun (r15_5:Int) (z0_6:QLIIIE) =>
     bif (r15_5 == (0:Int)) then
      S55 N z0_6 [(0:Int),(1:Int),(99:Int),(100:Int)] (fun (r22_7:Int) (z0_8:QLIIIE) =>
       bif (inB r13_3 (List.length r6_1)) then
        share (List.set r6_1 (Int.toNat r13_3) (r22_7,(List.getD r6_1 (Int.toNat r13_3) zQIIIE).2)) (fun (w3_9:(List QIIIE)) =>
         kf w3_9 z0_8)
       else none)
     else
      bif (r15_5 == (1:Int)) then
       S55 N z0_6 [(0:Int),(2:Int),(3:Int)] (fun (r31_10:Int) (z0_11:QLIIIE) =>
        bif (inB r13_3 (List.length r6_1)) then
         share (List.set r6_1 (Int.toNat r13_3) ((List.getD r6_1 (Int.toNat r13_3) zQIIIE).1,(r31_10,(List.getD r6_1 (Int.toNat r13_3) zQIIIE).2.2))) (fun (w3_12:(List QIIIE)) =>
          kf w3_12 z0_11)
        else none)
      else
       bif (r15_5 == (2:Int)) then
        S55 N z0_6 [(-1:Int),(4:Int),(5:Int)] (fun (r40_13:Int) (z0_14:QLIIIE) =>
         bif (inB r13_3 (List.length r6_1)) then
          share (List.set r6_1 (Int.toNat r13_3) ((List.getD r6_1 (Int.toNat r13_3) zQIIIE).1,((List.getD r6_1 (Int.toNat r13_3) zQIIIE).2.1,r40_13))) (fun (w3_15:(List QIIIE)) =>
           kf w3_15 z0_14)
         else none)
       else
        kf r6_1 z0_6))
  else
   kf r6_1 z0_2)
noncomputable def S17 (N:Nat) (a0:(List Int)) (kf:QIIIE→Option Ret):Option Ret:=
 S30 N a0 (fun (r6_1:QLIIIE) =>
  S39 N r6_1 (fun (r8_2:(List QIIIE)) (z3_3:QLIIIE) =>
   bif ((List.length r8_2:Int) == (0:Int)) then
    kf ((0:Int),((0:Int),(0:Int)))
   else
    bif (inB (0:Int) (List.length r8_2)) then
     kf (List.getD r8_2 (Int.toNat (0:Int)) zQIIIE)
    else none))
noncomputable def I18 (N:Nat) (a0:QIIIE) (kf:ByteArray→Option Ret):Option Ret:=
 I25 N a0.2.1 (1:Int) (2:Int) (fun (r5_1:Bool) =>
  bif (!r5_1) then
   kf s_e
  else
   I25 N a0.2.2 (0:Int) (4:Int) (fun (r10_2:Bool) =>
    bif (!r10_2) then
     kf s_e
    else
     bif (decide ((0:Int)≤a0.2.2) && decide (a0.2.2≤(IntKind.wrap .i64 (a0.2.2 + (1:Int)))) && decide ((IntKind.wrap .i64 (a0.2.2 + (1:Int)))≤(ByteArray.size s_h3f2b2d212e:Int))) then
      I24 N a0.1 (fun (r15_3:ByteArray) =>
       bif (decide (ByteArray.size r15_3 + ByteArray.size s_h3a≤9223372036854775807)) then
        I24 N a0.2.1 (fun (r19_4:ByteArray) =>
         bif (decide (ByteArray.size (r15_3 ++ s_h3a) + ByteArray.size r19_4≤9223372036854775807)) then
          bif (decide (ByteArray.size ((r15_3 ++ s_h3a) ++ r19_4) + ByteArray.size (ByteArray.extract s_h3f2b2d212e (Int.toNat a0.2.2) (Int.toNat (IntKind.wrap .i64 (a0.2.2 + (1:Int)))))≤9223372036854775807)) then
           kf (((r15_3 ++ s_h3a) ++ r19_4) ++ (ByteArray.extract s_h3f2b2d212e (Int.toNat a0.2.2) (Int.toNat (IntKind.wrap .i64 (a0.2.2 + (1:Int))))))
          else none
         else none)
       else none)
     else none))
noncomputable def S40 (N:Nat) (a0:(List ByteArray)) (a1:ByteArray) (kf:ByteArray→Option Ret):Option Ret:=
 bif (Nat.ble (List.length a0) 140737488355328 && Nat.ble (ByteArray.size (joinB a0 a1)) 140737488355328) then
  kf (joinB a0 a1)
 else none
noncomputable def I19_l9 (N:Nat) (x3_6:ByteArray) (x12_8:(List (List Int))) (x13_9:Int) (x14_10:Int) (x19_11:(List Int)) (x20_12:Int):Nat→((List ByteArray)→Option Ret)→(List ByteArray)→Int→Option Ret
 | 0,_,_,_=>none
 | n_14 + 1,k9_0_16,x6_7,x21_13 =>
  bif (decide (x21_13 < x20_12)) then
   bif (inB x21_13 (List.length x19_11)) then
    I24 N (List.getD x19_11 (Int.toNat x21_13) (0:Int)) (fun (r27_15:ByteArray) =>
     bif (decide ((List.length x6_7 + List.length [r27_15]) * 1≤4398046511104)) then
      (I19_l9 N x3_6 x12_8 x13_9 x14_10 x19_11 x20_12 n_14 k9_0_16) (x6_7 ++ [r27_15]) (IntKind.wrap .i64 (x21_13 + (1:Int)))
     else none)
   else none
  else
   k9_0_16 x6_7
noncomputable def I19_l5 (N:Nat) (x12_2:(List (List Int))) (x13_3:Int):Nat→(ByteArray→Option Ret)→ByteArray→Int→Option Ret
 | 0,_,_,_=>none
 | n_5 + 1,k5_0_20,x3_1,x14_4 =>
  bif (decide (x14_4 < x13_3)) then
   bif (inB x14_4 (List.length x12_2)) then
    I19_l9 N x3_1 x12_2 x13_3 x14_4 (List.getD x12_2 (Int.toNat x14_4) ([]:(List Int))) (List.length (List.getD x12_2 (Int.toNat x14_4) ([]:(List Int))):Int) N (fun (z6_18:(List ByteArray)) =>
     S40 N z6_18 s_h2c (fun (r33_19:ByteArray) =>
      bif (decide (ByteArray.size s_h7b + ByteArray.size r33_19≤9223372036854775807)) then
       bif (decide (ByteArray.size (s_h7b ++ r33_19) + ByteArray.size s_h7d≤9223372036854775807)) then
        bif (decide (ByteArray.size x3_1 + ByteArray.size ((s_h7b ++ r33_19) ++ s_h7d)≤9223372036854775807)) then
         (I19_l5 N x12_2 x13_3 n_5 k5_0_20) (x3_1 ++ ((s_h7b ++ r33_19) ++ s_h7d)) (IntKind.wrap .i64 (x14_4 + (1:Int)))
        else none
       else none
      else none)) ([]:(List ByteArray)) (0:Int)
   else none
  else
   k5_0_20 x3_1
noncomputable def I19 (N:Nat) (a0:(List (List Int))) (kf:ByteArray→Option Ret):Option Ret:=
 bif ((List.length a0:Int) == (0:Int)) then
  kf s_h2d
 else
  I19_l5 N a0 (List.length a0:Int) N kf s_e (0:Int)
abbrev TG0_L3:Type:=Nat→(List Int)→(Bool→Option Ret)→Option Ret
abbrev TG1_L3:Type:=Nat→(List Int)→(QILLIE→Option Ret)→Option Ret
abbrev TG2_L3:Type:=Nat→QILLIE→(ByteArray→Option Ret)→Option Ret
abbrev TG3_L3:Type:=Nat→ByteArray→(QILLIE→Bool→Option Ret)→Option Ret
abbrev TG4_L3:Type:=Nat→QILLIE→(Bool→Option Ret)→Option Ret
abbrev TG5_L3:Type:=Nat→QILLIE→QILLIE→(Bool→Option Ret)→Option Ret
abbrev TG6_L3:Type:=Nat→(List Int)→(ByteArray→Option Ret)→Option Ret
abbrev TG7_L3:Type:=Nat→(List Int)→((List Int)→Option Ret)→Option Ret
abbrev TG8_L3:Type:=Nat→ByteArray→((List Int)→Bool→Option Ret)→Option Ret
abbrev TG9_L3:Type:=Nat→(List Int)→(List Int)→(Bool→Option Ret)→Option Ret
abbrev TG10_L3:Type:=Nat→(List Int)→(QIIIE→Option Ret)→Option Ret
abbrev TG11_L3:Type:=Nat→QIIIE→(ByteArray→Option Ret)→Option Ret
abbrev TG12_L3:Type:=Nat→(List (List Int))→(ByteArray→Option Ret)→Option Ret
noncomputable def L3_j4_g (g0:TG0_L3) (g1:TG1_L3) (g2:TG2_L3) (g3:TG3_L3) (g4:TG4_L3) (g5:TG5_L3) (g6:TG6_L3) (g7:TG7_L3) (g8:TG6_L3) (g9:TG8_L3) (g10:TG0_L3) (g11:TG9_L3) (g12:TG6_L3) (g13:TG10_L3) (g14:TG11_L3) (g15:TG12_L3) (N:Nat) (y120_26:Bool) (kf:Bool→Option Ret):Option Ret:=
 bif y120_26 then
  g15 N ([]:(List (List Int))) (fun (r122_27:ByteArray) =>
   kf (ByteArray.toList r122_27 == ByteArray.toList s_h2d))
 else
  kf false
noncomputable def L3_j5_s (g0:TG0_L3) (g1:TG1_L3) (g2:TG2_L3) (g3:TG3_L3) (g4:TG4_L3) (g5:TG5_L3) (g6:TG6_L3) (g7:TG7_L3) (g8:TG6_L3) (g9:TG8_L3) (g10:TG0_L3) (g11:TG9_L3) (g12:TG6_L3) (g13:TG10_L3) (g14:TG11_L3) (g15:TG12_L3) (N:Nat) (r88_22:QIIIE) (y96_24:Bool) (kf:Bool→Option Ret) (J:Bool→Option Ret):Option Ret:=
 bif y96_24 then
  g14 N r88_22 (fun (r99_25:ByteArray) =>
   bif (decide (r88_22.2.1 < (1:Int))) then
    J ((ByteArray.toList r99_25 == ByteArray.toList s_e) == true)
   else
    bif (decide (r88_22.2.1 > (2:Int))) then
     J ((ByteArray.toList r99_25 == ByteArray.toList s_e) == true)
    else
     bif (decide (r88_22.2.2 < (0:Int))) then
      J ((ByteArray.toList r99_25 == ByteArray.toList s_e) == true)
     else
      J ((ByteArray.toList r99_25 == ByteArray.toList s_e) == (decide (r88_22.2.2 > (4:Int)))))
 else
  J false
noncomputable def L3_j5_g (g0:TG0_L3) (g1:TG1_L3) (g2:TG2_L3) (g3:TG3_L3) (g4:TG4_L3) (g5:TG5_L3) (g6:TG6_L3) (g7:TG7_L3) (g8:TG6_L3) (g9:TG8_L3) (g10:TG0_L3) (g11:TG9_L3) (g12:TG6_L3) (g13:TG10_L3) (g14:TG11_L3) (g15:TG12_L3) (N:Nat) (r88_22:QIIIE) (y96_24:Bool) (kf:Bool→Option Ret):Option Ret:=L3_j5_s g0 g1 g2 g3 g4 g5 g6 g7 g8 g9 g10 g11 g12 g13 g14 g15 N r88_22 y96_24 kf (fun y120_26=>L3_j4_g g0 g1 g2 g3 g4 g5 g6 g7 g8 g9 g10 g11 g12 g13 g14 g15 N y120_26 kf)
noncomputable def L3_j3_s (g0:TG0_L3) (g1:TG1_L3) (g2:TG2_L3) (g3:TG3_L3) (g4:TG4_L3) (g5:TG5_L3) (g6:TG6_L3) (g7:TG7_L3) (g8:TG6_L3) (g9:TG8_L3) (g10:TG0_L3) (g11:TG9_L3) (g12:TG6_L3) (g13:TG10_L3) (g14:TG11_L3) (g15:TG12_L3) (N:Nat) (a0:(List Int)) (kf:Bool→Option Ret) (J:QIIIE→Bool→Option Ret):Option Ret:=
 g12 N a0 (fun (r81_19:ByteArray) =>
  g9 N r81_19 (fun (r84_20:(List Int)) (r84_21:Bool) =>
   g13 N a0 (fun (r88_22:QIIIE) =>
    bif (!r84_21) then
     J r88_22 true
    else
     g8 N r84_20 (fun (r93_23:ByteArray) =>
      J r88_22 (ByteArray.toList r93_23 == ByteArray.toList r81_19)))))
noncomputable def L3_j3_g (g0:TG0_L3) (g1:TG1_L3) (g2:TG2_L3) (g3:TG3_L3) (g4:TG4_L3) (g5:TG5_L3) (g6:TG6_L3) (g7:TG7_L3) (g8:TG6_L3) (g9:TG8_L3) (g10:TG0_L3) (g11:TG9_L3) (g12:TG6_L3) (g13:TG10_L3) (g14:TG11_L3) (g15:TG12_L3) (N:Nat) (a0:(List Int)) (kf:Bool→Option Ret):Option Ret:=L3_j3_s g0 g1 g2 g3 g4 g5 g6 g7 g8 g9 g10 g11 g12 g13 g14 g15 N a0 kf (fun r88_22 y96_24=>L3_j5_g g0 g1 g2 g3 g4 g5 g6 g7 g8 g9 g10 g11 g12 g13 g14 g15 N r88_22 y96_24 kf)
noncomputable def L3_j2_s (g0:TG0_L3) (g1:TG1_L3) (g2:TG2_L3) (g3:TG3_L3) (g4:TG4_L3) (g5:TG5_L3) (g6:TG6_L3) (g7:TG7_L3) (g8:TG6_L3) (g9:TG8_L3) (g10:TG0_L3) (g11:TG9_L3) (g12:TG6_L3) (g13:TG10_L3) (g14:TG11_L3) (g15:TG12_L3) (N:Nat) (a0:(List Int)) (kf:Bool→Option Ret) (J:(List Int)→Option Ret):Option Ret:=
 g7 N a0 (fun (r60_13:(List Int)) =>
  g8 N r60_13 (fun (r63_14:ByteArray) =>
   g9 N r63_14 (fun (r64_15:(List Int)) (r64_16:Bool) =>
    g10 N r60_13 (fun (r69_17:Bool) =>
     bif (!(r64_16 == r69_17)) then
      kf false
     else
      bif r64_16 then
       g11 N r64_15 r60_13 (fun (r76_18:Bool) =>
        bif (!r76_18) then
         kf false
        else
         J a0)
      else
       J a0))))
noncomputable def L3_j2_g (g0:TG0_L3) (g1:TG1_L3) (g2:TG2_L3) (g3:TG3_L3) (g4:TG4_L3) (g5:TG5_L3) (g6:TG6_L3) (g7:TG7_L3) (g8:TG6_L3) (g9:TG8_L3) (g10:TG0_L3) (g11:TG9_L3) (g12:TG6_L3) (g13:TG10_L3) (g14:TG11_L3) (g15:TG12_L3) (N:Nat) (a0:(List Int)) (kf:Bool→Option Ret):Option Ret:=L3_j2_s g0 g1 g2 g3 g4 g5 g6 g7 g8 g9 g10 g11 g12 g13 g14 g15 N a0 kf (fun a0=>L3_j3_g g0 g1 g2 g3 g4 g5 g6 g7 g8 g9 g10 g11 g12 g13 g14 g15 N a0 kf)
noncomputable def L3_j1_s (g0:TG0_L3) (g1:TG1_L3) (g2:TG2_L3) (g3:TG3_L3) (g4:TG4_L3) (g5:TG5_L3) (g6:TG6_L3) (g7:TG7_L3) (g8:TG6_L3) (g9:TG8_L3) (g10:TG0_L3) (g11:TG9_L3) (g12:TG6_L3) (g13:TG10_L3) (g14:TG11_L3) (g15:TG12_L3) (N:Nat) (a0:(List Int)) (kf:Bool→Option Ret) (J:(List Int)→Option Ret):Option Ret:=
 g6 N a0 (fun (r46_9:ByteArray) =>
  g3 N r46_9 (fun (r49_10:QILLIE) (r49_11:Bool) =>
   bif r49_11 then
    g2 N r49_10 (fun (r55_12:ByteArray) =>
     bif (!(ByteArray.toList r55_12 == ByteArray.toList r46_9)) then
      kf false
     else
      J a0)
   else
    J a0))
noncomputable def L3_j1_g (g0:TG0_L3) (g1:TG1_L3) (g2:TG2_L3) (g3:TG3_L3) (g4:TG4_L3) (g5:TG5_L3) (g6:TG6_L3) (g7:TG7_L3) (g8:TG6_L3) (g9:TG8_L3) (g10:TG0_L3) (g11:TG9_L3) (g12:TG6_L3) (g13:TG10_L3) (g14:TG11_L3) (g15:TG12_L3) (N:Nat) (a0:(List Int)) (kf:Bool→Option Ret):Option Ret:=L3_j1_s g0 g1 g2 g3 g4 g5 g6 g7 g8 g9 g10 g11 g12 g13 g14 g15 N a0 kf (fun a0=>L3_j2_g g0 g1 g2 g3 g4 g5 g6 g7 g8 g9 g10 g11 g12 g13 g14 g15 N a0 kf)
noncomputable def L3_s (g0:TG0_L3) (g1:TG1_L3) (g2:TG2_L3) (g3:TG3_L3) (g4:TG4_L3) (g5:TG5_L3) (g6:TG6_L3) (g7:TG7_L3) (g8:TG6_L3) (g9:TG8_L3) (g10:TG0_L3) (g11:TG9_L3) (g12:TG6_L3) (g13:TG10_L3) (g14:TG11_L3) (g15:TG12_L3) (N:Nat) (a0:(List Int)) (kf:Bool→Option Ret) (J:(List Int)→Option Ret):Option Ret:=
 g0 N a0 (fun (r17_1:Bool) =>
  bif r17_1 then
   kf true
  else
   g1 N a0 (fun (r19_2:QILLIE) =>
    g2 N r19_2 (fun (r22_3:ByteArray) =>
     g3 N r22_3 (fun (r23_4:QILLIE) (r23_5:Bool) =>
      g4 N r19_2 (fun (r28_6:Bool) =>
       bif (!(r23_5 == r28_6)) then
        kf false
       else
        bif r23_5 then
         g5 N r23_4 r19_2 (fun (r35_7:Bool) =>
          bif (!r35_7) then
           kf false
          else
           g5 N r19_2 r23_4 (fun (r40_8:Bool) =>
            bif (!r40_8) then
             kf false
            else
             J a0))
        else
         J a0)))))
noncomputable def L3_g (g0:TG0_L3) (g1:TG1_L3) (g2:TG2_L3) (g3:TG3_L3) (g4:TG4_L3) (g5:TG5_L3) (g6:TG6_L3) (g7:TG7_L3) (g8:TG6_L3) (g9:TG8_L3) (g10:TG0_L3) (g11:TG9_L3) (g12:TG6_L3) (g13:TG10_L3) (g14:TG11_L3) (g15:TG12_L3) (N:Nat) (a0:(List Int)) (kf:Bool→Option Ret):Option Ret:=L3_s g0 g1 g2 g3 g4 g5 g6 g7 g8 g9 g10 g11 g12 g13 g14 g15 N a0 kf (fun a0=>L3_j1_g g0 g1 g2 g3 g4 g5 g6 g7 g8 g9 g10 g11 g12 g13 g14 g15 N a0 kf)
noncomputable def L3 (N:Nat) (a0:(List Int)) (kf:Bool→Option Ret):Option Ret:=L3_g L4 S5 I7 I6 I8 I9 S10 S11 I13 I12 I14 L15 S16 S17 I18 I19 N a0 kf
end Go.Pv.R
