/- What the functions compute, as plain functions. -/
import Derived.Test.YtcpakhaogbempaaGreatPv4
namespace Go.Pv.R
set_option linter.unusedVariables false
set_option linter.unusedSimpArgs false
abbrev tQIILIE:Ty:=(.pair (.int .i64) (.pair (.int .i64) (.sl (.int .i64))))
abbrev QIILIE:Type:=(Int × (Int × (List Int)))
def zQIILIE:QIILIE:=((0:Int),((0:Int),([]:(List Int))))
abbrev tQIIIIILIE:Ty:=(.pair (.int .i64) (.pair (.int .i64) (.pair (.int .i64) (.pair (.int .i64) (.pair (.int .i64) (.sl (.int .i64)))))))
abbrev QIIIIILIE:Type:=(Int × (Int × (Int × (Int × (Int × (List Int))))))
def zQIIIIILIE:QIIIIILIE:=((0:Int),((0:Int),((0:Int),((0:Int),((0:Int),([]:(List Int)))))))
abbrev tQIIE:Ty:=(.pair (.int .i64) (.int .i64))
abbrev QIIE:Type:=(Int × Int)
def zQIIE:QIIE:=((0:Int),(0:Int))
abbrev tQIIIE:Ty:=(.pair (.int .i64) (.pair (.int .i64) (.int .i64)))
abbrev QIIIE:Type:=(Int × (Int × Int))
def zQIIIE:QIIIE:=((0:Int),((0:Int),(0:Int)))
abbrev tQIIIIE:Ty:=(.pair (.int .i64) (.pair (.int .i64) (.pair (.int .i64) (.int .i64))))
abbrev QIIIIE:Type:=(Int × (Int × (Int × Int)))
def zQIIIIE:QIIIIE:=((0:Int),((0:Int),((0:Int),(0:Int))))
abbrev tQLIIIE:Ty:=(.pair (.sl (.int .u8)) (.pair (.int .i64) (.int .i64)))
abbrev tQLQIIIIILIELQIILIELQIIELILQIIIELQIIIIEIE:Ty:=(.pair (.sl tQIIIIILIE) (.pair (.sl tQIILIE) (.pair (.sl tQIIE) (.pair (.sl (.int .i64)) (.pair (.sl tQIIIE) (.pair (.sl tQIIIIE) (.int .i64)))))))
abbrev QLQIIIIILIELQIILIELQIIELILQIIIELQIIIIEIE:Type:=((List QIIIIILIE) × ((List QIILIE) × ((List QIIE) × ((List Int) × ((List QIIIE) × ((List QIIIIE) × Int))))))
noncomputable def L87 (N:Nat) (a0:(List Int)) (a1:Int) (kf:Int→Option Ret):Option Ret:=
 bif (decide ((IntKind.wrap .i64 (a1 - (List.length a0:Int))) < (0:Int))) then
  kf (-1:Int)
 else
  kf (IntKind.wrap .i64 (a1 - (List.length a0:Int)))
noncomputable def L171 (N:Nat) (a0:QIIIIILIE) (a1:Int) (kf:Int→Option Ret):Option Ret:=
 L87 N a0.2.2.2.2.2 a1 (fun (r8_1:Int) =>
  bif (decide (r8_1 < (0:Int))) then
   kf (-1:Int)
  else
   kf r8_1)
noncomputable def L84_l5 (N:Nat) (x0_1:(List QIIIIILIE)):Nat→(Int→Option Ret)→(Int→Option Ret)→Int→Int→Option Ret
 | 0,_,_,_,_=>none
 | n_4 + 1,k5_0_6,k5_1_7,x1_2,x5_3 =>
  bif (decide (x5_3 < (List.length x0_1:Int))) then
   bif (inB x5_3 (List.length x0_1)) then
    L171 N (List.getD x0_1 (Int.toNat x5_3) zQIIIIILIE) x1_2 (fun (r23_5:Int) =>
     bif (decide (r23_5 < (0:Int))) then
      k5_1_7 (-1:Int)
     else
      (L84_l5 N x0_1 n_4 k5_0_6 k5_1_7) r23_5 (IntKind.wrap .i64 (x5_3 + (1:Int))))
   else none
  else
   k5_0_6 x1_2
noncomputable def L84 (N:Nat) (a0:(List QIIIIILIE)) (a1:Int) (kf:Int→Option Ret):Option Ret:=
 bif (decide ((IntKind.wrap .i64 (a1 - (List.length a0:Int))) < (0:Int))) then
  kf (-1:Int)
 else
  L84_l5 N a0 N kf kf (IntKind.wrap .i64 (a1 - (List.length a0:Int))) (0:Int)
noncomputable def L172 (N:Nat) (a0:QIILIE) (a1:Int) (kf:Int→Option Ret):Option Ret:=
 L87 N a0.2.2 a1 (fun (r8_1:Int) =>
  bif (decide (r8_1 < (0:Int))) then
   kf (-1:Int)
  else
   kf r8_1)
noncomputable def L85_l5 (N:Nat) (x0_1:(List QIILIE)):Nat→(Int→Option Ret)→(Int→Option Ret)→Int→Int→Option Ret
 | 0,_,_,_,_=>none
 | n_4 + 1,k5_0_6,k5_1_7,x1_2,x5_3 =>
  bif (decide (x5_3 < (List.length x0_1:Int))) then
   bif (inB x5_3 (List.length x0_1)) then
    L172 N (List.getD x0_1 (Int.toNat x5_3) zQIILIE) x1_2 (fun (r23_5:Int) =>
     bif (decide (r23_5 < (0:Int))) then
      k5_1_7 (-1:Int)
     else
      (L85_l5 N x0_1 n_4 k5_0_6 k5_1_7) r23_5 (IntKind.wrap .i64 (x5_3 + (1:Int))))
   else none
  else
   k5_0_6 x1_2
noncomputable def L85 (N:Nat) (a0:(List QIILIE)) (a1:Int) (kf:Int→Option Ret):Option Ret:=
 bif (decide ((IntKind.wrap .i64 (a1 - (List.length a0:Int))) < (0:Int))) then
  kf (-1:Int)
 else
  L85_l5 N a0 N kf kf (IntKind.wrap .i64 (a1 - (List.length a0:Int))) (0:Int)
noncomputable def L86 (N:Nat) (a0:(List QIIE)) (a1:Int) (kf:Int→Option Ret):Option Ret:=
 bif (decide ((IntKind.wrap .i64 (a1 - (List.length a0:Int))) < (0:Int))) then
  kf (-1:Int)
 else
  kf (IntKind.wrap .i64 (a1 - (List.length a0:Int)))
noncomputable def L88 (N:Nat) (a0:(List QIIIE)) (a1:Int) (kf:Int→Option Ret):Option Ret:=
 bif (decide ((IntKind.wrap .i64 (a1 - (List.length a0:Int))) < (0:Int))) then
  kf (-1:Int)
 else
  kf (IntKind.wrap .i64 (a1 - (List.length a0:Int)))
noncomputable def L89 (N:Nat) (a0:(List QIIIIE)) (a1:Int) (kf:Int→Option Ret):Option Ret:=
 bif (decide ((IntKind.wrap .i64 (a1 - (List.length a0:Int))) < (0:Int))) then
  kf (-1:Int)
 else
  kf (IntKind.wrap .i64 (a1 - (List.length a0:Int)))
noncomputable def L20 (N:Nat) (a0:QLQIIIIILIELQIILIELQIIELILQIIIELQIIIIEIE) (a1:Int) (kf:Int→Option Ret):Option Ret:=
 L84 N a0.1 a1 (fun (r8_1:Int) =>
  bif (decide (r8_1 < (0:Int))) then
   kf (-1:Int)
  else
   L85 N a0.2.1 r8_1 (fun (r14_2:Int) =>
    bif (decide (r14_2 < (0:Int))) then
     kf (-1:Int)
    else
     L86 N a0.2.2.1 r14_2 (fun (r20_3:Int) =>
      bif (decide (r20_3 < (0:Int))) then
       kf (-1:Int)
      else
       L87 N a0.2.2.2.1 r20_3 (fun (r26_4:Int) =>
        bif (decide (r26_4 < (0:Int))) then
         kf (-1:Int)
        else
         L88 N a0.2.2.2.2.1 r26_4 (fun (r32_5:Int) =>
          bif (decide (r32_5 < (0:Int))) then
           kf (-1:Int)
          else
           L89 N a0.2.2.2.2.2.1 r32_5 (fun (r38_6:Int) =>
            bif (decide (r38_6 < (0:Int))) then
             kf (-1:Int)
            else
             kf r38_6))))))
noncomputable def L98_l3 (x0_1:(List Int)):Nat→((List Int)→Option Ret)→(List Int)→Int→Option Ret
 | 0,_,_,_=>none
 | n_4 + 1,k3_0_5,x3_2,x4_3 =>
  bif (decide (x4_3 < (List.length x0_1:Int))) then
   bif (inB x4_3 (List.length x0_1)) then
    bif (inB x4_3 (List.length x3_2)) then
     (L98_l3 x0_1 n_4 k3_0_5) (List.set x3_2 (Int.toNat x4_3) (List.getD x0_1 (Int.toNat x4_3) (0:Int))) (IntKind.wrap .i64 (x4_3 + (1:Int)))
    else none
   else none
  else
   k3_0_5 x3_2
noncomputable def L98 (N:Nat) (a0:(List Int)) (kf:(List Int)→Option Ret):Option Ret:=
 bif (decide ((List.length a0:Int)=(List.length a0:Int)) && decide ((0:Int)≤(List.length a0:Int)) && decide ((List.length a0:Int)≤1099511627776)) then
  L98_l3 a0 N kf (List.replicate (Int.toNat (List.length a0:Int)) (0:Int)) (0:Int)
 else none
noncomputable def L181 (N:Nat) (a0:QIIIIILIE) (kf:QIIIIILIE→Option Ret):Option Ret:=
 L98 N a0.2.2.2.2.2 (fun (r21_1:(List Int)) =>
  kf (a0.1,(a0.2.1,(a0.2.2.1,(a0.2.2.2.1,(a0.2.2.2.2.1,r21_1))))))
noncomputable def L95_l3 (N:Nat) (x0_1:(List QIIIIILIE)):Nat→((List QIIIIILIE)→Option Ret)→(List QIIIIILIE)→Int→Option Ret
 | 0,_,_,_=>none
 | n_4 + 1,k3_0_6,x3_2,x4_3 =>
  bif (decide (x4_3 < (List.length x0_1:Int))) then
   bif (inB x4_3 (List.length x0_1)) then
    L181 N (List.getD x0_1 (Int.toNat x4_3) zQIIIIILIE) (fun (r20_5:QIIIIILIE) =>
     bif (inB x4_3 (List.length x3_2)) then
      (L95_l3 N x0_1 n_4 k3_0_6) (List.set x3_2 (Int.toNat x4_3) r20_5) (IntKind.wrap .i64 (x4_3 + (1:Int)))
     else none)
   else none
  else
   k3_0_6 x3_2
noncomputable def L95 (N:Nat) (a0:(List QIIIIILIE)) (kf:(List QIIIIILIE)→Option Ret):Option Ret:=
 bif (decide ((List.length a0:Int)=(List.length a0:Int)) && decide ((0:Int)≤(List.length a0:Int)) && decide ((List.length a0:Int)≤1099511627776)) then
  L95_l3 N a0 N kf (List.replicate (Int.toNat (List.length a0:Int)) ((0:Int),((0:Int),((0:Int),((0:Int),((0:Int),([]:(List Int)))))))) (0:Int)
 else none
noncomputable def L182 (N:Nat) (a0:QIILIE) (kf:QIILIE→Option Ret):Option Ret:=
 L98 N a0.2.2 (fun (r12_1:(List Int)) =>
  kf (a0.1,(a0.2.1,r12_1)))
noncomputable def L96_l3 (N:Nat) (x0_1:(List QIILIE)):Nat→((List QIILIE)→Option Ret)→(List QIILIE)→Int→Option Ret
 | 0,_,_,_=>none
 | n_4 + 1,k3_0_6,x3_2,x4_3 =>
  bif (decide (x4_3 < (List.length x0_1:Int))) then
   bif (inB x4_3 (List.length x0_1)) then
    L182 N (List.getD x0_1 (Int.toNat x4_3) zQIILIE) (fun (r20_5:QIILIE) =>
     bif (inB x4_3 (List.length x3_2)) then
      (L96_l3 N x0_1 n_4 k3_0_6) (List.set x3_2 (Int.toNat x4_3) r20_5) (IntKind.wrap .i64 (x4_3 + (1:Int)))
     else none)
   else none
  else
   k3_0_6 x3_2
noncomputable def L96 (N:Nat) (a0:(List QIILIE)) (kf:(List QIILIE)→Option Ret):Option Ret:=
 bif (decide ((List.length a0:Int)=(List.length a0:Int)) && decide ((0:Int)≤(List.length a0:Int)) && decide ((List.length a0:Int)≤1099511627776)) then
  L96_l3 N a0 N kf (List.replicate (Int.toNat (List.length a0:Int)) ((0:Int),((0:Int),([]:(List Int))))) (0:Int)
 else none
noncomputable def L183 (N:Nat) (a0:QIIE) (kf:QIIE→Option Ret):Option Ret:=
 kf (a0.1,a0.2)
noncomputable def L97_l3 (N:Nat) (x0_1:(List QIIE)):Nat→((List QIIE)→Option Ret)→(List QIIE)→Int→Option Ret
 | 0,_,_,_=>none
 | n_4 + 1,k3_0_6,x3_2,x4_3 =>
  bif (decide (x4_3 < (List.length x0_1:Int))) then
   bif (inB x4_3 (List.length x0_1)) then
    L183 N (List.getD x0_1 (Int.toNat x4_3) zQIIE) (fun (r20_5:QIIE) =>
     bif (inB x4_3 (List.length x3_2)) then
      (L97_l3 N x0_1 n_4 k3_0_6) (List.set x3_2 (Int.toNat x4_3) r20_5) (IntKind.wrap .i64 (x4_3 + (1:Int)))
     else none)
   else none
  else
   k3_0_6 x3_2
noncomputable def L97 (N:Nat) (a0:(List QIIE)) (kf:(List QIIE)→Option Ret):Option Ret:=
 bif (decide ((List.length a0:Int)=(List.length a0:Int)) && decide ((0:Int)≤(List.length a0:Int)) && decide ((List.length a0:Int)≤1099511627776)) then
  L97_l3 N a0 N kf (List.replicate (Int.toNat (List.length a0:Int)) ((0:Int),(0:Int))) (0:Int)
 else none
noncomputable def L184 (N:Nat) (a0:QIIIE) (kf:QIIIE→Option Ret):Option Ret:=
 kf (a0.1,(a0.2.1,a0.2.2))
noncomputable def L99_l3 (N:Nat) (x0_1:(List QIIIE)):Nat→((List QIIIE)→Option Ret)→(List QIIIE)→Int→Option Ret
 | 0,_,_,_=>none
 | n_4 + 1,k3_0_6,x3_2,x4_3 =>
  bif (decide (x4_3 < (List.length x0_1:Int))) then
   bif (inB x4_3 (List.length x0_1)) then
    L184 N (List.getD x0_1 (Int.toNat x4_3) zQIIIE) (fun (r20_5:QIIIE) =>
     bif (inB x4_3 (List.length x3_2)) then
      (L99_l3 N x0_1 n_4 k3_0_6) (List.set x3_2 (Int.toNat x4_3) r20_5) (IntKind.wrap .i64 (x4_3 + (1:Int)))
     else none)
   else none
  else
   k3_0_6 x3_2
noncomputable def L99 (N:Nat) (a0:(List QIIIE)) (kf:(List QIIIE)→Option Ret):Option Ret:=
 bif (decide ((List.length a0:Int)=(List.length a0:Int)) && decide ((0:Int)≤(List.length a0:Int)) && decide ((List.length a0:Int)≤1099511627776)) then
  L99_l3 N a0 N kf (List.replicate (Int.toNat (List.length a0:Int)) ((0:Int),((0:Int),(0:Int)))) (0:Int)
 else none
noncomputable def L185 (N:Nat) (a0:QIIIIE) (kf:QIIIIE→Option Ret):Option Ret:=
 kf (a0.1,(a0.2.1,(a0.2.2.1,a0.2.2.2)))
noncomputable def L100_l3 (N:Nat) (x0_1:(List QIIIIE)):Nat→((List QIIIIE)→Option Ret)→(List QIIIIE)→Int→Option Ret
 | 0,_,_,_=>none
 | n_4 + 1,k3_0_6,x3_2,x4_3 =>
  bif (decide (x4_3 < (List.length x0_1:Int))) then
   bif (inB x4_3 (List.length x0_1)) then
    L185 N (List.getD x0_1 (Int.toNat x4_3) zQIIIIE) (fun (r20_5:QIIIIE) =>
     bif (inB x4_3 (List.length x3_2)) then
      (L100_l3 N x0_1 n_4 k3_0_6) (List.set x3_2 (Int.toNat x4_3) r20_5) (IntKind.wrap .i64 (x4_3 + (1:Int)))
     else none)
   else none
  else
   k3_0_6 x3_2
noncomputable def L100 (N:Nat) (a0:(List QIIIIE)) (kf:(List QIIIIE)→Option Ret):Option Ret:=
 bif (decide ((List.length a0:Int)=(List.length a0:Int)) && decide ((0:Int)≤(List.length a0:Int)) && decide ((List.length a0:Int)≤1099511627776)) then
  L100_l3 N a0 N kf (List.replicate (Int.toNat (List.length a0:Int)) ((0:Int),((0:Int),((0:Int),(0:Int))))) (0:Int)
 else none
noncomputable def L22 (N:Nat) (a0:QLQIIIIILIELQIILIELQIIELILQIIIELQIIIIEIE) (kf:QLQIIIIILIELQIILIELQIIELILQIIIELQIIIIEIE→Option Ret):Option Ret:=
 L95 N a0.1 (fun (r6_1:(List QIIIIILIE)) =>
  L96 N a0.2.1 (fun (r10_2:(List QIILIE)) =>
   L97 N a0.2.2.1 (fun (r14_3:(List QIIE)) =>
    L98 N a0.2.2.2.1 (fun (r18_4:(List Int)) =>
     L99 N a0.2.2.2.2.1 (fun (r22_5:(List QIIIE)) =>
      L100 N a0.2.2.2.2.2.1 (fun (r26_6:(List QIIIIE)) =>
       kf (r6_1,(r10_2,(r14_3,(r18_4,(r22_5,(r26_6,a0.2.2.2.2.2.2))))))))))))
noncomputable def S173_l3 (x0_1:(List QIIIIILIE)):Nat→((List QIIIIILIE)→Option Ret)→(List QIIIIILIE)→Int→Option Ret
 | 0,_,_,_=>none
 | n_4 + 1,k3_0_5,x3_2,x4_3 =>
  bif (decide (x4_3 < (List.length x0_1:Int))) then
   bif (inB x4_3 (List.length x0_1)) then
    bif (decide ((List.length ([]:(List Int)) + List.length (List.getD x0_1 (Int.toNat x4_3) zQIIIIILIE).2.2.2.2.2) * 1≤4398046511104)) then
     bif (decide ((List.length x3_2 + List.length [((List.getD x0_1 (Int.toNat x4_3) zQIIIIILIE).1,((List.getD x0_1 (Int.toNat x4_3) zQIIIIILIE).2.1,((List.getD x0_1 (Int.toNat x4_3) zQIIIIILIE).2.2.1,((List.getD x0_1 (Int.toNat x4_3) zQIIIIILIE).2.2.2.1,((List.getD x0_1 (Int.toNat x4_3) zQIIIIILIE).2.2.2.2.1,(([]:(List Int)) ++ (List.getD x0_1 (Int.toNat x4_3) zQIIIIILIE).2.2.2.2.2))))))]) * 6≤4398046511104)) then
      (S173_l3 x0_1 n_4 k3_0_5) (x3_2 ++ [((List.getD x0_1 (Int.toNat x4_3) zQIIIIILIE).1,((List.getD x0_1 (Int.toNat x4_3) zQIIIIILIE).2.1,((List.getD x0_1 (Int.toNat x4_3) zQIIIIILIE).2.2.1,((List.getD x0_1 (Int.toNat x4_3) zQIIIIILIE).2.2.2.1,((List.getD x0_1 (Int.toNat x4_3) zQIIIIILIE).2.2.2.2.1,(([]:(List Int)) ++ (List.getD x0_1 (Int.toNat x4_3) zQIIIIILIE).2.2.2.2.2))))))]) (IntKind.wrap .i64 (x4_3 + (1:Int)))
     else none
    else none
   else none
  else
   k3_0_5 x3_2
noncomputable def S173 (N:Nat) (a0:(List QIIIIILIE)) (kf:(List QIIIIILIE)→Option Ret):Option Ret:=
 S173_l3 a0 N kf ([]:(List QIIIIILIE)) (0:Int)
noncomputable def S174_l3 (x0_1:(List QIILIE)):Nat→((List QIILIE)→Option Ret)→(List QIILIE)→Int→Option Ret
 | 0,_,_,_=>none
 | n_4 + 1,k3_0_5,x3_2,x4_3 =>
  bif (decide (x4_3 < (List.length x0_1:Int))) then
   bif (inB x4_3 (List.length x0_1)) then
    bif (decide ((List.length ([]:(List Int)) + List.length (List.getD x0_1 (Int.toNat x4_3) zQIILIE).2.2) * 1≤4398046511104)) then
     bif (decide ((List.length x3_2 + List.length [((List.getD x0_1 (Int.toNat x4_3) zQIILIE).1,((List.getD x0_1 (Int.toNat x4_3) zQIILIE).2.1,(([]:(List Int)) ++ (List.getD x0_1 (Int.toNat x4_3) zQIILIE).2.2)))]) * 3≤4398046511104)) then
      (S174_l3 x0_1 n_4 k3_0_5) (x3_2 ++ [((List.getD x0_1 (Int.toNat x4_3) zQIILIE).1,((List.getD x0_1 (Int.toNat x4_3) zQIILIE).2.1,(([]:(List Int)) ++ (List.getD x0_1 (Int.toNat x4_3) zQIILIE).2.2)))]) (IntKind.wrap .i64 (x4_3 + (1:Int)))
     else none
    else none
   else none
  else
   k3_0_5 x3_2
noncomputable def S174 (N:Nat) (a0:(List QIILIE)) (kf:(List QIILIE)→Option Ret):Option Ret:=
 S174_l3 a0 N kf ([]:(List QIILIE)) (0:Int)
noncomputable def S90 (N:Nat) (a0:QLQIIIIILIELQIILIELQIIELILQIIIELQIIIIEIE) (kf:QLQIIIIILIELQIILIELQIIELILQIIIELQIIIIEIE→Option Ret):Option Ret:=
 S173 N a0.1 (fun (r5_1:(List QIIIIILIE)) =>
  S174 N a0.2.1 (fun (r8_2:(List QIILIE)) =>
   bif (decide ((List.length ([]:(List QIIE)) + List.length a0.2.2.1) * 2≤4398046511104)) then
    bif (decide ((List.length ([]:(List Int)) + List.length a0.2.2.2.1) * 1≤4398046511104)) then
     bif (decide ((List.length ([]:(List QIIIE)) + List.length a0.2.2.2.2.1) * 3≤4398046511104)) then
      bif (decide ((List.length ([]:(List QIIIIE)) + List.length a0.2.2.2.2.2.1) * 4≤4398046511104)) then
       kf (r5_1,(r8_2,((([]:(List QIIE)) ++ a0.2.2.1),((([]:(List Int)) ++ a0.2.2.2.1),((([]:(List QIIIE)) ++ a0.2.2.2.2.1),((([]:(List QIIIIE)) ++ a0.2.2.2.2.2.1),a0.2.2.2.2.2.2))))))
      else none
     else none
    else none
   else none))
noncomputable def S195 (N:Nat) (a0:Int) (a1:Int) (a2:Int) (kf:Bool→Option Ret):Option Ret:=
 bif (decide (a0 ≥ a1)) then
  kf (decide (a0≤a2))
 else
  kf false
noncomputable def S200_l2 (x0_1:(List QIIIIILIE)) (x1_2:Int):Nat→(Option Ret)→(Int→Option Ret)→Int→Option Ret
 | 0,_,_,_=>none
 | n_4 + 1,k2_0_5,k2_1_6,x5_3 =>
  bif (decide (x5_3 < (List.length x0_1:Int))) then
   bif (inB x5_3 (List.length x0_1)) then
    bif ((List.getD x0_1 (Int.toNat x5_3) zQIIIIILIE).1 == x1_2) then
     k2_1_6 x5_3
    else
     (S200_l2 x0_1 x1_2 n_4 k2_0_5 k2_1_6) (IntKind.wrap .i64 (x5_3 + (1:Int)))
   else none
  else
   k2_0_5
noncomputable def S200 (N:Nat) (a0:(List QIIIIILIE)) (a1:Int) (kf:Int→Option Ret):Option Ret:=
 S200_l2 a0 a1 N (kf (-1:Int)) kf (0:Int)
noncomputable def S220_l3 (x0_1:(List Int)) (x1_2:Int):Nat→(Int→Option Ret)→Int→Int→Option Ret
 | 0,_,_,_=>none
 | n_5 + 1,k3_0_7,x5_3,x6_4 =>
  bif (decide (x6_4 < (List.length x0_1:Int))) then
   bif (inB x6_4 (List.length x0_1)) then
    bif ((List.getD x0_1 (Int.toNat x6_4) (0:Int)) == x1_2) then
     (S220_l3 x0_1 x1_2 n_5 k3_0_7) (IntKind.wrap .i64 (x5_3 + (1:Int))) (IntKind.wrap .i64 (x6_4 + (1:Int)))
    else
     (S220_l3 x0_1 x1_2 n_5 k3_0_7) x5_3 (IntKind.wrap .i64 (x6_4 + (1:Int)))
   else none
  else
   k3_0_7 x5_3
noncomputable def S220 (N:Nat) (a0:(List Int)) (a1:Int) (kf:Int→Option Ret):Option Ret:=
 S220_l3 a0 a1 N kf (0:Int) (0:Int)
noncomputable def S175_l8 (N:Nat) (x0_9:(List QIIIIILIE)) (x3_10:Int) (x4_11:QIIIIILIE):Nat→(Option Ret)→(Bool→Option Ret)→Int→Option Ret
 | 0,_,_,_=>none
 | n_13 + 1,k8_0_17,k8_1_18,x5_12 =>
  bif (decide (x5_12 < (List.length x4_11.2.2.2.2.2:Int))) then
   bif (inB x5_12 (List.length x4_11.2.2.2.2.2)) then
    S200 N x0_9 (List.getD x4_11.2.2.2.2.2 (Int.toNat x5_12) (0:Int)) (fun (r85_14:Int) =>
     bif (decide (r85_14 < (0:Int))) then
      k8_1_18 false
     else
      bif (r85_14 == x3_10) then
       k8_1_18 false
      else
       bif (inB r85_14 (List.length x0_9)) then
        bif (inB r85_14 (List.length x0_9)) then
         S220 N (List.getD x0_9 (Int.toNat r85_14) zQIIIIILIE).2.2.2.2.2 x4_11.1 (fun (r101_15:Int) =>
          S220 N x4_11.2.2.2.2.2 (List.getD x0_9 (Int.toNat r85_14) zQIIIIILIE).1 (fun (r109_16:Int) =>
           bif (r101_15 != r109_16) then
            k8_1_18 false
           else
            (S175_l8 N x0_9 x3_10 x4_11 n_13 k8_0_17 k8_1_18) (IntKind.wrap .i64 (x5_12 + (1:Int)))))
        else none
       else none)
   else none
  else
   k8_0_17
noncomputable def S175_l2 (N:Nat) (x0_1:(List QIIIIILIE)):Nat→(Option Ret)→(Bool→Option Ret)→Int→Option Ret
 | 0,_,_,_=>none
 | n_3 + 1,k2_0_21,k2_1_22,x3_2 =>
  bif (decide (x3_2 < (List.length x0_1:Int))) then
   bif (inB x3_2 (List.length x0_1)) then
    S195 N (List.getD x0_1 (Int.toNat x3_2) zQIIIIILIE).1 (1:Int) (99:Int) (fun (r19_4:Bool) =>
     bif (!r19_4) then
      k2_1_22 false
     else
      S195 N (List.getD x0_1 (Int.toNat x3_2) zQIIIIILIE).2.1 (1:Int) (99:Int) (fun (r24_5:Bool) =>
       bif (!r24_5) then
        k2_1_22 false
       else
        S195 N (List.getD x0_1 (Int.toNat x3_2) zQIIIIILIE).2.2.1 (0:Int) (List.length (List.getD x0_1 (Int.toNat x3_2) zQIIIIILIE).2.2.2.2.2:Int) (fun (r33_6:Bool) =>
         bif (!r33_6) then
          k2_1_22 false
         else
          S195 N (List.getD x0_1 (Int.toNat x3_2) zQIIIIILIE).2.2.2.2.1 (0:Int) (List.length (List.getD x0_1 (Int.toNat x3_2) zQIIIIILIE).2.2.2.2.2:Int) (fun (r42_7:Bool) =>
           bif (!r42_7) then
            k2_1_22 false
           else
            S195 N (List.getD x0_1 (Int.toNat x3_2) zQIIIIILIE).2.2.2.1 (0:Int) (100000:Int) (fun (r48_8:Bool) =>
             bif (!r48_8) then
              k2_1_22 false
             else
              bif (decide ((List.length (List.getD x0_1 (Int.toNat x3_2) zQIIIIILIE).2.2.2.2.2:Int) > (20:Int))) then
               k2_1_22 false
              else
               bif (decide (x3_2 > (0:Int))) then
                bif (inB (IntKind.wrap .i64 (x3_2 - (1:Int))) (List.length x0_1)) then
                 bif (decide ((List.getD x0_1 (Int.toNat (IntKind.wrap .i64 (x3_2 - (1:Int)))) zQIIIIILIE).1 ≥ (List.getD x0_1 (Int.toNat x3_2) zQIIIIILIE).1)) then
                  k2_1_22 false
                 else
                  S175_l8 N x0_1 x3_2 (List.getD x0_1 (Int.toNat x3_2) zQIIIIILIE) N ((S175_l2 N x0_1 n_3 k2_0_21 k2_1_22) (IntKind.wrap .i64 (x3_2 + (1:Int)))) k2_1_22 (0:Int)
                else none
               else
                S175_l8 N x0_1 x3_2 (List.getD x0_1 (Int.toNat x3_2) zQIIIIILIE) N ((S175_l2 N x0_1 n_3 k2_0_21 k2_1_22) (IntKind.wrap .i64 (x3_2 + (1:Int)))) k2_1_22 (0:Int))))))
   else none
  else
   k2_0_21
noncomputable def S175 (N:Nat) (a0:(List QIIIIILIE)) (kf:Bool→Option Ret):Option Ret:=
 S175_l2 N a0 N (kf (decide ((List.length a0:Int)≤(10:Int)))) kf (0:Int)
noncomputable def S224_l2 (x0_1:(List Int)) (x1_2:Int):Nat→(Option Ret)→(Bool→Option Ret)→Int→Option Ret
 | 0,_,_,_=>none
 | n_4 + 1,k2_0_5,k2_1_6,x5_3 =>
  bif (decide (x5_3 < (List.length x0_1:Int))) then
   bif (inB x5_3 (List.length x0_1)) then
    bif ((List.getD x0_1 (Int.toNat x5_3) (0:Int)) == x1_2) then
     k2_1_6 true
    else
     (S224_l2 x0_1 x1_2 n_4 k2_0_5 k2_1_6) (IntKind.wrap .i64 (x5_3 + (1:Int)))
   else none
  else
   k2_0_5
noncomputable def S224 (N:Nat) (a0:(List Int)) (a1:Int) (kf:Bool→Option Ret):Option Ret:=
 S224_l2 a0 a1 N (kf false) kf (0:Int)
noncomputable def S250 (N:Nat) (a0:(List QIIIIILIE)) (a1:Int) (a2:Int) (kf:Bool→Option Ret):Option Ret:=
 S200 N a0 a1 (fun (r10_1:Int) =>
  bif (decide (r10_1 ≥ (0:Int))) then
   bif (inB r10_1 (List.length a0)) then
    S224 N (List.getD a0 (Int.toNat r10_1) zQIIIIILIE).2.2.2.2.2 a2 kf
   else none
  else
   kf false)
noncomputable def S221 (N:Nat) (a0:(List QIIIIILIE)) (a1:Int) (a2:Int) (kf:Bool→Option Ret):Option Ret:=
 S200 N a0 a1 (fun (r11_1:Int) =>
  S200 N a0 a2 (fun (r14_2:Int) =>
   S175 N a0 (fun (r16_3:Bool) =>
    bif r16_3 then
     bif (decide (r11_1 ≥ (0:Int))) then
      bif (decide (r14_2 ≥ (0:Int))) then
       bif (r11_1 != r14_2) then
        bif (inB r11_1 (List.length a0)) then
         bif (inB r14_2 (List.length a0)) then
          bif ((List.getD a0 (Int.toNat r11_1) zQIIIIILIE).2.1 != (List.getD a0 (Int.toNat r14_2) zQIIIIILIE).2.1) then
           S250 N a0 a1 a2 (fun (r47_4:Bool) =>
            kf (!r47_4))
          else
           kf false
         else none
        else none
       else
        kf false
      else
       kf false
     else
      kf false
    else
     kf false)))
noncomputable def S178_l7 (N:Nat) (x0_6:(List QIILIE)) (x3_7:Int):Nat→(Option Ret)→(Bool→Option Ret)→Int→Option Ret
 | 0,_,_,_=>none
 | n_9 + 1,k7_0_11,k7_1_12,x4_8 =>
  bif (inB x3_7 (List.length x0_6)) then
   bif (decide (x4_8 < (List.length (List.getD x0_6 (Int.toNat x3_7) zQIILIE).2.2:Int))) then
    bif (inB x3_7 (List.length x0_6)) then
     bif (inB x4_8 (List.length (List.getD x0_6 (Int.toNat x3_7) zQIILIE).2.2)) then
      S195 N (List.getD (List.getD x0_6 (Int.toNat x3_7) zQIILIE).2.2 (Int.toNat x4_8) (0:Int)) (1:Int) (99:Int) (fun (r63_10:Bool) =>
       bif (!r63_10) then
        k7_1_12 false
       else
        bif (decide (x4_8 > (0:Int))) then
         bif (inB x3_7 (List.length x0_6)) then
          bif (inB (IntKind.wrap .i64 (x4_8 - (1:Int))) (List.length (List.getD x0_6 (Int.toNat x3_7) zQIILIE).2.2)) then
           bif (inB x3_7 (List.length x0_6)) then
            bif (inB x4_8 (List.length (List.getD x0_6 (Int.toNat x3_7) zQIILIE).2.2)) then
             bif (decide ((List.getD (List.getD x0_6 (Int.toNat x3_7) zQIILIE).2.2 (Int.toNat (IntKind.wrap .i64 (x4_8 - (1:Int)))) (0:Int)) ≥ (List.getD (List.getD x0_6 (Int.toNat x3_7) zQIILIE).2.2 (Int.toNat x4_8) (0:Int)))) then
              k7_1_12 false
             else
              (S178_l7 N x0_6 x3_7 n_9 k7_0_11 k7_1_12) (IntKind.wrap .i64 (x4_8 + (1:Int)))
            else none
           else none
          else none
         else none
        else
         (S178_l7 N x0_6 x3_7 n_9 k7_0_11 k7_1_12) (IntKind.wrap .i64 (x4_8 + (1:Int))))
     else none
    else none
   else
    k7_0_11
  else none
noncomputable def S178_l2 (N:Nat) (x0_1:(List QIILIE)):Nat→(Option Ret)→(Bool→Option Ret)→Int→Option Ret
 | 0,_,_,_=>none
 | n_3 + 1,k2_0_15,k2_1_16,x3_2 =>
  bif (decide (x3_2 < (List.length x0_1:Int))) then
   bif (inB x3_2 (List.length x0_1)) then
    S195 N (List.getD x0_1 (Int.toNat x3_2) zQIILIE).1 (1:Int) (99:Int) (fun (r16_4:Bool) =>
     bif (!r16_4) then
      k2_1_16 false
     else
      bif (inB x3_2 (List.length x0_1)) then
       S195 N (List.getD x0_1 (Int.toNat x3_2) zQIILIE).2.1 (1:Int) (99:Int) (fun (r24_5:Bool) =>
        bif (!r24_5) then
         k2_1_16 false
        else
         bif (decide (x3_2 > (0:Int))) then
          bif (inB (IntKind.wrap .i64 (x3_2 - (1:Int))) (List.length x0_1)) then
           bif (inB x3_2 (List.length x0_1)) then
            bif (decide ((List.getD x0_1 (Int.toNat (IntKind.wrap .i64 (x3_2 - (1:Int)))) zQIILIE).1 ≥ (List.getD x0_1 (Int.toNat x3_2) zQIILIE).1)) then
             k2_1_16 false
            else
             S178_l7 N x0_1 x3_2 N ((S178_l2 N x0_1 n_3 k2_0_15 k2_1_16) (IntKind.wrap .i64 (x3_2 + (1:Int)))) k2_1_16 (0:Int)
           else none
          else none
         else
          S178_l7 N x0_1 x3_2 N ((S178_l2 N x0_1 n_3 k2_0_15 k2_1_16) (IntKind.wrap .i64 (x3_2 + (1:Int)))) k2_1_16 (0:Int))
      else none)
   else none
  else
   k2_0_15
noncomputable def S178 (N:Nat) (a0:(List QIILIE)) (kf:Bool→Option Ret):Option Ret:=
 S178_l2 N a0 N (kf (decide ((List.length a0:Int)≤(10:Int)))) kf (0:Int)
noncomputable def S225 (N:Nat) (a0:(List QIIIIILIE)) (a1:QIILIE) (a2:QIIE) (kf:Bool→Option Ret):Option Ret:=
 S200 N a0 a2.1 (fun (r12_1:Int) =>
  S200 N a0 a2.2 (fun (r16_2:Int) =>
   bif (decide (r12_1 ≥ (0:Int))) then
    bif (decide (r16_2 ≥ (0:Int))) then
     bif (inB r12_1 (List.length a0)) then
      bif ((List.getD a0 (Int.toNat r12_1) zQIIIIILIE).2.1 != a1.2.1) then
       bif (inB r16_2 (List.length a0)) then
        bif ((List.getD a0 (Int.toNat r16_2) zQIIIIILIE).2.1 != a1.2.1) then
         S224 N a1.2.2 a2.1 (fun (r48_3:Bool) =>
          bif (!r48_3) then
           S224 N a1.2.2 a2.2 (fun (r56_4:Bool) =>
            kf (!r56_4))
          else
           kf false)
        else
         kf false
       else none
      else
       kf false
     else none
    else
     kf false
   else
    kf false))
noncomputable def S94 (N:Nat) (a0:QLQIIIIILIELQIILIELQIIELILQIIIELQIIIIEIE) (kf:Bool→Option Ret):Option Ret:=
 kf (decide ((List.length a0.2.2.1:Int) > (0:Int)))
noncomputable def S226 (N:Nat) (a0:(List QIIIIE)) (kf:Int→Option Ret):Option Ret:=
 bif ((List.length a0:Int) == (0:Int)) then
  kf (0:Int)
 else
  bif (inB (IntKind.wrap .i64 ((List.length a0:Int) - (1:Int))) (List.length a0)) then
   kf (List.getD a0 (Int.toNat (IntKind.wrap .i64 ((List.length a0:Int) - (1:Int)))) zQIIIIE).2.2.2
  else none
noncomputable def S261 (N:Nat) (a0:Int) (a1:Int) (kf:Int→Option Ret):Option Ret:=
 S195 N a1 (1:Int) (1000000000000:Int) (fun (r6_1:Bool) =>
  bif (!r6_1) then
   kf (0:Int)
  else
   bif (!decide (a1=0)) then
    bif (!decide (a1=0)) then
     kf (Int.tmod (IntKind.wrap .i64 ((Int.tmod a0 a1) + a1)) a1)
    else none
   else none)
noncomputable def S248_l3 (N:Nat) (x0_1:(List Int)):Nat→(Int→Option Ret)→Int→Int→Option Ret
 | 0,_,_,_=>none
 | n_4 + 1,k3_0_6,x3_2,x4_3 =>
  bif (decide (x4_3 < (List.length x0_1:Int))) then
   bif (inB x4_3 (List.length x0_1)) then
    S261 N (List.getD x0_1 (Int.toNat x4_3) (0:Int)) (2147483647:Int) (fun (r17_5:Int) =>
     (S248_l3 N x0_1 n_4 k3_0_6) (Int.tmod (IntKind.wrap .i64 ((IntKind.wrap .i64 ((IntKind.wrap .i64 (x3_2 * (1000003:Int))) + r17_5)) + (13:Int))) (2147483647:Int)) (IntKind.wrap .i64 (x4_3 + (1:Int))))
   else none
  else
   k3_0_6 x3_2
noncomputable def S248 (N:Nat) (a0:(List Int)) (kf:Int→Option Ret):Option Ret:=
 S248_l3 N a0 N kf (11:Int) (0:Int)
noncomputable def S218 (N:Nat) (a0:Int) (a1:QIIIIE) (kf:Int→Option Ret):Option Ret:=
 S248 N [a0,a1.1,a1.2.1,a1.2.2.1] kf
noncomputable def S158_l3 (N:Nat) (x0_1:(List QIIIIE)):Nat→(Option Ret)→(Bool→Option Ret)→Int→Int→Option Ret
 | 0,_,_,_,_=>none
 | n_4 + 1,k3_0_8,k3_1_9,x3_2,x4_3 =>
  bif (decide (x4_3 < (List.length x0_1:Int))) then
   bif (decide ((List.length x0_1:Int)≤(200:Int))) then
    bif (inB x4_3 (List.length x0_1)) then
     S218 N x3_2 (List.getD x0_1 (Int.toNat x4_3) zQIIIIE) (fun (r23_5:Int) =>
      bif ((List.getD x0_1 (Int.toNat x4_3) zQIIIIE).1 != (IntKind.wrap .i64 (x4_3 + (1:Int)))) then
       k3_1_9 false
      else
       S195 N (List.getD x0_1 (Int.toNat x4_3) zQIIIIE).2.1 (1:Int) (9:Int) (fun (r32_6:Bool) =>
        bif (!r32_6) then
         k3_1_9 false
        else
         S195 N (List.getD x0_1 (Int.toNat x4_3) zQIIIIE).2.2.1 (0:Int) (99:Int) (fun (r38_7:Bool) =>
          bif (!r38_7) then
           k3_1_9 false
          else
           bif ((List.getD x0_1 (Int.toNat x4_3) zQIIIIE).2.2.2 != r23_5) then
            k3_1_9 false
           else
            (S158_l3 N x0_1 n_4 k3_0_8 k3_1_9) r23_5 (IntKind.wrap .i64 (x4_3 + (1:Int))))))
    else none
   else
    k3_0_8
  else
   k3_0_8
noncomputable def S158 (N:Nat) (a0:(List QIIIIE)) (kf:Bool→Option Ret):Option Ret:=
 S158_l3 N a0 N (kf (decide ((List.length a0:Int)≤(200:Int)))) kf (0:Int) (0:Int)
noncomputable def S180 (N:Nat) (a0:(List QIIIIE)) (a1:Int) (a2:Int) (kf:(List QIIIIE)→Bool→Option Ret):Option Ret:=
 S226 N a0 (fun (r17_1:Int) =>
  S218 N r17_1 ((IntKind.wrap .i64 ((List.length a0:Int) + (1:Int))),(a1,(a2,(0:Int)))) (fun (r19_2:Int) =>
   bif (decide ((List.length ([]:(List QIIIIE)) + List.length a0) * 4≤4398046511104)) then
    bif (decide ((List.length (([]:(List QIIIIE)) ++ a0) + List.length [((IntKind.wrap .i64 ((List.length a0:Int) + (1:Int))),(a1,(a2,r19_2)))]) * 4≤4398046511104)) then
     S158 N ((([]:(List QIIIIE)) ++ a0) ++ [((IntKind.wrap .i64 ((List.length a0:Int) + (1:Int))),(a1,(a2,r19_2)))]) (fun (r28_3:Bool) =>
      bif (!r28_3) then
       bif (decide ((List.length ([]:(List QIIIIE)) + List.length a0) * 4≤4398046511104)) then
        kf (([]:(List QIIIIE)) ++ a0) false
       else none
      else
       kf ((([]:(List QIIIIE)) ++ a0) ++ [((IntKind.wrap .i64 ((List.length a0:Int) + (1:Int))),(a1,(a2,r19_2)))]) true)
    else none
   else none))
noncomputable def S196_l3 (N:Nat) (x0_1:(List QIIIIILIE)):Nat→(Int→Option Ret)→Int→Int→Option Ret
 | 0,_,_,_=>none
 | n_4 + 1,k3_0_6,x3_2,x4_3 =>
  bif (decide (x4_3 < (List.length x0_1:Int))) then
   S175 N x0_1 (fun (r11_5:Bool) =>
    bif r11_5 then
     bif (inB x4_3 (List.length x0_1)) then
      (S196_l3 N x0_1 n_4 k3_0_6) (IntKind.wrap .i64 (x3_2 + (List.getD x0_1 (Int.toNat x4_3) zQIIIIILIE).2.2.1)) (IntKind.wrap .i64 (x4_3 + (1:Int)))
     else none
    else
     k3_0_6 x3_2)
  else
   k3_0_6 x3_2
noncomputable def S196 (N:Nat) (a0:(List QIIIIILIE)) (kf:Int→Option Ret):Option Ret:=
 S196_l3 N a0 N kf (0:Int) (0:Int)
noncomputable def S197_l3 (N:Nat) (x0_1:(List QIIIIILIE)) (x1_2:(List QIIE)):Nat→((List Int)→Option Ret)→(Bool→Option Ret)→(List Int)→Int→Option Ret
 | 0,_,_,_,_=>none
 | n_5 + 1,k3_0_9,k3_1_10,x5_3,x6_4 =>
  bif (decide (x6_4 < (List.length x1_2:Int))) then
   bif (inB x6_4 (List.length x1_2)) then
    bif (inB x6_4 (List.length x1_2)) then
     S221 N x0_1 (List.getD x1_2 (Int.toNat x6_4) zQIIE).1 (List.getD x1_2 (Int.toNat x6_4) zQIIE).2 (fun (r25_6:Bool) =>
      bif (!r25_6) then
       k3_1_10 false
      else
       bif (inB x6_4 (List.length x1_2)) then
        S224 N x5_3 (List.getD x1_2 (Int.toNat x6_4) zQIIE).1 (fun (r34_7:Bool) =>
         bif r34_7 then
          k3_1_10 false
         else
          bif (inB x6_4 (List.length x1_2)) then
           S224 N x5_3 (List.getD x1_2 (Int.toNat x6_4) zQIIE).2 (fun (r43_8:Bool) =>
            bif r43_8 then
             k3_1_10 false
            else
             bif (inB x6_4 (List.length x1_2)) then
              bif (inB x6_4 (List.length x1_2)) then
               bif (decide ((List.length x5_3 + List.length [(List.getD x1_2 (Int.toNat x6_4) zQIIE).1,(List.getD x1_2 (Int.toNat x6_4) zQIIE).2]) * 1≤4398046511104)) then
                (S197_l3 N x0_1 x1_2 n_5 k3_0_9 k3_1_10) (x5_3 ++ [(List.getD x1_2 (Int.toNat x6_4) zQIIE).1,(List.getD x1_2 (Int.toNat x6_4) zQIIE).2]) (IntKind.wrap .i64 (x6_4 + (1:Int)))
               else none
              else none
             else none)
          else none)
       else none)
    else none
   else none
  else
   k3_0_9 x5_3
noncomputable def S197 (N:Nat) (a0:(List QIIIIILIE)) (a1:(List QIIE)) (kf:Bool→Option Ret):Option Ret:=
 S197_l3 N a0 a1 N (fun (z5_12:(List Int)) =>
  S175 N a0 (fun (r59_14:Bool) =>
   bif r59_14 then
    kf ((List.length z5_12:Int) == (List.length a0:Int))
   else
    kf false)) kf ([]:(List Int)) (0:Int)
noncomputable def S126_l2 (x0_1:(List QIILIE)) (x1_2:Int):Nat→(Option Ret)→(Int→Option Ret)→Int→Option Ret
 | 0,_,_,_=>none
 | n_4 + 1,k2_0_5,k2_1_6,x5_3 =>
  bif (decide (x5_3 < (List.length x0_1:Int))) then
   bif (inB x5_3 (List.length x0_1)) then
    bif ((List.getD x0_1 (Int.toNat x5_3) zQIILIE).1 == x1_2) then
     k2_1_6 x5_3
    else
     (S126_l2 x0_1 x1_2 n_4 k2_0_5 k2_1_6) (IntKind.wrap .i64 (x5_3 + (1:Int)))
   else none
  else
   k2_0_5
noncomputable def S126 (N:Nat) (a0:(List QIILIE)) (a1:Int) (kf:Int→Option Ret):Option Ret:=
 S126_l2 a0 a1 N (kf (-1:Int)) kf (0:Int)
noncomputable def S198_l4 (N:Nat) (x0_2:(List QIIIIILIE)) (x1_3:(List QIILIE)) (x2_4:(List QIIE)) (x3_5:(List Int)):Nat→(Option Ret)→(Bool→Option Ret)→Int→Option Ret
 | 0,_,_,_=>none
 | n_7 + 1,k4_0_11,k4_1_12,x9_6 =>
  bif (decide (x9_6 < (List.length x2_4:Int))) then
   bif (inB x9_6 (List.length x3_5)) then
    S126 N x1_3 (List.getD x3_5 (Int.toNat x9_6) (0:Int)) (fun (r32_8:Int) =>
     bif (decide (r32_8 < (0:Int))) then
      k4_1_12 false
     else
      bif (decide ((0:Int)≤(0:Int)) && decide ((0:Int)≤x9_6) && decide (x9_6≤(List.length x3_5:Int))) then
       bif (inB x9_6 (List.length x3_5)) then
        S224 N (List.drop (Int.toNat (0:Int)) (List.take (Int.toNat x9_6) x3_5)) (List.getD x3_5 (Int.toNat x9_6) (0:Int)) (fun (r43_9:Bool) =>
         bif r43_9 then
          k4_1_12 false
         else
          bif (inB r32_8 (List.length x1_3)) then
           bif (inB x9_6 (List.length x2_4)) then
            S225 N x0_2 (List.getD x1_3 (Int.toNat r32_8) zQIILIE) (List.getD x2_4 (Int.toNat x9_6) zQIIE) (fun (r55_10:Bool) =>
             bif (!r55_10) then
              k4_1_12 false
             else
              (S198_l4 N x0_2 x1_3 x2_4 x3_5 n_7 k4_0_11 k4_1_12) (IntKind.wrap .i64 (x9_6 + (1:Int))))
           else none
          else none)
       else none
      else none)
   else none
  else
   k4_0_11
noncomputable def S198 (N:Nat) (a0:(List QIIIIILIE)) (a1:(List QIILIE)) (a2:(List QIIE)) (a3:(List Int)) (kf:Bool→Option Ret):Option Ret:=
 bif ((List.length a3:Int) != (List.length a2:Int)) then
  kf false
 else
  S178 N a1 (fun (r18_1:Bool) =>
   bif (!r18_1) then
    kf false
   else
    S198_l4 N a0 a1 a2 a3 N (kf true) kf (0:Int))
noncomputable def S199 (N:Nat) (a0:QIIIE) (kf:Bool→Option Ret):Option Ret:=
 S195 N a0.1 (1:Int) (99:Int) (fun (r5_1:Bool) =>
  bif r5_1 then
   S195 N a0.2.1 (0:Int) (100:Int) (fun (r9_2:Bool) =>
    bif r9_2 then
     S195 N a0.2.2 (0:Int) (100:Int) (fun (r14_3:Bool) =>
      bif r14_3 then
       kf (a0.2.1 != a0.2.2)
      else
       kf false)
    else
     kf false)
  else
   kf false)
noncomputable def S122_l7 (N:Nat) (x1_8:QLQIIIIILIELQIILIELQIIELILQIIIELQIIIIEIE) (x3_9:QIIIE):Nat→(Option Ret)→(Bool→Option Ret)→Int→Option Ret
 | 0,_,_,_=>none
 | n_11 + 1,k7_0_13,k7_1_14,x4_10 =>
  bif (decide (x4_10 < (List.length x1_8.2.2.2.2.1:Int))) then
   bif (inB x4_10 (List.length x1_8.2.2.2.2.1)) then
    bif (!((decide (((List.getD x1_8.2.2.2.2.1 (Int.toNat x4_10) zQIIIE).1:Int)=x3_9.1)) && ((decide (((List.getD x1_8.2.2.2.2.1 (Int.toNat x4_10) zQIIIE).2.1:Int)=x3_9.2.1)) && (decide (((List.getD x1_8.2.2.2.2.1 (Int.toNat x4_10) zQIIIE).2.2:Int)=x3_9.2.2))))) then
     bif (inB x4_10 (List.length x1_8.2.2.2.2.1)) then
      S199 N (List.getD x1_8.2.2.2.2.1 (Int.toNat x4_10) zQIIIE) (fun (r98_12:Bool) =>
       bif (!r98_12) then
        k7_1_14 false
       else
        bif (inB x4_10 (List.length x1_8.2.2.2.2.1)) then
         bif (inB x4_10 (List.length x1_8.2.2.2.1)) then
          bif ((List.getD x1_8.2.2.2.2.1 (Int.toNat x4_10) zQIIIE).1 != (List.getD x1_8.2.2.2.1 (Int.toNat x4_10) (0:Int))) then
           k7_1_14 false
          else
           (S122_l7 N x1_8 x3_9 n_11 k7_0_13 k7_1_14) (IntKind.wrap .i64 (x4_10 + (1:Int)))
         else none
        else none)
     else none
    else
     (S122_l7 N x1_8 x3_9 n_11 k7_0_13 k7_1_14) (IntKind.wrap .i64 (x4_10 + (1:Int)))
   else none
  else
   k7_0_13
noncomputable def S122_j1 (N:Nat) (a0:QLQIIIIILIELQIILIELQIIELILQIIIELQIIIIEIE) (kf:Bool→Option Ret):Option Ret:=
 S122_l7 N a0 ((0:Int),((0:Int),(0:Int))) N (kf true) kf (0:Int)
noncomputable def S122 (N:Nat) (a0:QLQIIIIILIELQIILIELQIIELILQIIIELQIIIIEIE) (kf:Bool→Option Ret):Option Ret:=
 S175 N a0.1 (fun (r7_1:Bool) =>
  bif (!r7_1) then
   kf false
  else
   S178 N a0.2.1 (fun (r12_2:Bool) =>
    bif (!r12_2) then
     kf false
    else
     S158 N a0.2.2.2.2.2.1 (fun (r18_3:Bool) =>
      bif (!r18_3) then
       kf false
      else
       bif ((List.length a0.2.2.2.1:Int) != (List.length a0.2.2.1:Int)) then
        kf false
       else
        bif ((List.length a0.2.2.2.2.1:Int) != (List.length a0.2.2.1:Int)) then
         kf false
        else
         S195 N a0.2.2.2.2.2.2 (0:Int) (1000:Int) (fun (r42_4:Bool) =>
          bif (!r42_4) then
           kf false
          else
           S196 N a0.1 (fun (r48_5:Int) =>
            bif (r48_5 != a0.2.2.2.2.2.2) then
             kf false
            else
             bif (decide ((List.length a0.2.2.1:Int) > (0:Int))) then
              S197 N a0.1 a0.2.2.1 (fun (r62_6:Bool) =>
               bif (!r62_6) then
                kf false
               else
                S198 N a0.1 a0.2.1 a0.2.2.1 a0.2.2.2.1 (fun (r73_7:Bool) =>
                 bif (!r73_7) then
                  kf false
                 else
                  S122_j1 N a0 kf))
             else
              S122_j1 N a0 kf)))))
noncomputable def S93 (N:Nat) (a0:QLQIIIIILIELQIILIELQIIELILQIIIELQIIIIEIE) (a1:QLQIIIIILIELQIILIELQIIELILQIIIELQIIIIEIE) (a2:Bool) (a3:Int) (a4:Int) (kf:QLQIIIIILIELQIILIELQIIELILQIIIELQIIIIEIE→Bool→Option Ret):Option Ret:=
 S180 N a0.2.2.2.2.2.1 a3 a4 (fun (r19_1:(List QIIIIE)) (r19_2:Bool) =>
  bif (!a2) then
   S90 N a0 (fun (r41_5:QLQIIIIILIELQIILIELQIIELILQIIIELQIIIIEIE) =>
    kf r41_5 false)
  else
   bif (!r19_2) then
    S90 N a0 (fun (r41_5:QLQIIIIILIELQIILIELQIIELILQIIIELQIIIIEIE) =>
     kf r41_5 false)
   else
    S122 N a0 (fun (r32_3:Bool) =>
     bif (!r32_3) then
      S90 N a0 (fun (r41_5:QLQIIIIILIELQIILIELQIIELILQIIIELQIIIIEIE) =>
       kf r41_5 false)
     else
      S122 N (a1.1,(a1.2.1,(a1.2.2.1,(a1.2.2.2.1,(a1.2.2.2.2.1,(r19_1,a1.2.2.2.2.2.2)))))) (fun (r37_4:Bool) =>
       bif (!r37_4) then
        S90 N a0 (fun (r41_6:QLQIIIIILIELQIILIELQIIELILQIIIELQIIIIEIE) =>
         kf r41_6 false)
       else
        kf (a1.1,(a1.2.1,(a1.2.2.1,(a1.2.2.2.1,(a1.2.2.2.2.1,(r19_1,a1.2.2.2.2.2.2)))))) true)))
noncomputable def S166 (N:Nat) (a0:(List Int)) (kf:(List Int)→Option Ret):Option Ret:=
 bif (List.isEmpty a0) then
  both (kf ([]:(List Int))) (
   bif (decide ((List.length ([]:(List Int)) + List.length a0) * 1≤4398046511104)) then
    kf (([]:(List Int)) ++ a0)
   else none)
 else
  bif (decide ((List.length ([]:(List Int)) + List.length a0) * 1≤4398046511104)) then
   kf (([]:(List Int)) ++ a0)
  else none
noncomputable def I163_l3 (N:Nat) (x7_2:(List QIIIIILIE)) (x8_3:Int):Nat→((List QIIIIILIE)→Option Ret)→(List QIIIIILIE)→Int→Option Ret
 | 0,_,_,_=>none
 | n_5 + 1,k3_0_7,x3_1,x9_4 =>
  bif (decide (x9_4 < x8_3)) then
   bif (inB x9_4 (List.length x7_2)) then
    S166 N (List.getD x7_2 (Int.toNat x9_4) zQIIIIILIE).2.2.2.2.2 (fun (r15_6:(List Int)) =>
     bif (decide ((List.length x3_1 + List.length [((List.getD x7_2 (Int.toNat x9_4) zQIIIIILIE).1,((List.getD x7_2 (Int.toNat x9_4) zQIIIIILIE).2.1,((List.getD x7_2 (Int.toNat x9_4) zQIIIIILIE).2.2.1,((List.getD x7_2 (Int.toNat x9_4) zQIIIIILIE).2.2.2.1,((List.getD x7_2 (Int.toNat x9_4) zQIIIIILIE).2.2.2.2.1,r15_6)))))]) * 6≤4398046511104)) then
      (I163_l3 N x7_2 x8_3 n_5 k3_0_7) (x3_1 ++ [((List.getD x7_2 (Int.toNat x9_4) zQIIIIILIE).1,((List.getD x7_2 (Int.toNat x9_4) zQIIIIILIE).2.1,((List.getD x7_2 (Int.toNat x9_4) zQIIIIILIE).2.2.1,((List.getD x7_2 (Int.toNat x9_4) zQIIIIILIE).2.2.2.1,((List.getD x7_2 (Int.toNat x9_4) zQIIIIILIE).2.2.2.2.1,r15_6)))))]) (IntKind.wrap .i64 (x9_4 + (1:Int)))
     else none)
   else none
  else
   k3_0_7 x3_1
noncomputable def I163 (N:Nat) (a0:(List QIIIIILIE)) (kf:(List QIIIIILIE)→Option Ret):Option Ret:=
 I163_l3 N a0 (List.length a0:Int) N kf ([]:(List QIIIIILIE)) (0:Int)
noncomputable def I164_l3 (N:Nat) (x7_2:(List QIILIE)) (x8_3:Int):Nat→((List QIILIE)→Option Ret)→(List QIILIE)→Int→Option Ret
 | 0,_,_,_=>none
 | n_5 + 1,k3_0_7,x3_1,x9_4 =>
  bif (decide (x9_4 < x8_3)) then
   bif (inB x9_4 (List.length x7_2)) then
    S166 N (List.getD x7_2 (Int.toNat x9_4) zQIILIE).2.2 (fun (r15_6:(List Int)) =>
     bif (decide ((List.length x3_1 + List.length [((List.getD x7_2 (Int.toNat x9_4) zQIILIE).1,((List.getD x7_2 (Int.toNat x9_4) zQIILIE).2.1,r15_6))]) * 3≤4398046511104)) then
      (I164_l3 N x7_2 x8_3 n_5 k3_0_7) (x3_1 ++ [((List.getD x7_2 (Int.toNat x9_4) zQIILIE).1,((List.getD x7_2 (Int.toNat x9_4) zQIILIE).2.1,r15_6))]) (IntKind.wrap .i64 (x9_4 + (1:Int)))
     else none)
   else none
  else
   k3_0_7 x3_1
noncomputable def I164 (N:Nat) (a0:(List QIILIE)) (kf:(List QIILIE)→Option Ret):Option Ret:=
 I164_l3 N a0 (List.length a0:Int) N kf ([]:(List QIILIE)) (0:Int)
noncomputable def S165 (N:Nat) (a0:(List QIIE)) (kf:(List QIIE)→Option Ret):Option Ret:=
 bif (List.isEmpty a0) then
  both (kf ([]:(List QIIE))) (
   bif (decide ((List.length ([]:(List QIIE)) + List.length a0) * 2≤4398046511104)) then
    kf (([]:(List QIIE)) ++ a0)
   else none)
 else
  bif (decide ((List.length ([]:(List QIIE)) + List.length a0) * 2≤4398046511104)) then
   kf (([]:(List QIIE)) ++ a0)
  else none
noncomputable def S167 (N:Nat) (a0:(List QIIIE)) (kf:(List QIIIE)→Option Ret):Option Ret:=
 bif (List.isEmpty a0) then
  both (kf ([]:(List QIIIE))) (
   bif (decide ((List.length ([]:(List QIIIE)) + List.length a0) * 3≤4398046511104)) then
    kf (([]:(List QIIIE)) ++ a0)
   else none)
 else
  bif (decide ((List.length ([]:(List QIIIE)) + List.length a0) * 3≤4398046511104)) then
   kf (([]:(List QIIIE)) ++ a0)
  else none
noncomputable def S168 (N:Nat) (a0:(List QIIIIE)) (kf:(List QIIIIE)→Option Ret):Option Ret:=
 bif (List.isEmpty a0) then
  both (kf ([]:(List QIIIIE))) (
   bif (decide ((List.length ([]:(List QIIIIE)) + List.length a0) * 4≤4398046511104)) then
    kf (([]:(List QIIIIE)) ++ a0)
   else none)
 else
  bif (decide ((List.length ([]:(List QIIIIE)) + List.length a0) * 4≤4398046511104)) then
   kf (([]:(List QIIIIE)) ++ a0)
  else none
noncomputable def I70 (N:Nat) (a0:QLQIIIIILIELQIILIELQIIELILQIIIELQIIIIEIE) (kf:QLQIIIIILIELQIILIELQIIELILQIIIELQIIIIEIE→Option Ret):Option Ret:=
 I163 N a0.1 (fun (r5_1:(List QIIIIILIE)) =>
  I164 N a0.2.1 (fun (r8_2:(List QIILIE)) =>
   S165 N a0.2.2.1 (fun (r13_3:(List QIIE)) =>
    S166 N a0.2.2.2.1 (fun (r16_4:(List Int)) =>
     S167 N a0.2.2.2.2.1 (fun (r19_5:(List QIIIE)) =>
      S168 N a0.2.2.2.2.2.1 (fun (r22_6:(List QIIIIE)) =>
       kf (r5_1,(r8_2,(r13_3,(r16_4,(r19_5,(r22_6,a0.2.2.2.2.2.2))))))))))))
noncomputable def I144 (N:Nat) (a0:Int) (a1:Int) (a2:Int) (kf:Bool→Option Ret):Option Ret:=
 bif (decide (a1≤a0)) then
  kf (decide (a0≤a2))
 else
  kf false
noncomputable def I147 (N:Nat) (a0:QIIIIILIE) (a1:Int) (kf:Bool→Option Ret):Option Ret:=
 kf (a0.1 == a1)
noncomputable def S146_l2 (N:Nat) (x0_1:(List QIIIIILIE)) (x1_2:Int) (x7_3:Int):Nat→(Option Ret)→(Int→Option Ret)→Int→Option Ret
 | 0,_,_,_=>none
 | n_5 + 1,k2_0_7,k2_1_8,x8_4 =>
  bif (decide (x8_4 < x7_3)) then
   bif (inB x8_4 (List.length x0_1)) then
    I147 N (List.getD x0_1 (Int.toNat x8_4) zQIIIIILIE) x1_2 (fun (r16_6:Bool) =>
     bif r16_6 then
      k2_1_8 x8_4
     else
      (S146_l2 N x0_1 x1_2 x7_3 n_5 k2_0_7 k2_1_8) (IntKind.wrap .i64 (x8_4 + (1:Int))))
   else none
  else
   k2_0_7
noncomputable def S146 (N:Nat) (a0:(List QIIIIILIE)) (a1_0:Int) (kf:Int→Option Ret):Option Ret:=
 S146_l2 N a0 a1_0 (List.length a0:Int) N (kf (-1:Int)) kf (0:Int)
noncomputable def I40 (N:Nat) (a0:(List QIIIIILIE)) (a1:Int) (kf:Int→Option Ret):Option Ret:=
 S146 N a0 a1 kf
noncomputable def I78_l3 (x1_1:Int) (x8_3:(List Int)) (x9_4:Int):Nat→(Int→Option Ret)→Int→Int→Option Ret
 | 0,_,_,_=>none
 | n_6 + 1,k3_0_8,x5_2,x10_5 =>
  bif (decide (x10_5 < x9_4)) then
   bif (inB x10_5 (List.length x8_3)) then
    bif ((List.getD x8_3 (Int.toNat x10_5) (0:Int)) == x1_1) then
     (I78_l3 x1_1 x8_3 x9_4 n_6 k3_0_8) (IntKind.wrap .i64 (x5_2 + (1:Int))) (IntKind.wrap .i64 (x10_5 + (1:Int)))
    else
     (I78_l3 x1_1 x8_3 x9_4 n_6 k3_0_8) x5_2 (IntKind.wrap .i64 (x10_5 + (1:Int)))
   else none
  else
   k3_0_8 x5_2
noncomputable def I78 (N:Nat) (a0:(List Int)) (a1:Int) (kf:Int→Option Ret):Option Ret:=
 I78_l3 a1 a0 (List.length a0:Int) N kf (0:Int) (0:Int)
noncomputable def I143_l10 (N:Nat) (x0_16:(List QIIIIILIE)) (x4_17:QIIIIILIE) (x12_18:(List QIIIIILIE)) (x13_19:Int) (x14_20:Int) (x72_21:(List Int)) (x73_22:Int):Nat→(Option Ret)→(Bool→Option Ret)→Int→Option Ret
 | 0,_,_,_=>none
 | n_24 + 1,k10_0_28,k10_1_29,x74_23 =>
  bif (decide (x74_23 < x73_22)) then
   bif (inB x74_23 (List.length x72_21)) then
    I40 N x0_16 (List.getD x72_21 (Int.toNat x74_23) (0:Int)) (fun (r80_25:Int) =>
     bif (decide (r80_25 < (0:Int))) then
      k10_1_29 false
     else
      bif ((List.getD x72_21 (Int.toNat x74_23) (0:Int)) == x4_17.1) then
       k10_1_29 false
      else
       bif (inB r80_25 (List.length x0_16)) then
        I78 N x4_17.2.2.2.2.2 (List.getD x72_21 (Int.toNat x74_23) (0:Int)) (fun (r93_26:Int) =>
         I78 N (List.getD x0_16 (Int.toNat r80_25) zQIIIIILIE).2.2.2.2.2 x4_17.1 (fun (r101_27:Int) =>
          bif (r93_26 != r101_27) then
           k10_1_29 false
          else
           (I143_l10 N x0_16 x4_17 x12_18 x13_19 x14_20 x72_21 x73_22 n_24 k10_0_28 k10_1_29) (IntKind.wrap .i64 (x74_23 + (1:Int)))))
       else none)
   else none
  else
   k10_0_28
noncomputable def I143_j1 (N:Nat) (k4_1_33:Bool→Option Ret) (rc4_34:Int→Option Ret) (x0_1:(List QIIIIILIE)) (x12_2:(List QIIIIILIE)) (x13_3:Int) (x14_4:Int):Option Ret:=
 I143_l10 N x0_1 (List.getD x12_2 (Int.toNat x14_4) zQIIIIILIE) x12_2 x13_3 x14_4 (List.getD x12_2 (Int.toNat x14_4) zQIIIIILIE).2.2.2.2.2 (List.length (List.getD x12_2 (Int.toNat x14_4) zQIIIIILIE).2.2.2.2.2:Int) N (rc4_34 (IntKind.wrap .i64 (x14_4 + (1:Int)))) k4_1_33 (0:Int)
noncomputable def I143_l4 (N:Nat) (x0_1:(List QIIIIILIE)) (x12_2:(List QIIIIILIE)) (x13_3:Int):Nat→(Option Ret)→(Bool→Option Ret)→Int→Option Ret
 | 0,_,_,_=>none
 | n_5 + 1,k4_0_32,k4_1_33,x14_4 =>
  bif (decide (x14_4 < x13_3)) then
   bif (inB x14_4 (List.length x12_2)) then
    I144 N (List.getD x12_2 (Int.toNat x14_4) zQIIIIILIE).1 (1:Int) (99:Int) (fun (r24_6:Bool) =>
     bif (!r24_6) then
      k4_1_33 false
     else
      bif (decide (x14_4 > (0:Int))) then
       bif (inB (IntKind.wrap .i64 (x14_4 - (1:Int))) (List.length x0_1)) then
        bif (decide ((List.getD x12_2 (Int.toNat x14_4) zQIIIIILIE).1≤(List.getD x0_1 (Int.toNat (IntKind.wrap .i64 (x14_4 - (1:Int)))) zQIIIIILIE).1)) then
         k4_1_33 false
        else
         I144 N (List.getD x12_2 (Int.toNat x14_4) zQIIIIILIE).2.1 (1:Int) (99:Int) (fun (r44_7:Bool) =>
          bif (!r44_7) then
           k4_1_33 false
          else
           bif (decide ((List.length (List.getD x12_2 (Int.toNat x14_4) zQIIIIILIE).2.2.2.2.2:Int) > (20:Int))) then
            k4_1_33 false
           else
            I144 N (List.getD x12_2 (Int.toNat x14_4) zQIIIIILIE).2.2.1 (0:Int) (List.length (List.getD x12_2 (Int.toNat x14_4) zQIIIIILIE).2.2.2.2.2:Int) (fun (r55_8:Bool) =>
             bif (!r55_8) then
              k4_1_33 false
             else
              I144 N (List.getD x12_2 (Int.toNat x14_4) zQIIIIILIE).2.2.2.2.1 (0:Int) (List.length (List.getD x12_2 (Int.toNat x14_4) zQIIIIILIE).2.2.2.2.2:Int) (fun (r62_9:Bool) =>
               bif (!r62_9) then
                k4_1_33 false
               else
                I144 N (List.getD x12_2 (Int.toNat x14_4) zQIIIIILIE).2.2.2.1 (0:Int) (100000:Int) (fun (r68_10:Bool) =>
                 bif (!r68_10) then
                  k4_1_33 false
                 else
                  I143_j1 N k4_1_33 (I143_l4 N x0_1 x12_2 x13_3 n_5 k4_0_32 k4_1_33) x0_1 x12_2 x13_3 x14_4))))
       else none
      else
       I144 N (List.getD x12_2 (Int.toNat x14_4) zQIIIIILIE).2.1 (1:Int) (99:Int) (fun (r44_11:Bool) =>
        bif (!r44_11) then
         k4_1_33 false
        else
         bif (decide ((List.length (List.getD x12_2 (Int.toNat x14_4) zQIIIIILIE).2.2.2.2.2:Int) > (20:Int))) then
          k4_1_33 false
         else
          I144 N (List.getD x12_2 (Int.toNat x14_4) zQIIIIILIE).2.2.1 (0:Int) (List.length (List.getD x12_2 (Int.toNat x14_4) zQIIIIILIE).2.2.2.2.2:Int) (fun (r55_12:Bool) =>
           bif (!r55_12) then
            k4_1_33 false
           else
            I144 N (List.getD x12_2 (Int.toNat x14_4) zQIIIIILIE).2.2.2.2.1 (0:Int) (List.length (List.getD x12_2 (Int.toNat x14_4) zQIIIIILIE).2.2.2.2.2:Int) (fun (r62_13:Bool) =>
             bif (!r62_13) then
              k4_1_33 false
             else
              I144 N (List.getD x12_2 (Int.toNat x14_4) zQIIIIILIE).2.2.2.1 (0:Int) (100000:Int) (fun (r68_14:Bool) =>
               bif (!r68_14) then
                k4_1_33 false
               else
                I143_j1 N k4_1_33 (I143_l4 N x0_1 x12_2 x13_3 n_5 k4_0_32 k4_1_33) x0_1 x12_2 x13_3 x14_4)))))
   else none
  else
   k4_0_32
noncomputable def I143 (N:Nat) (a0:(List QIIIIILIE)) (kf:Bool→Option Ret):Option Ret:=
 bif (decide ((List.length a0:Int) > (10:Int))) then
  kf false
 else
  I143_l4 N a0 a0 (List.length a0:Int) N (kf true) kf (0:Int)
noncomputable def I79_l9 (N:Nat) (x0_10:(List QIILIE)) (x4_11:QIILIE) (x10_12:(List QIILIE)) (x11_13:Int) (x12_14:Int) (x43_15:(List Int)) (x44_16:Int):Nat→(Option Ret)→(Bool→Option Ret)→Int→Option Ret
 | 0,_,_,_=>none
 | n_18 + 1,k9_0_20,k9_1_21,x45_17 =>
  bif (decide (x45_17 < x44_16)) then
   bif (inB x45_17 (List.length x43_15)) then
    I144 N (List.getD x43_15 (Int.toNat x45_17) (0:Int)) (1:Int) (99:Int) (fun (r51_19:Bool) =>
     bif (!r51_19) then
      k9_1_21 false
     else
      bif (decide (x45_17 > (0:Int))) then
       bif (inB (IntKind.wrap .i64 (x45_17 - (1:Int))) (List.length x4_11.2.2)) then
        bif (decide ((List.getD x43_15 (Int.toNat x45_17) (0:Int))≤(List.getD x4_11.2.2 (Int.toNat (IntKind.wrap .i64 (x45_17 - (1:Int)))) (0:Int)))) then
         k9_1_21 false
        else
         (I79_l9 N x0_10 x4_11 x10_12 x11_13 x12_14 x43_15 x44_16 n_18 k9_0_20 k9_1_21) (IntKind.wrap .i64 (x45_17 + (1:Int)))
       else none
      else
       (I79_l9 N x0_10 x4_11 x10_12 x11_13 x12_14 x43_15 x44_16 n_18 k9_0_20 k9_1_21) (IntKind.wrap .i64 (x45_17 + (1:Int))))
   else none
  else
   k9_0_20
noncomputable def I79_j1 (N:Nat) (k4_1_25:Bool→Option Ret) (rc4_26:Int→Option Ret) (x0_1:(List QIILIE)) (x10_2:(List QIILIE)) (x11_3:Int) (x12_4:Int):Option Ret:=
 I79_l9 N x0_1 (List.getD x10_2 (Int.toNat x12_4) zQIILIE) x10_2 x11_3 x12_4 (List.getD x10_2 (Int.toNat x12_4) zQIILIE).2.2 (List.length (List.getD x10_2 (Int.toNat x12_4) zQIILIE).2.2:Int) N (rc4_26 (IntKind.wrap .i64 (x12_4 + (1:Int)))) k4_1_25 (0:Int)
noncomputable def I79_l4 (N:Nat) (x0_1:(List QIILIE)) (x10_2:(List QIILIE)) (x11_3:Int):Nat→(Option Ret)→(Bool→Option Ret)→Int→Option Ret
 | 0,_,_,_=>none
 | n_5 + 1,k4_0_24,k4_1_25,x12_4 =>
  bif (decide (x12_4 < x11_3)) then
   bif (inB x12_4 (List.length x10_2)) then
    I144 N (List.getD x10_2 (Int.toNat x12_4) zQIILIE).1 (1:Int) (99:Int) (fun (r19_6:Bool) =>
     bif (!r19_6) then
      k4_1_25 false
     else
      bif (decide (x12_4 > (0:Int))) then
       bif (inB (IntKind.wrap .i64 (x12_4 - (1:Int))) (List.length x0_1)) then
        bif (decide ((List.getD x10_2 (Int.toNat x12_4) zQIILIE).1≤(List.getD x0_1 (Int.toNat (IntKind.wrap .i64 (x12_4 - (1:Int)))) zQIILIE).1)) then
         k4_1_25 false
        else
         I144 N (List.getD x10_2 (Int.toNat x12_4) zQIILIE).2.1 (1:Int) (99:Int) (fun (r39_7:Bool) =>
          bif (!r39_7) then
           k4_1_25 false
          else
           I79_j1 N k4_1_25 (I79_l4 N x0_1 x10_2 x11_3 n_5 k4_0_24 k4_1_25) x0_1 x10_2 x11_3 x12_4)
       else none
      else
       I144 N (List.getD x10_2 (Int.toNat x12_4) zQIILIE).2.1 (1:Int) (99:Int) (fun (r39_8:Bool) =>
        bif (!r39_8) then
         k4_1_25 false
        else
         I79_j1 N k4_1_25 (I79_l4 N x0_1 x10_2 x11_3 n_5 k4_0_24 k4_1_25) x0_1 x10_2 x11_3 x12_4))
   else none
  else
   k4_0_24
noncomputable def I79 (N:Nat) (a0:(List QIILIE)) (kf:Bool→Option Ret):Option Ret:=
 bif (decide ((List.length a0:Int) > (10:Int))) then
  kf false
 else
  I79_l4 N a0 a0 (List.length a0:Int) N (kf true) kf (0:Int)
noncomputable def I262 (N:Nat) (a0:Int) (a1:Int) (kf:Int→Option Ret):Option Ret:=
 I144 N a1 (1:Int) (1000000000000:Int) (fun (r7_1:Bool) =>
  bif (!r7_1) then
   kf (0:Int)
  else
   bif (!decide (a1=0)) then
    bif (decide ((Int.tmod a0 a1) < (0:Int))) then
     kf (IntKind.wrap .i64 ((Int.tmod a0 a1) + a1))
    else
     kf (Int.tmod a0 a1)
   else none)
noncomputable def I249 (N:Nat) (a0:Int) (a1:Int) (kf:Int→Option Ret):Option Ret:=
 I262 N a1 (2147483647:Int) (fun (r8_1:Int) =>
  kf (Int.tmod (IntKind.wrap .i64 ((IntKind.wrap .i64 ((IntKind.wrap .i64 (a0 * (1000003:Int))) + r8_1)) + (13:Int))) (2147483647:Int)))
noncomputable def I219_l3 (N:Nat) (x6_2:(List Int)) (x7_3:Int):Nat→(Int→Option Ret)→Int→Int→Option Ret
 | 0,_,_,_=>none
 | n_5 + 1,k3_0_7,x3_1,x8_4 =>
  bif (decide (x8_4 < x7_3)) then
   bif (inB x8_4 (List.length x6_2)) then
    I249 N x3_1 (List.getD x6_2 (Int.toNat x8_4) (0:Int)) (fun (r14_6:Int) =>
     (I219_l3 N x6_2 x7_3 n_5 k3_0_7) r14_6 (IntKind.wrap .i64 (x8_4 + (1:Int))))
   else none
  else
   k3_0_7 x3_1
noncomputable def I219 (N:Nat) (a0:(List Int)) (kf:Int→Option Ret):Option Ret:=
 I219_l3 N a0 (List.length a0:Int) N kf (11:Int) (0:Int)
noncomputable def I169 (N:Nat) (a0:Int) (a1:QIIIIE) (kf:Int→Option Ret):Option Ret:=
 I219 N [a0,a1.1,a1.2.1,a1.2.2.1] kf
noncomputable def I75_l5 (N:Nat) (x9_2:(List QIIIIE)) (x10_3:Int):Nat→(Option Ret)→(Bool→Option Ret)→Int→Int→Option Ret
 | 0,_,_,_,_=>none
 | n_5 + 1,k5_0_9,k5_1_10,x3_1,x11_4 =>
  bif (decide (x11_4 < x10_3)) then
   bif (inB x11_4 (List.length x9_2)) then
    bif ((List.getD x9_2 (Int.toNat x11_4) zQIIIIE).1 != (IntKind.wrap .i64 (x11_4 + (1:Int)))) then
     k5_1_10 false
    else
     I144 N (List.getD x9_2 (Int.toNat x11_4) zQIIIIE).2.1 (1:Int) (9:Int) (fun (r24_6:Bool) =>
      bif (!r24_6) then
       k5_1_10 false
      else
       I144 N (List.getD x9_2 (Int.toNat x11_4) zQIIIIE).2.2.1 (0:Int) (99:Int) (fun (r30_7:Bool) =>
        bif (!r30_7) then
         k5_1_10 false
        else
         I169 N x3_1 (List.getD x9_2 (Int.toNat x11_4) zQIIIIE) (fun (r38_8:Int) =>
          bif ((List.getD x9_2 (Int.toNat x11_4) zQIIIIE).2.2.2 != r38_8) then
           k5_1_10 false
          else
           (I75_l5 N x9_2 x10_3 n_5 k5_0_9 k5_1_10) (List.getD x9_2 (Int.toNat x11_4) zQIIIIE).2.2.2 (IntKind.wrap .i64 (x11_4 + (1:Int))))))
   else none
  else
   k5_0_9
noncomputable def I75 (N:Nat) (a0:(List QIIIIE)) (kf:Bool→Option Ret):Option Ret:=
 bif (decide ((List.length a0:Int) > (200:Int))) then
  kf false
 else
  I75_l5 N a0 (List.length a0:Int) N (kf true) kf (0:Int) (0:Int)
noncomputable def I16 (N:Nat) (a0:QLQIIIIILIELQIILIELQIIELILQIIIELQIIIIEIE) (kf:Bool→Option Ret):Option Ret:=
 kf (decide ((List.length a0.2.2.1:Int) > (0:Int)))
noncomputable def S170_l2 (x0_1:(List Int)) (x1_2:Int) (x7_3:Int):Nat→(Option Ret)→(Int→Option Ret)→Int→Option Ret
 | 0,_,_,_=>none
 | n_5 + 1,k2_0_6,k2_1_7,x8_4 =>
  bif (decide (x8_4 < x7_3)) then
   bif (inB x8_4 (List.length x0_1)) then
    bif (x1_2 == (List.getD x0_1 (Int.toNat x8_4) (0:Int))) then
     k2_1_7 x8_4
    else
     (S170_l2 x0_1 x1_2 x7_3 n_5 k2_0_6 k2_1_7) (IntKind.wrap .i64 (x8_4 + (1:Int)))
   else none
  else
   k2_0_6
noncomputable def S170 (N:Nat) (a0:(List Int)) (a1:Int) (kf:Int→Option Ret):Option Ret:=
 S170_l2 a0 a1 (List.length a0:Int) N (kf (-1:Int)) kf (0:Int)
noncomputable def S82 (N:Nat) (a0:(List Int)) (a1:Int) (kf:Bool→Option Ret):Option Ret:=
 S170 N a0 a1 (fun (r7_1:Int) =>
  kf (decide (r7_1 ≥ (0:Int))))
noncomputable def I19 (N:Nat) (a0:(List QIIIIILIE)) (a1:Int) (a2:Int) (kf:Bool→Option Ret):Option Ret:=
 I40 N a0 a1 (fun (r10_1:Int) =>
  bif (decide (r10_1 ≥ (0:Int))) then
   bif (inB r10_1 (List.length a0)) then
    S82 N (List.getD a0 (Int.toNat r10_1) zQIIIIILIE).2.2.2.2.2 a2 kf
   else none
  else
   kf false)
noncomputable def I77 (N:Nat) (a0:(List QIIIIILIE)) (a1:Int) (a2:Int) (kf:Bool→Option Ret):Option Ret:=
 I40 N a0 a1 (fun (r11_1:Int) =>
  I40 N a0 a2 (fun (r14_2:Int) =>
   I143 N a0 (fun (r16_3:Bool) =>
    bif r16_3 then
     bif (decide (r11_1 ≥ (0:Int))) then
      bif (decide (r14_2 ≥ (0:Int))) then
       bif (r11_1 != r14_2) then
        bif (inB r11_1 (List.length a0)) then
         bif (inB r14_2 (List.length a0)) then
          bif ((List.getD a0 (Int.toNat r11_1) zQIIIIILIE).2.1 != (List.getD a0 (Int.toNat r14_2) zQIIIIILIE).2.1) then
           I19 N a0 a1 a2 (fun (r47_4:Bool) =>
            kf (!r47_4))
          else
           kf false
         else none
        else none
       else
        kf false
      else
       kf false
     else
      kf false
    else
     kf false)))
noncomputable def I17_l10 (N:Nat) (x5_13:(List Int)) (x32_14:(List QIIIIILIE)) (x33_15:Int):Nat→(Option Ret)→(Bool→Option Ret)→Int→Option Ret
 | 0,_,_,_=>none
 | n_17 + 1,k10_0_19,k10_1_20,x34_16 =>
  bif (decide (x34_16 < x33_15)) then
   bif (inB x34_16 (List.length x32_14)) then
    I78 N x5_13 (List.getD x32_14 (Int.toNat x34_16) zQIIIIILIE).1 (fun (r41_18:Int) =>
     bif (r41_18 != (1:Int)) then
      k10_1_20 false
     else
      (I17_l10 N x5_13 x32_14 x33_15 n_17 k10_0_19 k10_1_20) (IntKind.wrap .i64 (x34_16 + (1:Int))))
   else none
  else
   k10_0_19
noncomputable def I17_l3 (N:Nat) (x0_1:(List QIIIIILIE)) (x11_3:(List QIIE)) (x12_4:Int):Nat→((List Int)→Option Ret)→(Bool→Option Ret)→(List Int)→Int→Option Ret
 | 0,_,_,_,_=>none
 | n_6 + 1,k3_0_8,k3_1_9,x5_2,x13_5 =>
  bif (decide (x13_5 < x12_4)) then
   bif (inB x13_5 (List.length x11_3)) then
    I77 N x0_1 (List.getD x11_3 (Int.toNat x13_5) zQIIE).1 (List.getD x11_3 (Int.toNat x13_5) zQIIE).2 (fun (r22_7:Bool) =>
     bif (!r22_7) then
      k3_1_9 false
     else
      bif (decide ((List.length x5_2 + List.length [(List.getD x11_3 (Int.toNat x13_5) zQIIE).1,(List.getD x11_3 (Int.toNat x13_5) zQIIE).2]) * 1≤4398046511104)) then
       (I17_l3 N x0_1 x11_3 x12_4 n_6 k3_0_8 k3_1_9) (x5_2 ++ [(List.getD x11_3 (Int.toNat x13_5) zQIIE).1,(List.getD x11_3 (Int.toNat x13_5) zQIIE).2]) (IntKind.wrap .i64 (x13_5 + (1:Int)))
      else none)
   else none
  else
   k3_0_8 x5_2
noncomputable def I17 (N:Nat) (a0:(List QIIIIILIE)) (a1:(List QIIE)) (kf:Bool→Option Ret):Option Ret:=
 I17_l3 N a0 a1 (List.length a1:Int) N (fun (z5_11:(List Int)) =>
  I17_l10 N z5_11 a0 (List.length a0:Int) N (kf true) kf (0:Int)) kf ([]:(List Int)) (0:Int)
noncomputable def I81 (N:Nat) (a0:QIILIE) (a1:Int) (kf:Bool→Option Ret):Option Ret:=
 kf (a0.1 == a1)
noncomputable def S80_l2 (N:Nat) (x0_1:(List QIILIE)) (x1_2:Int) (x7_3:Int):Nat→(Option Ret)→(Int→Option Ret)→Int→Option Ret
 | 0,_,_,_=>none
 | n_5 + 1,k2_0_7,k2_1_8,x8_4 =>
  bif (decide (x8_4 < x7_3)) then
   bif (inB x8_4 (List.length x0_1)) then
    I81 N (List.getD x0_1 (Int.toNat x8_4) zQIILIE) x1_2 (fun (r16_6:Bool) =>
     bif r16_6 then
      k2_1_8 x8_4
     else
      (S80_l2 N x0_1 x1_2 x7_3 n_5 k2_0_7 k2_1_8) (IntKind.wrap .i64 (x8_4 + (1:Int))))
   else none
  else
   k2_0_7
noncomputable def S80 (N:Nat) (a0:(List QIILIE)) (a1_0:Int) (kf:Int→Option Ret):Option Ret:=
 S80_l2 N a0 a1_0 (List.length a0:Int) N (kf (-1:Int)) kf (0:Int)
noncomputable def I83_l2 (N:Nat) (x0_1:(List QIIIIILIE)) (x4_2:QIILIE) (x14_3:(List Int)) (x15_4:Int):Nat→(Option Ret)→(Bool→Option Ret)→Int→Option Ret
 | 0,_,_,_=>none
 | n_6 + 1,k2_0_9,k2_1_10,x16_5 =>
  bif (decide (x16_5 < x15_4)) then
   bif (inB x16_5 (List.length x14_3)) then
    I40 N x0_1 (List.getD x14_3 (Int.toNat x16_5) (0:Int)) (fun (r22_7:Int) =>
     bif (decide (r22_7 < (0:Int))) then
      k2_1_10 false
     else
      bif (inB r22_7 (List.length x0_1)) then
       bif ((List.getD x0_1 (Int.toNat r22_7) zQIIIIILIE).2.1 == x4_2.2.1) then
        k2_1_10 false
       else
        S82 N x4_2.2.2 (List.getD x14_3 (Int.toNat x16_5) (0:Int)) (fun (r39_8:Bool) =>
         bif r39_8 then
          k2_1_10 false
         else
          (I83_l2 N x0_1 x4_2 x14_3 x15_4 n_6 k2_0_9 k2_1_10) (IntKind.wrap .i64 (x16_5 + (1:Int))))
      else none)
   else none
  else
   k2_0_9
noncomputable def I83 (N:Nat) (a0:(List QIIIIILIE)) (a1:QIILIE) (a2:QIIE) (kf:Bool→Option Ret):Option Ret:=
 I83_l2 N a0 a1 [a2.1,a2.2] (List.length [a2.1,a2.2]:Int) N (kf true) kf (0:Int)
noncomputable def I18_l4 (N:Nat) (x0_2:(List QIIIIILIE)) (x1_3:(List QIILIE)) (x2_4:(List QIIE)) (x3_5:(List Int)) (x22_6:(List Int)) (x23_7:Int):Nat→(Option Ret)→(Bool→Option Ret)→Int→Option Ret
 | 0,_,_,_=>none
 | n_9 + 1,k4_0_13,k4_1_14,x24_8 =>
  bif (decide (x24_8 < x23_7)) then
   bif (inB x24_8 (List.length x22_6)) then
    S80 N x1_3 (List.getD x22_6 (Int.toNat x24_8) (0:Int)) (fun (r31_10:Int) =>
     bif (decide (r31_10 < (0:Int))) then
      k4_1_14 false
     else
      bif (decide ((0:Int)≤(0:Int)) && decide ((0:Int)≤x24_8) && decide (x24_8≤(List.length x3_5:Int))) then
       S82 N (List.drop (Int.toNat (0:Int)) (List.take (Int.toNat x24_8) x3_5)) (List.getD x22_6 (Int.toNat x24_8) (0:Int)) (fun (r39_11:Bool) =>
        bif r39_11 then
         k4_1_14 false
        else
         bif (inB r31_10 (List.length x1_3)) then
          bif (inB x24_8 (List.length x2_4)) then
           I83 N x0_2 (List.getD x1_3 (Int.toNat r31_10) zQIILIE) (List.getD x2_4 (Int.toNat x24_8) zQIIE) (fun (r51_12:Bool) =>
            bif (!r51_12) then
             k4_1_14 false
            else
             (I18_l4 N x0_2 x1_3 x2_4 x3_5 x22_6 x23_7 n_9 k4_0_13 k4_1_14) (IntKind.wrap .i64 (x24_8 + (1:Int))))
          else none
         else none)
      else none)
   else none
  else
   k4_0_13
noncomputable def I18 (N:Nat) (a0:(List QIIIIILIE)) (a1:(List QIILIE)) (a2:(List QIIE)) (a3:(List Int)) (kf:Bool→Option Ret):Option Ret:=
 I79 N a1 (fun (r13_1:Bool) =>
  bif (!r13_1) then
   kf false
  else
   bif ((List.length a3:Int) != (List.length a2:Int)) then
    kf false
   else
    I18_l4 N a0 a1 a2 a3 a3 (List.length a3:Int) N (kf true) kf (0:Int))
noncomputable def I138 (N:Nat) (a0:QIIIE) (kf:Bool→Option Ret):Option Ret:=
 I144 N a0.1 (1:Int) (99:Int) (fun (r5_1:Bool) =>
  bif r5_1 then
   I144 N a0.2.1 (0:Int) (100:Int) (fun (r9_2:Bool) =>
    bif r9_2 then
     I144 N a0.2.2 (0:Int) (100:Int) (fun (r14_3:Bool) =>
      bif r14_3 then
       kf (a0.2.1 != a0.2.2)
      else
       kf false)
    else
     kf false)
  else
   kf false)
noncomputable def I145_l5 (x10_3:(List QIIIIILIE)) (x11_4:Int):Nat→(Int→Option Ret)→Int→Int→Option Ret
 | 0,_,_,_=>none
 | n_6 + 1,k5_0_7,x3_2,x12_5 =>
  bif (decide (x12_5 < x11_4)) then
   bif (inB x12_5 (List.length x10_3)) then
    (I145_l5 x10_3 x11_4 n_6 k5_0_7) (IntKind.wrap .i64 (x3_2 + (List.getD x10_3 (Int.toNat x12_5) zQIIIIILIE).2.2.1)) (IntKind.wrap .i64 (x12_5 + (1:Int)))
   else none
  else
   k5_0_7 x3_2
noncomputable def I145 (N:Nat) (a0:(List QIIIIILIE)) (kf:Int→Option Ret):Option Ret:=
 I143 N a0 (fun (r7_1:Bool) =>
  bif (!r7_1) then
   kf (0:Int)
  else
   I145_l5 a0 (List.length a0:Int) N kf (0:Int) (0:Int))
noncomputable def I39_l6 (N:Nat) (x1_7:QLQIIIIILIELQIILIELQIIELILQIIIELQIIIIEIE) (x62_8:(List QIIIE)) (x63_9:Int):Nat→(Option Ret)→(Bool→Option Ret)→Int→Option Ret
 | 0,_,_,_=>none
 | n_11 + 1,k6_0_13,k6_1_14,x64_10 =>
  bif (decide (x64_10 < x63_9)) then
   bif (inB x64_10 (List.length x62_8)) then
    bif (!((decide (((List.getD x62_8 (Int.toNat x64_10) zQIIIE).1:Int)=(0:Int))) && ((decide (((List.getD x62_8 (Int.toNat x64_10) zQIIIE).2.1:Int)=(0:Int))) && (decide (((List.getD x62_8 (Int.toNat x64_10) zQIIIE).2.2:Int)=(0:Int)))))) then
     I138 N (List.getD x62_8 (Int.toNat x64_10) zQIIIE) (fun (r74_12:Bool) =>
      bif (!r74_12) then
       k6_1_14 false
      else
       bif (inB x64_10 (List.length x1_7.2.2.2.1)) then
        bif ((List.getD x62_8 (Int.toNat x64_10) zQIIIE).1 != (List.getD x1_7.2.2.2.1 (Int.toNat x64_10) (0:Int))) then
         k6_1_14 false
        else
         (I39_l6 N x1_7 x62_8 x63_9 n_11 k6_0_13 k6_1_14) (IntKind.wrap .i64 (x64_10 + (1:Int)))
       else none)
    else
     (I39_l6 N x1_7 x62_8 x63_9 n_11 k6_0_13 k6_1_14) (IntKind.wrap .i64 (x64_10 + (1:Int)))
   else none
  else
   k6_0_13
noncomputable def I39_j1 (N:Nat) (a0:QLQIIIIILIELQIILIELQIIELILQIIIELQIIIIEIE) (kf:Bool→Option Ret):Option Ret:=
 I39_l6 N a0 a0.2.2.2.2.1 (List.length a0.2.2.2.2.1:Int) N (
  I144 N a0.2.2.2.2.2.2 (0:Int) (1000:Int) (fun (r90_17:Bool) =>
   bif r90_17 then
    I145 N a0.1 (fun (r94_18:Int) =>
     kf (r94_18 == a0.2.2.2.2.2.2))
   else
    kf false)) kf (0:Int)
noncomputable def I39 (N:Nat) (a0:QLQIIIIILIELQIILIELQIIELILQIIIELQIIIIEIE) (kf:Bool→Option Ret):Option Ret:=
 I143 N a0.1 (fun (r7_1:Bool) =>
  bif (!r7_1) then
   kf false
  else
   I79 N a0.2.1 (fun (r12_2:Bool) =>
    bif (!r12_2) then
     kf false
    else
     I75 N a0.2.2.2.2.2.1 (fun (r18_3:Bool) =>
      bif (!r18_3) then
       kf false
      else
       bif ((List.length a0.2.2.2.1:Int) != (List.length a0.2.2.1:Int)) then
        kf false
       else
        bif ((List.length a0.2.2.2.2.1:Int) != (List.length a0.2.2.1:Int)) then
         kf false
        else
         I16 N a0 (fun (r40_4:Bool) =>
          bif r40_4 then
           I17 N a0.1 a0.2.2.1 (fun (r46_5:Bool) =>
            bif (!r46_5) then
             kf false
            else
             I18 N a0.1 a0.2.1 a0.2.2.1 a0.2.2.2.1 (fun (r57_6:Bool) =>
              bif (!r57_6) then
               kf false
              else
               I39_j1 N a0 kf))
          else
           I39_j1 N a0 kf))))
noncomputable def I234 (N:Nat) (a0:(List QIIIIE)) (kf:Int→Option Ret):Option Ret:=
 bif ((List.length a0:Int) == (0:Int)) then
  kf (0:Int)
 else
  bif (inB (IntKind.wrap .i64 ((List.length a0:Int) - (1:Int))) (List.length a0)) then
   kf (List.getD a0 (Int.toNat (IntKind.wrap .i64 ((List.length a0:Int) - (1:Int)))) zQIIIIE).2.2.2
  else none
noncomputable def I189 (N:Nat) (a0:(List QIIIIE)) (a1:Int) (a2:Int) (kf:(List QIIIIE)→Bool→Option Ret):Option Ret:=
 I234 N a0 (fun (r17_1:Int) =>
  I169 N r17_1 ((IntKind.wrap .i64 ((List.length a0:Int) + (1:Int))),(a1,(a2,(0:Int)))) (fun (r19_2:Int) =>
   S168 N a0 (fun (r22_3:(List QIIIIE)) =>
    bif (decide ((List.length r22_3 + List.length [((IntKind.wrap .i64 ((List.length a0:Int) + (1:Int))),(a1,(a2,r19_2)))]) * 4≤4398046511104)) then
     I75 N (r22_3 ++ [((IntKind.wrap .i64 ((List.length a0:Int) + (1:Int))),(a1,(a2,r19_2)))]) (fun (r27_4:Bool) =>
      bif (!r27_4) then
       S168 N a0 (fun (r30_5:(List QIIIIE)) =>
        kf r30_5 false)
      else
       kf (r22_3 ++ [((IntKind.wrap .i64 ((List.length a0:Int) + (1:Int))),(a1,(a2,r19_2)))]) true)
    else none)))
noncomputable def I103 (N:Nat) (a0:QLQIIIIILIELQIILIELQIIELILQIIIELQIIIIEIE) (a1:QLQIIIIILIELQIILIELQIIELILQIIIELQIIIIEIE) (a2:Int) (a3:Int) (kf:QLQIIIIILIELQIILIELQIIELILQIIIELQIIIIEIE→Bool→Option Ret):Option Ret:=
 I189 N a1.2.2.2.2.2.1 a2 a3 (fun (r16_1:(List QIIIIE)) (r16_2:Bool) =>
  bif (!r16_2) then
   I70 N a0 (fun (r33_5:QLQIIIIILIELQIILIELQIIELILQIIIELQIIIIEIE) =>
    kf r33_5 false)
  else
   I39 N a0 (fun (r24_3:Bool) =>
    bif (!r24_3) then
     I70 N a0 (fun (r33_5:QLQIIIIILIELQIILIELQIIELILQIIIELQIIIIEIE) =>
      kf r33_5 false)
    else
     I39 N (a1.1,(a1.2.1,(a1.2.2.1,(a1.2.2.2.1,(a1.2.2.2.2.1,(r16_1,a1.2.2.2.2.2.2)))))) (fun (r29_4:Bool) =>
      bif (!r29_4) then
       I70 N a0 (fun (r33_6:QLQIIIIILIELQIILIELQIIELILQIIIELQIIIIEIE) =>
        kf r33_6 false)
      else
       kf (a1.1,(a1.2.1,(a1.2.2.1,(a1.2.2.2.1,(a1.2.2.2.2.1,(r16_1,a1.2.2.2.2.2.2)))))) true)))
noncomputable def L107_l4 (x0_1:(List Int)) (x1_2:(List Int)):Nat→(Option Ret)→(Bool→Option Ret)→Int→Option Ret
 | 0,_,_,_=>none
 | n_4 + 1,k4_0_5,k4_1_6,x5_3 =>
  bif (decide (x5_3 < (List.length x0_1:Int))) then
   bif (inB x5_3 (List.length x0_1)) then
    bif (inB x5_3 (List.length x1_2)) then
     bif ((List.getD x0_1 (Int.toNat x5_3) (0:Int)) != (List.getD x1_2 (Int.toNat x5_3) (0:Int))) then
      k4_1_6 false
     else
      (L107_l4 x0_1 x1_2 n_4 k4_0_5 k4_1_6) (IntKind.wrap .i64 (x5_3 + (1:Int)))
    else none
   else none
  else
   k4_0_5
noncomputable def L107 (N:Nat) (a0:(List Int)) (a1:(List Int)) (kf:Bool→Option Ret):Option Ret:=
 bif ((List.length a0:Int) != (List.length a1:Int)) then
  kf false
 else
  L107_l4 a0 a1 N (kf true) kf (0:Int)
noncomputable def L190 (N:Nat) (a0:QIIIIILIE) (a1:QIIIIILIE) (kf:Bool→Option Ret):Option Ret:=
 bif (a0.1 != a1.1) then
  kf false
 else
  bif (a0.2.1 != a1.2.1) then
   kf false
  else
   bif (a0.2.2.1 != a1.2.2.1) then
    kf false
   else
    bif (a0.2.2.2.1 != a1.2.2.2.1) then
     kf false
    else
     bif (a0.2.2.2.2.1 != a1.2.2.2.2.1) then
      kf false
     else
      L107 N a0.2.2.2.2.2 a1.2.2.2.2.2 (fun (r34_1:Bool) =>
       bif (!r34_1) then
        kf false
       else
        kf true)
noncomputable def L104_l4 (N:Nat) (x0_1:(List QIIIIILIE)) (x1_2:(List QIIIIILIE)):Nat→(Option Ret)→(Bool→Option Ret)→Int→Option Ret
 | 0,_,_,_=>none
 | n_4 + 1,k4_0_6,k4_1_7,x5_3 =>
  bif (decide (x5_3 < (List.length x0_1:Int))) then
   bif (inB x5_3 (List.length x0_1)) then
    bif (inB x5_3 (List.length x1_2)) then
     L190 N (List.getD x0_1 (Int.toNat x5_3) zQIIIIILIE) (List.getD x1_2 (Int.toNat x5_3) zQIIIIILIE) (fun (r25_5:Bool) =>
      bif (!r25_5) then
       k4_1_7 false
      else
       (L104_l4 N x0_1 x1_2 n_4 k4_0_6 k4_1_7) (IntKind.wrap .i64 (x5_3 + (1:Int))))
    else none
   else none
  else
   k4_0_6
noncomputable def L104 (N:Nat) (a0:(List QIIIIILIE)) (a1:(List QIIIIILIE)) (kf:Bool→Option Ret):Option Ret:=
 bif ((List.length a0:Int) != (List.length a1:Int)) then
  kf false
 else
  L104_l4 N a0 a1 N (kf true) kf (0:Int)
noncomputable def L191 (N:Nat) (a0:QIILIE) (a1:QIILIE) (kf:Bool→Option Ret):Option Ret:=
 bif (a0.1 != a1.1) then
  kf false
 else
  bif (a0.2.1 != a1.2.1) then
   kf false
  else
   L107 N a0.2.2 a1.2.2 (fun (r19_1:Bool) =>
    bif (!r19_1) then
     kf false
    else
     kf true)
noncomputable def L105_l4 (N:Nat) (x0_1:(List QIILIE)) (x1_2:(List QIILIE)):Nat→(Option Ret)→(Bool→Option Ret)→Int→Option Ret
 | 0,_,_,_=>none
 | n_4 + 1,k4_0_6,k4_1_7,x5_3 =>
  bif (decide (x5_3 < (List.length x0_1:Int))) then
   bif (inB x5_3 (List.length x0_1)) then
    bif (inB x5_3 (List.length x1_2)) then
     L191 N (List.getD x0_1 (Int.toNat x5_3) zQIILIE) (List.getD x1_2 (Int.toNat x5_3) zQIILIE) (fun (r25_5:Bool) =>
      bif (!r25_5) then
       k4_1_7 false
      else
       (L105_l4 N x0_1 x1_2 n_4 k4_0_6 k4_1_7) (IntKind.wrap .i64 (x5_3 + (1:Int))))
    else none
   else none
  else
   k4_0_6
noncomputable def L105 (N:Nat) (a0:(List QIILIE)) (a1:(List QIILIE)) (kf:Bool→Option Ret):Option Ret:=
 bif ((List.length a0:Int) != (List.length a1:Int)) then
  kf false
 else
  L105_l4 N a0 a1 N (kf true) kf (0:Int)
noncomputable def L192 (N:Nat) (a0:QIIE) (a1:QIIE) (kf:Bool→Option Ret):Option Ret:=
 bif (a0.1 != a1.1) then
  kf false
 else
  bif (a0.2 != a1.2) then
   kf false
  else
   kf true
noncomputable def L106_l4 (N:Nat) (x0_1:(List QIIE)) (x1_2:(List QIIE)):Nat→(Option Ret)→(Bool→Option Ret)→Int→Option Ret
 | 0,_,_,_=>none
 | n_4 + 1,k4_0_6,k4_1_7,x5_3 =>
  bif (decide (x5_3 < (List.length x0_1:Int))) then
   bif (inB x5_3 (List.length x0_1)) then
    bif (inB x5_3 (List.length x1_2)) then
     L192 N (List.getD x0_1 (Int.toNat x5_3) zQIIE) (List.getD x1_2 (Int.toNat x5_3) zQIIE) (fun (r25_5:Bool) =>
      bif (!r25_5) then
       k4_1_7 false
      else
       (L106_l4 N x0_1 x1_2 n_4 k4_0_6 k4_1_7) (IntKind.wrap .i64 (x5_3 + (1:Int))))
    else none
   else none
  else
   k4_0_6
noncomputable def L106 (N:Nat) (a0:(List QIIE)) (a1:(List QIIE)) (kf:Bool→Option Ret):Option Ret:=
 bif ((List.length a0:Int) != (List.length a1:Int)) then
  kf false
 else
  L106_l4 N a0 a1 N (kf true) kf (0:Int)
noncomputable def L193 (N:Nat) (a0:QIIIE) (a1:QIIIE) (kf:Bool→Option Ret):Option Ret:=
 bif (a0.1 != a1.1) then
  kf false
 else
  bif (a0.2.1 != a1.2.1) then
   kf false
  else
   bif (a0.2.2 != a1.2.2) then
    kf false
   else
    kf true
noncomputable def L108_l4 (N:Nat) (x0_1:(List QIIIE)) (x1_2:(List QIIIE)):Nat→(Option Ret)→(Bool→Option Ret)→Int→Option Ret
 | 0,_,_,_=>none
 | n_4 + 1,k4_0_6,k4_1_7,x5_3 =>
  bif (decide (x5_3 < (List.length x0_1:Int))) then
   bif (inB x5_3 (List.length x0_1)) then
    bif (inB x5_3 (List.length x1_2)) then
     L193 N (List.getD x0_1 (Int.toNat x5_3) zQIIIE) (List.getD x1_2 (Int.toNat x5_3) zQIIIE) (fun (r25_5:Bool) =>
      bif (!r25_5) then
       k4_1_7 false
      else
       (L108_l4 N x0_1 x1_2 n_4 k4_0_6 k4_1_7) (IntKind.wrap .i64 (x5_3 + (1:Int))))
    else none
   else none
  else
   k4_0_6
noncomputable def L108 (N:Nat) (a0:(List QIIIE)) (a1:(List QIIIE)) (kf:Bool→Option Ret):Option Ret:=
 bif ((List.length a0:Int) != (List.length a1:Int)) then
  kf false
 else
  L108_l4 N a0 a1 N (kf true) kf (0:Int)
noncomputable def L194 (N:Nat) (a0:QIIIIE) (a1:QIIIIE) (kf:Bool→Option Ret):Option Ret:=
 bif (a0.1 != a1.1) then
  kf false
 else
  bif (a0.2.1 != a1.2.1) then
   kf false
  else
   bif (a0.2.2.1 != a1.2.2.1) then
    kf false
   else
    bif (a0.2.2.2 != a1.2.2.2) then
     kf false
    else
     kf true
noncomputable def L109_l4 (N:Nat) (x0_1:(List QIIIIE)) (x1_2:(List QIIIIE)):Nat→(Option Ret)→(Bool→Option Ret)→Int→Option Ret
 | 0,_,_,_=>none
 | n_4 + 1,k4_0_6,k4_1_7,x5_3 =>
  bif (decide (x5_3 < (List.length x0_1:Int))) then
   bif (inB x5_3 (List.length x0_1)) then
    bif (inB x5_3 (List.length x1_2)) then
     L194 N (List.getD x0_1 (Int.toNat x5_3) zQIIIIE) (List.getD x1_2 (Int.toNat x5_3) zQIIIIE) (fun (r25_5:Bool) =>
      bif (!r25_5) then
       k4_1_7 false
      else
       (L109_l4 N x0_1 x1_2 n_4 k4_0_6 k4_1_7) (IntKind.wrap .i64 (x5_3 + (1:Int))))
    else none
   else none
  else
   k4_0_6
noncomputable def L109 (N:Nat) (a0:(List QIIIIE)) (a1:(List QIIIIE)) (kf:Bool→Option Ret):Option Ret:=
 bif ((List.length a0:Int) != (List.length a1:Int)) then
  kf false
 else
  L109_l4 N a0 a1 N (kf true) kf (0:Int)
noncomputable def L24 (N:Nat) (a0:QLQIIIIILIELQIILIELQIIELILQIIIELQIIIIEIE) (a1:QLQIIIIILIELQIILIELQIIELILQIIIELQIIIIEIE) (kf:Bool→Option Ret):Option Ret:=
 L104 N a0.1 a1.1 (fun (r9_1:Bool) =>
  bif (!r9_1) then
   kf false
  else
   L105 N a0.2.1 a1.2.1 (fun (r15_2:Bool) =>
    bif (!r15_2) then
     kf false
    else
     L106 N a0.2.2.1 a1.2.2.1 (fun (r21_3:Bool) =>
      bif (!r21_3) then
       kf false
      else
       L107 N a0.2.2.2.1 a1.2.2.2.1 (fun (r27_4:Bool) =>
        bif (!r27_4) then
         kf false
        else
         L108 N a0.2.2.2.2.1 a1.2.2.2.2.1 (fun (r33_5:Bool) =>
          bif (!r33_5) then
           kf false
          else
           L109 N a0.2.2.2.2.2.1 a1.2.2.2.2.2.1 (fun (r39_6:Bool) =>
            bif (!r39_6) then
             kf false
            else
             bif (a0.2.2.2.2.2.2 != a1.2.2.2.2.2.2) then
              kf false
             else
              kf true))))))
noncomputable def L113_l2  : Nat→((List Int)→Int→Option Ret)→(List Int)→Int→Int→Option Ret
 | 0,_,_,_,_=>none
 | n_4 + 1,k2_0_5,x0_1,x1_2,x5_3 =>
  bif (decide (x5_3 < (List.length x0_1:Int))) then
   bif (inB x5_3 (List.length x0_1)) then
    (L113_l2 n_4 k2_0_5) (List.set x0_1 (Int.toNat x5_3) x1_2) (IntKind.wrap .i64 (x1_2 + (1:Int))) (IntKind.wrap .i64 (x5_3 + (1:Int)))
   else none
  else
   k2_0_5 x0_1 x1_2
noncomputable def L113 (N:Nat) (a0:(List Int)) (a1:Int) (kf:Int→(List Int)→Option Ret):Option Ret:=
 L113_l2 N (fun (z0_7:(List Int)) (z1_8:Int) =>
  kf z1_8 z0_7) a0 a1 (0:Int)
noncomputable def L110_l2 (N:Nat):Nat→((List QIIIIILIE)→Int→Option Ret)→(List QIIIIILIE)→Int→Int→Option Ret
 | 0,_,_,_,_=>none
 | n_4 + 1,k2_0_12,x0_1,x1_2,x5_3 =>
  bif (decide (x5_3 < (List.length x0_1:Int))) then
   bif (inB x5_3 (List.length x0_1)) then
    share (List.set x0_1 (Int.toNat x5_3) (x1_2,(List.getD x0_1 (Int.toNat x5_3) zQIIIIILIE).2)) (fun (w0_5:(List QIIIIILIE)) =>
     bif (inB x5_3 (List.length w0_5)) then
      share (List.set w0_5 (Int.toNat x5_3) ((List.getD w0_5 (Int.toNat x5_3) zQIIIIILIE).1,((IntKind.wrap .i64 (x1_2 + (1:Int))),(List.getD w0_5 (Int.toNat x5_3) zQIIIIILIE).2.2))) (fun (w0_6:(List QIIIIILIE)) =>
       bif (inB x5_3 (List.length w0_6)) then
        share (List.set w0_6 (Int.toNat x5_3) ((List.getD w0_6 (Int.toNat x5_3) zQIIIIILIE).1,((List.getD w0_6 (Int.toNat x5_3) zQIIIIILIE).2.1,((IntKind.wrap .i64 ((IntKind.wrap .i64 (x1_2 + (1:Int))) + (1:Int))),(List.getD w0_6 (Int.toNat x5_3) zQIIIIILIE).2.2.2)))) (fun (w0_7:(List QIIIIILIE)) =>
         bif (inB x5_3 (List.length w0_7)) then
          share (List.set w0_7 (Int.toNat x5_3) ((List.getD w0_7 (Int.toNat x5_3) zQIIIIILIE).1,((List.getD w0_7 (Int.toNat x5_3) zQIIIIILIE).2.1,((List.getD w0_7 (Int.toNat x5_3) zQIIIIILIE).2.2.1,((IntKind.wrap .i64 ((IntKind.wrap .i64 ((IntKind.wrap .i64 (x1_2 + (1:Int))) + (1:Int))) + (1:Int))),(List.getD w0_7 (Int.toNat x5_3) zQIIIIILIE).2.2.2.2))))) (fun (w0_8:(List QIIIIILIE)) =>
           bif (inB x5_3 (List.length w0_8)) then
            share (List.set w0_8 (Int.toNat x5_3) ((List.getD w0_8 (Int.toNat x5_3) zQIIIIILIE).1,((List.getD w0_8 (Int.toNat x5_3) zQIIIIILIE).2.1,((List.getD w0_8 (Int.toNat x5_3) zQIIIIILIE).2.2.1,((List.getD w0_8 (Int.toNat x5_3) zQIIIIILIE).2.2.2.1,((IntKind.wrap .i64 ((IntKind.wrap .i64 ((IntKind.wrap .i64 ((IntKind.wrap .i64 (x1_2 + (1:Int))) + (1:Int))) + (1:Int))) + (1:Int))),(List.getD w0_8 (Int.toNat x5_3) zQIIIIILIE).2.2.2.2.2)))))) (fun (w0_9:(List QIIIIILIE)) =>
             bif (inB x5_3 (List.length w0_9)) then
              L113 N (List.getD w0_9 (Int.toNat x5_3) zQIIIIILIE).2.2.2.2.2 (IntKind.wrap .i64 ((IntKind.wrap .i64 ((IntKind.wrap .i64 ((IntKind.wrap .i64 ((IntKind.wrap .i64 (x1_2 + (1:Int))) + (1:Int))) + (1:Int))) + (1:Int))) + (1:Int))) (fun (r53_10:Int) (z0_11:(List Int)) =>
               (L110_l2 N n_4 k2_0_12) (List.set w0_9 (Int.toNat x5_3) ((List.getD w0_9 (Int.toNat x5_3) zQIIIIILIE).1,((List.getD w0_9 (Int.toNat x5_3) zQIIIIILIE).2.1,((List.getD w0_9 (Int.toNat x5_3) zQIIIIILIE).2.2.1,((List.getD w0_9 (Int.toNat x5_3) zQIIIIILIE).2.2.2.1,((List.getD w0_9 (Int.toNat x5_3) zQIIIIILIE).2.2.2.2.1,z0_11)))))) r53_10 (IntKind.wrap .i64 (x5_3 + (1:Int))))
             else none)
           else none)
         else none)
       else none)
     else none)
   else none
  else
   k2_0_12 x0_1 x1_2
noncomputable def L110 (N:Nat) (a0:(List QIIIIILIE)) (a1:Int) (kf:Int→(List QIIIIILIE)→Option Ret):Option Ret:=
 L110_l2 N N (fun (z0_14:(List QIIIIILIE)) (z1_15:Int) =>
  kf z1_15 z0_14) a0 a1 (0:Int)
noncomputable def L111_l2 (N:Nat):Nat→((List QIILIE)→Int→Option Ret)→(List QIILIE)→Int→Int→Option Ret
 | 0,_,_,_,_=>none
 | n_4 + 1,k2_0_9,x0_1,x1_2,x5_3 =>
  bif (decide (x5_3 < (List.length x0_1:Int))) then
   bif (inB x5_3 (List.length x0_1)) then
    share (List.set x0_1 (Int.toNat x5_3) (x1_2,(List.getD x0_1 (Int.toNat x5_3) zQIILIE).2)) (fun (w0_5:(List QIILIE)) =>
     bif (inB x5_3 (List.length w0_5)) then
      share (List.set w0_5 (Int.toNat x5_3) ((List.getD w0_5 (Int.toNat x5_3) zQIILIE).1,((IntKind.wrap .i64 (x1_2 + (1:Int))),(List.getD w0_5 (Int.toNat x5_3) zQIILIE).2.2))) (fun (w0_6:(List QIILIE)) =>
       bif (inB x5_3 (List.length w0_6)) then
        L113 N (List.getD w0_6 (Int.toNat x5_3) zQIILIE).2.2 (IntKind.wrap .i64 ((IntKind.wrap .i64 (x1_2 + (1:Int))) + (1:Int))) (fun (r32_7:Int) (z0_8:(List Int)) =>
         (L111_l2 N n_4 k2_0_9) (List.set w0_6 (Int.toNat x5_3) ((List.getD w0_6 (Int.toNat x5_3) zQIILIE).1,((List.getD w0_6 (Int.toNat x5_3) zQIILIE).2.1,z0_8))) r32_7 (IntKind.wrap .i64 (x5_3 + (1:Int))))
       else none)
     else none)
   else none
  else
   k2_0_9 x0_1 x1_2
noncomputable def L111 (N:Nat) (a0:(List QIILIE)) (a1:Int) (kf:Int→(List QIILIE)→Option Ret):Option Ret:=
 L111_l2 N N (fun (z0_11:(List QIILIE)) (z1_12:Int) =>
  kf z1_12 z0_11) a0 a1 (0:Int)
noncomputable def L112_l2  : Nat→((List QIIE)→Int→Option Ret)→(List QIIE)→Int→Int→Option Ret
 | 0,_,_,_,_=>none
 | n_4 + 1,k2_0_7,x0_1,x1_2,x5_3 =>
  bif (decide (x5_3 < (List.length x0_1:Int))) then
   bif (inB x5_3 (List.length x0_1)) then
    share (List.set x0_1 (Int.toNat x5_3) (x1_2,(List.getD x0_1 (Int.toNat x5_3) zQIIE).2)) (fun (w0_5:(List QIIE)) =>
     bif (inB x5_3 (List.length w0_5)) then
      share (List.set w0_5 (Int.toNat x5_3) ((List.getD w0_5 (Int.toNat x5_3) zQIIE).1,(IntKind.wrap .i64 (x1_2 + (1:Int))))) (fun (w0_6:(List QIIE)) =>
       (L112_l2 n_4 k2_0_7) w0_6 (IntKind.wrap .i64 ((IntKind.wrap .i64 (x1_2 + (1:Int))) + (1:Int))) (IntKind.wrap .i64 (x5_3 + (1:Int))))
     else none)
   else none
  else
   k2_0_7 x0_1 x1_2
noncomputable def L112 (N:Nat) (a0:(List QIIE)) (a1:Int) (kf:Int→(List QIIE)→Option Ret):Option Ret:=
 L112_l2 N (fun (z0_9:(List QIIE)) (z1_10:Int) =>
  kf z1_10 z0_9) a0 a1 (0:Int)
noncomputable def L114_l2  : Nat→((List QIIIE)→Int→Option Ret)→(List QIIIE)→Int→Int→Option Ret
 | 0,_,_,_,_=>none
 | n_4 + 1,k2_0_8,x0_1,x1_2,x5_3 =>
  bif (decide (x5_3 < (List.length x0_1:Int))) then
   bif (inB x5_3 (List.length x0_1)) then
    share (List.set x0_1 (Int.toNat x5_3) (x1_2,(List.getD x0_1 (Int.toNat x5_3) zQIIIE).2)) (fun (w0_5:(List QIIIE)) =>
     bif (inB x5_3 (List.length w0_5)) then
      share (List.set w0_5 (Int.toNat x5_3) ((List.getD w0_5 (Int.toNat x5_3) zQIIIE).1,((IntKind.wrap .i64 (x1_2 + (1:Int))),(List.getD w0_5 (Int.toNat x5_3) zQIIIE).2.2))) (fun (w0_6:(List QIIIE)) =>
       bif (inB x5_3 (List.length w0_6)) then
        share (List.set w0_6 (Int.toNat x5_3) ((List.getD w0_6 (Int.toNat x5_3) zQIIIE).1,((List.getD w0_6 (Int.toNat x5_3) zQIIIE).2.1,(IntKind.wrap .i64 ((IntKind.wrap .i64 (x1_2 + (1:Int))) + (1:Int)))))) (fun (w0_7:(List QIIIE)) =>
         (L114_l2 n_4 k2_0_8) w0_7 (IntKind.wrap .i64 ((IntKind.wrap .i64 ((IntKind.wrap .i64 (x1_2 + (1:Int))) + (1:Int))) + (1:Int))) (IntKind.wrap .i64 (x5_3 + (1:Int))))
       else none)
     else none)
   else none
  else
   k2_0_8 x0_1 x1_2
noncomputable def L114 (N:Nat) (a0:(List QIIIE)) (a1:Int) (kf:Int→(List QIIIE)→Option Ret):Option Ret:=
 L114_l2 N (fun (z0_10:(List QIIIE)) (z1_11:Int) =>
  kf z1_11 z0_10) a0 a1 (0:Int)
noncomputable def L115_l2  : Nat→((List QIIIIE)→Int→Option Ret)→(List QIIIIE)→Int→Int→Option Ret
 | 0,_,_,_,_=>none
 | n_4 + 1,k2_0_9,x0_1,x1_2,x5_3 =>
  bif (decide (x5_3 < (List.length x0_1:Int))) then
   bif (inB x5_3 (List.length x0_1)) then
    share (List.set x0_1 (Int.toNat x5_3) (x1_2,(List.getD x0_1 (Int.toNat x5_3) zQIIIIE).2)) (fun (w0_5:(List QIIIIE)) =>
     bif (inB x5_3 (List.length w0_5)) then
      share (List.set w0_5 (Int.toNat x5_3) ((List.getD w0_5 (Int.toNat x5_3) zQIIIIE).1,((IntKind.wrap .i64 (x1_2 + (1:Int))),(List.getD w0_5 (Int.toNat x5_3) zQIIIIE).2.2))) (fun (w0_6:(List QIIIIE)) =>
       bif (inB x5_3 (List.length w0_6)) then
        share (List.set w0_6 (Int.toNat x5_3) ((List.getD w0_6 (Int.toNat x5_3) zQIIIIE).1,((List.getD w0_6 (Int.toNat x5_3) zQIIIIE).2.1,((IntKind.wrap .i64 ((IntKind.wrap .i64 (x1_2 + (1:Int))) + (1:Int))),(List.getD w0_6 (Int.toNat x5_3) zQIIIIE).2.2.2)))) (fun (w0_7:(List QIIIIE)) =>
         bif (inB x5_3 (List.length w0_7)) then
          share (List.set w0_7 (Int.toNat x5_3) ((List.getD w0_7 (Int.toNat x5_3) zQIIIIE).1,((List.getD w0_7 (Int.toNat x5_3) zQIIIIE).2.1,((List.getD w0_7 (Int.toNat x5_3) zQIIIIE).2.2.1,(IntKind.wrap .i64 ((IntKind.wrap .i64 ((IntKind.wrap .i64 (x1_2 + (1:Int))) + (1:Int))) + (1:Int))))))) (fun (w0_8:(List QIIIIE)) =>
           (L115_l2 n_4 k2_0_9) w0_8 (IntKind.wrap .i64 ((IntKind.wrap .i64 ((IntKind.wrap .i64 ((IntKind.wrap .i64 (x1_2 + (1:Int))) + (1:Int))) + (1:Int))) + (1:Int))) (IntKind.wrap .i64 (x5_3 + (1:Int))))
         else none)
       else none)
     else none)
   else none
  else
   k2_0_9 x0_1 x1_2
noncomputable def L115 (N:Nat) (a0:(List QIIIIE)) (a1:Int) (kf:Int→(List QIIIIE)→Option Ret):Option Ret:=
 L115_l2 N (fun (z0_11:(List QIIIIE)) (z1_12:Int) =>
  kf z1_12 z0_11) a0 a1 (0:Int)
noncomputable def L25 (N:Nat) (a0:QLQIIIIILIELQIILIELQIIELILQIIIELQIIIIEIE) (a1:Int) (kf:Int→QLQIIIIILIELQIILIELQIIELILQIIIELQIIIIEIE→Option Ret):Option Ret:=
 L110 N a0.1 a1 (fun (r8_1:Int) (z2_2:(List QIIIIILIE)) =>
  L111 N a0.2.1 r8_1 (fun (r12_3:Int) (z2_4:(List QIILIE)) =>
   L112 N a0.2.2.1 r12_3 (fun (r16_5:Int) (z2_6:(List QIIE)) =>
    L113 N a0.2.2.2.1 r16_5 (fun (r20_7:Int) (z2_8:(List Int)) =>
     L114 N a0.2.2.2.2.1 r20_7 (fun (r24_9:Int) (z2_10:(List QIIIE)) =>
      L115 N a0.2.2.2.2.2.1 r24_9 (fun (r28_11:Int) (z2_12:(List QIIIIE)) =>
       kf r28_11 (z2_2,(z2_4,(z2_6,(z2_8,(z2_10,(z2_12,a0.2.2.2.2.2.2))))))))))))
noncomputable def L119_l2 (x0_1:(List Int)):Nat→(Int→Option Ret)→(Int→Option Ret)→Int→Int→Option Ret
 | 0,_,_,_,_=>none
 | n_4 + 1,k2_0_5,k2_1_6,x1_2,x5_3 =>
  bif (decide (x5_3 < (List.length x0_1:Int))) then
   bif (inB x5_3 (List.length x0_1)) then
    bif ((List.getD x0_1 (Int.toNat x5_3) (0:Int)) != x1_2) then
     k2_1_6 (-1:Int)
    else
     (L119_l2 x0_1 n_4 k2_0_5 k2_1_6) (IntKind.wrap .i64 (x1_2 + (1:Int))) (IntKind.wrap .i64 (x5_3 + (1:Int)))
   else none
  else
   k2_0_5 x1_2
noncomputable def L119 (N:Nat) (a0:(List Int)) (a1:Int) (kf:Int→Option Ret):Option Ret:=
 L119_l2 a0 N kf kf a1 (0:Int)
noncomputable def L116_l2 (N:Nat) (x0_1:(List QIIIIILIE)):Nat→(Int→Option Ret)→(Int→Option Ret)→Int→Int→Option Ret
 | 0,_,_,_,_=>none
 | n_4 + 1,k2_0_6,k2_1_7,x1_2,x5_3 =>
  bif (decide (x5_3 < (List.length x0_1:Int))) then
   bif (inB x5_3 (List.length x0_1)) then
    bif ((List.getD x0_1 (Int.toNat x5_3) zQIIIIILIE).1 != x1_2) then
     k2_1_7 (-1:Int)
    else
     bif (inB x5_3 (List.length x0_1)) then
      bif ((List.getD x0_1 (Int.toNat x5_3) zQIIIIILIE).2.1 != (IntKind.wrap .i64 (x1_2 + (1:Int)))) then
       k2_1_7 (-1:Int)
      else
       bif (inB x5_3 (List.length x0_1)) then
        bif ((List.getD x0_1 (Int.toNat x5_3) zQIIIIILIE).2.2.1 != (IntKind.wrap .i64 ((IntKind.wrap .i64 (x1_2 + (1:Int))) + (1:Int)))) then
         k2_1_7 (-1:Int)
        else
         bif (inB x5_3 (List.length x0_1)) then
          bif ((List.getD x0_1 (Int.toNat x5_3) zQIIIIILIE).2.2.2.1 != (IntKind.wrap .i64 ((IntKind.wrap .i64 ((IntKind.wrap .i64 (x1_2 + (1:Int))) + (1:Int))) + (1:Int)))) then
           k2_1_7 (-1:Int)
          else
           bif (inB x5_3 (List.length x0_1)) then
            bif ((List.getD x0_1 (Int.toNat x5_3) zQIIIIILIE).2.2.2.2.1 != (IntKind.wrap .i64 ((IntKind.wrap .i64 ((IntKind.wrap .i64 ((IntKind.wrap .i64 (x1_2 + (1:Int))) + (1:Int))) + (1:Int))) + (1:Int)))) then
             k2_1_7 (-1:Int)
            else
             bif (inB x5_3 (List.length x0_1)) then
              L119 N (List.getD x0_1 (Int.toNat x5_3) zQIIIIILIE).2.2.2.2.2 (IntKind.wrap .i64 ((IntKind.wrap .i64 ((IntKind.wrap .i64 ((IntKind.wrap .i64 ((IntKind.wrap .i64 (x1_2 + (1:Int))) + (1:Int))) + (1:Int))) + (1:Int))) + (1:Int))) (fun (r63_5:Int) =>
               bif (decide (r63_5 < (0:Int))) then
                k2_1_7 (-1:Int)
               else
                (L116_l2 N x0_1 n_4 k2_0_6 k2_1_7) r63_5 (IntKind.wrap .i64 (x5_3 + (1:Int))))
             else none
           else none
         else none
       else none
     else none
   else none
  else
   k2_0_6 x1_2
noncomputable def L116 (N:Nat) (a0:(List QIIIIILIE)) (a1:Int) (kf:Int→Option Ret):Option Ret:=
 L116_l2 N a0 N kf kf a1 (0:Int)
noncomputable def L117_l2 (N:Nat) (x0_1:(List QIILIE)):Nat→(Int→Option Ret)→(Int→Option Ret)→Int→Int→Option Ret
 | 0,_,_,_,_=>none
 | n_4 + 1,k2_0_6,k2_1_7,x1_2,x5_3 =>
  bif (decide (x5_3 < (List.length x0_1:Int))) then
   bif (inB x5_3 (List.length x0_1)) then
    bif ((List.getD x0_1 (Int.toNat x5_3) zQIILIE).1 != x1_2) then
     k2_1_7 (-1:Int)
    else
     bif (inB x5_3 (List.length x0_1)) then
      bif ((List.getD x0_1 (Int.toNat x5_3) zQIILIE).2.1 != (IntKind.wrap .i64 (x1_2 + (1:Int)))) then
       k2_1_7 (-1:Int)
      else
       bif (inB x5_3 (List.length x0_1)) then
        L119 N (List.getD x0_1 (Int.toNat x5_3) zQIILIE).2.2 (IntKind.wrap .i64 ((IntKind.wrap .i64 (x1_2 + (1:Int))) + (1:Int))) (fun (r36_5:Int) =>
         bif (decide (r36_5 < (0:Int))) then
          k2_1_7 (-1:Int)
         else
          (L117_l2 N x0_1 n_4 k2_0_6 k2_1_7) r36_5 (IntKind.wrap .i64 (x5_3 + (1:Int))))
       else none
     else none
   else none
  else
   k2_0_6 x1_2
noncomputable def L117 (N:Nat) (a0:(List QIILIE)) (a1:Int) (kf:Int→Option Ret):Option Ret:=
 L117_l2 N a0 N kf kf a1 (0:Int)
noncomputable def L118_l2 (x0_1:(List QIIE)):Nat→(Int→Option Ret)→(Int→Option Ret)→Int→Int→Option Ret
 | 0,_,_,_,_=>none
 | n_4 + 1,k2_0_5,k2_1_6,x1_2,x5_3 =>
  bif (decide (x5_3 < (List.length x0_1:Int))) then
   bif (inB x5_3 (List.length x0_1)) then
    bif ((List.getD x0_1 (Int.toNat x5_3) zQIIE).1 != x1_2) then
     k2_1_6 (-1:Int)
    else
     bif (inB x5_3 (List.length x0_1)) then
      bif ((List.getD x0_1 (Int.toNat x5_3) zQIIE).2 != (IntKind.wrap .i64 (x1_2 + (1:Int)))) then
       k2_1_6 (-1:Int)
      else
       (L118_l2 x0_1 n_4 k2_0_5 k2_1_6) (IntKind.wrap .i64 ((IntKind.wrap .i64 (x1_2 + (1:Int))) + (1:Int))) (IntKind.wrap .i64 (x5_3 + (1:Int)))
     else none
   else none
  else
   k2_0_5 x1_2
noncomputable def L118 (N:Nat) (a0:(List QIIE)) (a1:Int) (kf:Int→Option Ret):Option Ret:=
 L118_l2 a0 N kf kf a1 (0:Int)
noncomputable def L120_l2 (x0_1:(List QIIIE)):Nat→(Int→Option Ret)→(Int→Option Ret)→Int→Int→Option Ret
 | 0,_,_,_,_=>none
 | n_4 + 1,k2_0_5,k2_1_6,x1_2,x5_3 =>
  bif (decide (x5_3 < (List.length x0_1:Int))) then
   bif (inB x5_3 (List.length x0_1)) then
    bif ((List.getD x0_1 (Int.toNat x5_3) zQIIIE).1 != x1_2) then
     k2_1_6 (-1:Int)
    else
     bif (inB x5_3 (List.length x0_1)) then
      bif ((List.getD x0_1 (Int.toNat x5_3) zQIIIE).2.1 != (IntKind.wrap .i64 (x1_2 + (1:Int)))) then
       k2_1_6 (-1:Int)
      else
       bif (inB x5_3 (List.length x0_1)) then
        bif ((List.getD x0_1 (Int.toNat x5_3) zQIIIE).2.2 != (IntKind.wrap .i64 ((IntKind.wrap .i64 (x1_2 + (1:Int))) + (1:Int)))) then
         k2_1_6 (-1:Int)
        else
         (L120_l2 x0_1 n_4 k2_0_5 k2_1_6) (IntKind.wrap .i64 ((IntKind.wrap .i64 ((IntKind.wrap .i64 (x1_2 + (1:Int))) + (1:Int))) + (1:Int))) (IntKind.wrap .i64 (x5_3 + (1:Int)))
       else none
     else none
   else none
  else
   k2_0_5 x1_2
noncomputable def L120 (N:Nat) (a0:(List QIIIE)) (a1:Int) (kf:Int→Option Ret):Option Ret:=
 L120_l2 a0 N kf kf a1 (0:Int)
noncomputable def L121_l2 (x0_1:(List QIIIIE)):Nat→(Int→Option Ret)→(Int→Option Ret)→Int→Int→Option Ret
 | 0,_,_,_,_=>none
 | n_4 + 1,k2_0_5,k2_1_6,x1_2,x5_3 =>
  bif (decide (x5_3 < (List.length x0_1:Int))) then
   bif (inB x5_3 (List.length x0_1)) then
    bif ((List.getD x0_1 (Int.toNat x5_3) zQIIIIE).1 != x1_2) then
     k2_1_6 (-1:Int)
    else
     bif (inB x5_3 (List.length x0_1)) then
      bif ((List.getD x0_1 (Int.toNat x5_3) zQIIIIE).2.1 != (IntKind.wrap .i64 (x1_2 + (1:Int)))) then
       k2_1_6 (-1:Int)
      else
       bif (inB x5_3 (List.length x0_1)) then
        bif ((List.getD x0_1 (Int.toNat x5_3) zQIIIIE).2.2.1 != (IntKind.wrap .i64 ((IntKind.wrap .i64 (x1_2 + (1:Int))) + (1:Int)))) then
         k2_1_6 (-1:Int)
        else
         bif (inB x5_3 (List.length x0_1)) then
          bif ((List.getD x0_1 (Int.toNat x5_3) zQIIIIE).2.2.2 != (IntKind.wrap .i64 ((IntKind.wrap .i64 ((IntKind.wrap .i64 (x1_2 + (1:Int))) + (1:Int))) + (1:Int)))) then
           k2_1_6 (-1:Int)
          else
           (L121_l2 x0_1 n_4 k2_0_5 k2_1_6) (IntKind.wrap .i64 ((IntKind.wrap .i64 ((IntKind.wrap .i64 ((IntKind.wrap .i64 (x1_2 + (1:Int))) + (1:Int))) + (1:Int))) + (1:Int))) (IntKind.wrap .i64 (x5_3 + (1:Int)))
         else none
       else none
     else none
   else none
  else
   k2_0_5 x1_2
noncomputable def L121 (N:Nat) (a0:(List QIIIIE)) (a1:Int) (kf:Int→Option Ret):Option Ret:=
 L121_l2 a0 N kf kf a1 (0:Int)
noncomputable def L26 (N:Nat) (a0:QLQIIIIILIELQIILIELQIIELILQIIIELQIIIIEIE) (a1:Int) (kf:Int→Option Ret):Option Ret:=
 L116 N a0.1 a1 (fun (r8_1:Int) =>
  bif (decide (r8_1 < (0:Int))) then
   kf (-1:Int)
  else
   L117 N a0.2.1 r8_1 (fun (r14_2:Int) =>
    bif (decide (r14_2 < (0:Int))) then
     kf (-1:Int)
    else
     L118 N a0.2.2.1 r14_2 (fun (r20_3:Int) =>
      bif (decide (r20_3 < (0:Int))) then
       kf (-1:Int)
      else
       L119 N a0.2.2.2.1 r20_3 (fun (r26_4:Int) =>
        bif (decide (r26_4 < (0:Int))) then
         kf (-1:Int)
        else
         L120 N a0.2.2.2.2.1 r26_4 (fun (r32_5:Int) =>
          bif (decide (r32_5 < (0:Int))) then
           kf (-1:Int)
          else
           L121 N a0.2.2.2.2.2.1 r32_5 (fun (r38_6:Int) =>
            bif (decide (r38_6 < (0:Int))) then
             kf (-1:Int)
            else
             kf r38_6))))))
noncomputable def S123_l4 (x1_1:QLQIIIIILIELQIILIELQIIELILQIIIELQIIIIEIE) (x4_3:QIIIE):Nat→((List Int)→Option Ret)→(List Int)→Int→Option Ret
 | 0,_,_,_=>none
 | n_5 + 1,k4_0_7,x3_2,x5_4 =>
  bif (decide (x5_4 < (List.length x1_1.2.2.2.2.1:Int))) then
   bif (inB x5_4 (List.length x1_1.2.2.2.2.1)) then
    bif ((decide (((List.getD x1_1.2.2.2.2.1 (Int.toNat x5_4) zQIIIE).1:Int)=x4_3.1)) && ((decide (((List.getD x1_1.2.2.2.2.1 (Int.toNat x5_4) zQIIIE).2.1:Int)=x4_3.2.1)) && (decide (((List.getD x1_1.2.2.2.2.1 (Int.toNat x5_4) zQIIIE).2.2:Int)=x4_3.2.2)))) then
     bif (decide ((List.length x3_2 + List.length [x5_4]) * 1≤4398046511104)) then
      (S123_l4 x1_1 x4_3 n_5 k4_0_7) (x3_2 ++ [x5_4]) (IntKind.wrap .i64 (x5_4 + (1:Int)))
     else none
    else
     (S123_l4 x1_1 x4_3 n_5 k4_0_7) x3_2 (IntKind.wrap .i64 (x5_4 + (1:Int)))
   else none
  else
   k4_0_7 x3_2
noncomputable def S123 (N:Nat) (a0:QLQIIIIILIELQIILIELQIIELILQIIIELQIIIIEIE) (kf:(List Int)→Option Ret):Option Ret:=
 S123_l4 a0 ((0:Int),((0:Int),(0:Int))) N kf ([]:(List Int)) (0:Int)
noncomputable def S201_l2 (N:Nat) (x0_1:(List QIIIE)):Nat→(Option Ret)→(Bool→Option Ret)→Int→Option Ret
 | 0,_,_,_=>none
 | n_3 + 1,k2_0_5,k2_1_6,x3_2 =>
  bif (decide (x3_2 < (List.length x0_1:Int))) then
   bif (inB x3_2 (List.length x0_1)) then
    S199 N (List.getD x0_1 (Int.toNat x3_2) zQIIIE) (fun (r14_4:Bool) =>
     bif (!r14_4) then
      k2_1_6 false
     else
      bif (decide (x3_2 > (0:Int))) then
       bif (inB (IntKind.wrap .i64 (x3_2 - (1:Int))) (List.length x0_1)) then
        bif (inB x3_2 (List.length x0_1)) then
         bif (decide ((List.getD x0_1 (Int.toNat (IntKind.wrap .i64 (x3_2 - (1:Int)))) zQIIIE).1 ≥ (List.getD x0_1 (Int.toNat x3_2) zQIIIE).1)) then
          k2_1_6 false
         else
          (S201_l2 N x0_1 n_3 k2_0_5 k2_1_6) (IntKind.wrap .i64 (x3_2 + (1:Int)))
        else none
       else none
      else
       (S201_l2 N x0_1 n_3 k2_0_5 k2_1_6) (IntKind.wrap .i64 (x3_2 + (1:Int))))
   else none
  else
   k2_0_5
noncomputable def S201 (N:Nat) (a0:(List QIIIE)) (kf:Bool→Option Ret):Option Ret:=
 S201_l2 N a0 N (kf (decide ((List.length a0:Int)≤(9:Int)))) kf (0:Int)
noncomputable def S204 (N:Nat) (a0:QIIIE) (kf:Int→Option Ret):Option Ret:=
 bif (decide (a0.2.1 > a0.2.2)) then
  kf (1:Int)
 else
  kf (2:Int)
noncomputable def S202_l3 (N:Nat) (x0_1:(List QIIIE)) (x1_2:Int):Nat→(Int→Option Ret)→Int→Int→Option Ret
 | 0,_,_,_=>none
 | n_5 + 1,k3_0_9,x5_3,x6_4 =>
  bif (decide (x6_4 < (List.length x0_1:Int))) then
   S201 N x0_1 (fun (r13_6:Bool) =>
    bif r13_6 then
     bif (inB x6_4 (List.length x0_1)) then
      S204 N (List.getD x0_1 (Int.toNat x6_4) zQIIIE) (fun (r21_7:Int) =>
       bif (r21_7 == x1_2) then
        (S202_l3 N x0_1 x1_2 n_5 k3_0_9) (IntKind.wrap .i64 (x5_3 + (1:Int))) (IntKind.wrap .i64 (x6_4 + (1:Int)))
       else
        (S202_l3 N x0_1 x1_2 n_5 k3_0_9) x5_3 (IntKind.wrap .i64 (x6_4 + (1:Int))))
     else none
    else
     k3_0_9 x5_3)
  else
   k3_0_9 x5_3
noncomputable def S202 (N:Nat) (a0:(List QIIIE)) (a1:Int) (kf:Int→Option Ret):Option Ret:=
 S202_l3 N a0 a1 N kf (0:Int) (0:Int)
noncomputable def S203_l3 (N:Nat) (x0_1:(List QIIIE)) (x1_2:Int):Nat→(Int→Option Ret)→Int→Int→Option Ret
 | 0,_,_,_=>none
 | n_5 + 1,k3_0_8,x5_3,x6_4 =>
  bif (decide (x6_4 < (List.length x0_1:Int))) then
   S201 N x0_1 (fun (r13_6:Bool) =>
    bif r13_6 then
     bif (x1_2 == (1:Int)) then
      bif (inB x6_4 (List.length x0_1)) then
       (S203_l3 N x0_1 x1_2 n_5 k3_0_8) (IntKind.wrap .i64 (x5_3 + (List.getD x0_1 (Int.toNat x6_4) zQIIIE).2.1)) (IntKind.wrap .i64 (x6_4 + (1:Int)))
      else none
     else
      bif (x1_2 == (2:Int)) then
       bif (inB x6_4 (List.length x0_1)) then
        (S203_l3 N x0_1 x1_2 n_5 k3_0_8) (IntKind.wrap .i64 (x5_3 + (List.getD x0_1 (Int.toNat x6_4) zQIIIE).2.2)) (IntKind.wrap .i64 (x6_4 + (1:Int)))
       else none
      else
       (S203_l3 N x0_1 x1_2 n_5 k3_0_8) x5_3 (IntKind.wrap .i64 (x6_4 + (1:Int)))
    else
     k3_0_8 x5_3)
  else
   k3_0_8 x5_3
noncomputable def S203 (N:Nat) (a0:(List QIIIE)) (a1:Int) (kf:Int→Option Ret):Option Ret:=
 S203_l3 N a0 a1 N kf (0:Int) (0:Int)
noncomputable def S125_j1 (N:Nat) (a0:(List QIIIE)) (kf:Int→Option Ret) (y3_6:Int):Option Ret:=
 bif (decide (y3_6 > (0:Int))) then
  kf (1:Int)
 else
  bif (decide (y3_6 < (0:Int))) then
   kf (2:Int)
  else
   bif (inB (0:Int) (List.length a0)) then
    S204 N (List.getD a0 (Int.toNat (0:Int)) zQIIIE) kf
   else none
noncomputable def S125 (N:Nat) (a0:(List QIIIE)) (kf:Int→Option Ret):Option Ret:=
 bif ((List.length a0:Int) == (0:Int)) then
  kf (0:Int)
 else
  S201 N a0 (fun (r9_1:Bool) =>
   bif (!r9_1) then
    kf (0:Int)
   else
    S202 N a0 (1:Int) (fun (r13_2:Int) =>
     S202 N a0 (2:Int) (fun (r15_3:Int) =>
      bif ((IntKind.wrap .i64 (r13_2 - r15_3)) == (0:Int)) then
       S203 N a0 (1:Int) (fun (r20_4:Int) =>
        S203 N a0 (2:Int) (fun (r22_5:Int) =>
         S125_j1 N a0 kf (IntKind.wrap .i64 (r20_4 - r22_5))))
      else
       S125_j1 N a0 kf (IntKind.wrap .i64 (r13_2 - r15_3)))))
noncomputable def S124_j1 (N:Nat) (a0:(List QIIIIILIE)) (kf:(List QIIIIILIE)→Bool→Option Ret) (y14_12:(List QIIIIILIE)):Option Ret:=
 S175 N y14_12 (fun (r136_13:Bool) =>
  bif (!r136_13) then
   S173 N a0 (fun (r139_14:(List QIIIIILIE)) =>
    kf r139_14 false)
  else
   kf y14_12 true)
noncomputable def S124 (N:Nat) (a0:(List QIIIIILIE)) (a1:Int) (a2:Int) (a3:Int) (a4:Int) (a5:Int) (kf:(List QIIIIILIE)→Bool→Option Ret):Option Ret:=
 S173 N a0 (fun (r18_1:(List QIIIIILIE)) =>
  S200 N a0 a1 (fun (r21_2:Int) =>
   S200 N a0 a2 (fun (r24_3:Int) =>
    S175 N a0 (fun (r26_4:Bool) =>
     bif (!r26_4) then
      kf r18_1 false
     else
      bif (decide (r21_2 < (0:Int))) then
       kf r18_1 false
      else
       bif (decide (r24_3 < (0:Int))) then
        kf r18_1 false
       else
        bif (r21_2 == r24_3) then
         kf r18_1 false
        else
         S195 N a3 (1:Int) (2:Int) (fun (r43_5:Bool) =>
          bif (!r43_5) then
           kf r18_1 false
          else
           S195 N a4 (0:Int) (1000:Int) (fun (r48_6:Bool) =>
            bif (!r48_6) then
             kf r18_1 false
            else
             S195 N a5 (0:Int) (1000:Int) (fun (r53_7:Bool) =>
              bif (!r53_7) then
               kf r18_1 false
              else
               bif (inB r21_2 (List.length r18_1)) then
                bif (decide ((List.length (List.getD r18_1 (Int.toNat r21_2) zQIIIIILIE).2.2.2.2.2 + List.length [a2]) * 1≤4398046511104)) then
                 bif (inB r21_2 (List.length r18_1)) then
                  bif (Nat.beq (Int.toNat r21_2) (Int.toNat r21_2)) then
                   bif (inB r24_3 (List.length (List.set r18_1 (Int.toNat r21_2) ((List.getD r18_1 (Int.toNat r21_2) zQIIIIILIE).1,((List.getD r18_1 (Int.toNat r21_2) zQIIIIILIE).2.1,((List.getD r18_1 (Int.toNat r21_2) zQIIIIILIE).2.2.1,((List.getD r18_1 (Int.toNat r21_2) zQIIIIILIE).2.2.2.1,((List.getD r18_1 (Int.toNat r21_2) zQIIIIILIE).2.2.2.2.1,((List.getD r18_1 (Int.toNat r21_2) zQIIIIILIE).2.2.2.2.2 ++ [a2]))))))))) then
                    bif (decide ((List.length (List.getD (List.set r18_1 (Int.toNat r21_2) ((List.getD r18_1 (Int.toNat r21_2) zQIIIIILIE).1,((List.getD r18_1 (Int.toNat r21_2) zQIIIIILIE).2.1,((List.getD r18_1 (Int.toNat r21_2) zQIIIIILIE).2.2.1,((List.getD r18_1 (Int.toNat r21_2) zQIIIIILIE).2.2.2.1,((List.getD r18_1 (Int.toNat r21_2) zQIIIIILIE).2.2.2.2.1,((List.getD r18_1 (Int.toNat r21_2) zQIIIIILIE).2.2.2.2.2 ++ [a2]))))))) (Int.toNat r24_3) zQIIIIILIE).2.2.2.2.2 + List.length [a1]) * 1≤4398046511104)) then
                     bif (inB r24_3 (List.length (List.set r18_1 (Int.toNat r21_2) ((List.getD r18_1 (Int.toNat r21_2) zQIIIIILIE).1,((List.getD r18_1 (Int.toNat r21_2) zQIIIIILIE).2.1,((List.getD r18_1 (Int.toNat r21_2) zQIIIIILIE).2.2.1,((List.getD r18_1 (Int.toNat r21_2) zQIIIIILIE).2.2.2.1,((List.getD r18_1 (Int.toNat r21_2) zQIIIIILIE).2.2.2.2.1,((List.getD r18_1 (Int.toNat r21_2) zQIIIIILIE).2.2.2.2.2 ++ [a2]))))))))) then
                      bif (Nat.beq (Int.toNat r24_3) (Int.toNat r24_3)) then
                       share (List.set (List.set r18_1 (Int.toNat r21_2) ((List.getD r18_1 (Int.toNat r21_2) zQIIIIILIE).1,((List.getD r18_1 (Int.toNat r21_2) zQIIIIILIE).2.1,((List.getD r18_1 (Int.toNat r21_2) zQIIIIILIE).2.2.1,((List.getD r18_1 (Int.toNat r21_2) zQIIIIILIE).2.2.2.1,((List.getD r18_1 (Int.toNat r21_2) zQIIIIILIE).2.2.2.2.1,((List.getD r18_1 (Int.toNat r21_2) zQIIIIILIE).2.2.2.2.2 ++ [a2]))))))) (Int.toNat r24_3) ((List.getD (List.set r18_1 (Int.toNat r21_2) ((List.getD r18_1 (Int.toNat r21_2) zQIIIIILIE).1,((List.getD r18_1 (Int.toNat r21_2) zQIIIIILIE).2.1,((List.getD r18_1 (Int.toNat r21_2) zQIIIIILIE).2.2.1,((List.getD r18_1 (Int.toNat r21_2) zQIIIIILIE).2.2.2.1,((List.getD r18_1 (Int.toNat r21_2) zQIIIIILIE).2.2.2.2.1,((List.getD r18_1 (Int.toNat r21_2) zQIIIIILIE).2.2.2.2.2 ++ [a2]))))))) (Int.toNat r24_3) zQIIIIILIE).1,((List.getD (List.set r18_1 (Int.toNat r21_2) ((List.getD r18_1 (Int.toNat r21_2) zQIIIIILIE).1,((List.getD r18_1 (Int.toNat r21_2) zQIIIIILIE).2.1,((List.getD r18_1 (Int.toNat r21_2) zQIIIIILIE).2.2.1,((List.getD r18_1 (Int.toNat r21_2) zQIIIIILIE).2.2.2.1,((List.getD r18_1 (Int.toNat r21_2) zQIIIIILIE).2.2.2.2.1,((List.getD r18_1 (Int.toNat r21_2) zQIIIIILIE).2.2.2.2.2 ++ [a2]))))))) (Int.toNat r24_3) zQIIIIILIE).2.1,((List.getD (List.set r18_1 (Int.toNat r21_2) ((List.getD r18_1 (Int.toNat r21_2) zQIIIIILIE).1,((List.getD r18_1 (Int.toNat r21_2) zQIIIIILIE).2.1,((List.getD r18_1 (Int.toNat r21_2) zQIIIIILIE).2.2.1,((List.getD r18_1 (Int.toNat r21_2) zQIIIIILIE).2.2.2.1,((List.getD r18_1 (Int.toNat r21_2) zQIIIIILIE).2.2.2.2.1,((List.getD r18_1 (Int.toNat r21_2) zQIIIIILIE).2.2.2.2.2 ++ [a2]))))))) (Int.toNat r24_3) zQIIIIILIE).2.2.1,((List.getD (List.set r18_1 (Int.toNat r21_2) ((List.getD r18_1 (Int.toNat r21_2) zQIIIIILIE).1,((List.getD r18_1 (Int.toNat r21_2) zQIIIIILIE).2.1,((List.getD r18_1 (Int.toNat r21_2) zQIIIIILIE).2.2.1,((List.getD r18_1 (Int.toNat r21_2) zQIIIIILIE).2.2.2.1,((List.getD r18_1 (Int.toNat r21_2) zQIIIIILIE).2.2.2.2.1,((List.getD r18_1 (Int.toNat r21_2) zQIIIIILIE).2.2.2.2.2 ++ [a2]))))))) (Int.toNat r24_3) zQIIIIILIE).2.2.2.1,((List.getD (List.set r18_1 (Int.toNat r21_2) ((List.getD r18_1 (Int.toNat r21_2) zQIIIIILIE).1,((List.getD r18_1 (Int.toNat r21_2) zQIIIIILIE).2.1,((List.getD r18_1 (Int.toNat r21_2) zQIIIIILIE).2.2.1,((List.getD r18_1 (Int.toNat r21_2) zQIIIIILIE).2.2.2.1,((List.getD r18_1 (Int.toNat r21_2) zQIIIIILIE).2.2.2.2.1,((List.getD r18_1 (Int.toNat r21_2) zQIIIIILIE).2.2.2.2.2 ++ [a2]))))))) (Int.toNat r24_3) zQIIIIILIE).2.2.2.2.1,((List.getD (List.set r18_1 (Int.toNat r21_2) ((List.getD r18_1 (Int.toNat r21_2) zQIIIIILIE).1,((List.getD r18_1 (Int.toNat r21_2) zQIIIIILIE).2.1,((List.getD r18_1 (Int.toNat r21_2) zQIIIIILIE).2.2.1,((List.getD r18_1 (Int.toNat r21_2) zQIIIIILIE).2.2.2.1,((List.getD r18_1 (Int.toNat r21_2) zQIIIIILIE).2.2.2.2.1,((List.getD r18_1 (Int.toNat r21_2) zQIIIIILIE).2.2.2.2.2 ++ [a2]))))))) (Int.toNat r24_3) zQIIIIILIE).2.2.2.2.2 ++ [a1]))))))) (fun (w14_8:(List QIIIIILIE)) =>
                        bif (inB r21_2 (List.length w14_8)) then
                         bif (inB r21_2 (List.length w14_8)) then
                          bif (inB r21_2 (List.length (List.set w14_8 (Int.toNat r21_2) ((List.getD w14_8 (Int.toNat r21_2) zQIIIIILIE).1,((List.getD w14_8 (Int.toNat r21_2) zQIIIIILIE).2.1,((List.getD w14_8 (Int.toNat r21_2) zQIIIIILIE).2.2.1,((List.getD w14_8 (Int.toNat r21_2) zQIIIIILIE).2.2.2.1,((IntKind.wrap .i64 ((List.getD w14_8 (Int.toNat r21_2) zQIIIIILIE).2.2.2.2.1 + (1:Int))),(List.getD w14_8 (Int.toNat r21_2) zQIIIIILIE).2.2.2.2.2)))))))) then
                           bif (inB r21_2 (List.length (List.set w14_8 (Int.toNat r21_2) ((List.getD w14_8 (Int.toNat r21_2) zQIIIIILIE).1,((List.getD w14_8 (Int.toNat r21_2) zQIIIIILIE).2.1,((List.getD w14_8 (Int.toNat r21_2) zQIIIIILIE).2.2.1,((List.getD w14_8 (Int.toNat r21_2) zQIIIIILIE).2.2.2.1,((IntKind.wrap .i64 ((List.getD w14_8 (Int.toNat r21_2) zQIIIIILIE).2.2.2.2.1 + (1:Int))),(List.getD w14_8 (Int.toNat r21_2) zQIIIIILIE).2.2.2.2.2)))))))) then
                            share (List.set (List.set w14_8 (Int.toNat r21_2) ((List.getD w14_8 (Int.toNat r21_2) zQIIIIILIE).1,((List.getD w14_8 (Int.toNat r21_2) zQIIIIILIE).2.1,((List.getD w14_8 (Int.toNat r21_2) zQIIIIILIE).2.2.1,((List.getD w14_8 (Int.toNat r21_2) zQIIIIILIE).2.2.2.1,((IntKind.wrap .i64 ((List.getD w14_8 (Int.toNat r21_2) zQIIIIILIE).2.2.2.2.1 + (1:Int))),(List.getD w14_8 (Int.toNat r21_2) zQIIIIILIE).2.2.2.2.2)))))) (Int.toNat r21_2) ((List.getD (List.set w14_8 (Int.toNat r21_2) ((List.getD w14_8 (Int.toNat r21_2) zQIIIIILIE).1,((List.getD w14_8 (Int.toNat r21_2) zQIIIIILIE).2.1,((List.getD w14_8 (Int.toNat r21_2) zQIIIIILIE).2.2.1,((List.getD w14_8 (Int.toNat r21_2) zQIIIIILIE).2.2.2.1,((IntKind.wrap .i64 ((List.getD w14_8 (Int.toNat r21_2) zQIIIIILIE).2.2.2.2.1 + (1:Int))),(List.getD w14_8 (Int.toNat r21_2) zQIIIIILIE).2.2.2.2.2)))))) (Int.toNat r21_2) zQIIIIILIE).1,((List.getD (List.set w14_8 (Int.toNat r21_2) ((List.getD w14_8 (Int.toNat r21_2) zQIIIIILIE).1,((List.getD w14_8 (Int.toNat r21_2) zQIIIIILIE).2.1,((List.getD w14_8 (Int.toNat r21_2) zQIIIIILIE).2.2.1,((List.getD w14_8 (Int.toNat r21_2) zQIIIIILIE).2.2.2.1,((IntKind.wrap .i64 ((List.getD w14_8 (Int.toNat r21_2) zQIIIIILIE).2.2.2.2.1 + (1:Int))),(List.getD w14_8 (Int.toNat r21_2) zQIIIIILIE).2.2.2.2.2)))))) (Int.toNat r21_2) zQIIIIILIE).2.1,((List.getD (List.set w14_8 (Int.toNat r21_2) ((List.getD w14_8 (Int.toNat r21_2) zQIIIIILIE).1,((List.getD w14_8 (Int.toNat r21_2) zQIIIIILIE).2.1,((List.getD w14_8 (Int.toNat r21_2) zQIIIIILIE).2.2.1,((List.getD w14_8 (Int.toNat r21_2) zQIIIIILIE).2.2.2.1,((IntKind.wrap .i64 ((List.getD w14_8 (Int.toNat r21_2) zQIIIIILIE).2.2.2.2.1 + (1:Int))),(List.getD w14_8 (Int.toNat r21_2) zQIIIIILIE).2.2.2.2.2)))))) (Int.toNat r21_2) zQIIIIILIE).2.2.1,((IntKind.wrap .i64 ((List.getD (List.set w14_8 (Int.toNat r21_2) ((List.getD w14_8 (Int.toNat r21_2) zQIIIIILIE).1,((List.getD w14_8 (Int.toNat r21_2) zQIIIIILIE).2.1,((List.getD w14_8 (Int.toNat r21_2) zQIIIIILIE).2.2.1,((List.getD w14_8 (Int.toNat r21_2) zQIIIIILIE).2.2.2.1,((IntKind.wrap .i64 ((List.getD w14_8 (Int.toNat r21_2) zQIIIIILIE).2.2.2.2.1 + (1:Int))),(List.getD w14_8 (Int.toNat r21_2) zQIIIIILIE).2.2.2.2.2)))))) (Int.toNat r21_2) zQIIIIILIE).2.2.2.1 + a4)),(List.getD (List.set w14_8 (Int.toNat r21_2) ((List.getD w14_8 (Int.toNat r21_2) zQIIIIILIE).1,((List.getD w14_8 (Int.toNat r21_2) zQIIIIILIE).2.1,((List.getD w14_8 (Int.toNat r21_2) zQIIIIILIE).2.2.1,((List.getD w14_8 (Int.toNat r21_2) zQIIIIILIE).2.2.2.1,((IntKind.wrap .i64 ((List.getD w14_8 (Int.toNat r21_2) zQIIIIILIE).2.2.2.2.1 + (1:Int))),(List.getD w14_8 (Int.toNat r21_2) zQIIIIILIE).2.2.2.2.2)))))) (Int.toNat r21_2) zQIIIIILIE).2.2.2.2))))) (fun (w14_9:(List QIIIIILIE)) =>
                             bif (inB r24_3 (List.length w14_9)) then
                              bif (inB r24_3 (List.length w14_9)) then
                               bif (a3 == (1:Int)) then
                                bif (inB r21_2 (List.length (List.set w14_9 (Int.toNat r24_3) ((List.getD w14_9 (Int.toNat r24_3) zQIIIIILIE).1,((List.getD w14_9 (Int.toNat r24_3) zQIIIIILIE).2.1,((List.getD w14_9 (Int.toNat r24_3) zQIIIIILIE).2.2.1,((IntKind.wrap .i64 ((List.getD w14_9 (Int.toNat r24_3) zQIIIIILIE).2.2.2.1 + a5)),(List.getD w14_9 (Int.toNat r24_3) zQIIIIILIE).2.2.2.2))))))) then
                                 bif (inB r21_2 (List.length (List.set w14_9 (Int.toNat r24_3) ((List.getD w14_9 (Int.toNat r24_3) zQIIIIILIE).1,((List.getD w14_9 (Int.toNat r24_3) zQIIIIILIE).2.1,((List.getD w14_9 (Int.toNat r24_3) zQIIIIILIE).2.2.1,((IntKind.wrap .i64 ((List.getD w14_9 (Int.toNat r24_3) zQIIIIILIE).2.2.2.1 + a5)),(List.getD w14_9 (Int.toNat r24_3) zQIIIIILIE).2.2.2.2))))))) then
                                  share (List.set (List.set w14_9 (Int.toNat r24_3) ((List.getD w14_9 (Int.toNat r24_3) zQIIIIILIE).1,((List.getD w14_9 (Int.toNat r24_3) zQIIIIILIE).2.1,((List.getD w14_9 (Int.toNat r24_3) zQIIIIILIE).2.2.1,((IntKind.wrap .i64 ((List.getD w14_9 (Int.toNat r24_3) zQIIIIILIE).2.2.2.1 + a5)),(List.getD w14_9 (Int.toNat r24_3) zQIIIIILIE).2.2.2.2))))) (Int.toNat r21_2) ((List.getD (List.set w14_9 (Int.toNat r24_3) ((List.getD w14_9 (Int.toNat r24_3) zQIIIIILIE).1,((List.getD w14_9 (Int.toNat r24_3) zQIIIIILIE).2.1,((List.getD w14_9 (Int.toNat r24_3) zQIIIIILIE).2.2.1,((IntKind.wrap .i64 ((List.getD w14_9 (Int.toNat r24_3) zQIIIIILIE).2.2.2.1 + a5)),(List.getD w14_9 (Int.toNat r24_3) zQIIIIILIE).2.2.2.2))))) (Int.toNat r21_2) zQIIIIILIE).1,((List.getD (List.set w14_9 (Int.toNat r24_3) ((List.getD w14_9 (Int.toNat r24_3) zQIIIIILIE).1,((List.getD w14_9 (Int.toNat r24_3) zQIIIIILIE).2.1,((List.getD w14_9 (Int.toNat r24_3) zQIIIIILIE).2.2.1,((IntKind.wrap .i64 ((List.getD w14_9 (Int.toNat r24_3) zQIIIIILIE).2.2.2.1 + a5)),(List.getD w14_9 (Int.toNat r24_3) zQIIIIILIE).2.2.2.2))))) (Int.toNat r21_2) zQIIIIILIE).2.1,((IntKind.wrap .i64 ((List.getD (List.set w14_9 (Int.toNat r24_3) ((List.getD w14_9 (Int.toNat r24_3) zQIIIIILIE).1,((List.getD w14_9 (Int.toNat r24_3) zQIIIIILIE).2.1,((List.getD w14_9 (Int.toNat r24_3) zQIIIIILIE).2.2.1,((IntKind.wrap .i64 ((List.getD w14_9 (Int.toNat r24_3) zQIIIIILIE).2.2.2.1 + a5)),(List.getD w14_9 (Int.toNat r24_3) zQIIIIILIE).2.2.2.2))))) (Int.toNat r21_2) zQIIIIILIE).2.2.1 + (1:Int))),(List.getD (List.set w14_9 (Int.toNat r24_3) ((List.getD w14_9 (Int.toNat r24_3) zQIIIIILIE).1,((List.getD w14_9 (Int.toNat r24_3) zQIIIIILIE).2.1,((List.getD w14_9 (Int.toNat r24_3) zQIIIIILIE).2.2.1,((IntKind.wrap .i64 ((List.getD w14_9 (Int.toNat r24_3) zQIIIIILIE).2.2.2.1 + a5)),(List.getD w14_9 (Int.toNat r24_3) zQIIIIILIE).2.2.2.2))))) (Int.toNat r21_2) zQIIIIILIE).2.2.2)))) (fun (w14_10:(List QIIIIILIE)) =>
                                   S124_j1 N a0 kf w14_10)
                                 else none
                                else none
                               else
                                bif (inB r24_3 (List.length (List.set w14_9 (Int.toNat r24_3) ((List.getD w14_9 (Int.toNat r24_3) zQIIIIILIE).1,((List.getD w14_9 (Int.toNat r24_3) zQIIIIILIE).2.1,((List.getD w14_9 (Int.toNat r24_3) zQIIIIILIE).2.2.1,((IntKind.wrap .i64 ((List.getD w14_9 (Int.toNat r24_3) zQIIIIILIE).2.2.2.1 + a5)),(List.getD w14_9 (Int.toNat r24_3) zQIIIIILIE).2.2.2.2))))))) then
                                 bif (inB r24_3 (List.length (List.set w14_9 (Int.toNat r24_3) ((List.getD w14_9 (Int.toNat r24_3) zQIIIIILIE).1,((List.getD w14_9 (Int.toNat r24_3) zQIIIIILIE).2.1,((List.getD w14_9 (Int.toNat r24_3) zQIIIIILIE).2.2.1,((IntKind.wrap .i64 ((List.getD w14_9 (Int.toNat r24_3) zQIIIIILIE).2.2.2.1 + a5)),(List.getD w14_9 (Int.toNat r24_3) zQIIIIILIE).2.2.2.2))))))) then
                                  share (List.set (List.set w14_9 (Int.toNat r24_3) ((List.getD w14_9 (Int.toNat r24_3) zQIIIIILIE).1,((List.getD w14_9 (Int.toNat r24_3) zQIIIIILIE).2.1,((List.getD w14_9 (Int.toNat r24_3) zQIIIIILIE).2.2.1,((IntKind.wrap .i64 ((List.getD w14_9 (Int.toNat r24_3) zQIIIIILIE).2.2.2.1 + a5)),(List.getD w14_9 (Int.toNat r24_3) zQIIIIILIE).2.2.2.2))))) (Int.toNat r24_3) ((List.getD (List.set w14_9 (Int.toNat r24_3) ((List.getD w14_9 (Int.toNat r24_3) zQIIIIILIE).1,((List.getD w14_9 (Int.toNat r24_3) zQIIIIILIE).2.1,((List.getD w14_9 (Int.toNat r24_3) zQIIIIILIE).2.2.1,((IntKind.wrap .i64 ((List.getD w14_9 (Int.toNat r24_3) zQIIIIILIE).2.2.2.1 + a5)),(List.getD w14_9 (Int.toNat r24_3) zQIIIIILIE).2.2.2.2))))) (Int.toNat r24_3) zQIIIIILIE).1,((List.getD (List.set w14_9 (Int.toNat r24_3) ((List.getD w14_9 (Int.toNat r24_3) zQIIIIILIE).1,((List.getD w14_9 (Int.toNat r24_3) zQIIIIILIE).2.1,((List.getD w14_9 (Int.toNat r24_3) zQIIIIILIE).2.2.1,((IntKind.wrap .i64 ((List.getD w14_9 (Int.toNat r24_3) zQIIIIILIE).2.2.2.1 + a5)),(List.getD w14_9 (Int.toNat r24_3) zQIIIIILIE).2.2.2.2))))) (Int.toNat r24_3) zQIIIIILIE).2.1,((IntKind.wrap .i64 ((List.getD (List.set w14_9 (Int.toNat r24_3) ((List.getD w14_9 (Int.toNat r24_3) zQIIIIILIE).1,((List.getD w14_9 (Int.toNat r24_3) zQIIIIILIE).2.1,((List.getD w14_9 (Int.toNat r24_3) zQIIIIILIE).2.2.1,((IntKind.wrap .i64 ((List.getD w14_9 (Int.toNat r24_3) zQIIIIILIE).2.2.2.1 + a5)),(List.getD w14_9 (Int.toNat r24_3) zQIIIIILIE).2.2.2.2))))) (Int.toNat r24_3) zQIIIIILIE).2.2.1 + (1:Int))),(List.getD (List.set w14_9 (Int.toNat r24_3) ((List.getD w14_9 (Int.toNat r24_3) zQIIIIILIE).1,((List.getD w14_9 (Int.toNat r24_3) zQIIIIILIE).2.1,((List.getD w14_9 (Int.toNat r24_3) zQIIIIILIE).2.2.1,((IntKind.wrap .i64 ((List.getD w14_9 (Int.toNat r24_3) zQIIIIILIE).2.2.2.1 + a5)),(List.getD w14_9 (Int.toNat r24_3) zQIIIIILIE).2.2.2.2))))) (Int.toNat r24_3) zQIIIIILIE).2.2.2)))) (fun (w14_11:(List QIIIIILIE)) =>
                                   S124_j1 N a0 kf w14_11)
                                 else none
                                else none
                              else none
                             else none)
                           else none
                          else none
                         else none
                        else none)
                      else none
                     else none
                    else none
                   else none
                  else none
                 else none
                else none
               else none)))))))
noncomputable def S127_j1 (a0:(List Int)) (a1:Int) (kf:(List Int)→Option Ret) (z5_7:Int):Option Ret:=
 bif (decide ((0:Int)≤(0:Int)) && decide ((0:Int)≤z5_7) && decide (z5_7≤(List.length a0:Int))) then
  bif (decide ((0:Int)≤z5_7) && decide (z5_7≤(List.length a0:Int)) && decide ((List.length a0:Int)≤(List.length a0:Int))) then
   bif (decide ((List.length ([]:(List Int)) + List.length (List.drop (Int.toNat (0:Int)) (List.take (Int.toNat z5_7) a0))) * 1≤4398046511104)) then
    bif (decide ((List.length (([]:(List Int)) ++ (List.drop (Int.toNat (0:Int)) (List.take (Int.toNat z5_7) a0))) + List.length [a1]) * 1≤4398046511104)) then
     bif (decide ((List.length ((([]:(List Int)) ++ (List.drop (Int.toNat (0:Int)) (List.take (Int.toNat z5_7) a0))) ++ [a1]) + List.length (List.drop (Int.toNat z5_7) (List.take (Int.toNat (List.length a0:Int)) a0))) * 1≤4398046511104)) then
      kf (((([]:(List Int)) ++ (List.drop (Int.toNat (0:Int)) (List.take (Int.toNat z5_7) a0))) ++ [a1]) ++ (List.drop (Int.toNat z5_7) (List.take (Int.toNat (List.length a0:Int)) a0)))
     else none
    else none
   else none
  else none
 else none
noncomputable def S127_l2 (x0_1:(List Int)) (x1_2:Int):Nat→(Int→Option Ret)→Int→Option Ret
 | 0,_,_=>none
 | n_4 + 1,k2_0_5,x5_3 =>
  bif (decide (x5_3 < (List.length x0_1:Int))) then
   bif (inB x5_3 (List.length x0_1)) then
    bif (decide ((List.getD x0_1 (Int.toNat x5_3) (0:Int)) < x1_2)) then
     (S127_l2 x0_1 x1_2 n_4 k2_0_5) (IntKind.wrap .i64 (x5_3 + (1:Int)))
    else
     k2_0_5 x5_3
   else none
  else
   k2_0_5 x5_3
noncomputable def S127 (N:Nat) (a0:(List Int)) (a1:Int) (kf:(List Int)→Option Ret):Option Ret:=
 S127_l2 a0 a1 N (fun (z5_7:Int) =>
  bif (decide (z5_7 < (List.length a0:Int))) then
   bif (inB z5_7 (List.length a0)) then
    bif ((List.getD a0 (Int.toNat z5_7) (0:Int)) == a1) then
     bif (decide ((List.length ([]:(List Int)) + List.length a0) * 1≤4398046511104)) then
      kf (([]:(List Int)) ++ a0)
     else none
    else
     S127_j1 a0 a1 kf z5_7
   else none
  else
   S127_j1 a0 a1 kf z5_7) (0:Int)
noncomputable def S27_l6 (N:Nat) (x1_5:QLQIIIIILIELQIILIELQIIELILQIIIELQIIIIEIE) (x2_6:QLQIIIIILIELQIILIELQIIELILQIIIELQIIIIEIE):Nat→(QLQIIIIILIELQIILIELQIIELILQIIIELQIIIIEIE→Bool→Option Ret)→QLQIIIIILIELQIILIELQIIELILQIIIELQIIIIEIE→Bool→Int→Option Ret
 | 0,_,_,_,_=>none
 | n_10 + 1,k6_0_20,x4_7,x5_8,x6_9 =>
  bif (decide (x6_9 < (List.length x1_5.2.2.1:Int))) then
   bif (inB x6_9 (List.length x1_5.2.2.2.2.1)) then
    bif (inB x6_9 (List.length x1_5.2.2.1)) then
     bif (inB x6_9 (List.length x1_5.2.2.1)) then
      S125 N [(List.getD x1_5.2.2.2.2.1 (Int.toNat x6_9) zQIIIE)] (fun (r57_11:Int) =>
       S124 N x4_7.1 (List.getD x1_5.2.2.1 (Int.toNat x6_9) zQIIE).1 (List.getD x1_5.2.2.1 (Int.toNat x6_9) zQIIE).2 r57_11 (List.getD x1_5.2.2.2.2.1 (Int.toNat x6_9) zQIIIE).2.1 (List.getD x1_5.2.2.2.2.1 (Int.toNat x6_9) zQIIIE).2.2 (fun (r62_12:(List QIIIIILIE)) (r62_13:Bool) =>
        bif x5_8 then
         bif (inB x6_9 (List.length x1_5.2.2.2.1)) then
          S126 N x4_7.2.1 (List.getD x1_5.2.2.2.1 (Int.toNat x6_9) (0:Int)) (fun (r78_14:Int) =>
           bif (inB r78_14 (List.length x4_7.2.1)) then
            bif (inB x6_9 (List.length x1_5.2.2.1)) then
             bif (inB x6_9 (List.length x1_5.2.2.1)) then
              S127 N (List.getD x4_7.2.1 (Int.toNat r78_14) zQIILIE).2.2 (List.getD x1_5.2.2.1 (Int.toNat x6_9) zQIIE).1 (fun (r94_15:(List Int)) =>
               S127 N r94_15 (List.getD x1_5.2.2.1 (Int.toNat x6_9) zQIIE).2 (fun (r101_16:(List Int)) =>
                bif (inB r78_14 (List.length x4_7.2.1)) then
                 (S27_l6 N x1_5 x2_6 n_10 k6_0_20) (r62_12,((List.set x4_7.2.1 (Int.toNat r78_14) ((List.getD x4_7.2.1 (Int.toNat r78_14) zQIILIE).1,((List.getD x4_7.2.1 (Int.toNat r78_14) zQIILIE).2.1,r101_16))),x4_7.2.2)) r62_13 (IntKind.wrap .i64 (x6_9 + (1:Int)))
                else none))
             else none
            else none
           else none)
         else none
        else
         bif (inB x6_9 (List.length x1_5.2.2.2.1)) then
          S126 N x4_7.2.1 (List.getD x1_5.2.2.2.1 (Int.toNat x6_9) (0:Int)) (fun (r78_17:Int) =>
           bif (inB r78_17 (List.length x4_7.2.1)) then
            bif (inB x6_9 (List.length x1_5.2.2.1)) then
             bif (inB x6_9 (List.length x1_5.2.2.1)) then
              S127 N (List.getD x4_7.2.1 (Int.toNat r78_17) zQIILIE).2.2 (List.getD x1_5.2.2.1 (Int.toNat x6_9) zQIIE).1 (fun (r94_18:(List Int)) =>
               S127 N r94_18 (List.getD x1_5.2.2.1 (Int.toNat x6_9) zQIIE).2 (fun (r101_19:(List Int)) =>
                bif (inB r78_17 (List.length x4_7.2.1)) then
                 (S27_l6 N x1_5 x2_6 n_10 k6_0_20) (r62_12,((List.set x4_7.2.1 (Int.toNat r78_17) ((List.getD x4_7.2.1 (Int.toNat r78_17) zQIILIE).1,((List.getD x4_7.2.1 (Int.toNat r78_17) zQIILIE).2.1,r101_19))),x4_7.2.2)) false (IntKind.wrap .i64 (x6_9 + (1:Int)))
                else none))
             else none
            else none
           else none)
         else none))
     else none
    else none
   else none
  else
   k6_0_20 x4_7 x5_8
noncomputable def S27 (N:Nat) (a0:QLQIIIIILIELQIILIELQIIELILQIIIELQIIIIEIE) (kf:QLQIIIIILIELQIILIELQIIELILQIIIELQIIIIEIE→Bool→Option Ret):Option Ret:=
 S90 N a0 (fun (r12_1:QLQIIIIILIELQIILIELQIIELILQIIIELQIIIIEIE) =>
  S122 N a0 (fun (r14_2:Bool) =>
   bif (!r14_2) then
    kf r12_1 false
   else
    S94 N a0 (fun (r18_3:Bool) =>
     bif (!r18_3) then
      kf r12_1 false
     else
      S123 N a0 (fun (r23_4:(List Int)) =>
       bif (decide ((List.length r23_4:Int) > (0:Int))) then
        kf r12_1 false
       else
        S27_l6 N a0 (([]:(List QIIIIILIE)),(([]:(List QIILIE)),(([]:(List QIIE)),(([]:(List Int)),(([]:(List QIIIE)),(([]:(List QIIIIE)),(0:Int))))))) N (fun (z4_22:QLQIIIIILIELQIILIELQIIELILQIIIELQIIIIEIE) (z5_23:Bool) =>
         S93 N a0 (z4_22.1,(z4_22.2.1,(([]:(List QIIE)),(([]:(List Int)),(([]:(List QIIIE)),(z4_22.2.2.2.2.2.1,(IntKind.wrap .i64 (a0.2.2.2.2.2.2 + (List.length a0.2.2.1:Int))))))))) z5_23 (5:Int) (0:Int) kf) r12_1 true (0:Int)))))
noncomputable def I41_l3 (x8_2:(List QIIIE)) (x9_3:Int):Nat→((List Int)→Option Ret)→(List Int)→Int→Option Ret
 | 0,_,_,_=>none
 | n_5 + 1,k3_0_7,x3_1,x10_4 =>
  bif (decide (x10_4 < x9_3)) then
   bif (inB x10_4 (List.length x8_2)) then
    bif ((decide (((List.getD x8_2 (Int.toNat x10_4) zQIIIE).1:Int)=(0:Int))) && ((decide (((List.getD x8_2 (Int.toNat x10_4) zQIIIE).2.1:Int)=(0:Int))) && (decide (((List.getD x8_2 (Int.toNat x10_4) zQIIIE).2.2:Int)=(0:Int))))) then
     bif (decide ((List.length x3_1 + List.length [x10_4]) * 1≤4398046511104)) then
      (I41_l3 x8_2 x9_3 n_5 k3_0_7) (x3_1 ++ [x10_4]) (IntKind.wrap .i64 (x10_4 + (1:Int)))
     else none
    else
     (I41_l3 x8_2 x9_3 n_5 k3_0_7) x3_1 (IntKind.wrap .i64 (x10_4 + (1:Int)))
   else none
  else
   k3_0_7 x3_1
noncomputable def I41 (N:Nat) (a0:QLQIIIIILIELQIILIELQIIELILQIIIELQIIIIEIE) (kf:(List Int)→Option Ret):Option Ret:=
 I41_l3 a0.2.2.2.2.1 (List.length a0.2.2.2.2.1:Int) N kf ([]:(List Int)) (0:Int)
noncomputable def I205_l4 (N:Nat) (x0_1:(List QIIIE)) (x8_2:(List QIIIE)) (x9_3:Int):Nat→(Option Ret)→(Bool→Option Ret)→Int→Option Ret
 | 0,_,_,_=>none
 | n_5 + 1,k4_0_7,k4_1_8,x10_4 =>
  bif (decide (x10_4 < x9_3)) then
   bif (inB x10_4 (List.length x8_2)) then
    I138 N (List.getD x8_2 (Int.toNat x10_4) zQIIIE) (fun (r16_6:Bool) =>
     bif (!r16_6) then
      k4_1_8 false
     else
      bif (decide (x10_4 > (0:Int))) then
       bif (inB (IntKind.wrap .i64 (x10_4 - (1:Int))) (List.length x0_1)) then
        bif (decide ((List.getD x8_2 (Int.toNat x10_4) zQIIIE).1≤(List.getD x0_1 (Int.toNat (IntKind.wrap .i64 (x10_4 - (1:Int)))) zQIIIE).1)) then
         k4_1_8 false
        else
         (I205_l4 N x0_1 x8_2 x9_3 n_5 k4_0_7 k4_1_8) (IntKind.wrap .i64 (x10_4 + (1:Int)))
       else none
      else
       (I205_l4 N x0_1 x8_2 x9_3 n_5 k4_0_7 k4_1_8) (IntKind.wrap .i64 (x10_4 + (1:Int))))
   else none
  else
   k4_0_7
noncomputable def I205 (N:Nat) (a0:(List QIIIE)) (kf:Bool→Option Ret):Option Ret:=
 bif (decide ((List.length a0:Int) > (9:Int))) then
  kf false
 else
  I205_l4 N a0 a0 (List.length a0:Int) N (kf true) kf (0:Int)
noncomputable def I208 (N:Nat) (a0:QIIIE) (kf:Int→Option Ret):Option Ret:=
 bif (decide (a0.2.1 > a0.2.2)) then
  kf (1:Int)
 else
  kf (2:Int)
noncomputable def I206_l5 (N:Nat) (x1_2:Int) (x12_4:(List QIIIE)) (x13_5:Int):Nat→(Int→Option Ret)→Int→Int→Option Ret
 | 0,_,_,_=>none
 | n_7 + 1,k5_0_10,x5_3,x14_6 =>
  bif (decide (x14_6 < x13_5)) then
   bif (inB x14_6 (List.length x12_4)) then
    I208 N (List.getD x12_4 (Int.toNat x14_6) zQIIIE) (fun (r19_8:Int) =>
     bif (r19_8 == x1_2) then
      (I206_l5 N x1_2 x12_4 x13_5 n_7 k5_0_10) (IntKind.wrap .i64 (x5_3 + (1:Int))) (IntKind.wrap .i64 (x14_6 + (1:Int)))
     else
      (I206_l5 N x1_2 x12_4 x13_5 n_7 k5_0_10) x5_3 (IntKind.wrap .i64 (x14_6 + (1:Int))))
   else none
  else
   k5_0_10 x5_3
noncomputable def I206 (N:Nat) (a0:(List QIIIE)) (a1:Int) (kf:Int→Option Ret):Option Ret:=
 I205 N a0 (fun (r9_1:Bool) =>
  bif (!r9_1) then
   kf (0:Int)
  else
   I206_l5 N a1 a0 (List.length a0:Int) N kf (0:Int) (0:Int))
noncomputable def I207_l5 (x1_2:Int) (x12_4:(List QIIIE)) (x13_5:Int):Nat→(Int→Option Ret)→Int→Int→Option Ret
 | 0,_,_,_=>none
 | n_7 + 1,k5_0_9,x5_3,x14_6 =>
  bif (decide (x14_6 < x13_5)) then
   bif (inB x14_6 (List.length x12_4)) then
    bif (x1_2 == (1:Int)) then
     (I207_l5 x1_2 x12_4 x13_5 n_7 k5_0_9) (IntKind.wrap .i64 (x5_3 + (List.getD x12_4 (Int.toNat x14_6) zQIIIE).2.1)) (IntKind.wrap .i64 (x14_6 + (1:Int)))
    else
     bif (x1_2 == (2:Int)) then
      (I207_l5 x1_2 x12_4 x13_5 n_7 k5_0_9) (IntKind.wrap .i64 (x5_3 + (List.getD x12_4 (Int.toNat x14_6) zQIIIE).2.2)) (IntKind.wrap .i64 (x14_6 + (1:Int)))
     else
      (I207_l5 x1_2 x12_4 x13_5 n_7 k5_0_9) x5_3 (IntKind.wrap .i64 (x14_6 + (1:Int)))
   else none
  else
   k5_0_9 x5_3
noncomputable def I207 (N:Nat) (a0:(List QIIIE)) (a1:Int) (kf:Int→Option Ret):Option Ret:=
 I205 N a0 (fun (r9_1:Bool) =>
  bif (!r9_1) then
   kf (0:Int)
  else
   I207_l5 a1 a0 (List.length a0:Int) N kf (0:Int) (0:Int))
noncomputable def I129_j1 (N:Nat) (a0:(List QIIIE)) (kf:Int→Option Ret):Option Ret:=
 bif (inB (0:Int) (List.length a0)) then
  I208 N (List.getD a0 (Int.toNat (0:Int)) zQIIIE) kf
 else none
noncomputable def I129 (N:Nat) (a0:(List QIIIE)) (kf:Int→Option Ret):Option Ret:=
 bif ((List.length a0:Int) == (0:Int)) then
  kf (0:Int)
 else
  I205 N a0 (fun (r10_1:Bool) =>
   bif (!r10_1) then
    kf (0:Int)
   else
    I206 N a0 (1:Int) (fun (r14_2:Int) =>
     I206 N a0 (2:Int) (fun (r16_3:Int) =>
      I207 N a0 (1:Int) (fun (r19_4:Int) =>
       I207 N a0 (2:Int) (fun (r21_5:Int) =>
        bif (decide ((IntKind.wrap .i64 (r14_2 - r16_3)) > (0:Int))) then
         kf (1:Int)
        else
         bif ((IntKind.wrap .i64 (r14_2 - r16_3)) == (0:Int)) then
          bif (decide ((IntKind.wrap .i64 (r19_4 - r21_5)) > (0:Int))) then
           kf (1:Int)
          else
           bif (decide ((IntKind.wrap .i64 (r14_2 - r16_3)) < (0:Int))) then
            kf (2:Int)
           else
            bif (decide ((IntKind.wrap .i64 (r19_4 - r21_5)) < (0:Int))) then
             kf (2:Int)
            else
             I129_j1 N a0 kf
         else
          bif (decide ((IntKind.wrap .i64 (r14_2 - r16_3)) < (0:Int))) then
           kf (2:Int)
          else
           bif (decide ((IntKind.wrap .i64 (r19_4 - r21_5)) < (0:Int))) then
            kf (2:Int)
           else
            I129_j1 N a0 kf)))))
noncomputable def I128_j1 (N:Nat) (a0:(List QIIIIILIE)) (a4:Int) (a5:Int) (kf:(List QIIIIILIE)→Bool→Option Ret) (r21_2:Int) (r24_3:Int) (y14_11:(List QIIIIILIE)):Option Ret:=
 bif (inB r21_2 (List.length y14_11)) then
  bif (inB r21_2 (List.length y14_11)) then
   bif (inB r24_3 (List.length (List.set y14_11 (Int.toNat r21_2) ((List.getD y14_11 (Int.toNat r21_2) zQIIIIILIE).1,((List.getD y14_11 (Int.toNat r21_2) zQIIIIILIE).2.1,((List.getD y14_11 (Int.toNat r21_2) zQIIIIILIE).2.2.1,((IntKind.wrap .i64 ((List.getD y14_11 (Int.toNat r21_2) zQIIIIILIE).2.2.2.1 + a4)),(List.getD y14_11 (Int.toNat r21_2) zQIIIIILIE).2.2.2.2))))))) then
    bif (inB r24_3 (List.length (List.set y14_11 (Int.toNat r21_2) ((List.getD y14_11 (Int.toNat r21_2) zQIIIIILIE).1,((List.getD y14_11 (Int.toNat r21_2) zQIIIIILIE).2.1,((List.getD y14_11 (Int.toNat r21_2) zQIIIIILIE).2.2.1,((IntKind.wrap .i64 ((List.getD y14_11 (Int.toNat r21_2) zQIIIIILIE).2.2.2.1 + a4)),(List.getD y14_11 (Int.toNat r21_2) zQIIIIILIE).2.2.2.2))))))) then
     share (List.set (List.set y14_11 (Int.toNat r21_2) ((List.getD y14_11 (Int.toNat r21_2) zQIIIIILIE).1,((List.getD y14_11 (Int.toNat r21_2) zQIIIIILIE).2.1,((List.getD y14_11 (Int.toNat r21_2) zQIIIIILIE).2.2.1,((IntKind.wrap .i64 ((List.getD y14_11 (Int.toNat r21_2) zQIIIIILIE).2.2.2.1 + a4)),(List.getD y14_11 (Int.toNat r21_2) zQIIIIILIE).2.2.2.2))))) (Int.toNat r24_3) ((List.getD (List.set y14_11 (Int.toNat r21_2) ((List.getD y14_11 (Int.toNat r21_2) zQIIIIILIE).1,((List.getD y14_11 (Int.toNat r21_2) zQIIIIILIE).2.1,((List.getD y14_11 (Int.toNat r21_2) zQIIIIILIE).2.2.1,((IntKind.wrap .i64 ((List.getD y14_11 (Int.toNat r21_2) zQIIIIILIE).2.2.2.1 + a4)),(List.getD y14_11 (Int.toNat r21_2) zQIIIIILIE).2.2.2.2))))) (Int.toNat r24_3) zQIIIIILIE).1,((List.getD (List.set y14_11 (Int.toNat r21_2) ((List.getD y14_11 (Int.toNat r21_2) zQIIIIILIE).1,((List.getD y14_11 (Int.toNat r21_2) zQIIIIILIE).2.1,((List.getD y14_11 (Int.toNat r21_2) zQIIIIILIE).2.2.1,((IntKind.wrap .i64 ((List.getD y14_11 (Int.toNat r21_2) zQIIIIILIE).2.2.2.1 + a4)),(List.getD y14_11 (Int.toNat r21_2) zQIIIIILIE).2.2.2.2))))) (Int.toNat r24_3) zQIIIIILIE).2.1,((List.getD (List.set y14_11 (Int.toNat r21_2) ((List.getD y14_11 (Int.toNat r21_2) zQIIIIILIE).1,((List.getD y14_11 (Int.toNat r21_2) zQIIIIILIE).2.1,((List.getD y14_11 (Int.toNat r21_2) zQIIIIILIE).2.2.1,((IntKind.wrap .i64 ((List.getD y14_11 (Int.toNat r21_2) zQIIIIILIE).2.2.2.1 + a4)),(List.getD y14_11 (Int.toNat r21_2) zQIIIIILIE).2.2.2.2))))) (Int.toNat r24_3) zQIIIIILIE).2.2.1,((IntKind.wrap .i64 ((List.getD (List.set y14_11 (Int.toNat r21_2) ((List.getD y14_11 (Int.toNat r21_2) zQIIIIILIE).1,((List.getD y14_11 (Int.toNat r21_2) zQIIIIILIE).2.1,((List.getD y14_11 (Int.toNat r21_2) zQIIIIILIE).2.2.1,((IntKind.wrap .i64 ((List.getD y14_11 (Int.toNat r21_2) zQIIIIILIE).2.2.2.1 + a4)),(List.getD y14_11 (Int.toNat r21_2) zQIIIIILIE).2.2.2.2))))) (Int.toNat r24_3) zQIIIIILIE).2.2.2.1 + a5)),(List.getD (List.set y14_11 (Int.toNat r21_2) ((List.getD y14_11 (Int.toNat r21_2) zQIIIIILIE).1,((List.getD y14_11 (Int.toNat r21_2) zQIIIIILIE).2.1,((List.getD y14_11 (Int.toNat r21_2) zQIIIIILIE).2.2.1,((IntKind.wrap .i64 ((List.getD y14_11 (Int.toNat r21_2) zQIIIIILIE).2.2.2.1 + a4)),(List.getD y14_11 (Int.toNat r21_2) zQIIIIILIE).2.2.2.2))))) (Int.toNat r24_3) zQIIIIILIE).2.2.2.2))))) (fun (w14_12:(List QIIIIILIE)) =>
      I143 N w14_12 (fun (r126_13:Bool) =>
       bif (!r126_13) then
        I163 N a0 (fun (r129_14:(List QIIIIILIE)) =>
         kf r129_14 false)
       else
        kf w14_12 true))
    else none
   else none
  else none
 else none
noncomputable def I128 (N:Nat) (a0:(List QIIIIILIE)) (a1:Int) (a2:Int) (a3:Int) (a4:Int) (a5:Int) (kf:(List QIIIIILIE)→Bool→Option Ret):Option Ret:=
 I163 N a0 (fun (r18_1:(List QIIIIILIE)) =>
  I40 N a0 a1 (fun (r21_2:Int) =>
   I40 N a0 a2 (fun (r24_3:Int) =>
    I143 N a0 (fun (r26_4:Bool) =>
     bif (!r26_4) then
      kf r18_1 false
     else
      bif (decide (r21_2 < (0:Int))) then
       kf r18_1 false
      else
       bif (decide (r24_3 < (0:Int))) then
        kf r18_1 false
       else
        bif (r21_2 == r24_3) then
         kf r18_1 false
        else
         I144 N a3 (1:Int) (2:Int) (fun (r43_5:Bool) =>
          bif (!r43_5) then
           kf r18_1 false
          else
           I144 N a4 (0:Int) (1000:Int) (fun (r48_6:Bool) =>
            bif (!r48_6) then
             kf r18_1 false
            else
             I144 N a5 (0:Int) (1000:Int) (fun (r53_7:Bool) =>
              bif (!r53_7) then
               kf r18_1 false
              else
               bif (inB r21_2 (List.length r18_1)) then
                bif (inB r24_3 (List.length r18_1)) then
                 bif (decide ((List.length (List.getD r18_1 (Int.toNat r21_2) zQIIIIILIE).2.2.2.2.2 + List.length [a2]) * 1≤4398046511104)) then
                  bif ((!(Nat.beq (Int.toNat r21_2) (Int.toNat r24_3))) && true) then
                   bif (decide ((List.length (List.getD r18_1 (Int.toNat r24_3) zQIIIIILIE).2.2.2.2.2 + List.length [a1]) * 1≤4398046511104)) then
                    bif (inB r21_2 (List.length r18_1)) then
                     bif (Nat.beq (Int.toNat r21_2) (Int.toNat r21_2)) then
                      bif (inB r24_3 (List.length (List.set r18_1 (Int.toNat r21_2) ((List.getD r18_1 (Int.toNat r21_2) zQIIIIILIE).1,((List.getD r18_1 (Int.toNat r21_2) zQIIIIILIE).2.1,((List.getD r18_1 (Int.toNat r21_2) zQIIIIILIE).2.2.1,((List.getD r18_1 (Int.toNat r21_2) zQIIIIILIE).2.2.2.1,((List.getD r18_1 (Int.toNat r21_2) zQIIIIILIE).2.2.2.2.1,((List.getD r18_1 (Int.toNat r21_2) zQIIIIILIE).2.2.2.2.2 ++ [a2]))))))))) then
                       bif (Nat.beq (Int.toNat r24_3) (Int.toNat r24_3)) then
                        share (List.set (List.set r18_1 (Int.toNat r21_2) ((List.getD r18_1 (Int.toNat r21_2) zQIIIIILIE).1,((List.getD r18_1 (Int.toNat r21_2) zQIIIIILIE).2.1,((List.getD r18_1 (Int.toNat r21_2) zQIIIIILIE).2.2.1,((List.getD r18_1 (Int.toNat r21_2) zQIIIIILIE).2.2.2.1,((List.getD r18_1 (Int.toNat r21_2) zQIIIIILIE).2.2.2.2.1,((List.getD r18_1 (Int.toNat r21_2) zQIIIIILIE).2.2.2.2.2 ++ [a2]))))))) (Int.toNat r24_3) ((List.getD (List.set r18_1 (Int.toNat r21_2) ((List.getD r18_1 (Int.toNat r21_2) zQIIIIILIE).1,((List.getD r18_1 (Int.toNat r21_2) zQIIIIILIE).2.1,((List.getD r18_1 (Int.toNat r21_2) zQIIIIILIE).2.2.1,((List.getD r18_1 (Int.toNat r21_2) zQIIIIILIE).2.2.2.1,((List.getD r18_1 (Int.toNat r21_2) zQIIIIILIE).2.2.2.2.1,((List.getD r18_1 (Int.toNat r21_2) zQIIIIILIE).2.2.2.2.2 ++ [a2]))))))) (Int.toNat r24_3) zQIIIIILIE).1,((List.getD (List.set r18_1 (Int.toNat r21_2) ((List.getD r18_1 (Int.toNat r21_2) zQIIIIILIE).1,((List.getD r18_1 (Int.toNat r21_2) zQIIIIILIE).2.1,((List.getD r18_1 (Int.toNat r21_2) zQIIIIILIE).2.2.1,((List.getD r18_1 (Int.toNat r21_2) zQIIIIILIE).2.2.2.1,((List.getD r18_1 (Int.toNat r21_2) zQIIIIILIE).2.2.2.2.1,((List.getD r18_1 (Int.toNat r21_2) zQIIIIILIE).2.2.2.2.2 ++ [a2]))))))) (Int.toNat r24_3) zQIIIIILIE).2.1,((List.getD (List.set r18_1 (Int.toNat r21_2) ((List.getD r18_1 (Int.toNat r21_2) zQIIIIILIE).1,((List.getD r18_1 (Int.toNat r21_2) zQIIIIILIE).2.1,((List.getD r18_1 (Int.toNat r21_2) zQIIIIILIE).2.2.1,((List.getD r18_1 (Int.toNat r21_2) zQIIIIILIE).2.2.2.1,((List.getD r18_1 (Int.toNat r21_2) zQIIIIILIE).2.2.2.2.1,((List.getD r18_1 (Int.toNat r21_2) zQIIIIILIE).2.2.2.2.2 ++ [a2]))))))) (Int.toNat r24_3) zQIIIIILIE).2.2.1,((List.getD (List.set r18_1 (Int.toNat r21_2) ((List.getD r18_1 (Int.toNat r21_2) zQIIIIILIE).1,((List.getD r18_1 (Int.toNat r21_2) zQIIIIILIE).2.1,((List.getD r18_1 (Int.toNat r21_2) zQIIIIILIE).2.2.1,((List.getD r18_1 (Int.toNat r21_2) zQIIIIILIE).2.2.2.1,((List.getD r18_1 (Int.toNat r21_2) zQIIIIILIE).2.2.2.2.1,((List.getD r18_1 (Int.toNat r21_2) zQIIIIILIE).2.2.2.2.2 ++ [a2]))))))) (Int.toNat r24_3) zQIIIIILIE).2.2.2.1,((List.getD (List.set r18_1 (Int.toNat r21_2) ((List.getD r18_1 (Int.toNat r21_2) zQIIIIILIE).1,((List.getD r18_1 (Int.toNat r21_2) zQIIIIILIE).2.1,((List.getD r18_1 (Int.toNat r21_2) zQIIIIILIE).2.2.1,((List.getD r18_1 (Int.toNat r21_2) zQIIIIILIE).2.2.2.1,((List.getD r18_1 (Int.toNat r21_2) zQIIIIILIE).2.2.2.2.1,((List.getD r18_1 (Int.toNat r21_2) zQIIIIILIE).2.2.2.2.2 ++ [a2]))))))) (Int.toNat r24_3) zQIIIIILIE).2.2.2.2.1,((List.getD r18_1 (Int.toNat r24_3) zQIIIIILIE).2.2.2.2.2 ++ [a1]))))))) (fun (w14_8:(List QIIIIILIE)) =>
                         bif (inB r21_2 (List.length w14_8)) then
                          bif (inB r21_2 (List.length w14_8)) then
                           bif (a3 == (1:Int)) then
                            bif (inB r21_2 (List.length (List.set w14_8 (Int.toNat r21_2) ((List.getD w14_8 (Int.toNat r21_2) zQIIIIILIE).1,((List.getD w14_8 (Int.toNat r21_2) zQIIIIILIE).2.1,((List.getD w14_8 (Int.toNat r21_2) zQIIIIILIE).2.2.1,((List.getD w14_8 (Int.toNat r21_2) zQIIIIILIE).2.2.2.1,((IntKind.wrap .i64 ((List.getD w14_8 (Int.toNat r21_2) zQIIIIILIE).2.2.2.2.1 + (1:Int))),(List.getD w14_8 (Int.toNat r21_2) zQIIIIILIE).2.2.2.2.2)))))))) then
                             bif (inB r21_2 (List.length (List.set w14_8 (Int.toNat r21_2) ((List.getD w14_8 (Int.toNat r21_2) zQIIIIILIE).1,((List.getD w14_8 (Int.toNat r21_2) zQIIIIILIE).2.1,((List.getD w14_8 (Int.toNat r21_2) zQIIIIILIE).2.2.1,((List.getD w14_8 (Int.toNat r21_2) zQIIIIILIE).2.2.2.1,((IntKind.wrap .i64 ((List.getD w14_8 (Int.toNat r21_2) zQIIIIILIE).2.2.2.2.1 + (1:Int))),(List.getD w14_8 (Int.toNat r21_2) zQIIIIILIE).2.2.2.2.2)))))))) then
                              share (List.set (List.set w14_8 (Int.toNat r21_2) ((List.getD w14_8 (Int.toNat r21_2) zQIIIIILIE).1,((List.getD w14_8 (Int.toNat r21_2) zQIIIIILIE).2.1,((List.getD w14_8 (Int.toNat r21_2) zQIIIIILIE).2.2.1,((List.getD w14_8 (Int.toNat r21_2) zQIIIIILIE).2.2.2.1,((IntKind.wrap .i64 ((List.getD w14_8 (Int.toNat r21_2) zQIIIIILIE).2.2.2.2.1 + (1:Int))),(List.getD w14_8 (Int.toNat r21_2) zQIIIIILIE).2.2.2.2.2)))))) (Int.toNat r21_2) ((List.getD (List.set w14_8 (Int.toNat r21_2) ((List.getD w14_8 (Int.toNat r21_2) zQIIIIILIE).1,((List.getD w14_8 (Int.toNat r21_2) zQIIIIILIE).2.1,((List.getD w14_8 (Int.toNat r21_2) zQIIIIILIE).2.2.1,((List.getD w14_8 (Int.toNat r21_2) zQIIIIILIE).2.2.2.1,((IntKind.wrap .i64 ((List.getD w14_8 (Int.toNat r21_2) zQIIIIILIE).2.2.2.2.1 + (1:Int))),(List.getD w14_8 (Int.toNat r21_2) zQIIIIILIE).2.2.2.2.2)))))) (Int.toNat r21_2) zQIIIIILIE).1,((List.getD (List.set w14_8 (Int.toNat r21_2) ((List.getD w14_8 (Int.toNat r21_2) zQIIIIILIE).1,((List.getD w14_8 (Int.toNat r21_2) zQIIIIILIE).2.1,((List.getD w14_8 (Int.toNat r21_2) zQIIIIILIE).2.2.1,((List.getD w14_8 (Int.toNat r21_2) zQIIIIILIE).2.2.2.1,((IntKind.wrap .i64 ((List.getD w14_8 (Int.toNat r21_2) zQIIIIILIE).2.2.2.2.1 + (1:Int))),(List.getD w14_8 (Int.toNat r21_2) zQIIIIILIE).2.2.2.2.2)))))) (Int.toNat r21_2) zQIIIIILIE).2.1,((IntKind.wrap .i64 ((List.getD (List.set w14_8 (Int.toNat r21_2) ((List.getD w14_8 (Int.toNat r21_2) zQIIIIILIE).1,((List.getD w14_8 (Int.toNat r21_2) zQIIIIILIE).2.1,((List.getD w14_8 (Int.toNat r21_2) zQIIIIILIE).2.2.1,((List.getD w14_8 (Int.toNat r21_2) zQIIIIILIE).2.2.2.1,((IntKind.wrap .i64 ((List.getD w14_8 (Int.toNat r21_2) zQIIIIILIE).2.2.2.2.1 + (1:Int))),(List.getD w14_8 (Int.toNat r21_2) zQIIIIILIE).2.2.2.2.2)))))) (Int.toNat r21_2) zQIIIIILIE).2.2.1 + (1:Int))),(List.getD (List.set w14_8 (Int.toNat r21_2) ((List.getD w14_8 (Int.toNat r21_2) zQIIIIILIE).1,((List.getD w14_8 (Int.toNat r21_2) zQIIIIILIE).2.1,((List.getD w14_8 (Int.toNat r21_2) zQIIIIILIE).2.2.1,((List.getD w14_8 (Int.toNat r21_2) zQIIIIILIE).2.2.2.1,((IntKind.wrap .i64 ((List.getD w14_8 (Int.toNat r21_2) zQIIIIILIE).2.2.2.2.1 + (1:Int))),(List.getD w14_8 (Int.toNat r21_2) zQIIIIILIE).2.2.2.2.2)))))) (Int.toNat r21_2) zQIIIIILIE).2.2.2)))) (fun (w14_9:(List QIIIIILIE)) =>
                               I128_j1 N a0 a4 a5 kf r21_2 r24_3 w14_9)
                             else none
                            else none
                           else
                            bif (inB r24_3 (List.length (List.set w14_8 (Int.toNat r21_2) ((List.getD w14_8 (Int.toNat r21_2) zQIIIIILIE).1,((List.getD w14_8 (Int.toNat r21_2) zQIIIIILIE).2.1,((List.getD w14_8 (Int.toNat r21_2) zQIIIIILIE).2.2.1,((List.getD w14_8 (Int.toNat r21_2) zQIIIIILIE).2.2.2.1,((IntKind.wrap .i64 ((List.getD w14_8 (Int.toNat r21_2) zQIIIIILIE).2.2.2.2.1 + (1:Int))),(List.getD w14_8 (Int.toNat r21_2) zQIIIIILIE).2.2.2.2.2)))))))) then
                             bif (inB r24_3 (List.length (List.set w14_8 (Int.toNat r21_2) ((List.getD w14_8 (Int.toNat r21_2) zQIIIIILIE).1,((List.getD w14_8 (Int.toNat r21_2) zQIIIIILIE).2.1,((List.getD w14_8 (Int.toNat r21_2) zQIIIIILIE).2.2.1,((List.getD w14_8 (Int.toNat r21_2) zQIIIIILIE).2.2.2.1,((IntKind.wrap .i64 ((List.getD w14_8 (Int.toNat r21_2) zQIIIIILIE).2.2.2.2.1 + (1:Int))),(List.getD w14_8 (Int.toNat r21_2) zQIIIIILIE).2.2.2.2.2)))))))) then
                              share (List.set (List.set w14_8 (Int.toNat r21_2) ((List.getD w14_8 (Int.toNat r21_2) zQIIIIILIE).1,((List.getD w14_8 (Int.toNat r21_2) zQIIIIILIE).2.1,((List.getD w14_8 (Int.toNat r21_2) zQIIIIILIE).2.2.1,((List.getD w14_8 (Int.toNat r21_2) zQIIIIILIE).2.2.2.1,((IntKind.wrap .i64 ((List.getD w14_8 (Int.toNat r21_2) zQIIIIILIE).2.2.2.2.1 + (1:Int))),(List.getD w14_8 (Int.toNat r21_2) zQIIIIILIE).2.2.2.2.2)))))) (Int.toNat r24_3) ((List.getD (List.set w14_8 (Int.toNat r21_2) ((List.getD w14_8 (Int.toNat r21_2) zQIIIIILIE).1,((List.getD w14_8 (Int.toNat r21_2) zQIIIIILIE).2.1,((List.getD w14_8 (Int.toNat r21_2) zQIIIIILIE).2.2.1,((List.getD w14_8 (Int.toNat r21_2) zQIIIIILIE).2.2.2.1,((IntKind.wrap .i64 ((List.getD w14_8 (Int.toNat r21_2) zQIIIIILIE).2.2.2.2.1 + (1:Int))),(List.getD w14_8 (Int.toNat r21_2) zQIIIIILIE).2.2.2.2.2)))))) (Int.toNat r24_3) zQIIIIILIE).1,((List.getD (List.set w14_8 (Int.toNat r21_2) ((List.getD w14_8 (Int.toNat r21_2) zQIIIIILIE).1,((List.getD w14_8 (Int.toNat r21_2) zQIIIIILIE).2.1,((List.getD w14_8 (Int.toNat r21_2) zQIIIIILIE).2.2.1,((List.getD w14_8 (Int.toNat r21_2) zQIIIIILIE).2.2.2.1,((IntKind.wrap .i64 ((List.getD w14_8 (Int.toNat r21_2) zQIIIIILIE).2.2.2.2.1 + (1:Int))),(List.getD w14_8 (Int.toNat r21_2) zQIIIIILIE).2.2.2.2.2)))))) (Int.toNat r24_3) zQIIIIILIE).2.1,((IntKind.wrap .i64 ((List.getD (List.set w14_8 (Int.toNat r21_2) ((List.getD w14_8 (Int.toNat r21_2) zQIIIIILIE).1,((List.getD w14_8 (Int.toNat r21_2) zQIIIIILIE).2.1,((List.getD w14_8 (Int.toNat r21_2) zQIIIIILIE).2.2.1,((List.getD w14_8 (Int.toNat r21_2) zQIIIIILIE).2.2.2.1,((IntKind.wrap .i64 ((List.getD w14_8 (Int.toNat r21_2) zQIIIIILIE).2.2.2.2.1 + (1:Int))),(List.getD w14_8 (Int.toNat r21_2) zQIIIIILIE).2.2.2.2.2)))))) (Int.toNat r24_3) zQIIIIILIE).2.2.1 + (1:Int))),(List.getD (List.set w14_8 (Int.toNat r21_2) ((List.getD w14_8 (Int.toNat r21_2) zQIIIIILIE).1,((List.getD w14_8 (Int.toNat r21_2) zQIIIIILIE).2.1,((List.getD w14_8 (Int.toNat r21_2) zQIIIIILIE).2.2.1,((List.getD w14_8 (Int.toNat r21_2) zQIIIIILIE).2.2.2.1,((IntKind.wrap .i64 ((List.getD w14_8 (Int.toNat r21_2) zQIIIIILIE).2.2.2.2.1 + (1:Int))),(List.getD w14_8 (Int.toNat r21_2) zQIIIIILIE).2.2.2.2.2)))))) (Int.toNat r24_3) zQIIIIILIE).2.2.2)))) (fun (w14_10:(List QIIIIILIE)) =>
                               I128_j1 N a0 a4 a5 kf r21_2 r24_3 w14_10)
                             else none
                            else none
                          else none
                         else none)
                       else none
                      else none
                     else none
                    else none
                   else none
                  else none
                 else none
                else none
               else none)))))))
noncomputable def I209 (N:Nat) (a0:QIILIE) (a1:Int) (kf:Bool→Option Ret):Option Ret:=
 kf (a0.1 == a1)
noncomputable def S80b_l2 (N:Nat) (x0_1:(List QIILIE)) (x1_2:Int) (x7_3:Int):Nat→(Option Ret)→(Int→Option Ret)→Int→Option Ret
 | 0,_,_,_=>none
 | n_5 + 1,k2_0_7,k2_1_8,x8_4 =>
  bif (decide (x8_4 < x7_3)) then
   bif (inB x8_4 (List.length x0_1)) then
    I209 N (List.getD x0_1 (Int.toNat x8_4) zQIILIE) x1_2 (fun (r16_6:Bool) =>
     bif r16_6 then
      k2_1_8 x8_4
     else
      (S80b_l2 N x0_1 x1_2 x7_3 n_5 k2_0_7 k2_1_8) (IntKind.wrap .i64 (x8_4 + (1:Int))))
   else none
  else
   k2_0_7
noncomputable def S80b (N:Nat) (a0:(List QIILIE)) (a1_0:Int) (kf:Int→Option Ret):Option Ret:=
 S80b_l2 N a0 a1_0 (List.length a0:Int) N (kf (-1:Int)) kf (0:Int)
noncomputable def I130 (N:Nat) (a0:(List QIILIE)) (a1:Int) (kf:Int→Option Ret):Option Ret:=
 S80b N a0 a1 kf
noncomputable def S131 (N:Nat) (a0:(List Int)) (kf:(List Int)→Option Ret):Option Ret:=
 bif (Nat.blt (List.length a0) 4611686018427387904) then
  kf (sortL a0)
 else none
noncomputable def S132 (N:Nat) (a0:(List Int)) (kf:(List Int)→Option Ret):Option Ret:=
 kf (compactL a0)
noncomputable def I28_l5 (N:Nat) (x1_7:QLQIIIIILIELQIILIELQIIELILQIIIELQIIIIEIE) (x2_8:QLQIIIIILIELQIILIELQIIELILQIIIELQIIIIEIE) (x30_10:(List QIIE)) (x31_11:Int):Nat→(QLQIIIIILIELQIILIELQIIELILQIIIELQIIIIEIE→Option Ret)→(QLQIIIIILIELQIILIELQIIELILQIIIELQIIIIEIE→Bool→Option Ret)→QLQIIIIILIELQIILIELQIIELILQIIIELQIIIIEIE→Int→Option Ret
 | 0,_,_,_,_=>none
 | n_13 + 1,k5_0_21,k5_1_22,x4_9,x32_12 =>
  bif (decide (x32_12 < x31_11)) then
   bif (inB x32_12 (List.length x30_10)) then
    bif (inB x32_12 (List.length x1_7.2.2.2.2.1)) then
     I129 N [(List.getD x1_7.2.2.2.2.1 (Int.toNat x32_12) zQIIIE)] (fun (r51_14:Int) =>
      I128 N x4_9.1 (List.getD x30_10 (Int.toNat x32_12) zQIIE).1 (List.getD x30_10 (Int.toNat x32_12) zQIIE).2 r51_14 (List.getD x1_7.2.2.2.2.1 (Int.toNat x32_12) zQIIIE).2.1 (List.getD x1_7.2.2.2.2.1 (Int.toNat x32_12) zQIIIE).2.2 (fun (r56_15:(List QIIIIILIE)) (r56_16:Bool) =>
       bif (!r56_16) then
        I70 N x1_7 (fun (r63_17:QLQIIIIILIELQIILIELQIIELILQIIIELQIIIIEIE) =>
         k5_1_22 r63_17 false)
       else
        bif (inB x32_12 (List.length x1_7.2.2.2.1)) then
         I130 N x4_9.2.1 (List.getD x1_7.2.2.2.1 (Int.toNat x32_12) (0:Int)) (fun (r71_18:Int) =>
          bif (inB r71_18 (List.length x4_9.2.1)) then
           bif (decide ((List.length (List.getD x4_9.2.1 (Int.toNat r71_18) zQIILIE).2.2 + List.length [(List.getD x30_10 (Int.toNat x32_12) zQIIE).1,(List.getD x30_10 (Int.toNat x32_12) zQIIE).2]) * 1≤4398046511104)) then
            S131 N ((List.getD x4_9.2.1 (Int.toNat r71_18) zQIILIE).2.2 ++ [(List.getD x30_10 (Int.toNat x32_12) zQIIE).1,(List.getD x30_10 (Int.toNat x32_12) zQIIE).2]) (fun (z10_19:(List Int)) =>
             S132 N z10_19 (fun (r90_20:(List Int)) =>
              bif (inB r71_18 (List.length x4_9.2.1)) then
               bif (Nat.beq (Int.toNat r71_18) (Int.toNat r71_18)) then
                (I28_l5 N x1_7 x2_8 x30_10 x31_11 n_13 k5_0_21 k5_1_22) (r56_15,((List.set x4_9.2.1 (Int.toNat r71_18) ((List.getD x4_9.2.1 (Int.toNat r71_18) zQIILIE).1,((List.getD x4_9.2.1 (Int.toNat r71_18) zQIILIE).2.1,r90_20))),x4_9.2.2)) (IntKind.wrap .i64 (x32_12 + (1:Int)))
               else none
              else none))
           else none
          else none)
        else none))
    else none
   else none
  else
   k5_0_21 x4_9
noncomputable def I28 (N:Nat) (a0:QLQIIIIILIELQIILIELQIIELILQIIIELQIIIIEIE) (kf:QLQIIIIILIELQIILIELQIIELILQIIIELQIIIIEIE→Bool→Option Ret):Option Ret:=
 I39 N a0 (fun (r12_1:Bool) =>
  bif (!r12_1) then
   I70 N a0 (fun (r26_4:QLQIIIIILIELQIILIELQIIELILQIIIELQIIIIEIE) =>
    kf r26_4 false)
  else
   I16 N a0 (fun (r16_2:Bool) =>
    bif (!r16_2) then
     I70 N a0 (fun (r26_4:QLQIIIIILIELQIILIELQIIELILQIIIELQIIIIEIE) =>
      kf r26_4 false)
    else
     I41 N a0 (fun (r21_3:(List Int)) =>
      bif (decide ((List.length r21_3:Int) > (0:Int))) then
       I70 N a0 (fun (r26_5:QLQIIIIILIELQIILIELQIIELILQIIIELQIIIIEIE) =>
        kf r26_5 false)
      else
       I70 N a0 (fun (r28_6:QLQIIIIILIELQIILIELQIIELILQIIIELQIIIIEIE) =>
        I28_l5 N a0 (([]:(List QIIIIILIE)),(([]:(List QIILIE)),(([]:(List QIIE)),(([]:(List Int)),(([]:(List QIIIE)),(([]:(List QIIIIE)),(0:Int))))))) a0.2.2.1 (List.length a0.2.2.1:Int) N (fun (z4_24:QLQIIIIILIELQIILIELQIIELILQIIIELQIIIIEIE) =>
         I103 N a0 (z4_24.1,(z4_24.2.1,(([]:(List QIIE)),(([]:(List Int)),(([]:(List QIIIE)),(z4_24.2.2.2.2.2.1,(IntKind.wrap .i64 (z4_24.2.2.2.2.2.2 + (List.length a0.2.2.1:Int))))))))) (5:Int) (0:Int) kf) kf r28_6 (0:Int)))))
noncomputable def L5 (N:Nat) (a0:QLQIIIIILIELQIILIELQIIELILQIIIELQIIIIEIE) (kf:Bool→Option Ret):Option Ret:=
 L20 N a0 (1048576:Int) (fun (r16_1:Int) =>
  bif (decide (r16_1 < (0:Int))) then
   kf true
  else
   L22 N a0 (fun (r21_2:QLQIIIIILIELQIILIELQIIELILQIIIELQIIIIEIE) =>
    S27 N r21_2 (fun (r22_3:QLQIIIIILIELQIILIELQIIELILQIIIELQIIIIEIE) (r22_4:Bool) =>
     L22 N a0 (fun (r26_5:QLQIIIIILIELQIILIELQIIELILQIIIELQIIIIEIE) =>
      I28 N r26_5 (fun (r29_6:QLQIIIIILIELQIILIELQIIELILQIIIELQIIIIEIE) (r29_7:Bool) =>
       L24 N r29_6 r22_3 (fun (r34_8:Bool) =>
        bif (!r34_8) then
         kf false
        else
         bif (!(r29_7 == r22_4)) then
          kf false
         else
          L22 N a0 (fun (r43_9:QLQIIIIILIELQIILIELQIIELILQIIIELQIIIIEIE) =>
           L24 N r26_5 r43_9 (fun (r44_10:Bool) =>
            bif (!r44_10) then
             kf false
            else
             L25 N r26_5 (1:Int) (fun (r48_11:Int) (z6_12:QLQIIIIILIELQIILIELQIIELILQIIIELQIIIIEIE) =>
              bif (decide (r48_11 < (0:Int))) then
               kf false
              else
               L24 N r29_6 r22_3 (fun (r54_13:Bool) =>
                bif (!r54_13) then
                 kf false
                else
                 bif (!(r29_7 == r22_4)) then
                  kf false
                 else
                  L25 N r29_6 (1:Int) (fun (r64_14:Int) (z7_15:QLQIIIIILIELQIILIELQIIELILQIIIELQIIIIEIE) =>
                   L26 N (z7_15.1,(z7_15.2.1,(z7_15.2.2.1,(z7_15.2.2.2.1,(z7_15.2.2.2.2.1,(z7_15.2.2.2.2.2.1,r29_6.2.2.2.2.2.2)))))) (1:Int) (fun (r67_16:Int) =>
                    bif (decide (r67_16 < (0:Int))) then
                     kf false
                    else
                     bif (r67_16 != r64_14) then
                      kf false
                     else
                      L22 N a0 (fun (r75_17:QLQIIIIILIELQIILIELQIIELILQIIIELQIIIIEIE) =>
                       I28 N r75_17 (fun (r76_18:QLQIIIIILIELQIILIELQIIELILQIIIELQIIIIEIE) (r76_19:Bool) =>
                        L24 N r76_18 r22_3 (fun (r81_20:Bool) =>
                         bif (!r81_20) then
                          kf false
                         else
                          bif (!(r76_19 == r22_4)) then
                           kf false
                          else
                           L26 N (z7_15.1,(z7_15.2.1,(z7_15.2.2.1,(z7_15.2.2.2.1,(z7_15.2.2.2.2.1,(z7_15.2.2.2.2.2.1,r29_6.2.2.2.2.2.2)))))) (1:Int) (fun (r90_21:Int) =>
                            bif (decide (r90_21 < (0:Int))) then
                             kf false
                            else
                             bif (r90_21 != r64_14) then
                              kf false
                             else
                              kf true))))))))))))))))
end Go.Pv.R
