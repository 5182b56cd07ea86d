/- What the functions compute, as plain functions. -/
import Derived.Test.YtojhhpbllkphbaaPv3
namespace Go.Pv.R
set_option linter.unusedVariables false
set_option linter.unusedSimpArgs false
abbrev tQIILIE : Ty := (.pair (.int .i64) (.pair (.int .i64) (.sl (.int .i64))))
abbrev QIILIE : Type := (Int × (Int × (List Int)))
def zQIILIE : QIILIE := ((0 : Int), ((0 : Int), ([] : (List Int))))
abbrev tQIIIIILIE : Ty := (.pair (.int .i64) (.pair (.int .i64) (.pair (.int .i64) (.pair (.int .i64) (.pair (.int .i64) (.sl (.int .i64)))))))
abbrev QIIIIILIE : Type := (Int × (Int × (Int × (Int × (Int × (List Int))))))
def zQIIIIILIE : QIIIIILIE := ((0 : Int), ((0 : Int), ((0 : Int), ((0 : Int), ((0 : Int), ([] : (List Int)))))))
abbrev tQIIE : Ty := (.pair (.int .i64) (.int .i64))
abbrev QIIE : Type := (Int × Int)
def zQIIE : QIIE := ((0 : Int), (0 : Int))
abbrev tQIIIE : Ty := (.pair (.int .i64) (.pair (.int .i64) (.int .i64)))
abbrev QIIIE : Type := (Int × (Int × Int))
def zQIIIE : QIIIE := ((0 : Int), ((0 : Int), (0 : Int)))
abbrev tQIIIIE : Ty := (.pair (.int .i64) (.pair (.int .i64) (.pair (.int .i64) (.int .i64))))
abbrev QIIIIE : Type := (Int × (Int × (Int × Int)))
def zQIIIIE : QIIIIE := ((0 : Int), ((0 : Int), ((0 : Int), (0 : Int))))
abbrev tQLQIIIIILIELQIILIELQIIELILQIIIELQIIIIEIE : Ty := (.pair (.sl tQIIIIILIE) (.pair (.sl tQIILIE) (.pair (.sl tQIIE) (.pair (.sl (.int .i64)) (.pair (.sl tQIIIE) (.pair (.sl tQIIIIE) (.int .i64)))))))
abbrev QLQIIIIILIELQIILIELQIIELILQIIIELQIIIIEIE : Type := ((List QIIIIILIE) × ((List QIILIE) × ((List QIIE) × ((List Int) × ((List QIIIE) × ((List QIIIIE) × Int))))))
abbrev tQILLIE : Ty := (.pair (.int .i64) (.sl (.sl (.int .i64))))
abbrev tQLIIIE : Ty := (.pair (.sl (.int .u8)) (.pair (.int .i64) (.int .i64)))
noncomputable def laws_szIntS (N : Nat) (a0 : (List Int)) (a1 : Int) (kf : Int → Option Ret) : Option Ret :=
  bif (decide ((IntKind.wrap .i64 (a1 - (List.length a0 : Int))) < (0 : Int))) then
    kf (-1 : Int)
  else
    kf (IntKind.wrap .i64 (a1 - (List.length a0 : Int)))
noncomputable def laws_szTeam (N : Nat) (a0 : QIIIIILIE) (a1 : Int) (kf : Int → Option Ret) : Option Ret :=
  laws_szIntS N a0.2.2.2.2.2 a1 (fun (r8_1 : Int) =>
    bif (decide (r8_1 < (0 : Int))) then
      kf (-1 : Int)
    else
      kf r8_1)
noncomputable def laws_szTeamS_l5 (N : Nat) (x0_1 : (List QIIIIILIE)) : Nat → (Int → Option Ret) → (Int → Option Ret) → Int → Int → Option Ret
  | 0, _, _, _, _ => none
  | n_4 + 1, k5_0_6, k5_1_7, x1_2, x5_3 =>
    bif (decide (x5_3 < (List.length x0_1 : Int))) then
      bif (inB x5_3 (List.length x0_1)) then
        laws_szTeam N (List.getD x0_1 (Int.toNat x5_3) zQIIIIILIE) x1_2 (fun (r23_5 : Int) =>
          bif (decide (r23_5 < (0 : Int))) then
            k5_1_7 (-1 : Int)
          else
            (laws_szTeamS_l5 N x0_1 n_4 k5_0_6 k5_1_7) r23_5 (IntKind.wrap .i64 (x5_3 + (1 : Int))))
      else none
    else
      k5_0_6 x1_2
noncomputable def laws_szTeamS (N : Nat) (a0 : (List QIIIIILIE)) (a1 : Int) (kf : Int → Option Ret) : Option Ret :=
  bif (decide ((IntKind.wrap .i64 (a1 - (List.length a0 : Int))) < (0 : Int))) then
    kf (-1 : Int)
  else
    laws_szTeamS_l5 N a0 N kf kf (IntKind.wrap .i64 (a1 - (List.length a0 : Int))) (0 : Int)
noncomputable def laws_szJudge (N : Nat) (a0 : QIILIE) (a1 : Int) (kf : Int → Option Ret) : Option Ret :=
  laws_szIntS N a0.2.2 a1 (fun (r8_1 : Int) =>
    bif (decide (r8_1 < (0 : Int))) then
      kf (-1 : Int)
    else
      kf r8_1)
noncomputable def laws_szJudgeS_l5 (N : Nat) (x0_1 : (List QIILIE)) : Nat → (Int → Option Ret) → (Int → Option Ret) → Int → Int → Option Ret
  | 0, _, _, _, _ => none
  | n_4 + 1, k5_0_6, k5_1_7, x1_2, x5_3 =>
    bif (decide (x5_3 < (List.length x0_1 : Int))) then
      bif (inB x5_3 (List.length x0_1)) then
        laws_szJudge N (List.getD x0_1 (Int.toNat x5_3) zQIILIE) x1_2 (fun (r23_5 : Int) =>
          bif (decide (r23_5 < (0 : Int))) then
            k5_1_7 (-1 : Int)
          else
            (laws_szJudgeS_l5 N x0_1 n_4 k5_0_6 k5_1_7) r23_5 (IntKind.wrap .i64 (x5_3 + (1 : Int))))
      else none
    else
      k5_0_6 x1_2
noncomputable def laws_szJudgeS (N : Nat) (a0 : (List QIILIE)) (a1 : Int) (kf : Int → Option Ret) : Option Ret :=
  bif (decide ((IntKind.wrap .i64 (a1 - (List.length a0 : Int))) < (0 : Int))) then
    kf (-1 : Int)
  else
    laws_szJudgeS_l5 N a0 N kf kf (IntKind.wrap .i64 (a1 - (List.length a0 : Int))) (0 : Int)
noncomputable def laws_szPairS (N : Nat) (a0 : (List QIIE)) (a1 : Int) (kf : Int → Option Ret) : Option Ret :=
  bif (decide ((IntKind.wrap .i64 (a1 - (List.length a0 : Int))) < (0 : Int))) then
    kf (-1 : Int)
  else
    kf (IntKind.wrap .i64 (a1 - (List.length a0 : Int)))
noncomputable def laws_szBallotS (N : Nat) (a0 : (List QIIIE)) (a1 : Int) (kf : Int → Option Ret) : Option Ret :=
  bif (decide ((IntKind.wrap .i64 (a1 - (List.length a0 : Int))) < (0 : Int))) then
    kf (-1 : Int)
  else
    kf (IntKind.wrap .i64 (a1 - (List.length a0 : Int)))
noncomputable def laws_szLineS (N : Nat) (a0 : (List QIIIIE)) (a1 : Int) (kf : Int → Option Ret) : Option Ret :=
  bif (decide ((IntKind.wrap .i64 (a1 - (List.length a0 : Int))) < (0 : Int))) then
    kf (-1 : Int)
  else
    kf (IntKind.wrap .i64 (a1 - (List.length a0 : Int)))
noncomputable def laws_szClub (N : Nat) (a0 : QLQIIIIILIELQIILIELQIIELILQIIIELQIIIIEIE) (a1 : Int) (kf : Int → Option Ret) : Option Ret :=
  laws_szTeamS N a0.1 a1 (fun (r8_1 : Int) =>
    bif (decide (r8_1 < (0 : Int))) then
      kf (-1 : Int)
    else
      laws_szJudgeS N a0.2.1 r8_1 (fun (r14_2 : Int) =>
        bif (decide (r14_2 < (0 : Int))) then
          kf (-1 : Int)
        else
          laws_szPairS N a0.2.2.1 r14_2 (fun (r20_3 : Int) =>
            bif (decide (r20_3 < (0 : Int))) then
              kf (-1 : Int)
            else
              laws_szIntS N a0.2.2.2.1 r20_3 (fun (r26_4 : Int) =>
                bif (decide (r26_4 < (0 : Int))) then
                  kf (-1 : Int)
                else
                  laws_szBallotS N a0.2.2.2.2.1 r26_4 (fun (r32_5 : Int) =>
                    bif (decide (r32_5 < (0 : Int))) then
                      kf (-1 : Int)
                    else
                      laws_szLineS N a0.2.2.2.2.2.1 r32_5 (fun (r38_6 : Int) =>
                        bif (decide (r38_6 < (0 : Int))) then
                          kf (-1 : Int)
                        else
                          kf r38_6))))))
noncomputable def laws_toIntS_l3 (x0_1 : (List Int)) : Nat → ((List Int) → Option Ret) → (List Int) → Int → Option Ret
  | 0, _, _, _ => none
  | n_4 + 1, k3_0_5, x3_2, x4_3 =>
    bif (decide (x4_3 < (List.length x0_1 : Int))) then
      bif (inB x4_3 (List.length x0_1)) then
        bif (inB x4_3 (List.length x3_2)) then
          (laws_toIntS_l3 x0_1 n_4 k3_0_5) (List.set x3_2 (Int.toNat x4_3) (List.getD x0_1 (Int.toNat x4_3) (0 : Int))) (IntKind.wrap .i64 (x4_3 + (1 : Int)))
        else none
      else none
    else
      k3_0_5 x3_2
noncomputable def laws_toIntS (N : Nat) (a0 : (List Int)) (kf : (List Int) → Option Ret) : Option Ret :=
  bif (decide ((List.length a0 : Int) = (List.length a0 : Int)) && decide ((0 : Int) ≤ (List.length a0 : Int)) && decide ((List.length a0 : Int) ≤ 1099511627776)) then
    laws_toIntS_l3 a0 N kf (List.replicate (Int.toNat (List.length a0 : Int)) (0 : Int)) (0 : Int)
  else none
noncomputable def laws_toTeam (N : Nat) (a0 : QIIIIILIE) (kf : QIIIIILIE → Option Ret) : Option Ret :=
  laws_toIntS N a0.2.2.2.2.2 (fun (r21_1 : (List Int)) =>
    kf (a0.1, (a0.2.1, (a0.2.2.1, (a0.2.2.2.1, (a0.2.2.2.2.1, r21_1))))))
noncomputable def laws_toTeamS_l3 (N : Nat) (x0_1 : (List QIIIIILIE)) : Nat → ((List QIIIIILIE) → Option Ret) → (List QIIIIILIE) → Int → Option Ret
  | 0, _, _, _ => none
  | n_4 + 1, k3_0_6, x3_2, x4_3 =>
    bif (decide (x4_3 < (List.length x0_1 : Int))) then
      bif (inB x4_3 (List.length x0_1)) then
        laws_toTeam N (List.getD x0_1 (Int.toNat x4_3) zQIIIIILIE) (fun (r20_5 : QIIIIILIE) =>
          bif (inB x4_3 (List.length x3_2)) then
            (laws_toTeamS_l3 N x0_1 n_4 k3_0_6) (List.set x3_2 (Int.toNat x4_3) r20_5) (IntKind.wrap .i64 (x4_3 + (1 : Int)))
          else none)
      else none
    else
      k3_0_6 x3_2
noncomputable def laws_toTeamS (N : Nat) (a0 : (List QIIIIILIE)) (kf : (List QIIIIILIE) → Option Ret) : Option Ret :=
  bif (decide ((List.length a0 : Int) = (List.length a0 : Int)) && decide ((0 : Int) ≤ (List.length a0 : Int)) && decide ((List.length a0 : Int) ≤ 1099511627776)) then
    laws_toTeamS_l3 N a0 N kf (List.replicate (Int.toNat (List.length a0 : Int)) ((0 : Int), ((0 : Int), ((0 : Int), ((0 : Int), ((0 : Int), ([] : (List Int)))))))) (0 : Int)
  else none
noncomputable def laws_toJudge (N : Nat) (a0 : QIILIE) (kf : QIILIE → Option Ret) : Option Ret :=
  laws_toIntS N a0.2.2 (fun (r12_1 : (List Int)) =>
    kf (a0.1, (a0.2.1, r12_1)))
noncomputable def laws_toJudgeS_l3 (N : Nat) (x0_1 : (List QIILIE)) : Nat → ((List QIILIE) → Option Ret) → (List QIILIE) → Int → Option Ret
  | 0, _, _, _ => none
  | n_4 + 1, k3_0_6, x3_2, x4_3 =>
    bif (decide (x4_3 < (List.length x0_1 : Int))) then
      bif (inB x4_3 (List.length x0_1)) then
        laws_toJudge N (List.getD x0_1 (Int.toNat x4_3) zQIILIE) (fun (r20_5 : QIILIE) =>
          bif (inB x4_3 (List.length x3_2)) then
            (laws_toJudgeS_l3 N x0_1 n_4 k3_0_6) (List.set x3_2 (Int.toNat x4_3) r20_5) (IntKind.wrap .i64 (x4_3 + (1 : Int)))
          else none)
      else none
    else
      k3_0_6 x3_2
noncomputable def laws_toJudgeS (N : Nat) (a0 : (List QIILIE)) (kf : (List QIILIE) → Option Ret) : Option Ret :=
  bif (decide ((List.length a0 : Int) = (List.length a0 : Int)) && decide ((0 : Int) ≤ (List.length a0 : Int)) && decide ((List.length a0 : Int) ≤ 1099511627776)) then
    laws_toJudgeS_l3 N a0 N kf (List.replicate (Int.toNat (List.length a0 : Int)) ((0 : Int), ((0 : Int), ([] : (List Int))))) (0 : Int)
  else none
noncomputable def laws_toPair (N : Nat) (a0 : QIIE) (kf : QIIE → Option Ret) : Option Ret :=
  kf (a0.1, a0.2)
noncomputable def laws_toPairS_l3 (N : Nat) (x0_1 : (List QIIE)) : Nat → ((List QIIE) → Option Ret) → (List QIIE) → Int → Option Ret
  | 0, _, _, _ => none
  | n_4 + 1, k3_0_6, x3_2, x4_3 =>
    bif (decide (x4_3 < (List.length x0_1 : Int))) then
      bif (inB x4_3 (List.length x0_1)) then
        laws_toPair N (List.getD x0_1 (Int.toNat x4_3) zQIIE) (fun (r20_5 : QIIE) =>
          bif (inB x4_3 (List.length x3_2)) then
            (laws_toPairS_l3 N x0_1 n_4 k3_0_6) (List.set x3_2 (Int.toNat x4_3) r20_5) (IntKind.wrap .i64 (x4_3 + (1 : Int)))
          else none)
      else none
    else
      k3_0_6 x3_2
noncomputable def laws_toPairS (N : Nat) (a0 : (List QIIE)) (kf : (List QIIE) → Option Ret) : Option Ret :=
  bif (decide ((List.length a0 : Int) = (List.length a0 : Int)) && decide ((0 : Int) ≤ (List.length a0 : Int)) && decide ((List.length a0 : Int) ≤ 1099511627776)) then
    laws_toPairS_l3 N a0 N kf (List.replicate (Int.toNat (List.length a0 : Int)) ((0 : Int), (0 : Int))) (0 : Int)
  else none
noncomputable def laws_toBallot (N : Nat) (a0 : QIIIE) (kf : QIIIE → Option Ret) : Option Ret :=
  kf (a0.1, (a0.2.1, a0.2.2))
noncomputable def laws_toBallotS_l3 (N : Nat) (x0_1 : (List QIIIE)) : Nat → ((List QIIIE) → Option Ret) → (List QIIIE) → Int → Option Ret
  | 0, _, _, _ => none
  | n_4 + 1, k3_0_6, x3_2, x4_3 =>
    bif (decide (x4_3 < (List.length x0_1 : Int))) then
      bif (inB x4_3 (List.length x0_1)) then
        laws_toBallot N (List.getD x0_1 (Int.toNat x4_3) zQIIIE) (fun (r20_5 : QIIIE) =>
          bif (inB x4_3 (List.length x3_2)) then
            (laws_toBallotS_l3 N x0_1 n_4 k3_0_6) (List.set x3_2 (Int.toNat x4_3) r20_5) (IntKind.wrap .i64 (x4_3 + (1 : Int)))
          else none)
      else none
    else
      k3_0_6 x3_2
noncomputable def laws_toBallotS (N : Nat) (a0 : (List QIIIE)) (kf : (List QIIIE) → Option Ret) : Option Ret :=
  bif (decide ((List.length a0 : Int) = (List.length a0 : Int)) && decide ((0 : Int) ≤ (List.length a0 : Int)) && decide ((List.length a0 : Int) ≤ 1099511627776)) then
    laws_toBallotS_l3 N a0 N kf (List.replicate (Int.toNat (List.length a0 : Int)) ((0 : Int), ((0 : Int), (0 : Int)))) (0 : Int)
  else none
noncomputable def laws_toLine (N : Nat) (a0 : QIIIIE) (kf : QIIIIE → Option Ret) : Option Ret :=
  kf (a0.1, (a0.2.1, (a0.2.2.1, a0.2.2.2)))
noncomputable def laws_toLineS_l3 (N : Nat) (x0_1 : (List QIIIIE)) : Nat → ((List QIIIIE) → Option Ret) → (List QIIIIE) → Int → Option Ret
  | 0, _, _, _ => none
  | n_4 + 1, k3_0_6, x3_2, x4_3 =>
    bif (decide (x4_3 < (List.length x0_1 : Int))) then
      bif (inB x4_3 (List.length x0_1)) then
        laws_toLine N (List.getD x0_1 (Int.toNat x4_3) zQIIIIE) (fun (r20_5 : QIIIIE) =>
          bif (inB x4_3 (List.length x3_2)) then
            (laws_toLineS_l3 N x0_1 n_4 k3_0_6) (List.set x3_2 (Int.toNat x4_3) r20_5) (IntKind.wrap .i64 (x4_3 + (1 : Int)))
          else none)
      else none
    else
      k3_0_6 x3_2
noncomputable def laws_toLineS (N : Nat) (a0 : (List QIIIIE)) (kf : (List QIIIIE) → Option Ret) : Option Ret :=
  bif (decide ((List.length a0 : Int) = (List.length a0 : Int)) && decide ((0 : Int) ≤ (List.length a0 : Int)) && decide ((List.length a0 : Int) ≤ 1099511627776)) then
    laws_toLineS_l3 N a0 N kf (List.replicate (Int.toNat (List.length a0 : Int)) ((0 : Int), ((0 : Int), ((0 : Int), (0 : Int))))) (0 : Int)
  else none
noncomputable def laws_toClub (N : Nat) (a0 : QLQIIIIILIELQIILIELQIIELILQIIIELQIIIIEIE) (kf : QLQIIIIILIELQIILIELQIIELILQIIIELQIIIIEIE → Option Ret) : Option Ret :=
  laws_toTeamS N a0.1 (fun (r6_1 : (List QIIIIILIE)) =>
    laws_toJudgeS N a0.2.1 (fun (r10_2 : (List QIILIE)) =>
      laws_toPairS N a0.2.2.1 (fun (r14_3 : (List QIIE)) =>
        laws_toIntS N a0.2.2.2.1 (fun (r18_4 : (List Int)) =>
          laws_toBallotS N a0.2.2.2.2.1 (fun (r22_5 : (List QIIIE)) =>
            laws_toLineS N a0.2.2.2.2.2.1 (fun (r26_6 : (List QIIIIE)) =>
              kf (r6_1, (r10_2, (r14_3, (r18_4, (r22_5, (r26_6, a0.2.2.2.2.2.2))))))))))))
noncomputable def spec_Waiting_l4 (x1_1 : QLQIIIIILIELQIILIELQIIELILQIIIELQIIIIEIE) (x4_3 : QIIIE) : Nat → ((List Int) → Option Ret) → (List Int) → Int → Option Ret
  | 0, _, _, _ => none
  | n_5 + 1, k4_0_7, x3_2, x5_4 =>
    bif (decide (x5_4 < (List.length x1_1.2.2.2.2.1 : Int))) then
      bif (inB x5_4 (List.length x1_1.2.2.2.2.1)) then
        bif ((decide (((List.getD x1_1.2.2.2.2.1 (Int.toNat x5_4) zQIIIE).1 : Int) = x4_3.1)) && ((decide (((List.getD x1_1.2.2.2.2.1 (Int.toNat x5_4) zQIIIE).2.1 : Int) = x4_3.2.1)) && (decide (((List.getD x1_1.2.2.2.2.1 (Int.toNat x5_4) zQIIIE).2.2 : Int) = x4_3.2.2)))) then
          bif (decide ((List.length x3_2 + List.length [x5_4]) * 1 ≤ 4398046511104)) then
            (spec_Waiting_l4 x1_1 x4_3 n_5 k4_0_7) (x3_2 ++ [x5_4]) (IntKind.wrap .i64 (x5_4 + (1 : Int)))
          else none
        else
          (spec_Waiting_l4 x1_1 x4_3 n_5 k4_0_7) x3_2 (IntKind.wrap .i64 (x5_4 + (1 : Int)))
      else none
    else
      k4_0_7 x3_2
noncomputable def spec_Waiting (N : Nat) (a0 : QLQIIIIILIELQIILIELQIIELILQIIIELQIIIIEIE) (kf : (List Int) → Option Ret) : Option Ret :=
  spec_Waiting_l4 a0 ((0 : Int), ((0 : Int), (0 : Int))) N kf ([] : (List Int)) (0 : Int)
noncomputable def impl_Waiting_l3 (x8_2 : (List QIIIE)) (x9_3 : Int) : Nat → ((List Int) → Option Ret) → (List Int) → Int → Option Ret
  | 0, _, _, _ => none
  | n_5 + 1, k3_0_7, x3_1, x10_4 =>
    bif (decide (x10_4 < x9_3)) then
      bif (inB x10_4 (List.length x8_2)) then
        bif ((decide (((List.getD x8_2 (Int.toNat x10_4) zQIIIE).1 : Int) = (0 : Int))) && ((decide (((List.getD x8_2 (Int.toNat x10_4) zQIIIE).2.1 : Int) = (0 : Int))) && (decide (((List.getD x8_2 (Int.toNat x10_4) zQIIIE).2.2 : Int) = (0 : Int))))) then
          bif (decide ((List.length x3_1 + List.length [x10_4]) * 1 ≤ 4398046511104)) then
            (impl_Waiting_l3 x8_2 x9_3 n_5 k3_0_7) (x3_1 ++ [x10_4]) (IntKind.wrap .i64 (x10_4 + (1 : Int)))
          else none
        else
          (impl_Waiting_l3 x8_2 x9_3 n_5 k3_0_7) x3_1 (IntKind.wrap .i64 (x10_4 + (1 : Int)))
      else none
    else
      k3_0_7 x3_1
noncomputable def impl_Waiting (N : Nat) (a0 : QLQIIIIILIELQIILIELQIIELILQIIIELQIIIIEIE) (kf : (List Int) → Option Ret) : Option Ret :=
  impl_Waiting_l3 a0.2.2.2.2.1 (List.length a0.2.2.2.2.1 : Int) N kf ([] : (List Int)) (0 : Int)
noncomputable def laws_eqIntS_l4 (x0_1 : (List Int)) (x1_2 : (List Int)) : Nat → (Option Ret) → (Bool → Option Ret) → Int → Option Ret
  | 0, _, _, _ => none
  | n_4 + 1, k4_0_5, k4_1_6, x5_3 =>
    bif (decide (x5_3 < (List.length x0_1 : Int))) then
      bif (inB x5_3 (List.length x0_1)) then
        bif (inB x5_3 (List.length x1_2)) then
          bif ((List.getD x0_1 (Int.toNat x5_3) (0 : Int)) != (List.getD x1_2 (Int.toNat x5_3) (0 : Int))) then
            k4_1_6 false
          else
            (laws_eqIntS_l4 x0_1 x1_2 n_4 k4_0_5 k4_1_6) (IntKind.wrap .i64 (x5_3 + (1 : Int)))
        else none
      else none
    else
      k4_0_5
noncomputable def laws_eqIntS (N : Nat) (a0 : (List Int)) (a1 : (List Int)) (kf : Bool → Option Ret) : Option Ret :=
  bif ((List.length a0 : Int) != (List.length a1 : Int)) then
    kf false
  else
    laws_eqIntS_l4 a0 a1 N (kf true) kf (0 : Int)
noncomputable def laws_eqTeam (N : Nat) (a0 : QIIIIILIE) (a1 : QIIIIILIE) (kf : Bool → Option Ret) : Option Ret :=
  bif (a0.1 != a1.1) then
    kf false
  else
    bif (a0.2.1 != a1.2.1) then
      kf false
    else
      bif (a0.2.2.1 != a1.2.2.1) then
        kf false
      else
        bif (a0.2.2.2.1 != a1.2.2.2.1) then
          kf false
        else
          bif (a0.2.2.2.2.1 != a1.2.2.2.2.1) then
            kf false
          else
            laws_eqIntS N a0.2.2.2.2.2 a1.2.2.2.2.2 (fun (r34_1 : Bool) =>
              bif (!r34_1) then
                kf false
              else
                kf true)
noncomputable def laws_eqTeamS_l4 (N : Nat) (x0_1 : (List QIIIIILIE)) (x1_2 : (List QIIIIILIE)) : Nat → (Option Ret) → (Bool → Option Ret) → Int → Option Ret
  | 0, _, _, _ => none
  | n_4 + 1, k4_0_6, k4_1_7, x5_3 =>
    bif (decide (x5_3 < (List.length x0_1 : Int))) then
      bif (inB x5_3 (List.length x0_1)) then
        bif (inB x5_3 (List.length x1_2)) then
          laws_eqTeam N (List.getD x0_1 (Int.toNat x5_3) zQIIIIILIE) (List.getD x1_2 (Int.toNat x5_3) zQIIIIILIE) (fun (r25_5 : Bool) =>
            bif (!r25_5) then
              k4_1_7 false
            else
              (laws_eqTeamS_l4 N x0_1 x1_2 n_4 k4_0_6 k4_1_7) (IntKind.wrap .i64 (x5_3 + (1 : Int))))
        else none
      else none
    else
      k4_0_6
noncomputable def laws_eqTeamS (N : Nat) (a0 : (List QIIIIILIE)) (a1 : (List QIIIIILIE)) (kf : Bool → Option Ret) : Option Ret :=
  bif ((List.length a0 : Int) != (List.length a1 : Int)) then
    kf false
  else
    laws_eqTeamS_l4 N a0 a1 N (kf true) kf (0 : Int)
noncomputable def laws_eqJudge (N : Nat) (a0 : QIILIE) (a1 : QIILIE) (kf : Bool → Option Ret) : Option Ret :=
  bif (a0.1 != a1.1) then
    kf false
  else
    bif (a0.2.1 != a1.2.1) then
      kf false
    else
      laws_eqIntS N a0.2.2 a1.2.2 (fun (r19_1 : Bool) =>
        bif (!r19_1) then
          kf false
        else
          kf true)
noncomputable def laws_eqJudgeS_l4 (N : Nat) (x0_1 : (List QIILIE)) (x1_2 : (List QIILIE)) : Nat → (Option Ret) → (Bool → Option Ret) → Int → Option Ret
  | 0, _, _, _ => none
  | n_4 + 1, k4_0_6, k4_1_7, x5_3 =>
    bif (decide (x5_3 < (List.length x0_1 : Int))) then
      bif (inB x5_3 (List.length x0_1)) then
        bif (inB x5_3 (List.length x1_2)) then
          laws_eqJudge N (List.getD x0_1 (Int.toNat x5_3) zQIILIE) (List.getD x1_2 (Int.toNat x5_3) zQIILIE) (fun (r25_5 : Bool) =>
            bif (!r25_5) then
              k4_1_7 false
            else
              (laws_eqJudgeS_l4 N x0_1 x1_2 n_4 k4_0_6 k4_1_7) (IntKind.wrap .i64 (x5_3 + (1 : Int))))
        else none
      else none
    else
      k4_0_6
noncomputable def laws_eqJudgeS (N : Nat) (a0 : (List QIILIE)) (a1 : (List QIILIE)) (kf : Bool → Option Ret) : Option Ret :=
  bif ((List.length a0 : Int) != (List.length a1 : Int)) then
    kf false
  else
    laws_eqJudgeS_l4 N a0 a1 N (kf true) kf (0 : Int)
noncomputable def laws_eqPair (N : Nat) (a0 : QIIE) (a1 : QIIE) (kf : Bool → Option Ret) : Option Ret :=
  bif (a0.1 != a1.1) then
    kf false
  else
    bif (a0.2 != a1.2) then
      kf false
    else
      kf true
noncomputable def laws_eqPairS_l4 (N : Nat) (x0_1 : (List QIIE)) (x1_2 : (List QIIE)) : Nat → (Option Ret) → (Bool → Option Ret) → Int → Option Ret
  | 0, _, _, _ => none
  | n_4 + 1, k4_0_6, k4_1_7, x5_3 =>
    bif (decide (x5_3 < (List.length x0_1 : Int))) then
      bif (inB x5_3 (List.length x0_1)) then
        bif (inB x5_3 (List.length x1_2)) then
          laws_eqPair N (List.getD x0_1 (Int.toNat x5_3) zQIIE) (List.getD x1_2 (Int.toNat x5_3) zQIIE) (fun (r25_5 : Bool) =>
            bif (!r25_5) then
              k4_1_7 false
            else
              (laws_eqPairS_l4 N x0_1 x1_2 n_4 k4_0_6 k4_1_7) (IntKind.wrap .i64 (x5_3 + (1 : Int))))
        else none
      else none
    else
      k4_0_6
noncomputable def laws_eqPairS (N : Nat) (a0 : (List QIIE)) (a1 : (List QIIE)) (kf : Bool → Option Ret) : Option Ret :=
  bif ((List.length a0 : Int) != (List.length a1 : Int)) then
    kf false
  else
    laws_eqPairS_l4 N a0 a1 N (kf true) kf (0 : Int)
noncomputable def laws_eqBallot (N : Nat) (a0 : QIIIE) (a1 : QIIIE) (kf : Bool → Option Ret) : Option Ret :=
  bif (a0.1 != a1.1) then
    kf false
  else
    bif (a0.2.1 != a1.2.1) then
      kf false
    else
      bif (a0.2.2 != a1.2.2) then
        kf false
      else
        kf true
noncomputable def laws_eqBallotS_l4 (N : Nat) (x0_1 : (List QIIIE)) (x1_2 : (List QIIIE)) : Nat → (Option Ret) → (Bool → Option Ret) → Int → Option Ret
  | 0, _, _, _ => none
  | n_4 + 1, k4_0_6, k4_1_7, x5_3 =>
    bif (decide (x5_3 < (List.length x0_1 : Int))) then
      bif (inB x5_3 (List.length x0_1)) then
        bif (inB x5_3 (List.length x1_2)) then
          laws_eqBallot N (List.getD x0_1 (Int.toNat x5_3) zQIIIE) (List.getD x1_2 (Int.toNat x5_3) zQIIIE) (fun (r25_5 : Bool) =>
            bif (!r25_5) then
              k4_1_7 false
            else
              (laws_eqBallotS_l4 N x0_1 x1_2 n_4 k4_0_6 k4_1_7) (IntKind.wrap .i64 (x5_3 + (1 : Int))))
        else none
      else none
    else
      k4_0_6
noncomputable def laws_eqBallotS (N : Nat) (a0 : (List QIIIE)) (a1 : (List QIIIE)) (kf : Bool → Option Ret) : Option Ret :=
  bif ((List.length a0 : Int) != (List.length a1 : Int)) then
    kf false
  else
    laws_eqBallotS_l4 N a0 a1 N (kf true) kf (0 : Int)
noncomputable def laws_eqLine (N : Nat) (a0 : QIIIIE) (a1 : QIIIIE) (kf : Bool → Option Ret) : Option Ret :=
  bif (a0.1 != a1.1) then
    kf false
  else
    bif (a0.2.1 != a1.2.1) then
      kf false
    else
      bif (a0.2.2.1 != a1.2.2.1) then
        kf false
      else
        bif (a0.2.2.2 != a1.2.2.2) then
          kf false
        else
          kf true
noncomputable def laws_eqLineS_l4 (N : Nat) (x0_1 : (List QIIIIE)) (x1_2 : (List QIIIIE)) : Nat → (Option Ret) → (Bool → Option Ret) → Int → Option Ret
  | 0, _, _, _ => none
  | n_4 + 1, k4_0_6, k4_1_7, x5_3 =>
    bif (decide (x5_3 < (List.length x0_1 : Int))) then
      bif (inB x5_3 (List.length x0_1)) then
        bif (inB x5_3 (List.length x1_2)) then
          laws_eqLine N (List.getD x0_1 (Int.toNat x5_3) zQIIIIE) (List.getD x1_2 (Int.toNat x5_3) zQIIIIE) (fun (r25_5 : Bool) =>
            bif (!r25_5) then
              k4_1_7 false
            else
              (laws_eqLineS_l4 N x0_1 x1_2 n_4 k4_0_6 k4_1_7) (IntKind.wrap .i64 (x5_3 + (1 : Int))))
        else none
      else none
    else
      k4_0_6
noncomputable def laws_eqLineS (N : Nat) (a0 : (List QIIIIE)) (a1 : (List QIIIIE)) (kf : Bool → Option Ret) : Option Ret :=
  bif ((List.length a0 : Int) != (List.length a1 : Int)) then
    kf false
  else
    laws_eqLineS_l4 N a0 a1 N (kf true) kf (0 : Int)
noncomputable def laws_eqClub (N : Nat) (a0 : QLQIIIIILIELQIILIELQIIELILQIIIELQIIIIEIE) (a1 : QLQIIIIILIELQIILIELQIIELILQIIIELQIIIIEIE) (kf : Bool → Option Ret) : Option Ret :=
  laws_eqTeamS N a0.1 a1.1 (fun (r9_1 : Bool) =>
    bif (!r9_1) then
      kf false
    else
      laws_eqJudgeS N a0.2.1 a1.2.1 (fun (r15_2 : Bool) =>
        bif (!r15_2) then
          kf false
        else
          laws_eqPairS N a0.2.2.1 a1.2.2.1 (fun (r21_3 : Bool) =>
            bif (!r21_3) then
              kf false
            else
              laws_eqIntS N a0.2.2.2.1 a1.2.2.2.1 (fun (r27_4 : Bool) =>
                bif (!r27_4) then
                  kf false
                else
                  laws_eqBallotS N a0.2.2.2.2.1 a1.2.2.2.2.1 (fun (r33_5 : Bool) =>
                    bif (!r33_5) then
                      kf false
                    else
                      laws_eqLineS N a0.2.2.2.2.2.1 a1.2.2.2.2.2.1 (fun (r39_6 : Bool) =>
                        bif (!r39_6) then
                          kf false
                        else
                          bif (a0.2.2.2.2.2.2 != a1.2.2.2.2.2.2) then
                            kf false
                          else
                            kf true))))))
noncomputable def laws_markIntS_l2  : Nat → ((List Int) → Int → Option Ret) → (List Int) → Int → Int → Option Ret
  | 0, _, _, _, _ => none
  | n_4 + 1, k2_0_5, x0_1, x1_2, x5_3 =>
    bif (decide (x5_3 < (List.length x0_1 : Int))) then
      bif (inB x5_3 (List.length x0_1)) then
        (laws_markIntS_l2 n_4 k2_0_5) (List.set x0_1 (Int.toNat x5_3) x1_2) (IntKind.wrap .i64 (x1_2 + (1 : Int))) (IntKind.wrap .i64 (x5_3 + (1 : Int)))
      else none
    else
      k2_0_5 x0_1 x1_2
noncomputable def laws_markIntS (N : Nat) (a0 : (List Int)) (a1 : Int) (kf : Int → (List Int) → Option Ret) : Option Ret :=
  laws_markIntS_l2 N (fun (z0_7 : (List Int)) (z1_8 : Int) =>
    kf z1_8 z0_7) a0 a1 (0 : Int)
noncomputable def laws_markTeamS_l2 (N : Nat) : Nat → ((List QIIIIILIE) → Int → Option Ret) → (List QIIIIILIE) → Int → Int → Option Ret
  | 0, _, _, _, _ => none
  | n_4 + 1, k2_0_12, x0_1, x1_2, x5_3 =>
    bif (decide (x5_3 < (List.length x0_1 : Int))) then
      bif (inB x5_3 (List.length x0_1)) then
        share (List.set x0_1 (Int.toNat x5_3) (x1_2, (List.getD x0_1 (Int.toNat x5_3) zQIIIIILIE).2)) (fun (w0_5 : (List QIIIIILIE)) =>
          bif (inB x5_3 (List.length w0_5)) then
            share (List.set w0_5 (Int.toNat x5_3) ((List.getD w0_5 (Int.toNat x5_3) zQIIIIILIE).1, ((IntKind.wrap .i64 (x1_2 + (1 : Int))), (List.getD w0_5 (Int.toNat x5_3) zQIIIIILIE).2.2))) (fun (w0_6 : (List QIIIIILIE)) =>
              bif (inB x5_3 (List.length w0_6)) then
                share (List.set w0_6 (Int.toNat x5_3) ((List.getD w0_6 (Int.toNat x5_3) zQIIIIILIE).1, ((List.getD w0_6 (Int.toNat x5_3) zQIIIIILIE).2.1, ((IntKind.wrap .i64 ((IntKind.wrap .i64 (x1_2 + (1 : Int))) + (1 : Int))), (List.getD w0_6 (Int.toNat x5_3) zQIIIIILIE).2.2.2)))) (fun (w0_7 : (List QIIIIILIE)) =>
                  bif (inB x5_3 (List.length w0_7)) then
                    share (List.set w0_7 (Int.toNat x5_3) ((List.getD w0_7 (Int.toNat x5_3) zQIIIIILIE).1, ((List.getD w0_7 (Int.toNat x5_3) zQIIIIILIE).2.1, ((List.getD w0_7 (Int.toNat x5_3) zQIIIIILIE).2.2.1, ((IntKind.wrap .i64 ((IntKind.wrap .i64 ((IntKind.wrap .i64 (x1_2 + (1 : Int))) + (1 : Int))) + (1 : Int))), (List.getD w0_7 (Int.toNat x5_3) zQIIIIILIE).2.2.2.2))))) (fun (w0_8 : (List QIIIIILIE)) =>
                      bif (inB x5_3 (List.length w0_8)) then
                        share (List.set w0_8 (Int.toNat x5_3) ((List.getD w0_8 (Int.toNat x5_3) zQIIIIILIE).1, ((List.getD w0_8 (Int.toNat x5_3) zQIIIIILIE).2.1, ((List.getD w0_8 (Int.toNat x5_3) zQIIIIILIE).2.2.1, ((List.getD w0_8 (Int.toNat x5_3) zQIIIIILIE).2.2.2.1, ((IntKind.wrap .i64 ((IntKind.wrap .i64 ((IntKind.wrap .i64 ((IntKind.wrap .i64 (x1_2 + (1 : Int))) + (1 : Int))) + (1 : Int))) + (1 : Int))), (List.getD w0_8 (Int.toNat x5_3) zQIIIIILIE).2.2.2.2.2)))))) (fun (w0_9 : (List QIIIIILIE)) =>
                          bif (inB x5_3 (List.length w0_9)) then
                            laws_markIntS N (List.getD w0_9 (Int.toNat x5_3) zQIIIIILIE).2.2.2.2.2 (IntKind.wrap .i64 ((IntKind.wrap .i64 ((IntKind.wrap .i64 ((IntKind.wrap .i64 ((IntKind.wrap .i64 (x1_2 + (1 : Int))) + (1 : Int))) + (1 : Int))) + (1 : Int))) + (1 : Int))) (fun (r53_10 : Int) (z0_11 : (List Int)) =>
                              (laws_markTeamS_l2 N n_4 k2_0_12) (List.set w0_9 (Int.toNat x5_3) ((List.getD w0_9 (Int.toNat x5_3) zQIIIIILIE).1, ((List.getD w0_9 (Int.toNat x5_3) zQIIIIILIE).2.1, ((List.getD w0_9 (Int.toNat x5_3) zQIIIIILIE).2.2.1, ((List.getD w0_9 (Int.toNat x5_3) zQIIIIILIE).2.2.2.1, ((List.getD w0_9 (Int.toNat x5_3) zQIIIIILIE).2.2.2.2.1, z0_11)))))) r53_10 (IntKind.wrap .i64 (x5_3 + (1 : Int))))
                          else none)
                      else none)
                  else none)
              else none)
          else none)
      else none
    else
      k2_0_12 x0_1 x1_2
noncomputable def laws_markTeamS (N : Nat) (a0 : (List QIIIIILIE)) (a1 : Int) (kf : Int → (List QIIIIILIE) → Option Ret) : Option Ret :=
  laws_markTeamS_l2 N N (fun (z0_14 : (List QIIIIILIE)) (z1_15 : Int) =>
    kf z1_15 z0_14) a0 a1 (0 : Int)
noncomputable def laws_markJudgeS_l2 (N : Nat) : Nat → ((List QIILIE) → Int → Option Ret) → (List QIILIE) → Int → Int → Option Ret
  | 0, _, _, _, _ => none
  | n_4 + 1, k2_0_9, x0_1, x1_2, x5_3 =>
    bif (decide (x5_3 < (List.length x0_1 : Int))) then
      bif (inB x5_3 (List.length x0_1)) then
        share (List.set x0_1 (Int.toNat x5_3) (x1_2, (List.getD x0_1 (Int.toNat x5_3) zQIILIE).2)) (fun (w0_5 : (List QIILIE)) =>
          bif (inB x5_3 (List.length w0_5)) then
            share (List.set w0_5 (Int.toNat x5_3) ((List.getD w0_5 (Int.toNat x5_3) zQIILIE).1, ((IntKind.wrap .i64 (x1_2 + (1 : Int))), (List.getD w0_5 (Int.toNat x5_3) zQIILIE).2.2))) (fun (w0_6 : (List QIILIE)) =>
              bif (inB x5_3 (List.length w0_6)) then
                laws_markIntS N (List.getD w0_6 (Int.toNat x5_3) zQIILIE).2.2 (IntKind.wrap .i64 ((IntKind.wrap .i64 (x1_2 + (1 : Int))) + (1 : Int))) (fun (r32_7 : Int) (z0_8 : (List Int)) =>
                  (laws_markJudgeS_l2 N n_4 k2_0_9) (List.set w0_6 (Int.toNat x5_3) ((List.getD w0_6 (Int.toNat x5_3) zQIILIE).1, ((List.getD w0_6 (Int.toNat x5_3) zQIILIE).2.1, z0_8))) r32_7 (IntKind.wrap .i64 (x5_3 + (1 : Int))))
              else none)
          else none)
      else none
    else
      k2_0_9 x0_1 x1_2
noncomputable def laws_markJudgeS (N : Nat) (a0 : (List QIILIE)) (a1 : Int) (kf : Int → (List QIILIE) → Option Ret) : Option Ret :=
  laws_markJudgeS_l2 N N (fun (z0_11 : (List QIILIE)) (z1_12 : Int) =>
    kf z1_12 z0_11) a0 a1 (0 : Int)
noncomputable def laws_markPairS_l2  : Nat → ((List QIIE) → Int → Option Ret) → (List QIIE) → Int → Int → Option Ret
  | 0, _, _, _, _ => none
  | n_4 + 1, k2_0_7, x0_1, x1_2, x5_3 =>
    bif (decide (x5_3 < (List.length x0_1 : Int))) then
      bif (inB x5_3 (List.length x0_1)) then
        share (List.set x0_1 (Int.toNat x5_3) (x1_2, (List.getD x0_1 (Int.toNat x5_3) zQIIE).2)) (fun (w0_5 : (List QIIE)) =>
          bif (inB x5_3 (List.length w0_5)) then
            share (List.set w0_5 (Int.toNat x5_3) ((List.getD w0_5 (Int.toNat x5_3) zQIIE).1, (IntKind.wrap .i64 (x1_2 + (1 : Int))))) (fun (w0_6 : (List QIIE)) =>
              (laws_markPairS_l2 n_4 k2_0_7) w0_6 (IntKind.wrap .i64 ((IntKind.wrap .i64 (x1_2 + (1 : Int))) + (1 : Int))) (IntKind.wrap .i64 (x5_3 + (1 : Int))))
          else none)
      else none
    else
      k2_0_7 x0_1 x1_2
noncomputable def laws_markPairS (N : Nat) (a0 : (List QIIE)) (a1 : Int) (kf : Int → (List QIIE) → Option Ret) : Option Ret :=
  laws_markPairS_l2 N (fun (z0_9 : (List QIIE)) (z1_10 : Int) =>
    kf z1_10 z0_9) a0 a1 (0 : Int)
noncomputable def laws_markBallotS_l2  : Nat → ((List QIIIE) → Int → Option Ret) → (List QIIIE) → Int → Int → Option Ret
  | 0, _, _, _, _ => none
  | n_4 + 1, k2_0_8, x0_1, x1_2, x5_3 =>
    bif (decide (x5_3 < (List.length x0_1 : Int))) then
      bif (inB x5_3 (List.length x0_1)) then
        share (List.set x0_1 (Int.toNat x5_3) (x1_2, (List.getD x0_1 (Int.toNat x5_3) zQIIIE).2)) (fun (w0_5 : (List QIIIE)) =>
          bif (inB x5_3 (List.length w0_5)) then
            share (List.set w0_5 (Int.toNat x5_3) ((List.getD w0_5 (Int.toNat x5_3) zQIIIE).1, ((IntKind.wrap .i64 (x1_2 + (1 : Int))), (List.getD w0_5 (Int.toNat x5_3) zQIIIE).2.2))) (fun (w0_6 : (List QIIIE)) =>
              bif (inB x5_3 (List.length w0_6)) then
                share (List.set w0_6 (Int.toNat x5_3) ((List.getD w0_6 (Int.toNat x5_3) zQIIIE).1, ((List.getD w0_6 (Int.toNat x5_3) zQIIIE).2.1, (IntKind.wrap .i64 ((IntKind.wrap .i64 (x1_2 + (1 : Int))) + (1 : Int)))))) (fun (w0_7 : (List QIIIE)) =>
                  (laws_markBallotS_l2 n_4 k2_0_8) w0_7 (IntKind.wrap .i64 ((IntKind.wrap .i64 ((IntKind.wrap .i64 (x1_2 + (1 : Int))) + (1 : Int))) + (1 : Int))) (IntKind.wrap .i64 (x5_3 + (1 : Int))))
              else none)
          else none)
      else none
    else
      k2_0_8 x0_1 x1_2
noncomputable def laws_markBallotS (N : Nat) (a0 : (List QIIIE)) (a1 : Int) (kf : Int → (List QIIIE) → Option Ret) : Option Ret :=
  laws_markBallotS_l2 N (fun (z0_10 : (List QIIIE)) (z1_11 : Int) =>
    kf z1_11 z0_10) a0 a1 (0 : Int)
noncomputable def laws_markLineS_l2  : Nat → ((List QIIIIE) → Int → Option Ret) → (List QIIIIE) → Int → Int → Option Ret
  | 0, _, _, _, _ => none
  | n_4 + 1, k2_0_9, x0_1, x1_2, x5_3 =>
    bif (decide (x5_3 < (List.length x0_1 : Int))) then
      bif (inB x5_3 (List.length x0_1)) then
        share (List.set x0_1 (Int.toNat x5_3) (x1_2, (List.getD x0_1 (Int.toNat x5_3) zQIIIIE).2)) (fun (w0_5 : (List QIIIIE)) =>
          bif (inB x5_3 (List.length w0_5)) then
            share (List.set w0_5 (Int.toNat x5_3) ((List.getD w0_5 (Int.toNat x5_3) zQIIIIE).1, ((IntKind.wrap .i64 (x1_2 + (1 : Int))), (List.getD w0_5 (Int.toNat x5_3) zQIIIIE).2.2))) (fun (w0_6 : (List QIIIIE)) =>
              bif (inB x5_3 (List.length w0_6)) then
                share (List.set w0_6 (Int.toNat x5_3) ((List.getD w0_6 (Int.toNat x5_3) zQIIIIE).1, ((List.getD w0_6 (Int.toNat x5_3) zQIIIIE).2.1, ((IntKind.wrap .i64 ((IntKind.wrap .i64 (x1_2 + (1 : Int))) + (1 : Int))), (List.getD w0_6 (Int.toNat x5_3) zQIIIIE).2.2.2)))) (fun (w0_7 : (List QIIIIE)) =>
                  bif (inB x5_3 (List.length w0_7)) then
                    share (List.set w0_7 (Int.toNat x5_3) ((List.getD w0_7 (Int.toNat x5_3) zQIIIIE).1, ((List.getD w0_7 (Int.toNat x5_3) zQIIIIE).2.1, ((List.getD w0_7 (Int.toNat x5_3) zQIIIIE).2.2.1, (IntKind.wrap .i64 ((IntKind.wrap .i64 ((IntKind.wrap .i64 (x1_2 + (1 : Int))) + (1 : Int))) + (1 : Int))))))) (fun (w0_8 : (List QIIIIE)) =>
                      (laws_markLineS_l2 n_4 k2_0_9) w0_8 (IntKind.wrap .i64 ((IntKind.wrap .i64 ((IntKind.wrap .i64 ((IntKind.wrap .i64 (x1_2 + (1 : Int))) + (1 : Int))) + (1 : Int))) + (1 : Int))) (IntKind.wrap .i64 (x5_3 + (1 : Int))))
                  else none)
              else none)
          else none)
      else none
    else
      k2_0_9 x0_1 x1_2
noncomputable def laws_markLineS (N : Nat) (a0 : (List QIIIIE)) (a1 : Int) (kf : Int → (List QIIIIE) → Option Ret) : Option Ret :=
  laws_markLineS_l2 N (fun (z0_11 : (List QIIIIE)) (z1_12 : Int) =>
    kf z1_12 z0_11) a0 a1 (0 : Int)
noncomputable def laws_markClub (N : Nat) (a0 : QLQIIIIILIELQIILIELQIIELILQIIIELQIIIIEIE) (a1 : Int) (kf : Int → QLQIIIIILIELQIILIELQIIELILQIIIELQIIIIEIE → Option Ret) : Option Ret :=
  laws_markTeamS N a0.1 a1 (fun (r8_1 : Int) (z2_2 : (List QIIIIILIE)) =>
    laws_markJudgeS N a0.2.1 r8_1 (fun (r12_3 : Int) (z2_4 : (List QIILIE)) =>
      laws_markPairS N a0.2.2.1 r12_3 (fun (r16_5 : Int) (z2_6 : (List QIIE)) =>
        laws_markIntS N a0.2.2.2.1 r16_5 (fun (r20_7 : Int) (z2_8 : (List Int)) =>
          laws_markBallotS N a0.2.2.2.2.1 r20_7 (fun (r24_9 : Int) (z2_10 : (List QIIIE)) =>
            laws_markLineS N a0.2.2.2.2.2.1 r24_9 (fun (r28_11 : Int) (z2_12 : (List QIIIIE)) =>
              kf r28_11 (z2_2, (z2_4, (z2_6, (z2_8, (z2_10, (z2_12, a0.2.2.2.2.2.2))))))))))))
noncomputable def spec_BallotsFor_l4 (x1_2 : (List Int)) (x6_4 : (List Int)) : Nat → ((List QIIIIE) → Option Ret) → (List QIIIIE) → Int → Option Ret
  | 0, _, _, _ => none
  | n_6 + 1, k4_0_7, x5_3, x7_5 =>
    bif (decide (x7_5 < (List.length x6_4 : Int))) then
      bif (decide ((IntKind.wrap .i64 ((IntKind.wrap .i64 ((2 : Int) * x7_5)) + (1 : Int))) < (List.length x1_2 : Int))) then
        bif (inB (IntKind.wrap .i64 ((2 : Int) * x7_5)) (List.length x1_2)) then
          bif (inB (IntKind.wrap .i64 ((IntKind.wrap .i64 ((2 : Int) * x7_5)) + (1 : Int))) (List.length x1_2)) then
            bif (inB x7_5 (List.length x6_4)) then
              bif (decide ((List.length x5_3 + List.length [((4 : Int), ((List.getD x1_2 (Int.toNat (IntKind.wrap .i64 ((2 : Int) * x7_5))) (0 : Int)), ((List.getD x1_2 (Int.toNat (IntKind.wrap .i64 ((IntKind.wrap .i64 ((2 : Int) * x7_5)) + (1 : Int)))) (0 : Int)), (List.getD x6_4 (Int.toNat x7_5) (0 : Int)))))]) * 4 ≤ 4398046511104)) then
                (spec_BallotsFor_l4 x1_2 x6_4 n_6 k4_0_7) (x5_3 ++ [((4 : Int), ((List.getD x1_2 (Int.toNat (IntKind.wrap .i64 ((2 : Int) * x7_5))) (0 : Int)), ((List.getD x1_2 (Int.toNat (IntKind.wrap .i64 ((IntKind.wrap .i64 ((2 : Int) * x7_5)) + (1 : Int)))) (0 : Int)), (List.getD x6_4 (Int.toNat x7_5) (0 : Int)))))]) (IntKind.wrap .i64 (x7_5 + (1 : Int)))
              else none
            else none
          else none
        else none
      else
        k4_0_7 x5_3
    else
      k4_0_7 x5_3
noncomputable def spec_BallotsFor (N : Nat) (a0 : QLQIIIIILIELQIILIELQIIELILQIIIELQIIIIEIE) (a1 : (List Int)) (kf : (List QIIIIE) → Option Ret) : Option Ret :=
  spec_Waiting N a0 (fun (r10_1 : (List Int)) =>
    spec_BallotsFor_l4 a1 r10_1 N kf ([] : (List QIIIIE)) (0 : Int))
noncomputable def impl_BallotsFor_l3 (x1_2 : (List Int)) (x10_4 : (List Int)) (x11_5 : Int) : Nat → ((List QIIIIE) → Option Ret) → (List QIIIIE) → Int → Option Ret
  | 0, _, _, _ => none
  | n_7 + 1, k3_0_9, x5_3, x12_6 =>
    bif (decide (x12_6 < x11_5)) then
      bif (inB x12_6 (List.length x10_4)) then
        bif (decide ((IntKind.wrap .i64 ((IntKind.wrap .i64 ((2 : Int) * x12_6)) + (1 : Int))) < (List.length x1_2 : Int))) then
          bif (inB (IntKind.wrap .i64 ((2 : Int) * x12_6)) (List.length x1_2)) then
            bif (inB (IntKind.wrap .i64 ((IntKind.wrap .i64 ((2 : Int) * x12_6)) + (1 : Int))) (List.length x1_2)) then
              bif (decide ((List.length x5_3 + List.length [((4 : Int), ((List.getD x1_2 (Int.toNat (IntKind.wrap .i64 ((2 : Int) * x12_6))) (0 : Int)), ((List.getD x1_2 (Int.toNat (IntKind.wrap .i64 ((IntKind.wrap .i64 ((2 : Int) * x12_6)) + (1 : Int)))) (0 : Int)), (List.getD x10_4 (Int.toNat x12_6) (0 : Int)))))]) * 4 ≤ 4398046511104)) then
                (impl_BallotsFor_l3 x1_2 x10_4 x11_5 n_7 k3_0_9) (x5_3 ++ [((4 : Int), ((List.getD x1_2 (Int.toNat (IntKind.wrap .i64 ((2 : Int) * x12_6))) (0 : Int)), ((List.getD x1_2 (Int.toNat (IntKind.wrap .i64 ((IntKind.wrap .i64 ((2 : Int) * x12_6)) + (1 : Int)))) (0 : Int)), (List.getD x10_4 (Int.toNat x12_6) (0 : Int)))))]) (IntKind.wrap .i64 (x12_6 + (1 : Int)))
              else none
            else none
          else none
        else
          (impl_BallotsFor_l3 x1_2 x10_4 x11_5 n_7 k3_0_9) x5_3 (IntKind.wrap .i64 (x12_6 + (1 : Int)))
      else none
    else
      k3_0_9 x5_3
noncomputable def impl_BallotsFor (N : Nat) (a0 : QLQIIIIILIELQIILIELQIIELILQIIIELQIIIIEIE) (a1 : (List Int)) (kf : (List QIIIIE) → Option Ret) : Option Ret :=
  impl_Waiting N a0 (fun (r10_1 : (List Int)) =>
    impl_BallotsFor_l3 a1 r10_1 (List.length r10_1 : Int) N kf ([] : (List QIIIIE)) (0 : Int))
noncomputable def laws_eqEvent (N : Nat) (a0 : QIIIIE) (a1 : QIIIIE) (kf : Bool → Option Ret) : Option Ret :=
  bif (a0.1 != a1.1) then
    kf false
  else
    bif (a0.2.1 != a1.2.1) then
      kf false
    else
      bif (a0.2.2.1 != a1.2.2.1) then
        kf false
      else
        bif (a0.2.2.2 != a1.2.2.2) then
          kf false
        else
          kf true
noncomputable def laws_eqEventS_l4 (N : Nat) (x0_1 : (List QIIIIE)) (x1_2 : (List QIIIIE)) : Nat → (Option Ret) → (Bool → Option Ret) → Int → Option Ret
  | 0, _, _, _ => none
  | n_4 + 1, k4_0_6, k4_1_7, x5_3 =>
    bif (decide (x5_3 < (List.length x0_1 : Int))) then
      bif (inB x5_3 (List.length x0_1)) then
        bif (inB x5_3 (List.length x1_2)) then
          laws_eqEvent N (List.getD x0_1 (Int.toNat x5_3) zQIIIIE) (List.getD x1_2 (Int.toNat x5_3) zQIIIIE) (fun (r25_5 : Bool) =>
            bif (!r25_5) then
              k4_1_7 false
            else
              (laws_eqEventS_l4 N x0_1 x1_2 n_4 k4_0_6 k4_1_7) (IntKind.wrap .i64 (x5_3 + (1 : Int))))
        else none
      else none
    else
      k4_0_6
noncomputable def laws_eqEventS (N : Nat) (a0 : (List QIIIIE)) (a1 : (List QIIIIE)) (kf : Bool → Option Ret) : Option Ret :=
  bif ((List.length a0 : Int) != (List.length a1 : Int)) then
    kf false
  else
    laws_eqEventS_l4 N a0 a1 N (kf true) kf (0 : Int)
noncomputable def laws_markEventS_l2  : Nat → ((List QIIIIE) → Int → Option Ret) → (List QIIIIE) → Int → Int → Option Ret
  | 0, _, _, _, _ => none
  | n_4 + 1, k2_0_9, x0_1, x1_2, x5_3 =>
    bif (decide (x5_3 < (List.length x0_1 : Int))) then
      bif (inB x5_3 (List.length x0_1)) then
        share (List.set x0_1 (Int.toNat x5_3) (x1_2, (List.getD x0_1 (Int.toNat x5_3) zQIIIIE).2)) (fun (w0_5 : (List QIIIIE)) =>
          bif (inB x5_3 (List.length w0_5)) then
            share (List.set w0_5 (Int.toNat x5_3) ((List.getD w0_5 (Int.toNat x5_3) zQIIIIE).1, ((IntKind.wrap .i64 (x1_2 + (1 : Int))), (List.getD w0_5 (Int.toNat x5_3) zQIIIIE).2.2))) (fun (w0_6 : (List QIIIIE)) =>
              bif (inB x5_3 (List.length w0_6)) then
                share (List.set w0_6 (Int.toNat x5_3) ((List.getD w0_6 (Int.toNat x5_3) zQIIIIE).1, ((List.getD w0_6 (Int.toNat x5_3) zQIIIIE).2.1, ((IntKind.wrap .i64 ((IntKind.wrap .i64 (x1_2 + (1 : Int))) + (1 : Int))), (List.getD w0_6 (Int.toNat x5_3) zQIIIIE).2.2.2)))) (fun (w0_7 : (List QIIIIE)) =>
                  bif (inB x5_3 (List.length w0_7)) then
                    share (List.set w0_7 (Int.toNat x5_3) ((List.getD w0_7 (Int.toNat x5_3) zQIIIIE).1, ((List.getD w0_7 (Int.toNat x5_3) zQIIIIE).2.1, ((List.getD w0_7 (Int.toNat x5_3) zQIIIIE).2.2.1, (IntKind.wrap .i64 ((IntKind.wrap .i64 ((IntKind.wrap .i64 (x1_2 + (1 : Int))) + (1 : Int))) + (1 : Int))))))) (fun (w0_8 : (List QIIIIE)) =>
                      (laws_markEventS_l2 n_4 k2_0_9) w0_8 (IntKind.wrap .i64 ((IntKind.wrap .i64 ((IntKind.wrap .i64 ((IntKind.wrap .i64 (x1_2 + (1 : Int))) + (1 : Int))) + (1 : Int))) + (1 : Int))) (IntKind.wrap .i64 (x5_3 + (1 : Int))))
                  else none)
              else none)
          else none)
      else none
    else
      k2_0_9 x0_1 x1_2
noncomputable def laws_markEventS (N : Nat) (a0 : (List QIIIIE)) (a1 : Int) (kf : Int → (List QIIIIE) → Option Ret) : Option Ret :=
  laws_markEventS_l2 N (fun (z0_11 : (List QIIIIE)) (z1_12 : Int) =>
    kf z1_12 z0_11) a0 a1 (0 : Int)
noncomputable def laws_heldEventS_l2 (x0_1 : (List QIIIIE)) : Nat → (Int → Option Ret) → (Int → Option Ret) → Int → Int → Option Ret
  | 0, _, _, _, _ => none
  | n_4 + 1, k2_0_5, k2_1_6, x1_2, x5_3 =>
    bif (decide (x5_3 < (List.length x0_1 : Int))) then
      bif (inB x5_3 (List.length x0_1)) then
        bif ((List.getD x0_1 (Int.toNat x5_3) zQIIIIE).1 != x1_2) then
          k2_1_6 (-1 : Int)
        else
          bif (inB x5_3 (List.length x0_1)) then
            bif ((List.getD x0_1 (Int.toNat x5_3) zQIIIIE).2.1 != (IntKind.wrap .i64 (x1_2 + (1 : Int)))) then
              k2_1_6 (-1 : Int)
            else
              bif (inB x5_3 (List.length x0_1)) then
                bif ((List.getD x0_1 (Int.toNat x5_3) zQIIIIE).2.2.1 != (IntKind.wrap .i64 ((IntKind.wrap .i64 (x1_2 + (1 : Int))) + (1 : Int)))) then
                  k2_1_6 (-1 : Int)
                else
                  bif (inB x5_3 (List.length x0_1)) then
                    bif ((List.getD x0_1 (Int.toNat x5_3) zQIIIIE).2.2.2 != (IntKind.wrap .i64 ((IntKind.wrap .i64 ((IntKind.wrap .i64 (x1_2 + (1 : Int))) + (1 : Int))) + (1 : Int)))) then
                      k2_1_6 (-1 : Int)
                    else
                      (laws_heldEventS_l2 x0_1 n_4 k2_0_5 k2_1_6) (IntKind.wrap .i64 ((IntKind.wrap .i64 ((IntKind.wrap .i64 ((IntKind.wrap .i64 (x1_2 + (1 : Int))) + (1 : Int))) + (1 : Int))) + (1 : Int))) (IntKind.wrap .i64 (x5_3 + (1 : Int)))
                  else none
              else none
          else none
      else none
    else
      k2_0_5 x1_2
noncomputable def laws_heldEventS (N : Nat) (a0 : (List QIIIIE)) (a1 : Int) (kf : Int → Option Ret) : Option Ret :=
  laws_heldEventS_l2 a0 N kf kf a1 (0 : Int)
noncomputable def laws_FnExactBallotsFor (N : Nat) (a0 : QLQIIIIILIELQIILIELQIIELILQIIIELQIIIIEIE) (a1 : (List Int)) (kf : Bool → Option Ret) : Option Ret :=
  bif (decide ((List.length a1 : Int) > (1048576 : Int))) then
    kf true
  else
    laws_szClub N a0 (1048576 : Int) (fun (r19_1 : Int) =>
      bif (decide (r19_1 < (0 : Int))) then
        kf true
      else
        laws_toClub N a0 (fun (r23_2 : QLQIIIIILIELQIILIELQIIELILQIIIELQIIIIEIE) =>
          laws_toIntS N a1 (fun (r25_3 : (List Int)) =>
            spec_BallotsFor N r23_2 r25_3 (fun (r26_4 : (List QIIIIE)) =>
              laws_toClub N a0 (fun (r28_5 : QLQIIIIILIELQIILIELQIIELILQIIIELQIIIIEIE) =>
                laws_toIntS N a1 (fun (r30_6 : (List Int)) =>
                  impl_BallotsFor N r28_5 r30_6 (fun (r33_7 : (List QIIIIE)) =>
                    laws_eqEventS N r33_7 r26_4 (fun (r36_8 : Bool) =>
                      bif (!r36_8) then
                        kf false
                      else
                        laws_toClub N a0 (fun (r40_9 : QLQIIIIILIELQIILIELQIIELILQIIIELQIIIIEIE) =>
                          laws_eqClub N r28_5 r40_9 (fun (r41_10 : Bool) =>
                            bif (!r41_10) then
                              kf false
                            else
                              laws_toIntS N a1 (fun (r45_11 : (List Int)) =>
                                laws_eqIntS N r30_6 r45_11 (fun (r46_12 : Bool) =>
                                  bif (!r46_12) then
                                    kf false
                                  else
                                    laws_markClub N r28_5 (1 : Int) (fun (r50_13 : Int) (z7_14 : QLQIIIIILIELQIILIELQIIELILQIIIELQIIIIEIE) =>
                                      laws_markIntS N r30_6 r50_13 (fun (r53_15 : Int) (z8_16 : (List Int)) =>
                                        bif (decide (r53_15 < (0 : Int))) then
                                          kf false
                                        else
                                          laws_eqEventS N r33_7 r26_4 (fun (r59_17 : Bool) =>
                                            bif (!r59_17) then
                                              kf false
                                            else
                                              laws_markEventS N r33_7 (1 : Int) (fun (r64_18 : Int) (z9_19 : (List QIIIIE)) =>
                                                laws_heldEventS N z9_19 (1 : Int) (fun (r67_20 : Int) =>
                                                  bif (decide (r67_20 < (0 : Int))) then
                                                    kf false
                                                  else
                                                    bif (r67_20 != r64_18) then
                                                      kf false
                                                    else
                                                      laws_toClub N a0 (fun (r74_21 : QLQIIIIILIELQIILIELQIIELILQIIIELQIIIIEIE) =>
                                                        laws_toIntS N a1 (fun (r76_22 : (List Int)) =>
                                                          impl_BallotsFor N r74_21 r76_22 (fun (r77_23 : (List QIIIIE)) =>
                                                            laws_eqEventS N r77_23 r26_4 (fun (r80_24 : Bool) =>
                                                              bif (!r80_24) then
                                                                kf false
                                                              else
                                                                laws_heldEventS N z9_19 (1 : Int) (fun (r84_25 : Int) =>
                                                                  bif (decide (r84_25 < (0 : Int))) then
                                                                    kf false
                                                                  else
                                                                    bif (r84_25 != r64_18) then
                                                                      kf false
                                                                    else
                                                                      kf true))))))))))))))))))))))
end Go.Pv.R
