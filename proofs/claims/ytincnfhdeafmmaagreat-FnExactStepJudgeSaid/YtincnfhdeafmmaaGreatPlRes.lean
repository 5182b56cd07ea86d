/- What the functions compute, as plain functions. -/
import Derived.Test.YtincnfhdeafmmaaGreatPv3
namespace Go.Pv.R
set_option linter.unusedVariables false
set_option linter.unusedSimpArgs false
abbrev tQIILIE : Ty := (.pair (.int .i64) (.pair (.int .i64) (.sl (.int .i64))))
abbrev QIILIE : Type := (Int × (Int × (List Int)))
def zQIILIE : QIILIE := ((0 : Int), ((0 : Int), ([] : (List Int))))
abbrev tQIIIIILIE : Ty := (.pair (.int .i64) (.pair (.int .i64) (.pair (.int .i64) (.pair (.int .i64) (.pair (.int .i64) (.sl (.int .i64)))))))
abbrev QIIIIILIE : Type := (Int × (Int × (Int × (Int × (Int × (List Int))))))
def zQIIIIILIE : QIIIIILIE := ((0 : Int), ((0 : Int), ((0 : Int), ((0 : Int), ((0 : Int), ([] : (List Int)))))))
abbrev tQIIE : Ty := (.pair (.int .i64) (.int .i64))
abbrev QIIE : Type := (Int × Int)
def zQIIE : QIIE := ((0 : Int), (0 : Int))
abbrev tQIIIE : Ty := (.pair (.int .i64) (.pair (.int .i64) (.int .i64)))
abbrev QIIIE : Type := (Int × (Int × Int))
def zQIIIE : QIIIE := ((0 : Int), ((0 : Int), (0 : Int)))
abbrev tQIIIIE : Ty := (.pair (.int .i64) (.pair (.int .i64) (.pair (.int .i64) (.int .i64))))
abbrev QIIIIE : Type := (Int × (Int × (Int × Int)))
def zQIIIIE : QIIIIE := ((0 : Int), ((0 : Int), ((0 : Int), (0 : Int))))
abbrev tQLQIIIIILIELQIILIELQIIELILQIIIELQIIIIEIE : Ty := (.pair (.sl tQIIIIILIE) (.pair (.sl tQIILIE) (.pair (.sl tQIIE) (.pair (.sl (.int .i64)) (.pair (.sl tQIIIE) (.pair (.sl tQIIIIE) (.int .i64)))))))
abbrev QLQIIIIILIELQIILIELQIIELILQIIIELQIIIIEIE : Type := ((List QIIIIILIE) × ((List QIILIE) × ((List QIIE) × ((List Int) × ((List QIIIE) × ((List QIIIIE) × Int))))))
abbrev tQLIIIE : Ty := (.pair (.sl (.int .u8)) (.pair (.int .i64) (.int .i64)))
noncomputable def laws_szIntS (N : Nat) (a0 : (List Int)) (a1 : Int) (kf : Int → Option Ret) : Option Ret :=
  bif (decide ((IntKind.wrap .i64 (a1 - (List.length a0 : Int))) < (0 : Int))) then
    kf (-1 : Int)
  else
    kf (IntKind.wrap .i64 (a1 - (List.length a0 : Int)))
noncomputable def laws_szTeam (N : Nat) (a0 : QIIIIILIE) (a1 : Int) (kf : Int → Option Ret) : Option Ret :=
  laws_szIntS N a0.2.2.2.2.2 a1 (fun (r8_1 : Int) =>
    bif (decide (r8_1 < (0 : Int))) then
      kf (-1 : Int)
    else
      kf r8_1)
noncomputable def laws_szTeamS_l5 (N : Nat) (x0_1 : (List QIIIIILIE)) : Nat → (Int → Option Ret) → (Int → Option Ret) → Int → Int → Option Ret
  | 0, _, _, _, _ => none
  | n_4 + 1, k5_0_6, k5_1_7, x1_2, x5_3 =>
    bif (decide (x5_3 < (List.length x0_1 : Int))) then
      bif (inB x5_3 (List.length x0_1)) then
        laws_szTeam N (List.getD x0_1 (Int.toNat x5_3) zQIIIIILIE) x1_2 (fun (r23_5 : Int) =>
          bif (decide (r23_5 < (0 : Int))) then
            k5_1_7 (-1 : Int)
          else
            (laws_szTeamS_l5 N x0_1 n_4 k5_0_6 k5_1_7) r23_5 (IntKind.wrap .i64 (x5_3 + (1 : Int))))
      else none
    else
      k5_0_6 x1_2
noncomputable def laws_szTeamS (N : Nat) (a0 : (List QIIIIILIE)) (a1 : Int) (kf : Int → Option Ret) : Option Ret :=
  bif (decide ((IntKind.wrap .i64 (a1 - (List.length a0 : Int))) < (0 : Int))) then
    kf (-1 : Int)
  else
    laws_szTeamS_l5 N a0 N kf kf (IntKind.wrap .i64 (a1 - (List.length a0 : Int))) (0 : Int)
noncomputable def laws_szJudge (N : Nat) (a0 : QIILIE) (a1 : Int) (kf : Int → Option Ret) : Option Ret :=
  laws_szIntS N a0.2.2 a1 (fun (r8_1 : Int) =>
    bif (decide (r8_1 < (0 : Int))) then
      kf (-1 : Int)
    else
      kf r8_1)
noncomputable def laws_szJudgeS_l5 (N : Nat) (x0_1 : (List QIILIE)) : Nat → (Int → Option Ret) → (Int → Option Ret) → Int → Int → Option Ret
  | 0, _, _, _, _ => none
  | n_4 + 1, k5_0_6, k5_1_7, x1_2, x5_3 =>
    bif (decide (x5_3 < (List.length x0_1 : Int))) then
      bif (inB x5_3 (List.length x0_1)) then
        laws_szJudge N (List.getD x0_1 (Int.toNat x5_3) zQIILIE) x1_2 (fun (r23_5 : Int) =>
          bif (decide (r23_5 < (0 : Int))) then
            k5_1_7 (-1 : Int)
          else
            (laws_szJudgeS_l5 N x0_1 n_4 k5_0_6 k5_1_7) r23_5 (IntKind.wrap .i64 (x5_3 + (1 : Int))))
      else none
    else
      k5_0_6 x1_2
noncomputable def laws_szJudgeS (N : Nat) (a0 : (List QIILIE)) (a1 : Int) (kf : Int → Option Ret) : Option Ret :=
  bif (decide ((IntKind.wrap .i64 (a1 - (List.length a0 : Int))) < (0 : Int))) then
    kf (-1 : Int)
  else
    laws_szJudgeS_l5 N a0 N kf kf (IntKind.wrap .i64 (a1 - (List.length a0 : Int))) (0 : Int)
noncomputable def laws_szPairS (N : Nat) (a0 : (List QIIE)) (a1 : Int) (kf : Int → Option Ret) : Option Ret :=
  bif (decide ((IntKind.wrap .i64 (a1 - (List.length a0 : Int))) < (0 : Int))) then
    kf (-1 : Int)
  else
    kf (IntKind.wrap .i64 (a1 - (List.length a0 : Int)))
noncomputable def laws_szBallotS (N : Nat) (a0 : (List QIIIE)) (a1 : Int) (kf : Int → Option Ret) : Option Ret :=
  bif (decide ((IntKind.wrap .i64 (a1 - (List.length a0 : Int))) < (0 : Int))) then
    kf (-1 : Int)
  else
    kf (IntKind.wrap .i64 (a1 - (List.length a0 : Int)))
noncomputable def laws_szLineS (N : Nat) (a0 : (List QIIIIE)) (a1 : Int) (kf : Int → Option Ret) : Option Ret :=
  bif (decide ((IntKind.wrap .i64 (a1 - (List.length a0 : Int))) < (0 : Int))) then
    kf (-1 : Int)
  else
    kf (IntKind.wrap .i64 (a1 - (List.length a0 : Int)))
noncomputable def laws_szClub (N : Nat) (a0 : QLQIIIIILIELQIILIELQIIELILQIIIELQIIIIEIE) (a1 : Int) (kf : Int → Option Ret) : Option Ret :=
  laws_szTeamS N a0.1 a1 (fun (r8_1 : Int) =>
    bif (decide (r8_1 < (0 : Int))) then
      kf (-1 : Int)
    else
      laws_szJudgeS N a0.2.1 r8_1 (fun (r14_2 : Int) =>
        bif (decide (r14_2 < (0 : Int))) then
          kf (-1 : Int)
        else
          laws_szPairS N a0.2.2.1 r14_2 (fun (r20_3 : Int) =>
            bif (decide (r20_3 < (0 : Int))) then
              kf (-1 : Int)
            else
              laws_szIntS N a0.2.2.2.1 r20_3 (fun (r26_4 : Int) =>
                bif (decide (r26_4 < (0 : Int))) then
                  kf (-1 : Int)
                else
                  laws_szBallotS N a0.2.2.2.2.1 r26_4 (fun (r32_5 : Int) =>
                    bif (decide (r32_5 < (0 : Int))) then
                      kf (-1 : Int)
                    else
                      laws_szLineS N a0.2.2.2.2.2.1 r32_5 (fun (r38_6 : Int) =>
                        bif (decide (r38_6 < (0 : Int))) then
                          kf (-1 : Int)
                        else
                          kf r38_6))))))
noncomputable def laws_toIntS_l3 (x0_1 : (List Int)) : Nat → ((List Int) → Option Ret) → (List Int) → Int → Option Ret
  | 0, _, _, _ => none
  | n_4 + 1, k3_0_5, x3_2, x4_3 =>
    bif (decide (x4_3 < (List.length x0_1 : Int))) then
      bif (inB x4_3 (List.length x0_1)) then
        bif (inB x4_3 (List.length x3_2)) then
          (laws_toIntS_l3 x0_1 n_4 k3_0_5) (List.set x3_2 (Int.toNat x4_3) (List.getD x0_1 (Int.toNat x4_3) (0 : Int))) (IntKind.wrap .i64 (x4_3 + (1 : Int)))
        else none
      else none
    else
      k3_0_5 x3_2
noncomputable def laws_toIntS (N : Nat) (a0 : (List Int)) (kf : (List Int) → Option Ret) : Option Ret :=
  bif (decide ((List.length a0 : Int) = (List.length a0 : Int)) && decide ((0 : Int) ≤ (List.length a0 : Int)) && decide ((List.length a0 : Int) ≤ 1099511627776)) then
    laws_toIntS_l3 a0 N kf (List.replicate (Int.toNat (List.length a0 : Int)) (0 : Int)) (0 : Int)
  else none
noncomputable def laws_toTeam (N : Nat) (a0 : QIIIIILIE) (kf : QIIIIILIE → Option Ret) : Option Ret :=
  laws_toIntS N a0.2.2.2.2.2 (fun (r21_1 : (List Int)) =>
    kf (a0.1, (a0.2.1, (a0.2.2.1, (a0.2.2.2.1, (a0.2.2.2.2.1, r21_1))))))
noncomputable def laws_toTeamS_l3 (N : Nat) (x0_1 : (List QIIIIILIE)) : Nat → ((List QIIIIILIE) → Option Ret) → (List QIIIIILIE) → Int → Option Ret
  | 0, _, _, _ => none
  | n_4 + 1, k3_0_6, x3_2, x4_3 =>
    bif (decide (x4_3 < (List.length x0_1 : Int))) then
      bif (inB x4_3 (List.length x0_1)) then
        laws_toTeam N (List.getD x0_1 (Int.toNat x4_3) zQIIIIILIE) (fun (r20_5 : QIIIIILIE) =>
          bif (inB x4_3 (List.length x3_2)) then
            (laws_toTeamS_l3 N x0_1 n_4 k3_0_6) (List.set x3_2 (Int.toNat x4_3) r20_5) (IntKind.wrap .i64 (x4_3 + (1 : Int)))
          else none)
      else none
    else
      k3_0_6 x3_2
noncomputable def laws_toTeamS (N : Nat) (a0 : (List QIIIIILIE)) (kf : (List QIIIIILIE) → Option Ret) : Option Ret :=
  bif (decide ((List.length a0 : Int) = (List.length a0 : Int)) && decide ((0 : Int) ≤ (List.length a0 : Int)) && decide ((List.length a0 : Int) ≤ 1099511627776)) then
    laws_toTeamS_l3 N a0 N kf (List.replicate (Int.toNat (List.length a0 : Int)) ((0 : Int), ((0 : Int), ((0 : Int), ((0 : Int), ((0 : Int), ([] : (List Int)))))))) (0 : Int)
  else none
noncomputable def laws_toJudge (N : Nat) (a0 : QIILIE) (kf : QIILIE → Option Ret) : Option Ret :=
  laws_toIntS N a0.2.2 (fun (r12_1 : (List Int)) =>
    kf (a0.1, (a0.2.1, r12_1)))
noncomputable def laws_toJudgeS_l3 (N : Nat) (x0_1 : (List QIILIE)) : Nat → ((List QIILIE) → Option Ret) → (List QIILIE) → Int → Option Ret
  | 0, _, _, _ => none
  | n_4 + 1, k3_0_6, x3_2, x4_3 =>
    bif (decide (x4_3 < (List.length x0_1 : Int))) then
      bif (inB x4_3 (List.length x0_1)) then
        laws_toJudge N (List.getD x0_1 (Int.toNat x4_3) zQIILIE) (fun (r20_5 : QIILIE) =>
          bif (inB x4_3 (List.length x3_2)) then
            (laws_toJudgeS_l3 N x0_1 n_4 k3_0_6) (List.set x3_2 (Int.toNat x4_3) r20_5) (IntKind.wrap .i64 (x4_3 + (1 : Int)))
          else none)
      else none
    else
      k3_0_6 x3_2
noncomputable def laws_toJudgeS (N : Nat) (a0 : (List QIILIE)) (kf : (List QIILIE) → Option Ret) : Option Ret :=
  bif (decide ((List.length a0 : Int) = (List.length a0 : Int)) && decide ((0 : Int) ≤ (List.length a0 : Int)) && decide ((List.length a0 : Int) ≤ 1099511627776)) then
    laws_toJudgeS_l3 N a0 N kf (List.replicate (Int.toNat (List.length a0 : Int)) ((0 : Int), ((0 : Int), ([] : (List Int))))) (0 : Int)
  else none
noncomputable def laws_toPair (N : Nat) (a0 : QIIE) (kf : QIIE → Option Ret) : Option Ret :=
  kf (a0.1, a0.2)
noncomputable def laws_toPairS_l3 (N : Nat) (x0_1 : (List QIIE)) : Nat → ((List QIIE) → Option Ret) → (List QIIE) → Int → Option Ret
  | 0, _, _, _ => none
  | n_4 + 1, k3_0_6, x3_2, x4_3 =>
    bif (decide (x4_3 < (List.length x0_1 : Int))) then
      bif (inB x4_3 (List.length x0_1)) then
        laws_toPair N (List.getD x0_1 (Int.toNat x4_3) zQIIE) (fun (r20_5 : QIIE) =>
          bif (inB x4_3 (List.length x3_2)) then
            (laws_toPairS_l3 N x0_1 n_4 k3_0_6) (List.set x3_2 (Int.toNat x4_3) r20_5) (IntKind.wrap .i64 (x4_3 + (1 : Int)))
          else none)
      else none
    else
      k3_0_6 x3_2
noncomputable def laws_toPairS (N : Nat) (a0 : (List QIIE)) (kf : (List QIIE) → Option Ret) : Option Ret :=
  bif (decide ((List.length a0 : Int) = (List.length a0 : Int)) && decide ((0 : Int) ≤ (List.length a0 : Int)) && decide ((List.length a0 : Int) ≤ 1099511627776)) then
    laws_toPairS_l3 N a0 N kf (List.replicate (Int.toNat (List.length a0 : Int)) ((0 : Int), (0 : Int))) (0 : Int)
  else none
noncomputable def laws_toBallot (N : Nat) (a0 : QIIIE) (kf : QIIIE → Option Ret) : Option Ret :=
  kf (a0.1, (a0.2.1, a0.2.2))
noncomputable def laws_toBallotS_l3 (N : Nat) (x0_1 : (List QIIIE)) : Nat → ((List QIIIE) → Option Ret) → (List QIIIE) → Int → Option Ret
  | 0, _, _, _ => none
  | n_4 + 1, k3_0_6, x3_2, x4_3 =>
    bif (decide (x4_3 < (List.length x0_1 : Int))) then
      bif (inB x4_3 (List.length x0_1)) then
        laws_toBallot N (List.getD x0_1 (Int.toNat x4_3) zQIIIE) (fun (r20_5 : QIIIE) =>
          bif (inB x4_3 (List.length x3_2)) then
            (laws_toBallotS_l3 N x0_1 n_4 k3_0_6) (List.set x3_2 (Int.toNat x4_3) r20_5) (IntKind.wrap .i64 (x4_3 + (1 : Int)))
          else none)
      else none
    else
      k3_0_6 x3_2
noncomputable def laws_toBallotS (N : Nat) (a0 : (List QIIIE)) (kf : (List QIIIE) → Option Ret) : Option Ret :=
  bif (decide ((List.length a0 : Int) = (List.length a0 : Int)) && decide ((0 : Int) ≤ (List.length a0 : Int)) && decide ((List.length a0 : Int) ≤ 1099511627776)) then
    laws_toBallotS_l3 N a0 N kf (List.replicate (Int.toNat (List.length a0 : Int)) ((0 : Int), ((0 : Int), (0 : Int)))) (0 : Int)
  else none
noncomputable def laws_toLine (N : Nat) (a0 : QIIIIE) (kf : QIIIIE → Option Ret) : Option Ret :=
  kf (a0.1, (a0.2.1, (a0.2.2.1, a0.2.2.2)))
noncomputable def laws_toLineS_l3 (N : Nat) (x0_1 : (List QIIIIE)) : Nat → ((List QIIIIE) → Option Ret) → (List QIIIIE) → Int → Option Ret
  | 0, _, _, _ => none
  | n_4 + 1, k3_0_6, x3_2, x4_3 =>
    bif (decide (x4_3 < (List.length x0_1 : Int))) then
      bif (inB x4_3 (List.length x0_1)) then
        laws_toLine N (List.getD x0_1 (Int.toNat x4_3) zQIIIIE) (fun (r20_5 : QIIIIE) =>
          bif (inB x4_3 (List.length x3_2)) then
            (laws_toLineS_l3 N x0_1 n_4 k3_0_6) (List.set x3_2 (Int.toNat x4_3) r20_5) (IntKind.wrap .i64 (x4_3 + (1 : Int)))
          else none)
      else none
    else
      k3_0_6 x3_2
noncomputable def laws_toLineS (N : Nat) (a0 : (List QIIIIE)) (kf : (List QIIIIE) → Option Ret) : Option Ret :=
  bif (decide ((List.length a0 : Int) = (List.length a0 : Int)) && decide ((0 : Int) ≤ (List.length a0 : Int)) && decide ((List.length a0 : Int) ≤ 1099511627776)) then
    laws_toLineS_l3 N a0 N kf (List.replicate (Int.toNat (List.length a0 : Int)) ((0 : Int), ((0 : Int), ((0 : Int), (0 : Int))))) (0 : Int)
  else none
noncomputable def laws_toClub (N : Nat) (a0 : QLQIIIIILIELQIILIELQIIELILQIIIELQIIIIEIE) (kf : QLQIIIIILIELQIILIELQIIELILQIIIELQIIIIEIE → Option Ret) : Option Ret :=
  laws_toTeamS N a0.1 (fun (r6_1 : (List QIIIIILIE)) =>
    laws_toJudgeS N a0.2.1 (fun (r10_2 : (List QIILIE)) =>
      laws_toPairS N a0.2.2.1 (fun (r14_3 : (List QIIE)) =>
        laws_toIntS N a0.2.2.2.1 (fun (r18_4 : (List Int)) =>
          laws_toBallotS N a0.2.2.2.2.1 (fun (r22_5 : (List QIIIE)) =>
            laws_toLineS N a0.2.2.2.2.2.1 (fun (r26_6 : (List QIIIIE)) =>
              kf (r6_1, (r10_2, (r14_3, (r18_4, (r22_5, (r26_6, a0.2.2.2.2.2.2))))))))))))
noncomputable def spec_l19Copy_l3 (x0_1 : (List QIIIIILIE)) : Nat → ((List QIIIIILIE) → Option Ret) → (List QIIIIILIE) → Int → Option Ret
  | 0, _, _, _ => none
  | n_4 + 1, k3_0_5, x3_2, x4_3 =>
    bif (decide (x4_3 < (List.length x0_1 : Int))) then
      bif (inB x4_3 (List.length x0_1)) then
        bif (decide ((List.length ([] : (List Int)) + List.length (List.getD x0_1 (Int.toNat x4_3) zQIIIIILIE).2.2.2.2.2) * 1 ≤ 4398046511104)) then
          bif (decide ((List.length x3_2 + List.length [((List.getD x0_1 (Int.toNat x4_3) zQIIIIILIE).1, ((List.getD x0_1 (Int.toNat x4_3) zQIIIIILIE).2.1, ((List.getD x0_1 (Int.toNat x4_3) zQIIIIILIE).2.2.1, ((List.getD x0_1 (Int.toNat x4_3) zQIIIIILIE).2.2.2.1, ((List.getD x0_1 (Int.toNat x4_3) zQIIIIILIE).2.2.2.2.1, (([] : (List Int)) ++ (List.getD x0_1 (Int.toNat x4_3) zQIIIIILIE).2.2.2.2.2))))))]) * 6 ≤ 4398046511104)) then
            (spec_l19Copy_l3 x0_1 n_4 k3_0_5) (x3_2 ++ [((List.getD x0_1 (Int.toNat x4_3) zQIIIIILIE).1, ((List.getD x0_1 (Int.toNat x4_3) zQIIIIILIE).2.1, ((List.getD x0_1 (Int.toNat x4_3) zQIIIIILIE).2.2.1, ((List.getD x0_1 (Int.toNat x4_3) zQIIIIILIE).2.2.2.1, ((List.getD x0_1 (Int.toNat x4_3) zQIIIIILIE).2.2.2.2.1, (([] : (List Int)) ++ (List.getD x0_1 (Int.toNat x4_3) zQIIIIILIE).2.2.2.2.2))))))]) (IntKind.wrap .i64 (x4_3 + (1 : Int)))
          else none
        else none
      else none
    else
      k3_0_5 x3_2
noncomputable def spec_l19Copy (N : Nat) (a0 : (List QIIIIILIE)) (kf : (List QIIIIILIE) → Option Ret) : Option Ret :=
  spec_l19Copy_l3 a0 N kf ([] : (List QIIIIILIE)) (0 : Int)
noncomputable def spec_l33Judges_l3 (x0_1 : (List QIILIE)) : Nat → ((List QIILIE) → Option Ret) → (List QIILIE) → Int → Option Ret
  | 0, _, _, _ => none
  | n_4 + 1, k3_0_5, x3_2, x4_3 =>
    bif (decide (x4_3 < (List.length x0_1 : Int))) then
      bif (inB x4_3 (List.length x0_1)) then
        bif (decide ((List.length ([] : (List Int)) + List.length (List.getD x0_1 (Int.toNat x4_3) zQIILIE).2.2) * 1 ≤ 4398046511104)) then
          bif (decide ((List.length x3_2 + List.length [((List.getD x0_1 (Int.toNat x4_3) zQIILIE).1, ((List.getD x0_1 (Int.toNat x4_3) zQIILIE).2.1, (([] : (List Int)) ++ (List.getD x0_1 (Int.toNat x4_3) zQIILIE).2.2)))]) * 3 ≤ 4398046511104)) then
            (spec_l33Judges_l3 x0_1 n_4 k3_0_5) (x3_2 ++ [((List.getD x0_1 (Int.toNat x4_3) zQIILIE).1, ((List.getD x0_1 (Int.toNat x4_3) zQIILIE).2.1, (([] : (List Int)) ++ (List.getD x0_1 (Int.toNat x4_3) zQIILIE).2.2)))]) (IntKind.wrap .i64 (x4_3 + (1 : Int)))
          else none
        else none
      else none
    else
      k3_0_5 x3_2
noncomputable def spec_l33Judges (N : Nat) (a0 : (List QIILIE)) (kf : (List QIILIE) → Option Ret) : Option Ret :=
  spec_l33Judges_l3 a0 N kf ([] : (List QIILIE)) (0 : Int)
noncomputable def spec_l33Copy (N : Nat) (a0 : QLQIIIIILIELQIILIELQIIELILQIIIELQIIIIEIE) (kf : QLQIIIIILIELQIILIELQIIELILQIIIELQIIIIEIE → Option Ret) : Option Ret :=
  spec_l19Copy N a0.1 (fun (r5_1 : (List QIIIIILIE)) =>
    spec_l33Judges N a0.2.1 (fun (r8_2 : (List QIILIE)) =>
      bif (decide ((List.length ([] : (List QIIE)) + List.length a0.2.2.1) * 2 ≤ 4398046511104)) then
        bif (decide ((List.length ([] : (List Int)) + List.length a0.2.2.2.1) * 1 ≤ 4398046511104)) then
          bif (decide ((List.length ([] : (List QIIIE)) + List.length a0.2.2.2.2.1) * 3 ≤ 4398046511104)) then
            bif (decide ((List.length ([] : (List QIIIIE)) + List.length a0.2.2.2.2.2.1) * 4 ≤ 4398046511104)) then
              kf (r5_1, (r8_2, ((([] : (List QIIE)) ++ a0.2.2.1), ((([] : (List Int)) ++ a0.2.2.2.1), ((([] : (List QIIIE)) ++ a0.2.2.2.2.1), ((([] : (List QIIIIE)) ++ a0.2.2.2.2.2.1), a0.2.2.2.2.2.2))))))
            else none
          else none
        else none
      else none))
noncomputable def spec_l1In (N : Nat) (a0 : Int) (a1 : Int) (a2 : Int) (kf : Bool → Option Ret) : Option Ret :=
  bif (decide (a0 ≥ a1)) then
    kf (decide (a0 ≤ a2))
  else
    kf false
noncomputable def spec_FindTeam_l2 (x0_1 : (List QIIIIILIE)) (x1_2 : Int) : Nat → (Option Ret) → (Int → Option Ret) → Int → Option Ret
  | 0, _, _, _ => none
  | n_4 + 1, k2_0_5, k2_1_6, x5_3 =>
    bif (decide (x5_3 < (List.length x0_1 : Int))) then
      bif (inB x5_3 (List.length x0_1)) then
        bif ((List.getD x0_1 (Int.toNat x5_3) zQIIIIILIE).1 == x1_2) then
          k2_1_6 x5_3
        else
          (spec_FindTeam_l2 x0_1 x1_2 n_4 k2_0_5 k2_1_6) (IntKind.wrap .i64 (x5_3 + (1 : Int)))
      else none
    else
      k2_0_5
noncomputable def spec_FindTeam (N : Nat) (a0 : (List QIIIIILIE)) (a1 : Int) (kf : Int → Option Ret) : Option Ret :=
  spec_FindTeam_l2 a0 a1 N (kf (-1 : Int)) kf (0 : Int)
noncomputable def spec_l19Count_l3 (x0_1 : (List Int)) (x1_2 : Int) : Nat → (Int → Option Ret) → Int → Int → Option Ret
  | 0, _, _, _ => none
  | n_5 + 1, k3_0_7, x5_3, x6_4 =>
    bif (decide (x6_4 < (List.length x0_1 : Int))) then
      bif (inB x6_4 (List.length x0_1)) then
        bif ((List.getD x0_1 (Int.toNat x6_4) (0 : Int)) == x1_2) then
          (spec_l19Count_l3 x0_1 x1_2 n_5 k3_0_7) (IntKind.wrap .i64 (x5_3 + (1 : Int))) (IntKind.wrap .i64 (x6_4 + (1 : Int)))
        else
          (spec_l19Count_l3 x0_1 x1_2 n_5 k3_0_7) x5_3 (IntKind.wrap .i64 (x6_4 + (1 : Int)))
      else none
    else
      k3_0_7 x5_3
noncomputable def spec_l19Count (N : Nat) (a0 : (List Int)) (a1 : Int) (kf : Int → Option Ret) : Option Ret :=
  spec_l19Count_l3 a0 a1 N kf (0 : Int) (0 : Int)
noncomputable def spec_AreTeams_l8 (N : Nat) (x0_9 : (List QIIIIILIE)) (x3_10 : Int) (x4_11 : QIIIIILIE) : Nat → (Option Ret) → (Bool → Option Ret) → Int → Option Ret
  | 0, _, _, _ => none
  | n_13 + 1, k8_0_17, k8_1_18, x5_12 =>
    bif (decide (x5_12 < (List.length x4_11.2.2.2.2.2 : Int))) then
      bif (inB x5_12 (List.length x4_11.2.2.2.2.2)) then
        spec_FindTeam N x0_9 (List.getD x4_11.2.2.2.2.2 (Int.toNat x5_12) (0 : Int)) (fun (r85_14 : Int) =>
          bif (decide (r85_14 < (0 : Int))) then
            k8_1_18 false
          else
            bif (r85_14 == x3_10) then
              k8_1_18 false
            else
              bif (inB r85_14 (List.length x0_9)) then
                bif (inB r85_14 (List.length x0_9)) then
                  spec_l19Count N (List.getD x0_9 (Int.toNat r85_14) zQIIIIILIE).2.2.2.2.2 x4_11.1 (fun (r101_15 : Int) =>
                    spec_l19Count N x4_11.2.2.2.2.2 (List.getD x0_9 (Int.toNat r85_14) zQIIIIILIE).1 (fun (r109_16 : Int) =>
                      bif (r101_15 != r109_16) then
                        k8_1_18 false
                      else
                        (spec_AreTeams_l8 N x0_9 x3_10 x4_11 n_13 k8_0_17 k8_1_18) (IntKind.wrap .i64 (x5_12 + (1 : Int)))))
                else none
              else none)
      else none
    else
      k8_0_17
noncomputable def spec_AreTeams_l2 (N : Nat) (x0_1 : (List QIIIIILIE)) : Nat → (Option Ret) → (Bool → Option Ret) → Int → Option Ret
  | 0, _, _, _ => none
  | n_3 + 1, k2_0_21, k2_1_22, x3_2 =>
    bif (decide (x3_2 < (List.length x0_1 : Int))) then
      bif (inB x3_2 (List.length x0_1)) then
        spec_l1In N (List.getD x0_1 (Int.toNat x3_2) zQIIIIILIE).1 (1 : Int) (99 : Int) (fun (r19_4 : Bool) =>
          bif (!r19_4) then
            k2_1_22 false
          else
            spec_l1In N (List.getD x0_1 (Int.toNat x3_2) zQIIIIILIE).2.1 (1 : Int) (99 : Int) (fun (r24_5 : Bool) =>
              bif (!r24_5) then
                k2_1_22 false
              else
                spec_l1In N (List.getD x0_1 (Int.toNat x3_2) zQIIIIILIE).2.2.1 (0 : Int) (List.length (List.getD x0_1 (Int.toNat x3_2) zQIIIIILIE).2.2.2.2.2 : Int) (fun (r33_6 : Bool) =>
                  bif (!r33_6) then
                    k2_1_22 false
                  else
                    spec_l1In N (List.getD x0_1 (Int.toNat x3_2) zQIIIIILIE).2.2.2.2.1 (0 : Int) (List.length (List.getD x0_1 (Int.toNat x3_2) zQIIIIILIE).2.2.2.2.2 : Int) (fun (r42_7 : Bool) =>
                      bif (!r42_7) then
                        k2_1_22 false
                      else
                        spec_l1In N (List.getD x0_1 (Int.toNat x3_2) zQIIIIILIE).2.2.2.1 (0 : Int) (100000 : Int) (fun (r48_8 : Bool) =>
                          bif (!r48_8) then
                            k2_1_22 false
                          else
                            bif (decide ((List.length (List.getD x0_1 (Int.toNat x3_2) zQIIIIILIE).2.2.2.2.2 : Int) > (20 : Int))) then
                              k2_1_22 false
                            else
                              bif (decide (x3_2 > (0 : Int))) then
                                bif (inB (IntKind.wrap .i64 (x3_2 - (1 : Int))) (List.length x0_1)) then
                                  bif (decide ((List.getD x0_1 (Int.toNat (IntKind.wrap .i64 (x3_2 - (1 : Int)))) zQIIIIILIE).1 ≥ (List.getD x0_1 (Int.toNat x3_2) zQIIIIILIE).1)) then
                                    k2_1_22 false
                                  else
                                    spec_AreTeams_l8 N x0_1 x3_2 (List.getD x0_1 (Int.toNat x3_2) zQIIIIILIE) N ((spec_AreTeams_l2 N x0_1 n_3 k2_0_21 k2_1_22) (IntKind.wrap .i64 (x3_2 + (1 : Int)))) k2_1_22 (0 : Int)
                                else none
                              else
                                spec_AreTeams_l8 N x0_1 x3_2 (List.getD x0_1 (Int.toNat x3_2) zQIIIIILIE) N ((spec_AreTeams_l2 N x0_1 n_3 k2_0_21 k2_1_22) (IntKind.wrap .i64 (x3_2 + (1 : Int)))) k2_1_22 (0 : Int))))))
      else none
    else
      k2_0_21
noncomputable def spec_AreTeams (N : Nat) (a0 : (List QIIIIILIE)) (kf : Bool → Option Ret) : Option Ret :=
  spec_AreTeams_l2 N a0 N (kf (decide ((List.length a0 : Int) ≤ (10 : Int)))) kf (0 : Int)
noncomputable def spec_AreJudges_l7 (N : Nat) (x0_6 : (List QIILIE)) (x3_7 : Int) : Nat → (Option Ret) → (Bool → Option Ret) → Int → Option Ret
  | 0, _, _, _ => none
  | n_9 + 1, k7_0_11, k7_1_12, x4_8 =>
    bif (inB x3_7 (List.length x0_6)) then
      bif (decide (x4_8 < (List.length (List.getD x0_6 (Int.toNat x3_7) zQIILIE).2.2 : Int))) then
        bif (inB x3_7 (List.length x0_6)) then
          bif (inB x4_8 (List.length (List.getD x0_6 (Int.toNat x3_7) zQIILIE).2.2)) then
            spec_l1In N (List.getD (List.getD x0_6 (Int.toNat x3_7) zQIILIE).2.2 (Int.toNat x4_8) (0 : Int)) (1 : Int) (99 : Int) (fun (r63_10 : Bool) =>
              bif (!r63_10) then
                k7_1_12 false
              else
                bif (decide (x4_8 > (0 : Int))) then
                  bif (inB x3_7 (List.length x0_6)) then
                    bif (inB (IntKind.wrap .i64 (x4_8 - (1 : Int))) (List.length (List.getD x0_6 (Int.toNat x3_7) zQIILIE).2.2)) then
                      bif (inB x3_7 (List.length x0_6)) then
                        bif (inB x4_8 (List.length (List.getD x0_6 (Int.toNat x3_7) zQIILIE).2.2)) then
                          bif (decide ((List.getD (List.getD x0_6 (Int.toNat x3_7) zQIILIE).2.2 (Int.toNat (IntKind.wrap .i64 (x4_8 - (1 : Int)))) (0 : Int)) ≥ (List.getD (List.getD x0_6 (Int.toNat x3_7) zQIILIE).2.2 (Int.toNat x4_8) (0 : Int)))) then
                            k7_1_12 false
                          else
                            (spec_AreJudges_l7 N x0_6 x3_7 n_9 k7_0_11 k7_1_12) (IntKind.wrap .i64 (x4_8 + (1 : Int)))
                        else none
                      else none
                    else none
                  else none
                else
                  (spec_AreJudges_l7 N x0_6 x3_7 n_9 k7_0_11 k7_1_12) (IntKind.wrap .i64 (x4_8 + (1 : Int))))
          else none
        else none
      else
        k7_0_11
    else none
noncomputable def spec_AreJudges_l2 (N : Nat) (x0_1 : (List QIILIE)) : Nat → (Option Ret) → (Bool → Option Ret) → Int → Option Ret
  | 0, _, _, _ => none
  | n_3 + 1, k2_0_15, k2_1_16, x3_2 =>
    bif (decide (x3_2 < (List.length x0_1 : Int))) then
      bif (inB x3_2 (List.length x0_1)) then
        spec_l1In N (List.getD x0_1 (Int.toNat x3_2) zQIILIE).1 (1 : Int) (99 : Int) (fun (r16_4 : Bool) =>
          bif (!r16_4) then
            k2_1_16 false
          else
            bif (inB x3_2 (List.length x0_1)) then
              spec_l1In N (List.getD x0_1 (Int.toNat x3_2) zQIILIE).2.1 (1 : Int) (99 : Int) (fun (r24_5 : Bool) =>
                bif (!r24_5) then
                  k2_1_16 false
                else
                  bif (decide (x3_2 > (0 : Int))) then
                    bif (inB (IntKind.wrap .i64 (x3_2 - (1 : Int))) (List.length x0_1)) then
                      bif (inB x3_2 (List.length x0_1)) then
                        bif (decide ((List.getD x0_1 (Int.toNat (IntKind.wrap .i64 (x3_2 - (1 : Int)))) zQIILIE).1 ≥ (List.getD x0_1 (Int.toNat x3_2) zQIILIE).1)) then
                          k2_1_16 false
                        else
                          spec_AreJudges_l7 N x0_1 x3_2 N ((spec_AreJudges_l2 N x0_1 n_3 k2_0_15 k2_1_16) (IntKind.wrap .i64 (x3_2 + (1 : Int)))) k2_1_16 (0 : Int)
                      else none
                    else none
                  else
                    spec_AreJudges_l7 N x0_1 x3_2 N ((spec_AreJudges_l2 N x0_1 n_3 k2_0_15 k2_1_16) (IntKind.wrap .i64 (x3_2 + (1 : Int)))) k2_1_16 (0 : Int))
            else none)
      else none
    else
      k2_0_15
noncomputable def spec_AreJudges (N : Nat) (a0 : (List QIILIE)) (kf : Bool → Option Ret) : Option Ret :=
  spec_AreJudges_l2 N a0 N (kf (decide ((List.length a0 : Int) ≤ (10 : Int)))) kf (0 : Int)
noncomputable def spec_Mod (N : Nat) (a0 : Int) (a1 : Int) (kf : Int → Option Ret) : Option Ret :=
  spec_l1In N a1 (1 : Int) (1000000000000 : Int) (fun (r6_1 : Bool) =>
    bif (!r6_1) then
      kf (0 : Int)
    else
      bif (!decide (a1 = 0)) then
        bif (!decide (a1 = 0)) then
          kf (Int.tmod (IntKind.wrap .i64 ((Int.tmod a0 a1) + a1)) a1)
        else none
      else none)
noncomputable def spec_Hash_l3 (N : Nat) (x0_1 : (List Int)) : Nat → (Int → Option Ret) → Int → Int → Option Ret
  | 0, _, _, _ => none
  | n_4 + 1, k3_0_6, x3_2, x4_3 =>
    bif (decide (x4_3 < (List.length x0_1 : Int))) then
      bif (inB x4_3 (List.length x0_1)) then
        spec_Mod N (List.getD x0_1 (Int.toNat x4_3) (0 : Int)) (2147483647 : Int) (fun (r17_5 : Int) =>
          (spec_Hash_l3 N x0_1 n_4 k3_0_6) (Int.tmod (IntKind.wrap .i64 ((IntKind.wrap .i64 ((IntKind.wrap .i64 (x3_2 * (1000003 : Int))) + r17_5)) + (13 : Int))) (2147483647 : Int)) (IntKind.wrap .i64 (x4_3 + (1 : Int))))
      else none
    else
      k3_0_6 x3_2
noncomputable def spec_Hash (N : Nat) (a0 : (List Int)) (kf : Int → Option Ret) : Option Ret :=
  spec_Hash_l3 N a0 N kf (11 : Int) (0 : Int)
noncomputable def spec_l27Seal (N : Nat) (a0 : Int) (a1 : QIIIIE) (kf : Int → Option Ret) : Option Ret :=
  spec_Hash N [a0, a1.1, a1.2.1, a1.2.2.1] kf
noncomputable def spec_AreMinutes_l3 (N : Nat) (x0_1 : (List QIIIIE)) : Nat → (Option Ret) → (Bool → Option Ret) → Int → Int → Option Ret
  | 0, _, _, _, _ => none
  | n_4 + 1, k3_0_8, k3_1_9, x3_2, x4_3 =>
    bif (decide (x4_3 < (List.length x0_1 : Int))) then
      bif (decide ((List.length x0_1 : Int) ≤ (200 : Int))) then
        bif (inB x4_3 (List.length x0_1)) then
          spec_l27Seal N x3_2 (List.getD x0_1 (Int.toNat x4_3) zQIIIIE) (fun (r23_5 : Int) =>
            bif ((List.getD x0_1 (Int.toNat x4_3) zQIIIIE).1 != (IntKind.wrap .i64 (x4_3 + (1 : Int)))) then
              k3_1_9 false
            else
              spec_l1In N (List.getD x0_1 (Int.toNat x4_3) zQIIIIE).2.1 (1 : Int) (9 : Int) (fun (r32_6 : Bool) =>
                bif (!r32_6) then
                  k3_1_9 false
                else
                  spec_l1In N (List.getD x0_1 (Int.toNat x4_3) zQIIIIE).2.2.1 (0 : Int) (99 : Int) (fun (r38_7 : Bool) =>
                    bif (!r38_7) then
                      k3_1_9 false
                    else
                      bif ((List.getD x0_1 (Int.toNat x4_3) zQIIIIE).2.2.2 != r23_5) then
                        k3_1_9 false
                      else
                        (spec_AreMinutes_l3 N x0_1 n_4 k3_0_8 k3_1_9) r23_5 (IntKind.wrap .i64 (x4_3 + (1 : Int))))))
        else none
      else
        k3_0_8
    else
      k3_0_8
noncomputable def spec_AreMinutes (N : Nat) (a0 : (List QIIIIE)) (kf : Bool → Option Ret) : Option Ret :=
  spec_AreMinutes_l3 N a0 N (kf (decide ((List.length a0 : Int) ≤ (200 : Int)))) kf (0 : Int) (0 : Int)
noncomputable def spec_TotalWins_l3 (N : Nat) (x0_1 : (List QIIIIILIE)) : Nat → (Int → Option Ret) → Int → Int → Option Ret
  | 0, _, _, _ => none
  | n_4 + 1, k3_0_6, x3_2, x4_3 =>
    bif (decide (x4_3 < (List.length x0_1 : Int))) then
      spec_AreTeams N x0_1 (fun (r11_5 : Bool) =>
        bif r11_5 then
          bif (inB x4_3 (List.length x0_1)) then
            (spec_TotalWins_l3 N x0_1 n_4 k3_0_6) (IntKind.wrap .i64 (x3_2 + (List.getD x0_1 (Int.toNat x4_3) zQIIIIILIE).2.2.1)) (IntKind.wrap .i64 (x4_3 + (1 : Int)))
          else none
        else
          k3_0_6 x3_2)
    else
      k3_0_6 x3_2
noncomputable def spec_TotalWins (N : Nat) (a0 : (List QIIIIILIE)) (kf : Int → Option Ret) : Option Ret :=
  spec_TotalWins_l3 N a0 N kf (0 : Int) (0 : Int)
noncomputable def spec_l4Has_l2 (x0_1 : (List Int)) (x1_2 : Int) : Nat → (Option Ret) → (Bool → Option Ret) → Int → Option Ret
  | 0, _, _, _ => none
  | n_4 + 1, k2_0_5, k2_1_6, x5_3 =>
    bif (decide (x5_3 < (List.length x0_1 : Int))) then
      bif (inB x5_3 (List.length x0_1)) then
        bif ((List.getD x0_1 (Int.toNat x5_3) (0 : Int)) == x1_2) then
          k2_1_6 true
        else
          (spec_l4Has_l2 x0_1 x1_2 n_4 k2_0_5 k2_1_6) (IntKind.wrap .i64 (x5_3 + (1 : Int)))
      else none
    else
      k2_0_5
noncomputable def spec_l4Has (N : Nat) (a0 : (List Int)) (a1 : Int) (kf : Bool → Option Ret) : Option Ret :=
  spec_l4Has_l2 a0 a1 N (kf false) kf (0 : Int)
noncomputable def spec_HaveMet (N : Nat) (a0 : (List QIIIIILIE)) (a1 : Int) (a2 : Int) (kf : Bool → Option Ret) : Option Ret :=
  spec_FindTeam N a0 a1 (fun (r10_1 : Int) =>
    bif (decide (r10_1 ≥ (0 : Int))) then
      bif (inB r10_1 (List.length a0)) then
        spec_l4Has N (List.getD a0 (Int.toNat r10_1) zQIIIIILIE).2.2.2.2.2 a2 kf
      else none
    else
      kf false)
noncomputable def spec_MayMeet (N : Nat) (a0 : (List QIIIIILIE)) (a1 : Int) (a2 : Int) (kf : Bool → Option Ret) : Option Ret :=
  spec_FindTeam N a0 a1 (fun (r11_1 : Int) =>
    spec_FindTeam N a0 a2 (fun (r14_2 : Int) =>
      spec_AreTeams N a0 (fun (r16_3 : Bool) =>
        bif r16_3 then
          bif (decide (r11_1 ≥ (0 : Int))) then
            bif (decide (r14_2 ≥ (0 : Int))) then
              bif (r11_1 != r14_2) then
                bif (inB r11_1 (List.length a0)) then
                  bif (inB r14_2 (List.length a0)) then
                    bif ((List.getD a0 (Int.toNat r11_1) zQIIIIILIE).2.1 != (List.getD a0 (Int.toNat r14_2) zQIIIIILIE).2.1) then
                      spec_HaveMet N a0 a1 a2 (fun (r47_4 : Bool) =>
                        kf (!r47_4))
                    else
                      kf false
                  else none
                else none
              else
                kf false
            else
              kf false
          else
            kf false
        else
          kf false)))
noncomputable def spec_IsRound_l3 (N : Nat) (x0_1 : (List QIIIIILIE)) (x1_2 : (List QIIE)) : Nat → ((List Int) → Option Ret) → (Bool → Option Ret) → (List Int) → Int → Option Ret
  | 0, _, _, _, _ => none
  | n_5 + 1, k3_0_9, k3_1_10, x5_3, x6_4 =>
    bif (decide (x6_4 < (List.length x1_2 : Int))) then
      bif (inB x6_4 (List.length x1_2)) then
        bif (inB x6_4 (List.length x1_2)) then
          spec_MayMeet N x0_1 (List.getD x1_2 (Int.toNat x6_4) zQIIE).1 (List.getD x1_2 (Int.toNat x6_4) zQIIE).2 (fun (r25_6 : Bool) =>
            bif (!r25_6) then
              k3_1_10 false
            else
              bif (inB x6_4 (List.length x1_2)) then
                spec_l4Has N x5_3 (List.getD x1_2 (Int.toNat x6_4) zQIIE).1 (fun (r34_7 : Bool) =>
                  bif r34_7 then
                    k3_1_10 false
                  else
                    bif (inB x6_4 (List.length x1_2)) then
                      spec_l4Has N x5_3 (List.getD x1_2 (Int.toNat x6_4) zQIIE).2 (fun (r43_8 : Bool) =>
                        bif r43_8 then
                          k3_1_10 false
                        else
                          bif (inB x6_4 (List.length x1_2)) then
                            bif (inB x6_4 (List.length x1_2)) then
                              bif (decide ((List.length x5_3 + List.length [(List.getD x1_2 (Int.toNat x6_4) zQIIE).1, (List.getD x1_2 (Int.toNat x6_4) zQIIE).2]) * 1 ≤ 4398046511104)) then
                                (spec_IsRound_l3 N x0_1 x1_2 n_5 k3_0_9 k3_1_10) (x5_3 ++ [(List.getD x1_2 (Int.toNat x6_4) zQIIE).1, (List.getD x1_2 (Int.toNat x6_4) zQIIE).2]) (IntKind.wrap .i64 (x6_4 + (1 : Int)))
                              else none
                            else none
                          else none)
                    else none)
              else none)
        else none
      else none
    else
      k3_0_9 x5_3
noncomputable def spec_IsRound (N : Nat) (a0 : (List QIIIIILIE)) (a1 : (List QIIE)) (kf : Bool → Option Ret) : Option Ret :=
  spec_IsRound_l3 N a0 a1 N (fun (z5_12 : (List Int)) =>
    spec_AreTeams N a0 (fun (r59_14 : Bool) =>
      bif r59_14 then
        kf ((List.length z5_12 : Int) == (List.length a0 : Int))
      else
        kf false)) kf ([] : (List Int)) (0 : Int)
noncomputable def spec_l21Find_l2 (x0_1 : (List QIILIE)) (x1_2 : Int) : Nat → (Option Ret) → (Int → Option Ret) → Int → Option Ret
  | 0, _, _, _ => none
  | n_4 + 1, k2_0_5, k2_1_6, x5_3 =>
    bif (decide (x5_3 < (List.length x0_1 : Int))) then
      bif (inB x5_3 (List.length x0_1)) then
        bif ((List.getD x0_1 (Int.toNat x5_3) zQIILIE).1 == x1_2) then
          k2_1_6 x5_3
        else
          (spec_l21Find_l2 x0_1 x1_2 n_4 k2_0_5 k2_1_6) (IntKind.wrap .i64 (x5_3 + (1 : Int)))
      else none
    else
      k2_0_5
noncomputable def spec_l21Find (N : Nat) (a0 : (List QIILIE)) (a1 : Int) (kf : Int → Option Ret) : Option Ret :=
  spec_l21Find_l2 a0 a1 N (kf (-1 : Int)) kf (0 : Int)
noncomputable def spec_MayJudge (N : Nat) (a0 : (List QIIIIILIE)) (a1 : QIILIE) (a2 : QIIE) (kf : Bool → Option Ret) : Option Ret :=
  spec_FindTeam N a0 a2.1 (fun (r12_1 : Int) =>
    spec_FindTeam N a0 a2.2 (fun (r16_2 : Int) =>
      bif (decide (r12_1 ≥ (0 : Int))) then
        bif (decide (r16_2 ≥ (0 : Int))) then
          bif (inB r12_1 (List.length a0)) then
            bif ((List.getD a0 (Int.toNat r12_1) zQIIIIILIE).2.1 != a1.2.1) then
              bif (inB r16_2 (List.length a0)) then
                bif ((List.getD a0 (Int.toNat r16_2) zQIIIIILIE).2.1 != a1.2.1) then
                  spec_l4Has N a1.2.2 a2.1 (fun (r48_3 : Bool) =>
                    bif (!r48_3) then
                      spec_l4Has N a1.2.2 a2.2 (fun (r56_4 : Bool) =>
                        kf (!r56_4))
                    else
                      kf false)
                else
                  kf false
              else none
            else
              kf false
          else none
        else
          kf false
      else
        kf false))
noncomputable def spec_AreSeated_l4 (N : Nat) (x0_2 : (List QIIIIILIE)) (x1_3 : (List QIILIE)) (x2_4 : (List QIIE)) (x3_5 : (List Int)) : Nat → (Option Ret) → (Bool → Option Ret) → Int → Option Ret
  | 0, _, _, _ => none
  | n_7 + 1, k4_0_11, k4_1_12, x9_6 =>
    bif (decide (x9_6 < (List.length x2_4 : Int))) then
      bif (inB x9_6 (List.length x3_5)) then
        spec_l21Find N x1_3 (List.getD x3_5 (Int.toNat x9_6) (0 : Int)) (fun (r32_8 : Int) =>
          bif (decide (r32_8 < (0 : Int))) then
            k4_1_12 false
          else
            bif (decide ((0 : Int) ≤ (0 : Int)) && decide ((0 : Int) ≤ x9_6) && decide (x9_6 ≤ (List.length x3_5 : Int))) then
              bif (inB x9_6 (List.length x3_5)) then
                spec_l4Has N (List.drop (Int.toNat (0 : Int)) (List.take (Int.toNat x9_6) x3_5)) (List.getD x3_5 (Int.toNat x9_6) (0 : Int)) (fun (r43_9 : Bool) =>
                  bif r43_9 then
                    k4_1_12 false
                  else
                    bif (inB r32_8 (List.length x1_3)) then
                      bif (inB x9_6 (List.length x2_4)) then
                        spec_MayJudge N x0_2 (List.getD x1_3 (Int.toNat r32_8) zQIILIE) (List.getD x2_4 (Int.toNat x9_6) zQIIE) (fun (r55_10 : Bool) =>
                          bif (!r55_10) then
                            k4_1_12 false
                          else
                            (spec_AreSeated_l4 N x0_2 x1_3 x2_4 x3_5 n_7 k4_0_11 k4_1_12) (IntKind.wrap .i64 (x9_6 + (1 : Int))))
                      else none
                    else none)
              else none
            else none)
      else none
    else
      k4_0_11
noncomputable def spec_AreSeated (N : Nat) (a0 : (List QIIIIILIE)) (a1 : (List QIILIE)) (a2 : (List QIIE)) (a3 : (List Int)) (kf : Bool → Option Ret) : Option Ret :=
  bif ((List.length a3 : Int) != (List.length a2 : Int)) then
    kf false
  else
    spec_AreJudges N a1 (fun (r18_1 : Bool) =>
      bif (!r18_1) then
        kf false
      else
        spec_AreSeated_l4 N a0 a1 a2 a3 N (kf true) kf (0 : Int))
noncomputable def spec_IsBallot (N : Nat) (a0 : QIIIE) (kf : Bool → Option Ret) : Option Ret :=
  spec_l1In N a0.1 (1 : Int) (99 : Int) (fun (r5_1 : Bool) =>
    bif r5_1 then
      spec_l1In N a0.2.1 (0 : Int) (100 : Int) (fun (r9_2 : Bool) =>
        bif r9_2 then
          spec_l1In N a0.2.2 (0 : Int) (100 : Int) (fun (r14_3 : Bool) =>
            bif r14_3 then
              kf (a0.2.1 != a0.2.2)
            else
              kf false)
        else
          kf false)
    else
      kf false)
noncomputable def spec_IsClub_l7 (N : Nat) (x1_8 : QLQIIIIILIELQIILIELQIIELILQIIIELQIIIIEIE) (x3_9 : QIIIE) : Nat → (Option Ret) → (Bool → Option Ret) → Int → Option Ret
  | 0, _, _, _ => none
  | n_11 + 1, k7_0_13, k7_1_14, x4_10 =>
    bif (decide (x4_10 < (List.length x1_8.2.2.2.2.1 : Int))) then
      bif (inB x4_10 (List.length x1_8.2.2.2.2.1)) then
        bif (!((decide (((List.getD x1_8.2.2.2.2.1 (Int.toNat x4_10) zQIIIE).1 : Int) = x3_9.1)) && ((decide (((List.getD x1_8.2.2.2.2.1 (Int.toNat x4_10) zQIIIE).2.1 : Int) = x3_9.2.1)) && (decide (((List.getD x1_8.2.2.2.2.1 (Int.toNat x4_10) zQIIIE).2.2 : Int) = x3_9.2.2))))) then
          bif (inB x4_10 (List.length x1_8.2.2.2.2.1)) then
            spec_IsBallot N (List.getD x1_8.2.2.2.2.1 (Int.toNat x4_10) zQIIIE) (fun (r98_12 : Bool) =>
              bif (!r98_12) then
                k7_1_14 false
              else
                bif (inB x4_10 (List.length x1_8.2.2.2.2.1)) then
                  bif (inB x4_10 (List.length x1_8.2.2.2.1)) then
                    bif ((List.getD x1_8.2.2.2.2.1 (Int.toNat x4_10) zQIIIE).1 != (List.getD x1_8.2.2.2.1 (Int.toNat x4_10) (0 : Int))) then
                      k7_1_14 false
                    else
                      (spec_IsClub_l7 N x1_8 x3_9 n_11 k7_0_13 k7_1_14) (IntKind.wrap .i64 (x4_10 + (1 : Int)))
                  else none
                else none)
          else none
        else
          (spec_IsClub_l7 N x1_8 x3_9 n_11 k7_0_13 k7_1_14) (IntKind.wrap .i64 (x4_10 + (1 : Int)))
      else none
    else
      k7_0_13
noncomputable def spec_IsClub_j1 (N : Nat) (a0 : QLQIIIIILIELQIILIELQIIELILQIIIELQIIIIEIE) (kf : Bool → Option Ret) : Option Ret :=
  spec_IsClub_l7 N a0 ((0 : Int), ((0 : Int), (0 : Int))) N (kf true) kf (0 : Int)
noncomputable def spec_IsClub (N : Nat) (a0 : QLQIIIIILIELQIILIELQIIELILQIIIELQIIIIEIE) (kf : Bool → Option Ret) : Option Ret :=
  spec_AreTeams N a0.1 (fun (r7_1 : Bool) =>
    bif (!r7_1) then
      kf false
    else
      spec_AreJudges N a0.2.1 (fun (r12_2 : Bool) =>
        bif (!r12_2) then
          kf false
        else
          spec_AreMinutes N a0.2.2.2.2.2.1 (fun (r18_3 : Bool) =>
            bif (!r18_3) then
              kf false
            else
              bif ((List.length a0.2.2.2.1 : Int) != (List.length a0.2.2.1 : Int)) then
                kf false
              else
                bif ((List.length a0.2.2.2.2.1 : Int) != (List.length a0.2.2.1 : Int)) then
                  kf false
                else
                  spec_l1In N a0.2.2.2.2.2.2 (0 : Int) (1000 : Int) (fun (r42_4 : Bool) =>
                    bif (!r42_4) then
                      kf false
                    else
                      spec_TotalWins N a0.1 (fun (r48_5 : Int) =>
                        bif (r48_5 != a0.2.2.2.2.2.2) then
                          kf false
                        else
                          bif (decide ((List.length a0.2.2.1 : Int) > (0 : Int))) then
                            spec_IsRound N a0.1 a0.2.2.1 (fun (r62_6 : Bool) =>
                              bif (!r62_6) then
                                kf false
                              else
                                spec_AreSeated N a0.1 a0.2.1 a0.2.2.1 a0.2.2.2.1 (fun (r73_7 : Bool) =>
                                  bif (!r73_7) then
                                    kf false
                                  else
                                    spec_IsClub_j1 N a0 kf))
                          else
                            spec_IsClub_j1 N a0 kf)))))
noncomputable def spec_LastSeal (N : Nat) (a0 : (List QIIIIE)) (kf : Int → Option Ret) : Option Ret :=
  bif ((List.length a0 : Int) == (0 : Int)) then
    kf (0 : Int)
  else
    bif (inB (IntKind.wrap .i64 ((List.length a0 : Int) - (1 : Int))) (List.length a0)) then
      kf (List.getD a0 (Int.toNat (IntKind.wrap .i64 ((List.length a0 : Int) - (1 : Int)))) zQIIIIE).2.2.2
    else none
noncomputable def spec_WriteLine (N : Nat) (a0 : (List QIIIIE)) (a1 : Int) (a2 : Int) (kf : (List QIIIIE) → Bool → Option Ret) : Option Ret :=
  spec_LastSeal N a0 (fun (r17_1 : Int) =>
    spec_l27Seal N r17_1 ((IntKind.wrap .i64 ((List.length a0 : Int) + (1 : Int))), (a1, (a2, (0 : Int)))) (fun (r19_2 : Int) =>
      bif (decide ((List.length ([] : (List QIIIIE)) + List.length a0) * 4 ≤ 4398046511104)) then
        bif (decide ((List.length (([] : (List QIIIIE)) ++ a0) + List.length [((IntKind.wrap .i64 ((List.length a0 : Int) + (1 : Int))), (a1, (a2, r19_2)))]) * 4 ≤ 4398046511104)) then
          spec_AreMinutes N ((([] : (List QIIIIE)) ++ a0) ++ [((IntKind.wrap .i64 ((List.length a0 : Int) + (1 : Int))), (a1, (a2, r19_2)))]) (fun (r28_3 : Bool) =>
            bif (!r28_3) then
              bif (decide ((List.length ([] : (List QIIIIE)) + List.length a0) * 4 ≤ 4398046511104)) then
                kf (([] : (List QIIIIE)) ++ a0) false
              else none
            else
              kf ((([] : (List QIIIIE)) ++ a0) ++ [((IntKind.wrap .i64 ((List.length a0 : Int) + (1 : Int))), (a1, (a2, r19_2)))]) true)
        else none
      else none))
noncomputable def spec_l34Done (N : Nat) (a0 : QLQIIIIILIELQIILIELQIIELILQIIIELQIIIIEIE) (a1 : QLQIIIIILIELQIILIELQIIELILQIIIELQIIIIEIE) (a2 : Bool) (a3 : Int) (a4 : Int) (kf : QLQIIIIILIELQIILIELQIIELILQIIIELQIIIIEIE → Bool → Option Ret) : Option Ret :=
  spec_WriteLine N a0.2.2.2.2.2.1 a3 a4 (fun (r19_1 : (List QIIIIE)) (r19_2 : Bool) =>
    bif (!a2) then
      spec_l33Copy N a0 (fun (r41_5 : QLQIIIIILIELQIILIELQIIELILQIIIELQIIIIEIE) =>
        kf r41_5 false)
    else
      bif (!r19_2) then
        spec_l33Copy N a0 (fun (r41_5 : QLQIIIIILIELQIILIELQIIELILQIIIELQIIIIEIE) =>
          kf r41_5 false)
      else
        spec_IsClub N a0 (fun (r32_3 : Bool) =>
          bif (!r32_3) then
            spec_l33Copy N a0 (fun (r41_5 : QLQIIIIILIELQIILIELQIIELILQIIIELQIIIIEIE) =>
              kf r41_5 false)
          else
            spec_IsClub N (a1.1, (a1.2.1, (a1.2.2.1, (a1.2.2.2.1, (a1.2.2.2.2.1, (r19_1, a1.2.2.2.2.2.2)))))) (fun (r37_4 : Bool) =>
              bif (!r37_4) then
                spec_l33Copy N a0 (fun (r41_6 : QLQIIIIILIELQIILIELQIIELILQIIIELQIIIIEIE) =>
                  kf r41_6 false)
              else
                kf (a1.1, (a1.2.1, (a1.2.2.1, (a1.2.2.2.1, (a1.2.2.2.2.1, (r19_1, a1.2.2.2.2.2.2)))))) true)))
noncomputable def slices_Clone_int (N : Nat) (a0 : (List Int)) (kf : (List Int) → Option Ret) : Option Ret :=
  bif (List.isEmpty a0) then
    both (kf ([] : (List Int))) (
      bif (decide ((List.length ([] : (List Int)) + List.length a0) * 1 ≤ 4398046511104)) then
        kf (([] : (List Int)) ++ a0)
      else none)
  else
    bif (decide ((List.length ([] : (List Int)) + List.length a0) * 1 ≤ 4398046511104)) then
      kf (([] : (List Int)) ++ a0)
    else none
noncomputable def impl_cloneTeams_l3 (N : Nat) (x7_2 : (List QIIIIILIE)) (x8_3 : Int) : Nat → ((List QIIIIILIE) → Option Ret) → (List QIIIIILIE) → Int → Option Ret
  | 0, _, _, _ => none
  | n_5 + 1, k3_0_7, x3_1, x9_4 =>
    bif (decide (x9_4 < x8_3)) then
      bif (inB x9_4 (List.length x7_2)) then
        slices_Clone_int N (List.getD x7_2 (Int.toNat x9_4) zQIIIIILIE).2.2.2.2.2 (fun (r15_6 : (List Int)) =>
          bif (decide ((List.length x3_1 + List.length [((List.getD x7_2 (Int.toNat x9_4) zQIIIIILIE).1, ((List.getD x7_2 (Int.toNat x9_4) zQIIIIILIE).2.1, ((List.getD x7_2 (Int.toNat x9_4) zQIIIIILIE).2.2.1, ((List.getD x7_2 (Int.toNat x9_4) zQIIIIILIE).2.2.2.1, ((List.getD x7_2 (Int.toNat x9_4) zQIIIIILIE).2.2.2.2.1, r15_6)))))]) * 6 ≤ 4398046511104)) then
            (impl_cloneTeams_l3 N x7_2 x8_3 n_5 k3_0_7) (x3_1 ++ [((List.getD x7_2 (Int.toNat x9_4) zQIIIIILIE).1, ((List.getD x7_2 (Int.toNat x9_4) zQIIIIILIE).2.1, ((List.getD x7_2 (Int.toNat x9_4) zQIIIIILIE).2.2.1, ((List.getD x7_2 (Int.toNat x9_4) zQIIIIILIE).2.2.2.1, ((List.getD x7_2 (Int.toNat x9_4) zQIIIIILIE).2.2.2.2.1, r15_6)))))]) (IntKind.wrap .i64 (x9_4 + (1 : Int)))
          else none)
      else none
    else
      k3_0_7 x3_1
noncomputable def impl_cloneTeams (N : Nat) (a0 : (List QIIIIILIE)) (kf : (List QIIIIILIE) → Option Ret) : Option Ret :=
  impl_cloneTeams_l3 N a0 (List.length a0 : Int) N kf ([] : (List QIIIIILIE)) (0 : Int)
noncomputable def impl_cloneJudges_l3 (N : Nat) (x7_2 : (List QIILIE)) (x8_3 : Int) : Nat → ((List QIILIE) → Option Ret) → (List QIILIE) → Int → Option Ret
  | 0, _, _, _ => none
  | n_5 + 1, k3_0_7, x3_1, x9_4 =>
    bif (decide (x9_4 < x8_3)) then
      bif (inB x9_4 (List.length x7_2)) then
        slices_Clone_int N (List.getD x7_2 (Int.toNat x9_4) zQIILIE).2.2 (fun (r15_6 : (List Int)) =>
          bif (decide ((List.length x3_1 + List.length [((List.getD x7_2 (Int.toNat x9_4) zQIILIE).1, ((List.getD x7_2 (Int.toNat x9_4) zQIILIE).2.1, r15_6))]) * 3 ≤ 4398046511104)) then
            (impl_cloneJudges_l3 N x7_2 x8_3 n_5 k3_0_7) (x3_1 ++ [((List.getD x7_2 (Int.toNat x9_4) zQIILIE).1, ((List.getD x7_2 (Int.toNat x9_4) zQIILIE).2.1, r15_6))]) (IntKind.wrap .i64 (x9_4 + (1 : Int)))
          else none)
      else none
    else
      k3_0_7 x3_1
noncomputable def impl_cloneJudges (N : Nat) (a0 : (List QIILIE)) (kf : (List QIILIE) → Option Ret) : Option Ret :=
  impl_cloneJudges_l3 N a0 (List.length a0 : Int) N kf ([] : (List QIILIE)) (0 : Int)
noncomputable def slices_Clone_Pair (N : Nat) (a0 : (List QIIE)) (kf : (List QIIE) → Option Ret) : Option Ret :=
  bif (List.isEmpty a0) then
    both (kf ([] : (List QIIE))) (
      bif (decide ((List.length ([] : (List QIIE)) + List.length a0) * 2 ≤ 4398046511104)) then
        kf (([] : (List QIIE)) ++ a0)
      else none)
  else
    bif (decide ((List.length ([] : (List QIIE)) + List.length a0) * 2 ≤ 4398046511104)) then
      kf (([] : (List QIIE)) ++ a0)
    else none
noncomputable def slices_Clone_Ballot (N : Nat) (a0 : (List QIIIE)) (kf : (List QIIIE) → Option Ret) : Option Ret :=
  bif (List.isEmpty a0) then
    both (kf ([] : (List QIIIE))) (
      bif (decide ((List.length ([] : (List QIIIE)) + List.length a0) * 3 ≤ 4398046511104)) then
        kf (([] : (List QIIIE)) ++ a0)
      else none)
  else
    bif (decide ((List.length ([] : (List QIIIE)) + List.length a0) * 3 ≤ 4398046511104)) then
      kf (([] : (List QIIIE)) ++ a0)
    else none
noncomputable def slices_Clone_Line (N : Nat) (a0 : (List QIIIIE)) (kf : (List QIIIIE) → Option Ret) : Option Ret :=
  bif (List.isEmpty a0) then
    both (kf ([] : (List QIIIIE))) (
      bif (decide ((List.length ([] : (List QIIIIE)) + List.length a0) * 4 ≤ 4398046511104)) then
        kf (([] : (List QIIIIE)) ++ a0)
      else none)
  else
    bif (decide ((List.length ([] : (List QIIIIE)) + List.length a0) * 4 ≤ 4398046511104)) then
      kf (([] : (List QIIIIE)) ++ a0)
    else none
noncomputable def impl_cloneClub (N : Nat) (a0 : QLQIIIIILIELQIILIELQIIELILQIIIELQIIIIEIE) (kf : QLQIIIIILIELQIILIELQIIELILQIIIELQIIIIEIE → Option Ret) : Option Ret :=
  impl_cloneTeams N a0.1 (fun (r5_1 : (List QIIIIILIE)) =>
    impl_cloneJudges N a0.2.1 (fun (r8_2 : (List QIILIE)) =>
      slices_Clone_Pair N a0.2.2.1 (fun (r13_3 : (List QIIE)) =>
        slices_Clone_int N a0.2.2.2.1 (fun (r16_4 : (List Int)) =>
          slices_Clone_Ballot N a0.2.2.2.2.1 (fun (r19_5 : (List QIIIE)) =>
            slices_Clone_Line N a0.2.2.2.2.2.1 (fun (r22_6 : (List QIIIIE)) =>
              kf (r5_1, (r8_2, (r13_3, (r16_4, (r19_5, (r22_6, a0.2.2.2.2.2.2))))))))))))
noncomputable def impl_InRange (N : Nat) (a0 : Int) (a1 : Int) (a2 : Int) (kf : Bool → Option Ret) : Option Ret :=
  bif (decide (a1 ≤ a0)) then
    kf (decide (a0 ≤ a2))
  else
    kf false
noncomputable def impl_FindTeam_1 (N : Nat) (a0 : QIIIIILIE) (a1 : Int) (kf : Bool → Option Ret) : Option Ret :=
  kf (a0.1 == a1)
noncomputable def slices_IndexFunc_Team_impl_FindTeam_1_l2 (N : Nat) (x0_1 : (List QIIIIILIE)) (x1_2 : Int) (x7_3 : Int) : Nat → (Option Ret) → (Int → Option Ret) → Int → Option Ret
  | 0, _, _, _ => none
  | n_5 + 1, k2_0_7, k2_1_8, x8_4 =>
    bif (decide (x8_4 < x7_3)) then
      bif (inB x8_4 (List.length x0_1)) then
        impl_FindTeam_1 N (List.getD x0_1 (Int.toNat x8_4) zQIIIIILIE) x1_2 (fun (r16_6 : Bool) =>
          bif r16_6 then
            k2_1_8 x8_4
          else
            (slices_IndexFunc_Team_impl_FindTeam_1_l2 N x0_1 x1_2 x7_3 n_5 k2_0_7 k2_1_8) (IntKind.wrap .i64 (x8_4 + (1 : Int))))
      else none
    else
      k2_0_7
noncomputable def slices_IndexFunc_Team_impl_FindTeam_1 (N : Nat) (a0 : (List QIIIIILIE)) (a1_0 : Int) (kf : Int → Option Ret) : Option Ret :=
  slices_IndexFunc_Team_impl_FindTeam_1_l2 N a0 a1_0 (List.length a0 : Int) N (kf (-1 : Int)) kf (0 : Int)
noncomputable def impl_FindTeam (N : Nat) (a0 : (List QIIIIILIE)) (a1 : Int) (kf : Int → Option Ret) : Option Ret :=
  slices_IndexFunc_Team_impl_FindTeam_1 N a0 a1 kf
noncomputable def impl_times_l3 (x1_1 : Int) (x8_3 : (List Int)) (x9_4 : Int) : Nat → (Int → Option Ret) → Int → Int → Option Ret
  | 0, _, _, _ => none
  | n_6 + 1, k3_0_8, x5_2, x10_5 =>
    bif (decide (x10_5 < x9_4)) then
      bif (inB x10_5 (List.length x8_3)) then
        bif ((List.getD x8_3 (Int.toNat x10_5) (0 : Int)) == x1_1) then
          (impl_times_l3 x1_1 x8_3 x9_4 n_6 k3_0_8) (IntKind.wrap .i64 (x5_2 + (1 : Int))) (IntKind.wrap .i64 (x10_5 + (1 : Int)))
        else
          (impl_times_l3 x1_1 x8_3 x9_4 n_6 k3_0_8) x5_2 (IntKind.wrap .i64 (x10_5 + (1 : Int)))
      else none
    else
      k3_0_8 x5_2
noncomputable def impl_times (N : Nat) (a0 : (List Int)) (a1 : Int) (kf : Int → Option Ret) : Option Ret :=
  impl_times_l3 a1 a0 (List.length a0 : Int) N kf (0 : Int) (0 : Int)
noncomputable def impl_AreTeams_l10 (N : Nat) (x0_16 : (List QIIIIILIE)) (x4_17 : QIIIIILIE) (x12_18 : (List QIIIIILIE)) (x13_19 : Int) (x14_20 : Int) (x72_21 : (List Int)) (x73_22 : Int) : Nat → (Option Ret) → (Bool → Option Ret) → Int → Option Ret
  | 0, _, _, _ => none
  | n_24 + 1, k10_0_28, k10_1_29, x74_23 =>
    bif (decide (x74_23 < x73_22)) then
      bif (inB x74_23 (List.length x72_21)) then
        impl_FindTeam N x0_16 (List.getD x72_21 (Int.toNat x74_23) (0 : Int)) (fun (r80_25 : Int) =>
          bif (decide (r80_25 < (0 : Int))) then
            k10_1_29 false
          else
            bif ((List.getD x72_21 (Int.toNat x74_23) (0 : Int)) == x4_17.1) then
              k10_1_29 false
            else
              bif (inB r80_25 (List.length x0_16)) then
                impl_times N x4_17.2.2.2.2.2 (List.getD x72_21 (Int.toNat x74_23) (0 : Int)) (fun (r93_26 : Int) =>
                  impl_times N (List.getD x0_16 (Int.toNat r80_25) zQIIIIILIE).2.2.2.2.2 x4_17.1 (fun (r101_27 : Int) =>
                    bif (r93_26 != r101_27) then
                      k10_1_29 false
                    else
                      (impl_AreTeams_l10 N x0_16 x4_17 x12_18 x13_19 x14_20 x72_21 x73_22 n_24 k10_0_28 k10_1_29) (IntKind.wrap .i64 (x74_23 + (1 : Int)))))
              else none)
      else none
    else
      k10_0_28
noncomputable def impl_AreTeams_j1 (N : Nat) (k4_1_33 : Bool → Option Ret) (rc4_34 : Int → Option Ret) (x0_1 : (List QIIIIILIE)) (x12_2 : (List QIIIIILIE)) (x13_3 : Int) (x14_4 : Int) : Option Ret :=
  impl_AreTeams_l10 N x0_1 (List.getD x12_2 (Int.toNat x14_4) zQIIIIILIE) x12_2 x13_3 x14_4 (List.getD x12_2 (Int.toNat x14_4) zQIIIIILIE).2.2.2.2.2 (List.length (List.getD x12_2 (Int.toNat x14_4) zQIIIIILIE).2.2.2.2.2 : Int) N (rc4_34 (IntKind.wrap .i64 (x14_4 + (1 : Int)))) k4_1_33 (0 : Int)
noncomputable def impl_AreTeams_l4 (N : Nat) (x0_1 : (List QIIIIILIE)) (x12_2 : (List QIIIIILIE)) (x13_3 : Int) : Nat → (Option Ret) → (Bool → Option Ret) → Int → Option Ret
  | 0, _, _, _ => none
  | n_5 + 1, k4_0_32, k4_1_33, x14_4 =>
    bif (decide (x14_4 < x13_3)) then
      bif (inB x14_4 (List.length x12_2)) then
        impl_InRange N (List.getD x12_2 (Int.toNat x14_4) zQIIIIILIE).1 (1 : Int) (99 : Int) (fun (r24_6 : Bool) =>
          bif (!r24_6) then
            k4_1_33 false
          else
            bif (decide (x14_4 > (0 : Int))) then
              bif (inB (IntKind.wrap .i64 (x14_4 - (1 : Int))) (List.length x0_1)) then
                bif (decide ((List.getD x12_2 (Int.toNat x14_4) zQIIIIILIE).1 ≤ (List.getD x0_1 (Int.toNat (IntKind.wrap .i64 (x14_4 - (1 : Int)))) zQIIIIILIE).1)) then
                  k4_1_33 false
                else
                  impl_InRange N (List.getD x12_2 (Int.toNat x14_4) zQIIIIILIE).2.1 (1 : Int) (99 : Int) (fun (r44_7 : Bool) =>
                    bif (!r44_7) then
                      k4_1_33 false
                    else
                      bif (decide ((List.length (List.getD x12_2 (Int.toNat x14_4) zQIIIIILIE).2.2.2.2.2 : Int) > (20 : Int))) then
                        k4_1_33 false
                      else
                        impl_InRange N (List.getD x12_2 (Int.toNat x14_4) zQIIIIILIE).2.2.1 (0 : Int) (List.length (List.getD x12_2 (Int.toNat x14_4) zQIIIIILIE).2.2.2.2.2 : Int) (fun (r55_8 : Bool) =>
                          bif (!r55_8) then
                            k4_1_33 false
                          else
                            impl_InRange N (List.getD x12_2 (Int.toNat x14_4) zQIIIIILIE).2.2.2.2.1 (0 : Int) (List.length (List.getD x12_2 (Int.toNat x14_4) zQIIIIILIE).2.2.2.2.2 : Int) (fun (r62_9 : Bool) =>
                              bif (!r62_9) then
                                k4_1_33 false
                              else
                                impl_InRange N (List.getD x12_2 (Int.toNat x14_4) zQIIIIILIE).2.2.2.1 (0 : Int) (100000 : Int) (fun (r68_10 : Bool) =>
                                  bif (!r68_10) then
                                    k4_1_33 false
                                  else
                                    impl_AreTeams_j1 N k4_1_33 (impl_AreTeams_l4 N x0_1 x12_2 x13_3 n_5 k4_0_32 k4_1_33) x0_1 x12_2 x13_3 x14_4))))
              else none
            else
              impl_InRange N (List.getD x12_2 (Int.toNat x14_4) zQIIIIILIE).2.1 (1 : Int) (99 : Int) (fun (r44_11 : Bool) =>
                bif (!r44_11) then
                  k4_1_33 false
                else
                  bif (decide ((List.length (List.getD x12_2 (Int.toNat x14_4) zQIIIIILIE).2.2.2.2.2 : Int) > (20 : Int))) then
                    k4_1_33 false
                  else
                    impl_InRange N (List.getD x12_2 (Int.toNat x14_4) zQIIIIILIE).2.2.1 (0 : Int) (List.length (List.getD x12_2 (Int.toNat x14_4) zQIIIIILIE).2.2.2.2.2 : Int) (fun (r55_12 : Bool) =>
                      bif (!r55_12) then
                        k4_1_33 false
                      else
                        impl_InRange N (List.getD x12_2 (Int.toNat x14_4) zQIIIIILIE).2.2.2.2.1 (0 : Int) (List.length (List.getD x12_2 (Int.toNat x14_4) zQIIIIILIE).2.2.2.2.2 : Int) (fun (r62_13 : Bool) =>
                          bif (!r62_13) then
                            k4_1_33 false
                          else
                            impl_InRange N (List.getD x12_2 (Int.toNat x14_4) zQIIIIILIE).2.2.2.1 (0 : Int) (100000 : Int) (fun (r68_14 : Bool) =>
                              bif (!r68_14) then
                                k4_1_33 false
                              else
                                impl_AreTeams_j1 N k4_1_33 (impl_AreTeams_l4 N x0_1 x12_2 x13_3 n_5 k4_0_32 k4_1_33) x0_1 x12_2 x13_3 x14_4)))))
      else none
    else
      k4_0_32
noncomputable def impl_AreTeams (N : Nat) (a0 : (List QIIIIILIE)) (kf : Bool → Option Ret) : Option Ret :=
  bif (decide ((List.length a0 : Int) > (10 : Int))) then
    kf false
  else
    impl_AreTeams_l4 N a0 a0 (List.length a0 : Int) N (kf true) kf (0 : Int)
noncomputable def impl_AreJudges_l9 (N : Nat) (x0_10 : (List QIILIE)) (x4_11 : QIILIE) (x10_12 : (List QIILIE)) (x11_13 : Int) (x12_14 : Int) (x43_15 : (List Int)) (x44_16 : Int) : Nat → (Option Ret) → (Bool → Option Ret) → Int → Option Ret
  | 0, _, _, _ => none
  | n_18 + 1, k9_0_20, k9_1_21, x45_17 =>
    bif (decide (x45_17 < x44_16)) then
      bif (inB x45_17 (List.length x43_15)) then
        impl_InRange N (List.getD x43_15 (Int.toNat x45_17) (0 : Int)) (1 : Int) (99 : Int) (fun (r51_19 : Bool) =>
          bif (!r51_19) then
            k9_1_21 false
          else
            bif (decide (x45_17 > (0 : Int))) then
              bif (inB (IntKind.wrap .i64 (x45_17 - (1 : Int))) (List.length x4_11.2.2)) then
                bif (decide ((List.getD x43_15 (Int.toNat x45_17) (0 : Int)) ≤ (List.getD x4_11.2.2 (Int.toNat (IntKind.wrap .i64 (x45_17 - (1 : Int)))) (0 : Int)))) then
                  k9_1_21 false
                else
                  (impl_AreJudges_l9 N x0_10 x4_11 x10_12 x11_13 x12_14 x43_15 x44_16 n_18 k9_0_20 k9_1_21) (IntKind.wrap .i64 (x45_17 + (1 : Int)))
              else none
            else
              (impl_AreJudges_l9 N x0_10 x4_11 x10_12 x11_13 x12_14 x43_15 x44_16 n_18 k9_0_20 k9_1_21) (IntKind.wrap .i64 (x45_17 + (1 : Int))))
      else none
    else
      k9_0_20
noncomputable def impl_AreJudges_j1 (N : Nat) (k4_1_25 : Bool → Option Ret) (rc4_26 : Int → Option Ret) (x0_1 : (List QIILIE)) (x10_2 : (List QIILIE)) (x11_3 : Int) (x12_4 : Int) : Option Ret :=
  impl_AreJudges_l9 N x0_1 (List.getD x10_2 (Int.toNat x12_4) zQIILIE) x10_2 x11_3 x12_4 (List.getD x10_2 (Int.toNat x12_4) zQIILIE).2.2 (List.length (List.getD x10_2 (Int.toNat x12_4) zQIILIE).2.2 : Int) N (rc4_26 (IntKind.wrap .i64 (x12_4 + (1 : Int)))) k4_1_25 (0 : Int)
noncomputable def impl_AreJudges_l4 (N : Nat) (x0_1 : (List QIILIE)) (x10_2 : (List QIILIE)) (x11_3 : Int) : Nat → (Option Ret) → (Bool → Option Ret) → Int → Option Ret
  | 0, _, _, _ => none
  | n_5 + 1, k4_0_24, k4_1_25, x12_4 =>
    bif (decide (x12_4 < x11_3)) then
      bif (inB x12_4 (List.length x10_2)) then
        impl_InRange N (List.getD x10_2 (Int.toNat x12_4) zQIILIE).1 (1 : Int) (99 : Int) (fun (r19_6 : Bool) =>
          bif (!r19_6) then
            k4_1_25 false
          else
            bif (decide (x12_4 > (0 : Int))) then
              bif (inB (IntKind.wrap .i64 (x12_4 - (1 : Int))) (List.length x0_1)) then
                bif (decide ((List.getD x10_2 (Int.toNat x12_4) zQIILIE).1 ≤ (List.getD x0_1 (Int.toNat (IntKind.wrap .i64 (x12_4 - (1 : Int)))) zQIILIE).1)) then
                  k4_1_25 false
                else
                  impl_InRange N (List.getD x10_2 (Int.toNat x12_4) zQIILIE).2.1 (1 : Int) (99 : Int) (fun (r39_7 : Bool) =>
                    bif (!r39_7) then
                      k4_1_25 false
                    else
                      impl_AreJudges_j1 N k4_1_25 (impl_AreJudges_l4 N x0_1 x10_2 x11_3 n_5 k4_0_24 k4_1_25) x0_1 x10_2 x11_3 x12_4)
              else none
            else
              impl_InRange N (List.getD x10_2 (Int.toNat x12_4) zQIILIE).2.1 (1 : Int) (99 : Int) (fun (r39_8 : Bool) =>
                bif (!r39_8) then
                  k4_1_25 false
                else
                  impl_AreJudges_j1 N k4_1_25 (impl_AreJudges_l4 N x0_1 x10_2 x11_3 n_5 k4_0_24 k4_1_25) x0_1 x10_2 x11_3 x12_4))
      else none
    else
      k4_0_24
noncomputable def impl_AreJudges (N : Nat) (a0 : (List QIILIE)) (kf : Bool → Option Ret) : Option Ret :=
  bif (decide ((List.length a0 : Int) > (10 : Int))) then
    kf false
  else
    impl_AreJudges_l4 N a0 a0 (List.length a0 : Int) N (kf true) kf (0 : Int)
noncomputable def impl_Mod (N : Nat) (a0 : Int) (a1 : Int) (kf : Int → Option Ret) : Option Ret :=
  impl_InRange N a1 (1 : Int) (1000000000000 : Int) (fun (r7_1 : Bool) =>
    bif (!r7_1) then
      kf (0 : Int)
    else
      bif (!decide (a1 = 0)) then
        bif (decide ((Int.tmod a0 a1) < (0 : Int))) then
          kf (IntKind.wrap .i64 ((Int.tmod a0 a1) + a1))
        else
          kf (Int.tmod a0 a1)
      else none)
noncomputable def impl_fold (N : Nat) (a0 : Int) (a1 : Int) (kf : Int → Option Ret) : Option Ret :=
  impl_Mod N a1 (2147483647 : Int) (fun (r8_1 : Int) =>
    kf (Int.tmod (IntKind.wrap .i64 ((IntKind.wrap .i64 ((IntKind.wrap .i64 (a0 * (1000003 : Int))) + r8_1)) + (13 : Int))) (2147483647 : Int)))
noncomputable def impl_Hash_l3 (N : Nat) (x6_2 : (List Int)) (x7_3 : Int) : Nat → (Int → Option Ret) → Int → Int → Option Ret
  | 0, _, _, _ => none
  | n_5 + 1, k3_0_7, x3_1, x8_4 =>
    bif (decide (x8_4 < x7_3)) then
      bif (inB x8_4 (List.length x6_2)) then
        impl_fold N x3_1 (List.getD x6_2 (Int.toNat x8_4) (0 : Int)) (fun (r14_6 : Int) =>
          (impl_Hash_l3 N x6_2 x7_3 n_5 k3_0_7) r14_6 (IntKind.wrap .i64 (x8_4 + (1 : Int))))
      else none
    else
      k3_0_7 x3_1
noncomputable def impl_Hash (N : Nat) (a0 : (List Int)) (kf : Int → Option Ret) : Option Ret :=
  impl_Hash_l3 N a0 (List.length a0 : Int) N kf (11 : Int) (0 : Int)
noncomputable def impl_lineSeal (N : Nat) (a0 : Int) (a1 : QIIIIE) (kf : Int → Option Ret) : Option Ret :=
  impl_Hash N [a0, a1.1, a1.2.1, a1.2.2.1] kf
noncomputable def impl_AreMinutes_l5 (N : Nat) (x9_2 : (List QIIIIE)) (x10_3 : Int) : Nat → (Option Ret) → (Bool → Option Ret) → Int → Int → Option Ret
  | 0, _, _, _, _ => none
  | n_5 + 1, k5_0_9, k5_1_10, x3_1, x11_4 =>
    bif (decide (x11_4 < x10_3)) then
      bif (inB x11_4 (List.length x9_2)) then
        bif ((List.getD x9_2 (Int.toNat x11_4) zQIIIIE).1 != (IntKind.wrap .i64 (x11_4 + (1 : Int)))) then
          k5_1_10 false
        else
          impl_InRange N (List.getD x9_2 (Int.toNat x11_4) zQIIIIE).2.1 (1 : Int) (9 : Int) (fun (r24_6 : Bool) =>
            bif (!r24_6) then
              k5_1_10 false
            else
              impl_InRange N (List.getD x9_2 (Int.toNat x11_4) zQIIIIE).2.2.1 (0 : Int) (99 : Int) (fun (r30_7 : Bool) =>
                bif (!r30_7) then
                  k5_1_10 false
                else
                  impl_lineSeal N x3_1 (List.getD x9_2 (Int.toNat x11_4) zQIIIIE) (fun (r38_8 : Int) =>
                    bif ((List.getD x9_2 (Int.toNat x11_4) zQIIIIE).2.2.2 != r38_8) then
                      k5_1_10 false
                    else
                      (impl_AreMinutes_l5 N x9_2 x10_3 n_5 k5_0_9 k5_1_10) (List.getD x9_2 (Int.toNat x11_4) zQIIIIE).2.2.2 (IntKind.wrap .i64 (x11_4 + (1 : Int))))))
      else none
    else
      k5_0_9
noncomputable def impl_AreMinutes (N : Nat) (a0 : (List QIIIIE)) (kf : Bool → Option Ret) : Option Ret :=
  bif (decide ((List.length a0 : Int) > (200 : Int))) then
    kf false
  else
    impl_AreMinutes_l5 N a0 (List.length a0 : Int) N (kf true) kf (0 : Int) (0 : Int)
noncomputable def impl_IsRunning (N : Nat) (a0 : QLQIIIIILIELQIILIELQIIELILQIIIELQIIIIEIE) (kf : Bool → Option Ret) : Option Ret :=
  kf (decide ((List.length a0.2.2.1 : Int) > (0 : Int)))
noncomputable def slices_Index_int_l2 (x0_1 : (List Int)) (x1_2 : Int) (x7_3 : Int) : Nat → (Option Ret) → (Int → Option Ret) → Int → Option Ret
  | 0, _, _, _ => none
  | n_5 + 1, k2_0_6, k2_1_7, x8_4 =>
    bif (decide (x8_4 < x7_3)) then
      bif (inB x8_4 (List.length x0_1)) then
        bif (x1_2 == (List.getD x0_1 (Int.toNat x8_4) (0 : Int))) then
          k2_1_7 x8_4
        else
          (slices_Index_int_l2 x0_1 x1_2 x7_3 n_5 k2_0_6 k2_1_7) (IntKind.wrap .i64 (x8_4 + (1 : Int)))
      else none
    else
      k2_0_6
noncomputable def slices_Index_int (N : Nat) (a0 : (List Int)) (a1 : Int) (kf : Int → Option Ret) : Option Ret :=
  slices_Index_int_l2 a0 a1 (List.length a0 : Int) N (kf (-1 : Int)) kf (0 : Int)
noncomputable def slices_Contains_int (N : Nat) (a0 : (List Int)) (a1 : Int) (kf : Bool → Option Ret) : Option Ret :=
  slices_Index_int N a0 a1 (fun (r7_1 : Int) =>
    kf (decide (r7_1 ≥ (0 : Int))))
noncomputable def impl_HaveMet (N : Nat) (a0 : (List QIIIIILIE)) (a1 : Int) (a2 : Int) (kf : Bool → Option Ret) : Option Ret :=
  impl_FindTeam N a0 a1 (fun (r10_1 : Int) =>
    bif (decide (r10_1 ≥ (0 : Int))) then
      bif (inB r10_1 (List.length a0)) then
        slices_Contains_int N (List.getD a0 (Int.toNat r10_1) zQIIIIILIE).2.2.2.2.2 a2 kf
      else none
    else
      kf false)
noncomputable def impl_MayMeet (N : Nat) (a0 : (List QIIIIILIE)) (a1 : Int) (a2 : Int) (kf : Bool → Option Ret) : Option Ret :=
  impl_FindTeam N a0 a1 (fun (r11_1 : Int) =>
    impl_FindTeam N a0 a2 (fun (r14_2 : Int) =>
      impl_AreTeams N a0 (fun (r16_3 : Bool) =>
        bif r16_3 then
          bif (decide (r11_1 ≥ (0 : Int))) then
            bif (decide (r14_2 ≥ (0 : Int))) then
              bif (r11_1 != r14_2) then
                bif (inB r11_1 (List.length a0)) then
                  bif (inB r14_2 (List.length a0)) then
                    bif ((List.getD a0 (Int.toNat r11_1) zQIIIIILIE).2.1 != (List.getD a0 (Int.toNat r14_2) zQIIIIILIE).2.1) then
                      impl_HaveMet N a0 a1 a2 (fun (r47_4 : Bool) =>
                        kf (!r47_4))
                    else
                      kf false
                  else none
                else none
              else
                kf false
            else
              kf false
          else
            kf false
        else
          kf false)))
noncomputable def impl_IsRound_l10 (N : Nat) (x5_13 : (List Int)) (x32_14 : (List QIIIIILIE)) (x33_15 : Int) : Nat → (Option Ret) → (Bool → Option Ret) → Int → Option Ret
  | 0, _, _, _ => none
  | n_17 + 1, k10_0_19, k10_1_20, x34_16 =>
    bif (decide (x34_16 < x33_15)) then
      bif (inB x34_16 (List.length x32_14)) then
        impl_times N x5_13 (List.getD x32_14 (Int.toNat x34_16) zQIIIIILIE).1 (fun (r41_18 : Int) =>
          bif (r41_18 != (1 : Int)) then
            k10_1_20 false
          else
            (impl_IsRound_l10 N x5_13 x32_14 x33_15 n_17 k10_0_19 k10_1_20) (IntKind.wrap .i64 (x34_16 + (1 : Int))))
      else none
    else
      k10_0_19
noncomputable def impl_IsRound_l3 (N : Nat) (x0_1 : (List QIIIIILIE)) (x11_3 : (List QIIE)) (x12_4 : Int) : Nat → ((List Int) → Option Ret) → (Bool → Option Ret) → (List Int) → Int → Option Ret
  | 0, _, _, _, _ => none
  | n_6 + 1, k3_0_8, k3_1_9, x5_2, x13_5 =>
    bif (decide (x13_5 < x12_4)) then
      bif (inB x13_5 (List.length x11_3)) then
        impl_MayMeet N x0_1 (List.getD x11_3 (Int.toNat x13_5) zQIIE).1 (List.getD x11_3 (Int.toNat x13_5) zQIIE).2 (fun (r22_7 : Bool) =>
          bif (!r22_7) then
            k3_1_9 false
          else
            bif (decide ((List.length x5_2 + List.length [(List.getD x11_3 (Int.toNat x13_5) zQIIE).1, (List.getD x11_3 (Int.toNat x13_5) zQIIE).2]) * 1 ≤ 4398046511104)) then
              (impl_IsRound_l3 N x0_1 x11_3 x12_4 n_6 k3_0_8 k3_1_9) (x5_2 ++ [(List.getD x11_3 (Int.toNat x13_5) zQIIE).1, (List.getD x11_3 (Int.toNat x13_5) zQIIE).2]) (IntKind.wrap .i64 (x13_5 + (1 : Int)))
            else none)
      else none
    else
      k3_0_8 x5_2
noncomputable def impl_IsRound (N : Nat) (a0 : (List QIIIIILIE)) (a1 : (List QIIE)) (kf : Bool → Option Ret) : Option Ret :=
  impl_IsRound_l3 N a0 a1 (List.length a1 : Int) N (fun (z5_11 : (List Int)) =>
    impl_IsRound_l10 N z5_11 a0 (List.length a0 : Int) N (kf true) kf (0 : Int)) kf ([] : (List Int)) (0 : Int)
noncomputable def impl_AreSeated_1 (N : Nat) (a0 : QIILIE) (a1 : Int) (kf : Bool → Option Ret) : Option Ret :=
  kf (a0.1 == a1)
noncomputable def slices_IndexFunc_Judge_impl_AreSeated_1_l2 (N : Nat) (x0_1 : (List QIILIE)) (x1_2 : Int) (x7_3 : Int) : Nat → (Option Ret) → (Int → Option Ret) → Int → Option Ret
  | 0, _, _, _ => none
  | n_5 + 1, k2_0_7, k2_1_8, x8_4 =>
    bif (decide (x8_4 < x7_3)) then
      bif (inB x8_4 (List.length x0_1)) then
        impl_AreSeated_1 N (List.getD x0_1 (Int.toNat x8_4) zQIILIE) x1_2 (fun (r16_6 : Bool) =>
          bif r16_6 then
            k2_1_8 x8_4
          else
            (slices_IndexFunc_Judge_impl_AreSeated_1_l2 N x0_1 x1_2 x7_3 n_5 k2_0_7 k2_1_8) (IntKind.wrap .i64 (x8_4 + (1 : Int))))
      else none
    else
      k2_0_7
noncomputable def slices_IndexFunc_Judge_impl_AreSeated_1 (N : Nat) (a0 : (List QIILIE)) (a1_0 : Int) (kf : Int → Option Ret) : Option Ret :=
  slices_IndexFunc_Judge_impl_AreSeated_1_l2 N a0 a1_0 (List.length a0 : Int) N (kf (-1 : Int)) kf (0 : Int)
noncomputable def impl_MayJudge_l2 (N : Nat) (x0_1 : (List QIIIIILIE)) (x4_2 : QIILIE) (x14_3 : (List Int)) (x15_4 : Int) : Nat → (Option Ret) → (Bool → Option Ret) → Int → Option Ret
  | 0, _, _, _ => none
  | n_6 + 1, k2_0_9, k2_1_10, x16_5 =>
    bif (decide (x16_5 < x15_4)) then
      bif (inB x16_5 (List.length x14_3)) then
        impl_FindTeam N x0_1 (List.getD x14_3 (Int.toNat x16_5) (0 : Int)) (fun (r22_7 : Int) =>
          bif (decide (r22_7 < (0 : Int))) then
            k2_1_10 false
          else
            bif (inB r22_7 (List.length x0_1)) then
              bif ((List.getD x0_1 (Int.toNat r22_7) zQIIIIILIE).2.1 == x4_2.2.1) then
                k2_1_10 false
              else
                slices_Contains_int N x4_2.2.2 (List.getD x14_3 (Int.toNat x16_5) (0 : Int)) (fun (r39_8 : Bool) =>
                  bif r39_8 then
                    k2_1_10 false
                  else
                    (impl_MayJudge_l2 N x0_1 x4_2 x14_3 x15_4 n_6 k2_0_9 k2_1_10) (IntKind.wrap .i64 (x16_5 + (1 : Int))))
            else none)
      else none
    else
      k2_0_9
noncomputable def impl_MayJudge (N : Nat) (a0 : (List QIIIIILIE)) (a1 : QIILIE) (a2 : QIIE) (kf : Bool → Option Ret) : Option Ret :=
  impl_MayJudge_l2 N a0 a1 [a2.1, a2.2] (List.length [a2.1, a2.2] : Int) N (kf true) kf (0 : Int)
noncomputable def impl_AreSeated_l4 (N : Nat) (x0_2 : (List QIIIIILIE)) (x1_3 : (List QIILIE)) (x2_4 : (List QIIE)) (x3_5 : (List Int)) (x22_6 : (List Int)) (x23_7 : Int) : Nat → (Option Ret) → (Bool → Option Ret) → Int → Option Ret
  | 0, _, _, _ => none
  | n_9 + 1, k4_0_13, k4_1_14, x24_8 =>
    bif (decide (x24_8 < x23_7)) then
      bif (inB x24_8 (List.length x22_6)) then
        slices_IndexFunc_Judge_impl_AreSeated_1 N x1_3 (List.getD x22_6 (Int.toNat x24_8) (0 : Int)) (fun (r31_10 : Int) =>
          bif (decide (r31_10 < (0 : Int))) then
            k4_1_14 false
          else
            bif (decide ((0 : Int) ≤ (0 : Int)) && decide ((0 : Int) ≤ x24_8) && decide (x24_8 ≤ (List.length x3_5 : Int))) then
              slices_Contains_int N (List.drop (Int.toNat (0 : Int)) (List.take (Int.toNat x24_8) x3_5)) (List.getD x22_6 (Int.toNat x24_8) (0 : Int)) (fun (r39_11 : Bool) =>
                bif r39_11 then
                  k4_1_14 false
                else
                  bif (inB r31_10 (List.length x1_3)) then
                    bif (inB x24_8 (List.length x2_4)) then
                      impl_MayJudge N x0_2 (List.getD x1_3 (Int.toNat r31_10) zQIILIE) (List.getD x2_4 (Int.toNat x24_8) zQIIE) (fun (r51_12 : Bool) =>
                        bif (!r51_12) then
                          k4_1_14 false
                        else
                          (impl_AreSeated_l4 N x0_2 x1_3 x2_4 x3_5 x22_6 x23_7 n_9 k4_0_13 k4_1_14) (IntKind.wrap .i64 (x24_8 + (1 : Int))))
                    else none
                  else none)
            else none)
      else none
    else
      k4_0_13
noncomputable def impl_AreSeated (N : Nat) (a0 : (List QIIIIILIE)) (a1 : (List QIILIE)) (a2 : (List QIIE)) (a3 : (List Int)) (kf : Bool → Option Ret) : Option Ret :=
  impl_AreJudges N a1 (fun (r13_1 : Bool) =>
    bif (!r13_1) then
      kf false
    else
      bif ((List.length a3 : Int) != (List.length a2 : Int)) then
        kf false
      else
        impl_AreSeated_l4 N a0 a1 a2 a3 a3 (List.length a3 : Int) N (kf true) kf (0 : Int))
noncomputable def impl_IsBallot (N : Nat) (a0 : QIIIE) (kf : Bool → Option Ret) : Option Ret :=
  impl_InRange N a0.1 (1 : Int) (99 : Int) (fun (r5_1 : Bool) =>
    bif r5_1 then
      impl_InRange N a0.2.1 (0 : Int) (100 : Int) (fun (r9_2 : Bool) =>
        bif r9_2 then
          impl_InRange N a0.2.2 (0 : Int) (100 : Int) (fun (r14_3 : Bool) =>
            bif r14_3 then
              kf (a0.2.1 != a0.2.2)
            else
              kf false)
        else
          kf false)
    else
      kf false)
noncomputable def impl_TotalWins_l5 (x10_3 : (List QIIIIILIE)) (x11_4 : Int) : Nat → (Int → Option Ret) → Int → Int → Option Ret
  | 0, _, _, _ => none
  | n_6 + 1, k5_0_7, x3_2, x12_5 =>
    bif (decide (x12_5 < x11_4)) then
      bif (inB x12_5 (List.length x10_3)) then
        (impl_TotalWins_l5 x10_3 x11_4 n_6 k5_0_7) (IntKind.wrap .i64 (x3_2 + (List.getD x10_3 (Int.toNat x12_5) zQIIIIILIE).2.2.1)) (IntKind.wrap .i64 (x12_5 + (1 : Int)))
      else none
    else
      k5_0_7 x3_2
noncomputable def impl_TotalWins (N : Nat) (a0 : (List QIIIIILIE)) (kf : Int → Option Ret) : Option Ret :=
  impl_AreTeams N a0 (fun (r7_1 : Bool) =>
    bif (!r7_1) then
      kf (0 : Int)
    else
      impl_TotalWins_l5 a0 (List.length a0 : Int) N kf (0 : Int) (0 : Int))
noncomputable def impl_IsClub_l6 (N : Nat) (x1_7 : QLQIIIIILIELQIILIELQIIELILQIIIELQIIIIEIE) (x62_8 : (List QIIIE)) (x63_9 : Int) : Nat → (Option Ret) → (Bool → Option Ret) → Int → Option Ret
  | 0, _, _, _ => none
  | n_11 + 1, k6_0_13, k6_1_14, x64_10 =>
    bif (decide (x64_10 < x63_9)) then
      bif (inB x64_10 (List.length x62_8)) then
        bif (!((decide (((List.getD x62_8 (Int.toNat x64_10) zQIIIE).1 : Int) = (0 : Int))) && ((decide (((List.getD x62_8 (Int.toNat x64_10) zQIIIE).2.1 : Int) = (0 : Int))) && (decide (((List.getD x62_8 (Int.toNat x64_10) zQIIIE).2.2 : Int) = (0 : Int)))))) then
          impl_IsBallot N (List.getD x62_8 (Int.toNat x64_10) zQIIIE) (fun (r74_12 : Bool) =>
            bif (!r74_12) then
              k6_1_14 false
            else
              bif (inB x64_10 (List.length x1_7.2.2.2.1)) then
                bif ((List.getD x62_8 (Int.toNat x64_10) zQIIIE).1 != (List.getD x1_7.2.2.2.1 (Int.toNat x64_10) (0 : Int))) then
                  k6_1_14 false
                else
                  (impl_IsClub_l6 N x1_7 x62_8 x63_9 n_11 k6_0_13 k6_1_14) (IntKind.wrap .i64 (x64_10 + (1 : Int)))
              else none)
        else
          (impl_IsClub_l6 N x1_7 x62_8 x63_9 n_11 k6_0_13 k6_1_14) (IntKind.wrap .i64 (x64_10 + (1 : Int)))
      else none
    else
      k6_0_13
noncomputable def impl_IsClub_j1 (N : Nat) (a0 : QLQIIIIILIELQIILIELQIIELILQIIIELQIIIIEIE) (kf : Bool → Option Ret) : Option Ret :=
  impl_IsClub_l6 N a0 a0.2.2.2.2.1 (List.length a0.2.2.2.2.1 : Int) N (
    impl_InRange N a0.2.2.2.2.2.2 (0 : Int) (1000 : Int) (fun (r90_17 : Bool) =>
      bif r90_17 then
        impl_TotalWins N a0.1 (fun (r94_18 : Int) =>
          kf (r94_18 == a0.2.2.2.2.2.2))
      else
        kf false)) kf (0 : Int)
noncomputable def impl_IsClub (N : Nat) (a0 : QLQIIIIILIELQIILIELQIIELILQIIIELQIIIIEIE) (kf : Bool → Option Ret) : Option Ret :=
  impl_AreTeams N a0.1 (fun (r7_1 : Bool) =>
    bif (!r7_1) then
      kf false
    else
      impl_AreJudges N a0.2.1 (fun (r12_2 : Bool) =>
        bif (!r12_2) then
          kf false
        else
          impl_AreMinutes N a0.2.2.2.2.2.1 (fun (r18_3 : Bool) =>
            bif (!r18_3) then
              kf false
            else
              bif ((List.length a0.2.2.2.1 : Int) != (List.length a0.2.2.1 : Int)) then
                kf false
              else
                bif ((List.length a0.2.2.2.2.1 : Int) != (List.length a0.2.2.1 : Int)) then
                  kf false
                else
                  impl_IsRunning N a0 (fun (r40_4 : Bool) =>
                    bif r40_4 then
                      impl_IsRound N a0.1 a0.2.2.1 (fun (r46_5 : Bool) =>
                        bif (!r46_5) then
                          kf false
                        else
                          impl_AreSeated N a0.1 a0.2.1 a0.2.2.1 a0.2.2.2.1 (fun (r57_6 : Bool) =>
                            bif (!r57_6) then
                              kf false
                            else
                              impl_IsClub_j1 N a0 kf))
                    else
                      impl_IsClub_j1 N a0 kf))))
noncomputable def impl_LastSeal (N : Nat) (a0 : (List QIIIIE)) (kf : Int → Option Ret) : Option Ret :=
  bif ((List.length a0 : Int) == (0 : Int)) then
    kf (0 : Int)
  else
    bif (inB (IntKind.wrap .i64 ((List.length a0 : Int) - (1 : Int))) (List.length a0)) then
      kf (List.getD a0 (Int.toNat (IntKind.wrap .i64 ((List.length a0 : Int) - (1 : Int)))) zQIIIIE).2.2.2
    else none
noncomputable def impl_WriteLine (N : Nat) (a0 : (List QIIIIE)) (a1 : Int) (a2 : Int) (kf : (List QIIIIE) → Bool → Option Ret) : Option Ret :=
  impl_LastSeal N a0 (fun (r17_1 : Int) =>
    impl_lineSeal N r17_1 ((IntKind.wrap .i64 ((List.length a0 : Int) + (1 : Int))), (a1, (a2, (0 : Int)))) (fun (r19_2 : Int) =>
      slices_Clone_Line N a0 (fun (r22_3 : (List QIIIIE)) =>
        bif (decide ((List.length r22_3 + List.length [((IntKind.wrap .i64 ((List.length a0 : Int) + (1 : Int))), (a1, (a2, r19_2)))]) * 4 ≤ 4398046511104)) then
          impl_AreMinutes N (r22_3 ++ [((IntKind.wrap .i64 ((List.length a0 : Int) + (1 : Int))), (a1, (a2, r19_2)))]) (fun (r27_4 : Bool) =>
            bif (!r27_4) then
              slices_Clone_Line N a0 (fun (r30_5 : (List QIIIIE)) =>
                kf r30_5 false)
            else
              kf (r22_3 ++ [((IntKind.wrap .i64 ((List.length a0 : Int) + (1 : Int))), (a1, (a2, r19_2)))]) true)
        else none)))
noncomputable def impl_stepped (N : Nat) (a0 : QLQIIIIILIELQIILIELQIIELILQIIIELQIIIIEIE) (a1 : QLQIIIIILIELQIILIELQIIELILQIIIELQIIIIEIE) (a2 : Int) (a3 : Int) (kf : QLQIIIIILIELQIILIELQIIELILQIIIELQIIIIEIE → Bool → Option Ret) : Option Ret :=
  impl_WriteLine N a1.2.2.2.2.2.1 a2 a3 (fun (r16_1 : (List QIIIIE)) (r16_2 : Bool) =>
    bif (!r16_2) then
      impl_cloneClub N a0 (fun (r33_5 : QLQIIIIILIELQIILIELQIIELILQIIIELQIIIIEIE) =>
        kf r33_5 false)
    else
      impl_IsClub N a0 (fun (r24_3 : Bool) =>
        bif (!r24_3) then
          impl_cloneClub N a0 (fun (r33_5 : QLQIIIIILIELQIILIELQIIELILQIIIELQIIIIEIE) =>
            kf r33_5 false)
        else
          impl_IsClub N (a1.1, (a1.2.1, (a1.2.2.1, (a1.2.2.2.1, (a1.2.2.2.2.1, (r16_1, a1.2.2.2.2.2.2)))))) (fun (r29_4 : Bool) =>
            bif (!r29_4) then
              impl_cloneClub N a0 (fun (r33_6 : QLQIIIIILIELQIILIELQIIELILQIIIELQIIIIEIE) =>
                kf r33_6 false)
            else
              kf (a1.1, (a1.2.1, (a1.2.2.1, (a1.2.2.2.1, (a1.2.2.2.2.1, (r16_1, a1.2.2.2.2.2.2)))))) true)))
noncomputable def laws_eqIntS_l4 (x0_1 : (List Int)) (x1_2 : (List Int)) : Nat → (Option Ret) → (Bool → Option Ret) → Int → Option Ret
  | 0, _, _, _ => none
  | n_4 + 1, k4_0_5, k4_1_6, x5_3 =>
    bif (decide (x5_3 < (List.length x0_1 : Int))) then
      bif (inB x5_3 (List.length x0_1)) then
        bif (inB x5_3 (List.length x1_2)) then
          bif ((List.getD x0_1 (Int.toNat x5_3) (0 : Int)) != (List.getD x1_2 (Int.toNat x5_3) (0 : Int))) then
            k4_1_6 false
          else
            (laws_eqIntS_l4 x0_1 x1_2 n_4 k4_0_5 k4_1_6) (IntKind.wrap .i64 (x5_3 + (1 : Int)))
        else none
      else none
    else
      k4_0_5
noncomputable def laws_eqIntS (N : Nat) (a0 : (List Int)) (a1 : (List Int)) (kf : Bool → Option Ret) : Option Ret :=
  bif ((List.length a0 : Int) != (List.length a1 : Int)) then
    kf false
  else
    laws_eqIntS_l4 a0 a1 N (kf true) kf (0 : Int)
noncomputable def laws_eqTeam (N : Nat) (a0 : QIIIIILIE) (a1 : QIIIIILIE) (kf : Bool → Option Ret) : Option Ret :=
  bif (a0.1 != a1.1) then
    kf false
  else
    bif (a0.2.1 != a1.2.1) then
      kf false
    else
      bif (a0.2.2.1 != a1.2.2.1) then
        kf false
      else
        bif (a0.2.2.2.1 != a1.2.2.2.1) then
          kf false
        else
          bif (a0.2.2.2.2.1 != a1.2.2.2.2.1) then
            kf false
          else
            laws_eqIntS N a0.2.2.2.2.2 a1.2.2.2.2.2 (fun (r34_1 : Bool) =>
              bif (!r34_1) then
                kf false
              else
                kf true)
noncomputable def laws_eqTeamS_l4 (N : Nat) (x0_1 : (List QIIIIILIE)) (x1_2 : (List QIIIIILIE)) : Nat → (Option Ret) → (Bool → Option Ret) → Int → Option Ret
  | 0, _, _, _ => none
  | n_4 + 1, k4_0_6, k4_1_7, x5_3 =>
    bif (decide (x5_3 < (List.length x0_1 : Int))) then
      bif (inB x5_3 (List.length x0_1)) then
        bif (inB x5_3 (List.length x1_2)) then
          laws_eqTeam N (List.getD x0_1 (Int.toNat x5_3) zQIIIIILIE) (List.getD x1_2 (Int.toNat x5_3) zQIIIIILIE) (fun (r25_5 : Bool) =>
            bif (!r25_5) then
              k4_1_7 false
            else
              (laws_eqTeamS_l4 N x0_1 x1_2 n_4 k4_0_6 k4_1_7) (IntKind.wrap .i64 (x5_3 + (1 : Int))))
        else none
      else none
    else
      k4_0_6
noncomputable def laws_eqTeamS (N : Nat) (a0 : (List QIIIIILIE)) (a1 : (List QIIIIILIE)) (kf : Bool → Option Ret) : Option Ret :=
  bif ((List.length a0 : Int) != (List.length a1 : Int)) then
    kf false
  else
    laws_eqTeamS_l4 N a0 a1 N (kf true) kf (0 : Int)
noncomputable def laws_eqJudge (N : Nat) (a0 : QIILIE) (a1 : QIILIE) (kf : Bool → Option Ret) : Option Ret :=
  bif (a0.1 != a1.1) then
    kf false
  else
    bif (a0.2.1 != a1.2.1) then
      kf false
    else
      laws_eqIntS N a0.2.2 a1.2.2 (fun (r19_1 : Bool) =>
        bif (!r19_1) then
          kf false
        else
          kf true)
noncomputable def laws_eqJudgeS_l4 (N : Nat) (x0_1 : (List QIILIE)) (x1_2 : (List QIILIE)) : Nat → (Option Ret) → (Bool → Option Ret) → Int → Option Ret
  | 0, _, _, _ => none
  | n_4 + 1, k4_0_6, k4_1_7, x5_3 =>
    bif (decide (x5_3 < (List.length x0_1 : Int))) then
      bif (inB x5_3 (List.length x0_1)) then
        bif (inB x5_3 (List.length x1_2)) then
          laws_eqJudge N (List.getD x0_1 (Int.toNat x5_3) zQIILIE) (List.getD x1_2 (Int.toNat x5_3) zQIILIE) (fun (r25_5 : Bool) =>
            bif (!r25_5) then
              k4_1_7 false
            else
              (laws_eqJudgeS_l4 N x0_1 x1_2 n_4 k4_0_6 k4_1_7) (IntKind.wrap .i64 (x5_3 + (1 : Int))))
        else none
      else none
    else
      k4_0_6
noncomputable def laws_eqJudgeS (N : Nat) (a0 : (List QIILIE)) (a1 : (List QIILIE)) (kf : Bool → Option Ret) : Option Ret :=
  bif ((List.length a0 : Int) != (List.length a1 : Int)) then
    kf false
  else
    laws_eqJudgeS_l4 N a0 a1 N (kf true) kf (0 : Int)
noncomputable def laws_eqPair (N : Nat) (a0 : QIIE) (a1 : QIIE) (kf : Bool → Option Ret) : Option Ret :=
  bif (a0.1 != a1.1) then
    kf false
  else
    bif (a0.2 != a1.2) then
      kf false
    else
      kf true
noncomputable def laws_eqPairS_l4 (N : Nat) (x0_1 : (List QIIE)) (x1_2 : (List QIIE)) : Nat → (Option Ret) → (Bool → Option Ret) → Int → Option Ret
  | 0, _, _, _ => none
  | n_4 + 1, k4_0_6, k4_1_7, x5_3 =>
    bif (decide (x5_3 < (List.length x0_1 : Int))) then
      bif (inB x5_3 (List.length x0_1)) then
        bif (inB x5_3 (List.length x1_2)) then
          laws_eqPair N (List.getD x0_1 (Int.toNat x5_3) zQIIE) (List.getD x1_2 (Int.toNat x5_3) zQIIE) (fun (r25_5 : Bool) =>
            bif (!r25_5) then
              k4_1_7 false
            else
              (laws_eqPairS_l4 N x0_1 x1_2 n_4 k4_0_6 k4_1_7) (IntKind.wrap .i64 (x5_3 + (1 : Int))))
        else none
      else none
    else
      k4_0_6
noncomputable def laws_eqPairS (N : Nat) (a0 : (List QIIE)) (a1 : (List QIIE)) (kf : Bool → Option Ret) : Option Ret :=
  bif ((List.length a0 : Int) != (List.length a1 : Int)) then
    kf false
  else
    laws_eqPairS_l4 N a0 a1 N (kf true) kf (0 : Int)
noncomputable def laws_eqBallot (N : Nat) (a0 : QIIIE) (a1 : QIIIE) (kf : Bool → Option Ret) : Option Ret :=
  bif (a0.1 != a1.1) then
    kf false
  else
    bif (a0.2.1 != a1.2.1) then
      kf false
    else
      bif (a0.2.2 != a1.2.2) then
        kf false
      else
        kf true
noncomputable def laws_eqBallotS_l4 (N : Nat) (x0_1 : (List QIIIE)) (x1_2 : (List QIIIE)) : Nat → (Option Ret) → (Bool → Option Ret) → Int → Option Ret
  | 0, _, _, _ => none
  | n_4 + 1, k4_0_6, k4_1_7, x5_3 =>
    bif (decide (x5_3 < (List.length x0_1 : Int))) then
      bif (inB x5_3 (List.length x0_1)) then
        bif (inB x5_3 (List.length x1_2)) then
          laws_eqBallot N (List.getD x0_1 (Int.toNat x5_3) zQIIIE) (List.getD x1_2 (Int.toNat x5_3) zQIIIE) (fun (r25_5 : Bool) =>
            bif (!r25_5) then
              k4_1_7 false
            else
              (laws_eqBallotS_l4 N x0_1 x1_2 n_4 k4_0_6 k4_1_7) (IntKind.wrap .i64 (x5_3 + (1 : Int))))
        else none
      else none
    else
      k4_0_6
noncomputable def laws_eqBallotS (N : Nat) (a0 : (List QIIIE)) (a1 : (List QIIIE)) (kf : Bool → Option Ret) : Option Ret :=
  bif ((List.length a0 : Int) != (List.length a1 : Int)) then
    kf false
  else
    laws_eqBallotS_l4 N a0 a1 N (kf true) kf (0 : Int)
noncomputable def laws_eqLine (N : Nat) (a0 : QIIIIE) (a1 : QIIIIE) (kf : Bool → Option Ret) : Option Ret :=
  bif (a0.1 != a1.1) then
    kf false
  else
    bif (a0.2.1 != a1.2.1) then
      kf false
    else
      bif (a0.2.2.1 != a1.2.2.1) then
        kf false
      else
        bif (a0.2.2.2 != a1.2.2.2) then
          kf false
        else
          kf true
noncomputable def laws_eqLineS_l4 (N : Nat) (x0_1 : (List QIIIIE)) (x1_2 : (List QIIIIE)) : Nat → (Option Ret) → (Bool → Option Ret) → Int → Option Ret
  | 0, _, _, _ => none
  | n_4 + 1, k4_0_6, k4_1_7, x5_3 =>
    bif (decide (x5_3 < (List.length x0_1 : Int))) then
      bif (inB x5_3 (List.length x0_1)) then
        bif (inB x5_3 (List.length x1_2)) then
          laws_eqLine N (List.getD x0_1 (Int.toNat x5_3) zQIIIIE) (List.getD x1_2 (Int.toNat x5_3) zQIIIIE) (fun (r25_5 : Bool) =>
            bif (!r25_5) then
              k4_1_7 false
            else
              (laws_eqLineS_l4 N x0_1 x1_2 n_4 k4_0_6 k4_1_7) (IntKind.wrap .i64 (x5_3 + (1 : Int))))
        else none
      else none
    else
      k4_0_6
noncomputable def laws_eqLineS (N : Nat) (a0 : (List QIIIIE)) (a1 : (List QIIIIE)) (kf : Bool → Option Ret) : Option Ret :=
  bif ((List.length a0 : Int) != (List.length a1 : Int)) then
    kf false
  else
    laws_eqLineS_l4 N a0 a1 N (kf true) kf (0 : Int)
noncomputable def laws_eqClub (N : Nat) (a0 : QLQIIIIILIELQIILIELQIIELILQIIIELQIIIIEIE) (a1 : QLQIIIIILIELQIILIELQIIELILQIIIELQIIIIEIE) (kf : Bool → Option Ret) : Option Ret :=
  laws_eqTeamS N a0.1 a1.1 (fun (r9_1 : Bool) =>
    bif (!r9_1) then
      kf false
    else
      laws_eqJudgeS N a0.2.1 a1.2.1 (fun (r15_2 : Bool) =>
        bif (!r15_2) then
          kf false
        else
          laws_eqPairS N a0.2.2.1 a1.2.2.1 (fun (r21_3 : Bool) =>
            bif (!r21_3) then
              kf false
            else
              laws_eqIntS N a0.2.2.2.1 a1.2.2.2.1 (fun (r27_4 : Bool) =>
                bif (!r27_4) then
                  kf false
                else
                  laws_eqBallotS N a0.2.2.2.2.1 a1.2.2.2.2.1 (fun (r33_5 : Bool) =>
                    bif (!r33_5) then
                      kf false
                    else
                      laws_eqLineS N a0.2.2.2.2.2.1 a1.2.2.2.2.2.1 (fun (r39_6 : Bool) =>
                        bif (!r39_6) then
                          kf false
                        else
                          bif (a0.2.2.2.2.2.2 != a1.2.2.2.2.2.2) then
                            kf false
                          else
                            kf true))))))
noncomputable def laws_markIntS_l2  : Nat → ((List Int) → Int → Option Ret) → (List Int) → Int → Int → Option Ret
  | 0, _, _, _, _ => none
  | n_4 + 1, k2_0_5, x0_1, x1_2, x5_3 =>
    bif (decide (x5_3 < (List.length x0_1 : Int))) then
      bif (inB x5_3 (List.length x0_1)) then
        (laws_markIntS_l2 n_4 k2_0_5) (List.set x0_1 (Int.toNat x5_3) x1_2) (IntKind.wrap .i64 (x1_2 + (1 : Int))) (IntKind.wrap .i64 (x5_3 + (1 : Int)))
      else none
    else
      k2_0_5 x0_1 x1_2
noncomputable def laws_markIntS (N : Nat) (a0 : (List Int)) (a1 : Int) (kf : Int → (List Int) → Option Ret) : Option Ret :=
  laws_markIntS_l2 N (fun (z0_7 : (List Int)) (z1_8 : Int) =>
    kf z1_8 z0_7) a0 a1 (0 : Int)
noncomputable def laws_markTeamS_l2 (N : Nat) : Nat → ((List QIIIIILIE) → Int → Option Ret) → (List QIIIIILIE) → Int → Int → Option Ret
  | 0, _, _, _, _ => none
  | n_4 + 1, k2_0_12, x0_1, x1_2, x5_3 =>
    bif (decide (x5_3 < (List.length x0_1 : Int))) then
      bif (inB x5_3 (List.length x0_1)) then
        share (List.set x0_1 (Int.toNat x5_3) (x1_2, (List.getD x0_1 (Int.toNat x5_3) zQIIIIILIE).2)) (fun (w0_5 : (List QIIIIILIE)) =>
          bif (inB x5_3 (List.length w0_5)) then
            share (List.set w0_5 (Int.toNat x5_3) ((List.getD w0_5 (Int.toNat x5_3) zQIIIIILIE).1, ((IntKind.wrap .i64 (x1_2 + (1 : Int))), (List.getD w0_5 (Int.toNat x5_3) zQIIIIILIE).2.2))) (fun (w0_6 : (List QIIIIILIE)) =>
              bif (inB x5_3 (List.length w0_6)) then
                share (List.set w0_6 (Int.toNat x5_3) ((List.getD w0_6 (Int.toNat x5_3) zQIIIIILIE).1, ((List.getD w0_6 (Int.toNat x5_3) zQIIIIILIE).2.1, ((IntKind.wrap .i64 ((IntKind.wrap .i64 (x1_2 + (1 : Int))) + (1 : Int))), (List.getD w0_6 (Int.toNat x5_3) zQIIIIILIE).2.2.2)))) (fun (w0_7 : (List QIIIIILIE)) =>
                  bif (inB x5_3 (List.length w0_7)) then
                    share (List.set w0_7 (Int.toNat x5_3) ((List.getD w0_7 (Int.toNat x5_3) zQIIIIILIE).1, ((List.getD w0_7 (Int.toNat x5_3) zQIIIIILIE).2.1, ((List.getD w0_7 (Int.toNat x5_3) zQIIIIILIE).2.2.1, ((IntKind.wrap .i64 ((IntKind.wrap .i64 ((IntKind.wrap .i64 (x1_2 + (1 : Int))) + (1 : Int))) + (1 : Int))), (List.getD w0_7 (Int.toNat x5_3) zQIIIIILIE).2.2.2.2))))) (fun (w0_8 : (List QIIIIILIE)) =>
                      bif (inB x5_3 (List.length w0_8)) then
                        share (List.set w0_8 (Int.toNat x5_3) ((List.getD w0_8 (Int.toNat x5_3) zQIIIIILIE).1, ((List.getD w0_8 (Int.toNat x5_3) zQIIIIILIE).2.1, ((List.getD w0_8 (Int.toNat x5_3) zQIIIIILIE).2.2.1, ((List.getD w0_8 (Int.toNat x5_3) zQIIIIILIE).2.2.2.1, ((IntKind.wrap .i64 ((IntKind.wrap .i64 ((IntKind.wrap .i64 ((IntKind.wrap .i64 (x1_2 + (1 : Int))) + (1 : Int))) + (1 : Int))) + (1 : Int))), (List.getD w0_8 (Int.toNat x5_3) zQIIIIILIE).2.2.2.2.2)))))) (fun (w0_9 : (List QIIIIILIE)) =>
                          bif (inB x5_3 (List.length w0_9)) then
                            laws_markIntS N (List.getD w0_9 (Int.toNat x5_3) zQIIIIILIE).2.2.2.2.2 (IntKind.wrap .i64 ((IntKind.wrap .i64 ((IntKind.wrap .i64 ((IntKind.wrap .i64 ((IntKind.wrap .i64 (x1_2 + (1 : Int))) + (1 : Int))) + (1 : Int))) + (1 : Int))) + (1 : Int))) (fun (r53_10 : Int) (z0_11 : (List Int)) =>
                              (laws_markTeamS_l2 N n_4 k2_0_12) (List.set w0_9 (Int.toNat x5_3) ((List.getD w0_9 (Int.toNat x5_3) zQIIIIILIE).1, ((List.getD w0_9 (Int.toNat x5_3) zQIIIIILIE).2.1, ((List.getD w0_9 (Int.toNat x5_3) zQIIIIILIE).2.2.1, ((List.getD w0_9 (Int.toNat x5_3) zQIIIIILIE).2.2.2.1, ((List.getD w0_9 (Int.toNat x5_3) zQIIIIILIE).2.2.2.2.1, z0_11)))))) r53_10 (IntKind.wrap .i64 (x5_3 + (1 : Int))))
                          else none)
                      else none)
                  else none)
              else none)
          else none)
      else none
    else
      k2_0_12 x0_1 x1_2
noncomputable def laws_markTeamS (N : Nat) (a0 : (List QIIIIILIE)) (a1 : Int) (kf : Int → (List QIIIIILIE) → Option Ret) : Option Ret :=
  laws_markTeamS_l2 N N (fun (z0_14 : (List QIIIIILIE)) (z1_15 : Int) =>
    kf z1_15 z0_14) a0 a1 (0 : Int)
noncomputable def laws_markJudgeS_l2 (N : Nat) : Nat → ((List QIILIE) → Int → Option Ret) → (List QIILIE) → Int → Int → Option Ret
  | 0, _, _, _, _ => none
  | n_4 + 1, k2_0_9, x0_1, x1_2, x5_3 =>
    bif (decide (x5_3 < (List.length x0_1 : Int))) then
      bif (inB x5_3 (List.length x0_1)) then
        share (List.set x0_1 (Int.toNat x5_3) (x1_2, (List.getD x0_1 (Int.toNat x5_3) zQIILIE).2)) (fun (w0_5 : (List QIILIE)) =>
          bif (inB x5_3 (List.length w0_5)) then
            share (List.set w0_5 (Int.toNat x5_3) ((List.getD w0_5 (Int.toNat x5_3) zQIILIE).1, ((IntKind.wrap .i64 (x1_2 + (1 : Int))), (List.getD w0_5 (Int.toNat x5_3) zQIILIE).2.2))) (fun (w0_6 : (List QIILIE)) =>
              bif (inB x5_3 (List.length w0_6)) then
                laws_markIntS N (List.getD w0_6 (Int.toNat x5_3) zQIILIE).2.2 (IntKind.wrap .i64 ((IntKind.wrap .i64 (x1_2 + (1 : Int))) + (1 : Int))) (fun (r32_7 : Int) (z0_8 : (List Int)) =>
                  (laws_markJudgeS_l2 N n_4 k2_0_9) (List.set w0_6 (Int.toNat x5_3) ((List.getD w0_6 (Int.toNat x5_3) zQIILIE).1, ((List.getD w0_6 (Int.toNat x5_3) zQIILIE).2.1, z0_8))) r32_7 (IntKind.wrap .i64 (x5_3 + (1 : Int))))
              else none)
          else none)
      else none
    else
      k2_0_9 x0_1 x1_2
noncomputable def laws_markJudgeS (N : Nat) (a0 : (List QIILIE)) (a1 : Int) (kf : Int → (List QIILIE) → Option Ret) : Option Ret :=
  laws_markJudgeS_l2 N N (fun (z0_11 : (List QIILIE)) (z1_12 : Int) =>
    kf z1_12 z0_11) a0 a1 (0 : Int)
noncomputable def laws_markPairS_l2  : Nat → ((List QIIE) → Int → Option Ret) → (List QIIE) → Int → Int → Option Ret
  | 0, _, _, _, _ => none
  | n_4 + 1, k2_0_7, x0_1, x1_2, x5_3 =>
    bif (decide (x5_3 < (List.length x0_1 : Int))) then
      bif (inB x5_3 (List.length x0_1)) then
        share (List.set x0_1 (Int.toNat x5_3) (x1_2, (List.getD x0_1 (Int.toNat x5_3) zQIIE).2)) (fun (w0_5 : (List QIIE)) =>
          bif (inB x5_3 (List.length w0_5)) then
            share (List.set w0_5 (Int.toNat x5_3) ((List.getD w0_5 (Int.toNat x5_3) zQIIE).1, (IntKind.wrap .i64 (x1_2 + (1 : Int))))) (fun (w0_6 : (List QIIE)) =>
              (laws_markPairS_l2 n_4 k2_0_7) w0_6 (IntKind.wrap .i64 ((IntKind.wrap .i64 (x1_2 + (1 : Int))) + (1 : Int))) (IntKind.wrap .i64 (x5_3 + (1 : Int))))
          else none)
      else none
    else
      k2_0_7 x0_1 x1_2
noncomputable def laws_markPairS (N : Nat) (a0 : (List QIIE)) (a1 : Int) (kf : Int → (List QIIE) → Option Ret) : Option Ret :=
  laws_markPairS_l2 N (fun (z0_9 : (List QIIE)) (z1_10 : Int) =>
    kf z1_10 z0_9) a0 a1 (0 : Int)
noncomputable def laws_markBallotS_l2  : Nat → ((List QIIIE) → Int → Option Ret) → (List QIIIE) → Int → Int → Option Ret
  | 0, _, _, _, _ => none
  | n_4 + 1, k2_0_8, x0_1, x1_2, x5_3 =>
    bif (decide (x5_3 < (List.length x0_1 : Int))) then
      bif (inB x5_3 (List.length x0_1)) then
        share (List.set x0_1 (Int.toNat x5_3) (x1_2, (List.getD x0_1 (Int.toNat x5_3) zQIIIE).2)) (fun (w0_5 : (List QIIIE)) =>
          bif (inB x5_3 (List.length w0_5)) then
            share (List.set w0_5 (Int.toNat x5_3) ((List.getD w0_5 (Int.toNat x5_3) zQIIIE).1, ((IntKind.wrap .i64 (x1_2 + (1 : Int))), (List.getD w0_5 (Int.toNat x5_3) zQIIIE).2.2))) (fun (w0_6 : (List QIIIE)) =>
              bif (inB x5_3 (List.length w0_6)) then
                share (List.set w0_6 (Int.toNat x5_3) ((List.getD w0_6 (Int.toNat x5_3) zQIIIE).1, ((List.getD w0_6 (Int.toNat x5_3) zQIIIE).2.1, (IntKind.wrap .i64 ((IntKind.wrap .i64 (x1_2 + (1 : Int))) + (1 : Int)))))) (fun (w0_7 : (List QIIIE)) =>
                  (laws_markBallotS_l2 n_4 k2_0_8) w0_7 (IntKind.wrap .i64 ((IntKind.wrap .i64 ((IntKind.wrap .i64 (x1_2 + (1 : Int))) + (1 : Int))) + (1 : Int))) (IntKind.wrap .i64 (x5_3 + (1 : Int))))
              else none)
          else none)
      else none
    else
      k2_0_8 x0_1 x1_2
noncomputable def laws_markBallotS (N : Nat) (a0 : (List QIIIE)) (a1 : Int) (kf : Int → (List QIIIE) → Option Ret) : Option Ret :=
  laws_markBallotS_l2 N (fun (z0_10 : (List QIIIE)) (z1_11 : Int) =>
    kf z1_11 z0_10) a0 a1 (0 : Int)
noncomputable def laws_markLineS_l2  : Nat → ((List QIIIIE) → Int → Option Ret) → (List QIIIIE) → Int → Int → Option Ret
  | 0, _, _, _, _ => none
  | n_4 + 1, k2_0_9, x0_1, x1_2, x5_3 =>
    bif (decide (x5_3 < (List.length x0_1 : Int))) then
      bif (inB x5_3 (List.length x0_1)) then
        share (List.set x0_1 (Int.toNat x5_3) (x1_2, (List.getD x0_1 (Int.toNat x5_3) zQIIIIE).2)) (fun (w0_5 : (List QIIIIE)) =>
          bif (inB x5_3 (List.length w0_5)) then
            share (List.set w0_5 (Int.toNat x5_3) ((List.getD w0_5 (Int.toNat x5_3) zQIIIIE).1, ((IntKind.wrap .i64 (x1_2 + (1 : Int))), (List.getD w0_5 (Int.toNat x5_3) zQIIIIE).2.2))) (fun (w0_6 : (List QIIIIE)) =>
              bif (inB x5_3 (List.length w0_6)) then
                share (List.set w0_6 (Int.toNat x5_3) ((List.getD w0_6 (Int.toNat x5_3) zQIIIIE).1, ((List.getD w0_6 (Int.toNat x5_3) zQIIIIE).2.1, ((IntKind.wrap .i64 ((IntKind.wrap .i64 (x1_2 + (1 : Int))) + (1 : Int))), (List.getD w0_6 (Int.toNat x5_3) zQIIIIE).2.2.2)))) (fun (w0_7 : (List QIIIIE)) =>
                  bif (inB x5_3 (List.length w0_7)) then
                    share (List.set w0_7 (Int.toNat x5_3) ((List.getD w0_7 (Int.toNat x5_3) zQIIIIE).1, ((List.getD w0_7 (Int.toNat x5_3) zQIIIIE).2.1, ((List.getD w0_7 (Int.toNat x5_3) zQIIIIE).2.2.1, (IntKind.wrap .i64 ((IntKind.wrap .i64 ((IntKind.wrap .i64 (x1_2 + (1 : Int))) + (1 : Int))) + (1 : Int))))))) (fun (w0_8 : (List QIIIIE)) =>
                      (laws_markLineS_l2 n_4 k2_0_9) w0_8 (IntKind.wrap .i64 ((IntKind.wrap .i64 ((IntKind.wrap .i64 ((IntKind.wrap .i64 (x1_2 + (1 : Int))) + (1 : Int))) + (1 : Int))) + (1 : Int))) (IntKind.wrap .i64 (x5_3 + (1 : Int))))
                  else none)
              else none)
          else none)
      else none
    else
      k2_0_9 x0_1 x1_2
noncomputable def laws_markLineS (N : Nat) (a0 : (List QIIIIE)) (a1 : Int) (kf : Int → (List QIIIIE) → Option Ret) : Option Ret :=
  laws_markLineS_l2 N (fun (z0_11 : (List QIIIIE)) (z1_12 : Int) =>
    kf z1_12 z0_11) a0 a1 (0 : Int)
noncomputable def laws_markClub (N : Nat) (a0 : QLQIIIIILIELQIILIELQIIELILQIIIELQIIIIEIE) (a1 : Int) (kf : Int → QLQIIIIILIELQIILIELQIIELILQIIIELQIIIIEIE → Option Ret) : Option Ret :=
  laws_markTeamS N a0.1 a1 (fun (r8_1 : Int) (z2_2 : (List QIIIIILIE)) =>
    laws_markJudgeS N a0.2.1 r8_1 (fun (r12_3 : Int) (z2_4 : (List QIILIE)) =>
      laws_markPairS N a0.2.2.1 r12_3 (fun (r16_5 : Int) (z2_6 : (List QIIE)) =>
        laws_markIntS N a0.2.2.2.1 r16_5 (fun (r20_7 : Int) (z2_8 : (List Int)) =>
          laws_markBallotS N a0.2.2.2.2.1 r20_7 (fun (r24_9 : Int) (z2_10 : (List QIIIE)) =>
            laws_markLineS N a0.2.2.2.2.2.1 r24_9 (fun (r28_11 : Int) (z2_12 : (List QIIIIE)) =>
              kf r28_11 (z2_2, (z2_4, (z2_6, (z2_8, (z2_10, (z2_12, a0.2.2.2.2.2.2))))))))))))
noncomputable def laws_heldIntS_l2 (x0_1 : (List Int)) : Nat → (Int → Option Ret) → (Int → Option Ret) → Int → Int → Option Ret
  | 0, _, _, _, _ => none
  | n_4 + 1, k2_0_5, k2_1_6, x1_2, x5_3 =>
    bif (decide (x5_3 < (List.length x0_1 : Int))) then
      bif (inB x5_3 (List.length x0_1)) then
        bif ((List.getD x0_1 (Int.toNat x5_3) (0 : Int)) != x1_2) then
          k2_1_6 (-1 : Int)
        else
          (laws_heldIntS_l2 x0_1 n_4 k2_0_5 k2_1_6) (IntKind.wrap .i64 (x1_2 + (1 : Int))) (IntKind.wrap .i64 (x5_3 + (1 : Int)))
      else none
    else
      k2_0_5 x1_2
noncomputable def laws_heldIntS (N : Nat) (a0 : (List Int)) (a1 : Int) (kf : Int → Option Ret) : Option Ret :=
  laws_heldIntS_l2 a0 N kf kf a1 (0 : Int)
noncomputable def laws_heldTeamS_l2 (N : Nat) (x0_1 : (List QIIIIILIE)) : Nat → (Int → Option Ret) → (Int → Option Ret) → Int → Int → Option Ret
  | 0, _, _, _, _ => none
  | n_4 + 1, k2_0_6, k2_1_7, x1_2, x5_3 =>
    bif (decide (x5_3 < (List.length x0_1 : Int))) then
      bif (inB x5_3 (List.length x0_1)) then
        bif ((List.getD x0_1 (Int.toNat x5_3) zQIIIIILIE).1 != x1_2) then
          k2_1_7 (-1 : Int)
        else
          bif (inB x5_3 (List.length x0_1)) then
            bif ((List.getD x0_1 (Int.toNat x5_3) zQIIIIILIE).2.1 != (IntKind.wrap .i64 (x1_2 + (1 : Int)))) then
              k2_1_7 (-1 : Int)
            else
              bif (inB x5_3 (List.length x0_1)) then
                bif ((List.getD x0_1 (Int.toNat x5_3) zQIIIIILIE).2.2.1 != (IntKind.wrap .i64 ((IntKind.wrap .i64 (x1_2 + (1 : Int))) + (1 : Int)))) then
                  k2_1_7 (-1 : Int)
                else
                  bif (inB x5_3 (List.length x0_1)) then
                    bif ((List.getD x0_1 (Int.toNat x5_3) zQIIIIILIE).2.2.2.1 != (IntKind.wrap .i64 ((IntKind.wrap .i64 ((IntKind.wrap .i64 (x1_2 + (1 : Int))) + (1 : Int))) + (1 : Int)))) then
                      k2_1_7 (-1 : Int)
                    else
                      bif (inB x5_3 (List.length x0_1)) then
                        bif ((List.getD x0_1 (Int.toNat x5_3) zQIIIIILIE).2.2.2.2.1 != (IntKind.wrap .i64 ((IntKind.wrap .i64 ((IntKind.wrap .i64 ((IntKind.wrap .i64 (x1_2 + (1 : Int))) + (1 : Int))) + (1 : Int))) + (1 : Int)))) then
                          k2_1_7 (-1 : Int)
                        else
                          bif (inB x5_3 (List.length x0_1)) then
                            laws_heldIntS N (List.getD x0_1 (Int.toNat x5_3) zQIIIIILIE).2.2.2.2.2 (IntKind.wrap .i64 ((IntKind.wrap .i64 ((IntKind.wrap .i64 ((IntKind.wrap .i64 ((IntKind.wrap .i64 (x1_2 + (1 : Int))) + (1 : Int))) + (1 : Int))) + (1 : Int))) + (1 : Int))) (fun (r63_5 : Int) =>
                              bif (decide (r63_5 < (0 : Int))) then
                                k2_1_7 (-1 : Int)
                              else
                                (laws_heldTeamS_l2 N x0_1 n_4 k2_0_6 k2_1_7) r63_5 (IntKind.wrap .i64 (x5_3 + (1 : Int))))
                          else none
                      else none
                  else none
              else none
          else none
      else none
    else
      k2_0_6 x1_2
noncomputable def laws_heldTeamS (N : Nat) (a0 : (List QIIIIILIE)) (a1 : Int) (kf : Int → Option Ret) : Option Ret :=
  laws_heldTeamS_l2 N a0 N kf kf a1 (0 : Int)
noncomputable def laws_heldJudgeS_l2 (N : Nat) (x0_1 : (List QIILIE)) : Nat → (Int → Option Ret) → (Int → Option Ret) → Int → Int → Option Ret
  | 0, _, _, _, _ => none
  | n_4 + 1, k2_0_6, k2_1_7, x1_2, x5_3 =>
    bif (decide (x5_3 < (List.length x0_1 : Int))) then
      bif (inB x5_3 (List.length x0_1)) then
        bif ((List.getD x0_1 (Int.toNat x5_3) zQIILIE).1 != x1_2) then
          k2_1_7 (-1 : Int)
        else
          bif (inB x5_3 (List.length x0_1)) then
            bif ((List.getD x0_1 (Int.toNat x5_3) zQIILIE).2.1 != (IntKind.wrap .i64 (x1_2 + (1 : Int)))) then
              k2_1_7 (-1 : Int)
            else
              bif (inB x5_3 (List.length x0_1)) then
                laws_heldIntS N (List.getD x0_1 (Int.toNat x5_3) zQIILIE).2.2 (IntKind.wrap .i64 ((IntKind.wrap .i64 (x1_2 + (1 : Int))) + (1 : Int))) (fun (r36_5 : Int) =>
                  bif (decide (r36_5 < (0 : Int))) then
                    k2_1_7 (-1 : Int)
                  else
                    (laws_heldJudgeS_l2 N x0_1 n_4 k2_0_6 k2_1_7) r36_5 (IntKind.wrap .i64 (x5_3 + (1 : Int))))
              else none
          else none
      else none
    else
      k2_0_6 x1_2
noncomputable def laws_heldJudgeS (N : Nat) (a0 : (List QIILIE)) (a1 : Int) (kf : Int → Option Ret) : Option Ret :=
  laws_heldJudgeS_l2 N a0 N kf kf a1 (0 : Int)
noncomputable def laws_heldPairS_l2 (x0_1 : (List QIIE)) : Nat → (Int → Option Ret) → (Int → Option Ret) → Int → Int → Option Ret
  | 0, _, _, _, _ => none
  | n_4 + 1, k2_0_5, k2_1_6, x1_2, x5_3 =>
    bif (decide (x5_3 < (List.length x0_1 : Int))) then
      bif (inB x5_3 (List.length x0_1)) then
        bif ((List.getD x0_1 (Int.toNat x5_3) zQIIE).1 != x1_2) then
          k2_1_6 (-1 : Int)
        else
          bif (inB x5_3 (List.length x0_1)) then
            bif ((List.getD x0_1 (Int.toNat x5_3) zQIIE).2 != (IntKind.wrap .i64 (x1_2 + (1 : Int)))) then
              k2_1_6 (-1 : Int)
            else
              (laws_heldPairS_l2 x0_1 n_4 k2_0_5 k2_1_6) (IntKind.wrap .i64 ((IntKind.wrap .i64 (x1_2 + (1 : Int))) + (1 : Int))) (IntKind.wrap .i64 (x5_3 + (1 : Int)))
          else none
      else none
    else
      k2_0_5 x1_2
noncomputable def laws_heldPairS (N : Nat) (a0 : (List QIIE)) (a1 : Int) (kf : Int → Option Ret) : Option Ret :=
  laws_heldPairS_l2 a0 N kf kf a1 (0 : Int)
noncomputable def laws_heldBallotS_l2 (x0_1 : (List QIIIE)) : Nat → (Int → Option Ret) → (Int → Option Ret) → Int → Int → Option Ret
  | 0, _, _, _, _ => none
  | n_4 + 1, k2_0_5, k2_1_6, x1_2, x5_3 =>
    bif (decide (x5_3 < (List.length x0_1 : Int))) then
      bif (inB x5_3 (List.length x0_1)) then
        bif ((List.getD x0_1 (Int.toNat x5_3) zQIIIE).1 != x1_2) then
          k2_1_6 (-1 : Int)
        else
          bif (inB x5_3 (List.length x0_1)) then
            bif ((List.getD x0_1 (Int.toNat x5_3) zQIIIE).2.1 != (IntKind.wrap .i64 (x1_2 + (1 : Int)))) then
              k2_1_6 (-1 : Int)
            else
              bif (inB x5_3 (List.length x0_1)) then
                bif ((List.getD x0_1 (Int.toNat x5_3) zQIIIE).2.2 != (IntKind.wrap .i64 ((IntKind.wrap .i64 (x1_2 + (1 : Int))) + (1 : Int)))) then
                  k2_1_6 (-1 : Int)
                else
                  (laws_heldBallotS_l2 x0_1 n_4 k2_0_5 k2_1_6) (IntKind.wrap .i64 ((IntKind.wrap .i64 ((IntKind.wrap .i64 (x1_2 + (1 : Int))) + (1 : Int))) + (1 : Int))) (IntKind.wrap .i64 (x5_3 + (1 : Int)))
              else none
          else none
      else none
    else
      k2_0_5 x1_2
noncomputable def laws_heldBallotS (N : Nat) (a0 : (List QIIIE)) (a1 : Int) (kf : Int → Option Ret) : Option Ret :=
  laws_heldBallotS_l2 a0 N kf kf a1 (0 : Int)
noncomputable def laws_heldLineS_l2 (x0_1 : (List QIIIIE)) : Nat → (Int → Option Ret) → (Int → Option Ret) → Int → Int → Option Ret
  | 0, _, _, _, _ => none
  | n_4 + 1, k2_0_5, k2_1_6, x1_2, x5_3 =>
    bif (decide (x5_3 < (List.length x0_1 : Int))) then
      bif (inB x5_3 (List.length x0_1)) then
        bif ((List.getD x0_1 (Int.toNat x5_3) zQIIIIE).1 != x1_2) then
          k2_1_6 (-1 : Int)
        else
          bif (inB x5_3 (List.length x0_1)) then
            bif ((List.getD x0_1 (Int.toNat x5_3) zQIIIIE).2.1 != (IntKind.wrap .i64 (x1_2 + (1 : Int)))) then
              k2_1_6 (-1 : Int)
            else
              bif (inB x5_3 (List.length x0_1)) then
                bif ((List.getD x0_1 (Int.toNat x5_3) zQIIIIE).2.2.1 != (IntKind.wrap .i64 ((IntKind.wrap .i64 (x1_2 + (1 : Int))) + (1 : Int)))) then
                  k2_1_6 (-1 : Int)
                else
                  bif (inB x5_3 (List.length x0_1)) then
                    bif ((List.getD x0_1 (Int.toNat x5_3) zQIIIIE).2.2.2 != (IntKind.wrap .i64 ((IntKind.wrap .i64 ((IntKind.wrap .i64 (x1_2 + (1 : Int))) + (1 : Int))) + (1 : Int)))) then
                      k2_1_6 (-1 : Int)
                    else
                      (laws_heldLineS_l2 x0_1 n_4 k2_0_5 k2_1_6) (IntKind.wrap .i64 ((IntKind.wrap .i64 ((IntKind.wrap .i64 ((IntKind.wrap .i64 (x1_2 + (1 : Int))) + (1 : Int))) + (1 : Int))) + (1 : Int))) (IntKind.wrap .i64 (x5_3 + (1 : Int)))
                  else none
              else none
          else none
      else none
    else
      k2_0_5 x1_2
noncomputable def laws_heldLineS (N : Nat) (a0 : (List QIIIIE)) (a1 : Int) (kf : Int → Option Ret) : Option Ret :=
  laws_heldLineS_l2 a0 N kf kf a1 (0 : Int)
noncomputable def laws_heldClub (N : Nat) (a0 : QLQIIIIILIELQIILIELQIIELILQIIIELQIIIIEIE) (a1 : Int) (kf : Int → Option Ret) : Option Ret :=
  laws_heldTeamS N a0.1 a1 (fun (r8_1 : Int) =>
    bif (decide (r8_1 < (0 : Int))) then
      kf (-1 : Int)
    else
      laws_heldJudgeS N a0.2.1 r8_1 (fun (r14_2 : Int) =>
        bif (decide (r14_2 < (0 : Int))) then
          kf (-1 : Int)
        else
          laws_heldPairS N a0.2.2.1 r14_2 (fun (r20_3 : Int) =>
            bif (decide (r20_3 < (0 : Int))) then
              kf (-1 : Int)
            else
              laws_heldIntS N a0.2.2.2.1 r20_3 (fun (r26_4 : Int) =>
                bif (decide (r26_4 < (0 : Int))) then
                  kf (-1 : Int)
                else
                  laws_heldBallotS N a0.2.2.2.2.1 r26_4 (fun (r32_5 : Int) =>
                    bif (decide (r32_5 < (0 : Int))) then
                      kf (-1 : Int)
                    else
                      laws_heldLineS N a0.2.2.2.2.2.1 r32_5 (fun (r38_6 : Int) =>
                        bif (decide (r38_6 < (0 : Int))) then
                          kf (-1 : Int)
                        else
                          kf r38_6))))))
noncomputable def spec_StepJudge_l3 (x1_2 : Int) (x2_3 : Int) (x3_4 : QLQIIIIILIELQIILIELQIIELILQIIIELQIIIIEIE) (x6_5 : QLQIIIIILIELQIILIELQIIELILQIIIELQIIIIEIE) (x8_6 : QLQIIIIILIELQIILIELQIIELILQIIIELQIIIIEIE) : Nat → (Int → Option Ret) → Int → Option Ret
  | 0, _, _ => none
  | n_8 + 1, k3_0_9, x9_7 =>
    bif (decide (x9_7 < (List.length x3_4.2.1 : Int))) then
      bif (inB x9_7 (List.length x3_4.2.1)) then
        bif (decide ((List.getD x3_4.2.1 (Int.toNat x9_7) zQIILIE).1 < x1_2)) then
          (spec_StepJudge_l3 x1_2 x2_3 x3_4 x6_5 x8_6 n_8 k3_0_9) (IntKind.wrap .i64 (x9_7 + (1 : Int)))
        else
          k3_0_9 x9_7
      else none
    else
      k3_0_9 x9_7
noncomputable def spec_StepJudge (N : Nat) (a0 : QLQIIIIILIELQIILIELQIIELILQIIIELQIIIIEIE) (a1 : Int) (a2 : Int) (kf : QLQIIIIILIELQIILIELQIIELILQIIIELQIIIIEIE → Bool → Option Ret) : Option Ret :=
  spec_l33Copy N a0 (fun (r11_1 : QLQIIIIILIELQIILIELQIIELILQIIIELQIIIIEIE) =>
    spec_StepJudge_l3 a1 a2 a0 (([] : (List QIIIIILIE)), (([] : (List QIILIE)), (([] : (List QIIE)), (([] : (List Int)), (([] : (List QIIIE)), (([] : (List QIIIIE)), (0 : Int))))))) r11_1 N (fun (z9_11 : Int) =>
      bif (decide ((0 : Int) ≤ (0 : Int)) && decide ((0 : Int) ≤ z9_11) && decide (z9_11 ≤ (List.length a0.2.1 : Int))) then
        spec_l33Judges N (List.drop (Int.toNat (0 : Int)) (List.take (Int.toNat z9_11) a0.2.1)) (fun (r33_12 : (List QIILIE)) =>
          bif (decide ((List.length r33_12 + List.length [(a1, (a2, ([] : (List Int))))]) * 3 ≤ 4398046511104)) then
            bif (decide ((0 : Int) ≤ z9_11) && decide (z9_11 ≤ (List.length a0.2.1 : Int)) && decide ((List.length a0.2.1 : Int) ≤ (List.length a0.2.1 : Int))) then
              spec_l33Judges N (List.drop (Int.toNat z9_11) (List.take (Int.toNat (List.length a0.2.1 : Int)) a0.2.1)) (fun (r43_13 : (List QIILIE)) =>
                bif (decide ((List.length (r33_12 ++ [(a1, (a2, ([] : (List Int))))]) + List.length r43_13) * 3 ≤ 4398046511104)) then
                  spec_l34Done N a0 (r11_1.1, (((r33_12 ++ [(a1, (a2, ([] : (List Int))))]) ++ r43_13), r11_1.2.2)) true (2 : Int) a1 kf
                else none)
            else none
          else none)
      else none) (0 : Int))
noncomputable def impl_judgeAt_1 (N : Nat) (a0 : QIILIE) (a1 : Int) (kf : Bool → Option Ret) : Option Ret :=
  kf (a0.1 == a1)
noncomputable def slices_IndexFunc_Judge_impl_judgeAt_1_l2 (N : Nat) (x0_1 : (List QIILIE)) (x1_2 : Int) (x7_3 : Int) : Nat → (Option Ret) → (Int → Option Ret) → Int → Option Ret
  | 0, _, _, _ => none
  | n_5 + 1, k2_0_7, k2_1_8, x8_4 =>
    bif (decide (x8_4 < x7_3)) then
      bif (inB x8_4 (List.length x0_1)) then
        impl_judgeAt_1 N (List.getD x0_1 (Int.toNat x8_4) zQIILIE) x1_2 (fun (r16_6 : Bool) =>
          bif r16_6 then
            k2_1_8 x8_4
          else
            (slices_IndexFunc_Judge_impl_judgeAt_1_l2 N x0_1 x1_2 x7_3 n_5 k2_0_7 k2_1_8) (IntKind.wrap .i64 (x8_4 + (1 : Int))))
      else none
    else
      k2_0_7
noncomputable def slices_IndexFunc_Judge_impl_judgeAt_1 (N : Nat) (a0 : (List QIILIE)) (a1_0 : Int) (kf : Int → Option Ret) : Option Ret :=
  slices_IndexFunc_Judge_impl_judgeAt_1_l2 N a0 a1_0 (List.length a0 : Int) N (kf (-1 : Int)) kf (0 : Int)
noncomputable def impl_judgeAt (N : Nat) (a0 : (List QIILIE)) (a1 : Int) (kf : Int → Option Ret) : Option Ret :=
  slices_IndexFunc_Judge_impl_judgeAt_1 N a0 a1 kf
noncomputable def slices_Insert_Judge (N : Nat) (a0 : (List QIILIE)) (a1 : Int) (a2 : (List QIILIE)) (kf : (List QIILIE) → Option Ret) : Option Ret :=
  bif (decide ((0 : Int) ≤ a1) && (decide (a1 ≤ (List.length a0 : Int)) && (Nat.blt 0 (List.length a2) && Nat.ble ((List.length a0 + List.length a2) * Ty.size tQIILIE) 4398046511104))) then
    kf (List.take (Int.toNat a1) a0 ++ a2 ++ List.drop (Int.toNat a1) a0)
  else none
noncomputable def impl_StepJudge_l5 (x1_3 : Int) (x2_4 : Int) (x3_5 : QLQIIIIILIELQIILIELQIIELILQIIIELQIIIIEIE) (x6_6 : QLQIIIIILIELQIILIELQIIELILQIIIELQIIIIEIE) (x8_7 : QLQIIIIILIELQIILIELQIIELILQIIIELQIIIIEIE) : Nat → (Int → Option Ret) → Int → Option Ret
  | 0, _, _ => none
  | n_9 + 1, k5_0_10, x9_8 =>
    bif (decide (x9_8 < (List.length x8_7.2.1 : Int))) then
      bif (inB x9_8 (List.length x8_7.2.1)) then
        bif (decide ((List.getD x8_7.2.1 (Int.toNat x9_8) zQIILIE).1 < x1_3)) then
          (impl_StepJudge_l5 x1_3 x2_4 x3_5 x6_6 x8_7 n_9 k5_0_10) (IntKind.wrap .i64 (x9_8 + (1 : Int)))
        else
          k5_0_10 x9_8
      else none
    else
      k5_0_10 x9_8
noncomputable def impl_StepJudge (N : Nat) (a0 : QLQIIIIILIELQIILIELQIIELILQIIIELQIIIIEIE) (a1 : Int) (a2 : Int) (kf : QLQIIIIILIELQIILIELQIIELILQIIIELQIIIIEIE → Bool → Option Ret) : Option Ret :=
  impl_cloneClub N a0 (fun (r11_1 : QLQIIIIILIELQIILIELQIIELILQIIIELQIIIIEIE) =>
    impl_judgeAt N a0.2.1 a1 (fun (r15_2 : Int) =>
      bif (decide (r15_2 ≥ (0 : Int))) then
        kf r11_1 false
      else
        impl_StepJudge_l5 a1 a2 a0 (([] : (List QIIIIILIE)), (([] : (List QIILIE)), (([] : (List QIIE)), (([] : (List Int)), (([] : (List QIIIE)), (([] : (List QIIIIE)), (0 : Int))))))) r11_1 N (fun (z9_12 : Int) =>
          slices_Insert_Judge N r11_1.2.1 z9_12 [(a1, (a2, ([] : (List Int))))] (fun (r42_13 : (List QIILIE)) =>
            impl_stepped N a0 (r11_1.1, (r42_13, r11_1.2.2)) (2 : Int) a1 kf)) (0 : Int)))
noncomputable def laws_FnExactStepJudge (N : Nat) (a0 : QLQIIIIILIELQIILIELQIIELILQIIIELQIIIIEIE) (a1 : Int) (a2 : Int) (kf : Bool → Option Ret) : Option Ret :=
  laws_szClub N a0 (1048576 : Int) (fun (r20_1 : Int) =>
    bif (decide (r20_1 < (0 : Int))) then
      kf true
    else
      laws_toClub N a0 (fun (r25_2 : QLQIIIIILIELQIILIELQIIELILQIIIELQIIIIEIE) =>
        spec_StepJudge N r25_2 a1 a2 (fun (r28_3 : QLQIIIIILIELQIILIELQIIELILQIIIELQIIIIEIE) (r28_4 : Bool) =>
          laws_toClub N a0 (fun (r32_5 : QLQIIIIILIELQIILIELQIIELILQIIIELQIIIIEIE) =>
            impl_StepJudge N r32_5 a1 a2 (fun (r37_6 : QLQIIIIILIELQIILIELQIIELILQIIIELQIIIIEIE) (r37_7 : Bool) =>
              laws_eqClub N r37_6 r28_3 (fun (r42_8 : Bool) =>
                bif (!r42_8) then
                  kf false
                else
                  bif (!(r37_7 == r28_4)) then
                    kf false
                  else
                    laws_toClub N a0 (fun (r51_9 : QLQIIIIILIELQIILIELQIIELILQIIIELQIIIIEIE) =>
                      laws_eqClub N r32_5 r51_9 (fun (r52_10 : Bool) =>
                        bif (!r52_10) then
                          kf false
                        else
                          laws_markClub N r32_5 (1 : Int) (fun (r56_11 : Int) (z10_12 : QLQIIIIILIELQIILIELQIIELILQIIIELQIIIIEIE) =>
                            bif (decide (r56_11 < (0 : Int))) then
                              kf false
                            else
                              laws_eqClub N r37_6 r28_3 (fun (r62_13 : Bool) =>
                                bif (!r62_13) then
                                  kf false
                                else
                                  bif (!(r37_7 == r28_4)) then
                                    kf false
                                  else
                                    laws_markClub N r37_6 (1 : Int) (fun (r72_14 : Int) (z11_15 : QLQIIIIILIELQIILIELQIIELILQIIIELQIIIIEIE) =>
                                      laws_heldClub N (z11_15.1, (z11_15.2.1, (z11_15.2.2.1, (z11_15.2.2.2.1, (z11_15.2.2.2.2.1, (z11_15.2.2.2.2.2.1, r37_6.2.2.2.2.2.2)))))) (1 : Int) (fun (r75_16 : Int) =>
                                        bif (decide (r75_16 < (0 : Int))) then
                                          kf false
                                        else
                                          bif (r75_16 != r72_14) then
                                            kf false
                                          else
                                            laws_toClub N a0 (fun (r83_17 : QLQIIIIILIELQIILIELQIIELILQIIIELQIIIIEIE) =>
                                              impl_StepJudge N r83_17 a1 a2 (fun (r86_18 : QLQIIIIILIELQIILIELQIIELILQIIIELQIIIIEIE) (r86_19 : Bool) =>
                                                laws_eqClub N r86_18 r28_3 (fun (r91_20 : Bool) =>
                                                  bif (!r91_20) then
                                                    kf false
                                                  else
                                                    bif (!(r86_19 == r28_4)) then
                                                      kf false
                                                    else
                                                      laws_heldClub N (z11_15.1, (z11_15.2.1, (z11_15.2.2.1, (z11_15.2.2.2.1, (z11_15.2.2.2.2.1, (z11_15.2.2.2.2.2.1, r37_6.2.2.2.2.2.2)))))) (1 : Int) (fun (r100_21 : Int) =>
                                                        bif (decide (r100_21 < (0 : Int))) then
                                                          kf false
                                                        else
                                                          bif (r100_21 != r72_14) then
                                                            kf false
                                                          else
                                                            kf true))))))))))))))))
end Go.Pv.R
