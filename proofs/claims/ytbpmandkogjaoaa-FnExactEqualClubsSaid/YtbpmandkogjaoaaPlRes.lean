/- What the functions compute, as plain functions. -/
import Derived.Test.YtbpmandkogjaoaaPv2
namespace Go.Pv.R
set_option linter.unusedVariables false
set_option linter.unusedSimpArgs false
abbrev tQIILIE : Ty := (.pair (.int .i64) (.pair (.int .i64) (.sl (.int .i64))))
abbrev QIILIE : Type := (Int × (Int × (List Int)))
def zQIILIE : QIILIE := ((0 : Int), ((0 : Int), ([] : (List Int))))
abbrev tQIIIIILIE : Ty := (.pair (.int .i64) (.pair (.int .i64) (.pair (.int .i64) (.pair (.int .i64) (.pair (.int .i64) (.sl (.int .i64)))))))
abbrev QIIIIILIE : Type := (Int × (Int × (Int × (Int × (Int × (List Int))))))
def zQIIIIILIE : QIIIIILIE := ((0 : Int), ((0 : Int), ((0 : Int), ((0 : Int), ((0 : Int), ([] : (List Int)))))))
abbrev tQIIE : Ty := (.pair (.int .i64) (.int .i64))
abbrev QIIE : Type := (Int × Int)
def zQIIE : QIIE := ((0 : Int), (0 : Int))
abbrev tQIIIE : Ty := (.pair (.int .i64) (.pair (.int .i64) (.int .i64)))
abbrev QIIIE : Type := (Int × (Int × Int))
def zQIIIE : QIIIE := ((0 : Int), ((0 : Int), (0 : Int)))
abbrev tQIIIIE : Ty := (.pair (.int .i64) (.pair (.int .i64) (.pair (.int .i64) (.int .i64))))
abbrev QIIIIE : Type := (Int × (Int × (Int × Int)))
def zQIIIIE : QIIIIE := ((0 : Int), ((0 : Int), ((0 : Int), (0 : Int))))
abbrev tQLQIIIIILIELQIILIELQIIELILQIIIELQIIIIEIE : Ty := (.pair (.sl tQIIIIILIE) (.pair (.sl tQIILIE) (.pair (.sl tQIIE) (.pair (.sl (.int .i64)) (.pair (.sl tQIIIE) (.pair (.sl tQIIIIE) (.int .i64)))))))
abbrev QLQIIIIILIELQIILIELQIIELILQIIIELQIIIIEIE : Type := ((List QIIIIILIE) × ((List QIILIE) × ((List QIIE) × ((List Int) × ((List QIIIE) × ((List QIIIIE) × Int))))))
noncomputable def laws_szIntS (N : Nat) (a0 : (List Int)) (a1 : Int) (kf : Int → Option Ret) : Option Ret :=
  bif (decide ((IntKind.wrap .i64 (a1 - (List.length a0 : Int))) < (0 : Int))) then
    kf (-1 : Int)
  else
    kf (IntKind.wrap .i64 (a1 - (List.length a0 : Int)))
noncomputable def laws_szTeam (N : Nat) (a0 : QIIIIILIE) (a1 : Int) (kf : Int → Option Ret) : Option Ret :=
  laws_szIntS N a0.2.2.2.2.2 a1 (fun (r8_1 : Int) =>
    bif (decide (r8_1 < (0 : Int))) then
      kf (-1 : Int)
    else
      kf r8_1)
noncomputable def laws_szTeamS_l5 (N : Nat) (x0_1 : (List QIIIIILIE)) : Nat → (Int → Option Ret) → (Int → Option Ret) → Int → Int → Option Ret
  | 0, _, _, _, _ => none
  | n_4 + 1, k5_0_6, k5_1_7, x1_2, x5_3 =>
    bif (decide (x5_3 < (List.length x0_1 : Int))) then
      bif (inB x5_3 (List.length x0_1)) then
        laws_szTeam N (List.getD x0_1 (Int.toNat x5_3) zQIIIIILIE) x1_2 (fun (r23_5 : Int) =>
          bif (decide (r23_5 < (0 : Int))) then
            k5_1_7 (-1 : Int)
          else
            (laws_szTeamS_l5 N x0_1 n_4 k5_0_6 k5_1_7) r23_5 (IntKind.wrap .i64 (x5_3 + (1 : Int))))
      else none
    else
      k5_0_6 x1_2
noncomputable def laws_szTeamS (N : Nat) (a0 : (List QIIIIILIE)) (a1 : Int) (kf : Int → Option Ret) : Option Ret :=
  bif (decide ((IntKind.wrap .i64 (a1 - (List.length a0 : Int))) < (0 : Int))) then
    kf (-1 : Int)
  else
    laws_szTeamS_l5 N a0 N kf kf (IntKind.wrap .i64 (a1 - (List.length a0 : Int))) (0 : Int)
noncomputable def laws_szJudge (N : Nat) (a0 : QIILIE) (a1 : Int) (kf : Int → Option Ret) : Option Ret :=
  laws_szIntS N a0.2.2 a1 (fun (r8_1 : Int) =>
    bif (decide (r8_1 < (0 : Int))) then
      kf (-1 : Int)
    else
      kf r8_1)
noncomputable def laws_szJudgeS_l5 (N : Nat) (x0_1 : (List QIILIE)) : Nat → (Int → Option Ret) → (Int → Option Ret) → Int → Int → Option Ret
  | 0, _, _, _, _ => none
  | n_4 + 1, k5_0_6, k5_1_7, x1_2, x5_3 =>
    bif (decide (x5_3 < (List.length x0_1 : Int))) then
      bif (inB x5_3 (List.length x0_1)) then
        laws_szJudge N (List.getD x0_1 (Int.toNat x5_3) zQIILIE) x1_2 (fun (r23_5 : Int) =>
          bif (decide (r23_5 < (0 : Int))) then
            k5_1_7 (-1 : Int)
          else
            (laws_szJudgeS_l5 N x0_1 n_4 k5_0_6 k5_1_7) r23_5 (IntKind.wrap .i64 (x5_3 + (1 : Int))))
      else none
    else
      k5_0_6 x1_2
noncomputable def laws_szJudgeS (N : Nat) (a0 : (List QIILIE)) (a1 : Int) (kf : Int → Option Ret) : Option Ret :=
  bif (decide ((IntKind.wrap .i64 (a1 - (List.length a0 : Int))) < (0 : Int))) then
    kf (-1 : Int)
  else
    laws_szJudgeS_l5 N a0 N kf kf (IntKind.wrap .i64 (a1 - (List.length a0 : Int))) (0 : Int)
noncomputable def laws_szPairS (N : Nat) (a0 : (List QIIE)) (a1 : Int) (kf : Int → Option Ret) : Option Ret :=
  bif (decide ((IntKind.wrap .i64 (a1 - (List.length a0 : Int))) < (0 : Int))) then
    kf (-1 : Int)
  else
    kf (IntKind.wrap .i64 (a1 - (List.length a0 : Int)))
noncomputable def laws_szBallotS (N : Nat) (a0 : (List QIIIE)) (a1 : Int) (kf : Int → Option Ret) : Option Ret :=
  bif (decide ((IntKind.wrap .i64 (a1 - (List.length a0 : Int))) < (0 : Int))) then
    kf (-1 : Int)
  else
    kf (IntKind.wrap .i64 (a1 - (List.length a0 : Int)))
noncomputable def laws_szLineS (N : Nat) (a0 : (List QIIIIE)) (a1 : Int) (kf : Int → Option Ret) : Option Ret :=
  bif (decide ((IntKind.wrap .i64 (a1 - (List.length a0 : Int))) < (0 : Int))) then
    kf (-1 : Int)
  else
    kf (IntKind.wrap .i64 (a1 - (List.length a0 : Int)))
noncomputable def laws_szClub (N : Nat) (a0 : QLQIIIIILIELQIILIELQIIELILQIIIELQIIIIEIE) (a1 : Int) (kf : Int → Option Ret) : Option Ret :=
  laws_szTeamS N a0.1 a1 (fun (r8_1 : Int) =>
    bif (decide (r8_1 < (0 : Int))) then
      kf (-1 : Int)
    else
      laws_szJudgeS N a0.2.1 r8_1 (fun (r14_2 : Int) =>
        bif (decide (r14_2 < (0 : Int))) then
          kf (-1 : Int)
        else
          laws_szPairS N a0.2.2.1 r14_2 (fun (r20_3 : Int) =>
            bif (decide (r20_3 < (0 : Int))) then
              kf (-1 : Int)
            else
              laws_szIntS N a0.2.2.2.1 r20_3 (fun (r26_4 : Int) =>
                bif (decide (r26_4 < (0 : Int))) then
                  kf (-1 : Int)
                else
                  laws_szBallotS N a0.2.2.2.2.1 r26_4 (fun (r32_5 : Int) =>
                    bif (decide (r32_5 < (0 : Int))) then
                      kf (-1 : Int)
                    else
                      laws_szLineS N a0.2.2.2.2.2.1 r32_5 (fun (r38_6 : Int) =>
                        bif (decide (r38_6 < (0 : Int))) then
                          kf (-1 : Int)
                        else
                          kf r38_6))))))
noncomputable def laws_toIntS_l3 (x0_1 : (List Int)) : Nat → ((List Int) → Option Ret) → (List Int) → Int → Option Ret
  | 0, _, _, _ => none
  | n_4 + 1, k3_0_5, x3_2, x4_3 =>
    bif (decide (x4_3 < (List.length x0_1 : Int))) then
      bif (inB x4_3 (List.length x0_1)) then
        bif (inB x4_3 (List.length x3_2)) then
          (laws_toIntS_l3 x0_1 n_4 k3_0_5) (List.set x3_2 (Int.toNat x4_3) (List.getD x0_1 (Int.toNat x4_3) (0 : Int))) (IntKind.wrap .i64 (x4_3 + (1 : Int)))
        else none
      else none
    else
      k3_0_5 x3_2
noncomputable def laws_toIntS (N : Nat) (a0 : (List Int)) (kf : (List Int) → Option Ret) : Option Ret :=
  bif (decide ((List.length a0 : Int) = (List.length a0 : Int)) && decide ((0 : Int) ≤ (List.length a0 : Int)) && decide ((List.length a0 : Int) ≤ 1099511627776)) then
    laws_toIntS_l3 a0 N kf (List.replicate (Int.toNat (List.length a0 : Int)) (0 : Int)) (0 : Int)
  else none
noncomputable def laws_toTeam (N : Nat) (a0 : QIIIIILIE) (kf : QIIIIILIE → Option Ret) : Option Ret :=
  laws_toIntS N a0.2.2.2.2.2 (fun (r21_1 : (List Int)) =>
    kf (a0.1, (a0.2.1, (a0.2.2.1, (a0.2.2.2.1, (a0.2.2.2.2.1, r21_1))))))
noncomputable def laws_toTeamS_l3 (N : Nat) (x0_1 : (List QIIIIILIE)) : Nat → ((List QIIIIILIE) → Option Ret) → (List QIIIIILIE) → Int → Option Ret
  | 0, _, _, _ => none
  | n_4 + 1, k3_0_6, x3_2, x4_3 =>
    bif (decide (x4_3 < (List.length x0_1 : Int))) then
      bif (inB x4_3 (List.length x0_1)) then
        laws_toTeam N (List.getD x0_1 (Int.toNat x4_3) zQIIIIILIE) (fun (r20_5 : QIIIIILIE) =>
          bif (inB x4_3 (List.length x3_2)) then
            (laws_toTeamS_l3 N x0_1 n_4 k3_0_6) (List.set x3_2 (Int.toNat x4_3) r20_5) (IntKind.wrap .i64 (x4_3 + (1 : Int)))
          else none)
      else none
    else
      k3_0_6 x3_2
noncomputable def laws_toTeamS (N : Nat) (a0 : (List QIIIIILIE)) (kf : (List QIIIIILIE) → Option Ret) : Option Ret :=
  bif (decide ((List.length a0 : Int) = (List.length a0 : Int)) && decide ((0 : Int) ≤ (List.length a0 : Int)) && decide ((List.length a0 : Int) ≤ 1099511627776)) then
    laws_toTeamS_l3 N a0 N kf (List.replicate (Int.toNat (List.length a0 : Int)) ((0 : Int), ((0 : Int), ((0 : Int), ((0 : Int), ((0 : Int), ([] : (List Int)))))))) (0 : Int)
  else none
noncomputable def laws_toJudge (N : Nat) (a0 : QIILIE) (kf : QIILIE → Option Ret) : Option Ret :=
  laws_toIntS N a0.2.2 (fun (r12_1 : (List Int)) =>
    kf (a0.1, (a0.2.1, r12_1)))
noncomputable def laws_toJudgeS_l3 (N : Nat) (x0_1 : (List QIILIE)) : Nat → ((List QIILIE) → Option Ret) → (List QIILIE) → Int → Option Ret
  | 0, _, _, _ => none
  | n_4 + 1, k3_0_6, x3_2, x4_3 =>
    bif (decide (x4_3 < (List.length x0_1 : Int))) then
      bif (inB x4_3 (List.length x0_1)) then
        laws_toJudge N (List.getD x0_1 (Int.toNat x4_3) zQIILIE) (fun (r20_5 : QIILIE) =>
          bif (inB x4_3 (List.length x3_2)) then
            (laws_toJudgeS_l3 N x0_1 n_4 k3_0_6) (List.set x3_2 (Int.toNat x4_3) r20_5) (IntKind.wrap .i64 (x4_3 + (1 : Int)))
          else none)
      else none
    else
      k3_0_6 x3_2
noncomputable def laws_toJudgeS (N : Nat) (a0 : (List QIILIE)) (kf : (List QIILIE) → Option Ret) : Option Ret :=
  bif (decide ((List.length a0 : Int) = (List.length a0 : Int)) && decide ((0 : Int) ≤ (List.length a0 : Int)) && decide ((List.length a0 : Int) ≤ 1099511627776)) then
    laws_toJudgeS_l3 N a0 N kf (List.replicate (Int.toNat (List.length a0 : Int)) ((0 : Int), ((0 : Int), ([] : (List Int))))) (0 : Int)
  else none
noncomputable def laws_toPair (N : Nat) (a0 : QIIE) (kf : QIIE → Option Ret) : Option Ret :=
  kf (a0.1, a0.2)
noncomputable def laws_toPairS_l3 (N : Nat) (x0_1 : (List QIIE)) : Nat → ((List QIIE) → Option Ret) → (List QIIE) → Int → Option Ret
  | 0, _, _, _ => none
  | n_4 + 1, k3_0_6, x3_2, x4_3 =>
    bif (decide (x4_3 < (List.length x0_1 : Int))) then
      bif (inB x4_3 (List.length x0_1)) then
        laws_toPair N (List.getD x0_1 (Int.toNat x4_3) zQIIE) (fun (r20_5 : QIIE) =>
          bif (inB x4_3 (List.length x3_2)) then
            (laws_toPairS_l3 N x0_1 n_4 k3_0_6) (List.set x3_2 (Int.toNat x4_3) r20_5) (IntKind.wrap .i64 (x4_3 + (1 : Int)))
          else none)
      else none
    else
      k3_0_6 x3_2
noncomputable def laws_toPairS (N : Nat) (a0 : (List QIIE)) (kf : (List QIIE) → Option Ret) : Option Ret :=
  bif (decide ((List.length a0 : Int) = (List.length a0 : Int)) && decide ((0 : Int) ≤ (List.length a0 : Int)) && decide ((List.length a0 : Int) ≤ 1099511627776)) then
    laws_toPairS_l3 N a0 N kf (List.replicate (Int.toNat (List.length a0 : Int)) ((0 : Int), (0 : Int))) (0 : Int)
  else none
noncomputable def laws_toBallot (N : Nat) (a0 : QIIIE) (kf : QIIIE → Option Ret) : Option Ret :=
  kf (a0.1, (a0.2.1, a0.2.2))
noncomputable def laws_toBallotS_l3 (N : Nat) (x0_1 : (List QIIIE)) : Nat → ((List QIIIE) → Option Ret) → (List QIIIE) → Int → Option Ret
  | 0, _, _, _ => none
  | n_4 + 1, k3_0_6, x3_2, x4_3 =>
    bif (decide (x4_3 < (List.length x0_1 : Int))) then
      bif (inB x4_3 (List.length x0_1)) then
        laws_toBallot N (List.getD x0_1 (Int.toNat x4_3) zQIIIE) (fun (r20_5 : QIIIE) =>
          bif (inB x4_3 (List.length x3_2)) then
            (laws_toBallotS_l3 N x0_1 n_4 k3_0_6) (List.set x3_2 (Int.toNat x4_3) r20_5) (IntKind.wrap .i64 (x4_3 + (1 : Int)))
          else none)
      else none
    else
      k3_0_6 x3_2
noncomputable def laws_toBallotS (N : Nat) (a0 : (List QIIIE)) (kf : (List QIIIE) → Option Ret) : Option Ret :=
  bif (decide ((List.length a0 : Int) = (List.length a0 : Int)) && decide ((0 : Int) ≤ (List.length a0 : Int)) && decide ((List.length a0 : Int) ≤ 1099511627776)) then
    laws_toBallotS_l3 N a0 N kf (List.replicate (Int.toNat (List.length a0 : Int)) ((0 : Int), ((0 : Int), (0 : Int)))) (0 : Int)
  else none
noncomputable def laws_toLine (N : Nat) (a0 : QIIIIE) (kf : QIIIIE → Option Ret) : Option Ret :=
  kf (a0.1, (a0.2.1, (a0.2.2.1, a0.2.2.2)))
noncomputable def laws_toLineS_l3 (N : Nat) (x0_1 : (List QIIIIE)) : Nat → ((List QIIIIE) → Option Ret) → (List QIIIIE) → Int → Option Ret
  | 0, _, _, _ => none
  | n_4 + 1, k3_0_6, x3_2, x4_3 =>
    bif (decide (x4_3 < (List.length x0_1 : Int))) then
      bif (inB x4_3 (List.length x0_1)) then
        laws_toLine N (List.getD x0_1 (Int.toNat x4_3) zQIIIIE) (fun (r20_5 : QIIIIE) =>
          bif (inB x4_3 (List.length x3_2)) then
            (laws_toLineS_l3 N x0_1 n_4 k3_0_6) (List.set x3_2 (Int.toNat x4_3) r20_5) (IntKind.wrap .i64 (x4_3 + (1 : Int)))
          else none)
      else none
    else
      k3_0_6 x3_2
noncomputable def laws_toLineS (N : Nat) (a0 : (List QIIIIE)) (kf : (List QIIIIE) → Option Ret) : Option Ret :=
  bif (decide ((List.length a0 : Int) = (List.length a0 : Int)) && decide ((0 : Int) ≤ (List.length a0 : Int)) && decide ((List.length a0 : Int) ≤ 1099511627776)) then
    laws_toLineS_l3 N a0 N kf (List.replicate (Int.toNat (List.length a0 : Int)) ((0 : Int), ((0 : Int), ((0 : Int), (0 : Int))))) (0 : Int)
  else none
noncomputable def laws_toClub (N : Nat) (a0 : QLQIIIIILIELQIILIELQIIELILQIIIELQIIIIEIE) (kf : QLQIIIIILIELQIILIELQIIELILQIIIELQIIIIEIE → Option Ret) : Option Ret :=
  laws_toTeamS N a0.1 (fun (r6_1 : (List QIIIIILIE)) =>
    laws_toJudgeS N a0.2.1 (fun (r10_2 : (List QIILIE)) =>
      laws_toPairS N a0.2.2.1 (fun (r14_3 : (List QIIE)) =>
        laws_toIntS N a0.2.2.2.1 (fun (r18_4 : (List Int)) =>
          laws_toBallotS N a0.2.2.2.2.1 (fun (r22_5 : (List QIIIE)) =>
            laws_toLineS N a0.2.2.2.2.2.1 (fun (r26_6 : (List QIIIIE)) =>
              kf (r6_1, (r10_2, (r14_3, (r18_4, (r22_5, (r26_6, a0.2.2.2.2.2.2))))))))))))
noncomputable def laws_eqIntS_l4 (x0_1 : (List Int)) (x1_2 : (List Int)) : Nat → (Option Ret) → (Bool → Option Ret) → Int → Option Ret
  | 0, _, _, _ => none
  | n_4 + 1, k4_0_5, k4_1_6, x5_3 =>
    bif (decide (x5_3 < (List.length x0_1 : Int))) then
      bif (inB x5_3 (List.length x0_1)) then
        bif (inB x5_3 (List.length x1_2)) then
          bif ((List.getD x0_1 (Int.toNat x5_3) (0 : Int)) != (List.getD x1_2 (Int.toNat x5_3) (0 : Int))) then
            k4_1_6 false
          else
            (laws_eqIntS_l4 x0_1 x1_2 n_4 k4_0_5 k4_1_6) (IntKind.wrap .i64 (x5_3 + (1 : Int)))
        else none
      else none
    else
      k4_0_5
noncomputable def laws_eqIntS (N : Nat) (a0 : (List Int)) (a1 : (List Int)) (kf : Bool → Option Ret) : Option Ret :=
  bif ((List.length a0 : Int) != (List.length a1 : Int)) then
    kf false
  else
    laws_eqIntS_l4 a0 a1 N (kf true) kf (0 : Int)
noncomputable def laws_eqTeam (N : Nat) (a0 : QIIIIILIE) (a1 : QIIIIILIE) (kf : Bool → Option Ret) : Option Ret :=
  bif (a0.1 != a1.1) then
    kf false
  else
    bif (a0.2.1 != a1.2.1) then
      kf false
    else
      bif (a0.2.2.1 != a1.2.2.1) then
        kf false
      else
        bif (a0.2.2.2.1 != a1.2.2.2.1) then
          kf false
        else
          bif (a0.2.2.2.2.1 != a1.2.2.2.2.1) then
            kf false
          else
            laws_eqIntS N a0.2.2.2.2.2 a1.2.2.2.2.2 (fun (r34_1 : Bool) =>
              bif (!r34_1) then
                kf false
              else
                kf true)
noncomputable def laws_eqTeamS_l4 (N : Nat) (x0_1 : (List QIIIIILIE)) (x1_2 : (List QIIIIILIE)) : Nat → (Option Ret) → (Bool → Option Ret) → Int → Option Ret
  | 0, _, _, _ => none
  | n_4 + 1, k4_0_6, k4_1_7, x5_3 =>
    bif (decide (x5_3 < (List.length x0_1 : Int))) then
      bif (inB x5_3 (List.length x0_1)) then
        bif (inB x5_3 (List.length x1_2)) then
          laws_eqTeam N (List.getD x0_1 (Int.toNat x5_3) zQIIIIILIE) (List.getD x1_2 (Int.toNat x5_3) zQIIIIILIE) (fun (r25_5 : Bool) =>
            bif (!r25_5) then
              k4_1_7 false
            else
              (laws_eqTeamS_l4 N x0_1 x1_2 n_4 k4_0_6 k4_1_7) (IntKind.wrap .i64 (x5_3 + (1 : Int))))
        else none
      else none
    else
      k4_0_6
noncomputable def laws_eqTeamS (N : Nat) (a0 : (List QIIIIILIE)) (a1 : (List QIIIIILIE)) (kf : Bool → Option Ret) : Option Ret :=
  bif ((List.length a0 : Int) != (List.length a1 : Int)) then
    kf false
  else
    laws_eqTeamS_l4 N a0 a1 N (kf true) kf (0 : Int)
noncomputable def laws_eqJudge (N : Nat) (a0 : QIILIE) (a1 : QIILIE) (kf : Bool → Option Ret) : Option Ret :=
  bif (a0.1 != a1.1) then
    kf false
  else
    bif (a0.2.1 != a1.2.1) then
      kf false
    else
      laws_eqIntS N a0.2.2 a1.2.2 (fun (r19_1 : Bool) =>
        bif (!r19_1) then
          kf false
        else
          kf true)
noncomputable def laws_eqJudgeS_l4 (N : Nat) (x0_1 : (List QIILIE)) (x1_2 : (List QIILIE)) : Nat → (Option Ret) → (Bool → Option Ret) → Int → Option Ret
  | 0, _, _, _ => none
  | n_4 + 1, k4_0_6, k4_1_7, x5_3 =>
    bif (decide (x5_3 < (List.length x0_1 : Int))) then
      bif (inB x5_3 (List.length x0_1)) then
        bif (inB x5_3 (List.length x1_2)) then
          laws_eqJudge N (List.getD x0_1 (Int.toNat x5_3) zQIILIE) (List.getD x1_2 (Int.toNat x5_3) zQIILIE) (fun (r25_5 : Bool) =>
            bif (!r25_5) then
              k4_1_7 false
            else
              (laws_eqJudgeS_l4 N x0_1 x1_2 n_4 k4_0_6 k4_1_7) (IntKind.wrap .i64 (x5_3 + (1 : Int))))
        else none
      else none
    else
      k4_0_6
noncomputable def laws_eqJudgeS (N : Nat) (a0 : (List QIILIE)) (a1 : (List QIILIE)) (kf : Bool → Option Ret) : Option Ret :=
  bif ((List.length a0 : Int) != (List.length a1 : Int)) then
    kf false
  else
    laws_eqJudgeS_l4 N a0 a1 N (kf true) kf (0 : Int)
noncomputable def laws_eqPair (N : Nat) (a0 : QIIE) (a1 : QIIE) (kf : Bool → Option Ret) : Option Ret :=
  bif (a0.1 != a1.1) then
    kf false
  else
    bif (a0.2 != a1.2) then
      kf false
    else
      kf true
noncomputable def laws_eqPairS_l4 (N : Nat) (x0_1 : (List QIIE)) (x1_2 : (List QIIE)) : Nat → (Option Ret) → (Bool → Option Ret) → Int → Option Ret
  | 0, _, _, _ => none
  | n_4 + 1, k4_0_6, k4_1_7, x5_3 =>
    bif (decide (x5_3 < (List.length x0_1 : Int))) then
      bif (inB x5_3 (List.length x0_1)) then
        bif (inB x5_3 (List.length x1_2)) then
          laws_eqPair N (List.getD x0_1 (Int.toNat x5_3) zQIIE) (List.getD x1_2 (Int.toNat x5_3) zQIIE) (fun (r25_5 : Bool) =>
            bif (!r25_5) then
              k4_1_7 false
            else
              (laws_eqPairS_l4 N x0_1 x1_2 n_4 k4_0_6 k4_1_7) (IntKind.wrap .i64 (x5_3 + (1 : Int))))
        else none
      else none
    else
      k4_0_6
noncomputable def laws_eqPairS (N : Nat) (a0 : (List QIIE)) (a1 : (List QIIE)) (kf : Bool → Option Ret) : Option Ret :=
  bif ((List.length a0 : Int) != (List.length a1 : Int)) then
    kf false
  else
    laws_eqPairS_l4 N a0 a1 N (kf true) kf (0 : Int)
noncomputable def laws_eqBallot (N : Nat) (a0 : QIIIE) (a1 : QIIIE) (kf : Bool → Option Ret) : Option Ret :=
  bif (a0.1 != a1.1) then
    kf false
  else
    bif (a0.2.1 != a1.2.1) then
      kf false
    else
      bif (a0.2.2 != a1.2.2) then
        kf false
      else
        kf true
noncomputable def laws_eqBallotS_l4 (N : Nat) (x0_1 : (List QIIIE)) (x1_2 : (List QIIIE)) : Nat → (Option Ret) → (Bool → Option Ret) → Int → Option Ret
  | 0, _, _, _ => none
  | n_4 + 1, k4_0_6, k4_1_7, x5_3 =>
    bif (decide (x5_3 < (List.length x0_1 : Int))) then
      bif (inB x5_3 (List.length x0_1)) then
        bif (inB x5_3 (List.length x1_2)) then
          laws_eqBallot N (List.getD x0_1 (Int.toNat x5_3) zQIIIE) (List.getD x1_2 (Int.toNat x5_3) zQIIIE) (fun (r25_5 : Bool) =>
            bif (!r25_5) then
              k4_1_7 false
            else
              (laws_eqBallotS_l4 N x0_1 x1_2 n_4 k4_0_6 k4_1_7) (IntKind.wrap .i64 (x5_3 + (1 : Int))))
        else none
      else none
    else
      k4_0_6
noncomputable def laws_eqBallotS (N : Nat) (a0 : (List QIIIE)) (a1 : (List QIIIE)) (kf : Bool → Option Ret) : Option Ret :=
  bif ((List.length a0 : Int) != (List.length a1 : Int)) then
    kf false
  else
    laws_eqBallotS_l4 N a0 a1 N (kf true) kf (0 : Int)
noncomputable def laws_eqLine (N : Nat) (a0 : QIIIIE) (a1 : QIIIIE) (kf : Bool → Option Ret) : Option Ret :=
  bif (a0.1 != a1.1) then
    kf false
  else
    bif (a0.2.1 != a1.2.1) then
      kf false
    else
      bif (a0.2.2.1 != a1.2.2.1) then
        kf false
      else
        bif (a0.2.2.2 != a1.2.2.2) then
          kf false
        else
          kf true
noncomputable def laws_eqLineS_l4 (N : Nat) (x0_1 : (List QIIIIE)) (x1_2 : (List QIIIIE)) : Nat → (Option Ret) → (Bool → Option Ret) → Int → Option Ret
  | 0, _, _, _ => none
  | n_4 + 1, k4_0_6, k4_1_7, x5_3 =>
    bif (decide (x5_3 < (List.length x0_1 : Int))) then
      bif (inB x5_3 (List.length x0_1)) then
        bif (inB x5_3 (List.length x1_2)) then
          laws_eqLine N (List.getD x0_1 (Int.toNat x5_3) zQIIIIE) (List.getD x1_2 (Int.toNat x5_3) zQIIIIE) (fun (r25_5 : Bool) =>
            bif (!r25_5) then
              k4_1_7 false
            else
              (laws_eqLineS_l4 N x0_1 x1_2 n_4 k4_0_6 k4_1_7) (IntKind.wrap .i64 (x5_3 + (1 : Int))))
        else none
      else none
    else
      k4_0_6
noncomputable def laws_eqLineS (N : Nat) (a0 : (List QIIIIE)) (a1 : (List QIIIIE)) (kf : Bool → Option Ret) : Option Ret :=
  bif ((List.length a0 : Int) != (List.length a1 : Int)) then
    kf false
  else
    laws_eqLineS_l4 N a0 a1 N (kf true) kf (0 : Int)
noncomputable def laws_eqClub (N : Nat) (a0 : QLQIIIIILIELQIILIELQIIELILQIIIELQIIIIEIE) (a1 : QLQIIIIILIELQIILIELQIIELILQIIIELQIIIIEIE) (kf : Bool → Option Ret) : Option Ret :=
  laws_eqTeamS N a0.1 a1.1 (fun (r9_1 : Bool) =>
    bif (!r9_1) then
      kf false
    else
      laws_eqJudgeS N a0.2.1 a1.2.1 (fun (r15_2 : Bool) =>
        bif (!r15_2) then
          kf false
        else
          laws_eqPairS N a0.2.2.1 a1.2.2.1 (fun (r21_3 : Bool) =>
            bif (!r21_3) then
              kf false
            else
              laws_eqIntS N a0.2.2.2.1 a1.2.2.2.1 (fun (r27_4 : Bool) =>
                bif (!r27_4) then
                  kf false
                else
                  laws_eqBallotS N a0.2.2.2.2.1 a1.2.2.2.2.1 (fun (r33_5 : Bool) =>
                    bif (!r33_5) then
                      kf false
                    else
                      laws_eqLineS N a0.2.2.2.2.2.1 a1.2.2.2.2.2.1 (fun (r39_6 : Bool) =>
                        bif (!r39_6) then
                          kf false
                        else
                          bif (a0.2.2.2.2.2.2 != a1.2.2.2.2.2.2) then
                            kf false
                          else
                            kf true))))))
noncomputable def spec_EqualInts_l4 (x0_1 : (List Int)) (x1_2 : (List Int)) : Nat → (Option Ret) → (Bool → Option Ret) → Int → Option Ret
  | 0, _, _, _ => none
  | n_4 + 1, k4_0_5, k4_1_6, x5_3 =>
    bif (decide (x5_3 < (List.length x0_1 : Int))) then
      bif (inB x5_3 (List.length x0_1)) then
        bif (inB x5_3 (List.length x1_2)) then
          bif ((List.getD x0_1 (Int.toNat x5_3) (0 : Int)) != (List.getD x1_2 (Int.toNat x5_3) (0 : Int))) then
            k4_1_6 false
          else
            (spec_EqualInts_l4 x0_1 x1_2 n_4 k4_0_5 k4_1_6) (IntKind.wrap .i64 (x5_3 + (1 : Int)))
        else none
      else none
    else
      k4_0_5
noncomputable def spec_EqualInts (N : Nat) (a0 : (List Int)) (a1 : (List Int)) (kf : Bool → Option Ret) : Option Ret :=
  bif ((List.length a0 : Int) != (List.length a1 : Int)) then
    kf false
  else
    spec_EqualInts_l4 a0 a1 N (kf true) kf (0 : Int)
noncomputable def spec_l33Teams_l4 (N : Nat) (x0_1 : (List QIIIIILIE)) (x1_2 : (List QIIIIILIE)) : Nat → (Option Ret) → (Bool → Option Ret) → Int → Option Ret
  | 0, _, _, _ => none
  | n_4 + 1, k4_0_6, k4_1_7, x5_3 =>
    bif (decide (x5_3 < (List.length x0_1 : Int))) then
      bif (inB x5_3 (List.length x0_1)) then
        bif (inB x5_3 (List.length x1_2)) then
          bif ((List.getD x0_1 (Int.toNat x5_3) zQIIIIILIE).1 != (List.getD x1_2 (Int.toNat x5_3) zQIIIIILIE).1) then
            k4_1_7 false
          else
            bif (inB x5_3 (List.length x0_1)) then
              bif (inB x5_3 (List.length x1_2)) then
                bif ((List.getD x0_1 (Int.toNat x5_3) zQIIIIILIE).2.1 != (List.getD x1_2 (Int.toNat x5_3) zQIIIIILIE).2.1) then
                  k4_1_7 false
                else
                  bif (inB x5_3 (List.length x0_1)) then
                    bif (inB x5_3 (List.length x1_2)) then
                      bif ((List.getD x0_1 (Int.toNat x5_3) zQIIIIILIE).2.2.1 != (List.getD x1_2 (Int.toNat x5_3) zQIIIIILIE).2.2.1) then
                        k4_1_7 false
                      else
                        bif (inB x5_3 (List.length x0_1)) then
                          bif (inB x5_3 (List.length x1_2)) then
                            bif ((List.getD x0_1 (Int.toNat x5_3) zQIIIIILIE).2.2.2.1 != (List.getD x1_2 (Int.toNat x5_3) zQIIIIILIE).2.2.2.1) then
                              k4_1_7 false
                            else
                              bif (inB x5_3 (List.length x0_1)) then
                                bif (inB x5_3 (List.length x1_2)) then
                                  bif ((List.getD x0_1 (Int.toNat x5_3) zQIIIIILIE).2.2.2.2.1 != (List.getD x1_2 (Int.toNat x5_3) zQIIIIILIE).2.2.2.2.1) then
                                    k4_1_7 false
                                  else
                                    bif (inB x5_3 (List.length x0_1)) then
                                      bif (inB x5_3 (List.length x1_2)) then
                                        spec_EqualInts N (List.getD x0_1 (Int.toNat x5_3) zQIIIIILIE).2.2.2.2.2 (List.getD x1_2 (Int.toNat x5_3) zQIIIIILIE).2.2.2.2.2 (fun (r91_5 : Bool) =>
                                          bif (!r91_5) then
                                            k4_1_7 false
                                          else
                                            (spec_l33Teams_l4 N x0_1 x1_2 n_4 k4_0_6 k4_1_7) (IntKind.wrap .i64 (x5_3 + (1 : Int))))
                                      else none
                                    else none
                                else none
                              else none
                          else none
                        else none
                    else none
                  else none
              else none
            else none
        else none
      else none
    else
      k4_0_6
noncomputable def spec_l33Teams (N : Nat) (a0 : (List QIIIIILIE)) (a1 : (List QIIIIILIE)) (kf : Bool → Option Ret) : Option Ret :=
  bif ((List.length a0 : Int) != (List.length a1 : Int)) then
    kf false
  else
    spec_l33Teams_l4 N a0 a1 N (kf true) kf (0 : Int)
noncomputable def spec_l33JudgesSame_l4 (N : Nat) (x0_1 : (List QIILIE)) (x1_2 : (List QIILIE)) : Nat → (Option Ret) → (Bool → Option Ret) → Int → Option Ret
  | 0, _, _, _ => none
  | n_4 + 1, k4_0_6, k4_1_7, x5_3 =>
    bif (decide (x5_3 < (List.length x0_1 : Int))) then
      bif (inB x5_3 (List.length x0_1)) then
        bif (inB x5_3 (List.length x1_2)) then
          bif ((List.getD x0_1 (Int.toNat x5_3) zQIILIE).1 != (List.getD x1_2 (Int.toNat x5_3) zQIILIE).1) then
            k4_1_7 false
          else
            bif (inB x5_3 (List.length x0_1)) then
              bif (inB x5_3 (List.length x1_2)) then
                bif ((List.getD x0_1 (Int.toNat x5_3) zQIILIE).2.1 != (List.getD x1_2 (Int.toNat x5_3) zQIILIE).2.1) then
                  k4_1_7 false
                else
                  bif (inB x5_3 (List.length x0_1)) then
                    bif (inB x5_3 (List.length x1_2)) then
                      spec_EqualInts N (List.getD x0_1 (Int.toNat x5_3) zQIILIE).2.2 (List.getD x1_2 (Int.toNat x5_3) zQIILIE).2.2 (fun (r52_5 : Bool) =>
                        bif (!r52_5) then
                          k4_1_7 false
                        else
                          (spec_l33JudgesSame_l4 N x0_1 x1_2 n_4 k4_0_6 k4_1_7) (IntKind.wrap .i64 (x5_3 + (1 : Int))))
                    else none
                  else none
              else none
            else none
        else none
      else none
    else
      k4_0_6
noncomputable def spec_l33JudgesSame (N : Nat) (a0 : (List QIILIE)) (a1 : (List QIILIE)) (kf : Bool → Option Ret) : Option Ret :=
  bif ((List.length a0 : Int) != (List.length a1 : Int)) then
    kf false
  else
    spec_l33JudgesSame_l4 N a0 a1 N (kf true) kf (0 : Int)
noncomputable def spec_l33Lists_l14 (x2_17 : QLQIIIIILIELQIILIELQIIELILQIIIELQIIIIEIE) (x3_18 : QLQIIIIILIELQIILIELQIIELILQIIIELQIIIIEIE) : Nat → (Option Ret) → (Bool → Option Ret) → Int → Option Ret
  | 0, _, _, _ => none
  | n_20 + 1, k14_0_21, k14_1_22, x7_19 =>
    bif (decide (x7_19 < (List.length x2_17.2.2.2.2.2.1 : Int))) then
      bif (inB x7_19 (List.length x2_17.2.2.2.2.2.1)) then
        bif (inB x7_19 (List.length x3_18.2.2.2.2.2.1)) then
          bif (!((decide (((List.getD x2_17.2.2.2.2.2.1 (Int.toNat x7_19) zQIIIIE).1 : Int) = (List.getD x3_18.2.2.2.2.2.1 (Int.toNat x7_19) zQIIIIE).1)) && ((decide (((List.getD x2_17.2.2.2.2.2.1 (Int.toNat x7_19) zQIIIIE).2.1 : Int) = (List.getD x3_18.2.2.2.2.2.1 (Int.toNat x7_19) zQIIIIE).2.1)) && ((decide (((List.getD x2_17.2.2.2.2.2.1 (Int.toNat x7_19) zQIIIIE).2.2.1 : Int) = (List.getD x3_18.2.2.2.2.2.1 (Int.toNat x7_19) zQIIIIE).2.2.1)) && (decide (((List.getD x2_17.2.2.2.2.2.1 (Int.toNat x7_19) zQIIIIE).2.2.2 : Int) = (List.getD x3_18.2.2.2.2.2.1 (Int.toNat x7_19) zQIIIIE).2.2.2)))))) then
            k14_1_22 false
          else
            (spec_l33Lists_l14 x2_17 x3_18 n_20 k14_0_21 k14_1_22) (IntKind.wrap .i64 (x7_19 + (1 : Int)))
        else none
      else none
    else
      k14_0_21
noncomputable def spec_l33Lists_l4 (x2_1 : QLQIIIIILIELQIILIELQIIELILQIIIELQIIIIEIE) (x3_2 : QLQIIIIILIELQIILIELQIIELILQIIIELQIIIIEIE) : Nat → (Option Ret) → (Bool → Option Ret) → Int → Option Ret
  | 0, _, _, _ => none
  | n_4 + 1, k4_0_5, k4_1_6, x5_3 =>
    bif (decide (x5_3 < (List.length x2_1.2.2.1 : Int))) then
      bif (inB x5_3 (List.length x2_1.2.2.1)) then
        bif (inB x5_3 (List.length x3_2.2.2.1)) then
          bif (!((decide (((List.getD x2_1.2.2.1 (Int.toNat x5_3) zQIIE).1 : Int) = (List.getD x3_2.2.2.1 (Int.toNat x5_3) zQIIE).1)) && (decide (((List.getD x2_1.2.2.1 (Int.toNat x5_3) zQIIE).2 : Int) = (List.getD x3_2.2.2.1 (Int.toNat x5_3) zQIIE).2)))) then
            k4_1_6 false
          else
            (spec_l33Lists_l4 x2_1 x3_2 n_4 k4_0_5 k4_1_6) (IntKind.wrap .i64 (x5_3 + (1 : Int)))
        else none
      else none
    else
      k4_0_5
noncomputable def spec_l33Lists_l9 (x2_9 : QLQIIIIILIELQIILIELQIIELILQIIIELQIIIIEIE) (x3_10 : QLQIIIIILIELQIILIELQIIELILQIIIELQIIIIEIE) : Nat → (Option Ret) → (Bool → Option Ret) → Int → Option Ret
  | 0, _, _, _ => none
  | n_12 + 1, k9_0_13, k9_1_14, x6_11 =>
    bif (decide (x6_11 < (List.length x2_9.2.2.2.2.1 : Int))) then
      bif (inB x6_11 (List.length x2_9.2.2.2.2.1)) then
        bif (inB x6_11 (List.length x3_10.2.2.2.2.1)) then
          bif (!((decide (((List.getD x2_9.2.2.2.2.1 (Int.toNat x6_11) zQIIIE).1 : Int) = (List.getD x3_10.2.2.2.2.1 (Int.toNat x6_11) zQIIIE).1)) && ((decide (((List.getD x2_9.2.2.2.2.1 (Int.toNat x6_11) zQIIIE).2.1 : Int) = (List.getD x3_10.2.2.2.2.1 (Int.toNat x6_11) zQIIIE).2.1)) && (decide (((List.getD x2_9.2.2.2.2.1 (Int.toNat x6_11) zQIIIE).2.2 : Int) = (List.getD x3_10.2.2.2.2.1 (Int.toNat x6_11) zQIIIE).2.2))))) then
            k9_1_14 false
          else
            (spec_l33Lists_l9 x2_9 x3_10 n_12 k9_0_13 k9_1_14) (IntKind.wrap .i64 (x6_11 + (1 : Int)))
        else none
      else none
    else
      k9_0_13
noncomputable def spec_l33Lists (N : Nat) (a0 : QLQIIIIILIELQIILIELQIIELILQIIIELQIIIIEIE) (a1 : QLQIIIIILIELQIILIELQIIELILQIIIELQIIIIEIE) (kf : Bool → Option Ret) : Option Ret :=
  bif ((List.length a0.2.2.1 : Int) != (List.length a1.2.2.1 : Int)) then
    kf false
  else
    bif ((List.length a0.2.2.2.2.1 : Int) != (List.length a1.2.2.2.2.1 : Int)) then
      kf false
    else
      bif ((List.length a0.2.2.2.2.2.1 : Int) != (List.length a1.2.2.2.2.2.1 : Int)) then
        kf false
      else
        spec_l33Lists_l4 a0 a1 N (spec_l33Lists_l9 a0 a1 N (spec_l33Lists_l14 a0 a1 N (kf true) kf (0 : Int)) kf (0 : Int)) kf (0 : Int)
noncomputable def spec_EqualClubs (N : Nat) (a0 : QLQIIIIILIELQIILIELQIIELILQIIIELQIIIIEIE) (a1 : QLQIIIIILIELQIILIELQIIELILQIIIELQIIIIEIE) (kf : Bool → Option Ret) : Option Ret :=
  spec_l33Teams N a0.1 a1.1 (fun (r9_1 : Bool) =>
    bif r9_1 then
      spec_l33JudgesSame N a0.2.1 a1.2.1 (fun (r15_2 : Bool) =>
        bif r15_2 then
          spec_EqualInts N a0.2.2.2.1 a1.2.2.2.1 (fun (r22_3 : Bool) =>
            bif r22_3 then
              spec_l33Lists N a0 a1 (fun (r27_4 : Bool) =>
                bif r27_4 then
                  kf (a0.2.2.2.2.2.2 == a1.2.2.2.2.2.2)
                else
                  kf false)
            else
              kf false)
        else
          kf false)
    else
      kf false)
noncomputable def slices_Equal_int_l4 (x0_1 : (List Int)) (x1_2 : (List Int)) (x12_3 : Int) : Nat → (Option Ret) → (Bool → Option Ret) → Int → Option Ret
  | 0, _, _, _ => none
  | n_5 + 1, k4_0_6, k4_1_7, x13_4 =>
    bif (decide (x13_4 < x12_3)) then
      bif (inB x13_4 (List.length x0_1)) then
        bif (inB x13_4 (List.length x1_2)) then
          bif ((List.getD x0_1 (Int.toNat x13_4) (0 : Int)) != (List.getD x1_2 (Int.toNat x13_4) (0 : Int))) then
            k4_1_7 false
          else
            (slices_Equal_int_l4 x0_1 x1_2 x12_3 n_5 k4_0_6 k4_1_7) (IntKind.wrap .i64 (x13_4 + (1 : Int)))
        else none
      else none
    else
      k4_0_6
noncomputable def slices_Equal_int (N : Nat) (a0 : (List Int)) (a1 : (List Int)) (kf : Bool → Option Ret) : Option Ret :=
  bif ((List.length a0 : Int) != (List.length a1 : Int)) then
    kf false
  else
    slices_Equal_int_l4 a0 a1 (List.length a0 : Int) N (kf true) kf (0 : Int)
noncomputable def impl_EqualClubs_1 (N : Nat) (a0 : QIIIIILIE) (a1 : QIIIIILIE) (kf : Bool → Option Ret) : Option Ret :=
  bif (a0.1 == a1.1) then
    bif (a0.2.1 == a1.2.1) then
      bif (a0.2.2.1 == a1.2.2.1) then
        bif (a0.2.2.2.1 == a1.2.2.2.1) then
          bif (a0.2.2.2.2.1 == a1.2.2.2.2.1) then
            slices_Equal_int N a0.2.2.2.2.2 a1.2.2.2.2.2 kf
          else
            kf false
        else
          kf false
      else
        kf false
    else
      kf false
  else
    kf false
noncomputable def slices_EqualFunc_Team_impl_EqualClubs_1_l4 (N : Nat) (x1_1 : (List QIIIIILIE)) (x15_2 : (List QIIIIILIE)) (x16_3 : Int) : Nat → (Option Ret) → (Bool → Option Ret) → Int → Option Ret
  | 0, _, _, _ => none
  | n_5 + 1, k4_0_7, k4_1_8, x17_4 =>
    bif (decide (x17_4 < x16_3)) then
      bif (inB x17_4 (List.length x15_2)) then
        bif (inB x17_4 (List.length x1_1)) then
          impl_EqualClubs_1 N (List.getD x15_2 (Int.toNat x17_4) zQIIIIILIE) (List.getD x1_1 (Int.toNat x17_4) zQIIIIILIE) (fun (r29_6 : Bool) =>
            bif (!r29_6) then
              k4_1_8 false
            else
              (slices_EqualFunc_Team_impl_EqualClubs_1_l4 N x1_1 x15_2 x16_3 n_5 k4_0_7 k4_1_8) (IntKind.wrap .i64 (x17_4 + (1 : Int))))
        else none
      else none
    else
      k4_0_7
noncomputable def slices_EqualFunc_Team_impl_EqualClubs_1 (N : Nat) (a0 : (List QIIIIILIE)) (a1 : (List QIIIIILIE)) (kf : Bool → Option Ret) : Option Ret :=
  bif ((List.length a0 : Int) != (List.length a1 : Int)) then
    kf false
  else
    slices_EqualFunc_Team_impl_EqualClubs_1_l4 N a1 a0 (List.length a0 : Int) N (kf true) kf (0 : Int)
noncomputable def impl_EqualClubs_2 (N : Nat) (a0 : QIILIE) (a1 : QIILIE) (kf : Bool → Option Ret) : Option Ret :=
  bif (a0.1 == a1.1) then
    bif (a0.2.1 == a1.2.1) then
      slices_Equal_int N a0.2.2 a1.2.2 kf
    else
      kf false
  else
    kf false
noncomputable def slices_EqualFunc_Judge_impl_EqualClubs_2_l4 (N : Nat) (x1_1 : (List QIILIE)) (x15_2 : (List QIILIE)) (x16_3 : Int) : Nat → (Option Ret) → (Bool → Option Ret) → Int → Option Ret
  | 0, _, _, _ => none
  | n_5 + 1, k4_0_7, k4_1_8, x17_4 =>
    bif (decide (x17_4 < x16_3)) then
      bif (inB x17_4 (List.length x15_2)) then
        bif (inB x17_4 (List.length x1_1)) then
          impl_EqualClubs_2 N (List.getD x15_2 (Int.toNat x17_4) zQIILIE) (List.getD x1_1 (Int.toNat x17_4) zQIILIE) (fun (r29_6 : Bool) =>
            bif (!r29_6) then
              k4_1_8 false
            else
              (slices_EqualFunc_Judge_impl_EqualClubs_2_l4 N x1_1 x15_2 x16_3 n_5 k4_0_7 k4_1_8) (IntKind.wrap .i64 (x17_4 + (1 : Int))))
        else none
      else none
    else
      k4_0_7
noncomputable def slices_EqualFunc_Judge_impl_EqualClubs_2 (N : Nat) (a0 : (List QIILIE)) (a1 : (List QIILIE)) (kf : Bool → Option Ret) : Option Ret :=
  bif ((List.length a0 : Int) != (List.length a1 : Int)) then
    kf false
  else
    slices_EqualFunc_Judge_impl_EqualClubs_2_l4 N a1 a0 (List.length a0 : Int) N (kf true) kf (0 : Int)
noncomputable def slices_Equal_Pair_l4 (x0_1 : (List QIIE)) (x1_2 : (List QIIE)) (x12_3 : Int) : Nat → (Option Ret) → (Bool → Option Ret) → Int → Option Ret
  | 0, _, _, _ => none
  | n_5 + 1, k4_0_6, k4_1_7, x13_4 =>
    bif (decide (x13_4 < x12_3)) then
      bif (inB x13_4 (List.length x0_1)) then
        bif (inB x13_4 (List.length x1_2)) then
          bif (!((decide (((List.getD x0_1 (Int.toNat x13_4) zQIIE).1 : Int) = (List.getD x1_2 (Int.toNat x13_4) zQIIE).1)) && (decide (((List.getD x0_1 (Int.toNat x13_4) zQIIE).2 : Int) = (List.getD x1_2 (Int.toNat x13_4) zQIIE).2)))) then
            k4_1_7 false
          else
            (slices_Equal_Pair_l4 x0_1 x1_2 x12_3 n_5 k4_0_6 k4_1_7) (IntKind.wrap .i64 (x13_4 + (1 : Int)))
        else none
      else none
    else
      k4_0_6
noncomputable def slices_Equal_Pair (N : Nat) (a0 : (List QIIE)) (a1 : (List QIIE)) (kf : Bool → Option Ret) : Option Ret :=
  bif ((List.length a0 : Int) != (List.length a1 : Int)) then
    kf false
  else
    slices_Equal_Pair_l4 a0 a1 (List.length a0 : Int) N (kf true) kf (0 : Int)
noncomputable def slices_Equal_Ballot_l4 (x0_1 : (List QIIIE)) (x1_2 : (List QIIIE)) (x12_3 : Int) : Nat → (Option Ret) → (Bool → Option Ret) → Int → Option Ret
  | 0, _, _, _ => none
  | n_5 + 1, k4_0_6, k4_1_7, x13_4 =>
    bif (decide (x13_4 < x12_3)) then
      bif (inB x13_4 (List.length x0_1)) then
        bif (inB x13_4 (List.length x1_2)) then
          bif (!((decide (((List.getD x0_1 (Int.toNat x13_4) zQIIIE).1 : Int) = (List.getD x1_2 (Int.toNat x13_4) zQIIIE).1)) && ((decide (((List.getD x0_1 (Int.toNat x13_4) zQIIIE).2.1 : Int) = (List.getD x1_2 (Int.toNat x13_4) zQIIIE).2.1)) && (decide (((List.getD x0_1 (Int.toNat x13_4) zQIIIE).2.2 : Int) = (List.getD x1_2 (Int.toNat x13_4) zQIIIE).2.2))))) then
            k4_1_7 false
          else
            (slices_Equal_Ballot_l4 x0_1 x1_2 x12_3 n_5 k4_0_6 k4_1_7) (IntKind.wrap .i64 (x13_4 + (1 : Int)))
        else none
      else none
    else
      k4_0_6
noncomputable def slices_Equal_Ballot (N : Nat) (a0 : (List QIIIE)) (a1 : (List QIIIE)) (kf : Bool → Option Ret) : Option Ret :=
  bif ((List.length a0 : Int) != (List.length a1 : Int)) then
    kf false
  else
    slices_Equal_Ballot_l4 a0 a1 (List.length a0 : Int) N (kf true) kf (0 : Int)
noncomputable def slices_Equal_Line_l4 (x0_1 : (List QIIIIE)) (x1_2 : (List QIIIIE)) (x12_3 : Int) : Nat → (Option Ret) → (Bool → Option Ret) → Int → Option Ret
  | 0, _, _, _ => none
  | n_5 + 1, k4_0_6, k4_1_7, x13_4 =>
    bif (decide (x13_4 < x12_3)) then
      bif (inB x13_4 (List.length x0_1)) then
        bif (inB x13_4 (List.length x1_2)) then
          bif (!((decide (((List.getD x0_1 (Int.toNat x13_4) zQIIIIE).1 : Int) = (List.getD x1_2 (Int.toNat x13_4) zQIIIIE).1)) && ((decide (((List.getD x0_1 (Int.toNat x13_4) zQIIIIE).2.1 : Int) = (List.getD x1_2 (Int.toNat x13_4) zQIIIIE).2.1)) && ((decide (((List.getD x0_1 (Int.toNat x13_4) zQIIIIE).2.2.1 : Int) = (List.getD x1_2 (Int.toNat x13_4) zQIIIIE).2.2.1)) && (decide (((List.getD x0_1 (Int.toNat x13_4) zQIIIIE).2.2.2 : Int) = (List.getD x1_2 (Int.toNat x13_4) zQIIIIE).2.2.2)))))) then
            k4_1_7 false
          else
            (slices_Equal_Line_l4 x0_1 x1_2 x12_3 n_5 k4_0_6 k4_1_7) (IntKind.wrap .i64 (x13_4 + (1 : Int)))
        else none
      else none
    else
      k4_0_6
noncomputable def slices_Equal_Line (N : Nat) (a0 : (List QIIIIE)) (a1 : (List QIIIIE)) (kf : Bool → Option Ret) : Option Ret :=
  bif ((List.length a0 : Int) != (List.length a1 : Int)) then
    kf false
  else
    slices_Equal_Line_l4 a0 a1 (List.length a0 : Int) N (kf true) kf (0 : Int)
noncomputable def impl_EqualClubs (N : Nat) (a0 : QLQIIIIILIELQIILIELQIIELILQIIIELQIIIIEIE) (a1 : QLQIIIIILIELQIILIELQIIELILQIIIELQIIIIEIE) (kf : Bool → Option Ret) : Option Ret :=
  bif (a0.2.2.2.2.2.2 == a1.2.2.2.2.2.2) then
    slices_EqualFunc_Team_impl_EqualClubs_1 N a0.1 a1.1 (fun (r15_1 : Bool) =>
      bif r15_1 then
        slices_EqualFunc_Judge_impl_EqualClubs_2 N a0.2.1 a1.2.1 (fun (r22_2 : Bool) =>
          bif r22_2 then
            slices_Equal_Pair N a0.2.2.1 a1.2.2.1 (fun (r29_3 : Bool) =>
              bif r29_3 then
                slices_Equal_int N a0.2.2.2.1 a1.2.2.2.1 (fun (r36_4 : Bool) =>
                  bif r36_4 then
                    slices_Equal_Ballot N a0.2.2.2.2.1 a1.2.2.2.2.1 (fun (r43_5 : Bool) =>
                      bif r43_5 then
                        slices_Equal_Line N a0.2.2.2.2.2.1 a1.2.2.2.2.2.1 kf
                      else
                        kf false)
                  else
                    kf false)
              else
                kf false)
          else
            kf false)
      else
        kf false)
  else
    kf false
noncomputable def laws_FnExactEqualClubs (N : Nat) (a0 : QLQIIIIILIELQIILIELQIIELILQIIIELQIIIIEIE) (a1 : QLQIIIIILIELQIILIELQIIELILQIIIELQIIIIEIE) (kf : Bool → Option Ret) : Option Ret :=
  laws_szClub N a0 (1048576 : Int) (fun (r12_1 : Int) =>
    bif (decide (r12_1 < (0 : Int))) then
      kf true
    else
      laws_szClub N a1 r12_1 (fun (r17_2 : Int) =>
        bif (decide (r17_2 < (0 : Int))) then
          kf true
        else
          laws_toClub N a0 (fun (r21_3 : QLQIIIIILIELQIILIELQIIELILQIIIELQIIIIEIE) =>
            laws_toClub N a1 (fun (r23_4 : QLQIIIIILIELQIILIELQIIELILQIIIELQIIIIEIE) =>
              spec_EqualClubs N r21_3 r23_4 (fun (r24_5 : Bool) =>
                laws_toClub N a0 (fun (r26_6 : QLQIIIIILIELQIILIELQIIELILQIIIELQIIIIEIE) =>
                  laws_toClub N a1 (fun (r28_7 : QLQIIIIILIELQIILIELQIIELILQIIIELQIIIIEIE) =>
                    impl_EqualClubs N r26_6 r28_7 (fun (r31_8 : Bool) =>
                      bif (!(r31_8 == r24_5)) then
                        kf false
                      else
                        laws_toClub N a0 (fun (r37_9 : QLQIIIIILIELQIILIELQIIELILQIIIELQIIIIEIE) =>
                          laws_eqClub N r26_6 r37_9 (fun (r38_10 : Bool) =>
                            bif (!r38_10) then
                              kf false
                            else
                              laws_toClub N a1 (fun (r42_11 : QLQIIIIILIELQIILIELQIIELILQIIIELQIIIIEIE) =>
                                laws_eqClub N r28_7 r42_11 (fun (r43_12 : Bool) =>
                                  bif (!r43_12) then
                                    kf false
                                  else
                                    kf true))))))))))))
end Go.Pv.R
