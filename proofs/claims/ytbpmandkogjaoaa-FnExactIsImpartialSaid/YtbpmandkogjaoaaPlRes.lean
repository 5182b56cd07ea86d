/- What the functions compute, as plain functions. -/
import Derived.Test.YtbpmandkogjaoaaPv2
namespace Go.Pv.R
set_option linter.unusedVariables false
set_option linter.unusedSimpArgs false
abbrev tQIILIE : Ty := (.pair (.int .i64) (.pair (.int .i64) (.sl (.int .i64))))
abbrev QIILIE : Type := (Int × (Int × (List Int)))
def zQIILIE : QIILIE := ((0 : Int), ((0 : Int), ([] : (List Int))))
abbrev tQIIIIILIE : Ty := (.pair (.int .i64) (.pair (.int .i64) (.pair (.int .i64) (.pair (.int .i64) (.pair (.int .i64) (.sl (.int .i64)))))))
abbrev QIIIIILIE : Type := (Int × (Int × (Int × (Int × (Int × (List Int))))))
def zQIIIIILIE : QIIIIILIE := ((0 : Int), ((0 : Int), ((0 : Int), ((0 : Int), ((0 : Int), ([] : (List Int)))))))
abbrev tQIIE : Ty := (.pair (.int .i64) (.int .i64))
abbrev QIIE : Type := (Int × Int)
def zQIIE : QIIE := ((0 : Int), (0 : Int))
abbrev tQIIIE : Ty := (.pair (.int .i64) (.pair (.int .i64) (.int .i64)))
abbrev QIIIE : Type := (Int × (Int × Int))
def zQIIIE : QIIIE := ((0 : Int), ((0 : Int), (0 : Int)))
abbrev tQIIIIE : Ty := (.pair (.int .i64) (.pair (.int .i64) (.pair (.int .i64) (.int .i64))))
abbrev QIIIIE : Type := (Int × (Int × (Int × Int)))
def zQIIIIE : QIIIIE := ((0 : Int), ((0 : Int), ((0 : Int), (0 : Int))))
abbrev tQLQIIIIILIELQIILIELQIIELILQIIIELQIIIIEIE : Ty := (.pair (.sl tQIIIIILIE) (.pair (.sl tQIILIE) (.pair (.sl tQIIE) (.pair (.sl (.int .i64)) (.pair (.sl tQIIIE) (.pair (.sl tQIIIIE) (.int .i64)))))))
abbrev QLQIIIIILIELQIILIELQIIELILQIIIELQIIIIEIE : Type := ((List QIIIIILIE) × ((List QIILIE) × ((List QIIE) × ((List Int) × ((List QIIIE) × ((List QIIIIE) × Int))))))
noncomputable def laws_szIntS (N : Nat) (a0 : (List Int)) (a1 : Int) (kf : Int → Option Ret) : Option Ret :=
  bif (decide ((IntKind.wrap .i64 (a1 - (List.length a0 : Int))) < (0 : Int))) then
    kf (-1 : Int)
  else
    kf (IntKind.wrap .i64 (a1 - (List.length a0 : Int)))
noncomputable def laws_szTeam (N : Nat) (a0 : QIIIIILIE) (a1 : Int) (kf : Int → Option Ret) : Option Ret :=
  laws_szIntS N a0.2.2.2.2.2 a1 (fun (r8_1 : Int) =>
    bif (decide (r8_1 < (0 : Int))) then
      kf (-1 : Int)
    else
      kf r8_1)
noncomputable def laws_szTeamS_l5 (N : Nat) (x0_1 : (List QIIIIILIE)) : Nat → (Int → Option Ret) → (Int → Option Ret) → Int → Int → Option Ret
  | 0, _, _, _, _ => none
  | n_4 + 1, k5_0_6, k5_1_7, x1_2, x5_3 =>
    bif (decide (x5_3 < (List.length x0_1 : Int))) then
      bif (inB x5_3 (List.length x0_1)) then
        laws_szTeam N (List.getD x0_1 (Int.toNat x5_3) zQIIIIILIE) x1_2 (fun (r23_5 : Int) =>
          bif (decide (r23_5 < (0 : Int))) then
            k5_1_7 (-1 : Int)
          else
            (laws_szTeamS_l5 N x0_1 n_4 k5_0_6 k5_1_7) r23_5 (IntKind.wrap .i64 (x5_3 + (1 : Int))))
      else none
    else
      k5_0_6 x1_2
noncomputable def laws_szTeamS (N : Nat) (a0 : (List QIIIIILIE)) (a1 : Int) (kf : Int → Option Ret) : Option Ret :=
  bif (decide ((IntKind.wrap .i64 (a1 - (List.length a0 : Int))) < (0 : Int))) then
    kf (-1 : Int)
  else
    laws_szTeamS_l5 N a0 N kf kf (IntKind.wrap .i64 (a1 - (List.length a0 : Int))) (0 : Int)
noncomputable def laws_szJudge (N : Nat) (a0 : QIILIE) (a1 : Int) (kf : Int → Option Ret) : Option Ret :=
  laws_szIntS N a0.2.2 a1 (fun (r8_1 : Int) =>
    bif (decide (r8_1 < (0 : Int))) then
      kf (-1 : Int)
    else
      kf r8_1)
noncomputable def laws_szJudgeS_l5 (N : Nat) (x0_1 : (List QIILIE)) : Nat → (Int → Option Ret) → (Int → Option Ret) → Int → Int → Option Ret
  | 0, _, _, _, _ => none
  | n_4 + 1, k5_0_6, k5_1_7, x1_2, x5_3 =>
    bif (decide (x5_3 < (List.length x0_1 : Int))) then
      bif (inB x5_3 (List.length x0_1)) then
        laws_szJudge N (List.getD x0_1 (Int.toNat x5_3) zQIILIE) x1_2 (fun (r23_5 : Int) =>
          bif (decide (r23_5 < (0 : Int))) then
            k5_1_7 (-1 : Int)
          else
            (laws_szJudgeS_l5 N x0_1 n_4 k5_0_6 k5_1_7) r23_5 (IntKind.wrap .i64 (x5_3 + (1 : Int))))
      else none
    else
      k5_0_6 x1_2
noncomputable def laws_szJudgeS (N : Nat) (a0 : (List QIILIE)) (a1 : Int) (kf : Int → Option Ret) : Option Ret :=
  bif (decide ((IntKind.wrap .i64 (a1 - (List.length a0 : Int))) < (0 : Int))) then
    kf (-1 : Int)
  else
    laws_szJudgeS_l5 N a0 N kf kf (IntKind.wrap .i64 (a1 - (List.length a0 : Int))) (0 : Int)
noncomputable def laws_szPairS (N : Nat) (a0 : (List QIIE)) (a1 : Int) (kf : Int → Option Ret) : Option Ret :=
  bif (decide ((IntKind.wrap .i64 (a1 - (List.length a0 : Int))) < (0 : Int))) then
    kf (-1 : Int)
  else
    kf (IntKind.wrap .i64 (a1 - (List.length a0 : Int)))
noncomputable def laws_szBallotS (N : Nat) (a0 : (List QIIIE)) (a1 : Int) (kf : Int → Option Ret) : Option Ret :=
  bif (decide ((IntKind.wrap .i64 (a1 - (List.length a0 : Int))) < (0 : Int))) then
    kf (-1 : Int)
  else
    kf (IntKind.wrap .i64 (a1 - (List.length a0 : Int)))
noncomputable def laws_szLineS (N : Nat) (a0 : (List QIIIIE)) (a1 : Int) (kf : Int → Option Ret) : Option Ret :=
  bif (decide ((IntKind.wrap .i64 (a1 - (List.length a0 : Int))) < (0 : Int))) then
    kf (-1 : Int)
  else
    kf (IntKind.wrap .i64 (a1 - (List.length a0 : Int)))
noncomputable def laws_szClub (N : Nat) (a0 : QLQIIIIILIELQIILIELQIIELILQIIIELQIIIIEIE) (a1 : Int) (kf : Int → Option Ret) : Option Ret :=
  laws_szTeamS N a0.1 a1 (fun (r8_1 : Int) =>
    bif (decide (r8_1 < (0 : Int))) then
      kf (-1 : Int)
    else
      laws_szJudgeS N a0.2.1 r8_1 (fun (r14_2 : Int) =>
        bif (decide (r14_2 < (0 : Int))) then
          kf (-1 : Int)
        else
          laws_szPairS N a0.2.2.1 r14_2 (fun (r20_3 : Int) =>
            bif (decide (r20_3 < (0 : Int))) then
              kf (-1 : Int)
            else
              laws_szIntS N a0.2.2.2.1 r20_3 (fun (r26_4 : Int) =>
                bif (decide (r26_4 < (0 : Int))) then
                  kf (-1 : Int)
                else
                  laws_szBallotS N a0.2.2.2.2.1 r26_4 (fun (r32_5 : Int) =>
                    bif (decide (r32_5 < (0 : Int))) then
                      kf (-1 : Int)
                    else
                      laws_szLineS N a0.2.2.2.2.2.1 r32_5 (fun (r38_6 : Int) =>
                        bif (decide (r38_6 < (0 : Int))) then
                          kf (-1 : Int)
                        else
                          kf r38_6))))))
noncomputable def laws_toIntS_l3 (x0_1 : (List Int)) : Nat → ((List Int) → Option Ret) → (List Int) → Int → Option Ret
  | 0, _, _, _ => none
  | n_4 + 1, k3_0_5, x3_2, x4_3 =>
    bif (decide (x4_3 < (List.length x0_1 : Int))) then
      bif (inB x4_3 (List.length x0_1)) then
        bif (inB x4_3 (List.length x3_2)) then
          (laws_toIntS_l3 x0_1 n_4 k3_0_5) (List.set x3_2 (Int.toNat x4_3) (List.getD x0_1 (Int.toNat x4_3) (0 : Int))) (IntKind.wrap .i64 (x4_3 + (1 : Int)))
        else none
      else none
    else
      k3_0_5 x3_2
noncomputable def laws_toIntS (N : Nat) (a0 : (List Int)) (kf : (List Int) → Option Ret) : Option Ret :=
  bif (decide ((List.length a0 : Int) = (List.length a0 : Int)) && decide ((0 : Int) ≤ (List.length a0 : Int)) && decide ((List.length a0 : Int) ≤ 1099511627776)) then
    laws_toIntS_l3 a0 N kf (List.replicate (Int.toNat (List.length a0 : Int)) (0 : Int)) (0 : Int)
  else none
noncomputable def laws_toTeam (N : Nat) (a0 : QIIIIILIE) (kf : QIIIIILIE → Option Ret) : Option Ret :=
  laws_toIntS N a0.2.2.2.2.2 (fun (r21_1 : (List Int)) =>
    kf (a0.1, (a0.2.1, (a0.2.2.1, (a0.2.2.2.1, (a0.2.2.2.2.1, r21_1))))))
noncomputable def laws_toTeamS_l3 (N : Nat) (x0_1 : (List QIIIIILIE)) : Nat → ((List QIIIIILIE) → Option Ret) → (List QIIIIILIE) → Int → Option Ret
  | 0, _, _, _ => none
  | n_4 + 1, k3_0_6, x3_2, x4_3 =>
    bif (decide (x4_3 < (List.length x0_1 : Int))) then
      bif (inB x4_3 (List.length x0_1)) then
        laws_toTeam N (List.getD x0_1 (Int.toNat x4_3) zQIIIIILIE) (fun (r20_5 : QIIIIILIE) =>
          bif (inB x4_3 (List.length x3_2)) then
            (laws_toTeamS_l3 N x0_1 n_4 k3_0_6) (List.set x3_2 (Int.toNat x4_3) r20_5) (IntKind.wrap .i64 (x4_3 + (1 : Int)))
          else none)
      else none
    else
      k3_0_6 x3_2
noncomputable def laws_toTeamS (N : Nat) (a0 : (List QIIIIILIE)) (kf : (List QIIIIILIE) → Option Ret) : Option Ret :=
  bif (decide ((List.length a0 : Int) = (List.length a0 : Int)) && decide ((0 : Int) ≤ (List.length a0 : Int)) && decide ((List.length a0 : Int) ≤ 1099511627776)) then
    laws_toTeamS_l3 N a0 N kf (List.replicate (Int.toNat (List.length a0 : Int)) ((0 : Int), ((0 : Int), ((0 : Int), ((0 : Int), ((0 : Int), ([] : (List Int)))))))) (0 : Int)
  else none
noncomputable def laws_toJudge (N : Nat) (a0 : QIILIE) (kf : QIILIE → Option Ret) : Option Ret :=
  laws_toIntS N a0.2.2 (fun (r12_1 : (List Int)) =>
    kf (a0.1, (a0.2.1, r12_1)))
noncomputable def laws_toJudgeS_l3 (N : Nat) (x0_1 : (List QIILIE)) : Nat → ((List QIILIE) → Option Ret) → (List QIILIE) → Int → Option Ret
  | 0, _, _, _ => none
  | n_4 + 1, k3_0_6, x3_2, x4_3 =>
    bif (decide (x4_3 < (List.length x0_1 : Int))) then
      bif (inB x4_3 (List.length x0_1)) then
        laws_toJudge N (List.getD x0_1 (Int.toNat x4_3) zQIILIE) (fun (r20_5 : QIILIE) =>
          bif (inB x4_3 (List.length x3_2)) then
            (laws_toJudgeS_l3 N x0_1 n_4 k3_0_6) (List.set x3_2 (Int.toNat x4_3) r20_5) (IntKind.wrap .i64 (x4_3 + (1 : Int)))
          else none)
      else none
    else
      k3_0_6 x3_2
noncomputable def laws_toJudgeS (N : Nat) (a0 : (List QIILIE)) (kf : (List QIILIE) → Option Ret) : Option Ret :=
  bif (decide ((List.length a0 : Int) = (List.length a0 : Int)) && decide ((0 : Int) ≤ (List.length a0 : Int)) && decide ((List.length a0 : Int) ≤ 1099511627776)) then
    laws_toJudgeS_l3 N a0 N kf (List.replicate (Int.toNat (List.length a0 : Int)) ((0 : Int), ((0 : Int), ([] : (List Int))))) (0 : Int)
  else none
noncomputable def laws_toPair (N : Nat) (a0 : QIIE) (kf : QIIE → Option Ret) : Option Ret :=
  kf (a0.1, a0.2)
noncomputable def laws_toPairS_l3 (N : Nat) (x0_1 : (List QIIE)) : Nat → ((List QIIE) → Option Ret) → (List QIIE) → Int → Option Ret
  | 0, _, _, _ => none
  | n_4 + 1, k3_0_6, x3_2, x4_3 =>
    bif (decide (x4_3 < (List.length x0_1 : Int))) then
      bif (inB x4_3 (List.length x0_1)) then
        laws_toPair N (List.getD x0_1 (Int.toNat x4_3) zQIIE) (fun (r20_5 : QIIE) =>
          bif (inB x4_3 (List.length x3_2)) then
            (laws_toPairS_l3 N x0_1 n_4 k3_0_6) (List.set x3_2 (Int.toNat x4_3) r20_5) (IntKind.wrap .i64 (x4_3 + (1 : Int)))
          else none)
      else none
    else
      k3_0_6 x3_2
noncomputable def laws_toPairS (N : Nat) (a0 : (List QIIE)) (kf : (List QIIE) → Option Ret) : Option Ret :=
  bif (decide ((List.length a0 : Int) = (List.length a0 : Int)) && decide ((0 : Int) ≤ (List.length a0 : Int)) && decide ((List.length a0 : Int) ≤ 1099511627776)) then
    laws_toPairS_l3 N a0 N kf (List.replicate (Int.toNat (List.length a0 : Int)) ((0 : Int), (0 : Int))) (0 : Int)
  else none
noncomputable def laws_toBallot (N : Nat) (a0 : QIIIE) (kf : QIIIE → Option Ret) : Option Ret :=
  kf (a0.1, (a0.2.1, a0.2.2))
noncomputable def laws_toBallotS_l3 (N : Nat) (x0_1 : (List QIIIE)) : Nat → ((List QIIIE) → Option Ret) → (List QIIIE) → Int → Option Ret
  | 0, _, _, _ => none
  | n_4 + 1, k3_0_6, x3_2, x4_3 =>
    bif (decide (x4_3 < (List.length x0_1 : Int))) then
      bif (inB x4_3 (List.length x0_1)) then
        laws_toBallot N (List.getD x0_1 (Int.toNat x4_3) zQIIIE) (fun (r20_5 : QIIIE) =>
          bif (inB x4_3 (List.length x3_2)) then
            (laws_toBallotS_l3 N x0_1 n_4 k3_0_6) (List.set x3_2 (Int.toNat x4_3) r20_5) (IntKind.wrap .i64 (x4_3 + (1 : Int)))
          else none)
      else none
    else
      k3_0_6 x3_2
noncomputable def laws_toBallotS (N : Nat) (a0 : (List QIIIE)) (kf : (List QIIIE) → Option Ret) : Option Ret :=
  bif (decide ((List.length a0 : Int) = (List.length a0 : Int)) && decide ((0 : Int) ≤ (List.length a0 : Int)) && decide ((List.length a0 : Int) ≤ 1099511627776)) then
    laws_toBallotS_l3 N a0 N kf (List.replicate (Int.toNat (List.length a0 : Int)) ((0 : Int), ((0 : Int), (0 : Int)))) (0 : Int)
  else none
noncomputable def laws_toLine (N : Nat) (a0 : QIIIIE) (kf : QIIIIE → Option Ret) : Option Ret :=
  kf (a0.1, (a0.2.1, (a0.2.2.1, a0.2.2.2)))
noncomputable def laws_toLineS_l3 (N : Nat) (x0_1 : (List QIIIIE)) : Nat → ((List QIIIIE) → Option Ret) → (List QIIIIE) → Int → Option Ret
  | 0, _, _, _ => none
  | n_4 + 1, k3_0_6, x3_2, x4_3 =>
    bif (decide (x4_3 < (List.length x0_1 : Int))) then
      bif (inB x4_3 (List.length x0_1)) then
        laws_toLine N (List.getD x0_1 (Int.toNat x4_3) zQIIIIE) (fun (r20_5 : QIIIIE) =>
          bif (inB x4_3 (List.length x3_2)) then
            (laws_toLineS_l3 N x0_1 n_4 k3_0_6) (List.set x3_2 (Int.toNat x4_3) r20_5) (IntKind.wrap .i64 (x4_3 + (1 : Int)))
          else none)
      else none
    else
      k3_0_6 x3_2
noncomputable def laws_toLineS (N : Nat) (a0 : (List QIIIIE)) (kf : (List QIIIIE) → Option Ret) : Option Ret :=
  bif (decide ((List.length a0 : Int) = (List.length a0 : Int)) && decide ((0 : Int) ≤ (List.length a0 : Int)) && decide ((List.length a0 : Int) ≤ 1099511627776)) then
    laws_toLineS_l3 N a0 N kf (List.replicate (Int.toNat (List.length a0 : Int)) ((0 : Int), ((0 : Int), ((0 : Int), (0 : Int))))) (0 : Int)
  else none
noncomputable def laws_toClub (N : Nat) (a0 : QLQIIIIILIELQIILIELQIIELILQIIIELQIIIIEIE) (kf : QLQIIIIILIELQIILIELQIIELILQIIIELQIIIIEIE → Option Ret) : Option Ret :=
  laws_toTeamS N a0.1 (fun (r6_1 : (List QIIIIILIE)) =>
    laws_toJudgeS N a0.2.1 (fun (r10_2 : (List QIILIE)) =>
      laws_toPairS N a0.2.2.1 (fun (r14_3 : (List QIIE)) =>
        laws_toIntS N a0.2.2.2.1 (fun (r18_4 : (List Int)) =>
          laws_toBallotS N a0.2.2.2.2.1 (fun (r22_5 : (List QIIIE)) =>
            laws_toLineS N a0.2.2.2.2.2.1 (fun (r26_6 : (List QIIIIE)) =>
              kf (r6_1, (r10_2, (r14_3, (r18_4, (r22_5, (r26_6, a0.2.2.2.2.2.2))))))))))))
noncomputable def laws_eqIntS_l4 (x0_1 : (List Int)) (x1_2 : (List Int)) : Nat → (Option Ret) → (Bool → Option Ret) → Int → Option Ret
  | 0, _, _, _ => none
  | n_4 + 1, k4_0_5, k4_1_6, x5_3 =>
    bif (decide (x5_3 < (List.length x0_1 : Int))) then
      bif (inB x5_3 (List.length x0_1)) then
        bif (inB x5_3 (List.length x1_2)) then
          bif ((List.getD x0_1 (Int.toNat x5_3) (0 : Int)) != (List.getD x1_2 (Int.toNat x5_3) (0 : Int))) then
            k4_1_6 false
          else
            (laws_eqIntS_l4 x0_1 x1_2 n_4 k4_0_5 k4_1_6) (IntKind.wrap .i64 (x5_3 + (1 : Int)))
        else none
      else none
    else
      k4_0_5
noncomputable def laws_eqIntS (N : Nat) (a0 : (List Int)) (a1 : (List Int)) (kf : Bool → Option Ret) : Option Ret :=
  bif ((List.length a0 : Int) != (List.length a1 : Int)) then
    kf false
  else
    laws_eqIntS_l4 a0 a1 N (kf true) kf (0 : Int)
noncomputable def laws_eqTeam (N : Nat) (a0 : QIIIIILIE) (a1 : QIIIIILIE) (kf : Bool → Option Ret) : Option Ret :=
  bif (a0.1 != a1.1) then
    kf false
  else
    bif (a0.2.1 != a1.2.1) then
      kf false
    else
      bif (a0.2.2.1 != a1.2.2.1) then
        kf false
      else
        bif (a0.2.2.2.1 != a1.2.2.2.1) then
          kf false
        else
          bif (a0.2.2.2.2.1 != a1.2.2.2.2.1) then
            kf false
          else
            laws_eqIntS N a0.2.2.2.2.2 a1.2.2.2.2.2 (fun (r34_1 : Bool) =>
              bif (!r34_1) then
                kf false
              else
                kf true)
noncomputable def laws_eqTeamS_l4 (N : Nat) (x0_1 : (List QIIIIILIE)) (x1_2 : (List QIIIIILIE)) : Nat → (Option Ret) → (Bool → Option Ret) → Int → Option Ret
  | 0, _, _, _ => none
  | n_4 + 1, k4_0_6, k4_1_7, x5_3 =>
    bif (decide (x5_3 < (List.length x0_1 : Int))) then
      bif (inB x5_3 (List.length x0_1)) then
        bif (inB x5_3 (List.length x1_2)) then
          laws_eqTeam N (List.getD x0_1 (Int.toNat x5_3) zQIIIIILIE) (List.getD x1_2 (Int.toNat x5_3) zQIIIIILIE) (fun (r25_5 : Bool) =>
            bif (!r25_5) then
              k4_1_7 false
            else
              (laws_eqTeamS_l4 N x0_1 x1_2 n_4 k4_0_6 k4_1_7) (IntKind.wrap .i64 (x5_3 + (1 : Int))))
        else none
      else none
    else
      k4_0_6
noncomputable def laws_eqTeamS (N : Nat) (a0 : (List QIIIIILIE)) (a1 : (List QIIIIILIE)) (kf : Bool → Option Ret) : Option Ret :=
  bif ((List.length a0 : Int) != (List.length a1 : Int)) then
    kf false
  else
    laws_eqTeamS_l4 N a0 a1 N (kf true) kf (0 : Int)
noncomputable def laws_eqJudge (N : Nat) (a0 : QIILIE) (a1 : QIILIE) (kf : Bool → Option Ret) : Option Ret :=
  bif (a0.1 != a1.1) then
    kf false
  else
    bif (a0.2.1 != a1.2.1) then
      kf false
    else
      laws_eqIntS N a0.2.2 a1.2.2 (fun (r19_1 : Bool) =>
        bif (!r19_1) then
          kf false
        else
          kf true)
noncomputable def laws_eqJudgeS_l4 (N : Nat) (x0_1 : (List QIILIE)) (x1_2 : (List QIILIE)) : Nat → (Option Ret) → (Bool → Option Ret) → Int → Option Ret
  | 0, _, _, _ => none
  | n_4 + 1, k4_0_6, k4_1_7, x5_3 =>
    bif (decide (x5_3 < (List.length x0_1 : Int))) then
      bif (inB x5_3 (List.length x0_1)) then
        bif (inB x5_3 (List.length x1_2)) then
          laws_eqJudge N (List.getD x0_1 (Int.toNat x5_3) zQIILIE) (List.getD x1_2 (Int.toNat x5_3) zQIILIE) (fun (r25_5 : Bool) =>
            bif (!r25_5) then
              k4_1_7 false
            else
              (laws_eqJudgeS_l4 N x0_1 x1_2 n_4 k4_0_6 k4_1_7) (IntKind.wrap .i64 (x5_3 + (1 : Int))))
        else none
      else none
    else
      k4_0_6
noncomputable def laws_eqJudgeS (N : Nat) (a0 : (List QIILIE)) (a1 : (List QIILIE)) (kf : Bool → Option Ret) : Option Ret :=
  bif ((List.length a0 : Int) != (List.length a1 : Int)) then
    kf false
  else
    laws_eqJudgeS_l4 N a0 a1 N (kf true) kf (0 : Int)
noncomputable def laws_eqPair (N : Nat) (a0 : QIIE) (a1 : QIIE) (kf : Bool → Option Ret) : Option Ret :=
  bif (a0.1 != a1.1) then
    kf false
  else
    bif (a0.2 != a1.2) then
      kf false
    else
      kf true
noncomputable def laws_eqPairS_l4 (N : Nat) (x0_1 : (List QIIE)) (x1_2 : (List QIIE)) : Nat → (Option Ret) → (Bool → Option Ret) → Int → Option Ret
  | 0, _, _, _ => none
  | n_4 + 1, k4_0_6, k4_1_7, x5_3 =>
    bif (decide (x5_3 < (List.length x0_1 : Int))) then
      bif (inB x5_3 (List.length x0_1)) then
        bif (inB x5_3 (List.length x1_2)) then
          laws_eqPair N (List.getD x0_1 (Int.toNat x5_3) zQIIE) (List.getD x1_2 (Int.toNat x5_3) zQIIE) (fun (r25_5 : Bool) =>
            bif (!r25_5) then
              k4_1_7 false
            else
              (laws_eqPairS_l4 N x0_1 x1_2 n_4 k4_0_6 k4_1_7) (IntKind.wrap .i64 (x5_3 + (1 : Int))))
        else none
      else none
    else
      k4_0_6
noncomputable def laws_eqPairS (N : Nat) (a0 : (List QIIE)) (a1 : (List QIIE)) (kf : Bool → Option Ret) : Option Ret :=
  bif ((List.length a0 : Int) != (List.length a1 : Int)) then
    kf false
  else
    laws_eqPairS_l4 N a0 a1 N (kf true) kf (0 : Int)
noncomputable def laws_eqBallot (N : Nat) (a0 : QIIIE) (a1 : QIIIE) (kf : Bool → Option Ret) : Option Ret :=
  bif (a0.1 != a1.1) then
    kf false
  else
    bif (a0.2.1 != a1.2.1) then
      kf false
    else
      bif (a0.2.2 != a1.2.2) then
        kf false
      else
        kf true
noncomputable def laws_eqBallotS_l4 (N : Nat) (x0_1 : (List QIIIE)) (x1_2 : (List QIIIE)) : Nat → (Option Ret) → (Bool → Option Ret) → Int → Option Ret
  | 0, _, _, _ => none
  | n_4 + 1, k4_0_6, k4_1_7, x5_3 =>
    bif (decide (x5_3 < (List.length x0_1 : Int))) then
      bif (inB x5_3 (List.length x0_1)) then
        bif (inB x5_3 (List.length x1_2)) then
          laws_eqBallot N (List.getD x0_1 (Int.toNat x5_3) zQIIIE) (List.getD x1_2 (Int.toNat x5_3) zQIIIE) (fun (r25_5 : Bool) =>
            bif (!r25_5) then
              k4_1_7 false
            else
              (laws_eqBallotS_l4 N x0_1 x1_2 n_4 k4_0_6 k4_1_7) (IntKind.wrap .i64 (x5_3 + (1 : Int))))
        else none
      else none
    else
      k4_0_6
noncomputable def laws_eqBallotS (N : Nat) (a0 : (List QIIIE)) (a1 : (List QIIIE)) (kf : Bool → Option Ret) : Option Ret :=
  bif ((List.length a0 : Int) != (List.length a1 : Int)) then
    kf false
  else
    laws_eqBallotS_l4 N a0 a1 N (kf true) kf (0 : Int)
noncomputable def laws_eqLine (N : Nat) (a0 : QIIIIE) (a1 : QIIIIE) (kf : Bool → Option Ret) : Option Ret :=
  bif (a0.1 != a1.1) then
    kf false
  else
    bif (a0.2.1 != a1.2.1) then
      kf false
    else
      bif (a0.2.2.1 != a1.2.2.1) then
        kf false
      else
        bif (a0.2.2.2 != a1.2.2.2) then
          kf false
        else
          kf true
noncomputable def laws_eqLineS_l4 (N : Nat) (x0_1 : (List QIIIIE)) (x1_2 : (List QIIIIE)) : Nat → (Option Ret) → (Bool → Option Ret) → Int → Option Ret
  | 0, _, _, _ => none
  | n_4 + 1, k4_0_6, k4_1_7, x5_3 =>
    bif (decide (x5_3 < (List.length x0_1 : Int))) then
      bif (inB x5_3 (List.length x0_1)) then
        bif (inB x5_3 (List.length x1_2)) then
          laws_eqLine N (List.getD x0_1 (Int.toNat x5_3) zQIIIIE) (List.getD x1_2 (Int.toNat x5_3) zQIIIIE) (fun (r25_5 : Bool) =>
            bif (!r25_5) then
              k4_1_7 false
            else
              (laws_eqLineS_l4 N x0_1 x1_2 n_4 k4_0_6 k4_1_7) (IntKind.wrap .i64 (x5_3 + (1 : Int))))
        else none
      else none
    else
      k4_0_6
noncomputable def laws_eqLineS (N : Nat) (a0 : (List QIIIIE)) (a1 : (List QIIIIE)) (kf : Bool → Option Ret) : Option Ret :=
  bif ((List.length a0 : Int) != (List.length a1 : Int)) then
    kf false
  else
    laws_eqLineS_l4 N a0 a1 N (kf true) kf (0 : Int)
noncomputable def laws_eqClub (N : Nat) (a0 : QLQIIIIILIELQIILIELQIIELILQIIIELQIIIIEIE) (a1 : QLQIIIIILIELQIILIELQIIELILQIIIELQIIIIEIE) (kf : Bool → Option Ret) : Option Ret :=
  laws_eqTeamS N a0.1 a1.1 (fun (r9_1 : Bool) =>
    bif (!r9_1) then
      kf false
    else
      laws_eqJudgeS N a0.2.1 a1.2.1 (fun (r15_2 : Bool) =>
        bif (!r15_2) then
          kf false
        else
          laws_eqPairS N a0.2.2.1 a1.2.2.1 (fun (r21_3 : Bool) =>
            bif (!r21_3) then
              kf false
            else
              laws_eqIntS N a0.2.2.2.1 a1.2.2.2.1 (fun (r27_4 : Bool) =>
                bif (!r27_4) then
                  kf false
                else
                  laws_eqBallotS N a0.2.2.2.2.1 a1.2.2.2.2.1 (fun (r33_5 : Bool) =>
                    bif (!r33_5) then
                      kf false
                    else
                      laws_eqLineS N a0.2.2.2.2.2.1 a1.2.2.2.2.2.1 (fun (r39_6 : Bool) =>
                        bif (!r39_6) then
                          kf false
                        else
                          bif (a0.2.2.2.2.2.2 != a1.2.2.2.2.2.2) then
                            kf false
                          else
                            kf true))))))
noncomputable def spec_l4Has_l2 (x0_1 : (List Int)) (x1_2 : Int) : Nat → (Option Ret) → (Bool → Option Ret) → Int → Option Ret
  | 0, _, _, _ => none
  | n_4 + 1, k2_0_5, k2_1_6, x5_3 =>
    bif (decide (x5_3 < (List.length x0_1 : Int))) then
      bif (inB x5_3 (List.length x0_1)) then
        bif ((List.getD x0_1 (Int.toNat x5_3) (0 : Int)) == x1_2) then
          k2_1_6 true
        else
          (spec_l4Has_l2 x0_1 x1_2 n_4 k2_0_5 k2_1_6) (IntKind.wrap .i64 (x5_3 + (1 : Int)))
      else none
    else
      k2_0_5
noncomputable def spec_l4Has (N : Nat) (a0 : (List Int)) (a1 : Int) (kf : Bool → Option Ret) : Option Ret :=
  spec_l4Has_l2 a0 a1 N (kf false) kf (0 : Int)
noncomputable def spec_l21Find_l2 (x0_1 : (List QIILIE)) (x1_2 : Int) : Nat → (Option Ret) → (Int → Option Ret) → Int → Option Ret
  | 0, _, _, _ => none
  | n_4 + 1, k2_0_5, k2_1_6, x5_3 =>
    bif (decide (x5_3 < (List.length x0_1 : Int))) then
      bif (inB x5_3 (List.length x0_1)) then
        bif ((List.getD x0_1 (Int.toNat x5_3) zQIILIE).1 == x1_2) then
          k2_1_6 x5_3
        else
          (spec_l21Find_l2 x0_1 x1_2 n_4 k2_0_5 k2_1_6) (IntKind.wrap .i64 (x5_3 + (1 : Int)))
      else none
    else
      k2_0_5
noncomputable def spec_l21Find (N : Nat) (a0 : (List QIILIE)) (a1 : Int) (kf : Int → Option Ret) : Option Ret :=
  spec_l21Find_l2 a0 a1 N (kf (-1 : Int)) kf (0 : Int)
noncomputable def spec_FindTeam_l2 (x0_1 : (List QIIIIILIE)) (x1_2 : Int) : Nat → (Option Ret) → (Int → Option Ret) → Int → Option Ret
  | 0, _, _, _ => none
  | n_4 + 1, k2_0_5, k2_1_6, x5_3 =>
    bif (decide (x5_3 < (List.length x0_1 : Int))) then
      bif (inB x5_3 (List.length x0_1)) then
        bif ((List.getD x0_1 (Int.toNat x5_3) zQIIIIILIE).1 == x1_2) then
          k2_1_6 x5_3
        else
          (spec_FindTeam_l2 x0_1 x1_2 n_4 k2_0_5 k2_1_6) (IntKind.wrap .i64 (x5_3 + (1 : Int)))
      else none
    else
      k2_0_5
noncomputable def spec_FindTeam (N : Nat) (a0 : (List QIIIIILIE)) (a1 : Int) (kf : Int → Option Ret) : Option Ret :=
  spec_FindTeam_l2 a0 a1 N (kf (-1 : Int)) kf (0 : Int)
noncomputable def spec_MayJudge (N : Nat) (a0 : (List QIIIIILIE)) (a1 : QIILIE) (a2 : QIIE) (kf : Bool → Option Ret) : Option Ret :=
  spec_FindTeam N a0 a2.1 (fun (r12_1 : Int) =>
    spec_FindTeam N a0 a2.2 (fun (r16_2 : Int) =>
      bif (decide (r12_1 ≥ (0 : Int))) then
        bif (decide (r16_2 ≥ (0 : Int))) then
          bif (inB r12_1 (List.length a0)) then
            bif ((List.getD a0 (Int.toNat r12_1) zQIIIIILIE).2.1 != a1.2.1) then
              bif (inB r16_2 (List.length a0)) then
                bif ((List.getD a0 (Int.toNat r16_2) zQIIIIILIE).2.1 != a1.2.1) then
                  spec_l4Has N a1.2.2 a2.1 (fun (r48_3 : Bool) =>
                    bif (!r48_3) then
                      spec_l4Has N a1.2.2 a2.2 (fun (r56_4 : Bool) =>
                        kf (!r56_4))
                    else
                      kf false)
                else
                  kf false
              else none
            else
              kf false
          else none
        else
          kf false
      else
        kf false))
noncomputable def spec_IsImpartial_l2 (N : Nat) (x1_1 : QLQIIIIILIELQIILIELQIIELILQIIIELQIIIIEIE) : Nat → (Option Ret) → (Bool → Option Ret) → Int → Option Ret
  | 0, _, _, _ => none
  | n_3 + 1, k2_0_6, k2_1_7, x3_2 =>
    bif (decide (x3_2 < (List.length x1_1.2.2.1 : Int))) then
      bif (decide (x3_2 ≥ (List.length x1_1.2.2.2.1 : Int))) then
        k2_1_7 false
      else
        bif (inB x3_2 (List.length x1_1.2.2.2.1)) then
          spec_l21Find N x1_1.2.1 (List.getD x1_1.2.2.2.1 (Int.toNat x3_2) (0 : Int)) (fun (r24_4 : Int) =>
            bif (decide (r24_4 < (0 : Int))) then
              k2_1_7 false
            else
              bif (inB r24_4 (List.length x1_1.2.1)) then
                bif (inB x3_2 (List.length x1_1.2.2.1)) then
                  spec_MayJudge N x1_1.1 (List.getD x1_1.2.1 (Int.toNat r24_4) zQIILIE) (List.getD x1_1.2.2.1 (Int.toNat x3_2) zQIIE) (fun (r40_5 : Bool) =>
                    bif (!r40_5) then
                      k2_1_7 false
                    else
                      (spec_IsImpartial_l2 N x1_1 n_3 k2_0_6 k2_1_7) (IntKind.wrap .i64 (x3_2 + (1 : Int))))
                else none
              else none)
        else none
    else
      k2_0_6
noncomputable def spec_IsImpartial (N : Nat) (a0 : QLQIIIIILIELQIILIELQIIELILQIIIELQIIIIEIE) (kf : Bool → Option Ret) : Option Ret :=
  spec_IsImpartial_l2 N a0 N (kf true) kf (0 : Int)
noncomputable def impl_judgeAt_1 (N : Nat) (a0 : QIILIE) (a1 : Int) (kf : Bool → Option Ret) : Option Ret :=
  kf (a0.1 == a1)
noncomputable def slices_IndexFunc_Judge_impl_judgeAt_1_l2 (N : Nat) (x0_1 : (List QIILIE)) (x1_2 : Int) (x7_3 : Int) : Nat → (Option Ret) → (Int → Option Ret) → Int → Option Ret
  | 0, _, _, _ => none
  | n_5 + 1, k2_0_7, k2_1_8, x8_4 =>
    bif (decide (x8_4 < x7_3)) then
      bif (inB x8_4 (List.length x0_1)) then
        impl_judgeAt_1 N (List.getD x0_1 (Int.toNat x8_4) zQIILIE) x1_2 (fun (r16_6 : Bool) =>
          bif r16_6 then
            k2_1_8 x8_4
          else
            (slices_IndexFunc_Judge_impl_judgeAt_1_l2 N x0_1 x1_2 x7_3 n_5 k2_0_7 k2_1_8) (IntKind.wrap .i64 (x8_4 + (1 : Int))))
      else none
    else
      k2_0_7
noncomputable def slices_IndexFunc_Judge_impl_judgeAt_1 (N : Nat) (a0 : (List QIILIE)) (a1_0 : Int) (kf : Int → Option Ret) : Option Ret :=
  slices_IndexFunc_Judge_impl_judgeAt_1_l2 N a0 a1_0 (List.length a0 : Int) N (kf (-1 : Int)) kf (0 : Int)
noncomputable def impl_judgeAt (N : Nat) (a0 : (List QIILIE)) (a1 : Int) (kf : Int → Option Ret) : Option Ret :=
  slices_IndexFunc_Judge_impl_judgeAt_1 N a0 a1 kf
noncomputable def impl_FindTeam_1 (N : Nat) (a0 : QIIIIILIE) (a1 : Int) (kf : Bool → Option Ret) : Option Ret :=
  kf (a0.1 == a1)
noncomputable def slices_IndexFunc_Team_impl_FindTeam_1_l2 (N : Nat) (x0_1 : (List QIIIIILIE)) (x1_2 : Int) (x7_3 : Int) : Nat → (Option Ret) → (Int → Option Ret) → Int → Option Ret
  | 0, _, _, _ => none
  | n_5 + 1, k2_0_7, k2_1_8, x8_4 =>
    bif (decide (x8_4 < x7_3)) then
      bif (inB x8_4 (List.length x0_1)) then
        impl_FindTeam_1 N (List.getD x0_1 (Int.toNat x8_4) zQIIIIILIE) x1_2 (fun (r16_6 : Bool) =>
          bif r16_6 then
            k2_1_8 x8_4
          else
            (slices_IndexFunc_Team_impl_FindTeam_1_l2 N x0_1 x1_2 x7_3 n_5 k2_0_7 k2_1_8) (IntKind.wrap .i64 (x8_4 + (1 : Int))))
      else none
    else
      k2_0_7
noncomputable def slices_IndexFunc_Team_impl_FindTeam_1 (N : Nat) (a0 : (List QIIIIILIE)) (a1_0 : Int) (kf : Int → Option Ret) : Option Ret :=
  slices_IndexFunc_Team_impl_FindTeam_1_l2 N a0 a1_0 (List.length a0 : Int) N (kf (-1 : Int)) kf (0 : Int)
noncomputable def impl_FindTeam (N : Nat) (a0 : (List QIIIIILIE)) (a1 : Int) (kf : Int → Option Ret) : Option Ret :=
  slices_IndexFunc_Team_impl_FindTeam_1 N a0 a1 kf
noncomputable def slices_Index_int_l2 (x0_1 : (List Int)) (x1_2 : Int) (x7_3 : Int) : Nat → (Option Ret) → (Int → Option Ret) → Int → Option Ret
  | 0, _, _, _ => none
  | n_5 + 1, k2_0_6, k2_1_7, x8_4 =>
    bif (decide (x8_4 < x7_3)) then
      bif (inB x8_4 (List.length x0_1)) then
        bif (x1_2 == (List.getD x0_1 (Int.toNat x8_4) (0 : Int))) then
          k2_1_7 x8_4
        else
          (slices_Index_int_l2 x0_1 x1_2 x7_3 n_5 k2_0_6 k2_1_7) (IntKind.wrap .i64 (x8_4 + (1 : Int)))
      else none
    else
      k2_0_6
noncomputable def slices_Index_int (N : Nat) (a0 : (List Int)) (a1 : Int) (kf : Int → Option Ret) : Option Ret :=
  slices_Index_int_l2 a0 a1 (List.length a0 : Int) N (kf (-1 : Int)) kf (0 : Int)
noncomputable def slices_Contains_int (N : Nat) (a0 : (List Int)) (a1 : Int) (kf : Bool → Option Ret) : Option Ret :=
  slices_Index_int N a0 a1 (fun (r7_1 : Int) =>
    kf (decide (r7_1 ≥ (0 : Int))))
noncomputable def impl_MayJudge_l2 (N : Nat) (x0_1 : (List QIIIIILIE)) (x4_2 : QIILIE) (x14_3 : (List Int)) (x15_4 : Int) : Nat → (Option Ret) → (Bool → Option Ret) → Int → Option Ret
  | 0, _, _, _ => none
  | n_6 + 1, k2_0_9, k2_1_10, x16_5 =>
    bif (decide (x16_5 < x15_4)) then
      bif (inB x16_5 (List.length x14_3)) then
        impl_FindTeam N x0_1 (List.getD x14_3 (Int.toNat x16_5) (0 : Int)) (fun (r22_7 : Int) =>
          bif (decide (r22_7 < (0 : Int))) then
            k2_1_10 false
          else
            bif (inB r22_7 (List.length x0_1)) then
              bif ((List.getD x0_1 (Int.toNat r22_7) zQIIIIILIE).2.1 == x4_2.2.1) then
                k2_1_10 false
              else
                slices_Contains_int N x4_2.2.2 (List.getD x14_3 (Int.toNat x16_5) (0 : Int)) (fun (r39_8 : Bool) =>
                  bif r39_8 then
                    k2_1_10 false
                  else
                    (impl_MayJudge_l2 N x0_1 x4_2 x14_3 x15_4 n_6 k2_0_9 k2_1_10) (IntKind.wrap .i64 (x16_5 + (1 : Int))))
            else none)
      else none
    else
      k2_0_9
noncomputable def impl_MayJudge (N : Nat) (a0 : (List QIIIIILIE)) (a1 : QIILIE) (a2 : QIIE) (kf : Bool → Option Ret) : Option Ret :=
  impl_MayJudge_l2 N a0 a1 [a2.1, a2.2] (List.length [a2.1, a2.2] : Int) N (kf true) kf (0 : Int)
noncomputable def impl_IsImpartial_l2 (N : Nat) (x1_1 : QLQIIIIILIELQIILIELQIIELILQIIIELQIIIIEIE) (x7_2 : (List QIIE)) (x8_3 : Int) : Nat → (Option Ret) → (Bool → Option Ret) → Int → Option Ret
  | 0, _, _, _ => none
  | n_5 + 1, k2_0_8, k2_1_9, x9_4 =>
    bif (decide (x9_4 < x8_3)) then
      bif (inB x9_4 (List.length x7_2)) then
        bif (decide (x9_4 ≥ (List.length x1_1.2.2.2.1 : Int))) then
          k2_1_9 false
        else
          bif (inB x9_4 (List.length x1_1.2.2.2.1)) then
            impl_judgeAt N x1_1.2.1 (List.getD x1_1.2.2.2.1 (Int.toNat x9_4) (0 : Int)) (fun (r26_6 : Int) =>
              bif (decide (r26_6 < (0 : Int))) then
                k2_1_9 false
              else
                bif (inB r26_6 (List.length x1_1.2.1)) then
                  impl_MayJudge N x1_1.1 (List.getD x1_1.2.1 (Int.toNat r26_6) zQIILIE) (List.getD x7_2 (Int.toNat x9_4) zQIIE) (fun (r38_7 : Bool) =>
                    bif (!r38_7) then
                      k2_1_9 false
                    else
                      (impl_IsImpartial_l2 N x1_1 x7_2 x8_3 n_5 k2_0_8 k2_1_9) (IntKind.wrap .i64 (x9_4 + (1 : Int))))
                else none)
          else none
      else none
    else
      k2_0_8
noncomputable def impl_IsImpartial (N : Nat) (a0 : QLQIIIIILIELQIILIELQIIELILQIIIELQIIIIEIE) (kf : Bool → Option Ret) : Option Ret :=
  impl_IsImpartial_l2 N a0 a0.2.2.1 (List.length a0.2.2.1 : Int) N (kf true) kf (0 : Int)
noncomputable def laws_FnExactIsImpartial (N : Nat) (a0 : QLQIIIIILIELQIILIELQIIELILQIIIELQIIIIEIE) (kf : Bool → Option Ret) : Option Ret :=
  laws_szClub N a0 (1048576 : Int) (fun (r9_1 : Int) =>
    bif (decide (r9_1 < (0 : Int))) then
      kf true
    else
      laws_toClub N a0 (fun (r13_2 : QLQIIIIILIELQIILIELQIIELILQIIIELQIIIIEIE) =>
        spec_IsImpartial N r13_2 (fun (r14_3 : Bool) =>
          laws_toClub N a0 (fun (r16_4 : QLQIIIIILIELQIILIELQIIELILQIIIELQIIIIEIE) =>
            impl_IsImpartial N r16_4 (fun (r18_5 : Bool) =>
              bif (!(r18_5 == r14_3)) then
                kf false
              else
                laws_toClub N a0 (fun (r24_6 : QLQIIIIILIELQIILIELQIIELILQIIIELQIIIIEIE) =>
                  laws_eqClub N r16_4 r24_6 (fun (r25_7 : Bool) =>
                    bif (!r25_7) then
                      kf false
                    else
                      kf true)))))))
end Go.Pv.R
