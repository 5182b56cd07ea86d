/- What the functions compute, as plain functions. -/
import Derived.Test.YtbpmandkogjaoaaPv2
namespace Go.Pv.R
set_option linter.unusedVariables false
set_option linter.unusedSimpArgs false
abbrev tQIILIE : Ty := (.pair (.int .i64) (.pair (.int .i64) (.sl (.int .i64))))
abbrev QIILIE : Type := (Int × (Int × (List Int)))
def zQIILIE : QIILIE := ((0 : Int), ((0 : Int), ([] : (List Int))))
abbrev tQIIIIILIE : Ty := (.pair (.int .i64) (.pair (.int .i64) (.pair (.int .i64) (.pair (.int .i64) (.pair (.int .i64) (.sl (.int .i64)))))))
abbrev QIIIIILIE : Type := (Int × (Int × (Int × (Int × (Int × (List Int))))))
def zQIIIIILIE : QIIIIILIE := ((0 : Int), ((0 : Int), ((0 : Int), ((0 : Int), ((0 : Int), ([] : (List Int)))))))
abbrev tQIIE : Ty := (.pair (.int .i64) (.int .i64))
abbrev QIIE : Type := (Int × Int)
def zQIIE : QIIE := ((0 : Int), (0 : Int))
abbrev tQIIIE : Ty := (.pair (.int .i64) (.pair (.int .i64) (.int .i64)))
abbrev QIIIE : Type := (Int × (Int × Int))
def zQIIIE : QIIIE := ((0 : Int), ((0 : Int), (0 : Int)))
abbrev tQIIIIE : Ty := (.pair (.int .i64) (.pair (.int .i64) (.pair (.int .i64) (.int .i64))))
abbrev QIIIIE : Type := (Int × (Int × (Int × Int)))
def zQIIIIE : QIIIIE := ((0 : Int), ((0 : Int), ((0 : Int), (0 : Int))))
abbrev tQLQIIIIILIELQIILIELQIIELILQIIIELQIIIIEIE : Ty := (.pair (.sl tQIIIIILIE) (.pair (.sl tQIILIE) (.pair (.sl tQIIE) (.pair (.sl (.int .i64)) (.pair (.sl tQIIIE) (.pair (.sl tQIIIIE) (.int .i64)))))))
abbrev QLQIIIIILIELQIILIELQIIELILQIIIELQIIIIEIE : Type := ((List QIIIIILIE) × ((List QIILIE) × ((List QIIE) × ((List Int) × ((List QIIIE) × ((List QIIIIE) × Int))))))
noncomputable def laws_szIntS (N : Nat) (a0 : (List Int)) (a1 : Int) (kf : Int → Option Ret) : Option Ret :=
  bif (decide ((IntKind.wrap .i64 (a1 - (List.length a0 : Int))) < (0 : Int))) then
    kf (-1 : Int)
  else
    kf (IntKind.wrap .i64 (a1 - (List.length a0 : Int)))
noncomputable def laws_szTeam (N : Nat) (a0 : QIIIIILIE) (a1 : Int) (kf : Int → Option Ret) : Option Ret :=
  laws_szIntS N a0.2.2.2.2.2 a1 (fun (r8_1 : Int) =>
    bif (decide (r8_1 < (0 : Int))) then
      kf (-1 : Int)
    else
      kf r8_1)
noncomputable def laws_szTeamS_l5 (N : Nat) (x0_1 : (List QIIIIILIE)) : Nat → (Int → Option Ret) → (Int → Option Ret) → Int → Int → Option Ret
  | 0, _, _, _, _ => none
  | n_4 + 1, k5_0_6, k5_1_7, x1_2, x5_3 =>
    bif (decide (x5_3 < (List.length x0_1 : Int))) then
      bif (inB x5_3 (List.length x0_1)) then
        laws_szTeam N (List.getD x0_1 (Int.toNat x5_3) zQIIIIILIE) x1_2 (fun (r23_5 : Int) =>
          bif (decide (r23_5 < (0 : Int))) then
            k5_1_7 (-1 : Int)
          else
            (laws_szTeamS_l5 N x0_1 n_4 k5_0_6 k5_1_7) r23_5 (IntKind.wrap .i64 (x5_3 + (1 : Int))))
      else none
    else
      k5_0_6 x1_2
noncomputable def laws_szTeamS (N : Nat) (a0 : (List QIIIIILIE)) (a1 : Int) (kf : Int → Option Ret) : Option Ret :=
  bif (decide ((IntKind.wrap .i64 (a1 - (List.length a0 : Int))) < (0 : Int))) then
    kf (-1 : Int)
  else
    laws_szTeamS_l5 N a0 N kf kf (IntKind.wrap .i64 (a1 - (List.length a0 : Int))) (0 : Int)
noncomputable def laws_szJudge (N : Nat) (a0 : QIILIE) (a1 : Int) (kf : Int → Option Ret) : Option Ret :=
  laws_szIntS N a0.2.2 a1 (fun (r8_1 : Int) =>
    bif (decide (r8_1 < (0 : Int))) then
      kf (-1 : Int)
    else
      kf r8_1)
noncomputable def laws_szJudgeS_l5 (N : Nat) (x0_1 : (List QIILIE)) : Nat → (Int → Option Ret) → (Int → Option Ret) → Int → Int → Option Ret
  | 0, _, _, _, _ => none
  | n_4 + 1, k5_0_6, k5_1_7, x1_2, x5_3 =>
    bif (decide (x5_3 < (List.length x0_1 : Int))) then
      bif (inB x5_3 (List.length x0_1)) then
        laws_szJudge N (List.getD x0_1 (Int.toNat x5_3) zQIILIE) x1_2 (fun (r23_5 : Int) =>
          bif (decide (r23_5 < (0 : Int))) then
            k5_1_7 (-1 : Int)
          else
            (laws_szJudgeS_l5 N x0_1 n_4 k5_0_6 k5_1_7) r23_5 (IntKind.wrap .i64 (x5_3 + (1 : Int))))
      else none
    else
      k5_0_6 x1_2
noncomputable def laws_szJudgeS (N : Nat) (a0 : (List QIILIE)) (a1 : Int) (kf : Int → Option Ret) : Option Ret :=
  bif (decide ((IntKind.wrap .i64 (a1 - (List.length a0 : Int))) < (0 : Int))) then
    kf (-1 : Int)
  else
    laws_szJudgeS_l5 N a0 N kf kf (IntKind.wrap .i64 (a1 - (List.length a0 : Int))) (0 : Int)
noncomputable def laws_szPairS (N : Nat) (a0 : (List QIIE)) (a1 : Int) (kf : Int → Option Ret) : Option Ret :=
  bif (decide ((IntKind.wrap .i64 (a1 - (List.length a0 : Int))) < (0 : Int))) then
    kf (-1 : Int)
  else
    kf (IntKind.wrap .i64 (a1 - (List.length a0 : Int)))
noncomputable def laws_szBallotS (N : Nat) (a0 : (List QIIIE)) (a1 : Int) (kf : Int → Option Ret) : Option Ret :=
  bif (decide ((IntKind.wrap .i64 (a1 - (List.length a0 : Int))) < (0 : Int))) then
    kf (-1 : Int)
  else
    kf (IntKind.wrap .i64 (a1 - (List.length a0 : Int)))
noncomputable def laws_szLineS (N : Nat) (a0 : (List QIIIIE)) (a1 : Int) (kf : Int → Option Ret) : Option Ret :=
  bif (decide ((IntKind.wrap .i64 (a1 - (List.length a0 : Int))) < (0 : Int))) then
    kf (-1 : Int)
  else
    kf (IntKind.wrap .i64 (a1 - (List.length a0 : Int)))
noncomputable def laws_szClub (N : Nat) (a0 : QLQIIIIILIELQIILIELQIIELILQIIIELQIIIIEIE) (a1 : Int) (kf : Int → Option Ret) : Option Ret :=
  laws_szTeamS N a0.1 a1 (fun (r8_1 : Int) =>
    bif (decide (r8_1 < (0 : Int))) then
      kf (-1 : Int)
    else
      laws_szJudgeS N a0.2.1 r8_1 (fun (r14_2 : Int) =>
        bif (decide (r14_2 < (0 : Int))) then
          kf (-1 : Int)
        else
          laws_szPairS N a0.2.2.1 r14_2 (fun (r20_3 : Int) =>
            bif (decide (r20_3 < (0 : Int))) then
              kf (-1 : Int)
            else
              laws_szIntS N a0.2.2.2.1 r20_3 (fun (r26_4 : Int) =>
                bif (decide (r26_4 < (0 : Int))) then
                  kf (-1 : Int)
                else
                  laws_szBallotS N a0.2.2.2.2.1 r26_4 (fun (r32_5 : Int) =>
                    bif (decide (r32_5 < (0 : Int))) then
                      kf (-1 : Int)
                    else
                      laws_szLineS N a0.2.2.2.2.2.1 r32_5 (fun (r38_6 : Int) =>
                        bif (decide (r38_6 < (0 : Int))) then
                          kf (-1 : Int)
                        else
                          kf r38_6))))))
noncomputable def laws_toIntS_l3 (x0_1 : (List Int)) : Nat → ((List Int) → Option Ret) → (List Int) → Int → Option Ret
  | 0, _, _, _ => none
  | n_4 + 1, k3_0_5, x3_2, x4_3 =>
    bif (decide (x4_3 < (List.length x0_1 : Int))) then
      bif (inB x4_3 (List.length x0_1)) then
        bif (inB x4_3 (List.length x3_2)) then
          (laws_toIntS_l3 x0_1 n_4 k3_0_5) (List.set x3_2 (Int.toNat x4_3) (List.getD x0_1 (Int.toNat x4_3) (0 : Int))) (IntKind.wrap .i64 (x4_3 + (1 : Int)))
        else none
      else none
    else
      k3_0_5 x3_2
noncomputable def laws_toIntS (N : Nat) (a0 : (List Int)) (kf : (List Int) → Option Ret) : Option Ret :=
  bif (decide ((List.length a0 : Int) = (List.length a0 : Int)) && decide ((0 : Int) ≤ (List.length a0 : Int)) && decide ((List.length a0 : Int) ≤ 1099511627776)) then
    laws_toIntS_l3 a0 N kf (List.replicate (Int.toNat (List.length a0 : Int)) (0 : Int)) (0 : Int)
  else none
noncomputable def laws_toTeam (N : Nat) (a0 : QIIIIILIE) (kf : QIIIIILIE → Option Ret) : Option Ret :=
  laws_toIntS N a0.2.2.2.2.2 (fun (r21_1 : (List Int)) =>
    kf (a0.1, (a0.2.1, (a0.2.2.1, (a0.2.2.2.1, (a0.2.2.2.2.1, r21_1))))))
noncomputable def laws_toTeamS_l3 (N : Nat) (x0_1 : (List QIIIIILIE)) : Nat → ((List QIIIIILIE) → Option Ret) → (List QIIIIILIE) → Int → Option Ret
  | 0, _, _, _ => none
  | n_4 + 1, k3_0_6, x3_2, x4_3 =>
    bif (decide (x4_3 < (List.length x0_1 : Int))) then
      bif (inB x4_3 (List.length x0_1)) then
        laws_toTeam N (List.getD x0_1 (Int.toNat x4_3) zQIIIIILIE) (fun (r20_5 : QIIIIILIE) =>
          bif (inB x4_3 (List.length x3_2)) then
            (laws_toTeamS_l3 N x0_1 n_4 k3_0_6) (List.set x3_2 (Int.toNat x4_3) r20_5) (IntKind.wrap .i64 (x4_3 + (1 : Int)))
          else none)
      else none
    else
      k3_0_6 x3_2
noncomputable def laws_toTeamS (N : Nat) (a0 : (List QIIIIILIE)) (kf : (List QIIIIILIE) → Option Ret) : Option Ret :=
  bif (decide ((List.length a0 : Int) = (List.length a0 : Int)) && decide ((0 : Int) ≤ (List.length a0 : Int)) && decide ((List.length a0 : Int) ≤ 1099511627776)) then
    laws_toTeamS_l3 N a0 N kf (List.replicate (Int.toNat (List.length a0 : Int)) ((0 : Int), ((0 : Int), ((0 : Int), ((0 : Int), ((0 : Int), ([] : (List Int)))))))) (0 : Int)
  else none
noncomputable def laws_toJudge (N : Nat) (a0 : QIILIE) (kf : QIILIE → Option Ret) : Option Ret :=
  laws_toIntS N a0.2.2 (fun (r12_1 : (List Int)) =>
    kf (a0.1, (a0.2.1, r12_1)))
noncomputable def laws_toJudgeS_l3 (N : Nat) (x0_1 : (List QIILIE)) : Nat → ((List QIILIE) → Option Ret) → (List QIILIE) → Int → Option Ret
  | 0, _, _, _ => none
  | n_4 + 1, k3_0_6, x3_2, x4_3 =>
    bif (decide (x4_3 < (List.length x0_1 : Int))) then
      bif (inB x4_3 (List.length x0_1)) then
        laws_toJudge N (List.getD x0_1 (Int.toNat x4_3) zQIILIE) (fun (r20_5 : QIILIE) =>
          bif (inB x4_3 (List.length x3_2)) then
            (laws_toJudgeS_l3 N x0_1 n_4 k3_0_6) (List.set x3_2 (Int.toNat x4_3) r20_5) (IntKind.wrap .i64 (x4_3 + (1 : Int)))
          else none)
      else none
    else
      k3_0_6 x3_2
noncomputable def laws_toJudgeS (N : Nat) (a0 : (List QIILIE)) (kf : (List QIILIE) → Option Ret) : Option Ret :=
  bif (decide ((List.length a0 : Int) = (List.length a0 : Int)) && decide ((0 : Int) ≤ (List.length a0 : Int)) && decide ((List.length a0 : Int) ≤ 1099511627776)) then
    laws_toJudgeS_l3 N a0 N kf (List.replicate (Int.toNat (List.length a0 : Int)) ((0 : Int), ((0 : Int), ([] : (List Int))))) (0 : Int)
  else none
noncomputable def laws_toPair (N : Nat) (a0 : QIIE) (kf : QIIE → Option Ret) : Option Ret :=
  kf (a0.1, a0.2)
noncomputable def laws_toPairS_l3 (N : Nat) (x0_1 : (List QIIE)) : Nat → ((List QIIE) → Option Ret) → (List QIIE) → Int → Option Ret
  | 0, _, _, _ => none
  | n_4 + 1, k3_0_6, x3_2, x4_3 =>
    bif (decide (x4_3 < (List.length x0_1 : Int))) then
      bif (inB x4_3 (List.length x0_1)) then
        laws_toPair N (List.getD x0_1 (Int.toNat x4_3) zQIIE) (fun (r20_5 : QIIE) =>
          bif (inB x4_3 (List.length x3_2)) then
            (laws_toPairS_l3 N x0_1 n_4 k3_0_6) (List.set x3_2 (Int.toNat x4_3) r20_5) (IntKind.wrap .i64 (x4_3 + (1 : Int)))
          else none)
      else none
    else
      k3_0_6 x3_2
noncomputable def laws_toPairS (N : Nat) (a0 : (List QIIE)) (kf : (List QIIE) → Option Ret) : Option Ret :=
  bif (decide ((List.length a0 : Int) = (List.length a0 : Int)) && decide ((0 : Int) ≤ (List.length a0 : Int)) && decide ((List.length a0 : Int) ≤ 1099511627776)) then
    laws_toPairS_l3 N a0 N kf (List.replicate (Int.toNat (List.length a0 : Int)) ((0 : Int), (0 : Int))) (0 : Int)
  else none
noncomputable def laws_toBallot (N : Nat) (a0 : QIIIE) (kf : QIIIE → Option Ret) : Option Ret :=
  kf (a0.1, (a0.2.1, a0.2.2))
noncomputable def laws_toBallotS_l3 (N : Nat) (x0_1 : (List QIIIE)) : Nat → ((List QIIIE) → Option Ret) → (List QIIIE) → Int → Option Ret
  | 0, _, _, _ => none
  | n_4 + 1, k3_0_6, x3_2, x4_3 =>
    bif (decide (x4_3 < (List.length x0_1 : Int))) then
      bif (inB x4_3 (List.length x0_1)) then
        laws_toBallot N (List.getD x0_1 (Int.toNat x4_3) zQIIIE) (fun (r20_5 : QIIIE) =>
          bif (inB x4_3 (List.length x3_2)) then
            (laws_toBallotS_l3 N x0_1 n_4 k3_0_6) (List.set x3_2 (Int.toNat x4_3) r20_5) (IntKind.wrap .i64 (x4_3 + (1 : Int)))
          else none)
      else none
    else
      k3_0_6 x3_2
noncomputable def laws_toBallotS (N : Nat) (a0 : (List QIIIE)) (kf : (List QIIIE) → Option Ret) : Option Ret :=
  bif (decide ((List.length a0 : Int) = (List.length a0 : Int)) && decide ((0 : Int) ≤ (List.length a0 : Int)) && decide ((List.length a0 : Int) ≤ 1099511627776)) then
    laws_toBallotS_l3 N a0 N kf (List.replicate (Int.toNat (List.length a0 : Int)) ((0 : Int), ((0 : Int), (0 : Int)))) (0 : Int)
  else none
noncomputable def laws_toLine (N : Nat) (a0 : QIIIIE) (kf : QIIIIE → Option Ret) : Option Ret :=
  kf (a0.1, (a0.2.1, (a0.2.2.1, a0.2.2.2)))
noncomputable def laws_toLineS_l3 (N : Nat) (x0_1 : (List QIIIIE)) : Nat → ((List QIIIIE) → Option Ret) → (List QIIIIE) → Int → Option Ret
  | 0, _, _, _ => none
  | n_4 + 1, k3_0_6, x3_2, x4_3 =>
    bif (decide (x4_3 < (List.length x0_1 : Int))) then
      bif (inB x4_3 (List.length x0_1)) then
        laws_toLine N (List.getD x0_1 (Int.toNat x4_3) zQIIIIE) (fun (r20_5 : QIIIIE) =>
          bif (inB x4_3 (List.length x3_2)) then
            (laws_toLineS_l3 N x0_1 n_4 k3_0_6) (List.set x3_2 (Int.toNat x4_3) r20_5) (IntKind.wrap .i64 (x4_3 + (1 : Int)))
          else none)
      else none
    else
      k3_0_6 x3_2
noncomputable def laws_toLineS (N : Nat) (a0 : (List QIIIIE)) (kf : (List QIIIIE) → Option Ret) : Option Ret :=
  bif (decide ((List.length a0 : Int) = (List.length a0 : Int)) && decide ((0 : Int) ≤ (List.length a0 : Int)) && decide ((List.length a0 : Int) ≤ 1099511627776)) then
    laws_toLineS_l3 N a0 N kf (List.replicate (Int.toNat (List.length a0 : Int)) ((0 : Int), ((0 : Int), ((0 : Int), (0 : Int))))) (0 : Int)
  else none
noncomputable def laws_toClub (N : Nat) (a0 : QLQIIIIILIELQIILIELQIIELILQIIIELQIIIIEIE) (kf : QLQIIIIILIELQIILIELQIIELILQIIIELQIIIIEIE → Option Ret) : Option Ret :=
  laws_toTeamS N a0.1 (fun (r6_1 : (List QIIIIILIE)) =>
    laws_toJudgeS N a0.2.1 (fun (r10_2 : (List QIILIE)) =>
      laws_toPairS N a0.2.2.1 (fun (r14_3 : (List QIIE)) =>
        laws_toIntS N a0.2.2.2.1 (fun (r18_4 : (List Int)) =>
          laws_toBallotS N a0.2.2.2.2.1 (fun (r22_5 : (List QIIIE)) =>
            laws_toLineS N a0.2.2.2.2.2.1 (fun (r26_6 : (List QIIIIE)) =>
              kf (r6_1, (r10_2, (r14_3, (r18_4, (r22_5, (r26_6, a0.2.2.2.2.2.2))))))))))))
noncomputable def laws_eqIntS_l4 (x0_1 : (List Int)) (x1_2 : (List Int)) : Nat → (Option Ret) → (Bool → Option Ret) → Int → Option Ret
  | 0, _, _, _ => none
  | n_4 + 1, k4_0_5, k4_1_6, x5_3 =>
    bif (decide (x5_3 < (List.length x0_1 : Int))) then
      bif (inB x5_3 (List.length x0_1)) then
        bif (inB x5_3 (List.length x1_2)) then
          bif ((List.getD x0_1 (Int.toNat x5_3) (0 : Int)) != (List.getD x1_2 (Int.toNat x5_3) (0 : Int))) then
            k4_1_6 false
          else
            (laws_eqIntS_l4 x0_1 x1_2 n_4 k4_0_5 k4_1_6) (IntKind.wrap .i64 (x5_3 + (1 : Int)))
        else none
      else none
    else
      k4_0_5
noncomputable def laws_eqIntS (N : Nat) (a0 : (List Int)) (a1 : (List Int)) (kf : Bool → Option Ret) : Option Ret :=
  bif ((List.length a0 : Int) != (List.length a1 : Int)) then
    kf false
  else
    laws_eqIntS_l4 a0 a1 N (kf true) kf (0 : Int)
noncomputable def laws_eqTeam (N : Nat) (a0 : QIIIIILIE) (a1 : QIIIIILIE) (kf : Bool → Option Ret) : Option Ret :=
  bif (a0.1 != a1.1) then
    kf false
  else
    bif (a0.2.1 != a1.2.1) then
      kf false
    else
      bif (a0.2.2.1 != a1.2.2.1) then
        kf false
      else
        bif (a0.2.2.2.1 != a1.2.2.2.1) then
          kf false
        else
          bif (a0.2.2.2.2.1 != a1.2.2.2.2.1) then
            kf false
          else
            laws_eqIntS N a0.2.2.2.2.2 a1.2.2.2.2.2 (fun (r34_1 : Bool) =>
              bif (!r34_1) then
                kf false
              else
                kf true)
noncomputable def laws_eqTeamS_l4 (N : Nat) (x0_1 : (List QIIIIILIE)) (x1_2 : (List QIIIIILIE)) : Nat → (Option Ret) → (Bool → Option Ret) → Int → Option Ret
  | 0, _, _, _ => none
  | n_4 + 1, k4_0_6, k4_1_7, x5_3 =>
    bif (decide (x5_3 < (List.length x0_1 : Int))) then
      bif (inB x5_3 (List.length x0_1)) then
        bif (inB x5_3 (List.length x1_2)) then
          laws_eqTeam N (List.getD x0_1 (Int.toNat x5_3) zQIIIIILIE) (List.getD x1_2 (Int.toNat x5_3) zQIIIIILIE) (fun (r25_5 : Bool) =>
            bif (!r25_5) then
              k4_1_7 false
            else
              (laws_eqTeamS_l4 N x0_1 x1_2 n_4 k4_0_6 k4_1_7) (IntKind.wrap .i64 (x5_3 + (1 : Int))))
        else none
      else none
    else
      k4_0_6
noncomputable def laws_eqTeamS (N : Nat) (a0 : (List QIIIIILIE)) (a1 : (List QIIIIILIE)) (kf : Bool → Option Ret) : Option Ret :=
  bif ((List.length a0 : Int) != (List.length a1 : Int)) then
    kf false
  else
    laws_eqTeamS_l4 N a0 a1 N (kf true) kf (0 : Int)
noncomputable def laws_eqJudge (N : Nat) (a0 : QIILIE) (a1 : QIILIE) (kf : Bool → Option Ret) : Option Ret :=
  bif (a0.1 != a1.1) then
    kf false
  else
    bif (a0.2.1 != a1.2.1) then
      kf false
    else
      laws_eqIntS N a0.2.2 a1.2.2 (fun (r19_1 : Bool) =>
        bif (!r19_1) then
          kf false
        else
          kf true)
noncomputable def laws_eqJudgeS_l4 (N : Nat) (x0_1 : (List QIILIE)) (x1_2 : (List QIILIE)) : Nat → (Option Ret) → (Bool → Option Ret) → Int → Option Ret
  | 0, _, _, _ => none
  | n_4 + 1, k4_0_6, k4_1_7, x5_3 =>
    bif (decide (x5_3 < (List.length x0_1 : Int))) then
      bif (inB x5_3 (List.length x0_1)) then
        bif (inB x5_3 (List.length x1_2)) then
          laws_eqJudge N (List.getD x0_1 (Int.toNat x5_3) zQIILIE) (List.getD x1_2 (Int.toNat x5_3) zQIILIE) (fun (r25_5 : Bool) =>
            bif (!r25_5) then
              k4_1_7 false
            else
              (laws_eqJudgeS_l4 N x0_1 x1_2 n_4 k4_0_6 k4_1_7) (IntKind.wrap .i64 (x5_3 + (1 : Int))))
        else none
      else none
    else
      k4_0_6
noncomputable def laws_eqJudgeS (N : Nat) (a0 : (List QIILIE)) (a1 : (List QIILIE)) (kf : Bool → Option Ret) : Option Ret :=
  bif ((List.length a0 : Int) != (List.length a1 : Int)) then
    kf false
  else
    laws_eqJudgeS_l4 N a0 a1 N (kf true) kf (0 : Int)
noncomputable def laws_eqPair (N : Nat) (a0 : QIIE) (a1 : QIIE) (kf : Bool → Option Ret) : Option Ret :=
  bif (a0.1 != a1.1) then
    kf false
  else
    bif (a0.2 != a1.2) then
      kf false
    else
      kf true
noncomputable def laws_eqPairS_l4 (N : Nat) (x0_1 : (List QIIE)) (x1_2 : (List QIIE)) : Nat → (Option Ret) → (Bool → Option Ret) → Int → Option Ret
  | 0, _, _, _ => none
  | n_4 + 1, k4_0_6, k4_1_7, x5_3 =>
    bif (decide (x5_3 < (List.length x0_1 : Int))) then
      bif (inB x5_3 (List.length x0_1)) then
        bif (inB x5_3 (List.length x1_2)) then
          laws_eqPair N (List.getD x0_1 (Int.toNat x5_3) zQIIE) (List.getD x1_2 (Int.toNat x5_3) zQIIE) (fun (r25_5 : Bool) =>
            bif (!r25_5) then
              k4_1_7 false
            else
              (laws_eqPairS_l4 N x0_1 x1_2 n_4 k4_0_6 k4_1_7) (IntKind.wrap .i64 (x5_3 + (1 : Int))))
        else none
      else none
    else
      k4_0_6
noncomputable def laws_eqPairS (N : Nat) (a0 : (List QIIE)) (a1 : (List QIIE)) (kf : Bool → Option Ret) : Option Ret :=
  bif ((List.length a0 : Int) != (List.length a1 : Int)) then
    kf false
  else
    laws_eqPairS_l4 N a0 a1 N (kf true) kf (0 : Int)
noncomputable def laws_eqBallot (N : Nat) (a0 : QIIIE) (a1 : QIIIE) (kf : Bool → Option Ret) : Option Ret :=
  bif (a0.1 != a1.1) then
    kf false
  else
    bif (a0.2.1 != a1.2.1) then
      kf false
    else
      bif (a0.2.2 != a1.2.2) then
        kf false
      else
        kf true
noncomputable def laws_eqBallotS_l4 (N : Nat) (x0_1 : (List QIIIE)) (x1_2 : (List QIIIE)) : Nat → (Option Ret) → (Bool → Option Ret) → Int → Option Ret
  | 0, _, _, _ => none
  | n_4 + 1, k4_0_6, k4_1_7, x5_3 =>
    bif (decide (x5_3 < (List.length x0_1 : Int))) then
      bif (inB x5_3 (List.length x0_1)) then
        bif (inB x5_3 (List.length x1_2)) then
          laws_eqBallot N (List.getD x0_1 (Int.toNat x5_3) zQIIIE) (List.getD x1_2 (Int.toNat x5_3) zQIIIE) (fun (r25_5 : Bool) =>
            bif (!r25_5) then
              k4_1_7 false
            else
              (laws_eqBallotS_l4 N x0_1 x1_2 n_4 k4_0_6 k4_1_7) (IntKind.wrap .i64 (x5_3 + (1 : Int))))
        else none
      else none
    else
      k4_0_6
noncomputable def laws_eqBallotS (N : Nat) (a0 : (List QIIIE)) (a1 : (List QIIIE)) (kf : Bool → Option Ret) : Option Ret :=
  bif ((List.length a0 : Int) != (List.length a1 : Int)) then
    kf false
  else
    laws_eqBallotS_l4 N a0 a1 N (kf true) kf (0 : Int)
noncomputable def laws_eqLine (N : Nat) (a0 : QIIIIE) (a1 : QIIIIE) (kf : Bool → Option Ret) : Option Ret :=
  bif (a0.1 != a1.1) then
    kf false
  else
    bif (a0.2.1 != a1.2.1) then
      kf false
    else
      bif (a0.2.2.1 != a1.2.2.1) then
        kf false
      else
        bif (a0.2.2.2 != a1.2.2.2) then
          kf false
        else
          kf true
noncomputable def laws_eqLineS_l4 (N : Nat) (x0_1 : (List QIIIIE)) (x1_2 : (List QIIIIE)) : Nat → (Option Ret) → (Bool → Option Ret) → Int → Option Ret
  | 0, _, _, _ => none
  | n_4 + 1, k4_0_6, k4_1_7, x5_3 =>
    bif (decide (x5_3 < (List.length x0_1 : Int))) then
      bif (inB x5_3 (List.length x0_1)) then
        bif (inB x5_3 (List.length x1_2)) then
          laws_eqLine N (List.getD x0_1 (Int.toNat x5_3) zQIIIIE) (List.getD x1_2 (Int.toNat x5_3) zQIIIIE) (fun (r25_5 : Bool) =>
            bif (!r25_5) then
              k4_1_7 false
            else
              (laws_eqLineS_l4 N x0_1 x1_2 n_4 k4_0_6 k4_1_7) (IntKind.wrap .i64 (x5_3 + (1 : Int))))
        else none
      else none
    else
      k4_0_6
noncomputable def laws_eqLineS (N : Nat) (a0 : (List QIIIIE)) (a1 : (List QIIIIE)) (kf : Bool → Option Ret) : Option Ret :=
  bif ((List.length a0 : Int) != (List.length a1 : Int)) then
    kf false
  else
    laws_eqLineS_l4 N a0 a1 N (kf true) kf (0 : Int)
noncomputable def laws_eqClub (N : Nat) (a0 : QLQIIIIILIELQIILIELQIIELILQIIIELQIIIIEIE) (a1 : QLQIIIIILIELQIILIELQIIELILQIIIELQIIIIEIE) (kf : Bool → Option Ret) : Option Ret :=
  laws_eqTeamS N a0.1 a1.1 (fun (r9_1 : Bool) =>
    bif (!r9_1) then
      kf false
    else
      laws_eqJudgeS N a0.2.1 a1.2.1 (fun (r15_2 : Bool) =>
        bif (!r15_2) then
          kf false
        else
          laws_eqPairS N a0.2.2.1 a1.2.2.1 (fun (r21_3 : Bool) =>
            bif (!r21_3) then
              kf false
            else
              laws_eqIntS N a0.2.2.2.1 a1.2.2.2.1 (fun (r27_4 : Bool) =>
                bif (!r27_4) then
                  kf false
                else
                  laws_eqBallotS N a0.2.2.2.2.1 a1.2.2.2.2.1 (fun (r33_5 : Bool) =>
                    bif (!r33_5) then
                      kf false
                    else
                      laws_eqLineS N a0.2.2.2.2.2.1 a1.2.2.2.2.2.1 (fun (r39_6 : Bool) =>
                        bif (!r39_6) then
                          kf false
                        else
                          bif (a0.2.2.2.2.2.2 != a1.2.2.2.2.2.2) then
                            kf false
                          else
                            kf true))))))
noncomputable def impl_times_l3 (x1_1 : Int) (x8_3 : (List Int)) (x9_4 : Int) : Nat → (Int → Option Ret) → Int → Int → Option Ret
  | 0, _, _, _ => none
  | n_6 + 1, k3_0_8, x5_2, x10_5 =>
    bif (decide (x10_5 < x9_4)) then
      bif (inB x10_5 (List.length x8_3)) then
        bif ((List.getD x8_3 (Int.toNat x10_5) (0 : Int)) == x1_1) then
          (impl_times_l3 x1_1 x8_3 x9_4 n_6 k3_0_8) (IntKind.wrap .i64 (x5_2 + (1 : Int))) (IntKind.wrap .i64 (x10_5 + (1 : Int)))
        else
          (impl_times_l3 x1_1 x8_3 x9_4 n_6 k3_0_8) x5_2 (IntKind.wrap .i64 (x10_5 + (1 : Int)))
      else none
    else
      k3_0_8 x5_2
noncomputable def impl_times (N : Nat) (a0 : (List Int)) (a1 : Int) (kf : Int → Option Ret) : Option Ret :=
  impl_times_l3 a1 a0 (List.length a0 : Int) N kf (0 : Int) (0 : Int)
noncomputable def spec_FindTeam_l2 (x0_1 : (List QIIIIILIE)) (x1_2 : Int) : Nat → (Option Ret) → (Int → Option Ret) → Int → Option Ret
  | 0, _, _, _ => none
  | n_4 + 1, k2_0_5, k2_1_6, x5_3 =>
    bif (decide (x5_3 < (List.length x0_1 : Int))) then
      bif (inB x5_3 (List.length x0_1)) then
        bif ((List.getD x0_1 (Int.toNat x5_3) zQIIIIILIE).1 == x1_2) then
          k2_1_6 x5_3
        else
          (spec_FindTeam_l2 x0_1 x1_2 n_4 k2_0_5 k2_1_6) (IntKind.wrap .i64 (x5_3 + (1 : Int)))
      else none
    else
      k2_0_5
noncomputable def spec_FindTeam (N : Nat) (a0 : (List QIIIIILIE)) (a1 : Int) (kf : Int → Option Ret) : Option Ret :=
  spec_FindTeam_l2 a0 a1 N (kf (-1 : Int)) kf (0 : Int)
noncomputable def impl_FindTeam_1 (N : Nat) (a0 : QIIIIILIE) (a1 : Int) (kf : Bool → Option Ret) : Option Ret :=
  kf (a0.1 == a1)
noncomputable def slices_IndexFunc_Team_impl_FindTeam_1_l2 (N : Nat) (x0_1 : (List QIIIIILIE)) (x1_2 : Int) (x7_3 : Int) : Nat → (Option Ret) → (Int → Option Ret) → Int → Option Ret
  | 0, _, _, _ => none
  | n_5 + 1, k2_0_7, k2_1_8, x8_4 =>
    bif (decide (x8_4 < x7_3)) then
      bif (inB x8_4 (List.length x0_1)) then
        impl_FindTeam_1 N (List.getD x0_1 (Int.toNat x8_4) zQIIIIILIE) x1_2 (fun (r16_6 : Bool) =>
          bif r16_6 then
            k2_1_8 x8_4
          else
            (slices_IndexFunc_Team_impl_FindTeam_1_l2 N x0_1 x1_2 x7_3 n_5 k2_0_7 k2_1_8) (IntKind.wrap .i64 (x8_4 + (1 : Int))))
      else none
    else
      k2_0_7
noncomputable def slices_IndexFunc_Team_impl_FindTeam_1 (N : Nat) (a0 : (List QIIIIILIE)) (a1_0 : Int) (kf : Int → Option Ret) : Option Ret :=
  slices_IndexFunc_Team_impl_FindTeam_1_l2 N a0 a1_0 (List.length a0 : Int) N (kf (-1 : Int)) kf (0 : Int)
noncomputable def impl_FindTeam (N : Nat) (a0 : (List QIIIIILIE)) (a1 : Int) (kf : Int → Option Ret) : Option Ret :=
  slices_IndexFunc_Team_impl_FindTeam_1 N a0 a1 kf
noncomputable def spec_l1In (N : Nat) (a0 : Int) (a1 : Int) (a2 : Int) (kf : Bool → Option Ret) : Option Ret :=
  bif (decide (a0 ≥ a1)) then
    kf (decide (a0 ≤ a2))
  else
    kf false
noncomputable def spec_l19Count_l3 (x0_1 : (List Int)) (x1_2 : Int) : Nat → (Int → Option Ret) → Int → Int → Option Ret
  | 0, _, _, _ => none
  | n_5 + 1, k3_0_7, x5_3, x6_4 =>
    bif (decide (x6_4 < (List.length x0_1 : Int))) then
      bif (inB x6_4 (List.length x0_1)) then
        bif ((List.getD x0_1 (Int.toNat x6_4) (0 : Int)) == x1_2) then
          (spec_l19Count_l3 x0_1 x1_2 n_5 k3_0_7) (IntKind.wrap .i64 (x5_3 + (1 : Int))) (IntKind.wrap .i64 (x6_4 + (1 : Int)))
        else
          (spec_l19Count_l3 x0_1 x1_2 n_5 k3_0_7) x5_3 (IntKind.wrap .i64 (x6_4 + (1 : Int)))
      else none
    else
      k3_0_7 x5_3
noncomputable def spec_l19Count (N : Nat) (a0 : (List Int)) (a1 : Int) (kf : Int → Option Ret) : Option Ret :=
  spec_l19Count_l3 a0 a1 N kf (0 : Int) (0 : Int)
noncomputable def spec_AreTeams_l8 (N : Nat) (x0_9 : (List QIIIIILIE)) (x3_10 : Int) (x4_11 : QIIIIILIE) : Nat → (Option Ret) → (Bool → Option Ret) → Int → Option Ret
  | 0, _, _, _ => none
  | n_13 + 1, k8_0_17, k8_1_18, x5_12 =>
    bif (decide (x5_12 < (List.length x4_11.2.2.2.2.2 : Int))) then
      bif (inB x5_12 (List.length x4_11.2.2.2.2.2)) then
        spec_FindTeam N x0_9 (List.getD x4_11.2.2.2.2.2 (Int.toNat x5_12) (0 : Int)) (fun (r85_14 : Int) =>
          bif (decide (r85_14 < (0 : Int))) then
            k8_1_18 false
          else
            bif (r85_14 == x3_10) then
              k8_1_18 false
            else
              bif (inB r85_14 (List.length x0_9)) then
                bif (inB r85_14 (List.length x0_9)) then
                  spec_l19Count N (List.getD x0_9 (Int.toNat r85_14) zQIIIIILIE).2.2.2.2.2 x4_11.1 (fun (r101_15 : Int) =>
                    spec_l19Count N x4_11.2.2.2.2.2 (List.getD x0_9 (Int.toNat r85_14) zQIIIIILIE).1 (fun (r109_16 : Int) =>
                      bif (r101_15 != r109_16) then
                        k8_1_18 false
                      else
                        (spec_AreTeams_l8 N x0_9 x3_10 x4_11 n_13 k8_0_17 k8_1_18) (IntKind.wrap .i64 (x5_12 + (1 : Int)))))
                else none
              else none)
      else none
    else
      k8_0_17
noncomputable def spec_AreTeams_l2 (N : Nat) (x0_1 : (List QIIIIILIE)) : Nat → (Option Ret) → (Bool → Option Ret) → Int → Option Ret
  | 0, _, _, _ => none
  | n_3 + 1, k2_0_21, k2_1_22, x3_2 =>
    bif (decide (x3_2 < (List.length x0_1 : Int))) then
      bif (inB x3_2 (List.length x0_1)) then
        spec_l1In N (List.getD x0_1 (Int.toNat x3_2) zQIIIIILIE).1 (1 : Int) (99 : Int) (fun (r19_4 : Bool) =>
          bif (!r19_4) then
            k2_1_22 false
          else
            spec_l1In N (List.getD x0_1 (Int.toNat x3_2) zQIIIIILIE).2.1 (1 : Int) (99 : Int) (fun (r24_5 : Bool) =>
              bif (!r24_5) then
                k2_1_22 false
              else
                spec_l1In N (List.getD x0_1 (Int.toNat x3_2) zQIIIIILIE).2.2.1 (0 : Int) (List.length (List.getD x0_1 (Int.toNat x3_2) zQIIIIILIE).2.2.2.2.2 : Int) (fun (r33_6 : Bool) =>
                  bif (!r33_6) then
                    k2_1_22 false
                  else
                    spec_l1In N (List.getD x0_1 (Int.toNat x3_2) zQIIIIILIE).2.2.2.2.1 (0 : Int) (List.length (List.getD x0_1 (Int.toNat x3_2) zQIIIIILIE).2.2.2.2.2 : Int) (fun (r42_7 : Bool) =>
                      bif (!r42_7) then
                        k2_1_22 false
                      else
                        spec_l1In N (List.getD x0_1 (Int.toNat x3_2) zQIIIIILIE).2.2.2.1 (0 : Int) (100000 : Int) (fun (r48_8 : Bool) =>
                          bif (!r48_8) then
                            k2_1_22 false
                          else
                            bif (decide ((List.length (List.getD x0_1 (Int.toNat x3_2) zQIIIIILIE).2.2.2.2.2 : Int) > (20 : Int))) then
                              k2_1_22 false
                            else
                              bif (decide (x3_2 > (0 : Int))) then
                                bif (inB (IntKind.wrap .i64 (x3_2 - (1 : Int))) (List.length x0_1)) then
                                  bif (decide ((List.getD x0_1 (Int.toNat (IntKind.wrap .i64 (x3_2 - (1 : Int)))) zQIIIIILIE).1 ≥ (List.getD x0_1 (Int.toNat x3_2) zQIIIIILIE).1)) then
                                    k2_1_22 false
                                  else
                                    spec_AreTeams_l8 N x0_1 x3_2 (List.getD x0_1 (Int.toNat x3_2) zQIIIIILIE) N ((spec_AreTeams_l2 N x0_1 n_3 k2_0_21 k2_1_22) (IntKind.wrap .i64 (x3_2 + (1 : Int)))) k2_1_22 (0 : Int)
                                else none
                              else
                                spec_AreTeams_l8 N x0_1 x3_2 (List.getD x0_1 (Int.toNat x3_2) zQIIIIILIE) N ((spec_AreTeams_l2 N x0_1 n_3 k2_0_21 k2_1_22) (IntKind.wrap .i64 (x3_2 + (1 : Int)))) k2_1_22 (0 : Int))))))
      else none
    else
      k2_0_21
noncomputable def spec_AreTeams (N : Nat) (a0 : (List QIIIIILIE)) (kf : Bool → Option Ret) : Option Ret :=
  spec_AreTeams_l2 N a0 N (kf (decide ((List.length a0 : Int) ≤ (10 : Int)))) kf (0 : Int)
noncomputable def spec_IsZeroSum_l5 (N : Nat) (x1_1 : QLQIIIIILIELQIILIELQIIELILQIIIELQIIIIEIE) : Nat → (Int → Int → Int → Option Ret) → Int → Int → Int → Int → Option Ret
  | 0, _, _, _, _, _ => none
  | n_6 + 1, k5_0_8, x3_2, x4_3, x5_4, x6_5 =>
    bif (decide (x6_5 < (List.length x1_1.1 : Int))) then
      spec_AreTeams N x1_1.1 (fun (r15_7 : Bool) =>
        bif r15_7 then
          bif (inB x6_5 (List.length x1_1.1)) then
            bif (inB x6_5 (List.length x1_1.1)) then
              bif (inB x6_5 (List.length x1_1.1)) then
                (spec_IsZeroSum_l5 N x1_1 n_6 k5_0_8) (IntKind.wrap .i64 (x3_2 + (List.length (List.getD x1_1.1 (Int.toNat x6_5) zQIIIIILIE).2.2.2.2.2 : Int))) (IntKind.wrap .i64 (x4_3 + (List.getD x1_1.1 (Int.toNat x6_5) zQIIIIILIE).2.2.1)) (IntKind.wrap .i64 (x5_4 + (List.getD x1_1.1 (Int.toNat x6_5) zQIIIIILIE).2.2.2.2.1)) (IntKind.wrap .i64 (x6_5 + (1 : Int)))
              else none
            else none
          else none
        else
          k5_0_8 x3_2 x4_3 x5_4)
    else
      k5_0_8 x3_2 x4_3 x5_4
noncomputable def spec_IsZeroSum (N : Nat) (a0 : QLQIIIIILIELQIILIELQIIELILQIIIELQIIIIEIE) (kf : Bool → Option Ret) : Option Ret :=
  spec_IsZeroSum_l5 N a0 N (fun (z3_10 : Int) (z4_11 : Int) (z5_12 : Int) =>
    spec_AreTeams N a0.1 (fun (r46_13 : Bool) =>
      bif r46_13 then
        bif ((IntKind.wrap .i64 ((2 : Int) * z4_11)) == z3_10) then
          kf ((IntKind.wrap .i64 ((2 : Int) * z5_12)) == z3_10)
        else
          kf false
      else
        kf false)) (0 : Int) (0 : Int) (0 : Int) (0 : Int)
noncomputable def impl_InRange (N : Nat) (a0 : Int) (a1 : Int) (a2 : Int) (kf : Bool → Option Ret) : Option Ret :=
  bif (decide (a1 ≤ a0)) then
    kf (decide (a0 ≤ a2))
  else
    kf false
noncomputable def impl_AreTeams_l10 (N : Nat) (x0_16 : (List QIIIIILIE)) (x4_17 : QIIIIILIE) (x12_18 : (List QIIIIILIE)) (x13_19 : Int) (x14_20 : Int) (x72_21 : (List Int)) (x73_22 : Int) : Nat → (Option Ret) → (Bool → Option Ret) → Int → Option Ret
  | 0, _, _, _ => none
  | n_24 + 1, k10_0_28, k10_1_29, x74_23 =>
    bif (decide (x74_23 < x73_22)) then
      bif (inB x74_23 (List.length x72_21)) then
        impl_FindTeam N x0_16 (List.getD x72_21 (Int.toNat x74_23) (0 : Int)) (fun (r80_25 : Int) =>
          bif (decide (r80_25 < (0 : Int))) then
            k10_1_29 false
          else
            bif ((List.getD x72_21 (Int.toNat x74_23) (0 : Int)) == x4_17.1) then
              k10_1_29 false
            else
              bif (inB r80_25 (List.length x0_16)) then
                impl_times N x4_17.2.2.2.2.2 (List.getD x72_21 (Int.toNat x74_23) (0 : Int)) (fun (r93_26 : Int) =>
                  impl_times N (List.getD x0_16 (Int.toNat r80_25) zQIIIIILIE).2.2.2.2.2 x4_17.1 (fun (r101_27 : Int) =>
                    bif (r93_26 != r101_27) then
                      k10_1_29 false
                    else
                      (impl_AreTeams_l10 N x0_16 x4_17 x12_18 x13_19 x14_20 x72_21 x73_22 n_24 k10_0_28 k10_1_29) (IntKind.wrap .i64 (x74_23 + (1 : Int)))))
              else none)
      else none
    else
      k10_0_28
noncomputable def impl_AreTeams_j1 (N : Nat) (k4_1_33 : Bool → Option Ret) (rc4_34 : Int → Option Ret) (x0_1 : (List QIIIIILIE)) (x12_2 : (List QIIIIILIE)) (x13_3 : Int) (x14_4 : Int) : Option Ret :=
  impl_AreTeams_l10 N x0_1 (List.getD x12_2 (Int.toNat x14_4) zQIIIIILIE) x12_2 x13_3 x14_4 (List.getD x12_2 (Int.toNat x14_4) zQIIIIILIE).2.2.2.2.2 (List.length (List.getD x12_2 (Int.toNat x14_4) zQIIIIILIE).2.2.2.2.2 : Int) N (rc4_34 (IntKind.wrap .i64 (x14_4 + (1 : Int)))) k4_1_33 (0 : Int)
noncomputable def impl_AreTeams_l4 (N : Nat) (x0_1 : (List QIIIIILIE)) (x12_2 : (List QIIIIILIE)) (x13_3 : Int) : Nat → (Option Ret) → (Bool → Option Ret) → Int → Option Ret
  | 0, _, _, _ => none
  | n_5 + 1, k4_0_32, k4_1_33, x14_4 =>
    bif (decide (x14_4 < x13_3)) then
      bif (inB x14_4 (List.length x12_2)) then
        impl_InRange N (List.getD x12_2 (Int.toNat x14_4) zQIIIIILIE).1 (1 : Int) (99 : Int) (fun (r24_6 : Bool) =>
          bif (!r24_6) then
            k4_1_33 false
          else
            bif (decide (x14_4 > (0 : Int))) then
              bif (inB (IntKind.wrap .i64 (x14_4 - (1 : Int))) (List.length x0_1)) then
                bif (decide ((List.getD x12_2 (Int.toNat x14_4) zQIIIIILIE).1 ≤ (List.getD x0_1 (Int.toNat (IntKind.wrap .i64 (x14_4 - (1 : Int)))) zQIIIIILIE).1)) then
                  k4_1_33 false
                else
                  impl_InRange N (List.getD x12_2 (Int.toNat x14_4) zQIIIIILIE).2.1 (1 : Int) (99 : Int) (fun (r44_7 : Bool) =>
                    bif (!r44_7) then
                      k4_1_33 false
                    else
                      bif (decide ((List.length (List.getD x12_2 (Int.toNat x14_4) zQIIIIILIE).2.2.2.2.2 : Int) > (20 : Int))) then
                        k4_1_33 false
                      else
                        impl_InRange N (List.getD x12_2 (Int.toNat x14_4) zQIIIIILIE).2.2.1 (0 : Int) (List.length (List.getD x12_2 (Int.toNat x14_4) zQIIIIILIE).2.2.2.2.2 : Int) (fun (r55_8 : Bool) =>
                          bif (!r55_8) then
                            k4_1_33 false
                          else
                            impl_InRange N (List.getD x12_2 (Int.toNat x14_4) zQIIIIILIE).2.2.2.2.1 (0 : Int) (List.length (List.getD x12_2 (Int.toNat x14_4) zQIIIIILIE).2.2.2.2.2 : Int) (fun (r62_9 : Bool) =>
                              bif (!r62_9) then
                                k4_1_33 false
                              else
                                impl_InRange N (List.getD x12_2 (Int.toNat x14_4) zQIIIIILIE).2.2.2.1 (0 : Int) (100000 : Int) (fun (r68_10 : Bool) =>
                                  bif (!r68_10) then
                                    k4_1_33 false
                                  else
                                    impl_AreTeams_j1 N k4_1_33 (impl_AreTeams_l4 N x0_1 x12_2 x13_3 n_5 k4_0_32 k4_1_33) x0_1 x12_2 x13_3 x14_4))))
              else none
            else
              impl_InRange N (List.getD x12_2 (Int.toNat x14_4) zQIIIIILIE).2.1 (1 : Int) (99 : Int) (fun (r44_11 : Bool) =>
                bif (!r44_11) then
                  k4_1_33 false
                else
                  bif (decide ((List.length (List.getD x12_2 (Int.toNat x14_4) zQIIIIILIE).2.2.2.2.2 : Int) > (20 : Int))) then
                    k4_1_33 false
                  else
                    impl_InRange N (List.getD x12_2 (Int.toNat x14_4) zQIIIIILIE).2.2.1 (0 : Int) (List.length (List.getD x12_2 (Int.toNat x14_4) zQIIIIILIE).2.2.2.2.2 : Int) (fun (r55_12 : Bool) =>
                      bif (!r55_12) then
                        k4_1_33 false
                      else
                        impl_InRange N (List.getD x12_2 (Int.toNat x14_4) zQIIIIILIE).2.2.2.2.1 (0 : Int) (List.length (List.getD x12_2 (Int.toNat x14_4) zQIIIIILIE).2.2.2.2.2 : Int) (fun (r62_13 : Bool) =>
                          bif (!r62_13) then
                            k4_1_33 false
                          else
                            impl_InRange N (List.getD x12_2 (Int.toNat x14_4) zQIIIIILIE).2.2.2.1 (0 : Int) (100000 : Int) (fun (r68_14 : Bool) =>
                              bif (!r68_14) then
                                k4_1_33 false
                              else
                                impl_AreTeams_j1 N k4_1_33 (impl_AreTeams_l4 N x0_1 x12_2 x13_3 n_5 k4_0_32 k4_1_33) x0_1 x12_2 x13_3 x14_4)))))
      else none
    else
      k4_0_32
noncomputable def impl_AreTeams (N : Nat) (a0 : (List QIIIIILIE)) (kf : Bool → Option Ret) : Option Ret :=
  bif (decide ((List.length a0 : Int) > (10 : Int))) then
    kf false
  else
    impl_AreTeams_l4 N a0 a0 (List.length a0 : Int) N (kf true) kf (0 : Int)
noncomputable def impl_IsZeroSum_l3 (x1_1 : QLQIIIIILIELQIILIELQIIELILQIIIELQIIIIEIE) (x9_5 : (List QIIIIILIE)) (x10_6 : Int) : Nat → (Int → Int → Int → Option Ret) → Int → Int → Int → Int → Option Ret
  | 0, _, _, _, _, _ => none
  | n_8 + 1, k3_0_9, x3_2, x4_3, x5_4, x11_7 =>
    bif (decide (x11_7 < x10_6)) then
      bif (inB x11_7 (List.length x9_5)) then
        (impl_IsZeroSum_l3 x1_1 x9_5 x10_6 n_8 k3_0_9) (IntKind.wrap .i64 (x3_2 + (List.getD x9_5 (Int.toNat x11_7) zQIIIIILIE).2.2.1)) (IntKind.wrap .i64 (x4_3 + (List.getD x9_5 (Int.toNat x11_7) zQIIIIILIE).2.2.2.2.1)) (IntKind.wrap .i64 (x5_4 + (List.length (List.getD x9_5 (Int.toNat x11_7) zQIIIIILIE).2.2.2.2.2 : Int))) (IntKind.wrap .i64 (x11_7 + (1 : Int)))
      else none
    else
      k3_0_9 x3_2 x4_3 x5_4
noncomputable def impl_IsZeroSum (N : Nat) (a0 : QLQIIIIILIELQIILIELQIIELILQIIIELQIIIIEIE) (kf : Bool → Option Ret) : Option Ret :=
  impl_IsZeroSum_l3 a0 a0.1 (List.length a0.1 : Int) N (fun (z3_11 : Int) (z4_12 : Int) (z5_13 : Int) =>
    impl_AreTeams N a0.1 (fun (r31_14 : Bool) =>
      bif r31_14 then
        bif ((IntKind.wrap .i64 ((2 : Int) * z3_11)) == z5_13) then
          kf ((IntKind.wrap .i64 ((2 : Int) * z4_12)) == z5_13)
        else
          kf false
      else
        kf false)) (0 : Int) (0 : Int) (0 : Int) (0 : Int)
noncomputable def laws_FnExactIsZeroSum (N : Nat) (a0 : QLQIIIIILIELQIILIELQIIELILQIIIELQIIIIEIE) (kf : Bool → Option Ret) : Option Ret :=
  laws_szClub N a0 (1048576 : Int) (fun (r9_1 : Int) =>
    bif (decide (r9_1 < (0 : Int))) then
      kf true
    else
      laws_toClub N a0 (fun (r13_2 : QLQIIIIILIELQIILIELQIIELILQIIIELQIIIIEIE) =>
        spec_IsZeroSum N r13_2 (fun (r14_3 : Bool) =>
          laws_toClub N a0 (fun (r16_4 : QLQIIIIILIELQIILIELQIIELILQIIIELQIIIIEIE) =>
            impl_IsZeroSum N r16_4 (fun (r18_5 : Bool) =>
              bif (!(r18_5 == r14_3)) then
                kf false
              else
                laws_toClub N a0 (fun (r24_6 : QLQIIIIILIELQIILIELQIIELILQIIIELQIIIIEIE) =>
                  laws_eqClub N r16_4 r24_6 (fun (r25_7 : Bool) =>
                    bif (!r25_7) then
                      kf false
                    else
                      kf true)))))))
end Go.Pv.R
