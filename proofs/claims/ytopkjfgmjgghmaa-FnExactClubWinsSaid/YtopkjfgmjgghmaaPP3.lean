/- The law over the plain functions, part P3. -/
import Derived.Test.YtopkjfgmjgghmaaPP2
namespace Go.Pv.R
set_option linter.unusedVariables false
set_option linter.unusedSimpArgs false

theorem tmod_both (a : Int) : (a.tmod 2147483647 = a % 2147483647 ∧ 0 ≤ a) ∨ (a.tmod 2147483647 = -((-a) % 2147483647) ∧ a < 0) := by
  rcases Int.lt_or_le a 0 with h | h
  · right
    refine ⟨?_, h⟩
    have h1 : (-a).tmod 2147483647 = (-a) % 2147483647 := Int.tmod_eq_emod_of_nonneg (by omega)
    rw [Int.neg_tmod] at h1
    omega
  · exact .inl ⟨Int.tmod_eq_emod_of_nonneg h, h⟩
theorem spec_Mod_ok {N : Nat} {a : Int} {kf : Int → Option Ret} : spec_Mod N a 2147483647 kf = kf (a % 2147483647) := by
  unfold spec_Mod
  rw [spec_l1In_ok, show inR 2147483647 1 1000000000000 = true from by decide]
  have e : (decide ((2147483647 : Int) = 0)) = false := by decide
  simp only [Bool.not_true, cond_false, e, Bool.not_false, cond_true]
  congr 1
  rcases tmod_both a with ⟨h, h'⟩ | ⟨h, h'⟩ <;> rw [h, wrap64 (by omega) (by omega), Int.tmod_eq_emod_of_nonneg (by omega)] <;> omega
theorem impl_Mod_ok {N : Nat} {a : Int} {kf : Int → Option Ret} : impl_Mod N a 2147483647 kf = kf (a % 2147483647) := by
  unfold impl_Mod
  rw [impl_InRange_ok, show inR 2147483647 1 1000000000000 = true from by decide]
  have e : (decide ((2147483647 : Int) = 0)) = false := by decide
  simp only [Bool.not_true, cond_false, e, Bool.not_false, cond_true]
  rcases tmod_both a with ⟨h, h'⟩ | ⟨h, h'⟩ <;> rw [h]
  · rw [decide_eq_false (by omega), cond_false]
  · by_cases hz : -((-a) % 2147483647) < 0
    · rw [decide_eq_true hz, cond_true, wrap64 (by omega) (by omega)]
      congr 1
      omega
    · rw [decide_eq_false hz, cond_false]
      congr 1
      omega
def foldM (i : Nat) (x s : Int) : Int := Int.tmod (IntKind.wrap .i64 ((IntKind.wrap .i64 ((IntKind.wrap .i64 (s * (1000003 : Int))) + x % 2147483647)) + (13 : Int))) (2147483647 : Int)
def hashM (l : List Int) : Int := foldI foldM l 0 11
theorem spec_Hash_ok {N : Nat} {l : List Int} {kf : Int → Option Ret} (hl : l.length ≤ maxLen) (hN : l.length < N) : spec_Hash N l kf = kf (hashM l) := by
  unfold spec_Hash
  rw [spec_Hash_l3_r hl hN, goL1_f foldM (fun i x s next h e => by rw [spec_Mod_ok]; rfl)]
  rfl
theorem impl_Hash_ok {N : Nat} {l : List Int} {kf : Int → Option Ret} (hl : l.length ≤ maxLen) (hN : l.length < N) : impl_Hash N l kf = kf (hashM l) := by
  unfold impl_Hash
  rw [impl_Hash_l3_r hl hN, goL1_f foldM (fun i x s next h e => by unfold impl_fold; rw [impl_Mod_ok]; rfl)]
  rfl
def sealM (s : Int) (x : QIIIIE) : Int := hashM [s, x.1, x.2.1, x.2.2.1]
theorem spec_l27Seal_ok {N : Nat} {s : Int} {x : QIIIIE} {kf : Int → Option Ret} (hN : 4 < N) : spec_l27Seal N s x kf = kf (sealM s x) := by
  unfold spec_l27Seal
  rw [spec_Hash_ok (by rw [maxLen_eq]; simp) (by simpa using hN)]
  rfl
theorem impl_lineSeal_ok {N : Nat} {s : Int} {x : QIIIIE} {kf : Int → Option Ret} (hN : 4 < N) : impl_lineSeal N s x kf = kf (sealM s x) := by
  unfold impl_lineSeal
  rw [impl_Hash_ok (by rw [maxLen_eq]; simp) (by simpa using hN)]
  rfl
/-- Minutes that are numbered, in range and sealed. -/
def minM : List QIIIIE → Nat → Int → Bool
  | [], _, _ => true
  | x :: r, i, s => (x.1 == ((i + 1 : Nat) : Int)) && inR x.2.1 1 9 && inR x.2.2.1 0 99 && (x.2.2.2 == sealM s x) && minM r (i + 1) x.2.2.2
def areMinM (l : List QIIIIE) : Bool := decide (l.length ≤ 200) && minM l 0 0

theorem spec_AreMinutes_ok {N : Nat} {l : List QIIIIE} {kf : Bool → Option Ret} (hl : l.length ≤ maxLen) (hN : l.length < N) (h4 : 4 < N) : spec_AreMinutes N l kf = kf (areMinM l) := by
  unfold spec_AreMinutes
  rw [spec_AreMinutes_l3_r hl hN]
  by_cases hc : l.length ≤ 200
  · have h1 : (decide ((l.length : Int) ≤ 200)) = true := decide_eq_true (by omega)
    have key : ∀ (r : List QIIIIE) (i : Nat) (s : Int), l.drop i = r → goL1 (fun (i : Nat) (x : QIIIIE) (x3_2 : Int) (next : Int → Option Ret) =>
        bif (decide ((List.length l : Int) ≤ (200 : Int))) then
          spec_l27Seal N x3_2 x (fun (r23_5 : Int) =>
            bif (x.1 != (IntKind.wrap .i64 ((i : Int) + (1 : Int)))) then kf false
            else
              spec_l1In N x.2.1 (1 : Int) (9 : Int) (fun (r32_6 : Bool) =>
                bif (!r32_6) then kf false
                else
                  spec_l1In N x.2.2.1 (0 : Int) (99 : Int) (fun (r38_7 : Bool) =>
                    bif (!r38_7) then kf false
                    else
                      bif (x.2.2.2 != r23_5) then kf false
                      else next r23_5)))
        else kf (decide ((List.length l : Int) ≤ (200 : Int)))) (fun (x3_2 : Int) => kf (decide ((List.length l : Int) ≤ (200 : Int)))) r i s = kf (minM r i s) := by
      intro r
      induction r with
      | nil => intro i s _; simp only [goL1, minM, h1]
      | cons x r ih =>
        intro i s hd
        have hlt : i < l.length := by have := congrArg List.length hd; simp at this; omega
        rw [List.drop_eq_getElem_cons hlt] at hd
        injection hd with e1 e2
        simp only [goL1, minM]
        simp only [ih (i + 1) _ e2]
        simp only [h1, cond_true, spec_l27Seal_ok h4, spec_l1In_ok, wrap_succ hlt hl]
        cases hx : (x.1 == ((i + 1 : Nat) : Int)) with
        | false => simp only [bne, hx, Bool.not_false, cond_true, Bool.false_and]
        | true =>
          simp only [bne, hx, Bool.not_true, cond_false, Bool.true_and]
          cases inR x.2.1 1 9 <;> simp
          cases inR x.2.2.1 0 99 <;> simp
          by_cases hs : x.2.2.2 = sealM s x
          · simp [hs]
          · have : (x.2.2.2 == sealM s x) = false := by simpa using hs
            simp [this]
    refine Eq.trans (key l 0 0 rfl) ?_
    unfold areMinM
    simp [hc]
  · have h1 : (decide ((l.length : Int) ≤ 200)) = false := decide_eq_false (by omega)
    cases l with
    | nil => simp at hc
    | cons x r =>
      simp only [goL1, h1, cond_false]
      unfold areMinM
      rw [decide_eq_false hc]
      rfl
theorem impl_AreMinutes_ok {N : Nat} {l : List QIIIIE} {kf : Bool → Option Ret} (hl : l.length ≤ maxLen) (hN : l.length < N) (h4 : 4 < N) : impl_AreMinutes N l kf = kf (areMinM l) := by
  unfold impl_AreMinutes
  by_cases hc : l.length ≤ 200
  · have h1 : (decide ((l.length : Int) > 200)) = false := decide_eq_false (by omega)
    rw [h1, cond_false, impl_AreMinutes_l5_r hl hN]
    have key : ∀ (r : List QIIIIE) (i : Nat) (s : Int), l.drop i = r → goL1 (fun (i : Nat) (x : QIIIIE) (x3_1 : Int) (next : Int → Option Ret) =>
        bif (x.1 != (IntKind.wrap .i64 ((i : Int) + (1 : Int)))) then kf false
        else
          impl_InRange N x.2.1 (1 : Int) (9 : Int) (fun (r24_6 : Bool) =>
            bif (!r24_6) then kf false
            else
              impl_InRange N x.2.2.1 (0 : Int) (99 : Int) (fun (r30_7 : Bool) =>
                bif (!r30_7) then kf false
                else
                  impl_lineSeal N x3_1 x (fun (r38_8 : Int) =>
                    bif (x.2.2.2 != r38_8) then kf false
                    else next x.2.2.2)))) (fun (x3_1 : Int) => kf true) r i s = kf (minM r i s) := by
      intro r
      induction r with
      | nil => intro i s _; simp only [goL1, minM]
      | cons x r ih =>
        intro i s hd
        have hlt : i < l.length := by have := congrArg List.length hd; simp at this; omega
        rw [List.drop_eq_getElem_cons hlt] at hd
        injection hd with e1 e2
        simp only [goL1, minM]
        simp only [ih (i + 1) _ e2]
        simp only [impl_lineSeal_ok h4, impl_InRange_ok, wrap_succ hlt hl]
        cases hx : (x.1 == ((i + 1 : Nat) : Int)) with
        | false => simp only [bne, hx, Bool.not_false, cond_true, Bool.false_and]
        | true =>
          simp only [bne, hx, Bool.not_true, cond_false, Bool.true_and]
          cases inR x.2.1 1 9 <;> simp
          cases inR x.2.2.1 0 99 <;> simp
          by_cases hs : x.2.2.2 = sealM s x
          · simp [hs]
          · have : (x.2.2.2 == sealM s x) = false := by simpa using hs
            simp [this]
    refine Eq.trans (key l 0 0 rfl) ?_
    unfold areMinM
    simp [hc]
  · have h1 : (decide ((l.length : Int) > 200)) = true := decide_eq_true (by omega)
    rw [h1, cond_true]
    unfold areMinM
    rw [decide_eq_false hc]
    rfl

def openM (i : Nat) (x : QIIIIE) (s : Bool) : Bool := bif x.2.1 == 3 then true else bif x.2.1 == 5 then false else s
theorem IsOpenIn_same {l : List QIIIIE} {N : Nat} (hl : l.length ≤ maxLen) (hN : l.length < N) (h4 : 4 < N) : Same (spec_IsOpenIn N l) (impl_IsOpenIn N l) := by
  refine ⟨bif foldI openM l 0 false then areMinM l else false, fun kf => ?_, fun kf => ?_⟩
  · unfold spec_IsOpenIn
    rw [spec_IsOpenIn_l3_r hl hN, goL1_f openM (fun i x s next h e => by unfold openM; cases x.2.1 == 3 <;> cases x.2.1 == 5 <;> rfl)]
    cases foldI openM l 0 false
    · rfl
    · exact spec_AreMinutes_ok hl hN h4
  · unfold impl_IsOpenIn
    rw [impl_IsOpenIn_l3_r hl hN, goL1_f openM (fun i x s next h e => by
      unfold openM
      by_cases h3 : x.2.1 = 3
      · simp [h3]
      · by_cases h5 : x.2.1 = 5
        · simp [h5]
        · have e3 : (x.2.1 == 3) = false := by simpa using h3
          have e5 : (x.2.1 == 5) = false := by simpa using h5
          simp [e3, e5])]
    cases foldI openM l 0 false
    · rfl
    · exact impl_AreMinutes_ok hl hN h4
theorem lawFnExactIsOpenIn (l : List QIIIIE) (h : wfs [.sl tQIIIIE] (l, ())) : ∃ N, ∀ kf, laws_FnExactIsOpenIn N l kf = kf true := by
  refine ⟨sizeV (.sl tQIIIIE) l + 5, fun kf => ?_⟩
  have hs := sizeV_len (t := tQIIIIE) l
  have hw : wf (.sl tQIIIIE) l := h.1
  unfold laws_FnExactIsOpenIn
  rw [laws_szLineS_ok hw (by omega) (by omega) (by omega)]
  refine small_or (by omega) fun hb => ?_
  obtain ⟨v, h1, h2⟩ := IsOpenIn_same (l := l) (N := sizeV (.sl tQIIIIE) l + 5) hw.1 (by omega) (by omega)
  simp only [laws_toLineS_ok (x := l) (N := sizeV (.sl tQIIIIE) l + 5) (by omega) (by omega), h1, h2, laws_eqLineS_ok (x := l) (N := sizeV (.sl tQIIIIE) l + 5) (by omega) (by omega)]
  simp

def ledM (a : Int) (i : Nat) (x : QIIIIE) (s : Int) : Int := bif x.2.1 == 4 then bif x.2.2.1 == a then IntKind.wrap .i64 (s + 1) else s else s
theorem LedBy_same {l : List QIIIIE} {a : Int} {N : Nat} (hl : l.length ≤ maxLen) (hN : l.length < N) (h4 : 4 < N) : Same (spec_LedBy N l a) (impl_LedBy N l a) := by
  refine ⟨bif areMinM l then foldI (ledM a) l 0 0 else 0, fun kf => ?_, fun kf => ?_⟩
  · unfold spec_LedBy
    rw [spec_LedBy_l3_r hl hN]
    simp only [spec_AreMinutes_ok hl hN h4]
    cases hm : areMinM l with
    | false =>
      cases l with
      | nil => rfl
      | cons x r => rfl
    | true =>
      simp only [cond_true]
      rw [goL1_f (ledM a) (fun i x s next h e => by unfold ledM; cases x.2.1 == 4 <;> cases x.2.2.1 == a <;> rfl)]
  · unfold impl_LedBy
    rw [impl_AreMinutes_ok hl hN h4]
    cases hm : areMinM l with
    | false => rfl
    | true =>
      simp only [Bool.not_true, cond_false, cond_true]
      rw [impl_LedBy_l5_r hl hN, goL1_f (ledM a) (fun i x s next h e => by unfold ledM; cases x.2.1 == 4 <;> cases x.2.2.1 == a <;> rfl)]
theorem lawFnExactLedBy (l : List QIIIIE) (a : Int) (h : wfs [.sl tQIIIIE, .int .i64] (l, a, ())) : ∃ N, ∀ kf, laws_FnExactLedBy N l a kf = kf true := by
  refine ⟨sizeV (.sl tQIIIIE) l + 5, fun kf => ?_⟩
  have hs := sizeV_len (t := tQIIIIE) l
  have hw : wf (.sl tQIIIIE) l := h.1
  unfold laws_FnExactLedBy
  rw [laws_szLineS_ok hw (by omega) (by omega) (by omega)]
  refine small_or (by omega) fun hb => ?_
  obtain ⟨v, h1, h2⟩ := LedBy_same (l := l) (a := a) (N := sizeV (.sl tQIIIIE) l + 5) hw.1 (by omega) (by omega)
  simp only [laws_toLineS_ok (x := l) (N := sizeV (.sl tQIIIIE) l + 5) (by omega) (by omega), h1, h2, laws_eqLineS_ok (x := l) (N := sizeV (.sl tQIIIIE) l + 5) (by omega) (by omega)]
  simp

theorem RoundsIn_same {l : List QIIIIE} {N : Nat} (hl : l.length ≤ maxLen) (hN : l.length < N) (h4 : 4 < N) : Same (spec_RoundsIn N l) (impl_RoundsIn N l) := by
  obtain ⟨v, h1, h2⟩ := CountWhat_same (l := l) (a := 5) hl hN
  refine ⟨bif areMinM l then v else 0, fun kf => ?_, fun kf => ?_⟩
  · unfold spec_RoundsIn
    rw [spec_AreMinutes_ok hl hN h4]
    cases areMinM l
    · rfl
    · simpa using h1 kf
  · unfold impl_RoundsIn
    rw [impl_AreMinutes_ok hl hN h4]
    cases areMinM l
    · rfl
    · simpa using h2 kf
theorem lawFnExactRoundsIn (l : List QIIIIE) (h : wfs [.sl tQIIIIE] (l, ())) : ∃ N, ∀ kf, laws_FnExactRoundsIn N l kf = kf true := by
  refine ⟨sizeV (.sl tQIIIIE) l + 5, fun kf => ?_⟩
  have hs := sizeV_len (t := tQIIIIE) l
  have hw : wf (.sl tQIIIIE) l := h.1
  unfold laws_FnExactRoundsIn
  rw [laws_szLineS_ok hw (by omega) (by omega) (by omega)]
  refine small_or (by omega) fun hb => ?_
  obtain ⟨v, h1, h2⟩ := RoundsIn_same (l := l) (N := sizeV (.sl tQIIIIE) l + 5) hw.1 (by omega) (by omega)
  simp only [laws_toLineS_ok (x := l) (N := sizeV (.sl tQIIIIE) l + 5) (by omega) (by omega), h1, h2, laws_eqLineS_ok (x := l) (N := sizeV (.sl tQIIIIE) l + 5) (by omega) (by omega)]
  simp
end Go.Pv.R
