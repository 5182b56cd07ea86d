/- A verified evaluator of the program's form over pure values, part 1: what it tells of a function holds. -/
import Derived.Test.YthdoldaaodmeeaaDoorPv0
import Derived.Laws.BytesString
import Derived.Laws.Cells
import Derived.Laws.Entries
import Derived.Laws.Shifts
import Derived.Laws.Strings
import Derived.Laws.StructEq
namespace Go.Pv
set_option linter.unusedVariables false
set_option linter.unusedSimpArgs false
variable {h : Hint} {O : Orc} {ops : Array Oper} {Θ : Tab}

/-- What an operation of a group does: what it takes is gone; its result stands at its slot. -/
structure Eff where
  kills : List Nat
  d : Nat
  v : AV
def killsOf : List Nat → St → St
  | [], S => S
  | x :: r, S => killsOf r (S.put (some x) .dead)
def Eff.app (E : Eff) (S : St) : St := (killsOf E.kills S).put (some E.d) E.v
def noRefs (a : AV) : Prop := ∀ d, a.refs d = false

/-- An operand's value, as the operation sees it. -/
theorem opOK_opv {S : St} {x : Operand} (hx : opOK S x = true) (T : TypeId) : (∃ i a, x = .tmp i ∧ S.at i = .v a [] ∧ S.opv Θ T x = some (.v a [])) ∨ ∃ c, x = .const c := by
  cases x with
  | tmp i =>
    simp only [opOK] at hx
    split at hx
    · rename_i a ha
      exact .inl ⟨i, a, rfl, ha, by simp [St.opv, ha]⟩
    · cases hx
  | const c => exact .inr ⟨c, rfl⟩
  | func f => simp [opOK] at hx
  | global g => simp [opOK] at hx
/-- Two states agree on what an operand looks at. -/
def Agr (S S' : St) (l : List Nat) : Prop := ∀ r ∈ l, S'.at r = S.at r
theorem opv_agr {S S' : St} {x : Operand} (ha : Agr S S' (tmpOf x)) (T : TypeId) : S'.opv Θ T x = S.opv Θ T x := by
  cases x with
  | tmp i => simp only [St.opv]; rw [ha i (by simp [tmpOf])]
  | const c => rfl
  | func f => rfl
  | global g => rfl
theorem rd_agr {S S' : St} {x : Operand} (hx : opOK S x = true) (ha : Agr S S' (tmpOf x)) (T : TypeId) : S'.rd Θ T x = S.rd Θ T x := by
  unfold St.rd
  rw [opv_agr ha]
  rcases opOK_opv (Θ := Θ) hx T with ⟨i, a, rfl, h1, h2⟩ | ⟨c, rfl⟩
  · rw [h2]; rfl
  · simp only [St.opv]
    cases constTV Θ T c <;> rfl
theorem reads_agr {S S' : St} : ∀ (xs : List Operand) (Ts : List TypeId) (l : List (Option TV)), (∀ x ∈ xs, opOK S x = true) → Agr S S' (xs.flatMap tmpOf) → reads Θ S' xs Ts l = reads Θ S xs Ts l
  | [], _, _, _, _ => rfl
  | x :: xs, [], l, _, _ => rfl
  | x :: xs, T :: Ts, [], _, _ => rfl
  | x :: xs, T :: Ts, p :: ps, hx, ha => by
    have ih := reads_agr xs Ts ps (fun y hy => hx y (by simp [hy])) (fun r hr => ha r (by simp [hr]))
    have ho := opv_agr (Θ := Θ) (x := x) (fun r hr => ha r (by simp [hr])) T
    simp only [reads, ih, ho]
    cases p with
    | some a => rfl
    | none =>
      simp only
      rcases opOK_opv (Θ := Θ) (hx x (by simp)) T with ⟨i, a, rfl, h1, h2⟩ | ⟨c, rfl⟩
      · rw [h2]; rfl
      · simp only [St.opv]
        cases constTV Θ T c <;> rfl
theorem fines_agr {S S' : St} : ∀ (xs : List Operand) (l : List (Option TV)) (as : List Arg), Agr S S' (xs.flatMap tmpOf) → fines S' xs l as = fines S xs l as
  | [], _, _, _ => rfl
  | x :: xs, [], _, _ => rfl
  | x :: xs, p :: ps, [], _ => rfl
  | x :: xs, p :: ps, r :: rs, ha => by
    have ih := fines_agr xs ps rs (fun r hr => ha r (by simp [hr]))
    have hf : fineA S' x = fineA S x := by
      cases x with
      | tmp i => simp only [fineA]; rw [ha i (by simp [tmpOf])]
      | const c => rfl
      | func f => rfl
      | global g => rfl
    simp only [fines, ih, hf]
/-- All arguments are read. -/
theorem takes_val : ∀ (xs : List Operand) (Ts : List TypeId) (ps : List Pass), (ps.all fun p => match p with
      | .val => true
      | _ => false) = true → (∀ S, takes Θ S xs Ts ps = none) ∨ ∃ l, ∀ S, takes Θ S xs Ts ps = some (l, S)
  | [], _, _, _ => .inr ⟨[], fun S => by simp [takes]⟩
  | x :: xs, [], _, _ => .inl fun S => by simp [takes]
  | x :: xs, T :: Ts, [], _ => .inl fun S => by simp [takes]
  | x :: xs, T :: Ts, p :: ps, h => by
    simp only [List.all_cons, Bool.and_eq_true] at h
    cases p with
    | take => cases h.1
    | lend => cases h.1
    | val =>
      rcases takes_val xs Ts ps h.2 with h1 | ⟨l, h1⟩
      · exact .inl fun S => by simp only [takes, h1]
      · exact .inr ⟨none :: l, fun S => by simp only [takes, h1]⟩
theorem allVal_lend : ∀ (l : List Pass) (n : Nat), (l.all fun p => match p with
      | .val => true
      | _ => false) = true → lendAt l n = none
  | [], _, _ => rfl
  | .val :: r, n, h => by simp only [lendAt]; exact allVal_lend r (n + 1) (by simpa using h)
  | .take :: r, n, h => by simp at h
  | .lend :: r, n, h => by simp at h

theorem resAV_refs (l : List TV) : noRefs (resAV l) := by
  intro d
  unfold resAV
  split <;> rfl
theorem call_eff (hO : ODet O) {i : Nat} {o : Oper} (ho : ops[i]? = some o) (hg : o.guard = none) {d : Nat} (hd : o.dst = some d) {f : FuncId} {as : Array Operand} {ts : Array TypeId} (hop : o.op = .call { callee := .value (.func f), args := as, argTypes := ts })
    (hv : allVal O f = true) {S : St} (hx : ∀ x ∈ as.toList, opOK S x = true) :
    ∃ oE : Option Eff, (∀ E, oE = some E → E.d = d ∧ E.kills = [] ∧ noRefs E.v) ∧ ∀ S', Agr S S' (as.toList.flatMap tmpOf) → ∀ K, peStep h O ops i S' K = oE.bind fun E => K (E.app S') := by
  have hstep : ∀ S' K, peStep h O ops i S' K = peCall h O o f none as.toList ts.toList S' K := by
    intro S' K
    unfold peStep
    rw [ho]
    simp only [hg]
    unfold peOp
    rw [hop]
    simp only [allVal_lend _ 0 hv]
  rcases takes_val (Θ := h.tab) as.toList ts.toList (O.sig f) hv with ht | ⟨l, ht⟩
  · exact ⟨none, fun E hE => (by cases hE), fun S' _ K => by rw [hstep]; unfold peCall; simp only [ht]; rfl⟩
  · cases hr : reads h.tab S as.toList ts.toList l with
    | none => exact ⟨none, fun E hE => (by cases hE), fun S' ha K => by rw [hstep]; unfold peCall; simp only [ht, reads_agr _ _ _ hx ha, hr]; rfl⟩
    | some args =>
      obtain ⟨oR, hR⟩ := hO f (args ++ ([] : List TV).map .tv)
      cases oR with
      | none =>
        refine ⟨none, fun E hE => (by cases hE), fun S' ha K => ?_⟩
        rw [hstep]; unfold peCall
        simp only [ht, reads_agr _ _ _ hx ha, hr, capsIn, hR]
        rfl
      | some ret =>
        cases hrefs : ret.refs with
        | nil =>
          cases hc : (ret.res.all (fun d => solid d.t d.m) || (([] : List TV).isEmpty && fines S as.toList l args)) with
          | false =>
            refine ⟨none, fun E hE => (by cases hE), fun S' ha K => ?_⟩
            rw [hstep]; unfold peCall
            simp only [ht, reads_agr _ _ _ hx ha, fines_agr _ _ _ ha, hr, capsIn, hR, Option.bind_some, hrefs, hc]
            rfl
          | true =>
            refine ⟨some ⟨[], d, resAV ret.res⟩, fun E hE => ?_, fun S' ha K => ?_⟩
            · injection hE with hE
              subst hE
              exact ⟨rfl, rfl, resAV_refs _⟩
            · rw [hstep]; unfold peCall
              simp only [ht, reads_agr _ _ _ hx ha, fines_agr _ _ _ ha, hr, capsIn, hR, Option.bind_some, hrefs, hd, hc]
              rfl
        | cons _ _ =>
          refine ⟨none, fun E hE => (by cases hE), fun S' ha K => ?_⟩
          rw [hstep]; unfold peCall
          simp only [ht, reads_agr _ _ _ hx ha, hr, capsIn, hR, Option.bind_some, hrefs]
          rfl

/-- A value, or nothing. -/
def VD (a : AV) : Prop := (∃ b, a = .v b []) ∨ a = .dead
def opVD (S : St) : Operand → Prop
  | .tmp i => VD (S.at i)
  | .const _ => True
  | _ => False
theorem opOK_VD {S : St} {x : Operand} (h : opOK S x = true) : opVD S x := by
  cases x with
  | tmp i =>
    simp only [opOK] at h
    split at h
    · rename_i a ha; exact .inl ⟨a, ha⟩
    · cases h
  | const c => trivial
  | func f => simp [opOK] at h
  | global g => simp [opOK] at h
theorem take_eff2 {S : St} {x : Operand} (hx : opVD S x) (T : TypeId) : ∃ oB : Option (TV × List Nat), (∀ b ks, oB = some (b, ks) → ks.Nodup ∧ ∀ r ∈ ks, r ∈ tmpOf x ∧ ∃ a, S.at r = .v a []) ∧ ∀ S', Agr S S' (tmpOf x) → S'.take Θ T x = oB.map fun q => (q.1, killsOf q.2 S') := by
  cases x with
  | tmp i =>
    rcases hx with ⟨a, ha⟩ | ha
    · cases hk : a.m.isK with
      | true =>
        refine ⟨some (a, []), fun b ks e => ?_, fun S' hs => ?_⟩
        · injection e with e
          injection e with _ e
          subst e
          exact ⟨List.nodup_nil, fun r hr => by cases hr⟩
        · have h2 := (hs i (by simp [tmpOf])).trans ha
          unfold St.take
          simp [St.opv, h2, St.takeA, hk, killsOf]
      | false =>
        refine ⟨some (a, [i]), fun b ks e => ?_, fun S' hs => ?_⟩
        · injection e with e
          injection e with _ e
          subst e
          refine ⟨by simp, fun r hr => ?_⟩
          simp only [List.mem_singleton] at hr
          subst hr
          exact ⟨by simp [tmpOf], a, ha⟩
        · have h2 := (hs i (by simp [tmpOf])).trans ha
          unfold St.take
          simp [St.opv, h2, St.takeA, hk, killsOf]
    · refine ⟨none, fun b ks e => (by cases e), fun S' hs => ?_⟩
      have h2 := (hs i (by simp [tmpOf])).trans ha
      unfold St.take
      simp [St.opv, h2, St.takeA]
  | const c =>
    cases hc : constTV Θ T c with
    | none => exact ⟨none, fun b ks e => (by cases e), fun S' ha => (by unfold St.take; simp [St.opv, hc])⟩
    | some a =>
      refine ⟨some (a, []), fun b ks e => ?_, fun S' ha => ?_⟩
      · injection e with e
        injection e with _ e
        subst e
        exact ⟨List.nodup_nil, fun r hr => by cases hr⟩
      · unfold St.take
        simp only [St.opv, hc, St.takeA]
        cases a.m.isK <;> simp [killsOf]
  | func f => exact hx.elim
  | global g => exact hx.elim
theorem take_eff {S : St} {x : Operand} (hx : opOK S x = true) (T : TypeId) : ∃ oB : Option (TV × List Nat), (∀ b ks, oB = some (b, ks) → ks.Nodup ∧ ∀ r ∈ ks, r ∈ tmpOf x) ∧ ∀ S', Agr S S' (tmpOf x) → S'.take Θ T x = oB.map fun q => (q.1, killsOf q.2 S') := by
  obtain ⟨oB, h1, h2⟩ := take_eff2 (Θ := Θ) (opOK_VD hx) T
  exact ⟨oB, fun b ks e => ⟨(h1 b ks e).1, fun r hr => ((h1 b ks e).2 r hr).1⟩, h2⟩
theorem kill_same {S : St} {i j : Nat} {a : TV} (h : S.at j = .v a []) (hij : j ≠ i) : (S.put (some i) .dead).at j = .v a [] := by
  rw [put_at, if_neg (fun e => hij e.1), h]
  simp [AV.refs]
theorem kill_dead {S : St} {i : Nat} {a : TV} (h : S.at i = .v a []) : (S.put (some i) .dead).at i = .dead := by
  have hl : i < S.length := by
    rcases Nat.lt_or_ge i S.length with hl | hl
    · exact hl
    · unfold St.at at h
      rw [List.getD_eq_getElem?_getD, List.getElem?_eq_none hl] at h
      cases h
  rw [put_at, if_pos ⟨rfl, hl⟩]
  simp [AV.refs]
theorem kills_same {ks : List Nat} {S : St} {j : Nat} {a : TV} (h : S.at j = .v a []) (hj : j ∉ ks) : (killsOf ks S).at j = .v a [] := by
  induction ks generalizing S with
  | nil => exact h
  | cons x r ih => exact ih (kill_same h (fun e => hj (by simp [e]))) (fun e => hj (by simp [e]))
theorem kills_agr {ks : List Nat} {S S' : St} {y : Operand} (hy : opOK S y = true) (ha : Agr S S' (tmpOf y)) (hn : ∀ r ∈ tmpOf y, r ∉ ks) : Agr S (killsOf ks S') (tmpOf y) := by
  intro r hr
  cases y with
  | tmp j =>
    simp only [tmpOf, List.mem_singleton] at hr
    subst hr
    rcases opOK_opv (Θ := []) hy 0 with ⟨i, a, e, h1, _⟩ | ⟨c, e⟩
    · injection e with e
      subst e
      rw [h1]
      exact kills_same ((ha r (by simp [tmpOf])).trans h1) (hn r (by simp [tmpOf]))
    · cases e
  | const c => simp [tmpOf] at hr
  | func f => simp [tmpOf] at hr
  | global g => simp [tmpOf] at hr

theorem kills_gone {ks : List Nat} {S : St} {j : Nat} {a : TV} (h : S.at j = .v a []) (hj : j ∈ ks) : (killsOf ks S).at j = .dead := by
  have dead : ∀ (ks : List Nat) (S : St), S.at j = .dead → (killsOf ks S).at j = .dead := by
    intro ks
    induction ks with
    | nil => intro S h; exact h
    | cons x r ih =>
      intro S h
      refine ih _ ?_
      rw [put_at]
      split
      · simp [AV.refs]
      · rw [h]; simp [AV.refs]
  induction ks generalizing S with
  | nil => cases hj
  | cons x r ih =>
    by_cases hx : j = x
    · subst hx
      exact dead r _ (kill_dead h)
    · exact ih (kill_same h hx) (by rcases List.mem_cons.1 hj with e | e; exact absurd e hx; exact e)
theorem killsOf_app (a b : List Nat) (S : St) : killsOf (a ++ b) S = killsOf b (killsOf a S) := by
  induction a generalizing S with
  | nil => rfl
  | cons x r ih => exact ih _
theorem append_eff {S : St} {d : Nat} {x y : Operand} {T T' : TypeId} (hx : opOK S x = true) (hy : opOK S y = true) :
    ∃ oG : Option (Bool × Eff), (∀ g E, oG = some (g, E) → E.d = d ∧ noRefs E.v ∧ E.kills.Nodup ∧ ∀ r ∈ E.kills, r ∈ tmpOf x ++ tmpOf y) ∧ ∀ S', Agr S S' (tmpOf x ++ tmpOf y) → evAppend Θ S' (some d) [T, T'] [x, y] = oG.map fun q => (q.1, q.2.app S') := by
  obtain ⟨oB, hB1, hB2⟩ := take_eff (Θ := Θ) hx T
  have hax : ∀ {S' : St}, Agr S S' (tmpOf x ++ tmpOf y) → Agr S S' (tmpOf x) := fun ha r hr => ha r (by simp [hr])
  have hay : ∀ {S' : St}, Agr S S' (tmpOf x ++ tmpOf y) → Agr S S' (tmpOf y) := fun ha r hr => ha r (by simp [hr])
  cases oB with
  | none => exact ⟨none, fun g E e => (by cases e), fun S' ha => by unfold evAppend; simp only [hB2 S' (hax ha)]; rfl⟩
  | some q =>
    obtain ⟨b, ks⟩ := q
    obtain ⟨hnd, hks⟩ := hB1 b ks rfl
    -- is the second gone?
    by_cases hgone : ∃ r ∈ tmpOf y, r ∈ ks
    · obtain ⟨r, hr, hrk⟩ := hgone
      cases y with
      | const c => simp [tmpOf] at hr
      | func f => simp [tmpOf] at hr
      | global g => simp [tmpOf] at hr
      | tmp j =>
        simp only [tmpOf, List.mem_singleton] at hr
        subst hr
        refine ⟨none, fun g E e => (by cases e), fun S' ha => ?_⟩
        rcases opOK_opv (Θ := Θ) hy 0 with ⟨i, a, e, h1, _⟩ | ⟨c, e⟩
        · injection e with e
          subst e
          have hdead := kills_gone (ks := ks) ((ha r (by simp [tmpOf])).trans h1) hrk
          unfold evAppend
          simp only [hB2 S' (hax ha), Option.map_some]
          have hrd : (killsOf ks S').rd Θ T' (.tmp r) = none := by unfold St.rd; simp only [St.opv, hdead, St.rdA]
          have htk : (killsOf ks S').take Θ T' (.tmp r) = none := by unfold St.take; simp only [St.opv, hdead, St.takeA]
          split
          · rename_i t e1 tg me xs S1 i heq hf
            simp only [Option.some.injEq, Prod.mk.injEq] at heq
            obtain ⟨rfl, rfl⟩ := heq
            simp only [hrd, htk, cond_false]
            cases me.isK <;> cases (decide (i.ty = t.sl) && Nat.beq i.e e1 && Θ.is T' t.sl) <;> rfl
          · rfl
        · cases e
    · have hn : ∀ r ∈ tmpOf y, r ∉ ks := fun r hr hk => hgone ⟨r, hr, hk⟩
      obtain ⟨oC, hC1, hC2⟩ := take_eff (Θ := Θ) hy T'
      cases hf : Θ.find T with
      | none => exact ⟨none, fun g E e => (by cases e), fun S' ha => by unfold evAppend; simp only [hB2 S' (hax ha), hf]; split <;> simp_all⟩
      | some ti =>
      by_cases hform : ∃ (t : Ty) (e1 : TypeId) (tg : Option Nat) (me : Md) (xs : List t.I), b = ⟨.sl t, .o e1 tg me, xs⟩
      rotate_left
      · refine ⟨none, fun g E e => (by cases e), fun S' ha => ?_⟩
        unfold evAppend
        simp only [hB2 S' (hax ha), hf, Option.map_some]
        split
        · rename_i t e1 tg me xs S1 i heq heq2
          simp only [Option.some.injEq, Prod.mk.injEq] at heq
          exact absurd ⟨t, e1, tg, me, xs, heq.1⟩ hform
        · rfl
      obtain ⟨t, e1, tg, me, xs, rfl⟩ := hform
      have hS : ∀ S', Agr S S' (tmpOf x ++ tmpOf y) → Agr S (killsOf ks S') (tmpOf y) := fun S' ha => kills_agr hy (hay ha) hn
      cases hc : (decide (ti.ty = .sl t) && Nat.beq ti.e e1 && Θ.is T' (.sl t)) with
      | false => exact ⟨none, fun g E e => (by cases e), fun S' ha => by unfold evAppend; simp only [hB2 S' (hax ha), hf, Option.map_some, hc, cond_false]; rfl⟩
      | true =>
      cases hk : me.isK with
      | true =>
        have hev : ∀ S', Agr S S' (tmpOf x ++ tmpOf y) → evAppend Θ S' (some d) [T, T'] [x, y] = (match S.rd Θ T' y with
          | some ⟨.sl t', m', ys⟩ => bif m'.inn.isK then (if h : t' = t then
              some (decide ((xs.length + ys.length) * t.size ≤ 4398046511104), (killsOf ks S').put (some d) (.v ⟨.sl t, .o e1 none me, xs ++ (h ▸ ys)⟩ [])) else none) else none
          | _ => none) := fun S' ha => by
          unfold evAppend
          simp only [hB2 S' (hax ha), hf, Option.map_some, hc, cond_true, hk, rd_agr hy (hS S' ha)]
          rfl
        cases hr : S.rd Θ T' y with
        | none => exact ⟨none, fun g E e => (by cases e), fun S' ha => by rw [hev S' ha, hr]; rfl⟩
        | some c =>
          by_cases hf2 : ∃ (m' : Md) (ys : List t.I), c = ⟨.sl t, m', ys⟩ ∧ m'.inn.isK = true
          · obtain ⟨m', ys, rfl, hm⟩ := hf2
            refine ⟨some (decide ((List.length xs + List.length ys) * t.size ≤ 4398046511104), ⟨ks, d, .v ⟨.sl t, .o e1 none me, xs ++ ys⟩ []⟩), fun g E e => ?_, fun S' ha => ?_⟩
            rotate_left
            · rw [hev S' ha, hr]
              simp only [hm, cond_true, dite_true, Option.map_some, Eff.app]
            · injection e with e
              injection e with _ e
              subst e
              exact ⟨rfl, fun _ => rfl, hnd, fun r hr => by simp [hks r hr]⟩
          · refine ⟨none, fun g E e => (by cases e), fun S' ha => ?_⟩
            rw [hev S' ha, hr]
            split
            · rename_i t' m' ys heq
              injection heq with heq
              subst heq
              cases hm : m'.inn.isK with
              | false => rfl
              | true =>
                simp only [cond_true]
                by_cases ht : t' = t
                · subst ht
                  exact absurd ⟨m', ys, rfl, hm⟩ hf2
                · rw [dif_neg ht]; rfl
            · rfl
      | false =>
        have hev : ∀ S', Agr S S' (tmpOf x ++ tmpOf y) → evAppend Θ S' (some d) [T, T'] [x, y] = (match oC.map (fun q => (q.1, killsOf q.2 (killsOf ks S'))) with
          | some (⟨.sl t', m', ys⟩, S2) => if h : t' = t then
              (if m'.inn = me then some (decide ((xs.length + ys.length) * t.size ≤ 4398046511104), S2.put (some d) (.v ⟨.sl t, .o e1 none me, xs ++ (h ▸ ys)⟩ [])) else none) else none
          | _ => none) := fun S' ha => by
          unfold evAppend
          simp only [hB2 S' (hax ha), hf, Option.map_some, hc, cond_true, cond_false, hk, hC2 _ (hS S' ha)]
          rfl
        cases oC with
        | none => exact ⟨none, fun g E e => (by cases e), fun S' ha => by rw [hev S' ha]; rfl⟩
        | some c =>
          obtain ⟨c, ks2⟩ := c
          obtain ⟨hnd2, hks2⟩ := hC1 c ks2 rfl
          by_cases hf2 : ∃ (m' : Md) (ys : List t.I), c = ⟨.sl t, m', ys⟩ ∧ m'.inn = me
          · obtain ⟨m', ys, rfl, hm⟩ := hf2
            refine ⟨some (decide ((List.length xs + List.length ys) * t.size ≤ 4398046511104), ⟨ks ++ ks2, d, .v ⟨.sl t, .o e1 none me, xs ++ ys⟩ []⟩), fun g E e => ?_, fun S' ha => ?_⟩
            rotate_left
            · rw [hev S' ha]
              simp only [Option.map_some, dite_true, hm, if_true, Eff.app, killsOf_app]
            · injection e with e
              injection e with _ e
              subst e
              refine ⟨rfl, fun _ => rfl, List.nodup_append.2 ⟨hnd, hnd2, fun a ha b hb e => by subst e; exact hn a (hks2 a hb) ha⟩, fun r hr => ?_⟩
              rcases List.mem_append.1 hr with hr | hr
              · simp [hks r hr]
              · simp [hks2 r hr]
          · refine ⟨none, fun g E e => (by cases e), fun S' ha => ?_⟩
            rw [hev S' ha]
            simp only [Option.map_some]
            split
            · rename_i t' m' ys S2 heq
              injection heq with heq
              injection heq with heq _
              by_cases ht : t' = t
              · subst ht
                by_cases hm : m'.inn = me
                · exact absurd ⟨m', ys, heq, hm⟩ hf2
                · rw [dif_pos rfl, if_neg hm]; rfl
              · rw [dif_neg ht]; rfl
            · rfl

theorem killsOf_len (ks : List Nat) (S : St) : (killsOf ks S).length = S.length := by
  induction ks generalizing S with
  | nil => rfl
  | cons x r ih => simp only [killsOf, ih, put_len']
theorem killsOf_at : ∀ (ks : List Nat) (S : St), ks.Nodup → (∀ x ∈ ks, ∃ a, S.at x = .v a []) → ∀ i, (killsOf ks S).at i = if i ∈ ks then .dead else bif ks.any (S.at i).refs then .dead else S.at i
  | [], S, _, _, i => by simp [killsOf]
  | x :: r, S, hn, hv, i => by
    obtain ⟨a, ha⟩ := hv x (by simp)
    simp only [List.nodup_cons] at hn
    have hv' : ∀ y ∈ r, ∃ b, (S.put (some x) .dead).at y = .v b [] := fun y hy => by
      obtain ⟨b, hb⟩ := hv y (by simp [hy])
      exact ⟨b, kill_same hb (fun e => hn.1 (by rw [← e]; exact hy))⟩
    simp only [killsOf]
    rw [killsOf_at r _ hn.2 hv' i]
    by_cases hir : i ∈ r
    · simp [hir]
    · by_cases hix : i = x
      · subst hix
        simp only [hir, if_false, kill_dead ha, List.mem_cons, true_or, if_true]
        simp [AV.refs]
      · simp only [hir, if_false, List.mem_cons, hix, or_self]
        rw [put_at, if_neg (fun e => hix e.1), ha]
        simp only [AV.isV, Bool.and_true, List.any_cons]
        cases hr : (S.at i).refs x <;> simp [AV.refs]

/-- An effect is at home in a state. -/
structure Eff.In (E : Eff) (S : St) : Prop where
  nd : E.kills.Nodup
  vals : ∀ x ∈ E.kills, ∃ a, S.at x = .v a []
  slot : (S.at E.d).isV = false
  lt : E.d < S.length
  refs : noRefs E.v
  out : E.d ∉ E.kills
theorem Eff.app_len (E : Eff) (S : St) : (E.app S).length = S.length := by unfold Eff.app; rw [put_len', killsOf_len]
theorem Eff.app_at {E : Eff} {S : St} (h : E.In S) (i : Nat) : (E.app S).at i = if i = E.d then E.v else if i ∈ E.kills then .dead else bif E.kills.any (S.at i).refs then .dead else S.at i := by
  unfold Eff.app
  have hd : ((killsOf E.kills S).at E.d).isV = false := by
    rw [killsOf_at _ _ h.nd h.vals]
    split
    · rfl
    · cases E.kills.any (S.at E.d).refs with
      | true => rfl
      | false => exact h.slot
  rw [put_at, killsOf_len, hd]
  by_cases hi : i = E.d
  · rw [if_pos ⟨hi, h.lt⟩, if_pos hi, h.refs]
    rfl
  · rw [if_neg (fun e => hi e.1), if_neg hi]
    simp only [Bool.and_false, cond_false]
    exact killsOf_at _ _ h.nd h.vals i
theorem st_ext {S S' : St} (hl : S.length = S'.length) (h : ∀ i, S.at i = S'.at i) : S = S' := by
  apply List.ext_getElem hl
  intro i h1 h2
  have := h i
  unfold St.at at this
  rw [List.getD_eq_getElem?_getD, List.getD_eq_getElem?_getD, List.getElem?_eq_getElem h1, List.getElem?_eq_getElem h2] at this
  exact this
/-- Two effects that do not meet may change places. -/
theorem Eff.comm {E F : Eff} {S : St} (hE : E.In S) (hF : F.In S) (hd : E.d ≠ F.d) (h1 : E.d ∉ F.kills) (h2 : F.d ∉ E.kills) (hEF : E.In (F.app S)) (hFE : F.In (E.app S)) : E.app (F.app S) = F.app (E.app S) := by
  refine st_ext (by simp [Eff.app_len]) fun i => ?_
  rw [Eff.app_at hEF, Eff.app_at hFE, Eff.app_at hF, Eff.app_at hE]
  by_cases hiE : i = E.d
  · subst hiE
    have hv : F.kills.any E.v.refs = false := List.any_eq_false.2 fun x _ => by rw [hE.refs]; simp
    simp [hd, h1, hv]
  · by_cases hiF : i = F.d
    · subst hiF
      have hv : E.kills.any F.v.refs = false := List.any_eq_false.2 fun x _ => by rw [hF.refs]; simp
      simp [hiE, h2, hv]
    · simp only [hiE, hiF, if_false]
      by_cases hkE : i ∈ E.kills
      · by_cases hkF : i ∈ F.kills
        · simp [hkE, hkF]
        · have hv : F.kills.any AV.dead.refs = false := List.any_eq_false.2 fun x _ => by simp [AV.refs]
          simp [hkE, hkF, hv]
      · by_cases hkF : i ∈ F.kills
        · have hv : E.kills.any AV.dead.refs = false := List.any_eq_false.2 fun x _ => by simp [AV.refs]
          simp [hkE, hkF, hv]
        · have hvE : E.kills.any AV.dead.refs = false := List.any_eq_false.2 fun x _ => by simp [AV.refs]
          have hvF : F.kills.any AV.dead.refs = false := List.any_eq_false.2 fun x _ => by simp [AV.refs]
          simp only [hkE, hkF, if_false]
          cases hE' : E.kills.any (S.at i).refs <;> cases hF' : F.kills.any (S.at i).refs <;> simp [hE', hF', hvE, hvF]

/-! ### lists out of parts -/
theorem put_dead_at {S : St} {r x : Nat} (h : VD (S.at r)) : (S.put (some x) .dead).at r = if r = x then .dead else S.at r := by
  have hr : (S.at r).refs x = false := by rcases h with ⟨a, h⟩ | h <;> rw [h] <;> rfl
  rw [put_at, hr]
  by_cases hx : r = x
  · subst hx
    by_cases hl : r < S.length
    · simp [hl, AV.refs]
    · have : S.at r = .dead := by unfold St.at; rw [List.getD_eq_getElem?_getD, List.getElem?_eq_none (by omega)]; rfl
      simp [hl, this]
  · simp [hx]
theorem kills_VD : ∀ (ks : List Nat) {S : St} {r : Nat}, VD (S.at r) → (killsOf ks S).at r = if r ∈ ks then .dead else S.at r
  | [], S, r, h => by simp [killsOf]
  | x :: l, S, r, h => by
    have h1 := put_dead_at (x := x) h
    have hv : VD ((S.put (some x) .dead).at r) := by rw [h1]; split; exact .inr rfl; exact h
    simp only [killsOf]
    rw [kills_VD l hv, h1]
    by_cases hx : r = x <;> by_cases hl : r ∈ l <;> simp [hx, hl]
theorem opVD_kills {S : St} {ks : List Nat} {x : Operand} (h : opVD S x) : opVD (killsOf ks S) x := by
  cases x with
  | tmp i =>
    simp only [opVD] at h ⊢
    rw [kills_VD ks h]
    split
    · exact .inr rfl
    · exact h
  | const c => trivial
  | func f => exact h
  | global g => exact h
theorem parts_eff {ps : List (Nat × Operand)} : ∀ (r : List TypeId) (j : Nat) {S : St}, (∀ q ∈ ps, opVD S q.2) → ∃ oL : Option (List TV × List Nat), (∀ l ks, oL = some (l, ks) → ks.Nodup ∧ ∀ x ∈ ks, x ∈ ps.flatMap (fun q => tmpOf q.2) ∧ ∃ a, S.at x = .v a []) ∧
    ∀ S', Agr S S' (ps.flatMap fun q => tmpOf q.2) → S'.parts Θ ps r j = oL.map fun q => (q.1, killsOf q.2 S')
  | [], j, S, hx => ⟨some ([], []), fun l ks e => by
      injection e with e
      injection e with _ e
      subst e
      exact ⟨List.nodup_nil, fun x hx => by cases hx⟩, fun S' ha => rfl⟩
  | T :: r, j, S, hx => by
    cases hf : ps.find? (fun q => Nat.beq q.1 j) with
    | none =>
      cases hz : zeroTV Θ T with
      | none => exact ⟨none, fun l ks e => (by cases e), fun S' ha => by simp only [St.parts, hf, hz]; rfl⟩
      | some a =>
        obtain ⟨oL, h1, h2⟩ := parts_eff r (j + 1) hx
        cases oL with
        | none => exact ⟨none, fun l ks e => (by cases e), fun S' ha => by simp only [St.parts, hf, hz, h2 S' ha]; rfl⟩
        | some q =>
          refine ⟨some (a :: q.1, q.2), fun l ks e => ?_, fun S' ha => by simp only [St.parts, hf, hz, h2 S' ha]; rfl⟩
          injection e with e
          injection e with _ e
          subst e
          exact h1 q.1 q.2 rfl
    | some q =>
      have hq : q ∈ ps := List.mem_of_find?_eq_some hf
      have hsub : ∀ r ∈ tmpOf q.2, r ∈ ps.flatMap fun q => tmpOf q.2 := fun r hr => List.mem_flatMap.2 ⟨q, hq, hr⟩
      obtain ⟨oB, b1, b2⟩ := take_eff2 (Θ := Θ) (hx q hq) T
      cases oB with
      | none => exact ⟨none, fun l ks e => (by cases e), fun S' ha => by simp only [St.parts, hf, b2 S' fun r hr => ha r (hsub r hr)]; rfl⟩
      | some bk =>
        obtain ⟨b, ks⟩ := bk
        obtain ⟨hnd, hks⟩ := b1 b ks rfl
        obtain ⟨oL, h1, h2⟩ := parts_eff r (j + 1) (S := killsOf ks S) (fun q hq => opVD_kills (hx q hq))
        have hag : ∀ S', Agr S S' (ps.flatMap fun q => tmpOf q.2) → Agr (killsOf ks S) (killsOf ks S') (ps.flatMap fun q => tmpOf q.2) := fun S' ha r hr => by
          obtain ⟨q', hq', hr'⟩ := List.mem_flatMap.1 hr
          have hv : VD (S.at r) := by
            have := hx q' hq'
            cases hq2 : q'.2 with
            | tmp i =>
              rw [hq2] at this hr'
              simp only [tmpOf, List.mem_singleton] at hr'
              subst hr'
              exact this
            | const c => rw [hq2] at hr'; simp [tmpOf] at hr'
            | func f => rw [hq2] at hr'; simp [tmpOf] at hr'
            | global g => rw [hq2] at hr'; simp [tmpOf] at hr'
          rw [kills_VD ks hv, kills_VD ks (by rw [ha r hr]; exact hv), ha r hr]
        cases oL with
        | none => exact ⟨none, fun l ks e => (by cases e), fun S' ha => by simp only [St.parts, hf, b2 S' fun r hr => ha r (hsub r hr), Option.map_some, h2 _ (hag S' ha)]; rfl⟩
        | some lk =>
          obtain ⟨l, ks2⟩ := lk
          obtain ⟨hnd2, hks2⟩ := h1 l ks2 rfl
          refine ⟨some (b :: l, ks ++ ks2), fun l' ks' e => ?_, fun S' ha => by simp only [St.parts, hf, b2 S' fun r hr => ha r (hsub r hr), Option.map_some, h2 _ (hag S' ha), killsOf_app]⟩
          injection e with e
          injection e with _ e
          subst e
          have hv2 : ∀ x ∈ ks2, x ∉ ks ∧ ∃ a, S.at x = .v a [] := fun x hx2 => by
            obtain ⟨m1, a, m2⟩ := hks2 x hx2
            have hv : VD (S.at x) := by
              obtain ⟨q', hq', hr'⟩ := List.mem_flatMap.1 m1
              have := hx q' hq'
              cases hq2 : q'.2 with
              | tmp i =>
                rw [hq2] at this hr'
                simp only [tmpOf, List.mem_singleton] at hr'
                subst hr'
                exact this
              | const c => rw [hq2] at hr'; simp [tmpOf] at hr'
              | func f => rw [hq2] at hr'; simp [tmpOf] at hr'
              | global g => rw [hq2] at hr'; simp [tmpOf] at hr'
            rw [kills_VD ks hv] at m2
            by_cases hk : x ∈ ks
            · rw [if_pos hk] at m2; cases m2
            · rw [if_neg hk] at m2; exact ⟨hk, a, m2⟩
          refine ⟨List.nodup_append.2 ⟨hnd, hnd2, fun a ha b hb e => by subst e; exact (hv2 a hb).1 ha⟩, fun x hx2 => ?_⟩
          rcases List.mem_append.1 hx2 with hx2 | hx2
          · exact ⟨hsub x (hks x hx2).1, (hks x hx2).2⟩
          · exact ⟨(hks2 x hx2).1, (hv2 x hx2).2⟩
theorem slice_eff {S : St} {d : Nat} {T : TypeId} {n : Nat} {hn : Hn} {ps : List (Nat × Operand)} (hx : ∀ q ∈ ps, opOK S q.2 = true) :
    ∃ oG : Option (Bool × Eff), (∀ g E, oG = some (g, E) → E.d = d ∧ noRefs E.v ∧ E.kills.Nodup ∧ ∀ r ∈ E.kills, r ∈ ps.flatMap fun q => tmpOf q.2) ∧ ∀ S', Agr S S' (ps.flatMap fun q => tmpOf q.2) → evBuildSlice Θ hn S' (some d) T n ps = oG.map fun q => (q.1, q.2.app S') := by
  cases hf : Θ.find T with
  | none => exact ⟨none, fun g E e => (by cases e), fun S' ha => by unfold evBuildSlice; simp only [hf]; rfl⟩
  | some i =>
    by_cases hform : ∃ t, i.ty = .sl t
    rotate_left
    · refine ⟨none, fun g E e => (by cases e), fun S' ha => ?_⟩
      unfold evBuildSlice
      simp only [hf]
      split
      · rename_i heq
        injection heq with heq
        subst heq
        exact absurd ⟨_, rfl⟩ hform
      · rfl
    obtain ⟨t, ht⟩ := hform
    obtain ⟨q1, ty, e, q4⟩ := i
    simp only at ht
    subst ht
    obtain ⟨oL, l1, l2⟩ := parts_eff (Θ := Θ) (List.replicate n e) 0 (fun q hq => opOK_VD (hx q hq))
    cases hc : (placesB n ps && Nat.ble n 1800) with
    | false => exact ⟨none, fun g E e => (by cases e), fun S' ha => by unfold evBuildSlice; simp only [hf, hc, cond_false]; rfl⟩
    | true =>
      cases oL with
      | none => exact ⟨none, fun g E e => (by cases e), fun S' ha => by unfold evBuildSlice; simp only [hf, hc, cond_true, l2 S' ha]; rfl⟩
      | some q =>
        obtain ⟨l, ks⟩ := q
        obtain ⟨hnd, hks⟩ := l1 l ks rfl
        cases l with
        | nil =>
          refine ⟨some (true, ⟨ks, d, .v ⟨.sl t, .o e none (hn.find (some d) .k), []⟩ []⟩), fun g E e => ?_, fun S' ha => by unfold evBuildSlice; simp only [hf, hc, cond_true, l2 S' ha]; rfl⟩
          injection e with e
          injection e with _ e
          subst e
          exact ⟨rfl, fun _ => rfl, hnd, fun r hr => (hks r hr).1⟩
        | cons a l =>
          cases hl : listOf t a.m (a :: l) with
          | none => exact ⟨none, fun g E e => (by cases e), fun S' ha => by unfold evBuildSlice; simp only [hf, hc, cond_true, l2 S' ha, Option.map_some, hl]; rfl⟩
          | some xs =>
            refine ⟨some (true, ⟨ks, d, .v ⟨.sl t, .o e none a.m, xs⟩ []⟩), fun g E e => ?_, fun S' ha => by unfold evBuildSlice; simp only [hf, hc, cond_true, l2 S' ha, Option.map_some, hl]; rfl⟩
            injection e with e
            injection e with _ e
            subst e
            exact ⟨rfl, fun _ => rfl, hnd, fun r hr => (hks r hr).1⟩

theorem opK_OK {S : St} {x : Operand} (h : opK S x = true) : opOK S x = true := by
  cases x with
  | tmp i =>
    simp only [opK] at h
    simp only [opOK]
    split at h
    · rename_i ha; rw [ha]
    · cases h
  | const c => rfl
  | func f => exact h
  | global g => exact h
theorem optInt_agr {S S' : St} {d : Int} {x : Option Operand} (h : optOK S x = true) (ha : Agr S S' (optTmp x)) : optInt Θ S' d x = optInt Θ S d x := by
  cases x with
  | none => rfl
  | some x =>
    simp only [optInt, St.rdInt, rd_agr h ha]
/-- A cut of what is read. -/
theorem cut_eff {S : St} {d : Nat} {T : TypeId} {x : Operand} {lo hi : Option Operand} (hx : opK S x = true) (hlo : optOK S lo = true) (hhi : optOK S hi = true) :
    ∃ o : Option (Bool × TV), ∀ S', Agr S S' (tmpOf x ++ (optTmp lo ++ optTmp hi)) → evSlice Θ S' (some d) T x lo hi none = o.map fun q => (q.1, S'.put (some d) (.v q.2 [])) := by
  have ag : ∀ {S' : St}, Agr S S' (tmpOf x ++ (optTmp lo ++ optTmp hi)) → S'.opv Θ 0 x = S.opv Θ 0 x ∧ S'.rd Θ 0 x = S.rd Θ 0 x ∧ optInt Θ S' 0 lo = optInt Θ S 0 lo ∧ ∀ n, optInt Θ S' n hi = optInt Θ S n hi := fun ha =>
    ⟨opv_agr (fun r hr => ha r (by simp [hr])) 0, rd_agr (opK_OK hx) (fun r hr => ha r (by simp [hr])) 0, optInt_agr hlo fun r hr => ha r (by simp [hr]), fun n => optInt_agr hhi fun r hr => ha r (by simp [hr])⟩
  have hav : (∃ t y, S.opv Θ 0 x = some (.v ⟨t, .k, y⟩ []) ∧ S.rd Θ 0 x = some ⟨t, .k, y⟩) ∨ ∃ c, x = .const c := by
    cases x with
    | tmp i =>
      simp only [opK] at hx
      split at hx
      · rename_i t y ha
        exact .inl ⟨t, y, by simp [St.opv, ha], by simp [St.rd, St.opv, ha, St.rdA]⟩
      · cases hx
    | const c => exact .inr ⟨c, rfl⟩
    | func f => simp [opK] at hx
    | global g => simp [opK] at hx
  have hval : (∃ a, S.opv Θ 0 x = some (.v a []) ∧ S.rd Θ 0 x = some a ∧ (a.m = .k ∨ ∃ c, x = .const c)) ∨ S.opv Θ 0 x = none := by
    rcases hav with ⟨t, y, h1, h2⟩ | ⟨c, rfl⟩
    · exact .inl ⟨_, h1, h2, .inl rfl⟩
    · simp only [St.rd, St.opv]
      cases constTV Θ 0 c with
      | none => exact .inr rfl
      | some a => exact .inl ⟨a, rfl, rfl, .inr ⟨c, rfl⟩⟩
  rcases hval with ⟨a, h1, h2, hm⟩ | h1
  rotate_left
  · exact ⟨none, fun S' ha => by unfold evSlice; rw [(ag ha).1, h1]; rfl⟩
  cases hl : optInt Θ S 0 lo with
  | none =>
    refine ⟨none, fun S' ha => ?_⟩
    obtain ⟨e1, e2, e3, e4⟩ := ag ha
    unfold evSlice
    rw [e1, e2, e3, h1, h2, hl]
    obtain ⟨t, m, y⟩ := a
    cases t <;> rfl
  | some l =>
    obtain ⟨t, m, y⟩ := a
    have hnone : (∀ S', evSlice Θ S' (some d) T x lo hi none = none) → ∃ o : Option (Bool × TV), ∀ S', Agr S S' (tmpOf x ++ (optTmp lo ++ optTmp hi)) → evSlice Θ S' (some d) T x lo hi none = o.map fun q => (q.1, S'.put (some d) (.v q.2 [])) := fun h => ⟨none, fun S' _ => h S'⟩
    cases t with
    | str =>
      cases hh : optInt Θ S (ByteArray.size y : Int) hi with
      | none =>
        refine ⟨none, fun S' ha => ?_⟩
        obtain ⟨e1, e2, e3, e4⟩ := ag ha
        unfold evSlice
        rw [e1, e2, e3, h1, h2, hl]
        simp only [e4, hh]
        rfl
      | some h' =>
        cases hT : Θ.is T .str with
        | false =>
          refine ⟨none, fun S' ha => ?_⟩
          obtain ⟨e1, e2, e3, e4⟩ := ag ha
          unfold evSlice
          rw [e1, e2, e3, h1, h2, hl]
          simp only [e4, hh, hT]
          rfl
        | true =>
          refine ⟨some (decide (0 ≤ l) && decide (l ≤ h') && decide (h' ≤ (ByteArray.size y : Int)), ⟨.str, .k, ByteArray.extract y l.toNat h'.toNat⟩), fun S' ha => ?_⟩
          obtain ⟨e1, e2, e3, e4⟩ := ag ha
          unfold evSlice
          rw [e1, e2, e3, h1, h2, hl]
          simp only [e4, hh, hT]
          rfl
    | sl t =>
      cases hT : Θ.is T (.sl t) with
      | false =>
        refine ⟨none, fun S' ha => ?_⟩
        obtain ⟨e1, e2, e3, e4⟩ := ag ha
        unfold evSlice
        rw [e1, e2, e3, h1, h2, hl]
        simp only [hT]
        rfl
      | true =>
        cases hh : optInt Θ S (List.length y : Int) hi with
        | none =>
          refine ⟨none, fun S' ha => ?_⟩
          obtain ⟨e1, e2, e3, e4⟩ := ag ha
          unfold evSlice
          rw [e1, e2, e3, h1, h2, hl]
          simp only [hT, e4, hh]
          rfl
        | some h' =>
          by_cases hk : m = .k
          · subst hk
            refine ⟨some (decide (0 ≤ l) && decide (l ≤ h') && decide (h' ≤ (List.length y : Int)), ⟨.sl t, .k, (List.take h'.toNat y).drop l.toNat⟩), fun S' ha => ?_⟩
            obtain ⟨e1, e2, e3, e4⟩ := ag ha
            unfold evSlice
            rw [e1, e2, e3, h1, h2, hl]
            simp only [hT, e4, hh]
            rfl
          · obtain ⟨c, rfl⟩ := hm.resolve_left hk
            refine ⟨none, fun S' ha => ?_⟩
            obtain ⟨e1, e2, e3, e4⟩ := ag ha
            unfold evSlice
            rw [e1, e2, e3, h1, h2, hl]
            simp only [hT, e4, hh, cond_true]
            cases m <;> first | exact absurd rfl hk | rfl
    | _ =>
      refine ⟨none, fun S' ha => ?_⟩
      obtain ⟨e1, e2, e3, e4⟩ := ag ha
      unfold evSlice
      rw [e1, e2, e3, h1, h2, hl]
      rfl
/-- A place in what is read. -/
theorem iaddr_eff {S : St} {d : Nat} {T : TypeId} {x ix : Operand} (hx : opK S x = true) (hix : opOK S ix = true) :
    ∃ o : Option (Bool × TV), ∀ S', Agr S S' (tmpOf x ++ tmpOf ix) → evIndexAddr Θ S' (some d) T x ix = o.map fun q => (q.1, S'.put (some d) (.v q.2 [])) := by
  have ag : ∀ {S' : St}, Agr S S' (tmpOf x ++ tmpOf ix) → S'.opv Θ 0 x = S.opv Θ 0 x ∧ S'.rdInt Θ ix = S.rdInt Θ ix := fun ha =>
    ⟨opv_agr (fun r hr => ha r (by simp [hr])) 0, by unfold St.rdInt; rw [rd_agr hix (fun r hr => ha r (by simp [hr])) 0]⟩
  have hval : (∃ a, S.opv Θ 0 x = some (.v a []) ∧ (a.m = .k ∨ ∃ c, x = .const c)) ∨ S.opv Θ 0 x = none := by
    cases x with
    | tmp i =>
      simp only [opK] at hx
      split at hx
      · rename_i t y ha
        exact .inl ⟨⟨t, .k, y⟩, by simp [St.opv, ha], .inl rfl⟩
      · cases hx
    | const c =>
      simp only [St.opv]
      cases constTV Θ 0 c with
      | none => exact .inr rfl
      | some a => exact .inl ⟨a, rfl, .inr ⟨c, rfl⟩⟩
    | func f => simp [opK] at hx
    | global g => simp [opK] at hx
  rcases hval with ⟨a, h1, hm⟩ | h1
  rotate_left
  · exact ⟨none, fun S' ha => by unfold evIndexAddr; rw [(ag ha).1, h1]; rfl⟩
  cases hn : S.rdInt Θ ix with
  | none =>
    refine ⟨none, fun S' ha => ?_⟩
    obtain ⟨e1, e2⟩ := ag ha
    unfold evIndexAddr
    rw [e1, e2, h1, hn]
    obtain ⟨t, m, y⟩ := a
    cases t <;> rfl
  | some n =>
    obtain ⟨t, m, y⟩ := a
    cases t with
    | sl t =>
      cases hT : Θ.is T (.sl t) with
      | false =>
        refine ⟨none, fun S' ha => ?_⟩
        obtain ⟨e1, e2⟩ := ag ha
        unfold evIndexAddr
        rw [e1, e2, h1, hn]
        simp only [hT]
        rfl
      | true =>
        by_cases hk : m = .k
        · subst hk
          refine ⟨some (inB n (List.length y), ⟨.ptr t, .k, List.getD y n.toNat t.z⟩), fun S' ha => ?_⟩
          obtain ⟨e1, e2⟩ := ag ha
          unfold evIndexAddr
          rw [e1, e2, h1, hn]
          simp only [hT]
          rfl
        · obtain ⟨c, rfl⟩ := hm.resolve_left hk
          refine ⟨none, fun S' ha => ?_⟩
          obtain ⟨e1, e2⟩ := ag ha
          unfold evIndexAddr
          rw [e1, e2, h1, hn]
          simp only [hT, cond_true]
          cases m <;> first | exact absurd rfl hk | rfl
    | _ =>
      refine ⟨none, fun S' ha => ?_⟩
      obtain ⟨e1, e2⟩ := ag ha
      unfold evIndexAddr
      rw [e1, e2, h1, hn]
      rfl
/-! ### a group's operation -/
theorem grp_dst {S : St} {o : Oper} (hg : grpOK O ops S o = true) : o.guard = none ∧ ∃ d, o.dst = some d ∧ (S.at d).isV = false ∧ d < S.length := by
  unfold grpOK at hg
  simp only [Bool.and_eq_true] at hg
  obtain ⟨⟨h1, h2⟩, _⟩ := hg
  refine ⟨?_, ?_⟩
  · split at h1
    · assumption
    · cases h1
  · split at h2
    · rename_i d hd
      simp only [Bool.and_eq_true, Bool.not_eq_true'] at h2
      exact ⟨d, hd, h2.1, Nat.lt_of_lt_of_le (Nat.lt_succ_self _) (Nat.le_of_ble_eq_true h2.2)⟩
    · cases h2
theorem opOK_looks {S : St} {x : Operand} (h : opOK S x = true) : ∀ r ∈ tmpOf x, ∃ a, S.at r = .v a [] := by
  intro r hr
  rcases opOK_opv (Θ := []) h 0 with ⟨i, a, rfl, h1, _⟩ | ⟨c, rfl⟩
  · simp only [tmpOf, List.mem_singleton] at hr
    subst hr
    exact ⟨a, h1⟩
  · simp [tmpOf] at hr
theorem appendC_none {S S' : St} {Θ : Tab} {dst : Option Nat} : ∀ {as : List Operand} {ts : List TypeId}, (∀ x ∈ as, opOK S x = true) → Agr S S' (as.flatMap tmpOf) → evAppendC Θ S' dst ts as = none := by
  intro as ts hop ha
  unfold evAppendC
  split
  · rename_i x y T T'
    split
    · rename_i tt s st pp hav
      exfalso
      have h1 := hop x (by simp)
      cases x with
      | tmp i =>
        have h2 := ha i (by simp [tmpOf])
        simp only [St.opv, Option.some.injEq] at hav
        rw [h2] at hav
        simp only [opOK, hav] at h1
        cases h1
      | const c =>
        simp only [St.opv] at hav
        split at hav <;> cases hav
      | func f => simp [opOK] at h1
      | global g => simp [opOK] at h1
    · rfl
  · rfl
theorem grp_eff (hO : ODet O) {i : Nat} {o : Oper} (ho : ops[i]? = some o) {S : St} (hg : grpOK O ops S o = true) {d : Nat} (hd : o.dst = some d) :
    ∃ oE : Option Eff, (∀ E, oE = some E → E.d = d ∧ noRefs E.v ∧ E.kills.Nodup ∧ (∀ r ∈ E.kills, r ∈ looksM ops o) ∧ (callB o = true → E.kills = [])) ∧ ∀ S', Agr S S' (looksM ops o) → ∀ K, peStep h O ops i S' K = oE.bind fun E => K (E.app S') := by
  have hgd := (grp_dst hg).1
  have val : ∀ {o' : Option (Bool × TV)} {evf : St → Res}, callB o = true → (∀ S' K, peStep h O ops i S' K = match evf S' with
        | some (g, S1) => bif g then K S1 else none
        | none => none) → (∀ S', Agr S S' (looksM ops o) → evf S' = o'.map fun q => (q.1, S'.put (some d) (.v q.2 []))) →
      ∃ oE : Option Eff, (∀ E, oE = some E → E.d = d ∧ noRefs E.v ∧ E.kills.Nodup ∧ (∀ r ∈ E.kills, r ∈ looksM ops o) ∧ (callB o = true → E.kills = [])) ∧ ∀ S', Agr S S' (looksM ops o) → ∀ K, peStep h O ops i S' K = oE.bind fun E => K (E.app S') := by
    intro o' evf hc hst hev
    cases o' with
    | none => exact ⟨none, fun E e => (by cases e), fun S' ha K => by rw [hst, hev S' ha]; rfl⟩
    | some q =>
      obtain ⟨g, r⟩ := q
      cases g with
      | false => exact ⟨none, fun E e => (by cases e), fun S' ha K => by rw [hst, hev S' ha]; rfl⟩
      | true =>
        refine ⟨some ⟨[], d, .v r []⟩, fun E e => ?_, fun S' ha K => by rw [hst, hev S' ha]; rfl⟩
        injection e with e
        subst e
        exact ⟨rfl, fun _ => rfl, List.nodup_nil, fun r hr => (by cases hr), fun _ => rfl⟩
  unfold grpOK at hg
  simp only [Bool.and_eq_true] at hg
  have hop := hg.2
  split at hop
  · rename_i f as ts hop'
    simp only [Bool.and_eq_true, List.all_eq_true] at hop
    obtain ⟨oE, h1, h2⟩ := call_eff (h := h) hO ho hgd hd hop' hop.1 hop.2
    have hl : looksM ops o = as.toList.flatMap tmpOf := by unfold looksM; rw [hop']
    refine ⟨oE, fun E hE => ?_, fun S' ha => h2 S' (by rw [hl] at ha; exact ha)⟩
    obtain ⟨e1, e2, e3⟩ := h1 E hE
    exact ⟨e1, e3, by rw [e2]; exact List.nodup_nil, fun r hr => by rw [e2] at hr; (cases hr), fun _ => e2⟩
  · rename_i as ts hop'
    simp only [List.all_eq_true] at hop
    have hl : looksM ops o = as.toList.flatMap tmpOf := by unfold looksM; rw [hop']
    have hcb : callB o = false := by unfold callB; rw [hop']
    have hstep : ∀ S' K, Agr S S' (as.toList.flatMap tmpOf) → peStep h O ops i S' K = match evAppend h.tab S' (some d) ts.toList as.toList with
        | some (g, S1) => bif g then K S1 else none
        | none => none := by
      intro S' K ha
      unfold peStep
      rw [ho]
      simp only [hgd]
      unfold peOp
      rw [hop']
      simp only [ev, hop', hd]
      rcases evAppend h.tab S' (some d) ts.toList as.toList with _ | ⟨g, S1⟩
      · simp only [appendC_none hop ha]
      · rfl
    have fin : ∀ oG : Option (Bool × Eff), (∀ g E, oG = some (g, E) → E.d = d ∧ noRefs E.v ∧ E.kills.Nodup ∧ ∀ r ∈ E.kills, r ∈ as.toList.flatMap tmpOf) → (∀ S', Agr S S' (as.toList.flatMap tmpOf) → evAppend h.tab S' (some d) ts.toList as.toList = oG.map fun q => (q.1, q.2.app S')) →
        ∃ oE : Option Eff, (∀ E, oE = some E → E.d = d ∧ noRefs E.v ∧ E.kills.Nodup ∧ (∀ r ∈ E.kills, r ∈ looksM ops o) ∧ (callB o = true → E.kills = [])) ∧ ∀ S', Agr S S' (looksM ops o) → ∀ K, peStep h O ops i S' K = oE.bind fun E => K (E.app S') := by
      intro oG h1 h2
      cases oG with
      | none => exact ⟨none, fun E e => (by cases e), fun S' ha K => by rw [hstep S' K (by rw [hl] at ha; exact ha), h2 S' (by rw [hl] at ha; exact ha)]; rfl⟩
      | some q =>
        obtain ⟨g, E⟩ := q
        cases g with
        | false => exact ⟨none, fun E e => (by cases e), fun S' ha K => by rw [hstep S' K (by rw [hl] at ha; exact ha), h2 S' (by rw [hl] at ha; exact ha)]; rfl⟩
        | true =>
          refine ⟨some E, fun E' e => ?_, fun S' ha K => by rw [hstep S' K (by rw [hl] at ha; exact ha), h2 S' (by rw [hl] at ha; exact ha)]; rfl⟩
          injection e with e
          subst e
          obtain ⟨e1, e2, e3, e4⟩ := h1 true E rfl
          exact ⟨e1, e2, e3, by rw [hl]; exact e4, fun hc => by rw [hcb] at hc; cases hc⟩
    by_cases hform : ∃ x y T T', as.toList = [x, y] ∧ ts.toList = [T, T']
    · obtain ⟨x, y, T, T', ha, ht⟩ := hform
      rw [ha] at hop
      obtain ⟨oG, h1, h2⟩ := append_eff (Θ := h.tab) (d := d) (T := T) (T' := T') (hop x (by simp)) (hop y (by simp))
      refine fin oG ?_ ?_
      · intro g E e
        obtain ⟨e1, e2, e3, e4⟩ := h1 g E e
        exact ⟨e1, e2, e3, fun r hr => by rw [ha]; simpa using e4 r hr⟩
      · intro S' hs
        rw [ha, ht]
        exact h2 S' (by rw [ha] at hs; simpa using hs)
    · refine fin none (fun g E e => (by cases e)) fun S' hs => ?_
      unfold evAppend
      split
      · rename_i x y T T' ha ht
        exact absurd ⟨x, y, T, T', ha, ht⟩ hform
      · rfl
  · rename_i T n ps hop'
    simp only [List.all_eq_true] at hop
    have hl : looksM ops o = ps.toList.flatMap fun q => tmpOf q.2 := by unfold looksM; rw [hop']
    have hcb : callB o = false := by unfold callB; rw [hop']
    have hstep : ∀ S' K, peStep h O ops i S' K = match evBuildSlice h.tab h.hn S' (some d) T n ps.toList with
        | some (g, S1) => bif g then K S1 else none
        | none => none := by
      intro S' K
      unfold peStep
      rw [ho]
      simp only [hgd]
      unfold peOp
      rw [hop']
      simp only [ev, hop', hd]
      rcases evBuildSlice h.tab h.hn S' (some d) T n ps.toList with _ | ⟨g, S1⟩ <;> rfl
    obtain ⟨oG, h1, h2⟩ := slice_eff (Θ := h.tab) (d := d) (T := T) (n := n) (hn := h.hn) hop
    cases oG with
    | none => exact ⟨none, fun E e => (by cases e), fun S' ha K => by rw [hstep, h2 S' (by rw [hl] at ha; exact ha)]; rfl⟩
    | some q =>
      obtain ⟨g, E⟩ := q
      cases g with
      | false => exact ⟨none, fun E e => (by cases e), fun S' ha K => by rw [hstep, h2 S' (by rw [hl] at ha; exact ha)]; rfl⟩
      | true =>
        refine ⟨some E, fun E' e => ?_, fun S' ha K => by rw [hstep, h2 S' (by rw [hl] at ha; exact ha)]; rfl⟩
        injection e with e
        subst e
        obtain ⟨e1, e2, e3, e4⟩ := h1 true E rfl
        exact ⟨e1, e2, e3, by rw [hl]; exact e4, fun hc => by rw [hcb] at hc; cases hc⟩
  · rename_i T x hop'
    split at hop
    case h_4 => cases hop
    case h_2 =>
      rename_i t y hb hx
      have hl : looksM ops o = [x] := by unfold looksM; rw [hop']; simp only [hb]
      refine val (evf := fun S' => evLoad h.tab S' (some d) T (.tmp x)) (o' := (bif h.tab.is T t then some (true, ⟨t, .k, y⟩) else none)) (by unfold callB; rw [hop']) (fun S' K => by unfold peStep; rw [ho]; simp only [hgd]; unfold peOp; rw [hop']; simp only [ev, hop', hd]; rcases evLoad h.tab S' (some d) T (.tmp x) with _ | ⟨g, S1⟩ <;> rfl) fun S' ha => ?_
      rw [hl] at ha
      have h1 : S'.at x = .v ⟨.ptr t, .k, y⟩ [] := (ha x (by simp)).trans hx
      unfold evLoad
      simp only [St.opv, h1, St.tgt, St.loadAt, Tgt.ty, kTV]
      cases h.tab.is T t <;> rfl
    case h_3 =>
      rename_i t T1 tg me y hb hx
      have hl : looksM ops o = [x] := by unfold looksM; rw [hop']; simp only [hb]
      split at hop
      case h_2 => cases hop
      rename_i b hgl
      refine val (evf := fun S' => evLoad h.tab S' (some d) T (.tmp x)) (o' := match S.place x [.deref] with
        | some c => bif h.tab.is T t then some (true, kTV c) else none
        | none => none) (by unfold callB; rw [hop']) (fun S' K => by unfold peStep; rw [ho]; simp only [hgd]; unfold peOp; rw [hop']; simp only [ev, hop', hd]; rcases evLoad h.tab S' (some d) T (.tmp x) with _ | ⟨g, S1⟩ <;> rfl) fun S' ha => ?_
      rw [hl] at ha
      have h1 : S'.at x = .v ⟨.ptr t, .o T1 tg me, y⟩ [] := (ha x (by simp)).trans hx
      have h2 : S'.glance x [.deref] = some b := by rw [← hgl]; unfold St.glance; rw [ha x (by simp)]
      have h3 : S'.place x [.deref] = S.place x [.deref] := by unfold St.place; rw [ha x (by simp)]
      unfold evLoad
      simp only [St.opv, h1, St.tgt, St.loadAt, h2, hop, cond_true, h3, Tgt.ty]
      cases S.place x [.deref] with
      | none => rfl
      | some c => simp only; cases h.tab.is T t <;> rfl
    rename_i s t s' p hb hx
    simp only [Bool.and_eq_true] at hop
    obtain ⟨hs, hk⟩ := hop
    have := Nat.eq_of_beq_eq_true hs
    subst this
    have hl : looksM ops o = [x, s'] := by unfold looksM; rw [hop']; simp only [hb]
    have hstep : ∀ S' K, peStep h O ops i S' K = match evLoad h.tab S' (some d) T (.tmp x) with
        | some (g, S1) => bif g then K S1 else none
        | none => none := by
      intro S' K
      unfold peStep
      rw [ho]
      simp only [hgd]
      unfold peOp
      rw [hop']
      simp only [ev, hop', hd]
      rcases evLoad h.tab S' (some d) T (.tmp x) with _ | ⟨g, S1⟩ <;> rfl
    split at hk
    case h_2 => cases hk
    rename_i b hgl
    have hev : ∀ S', Agr S S' [x, s'] → evLoad h.tab S' (some d) T (.tmp x) = match S.place s' p with
        | some c => bif h.tab.is T t then some (true, S'.put (some d) (.v (kTV c) [])) else none
        | none => none := by
      intro S' ha
      have h1 : S'.at x = .ad t s' p := (ha x (by simp)).trans hx
      have h2 : S'.glance s' p = some b := by rw [← hgl]; unfold St.glance; rw [ha s' (by simp)]
      have h3 : S'.place s' p = S.place s' p := by unfold St.place; rw [ha s' (by simp)]
      unfold evLoad
      simp only [St.opv, h1, St.tgt, St.loadAt, h2, hk, cond_true, h3]
      cases S.place s' p <;> rfl
    cases hp : S.place s' p with
    | none => exact ⟨none, fun E e => (by cases e), fun S' ha K => by rw [hstep, hev S' (by rw [hl] at ha; exact ha), hp]; rfl⟩
    | some c =>
      cases hT : h.tab.is T t with
      | false => exact ⟨none, fun E e => (by cases e), fun S' ha K => by rw [hstep, hev S' (by rw [hl] at ha; exact ha), hp]; simp only [hT]; rfl⟩
      | true =>
        refine ⟨some ⟨[], d, .v (kTV c) []⟩, fun E e => ?_, fun S' ha K => by rw [hstep, hev S' (by rw [hl] at ha; exact ha), hp]; simp only [hT]; rfl⟩
        injection e with e
        subst e
        exact ⟨rfl, fun _ => rfl, List.nodup_nil, fun r hr => (by cases hr), fun _ => rfl⟩
  · rename_i T x lo hi hop'
    simp only [Bool.and_eq_true] at hop
    obtain ⟨o', h1⟩ := cut_eff (Θ := h.tab) (d := d) (T := T) hop.1 hop.2.1 hop.2.2
    have hl : looksM ops o = tmpOf x ++ (optTmp lo ++ optTmp hi) := by unfold looksM; rw [hop']
    exact val (o' := o') (by unfold callB; rw [hop']) (fun S' K => by unfold peStep; rw [ho]; simp only [hgd]; unfold peOp; rw [hop']; simp only [ev, hop', hd]; rcases evSlice h.tab S' (some d) T x lo hi none with _ | ⟨g, S1⟩ <;> rfl) fun S' ha => h1 S' (by rw [hl] at ha; exact ha)
  · rename_i T x ix hop'
    simp only [Bool.and_eq_true] at hop
    obtain ⟨o', h1⟩ := iaddr_eff (Θ := h.tab) (d := d) (T := T) hop.1 hop.2
    have hl : looksM ops o = tmpOf x ++ tmpOf ix := by unfold looksM; rw [hop']
    exact val (o' := o') (by unfold callB; rw [hop']) (fun S' K => by unfold peStep; rw [ho]; simp only [hgd]; unfold peOp; rw [hop']; simp only [ev, hop', hd]; rcases evIndexAddr h.tab S' (some d) T x ix with _ | ⟨g, S1⟩ <;> rfl) fun S' ha => h1 S' (by rw [hl] at ha; exact ha)
  · cases hop
theorem grp_looks {S : St} {o : Oper} (hg : grpOK O ops S o = true) : (callB o = true ∨ ∀ r ∈ looksM ops o, ∃ a, S.at r = .v a []) ∧ ∀ r ∈ looksM ops o, S.at r ≠ .dead ∧ ∀ x, (S.at r).refs x = true → x ∈ looksM ops o := by
  have key : (∀ r ∈ looksM ops o, ∃ a, S.at r = .v a []) → (callB o = true ∨ ∀ r ∈ looksM ops o, ∃ a, S.at r = .v a []) ∧ ∀ r ∈ looksM ops o, S.at r ≠ .dead ∧ ∀ x, (S.at r).refs x = true → x ∈ looksM ops o := fun h => by
    refine ⟨.inr h, fun r hr => ?_⟩
    obtain ⟨a, ha⟩ := h r hr
    rw [ha]
    exact ⟨fun e => (by cases e), fun x hx => by simp [AV.refs] at hx⟩
  unfold grpOK at hg
  simp only [Bool.and_eq_true] at hg
  have hop := hg.2
  split at hop
  · rename_i f as ts hop'
    simp only [Bool.and_eq_true, List.all_eq_true] at hop
    refine key fun r hr => ?_
    unfold looksM at hr
    rw [hop'] at hr
    obtain ⟨x, hx, hr⟩ := List.mem_flatMap.1 hr
    exact opOK_looks (hop.2 x hx) r hr
  · rename_i as ts hop'
    simp only [List.all_eq_true] at hop
    refine key fun r hr => ?_
    unfold looksM at hr
    rw [hop'] at hr
    obtain ⟨x, hx, hr⟩ := List.mem_flatMap.1 hr
    exact opOK_looks (hop x hx) r hr
  · rename_i T n ps hop'
    simp only [List.all_eq_true] at hop
    refine key fun r hr => ?_
    unfold looksM at hr
    rw [hop'] at hr
    obtain ⟨x, hx, hr⟩ := List.mem_flatMap.1 hr
    exact opOK_looks (hop x hx) r hr
  · rename_i T x hop'
    split at hop
    case h_4 => cases hop
    case h_2 =>
      rename_i t y hb hx
      have hl : looksM ops o = [x] := by unfold looksM; rw [hop']; simp only [hb]
      refine key fun r hr => ?_
      rw [hl] at hr
      simp only [List.mem_singleton] at hr
      subst hr
      exact ⟨_, hx⟩
    case h_3 =>
      rename_i t T1 tg me y hb hx
      have hl : looksM ops o = [x] := by unfold looksM; rw [hop']; simp only [hb]
      refine key fun r hr => ?_
      rw [hl] at hr
      simp only [List.mem_singleton] at hr
      subst hr
      exact ⟨_, hx⟩
    rename_i s t s' p hb hx
    simp only [Bool.and_eq_true] at hop
    obtain ⟨hs, hk⟩ := hop
    have := Nat.eq_of_beq_eq_true hs
    subst this
    have hl : looksM ops o = [x, s'] := by unfold looksM; rw [hop']; simp only [hb]
    refine ⟨.inl (by unfold callB; rw [hop']), fun r hr => ?_⟩
    rw [hl] at hr ⊢
    simp only [List.mem_cons, List.not_mem_nil, or_false] at hr
    rcases hr with rfl | rfl
    · rw [hx]
      refine ⟨fun e => (by cases e), fun y hy => ?_⟩
      simp only [AV.refs] at hy
      have := Nat.eq_of_beq_eq_true hy
      simp [this]
    · split at hk
      case h_2 => cases hk
      rename_i b hgl
      unfold St.glance at hgl
      split at hgl
      · rename_i a ex ha
        rw [ha]
        exact ⟨fun e => (by cases e), fun y hy => by simp [AV.refs] at hy⟩
      · cases hgl
  · rename_i T x lo hi hop'
    simp only [Bool.and_eq_true] at hop
    have hl : looksM ops o = tmpOf x ++ (optTmp lo ++ optTmp hi) := by unfold looksM; rw [hop']
    refine key fun r hr => ?_
    rw [hl] at hr
    have hopt : ∀ {y : Option Operand}, optOK S y = true → r ∈ optTmp y → ∃ a, S.at r = .v a [] := fun {y} h hr => by
      cases y with
      | none => simp [optTmp] at hr
      | some y => exact opOK_looks h r hr
    rcases List.mem_append.1 hr with hr | hr
    · exact opOK_looks (opK_OK hop.1) r hr
    · rcases List.mem_append.1 hr with hr | hr
      · exact hopt hop.2.1 hr
      · exact hopt hop.2.2 hr
  · rename_i T x ix hop'
    simp only [Bool.and_eq_true] at hop
    have hl : looksM ops o = tmpOf x ++ tmpOf ix := by unfold looksM; rw [hop']
    refine key fun r hr => ?_
    rw [hl] at hr
    rcases List.mem_append.1 hr with hr | hr
    · exact opOK_looks (opK_OK hop.1) r hr
    · exact opOK_looks hop.2 r hr
  · cases hop
theorem opOK_agr {S S' : St} {x : Operand} (h : opOK S x = true) (ha : Agr S S' (tmpOf x)) : opOK S' x = true := by
  cases x with
  | tmp i => simp only [opOK, ha i (by simp [tmpOf])] at h ⊢; exact h
  | const c => rfl
  | func f => exact h
  | global g => exact h
theorem opK_agr {S S' : St} {x : Operand} (h : opK S x = true) (ha : Agr S S' (tmpOf x)) : opK S' x = true := by
  cases x with
  | tmp i => simp only [opK, ha i (by simp [tmpOf])] at h ⊢; exact h
  | const c => rfl
  | func f => exact h
  | global g => exact h
theorem grpOK_agr {S S' : St} {o : Oper} (hg : grpOK O ops S o = true) (ha : Agr S S' (looksM ops o)) (hl : S'.length = S.length) (hd : ∀ d, o.dst = some d → (S'.at d).isV = false) : grpOK O ops S' o = true := by
  obtain ⟨h1, d, h2, h3, h4⟩ := grp_dst hg
  unfold grpOK at hg ⊢
  simp only [Bool.and_eq_true] at hg ⊢
  refine ⟨⟨hg.1.1, ?_⟩, ?_⟩
  · rw [h2]
    simp only [hd d h2, Bool.not_false, Bool.true_and]
    rw [hl]
    exact Nat.ble_eq_true_of_le h4
  · have hop := hg.2
    split at hop
    · rename_i f as ts hop'
      have hlk : looksM ops o = as.toList.flatMap tmpOf := by unfold looksM; rw [hop']
      rw [hlk] at ha
      simp only [Bool.and_eq_true, List.all_eq_true] at hop
      simp only [Bool.and_eq_true, List.all_eq_true]
      exact ⟨hop.1, fun x hx => opOK_agr (hop.2 x hx) fun r hr => ha r (List.mem_flatMap.2 ⟨x, hx, hr⟩)⟩
    · rename_i as ts hop'
      have hlk : looksM ops o = as.toList.flatMap tmpOf := by unfold looksM; rw [hop']
      rw [hlk] at ha
      simp only [List.all_eq_true] at hop
      simp only [List.all_eq_true]
      exact fun x hx => opOK_agr (hop x hx) fun r hr => ha r (List.mem_flatMap.2 ⟨x, hx, hr⟩)
    · rename_i T n ps hop'
      have hlk : looksM ops o = ps.toList.flatMap fun q => tmpOf q.2 := by unfold looksM; rw [hop']
      rw [hlk] at ha
      simp only [List.all_eq_true] at hop
      simp only [List.all_eq_true]
      exact fun x hx => opOK_agr (hop x hx) fun r hr => ha r (List.mem_flatMap.2 ⟨x, hx, hr⟩)
    · rename_i T x hop'
      split at hop
      case h_4 => cases hop
      case h_2 =>
        rename_i t y hb hx
        have hlk : looksM ops o = [x] := by unfold looksM; rw [hop']; simp only [hb]
        rw [hlk] at ha
        rw [hb, (ha x (by simp)).trans hx]
      case h_3 =>
        rename_i t T1 tg me y hb hx
        have hlk : looksM ops o = [x] := by unfold looksM; rw [hop']; simp only [hb]
        rw [hlk] at ha
        have h2 : S'.glance x [.deref] = S.glance x [.deref] := by unfold St.glance; rw [ha x (by simp)]
        rw [hb, (ha x (by simp)).trans hx]
        simp only [h2]
        exact hop
      rename_i s t s' p hb hx
      simp only [Bool.and_eq_true] at hop
      obtain ⟨hs, hk⟩ := hop
      have := Nat.eq_of_beq_eq_true hs
      subst this
      have hlk : looksM ops o = [x, s'] := by unfold looksM; rw [hop']; simp only [hb]
      rw [hlk] at ha
      have h1 : S'.at x = .ad t s' p := (ha x (by simp)).trans hx
      have h2 : S'.glance s' p = S.glance s' p := by unfold St.glance; rw [ha s' (by simp)]
      rw [hb, h1]
      simp only [Bool.and_eq_true, h2]
      exact ⟨Nat.beq_refl _, hk⟩
    · rename_i T x lo hi hop'
      simp only [Bool.and_eq_true] at hop
      have hlk : looksM ops o = tmpOf x ++ (optTmp lo ++ optTmp hi) := by unfold looksM; rw [hop']
      rw [hlk] at ha
      simp only [Bool.and_eq_true]
      have hopt : ∀ {y : Option Operand}, optOK S y = true → (∀ r ∈ optTmp y, r ∈ tmpOf x ++ (optTmp lo ++ optTmp hi)) → optOK S' y = true := fun {y} h hs => by
        cases y with
        | none => rfl
        | some y => exact opOK_agr h fun r hr => ha r (hs r hr)
      exact ⟨opK_agr hop.1 fun r hr => ha r (by simp [hr]), hopt hop.2.1 fun r hr => by simp [hr], hopt hop.2.2 fun r hr => by simp [hr]⟩
    · rename_i T x ix hop'
      simp only [Bool.and_eq_true] at hop
      have hlk : looksM ops o = tmpOf x ++ tmpOf ix := by unfold looksM; rw [hop']
      rw [hlk] at ha
      simp only [Bool.and_eq_true]
      exact ⟨opK_agr hop.1 fun r hr => ha r (by simp [hr]), opOK_agr hop.2 fun r hr => ha r (by simp [hr])⟩
    · cases hop
theorem grp_in {S : St} {o : Oper} (hg : grpOK O ops S o = true) {d : Nat} (hd : o.dst = some d) {E : Eff} (he : E.d = d ∧ noRefs E.v ∧ E.kills.Nodup ∧ (∀ r ∈ E.kills, r ∈ looksM ops o) ∧ (callB o = true → E.kills = [])) : E.In S := by
  obtain ⟨_, d', h2, h3, h4⟩ := grp_dst hg
  rw [hd] at h2
  injection h2 with h2
  subst h2
  obtain ⟨e1, e2, e3, e4, e5⟩ := he
  have hv : ∀ r ∈ E.kills, ∃ a, S.at r = .v a [] := fun r hr => by
    rcases (grp_looks hg).1 with hc | hv
    · rw [e5 hc] at hr; cases hr
    · exact hv r (e4 r hr)
  refine ⟨e3, hv, by rw [e1]; exact h3, by rw [e1]; exact h4, e2, fun hk => ?_⟩
  obtain ⟨a, ha⟩ := hv _ hk
  rw [e1] at ha
  rw [ha] at h3
  cases h3
theorem refs_notV {a : AV} {x : Nat} (h : a.refs x = true) : a.isV = false := by cases a <;> first | rfl | (simp [AV.refs] at h)
theorem app_isV {E : Eff} {S : St} (h : E.In S) {i : Nat} (hi : i ≠ E.d) (hv : (S.at i).isV = false) : ((E.app S).at i).isV = false := by
  rw [Eff.app_at h, if_neg hi]
  split
  · rfl
  · cases E.kills.any (S.at i).refs with
    | true => rfl
    | false => exact hv
theorem app_notV {E : Eff} {S : St} (h : E.In S) {i : Nat} (hi : i ≠ E.d) (hk : i ∉ E.kills) (hv : ((E.app S).at i).isV = false) : (S.at i).isV = false := by
  rw [Eff.app_at h, if_neg hi, if_neg hk] at hv
  cases ha : E.kills.any (S.at i).refs with
  | true =>
    obtain ⟨x, _, hx⟩ := List.any_eq_true.1 ha
    exact refs_notV hx
  | false => rw [ha] at hv; exact hv
theorem app_v {E : Eff} {S : St} (h : E.In S) {i : Nat} (hi : i ≠ E.d) (hv : (E.app S).at i ≠ .dead) : S.at i = (E.app S).at i := by
  rw [Eff.app_at h, if_neg hi] at hv ⊢
  split at hv
  · exact absurd rfl hv
  · rename_i hk
    rw [if_neg hk]
    cases ha : E.kills.any (S.at i).refs with
    | true => rw [ha] at hv; exact absurd rfl hv
    | false => rfl
theorem v_app {E : Eff} {S : St} (h : E.In S) {i : Nat} (hi : i ≠ E.d) (hk : i ∉ E.kills) (hr : ∀ x, (S.at i).refs x = true → x ∉ E.kills) : (E.app S).at i = S.at i := by
  rw [Eff.app_at h, if_neg hi, if_neg hk]
  have : E.kills.any (S.at i).refs = false := List.any_eq_false.2 fun x hx hx2 => hr x hx2 hx
  rw [this]
  rfl
/-- Neighbours change places. -/
theorem grp_swap (hO : ODet O) {i j : Nat} {oi oj : Oper} (hi : ops[i]? = some oi) (hj : ops[j]? = some oj) (hd : disjB ops oi oj = true) {r : List Nat} {S : St} {K : St → Option Ret} {ret : Ret} (e : peGrp h O ops (i :: j :: r) S K = some ret) : peGrp h O ops (j :: i :: r) S K = some ret := by
  simp only [peGrp, hi, hj] at e ⊢
  cases gi : grpOK O ops S oi with
  | false => rw [gi] at e; cases e
  | true =>
  rw [gi] at e
  simp only [cond_true] at e
  obtain ⟨_, di, hdi, hvi, _⟩ := grp_dst gi
  obtain ⟨oE, E1, E2⟩ := grp_eff (h := h) hO hi gi hdi
  rw [E2 S (fun _ _ => rfl)] at e
  cases oE with
  | none => cases e
  | some E =>
  simp only [Option.bind_some] at e
  have EI := grp_in gi hdi (E1 E rfl)
  obtain ⟨Ed, Er, En, Ek, Ec⟩ := E1 E rfl
  cases gj : grpOK O ops (E.app S) oj with
  | false => rw [gj] at e; cases e
  | true =>
  rw [gj] at e
  simp only [cond_true] at e
  obtain ⟨_, dj, hdj, hvj, _⟩ := grp_dst gj
  obtain ⟨oF, F1, F2⟩ := grp_eff (h := h) hO hj gj hdj
  rw [F2 _ (fun _ _ => rfl)] at e
  cases oF with
  | none => cases e
  | some F =>
  simp only [Option.bind_some] at e
  have FI1 := grp_in gj hdj (F1 F rfl)
  obtain ⟨Fd, Fr, Fn, Fk, Fc⟩ := F1 F rfl
  unfold disjB at hd
  rw [hdi, hdj] at hd
  simp only [Bool.and_eq_true, Bool.not_eq_true', Bool.or_eq_true] at hd
  obtain ⟨⟨⟨d1, d2⟩, d3⟩, d4⟩ := hd
  have d1 : di ≠ dj := fun e => by subst e; rw [Nat.beq_refl] at d1; cases d1
  have d2 : di ∉ looksM ops oj := fun hm => by
    have := List.any_eq_false.1 d2 di hm
    rw [Nat.beq_refl] at this
    exact this rfl
  have d3 : dj ∉ looksM ops oi := fun hm => by
    have := List.any_eq_false.1 d3 dj hm
    rw [Nat.beq_refl] at this
    exact this rfl
  have d5 : ∀ r ∈ looksM ops oi, r ∉ F.kills := fun r hr hk => by
    rcases d4 with d4 | d4
    · rw [Fc d4.2] at hk; cases hk
    · have h1 := List.any_eq_false.1 d4 r hr
      have h2 : (looksM ops oj).any (Nat.beq r) = true := List.any_eq_true.2 ⟨r, Fk r hk, Nat.beq_refl r⟩
      exact h1 h2
  have ag1 : Agr (E.app S) S (looksM ops oj) := fun r hr => by
    exact app_v EI (fun e => d2 (by rw [← Ed, ← e]; exact hr)) ((grp_looks gj).2 r hr).1
  have hdjk : dj ∉ E.kills := fun hk => d3 (Ek dj hk)
  have gj0 : grpOK O ops S oj = true := grpOK_agr gj ag1 (Eff.app_len E S).symm (fun d hd => by
    rw [hdj] at hd
    injection hd with hd
    subst hd
    exact app_notV EI (fun e => d1 (by rw [← Ed, ← e])) hdjk hvj)
  have FI := grp_in gj0 hdj (F1 F rfl)
  have ag2 : Agr S (F.app S) (looksM ops oi) := fun r hr => by
    exact v_app FI (fun e => d3 (by rw [← Fd, ← e]; exact hr)) (d5 r hr) fun x hx => d5 x (((grp_looks gi).2 r hr).2 x hx)
  have gi1 : grpOK O ops (F.app S) oi = true := grpOK_agr gi ag2 (Eff.app_len F S) (fun d hd => by
    rw [hdi] at hd
    injection hd with hd
    subst hd
    exact app_isV FI (fun e => d1 (by rw [← Fd, ← e])) hvi)
  have EI1 := grp_in gi1 hdi (E1 E rfl)
  rw [gj0]
  simp only [cond_true]
  rw [F2 S ag1]
  simp only [Option.bind_some]
  rw [gi1]
  simp only [cond_true]
  rw [E2 _ ag2]
  simp only [Option.bind_some]
  rw [Eff.comm EI FI (by rw [Ed, Fd]; exact d1) (fun hk => by rw [Ed] at hk; exact d2 (Fk _ hk)) (fun hk => by rw [Fd] at hk; exact d3 (Ek _ hk)) EI1 FI1]
  exact e
/-- One is moved to the front. -/
theorem grp_front (hO : ODet O) {j : Nat} {oj : Oper} (hj : ops[j]? = some oj) : ∀ (p r : List Nat) {S : St} {K : St → Option Ret} {ret : Ret}, (∀ x ∈ p, ∃ ox, ops[x]? = some ox ∧ disjB ops ox oj = true) → peGrp h O ops (p ++ j :: r) S K = some ret → peGrp h O ops (j :: (p ++ r)) S K = some ret
  | [], r, S, K, ret, _, e => e
  | x :: p, r, S, K, ret, hp, e => by
    obtain ⟨ox, hox, hdx⟩ := hp x (by simp)
    refine grp_swap hO hox hj hdx ?_
    simp only [List.cons_append] at e
    unfold peGrp at e ⊢
    rw [hox] at e ⊢
    simp only at e ⊢
    cases gx : grpOK O ops S ox with
    | false => rw [gx] at e; cases e
    | true =>
      rw [gx] at e
      simp only [cond_true] at e ⊢
      obtain ⟨o, ho⟩ := peStep_det (h := h) (ops := ops) hO x (fun o' ho' => by
        rw [hox] at ho'
        injection ho' with ho'
        subst ho'
        unfold grpOK at gx
        simp only [Bool.and_eq_true] at gx
        have g2 := gx.2
        split at g2 <;> first | (rename_i hop; rw [hop]; rfl) | cases g2) S
      rw [ho] at e ⊢
      cases o with
      | none => cases e
      | some S1 =>
        simp only [Option.bind_some] at e ⊢
        exact grp_front hO hj p r (fun y hy => hp y (by simp [hy])) e
end Go.Pv

namespace Go.Pv
set_option linter.unusedVariables false
set_option linter.unusedSimpArgs false

/-- A zero value's cells. -/
def zc : Ty → List Value
  | .int k => [.int k 0] | .bool => [.bool false] | .str => [.string ByteArray.empty] | .sl _ => [.slice none 0 0] | .ptr _ => [.pointer none]
  | .pair a b => zc a ++ zc b | .unit => [] | .arr n t => (List.replicate n (zc t)).flatten

def tyAt : Path → Ty → Option Ty
  | [], t => some t
  | .fst :: p, .pair a _ => tyAt p a
  | .snd :: p, .pair _ b => tyAt p b
  | _, _ => none

/-- The checks on one type; 'true' is what the program itself shows. -/
def veq : Value → Value → Bool
  | .int k n, .int k' n' => decide (k = k') && decide (n = n')
  | .bool a, .bool b => a == b
  | .string a, .string b => a.data.toList == b.data.toList
  | .slice none a b, .slice none c d => Nat.beq a c && Nat.beq b d
  | .pointer none, .pointer none => true
  | _, _ => false
def veqs : List Value → List Value → Bool
  | [], [] => true
  | a :: r, b :: s => veq a b && veqs r s
  | _, _ => false
theorem veq_eq {a b : Value} (h : veq a b = true) : a = b := by
  unfold veq at h
  split at h <;> simp at h
  · obtain ⟨rfl, rfl⟩ := h; rfl
  · subst h; rfl
  · rename_i a b
    cases a; cases b
    simp at h
    rw [h]
  · obtain ⟨rfl, rfl⟩ := h; rfl
  · rfl
theorem veqs_eq : ∀ {a b : List Value}, veqs a b = true → a = b
  | [], [], _ => rfl
  | a :: r, b :: s, h => by
    simp only [veqs, Bool.and_eq_true] at h
    rw [veq_eq h.1, veqs_eq h.2]
  | [], _ :: _, h => by simp [veqs] at h
  | _ :: _, [], h => by simp [veqs] at h

def zOK (t : Ty) (z : Value) : Bool := match isAgg t, z with
  | true, .agg cs => veqs cs.toList (zc t)
  | true, _ => false
  | false, z => veqs [z] (zc t)
theorem zOK_match {t : Ty} {z : Value} (h : zOK t z = true) : matchV t z (zc t) := by
  unfold zOK at h
  unfold matchV
  split at h
  · rename_i ha
    rw [if_pos ha, ← veqs_eq h]
  · cases h
  · rename_i ha
    rw [if_neg (by simp [ha]), ← veqs_eq h]

def fieldsOK (Θ : Tab) (ty : Ty) (n : Nat) : List Field → Nat → Bool
  | [], _ => true
  | f :: r, k => (match tyAt (fld k n) ty with
    | some t => Θ.is f.type t && Nat.beq f.offset (fldOff (fld k n) ty) && Nat.blt 0 t.size
    | none => false) && fieldsOK Θ ty n r (k + 1)
def undOK (P : Program) (Θ : Tab) (i : TI) : Bool := match i.ty, P.underlying i.T with
  | .int k, some (.int k') => decide (k = k')
  | .bool, some .bool => true
  | .str, some .string => true
  | .sl t, some (.slice e) => Nat.beq e i.e && Θ.is e t && Nat.blt 0 t.size
  | .pair _ _, some (.struct fs) => decide (fs.toList.map (·.type) = i.fs) && fieldsOK Θ i.ty fs.size fs.toList 0 && !P.eqGuardType P.depth i.T && !P.stoodInHeld i.T && fs.toList.all (fun f => f.name != "_")
  | _, _ => false
def infOK (i : TI) (inf : TypeInfo) : Bool := Nat.beq inf.size i.ty.size && Nat.ble i.ty.size 9000 && Nat.ble inf.bytes (32 * i.ty.size) && Nat.ble inf.bytes 256 && Nat.blt 0 inf.bytes && match inf.zero with
  | some z => zOK i.ty z
  | none => false
/-- How deep the structs lie in one another. -/
def Ty.ht : Ty → Nat
  | .pair a b => max a.ht b.ht + 1
  | _ => 0
def uOK (i : TI) : Bool := Nat.ble i.ty.ht 9000 && match i.fs, i.ty with
  | [_], .pair _ .unit => true
  | [_], _ => false
  | [], .pair _ _ => false
  | _, _ => true
def tiOK (P : Program) (Θ : Tab) (i : TI) : Bool := ((match P.info? i.T with
  | some inf => infOK i inf
  | none => false) && undOK P Θ i) && uOK i
def tabB (P : Program) (Θ : Tab) : Bool := Θ.all (tiOK P Θ)

structure InfOK (P : Program) (i : TI) : Prop where
  small : i.ty.size ≤ 9000
  out : ∃ inf z, P.info? i.T = some inf ∧ inf.size = i.ty.size ∧ inf.bytes ≤ 32 * i.ty.size ∧ inf.bytes ≤ 256 ∧ 0 < inf.bytes ∧ inf.zero = some z ∧ matchV i.ty z (zc i.ty)

theorem find_mem {Θ : Tab} {T : TypeId} {i : TI} (h : Θ.find T = some i) : i ∈ Θ ∧ i.T = T := by
  induction Θ with
  | nil => simp [Tab.find] at h
  | cons j r ih =>
    simp only [Tab.find] at h
    cases hb : Nat.beq j.T T with
    | true =>
      rw [hb] at h
      simp only [cond_true, Option.some.injEq] at h
      subst h
      exact ⟨by simp, Nat.eq_of_beq_eq_true hb⟩
    | false =>
      rw [hb] at h
      simp only [cond_false] at h
      exact ⟨List.mem_cons_of_mem _ (ih h).1, (ih h).2⟩

theorem tab_ti {P : Program} {Θ : Tab} (hT : tabB P Θ = true) {T : TypeId} {i : TI} (h : Θ.find T = some i) : InfOK P i ∧ undOK P Θ i = true ∧ i.T = T := by
  have h1 := List.all_eq_true.1 hT i (find_mem h).1
  simp only [tiOK, Bool.and_eq_true] at h1
  refine ⟨?_, h1.1.2, (find_mem h).2⟩
  have h2 := h1.1.1
  split at h2
  · rename_i inf hi
    simp only [infOK, Bool.and_eq_true] at h2
    obtain ⟨⟨⟨⟨⟨a, sm⟩, b⟩, b'⟩, b''⟩, c⟩ := h2
    split at c
    · rename_i z hz
      exact ⟨Nat.le_of_ble_eq_true sm, ⟨inf, z, hi, Nat.eq_of_beq_eq_true a, Nat.le_of_ble_eq_true b, Nat.le_of_ble_eq_true b', Nat.lt_of_succ_le (Nat.le_of_ble_eq_true b''), hz, zOK_match c⟩⟩
    · cases c
  · cases h2

theorem tab_u {P : Program} {Θ : Tab} (hT : tabB P Θ = true) {T : TypeId} {i : TI} (h : Θ.find T = some i) : uOK i = true := by
  have h1 := List.all_eq_true.1 hT i (find_mem h).1
  simp only [tiOK, Bool.and_eq_true] at h1
  exact h1.2
theorem is_find {Θ : Tab} {T : TypeId} {t : Ty} (h : Θ.is T t = true) : ∃ i, Θ.find T = some i ∧ i.ty = t := by
  unfold Tab.is at h
  split at h
  · rename_i i hi; exact ⟨i, hi, by simpa using h⟩
  · cases h

theorem und_sl {P : Program} {Θ : Tab} {i : TI} {t : Ty} (h : undOK P Θ i = true) (ht : i.ty = .sl t) : P.underlying i.T = some (.slice i.e) ∧ Θ.is i.e t = true ∧ 0 < t.size := by
  unfold undOK at h
  rw [ht] at h
  split at h <;> simp_all
  obtain ⟨⟨a, b⟩, c⟩ := h
  rw [← a]
  exact b
theorem und_int {P : Program} {Θ : Tab} {i : TI} {k : IntKind} (h : undOK P Θ i = true) (ht : i.ty = .int k) : P.underlying i.T = some (.int k) := by
  unfold undOK at h
  rw [ht] at h
  split at h <;> simp_all
theorem und_bool {P : Program} {Θ : Tab} {i : TI} (h : undOK P Θ i = true) (ht : i.ty = .bool) : P.underlying i.T = some .bool := by
  unfold undOK at h
  rw [ht] at h
  split at h <;> simp_all
theorem und_str {P : Program} {Θ : Tab} {i : TI} (h : undOK P Θ i = true) (ht : i.ty = .str) : P.underlying i.T = some .string := by
  unfold undOK at h
  rw [ht] at h
  split at h <;> simp_all
theorem und_pair {P : Program} {Θ : Tab} {i : TI} {a b : Ty} (h : undOK P Θ i = true) (ht : i.ty = .pair a b) : ∃ fs, P.underlying i.T = some (.struct fs) ∧ fs.toList.map (·.type) = i.fs ∧ fieldsOK Θ i.ty fs.size fs.toList 0 = true ∧ P.eqGuardType P.depth i.T = false ∧ P.stoodInHeld i.T = false ∧ ∀ f ∈ fs, f.name ≠ "_" := by
  unfold undOK at h
  rw [ht] at h
  split at h <;> simp_all
  intro f hf
  obtain ⟨k, hk, rfl⟩ := Array.mem_iff_getElem.1 hf
  exact h.2 k hk
theorem und_not {P : Program} {Θ : Tab} {i : TI} (h : undOK P Θ i = true) : (∃ d, P.underlying i.T = some d) ∧ (∀ t, i.ty ≠ .ptr t) ∧ (∀ n t, i.ty ≠ .arr n t) ∧ i.ty ≠ .unit := by
  unfold undOK at h
  split at h <;> simp_all

theorem fieldsOK_at {Θ : Tab} {ty : Ty} {n : Nat} : ∀ {l : List Field} {k0 : Nat}, fieldsOK Θ ty n l k0 = true → ∀ k f, l[k]? = some f → ∃ t, tyAt (fld (k0 + k) n) ty = some t ∧ Θ.is f.type t = true ∧ f.offset = fldOff (fld (k0 + k) n) ty ∧ 0 < t.size
  | [], _, _, k, f, h => by simp at h
  | g :: r, k0, hok, k, f, h => by
    simp only [fieldsOK, Bool.and_eq_true] at hok
    cases k with
    | zero =>
      simp only [List.getElem?_cons_zero, Option.some.injEq] at h
      subst h
      have := hok.1
      split at this
      · rename_i t ht
        simp only [Bool.and_eq_true] at this
        exact ⟨t, ht, this.1.1, Nat.eq_of_beq_eq_true this.1.2, Nat.lt_of_succ_le (Nat.le_of_ble_eq_true this.2)⟩
      · cases this
    | succ k =>
      simp only [List.getElem?_cons_succ] at h
      have := fieldsOK_at hok.2 k f h
      rw [show k0 + 1 + k = k0 + (k + 1) from by omega] at this
      exact this

/-- A type's size, as the machine has it. -/
theorem size_is {P : Program} {Θ : Tab} (hT : tabB P Θ = true) {T : TypeId} {t : Ty} (h : Θ.is T t = true) : ∃ inf, P.info? T = some inf ∧ inf.size = t.size ∧ P.cellsOf T = t.size := by
  obtain ⟨i, hi, rfl⟩ := is_find h
  obtain ⟨⟨_, inf, z, h1, h2, _⟩, _, rfl⟩ := tab_ti hT hi
  exact ⟨inf, h1, h2, by simp [Program.cellsOf, h1, h2]⟩
theorem agg_is {P : Program} {Θ : Tab} (hT : tabB P Θ = true) {T : TypeId} {t : Ty} (h : Θ.is T t = true) (w : World) : (Go.isAgg T).run P w = .ok (isAgg t) w := by
  obtain ⟨i, hi, rfl⟩ := is_find h
  obtain ⟨_, hu, rfl⟩ := tab_ti hT hi
  have hn := und_not hu
  unfold undOK at hu
  unfold Go.isAgg
  split at hu <;> simp_all [underlying, program, isAgg, Sem.run]
end Go.Pv

namespace Go.Pv
set_option linter.unusedVariables false
set_option linter.unusedSimpArgs false
variable {w w' : World} {A A' : Nat → Prop} {H : Nat → Value} {tm tm' : Nat → Value} {S S' : St} {σ : Nat → Option Nat} {w0 : World} {W0 Z : Nat → Prop} {a : Act} {own : Nat → Prop} {v : Value} {Θ : Tab}

theorem addr_add (g off n : Nat) : (⟨g, off, none⟩ : Addr).add n = ⟨g, off + n, none⟩ := by
  unfold Addr.add
  split
  · rename_i h; subst h; rfl
  · rfl

theorem K_cut {t : Ty} {xs : List t.I} {X : Option Addr} {c lo hi : Nat} (h : K w A (.sl t) xs [.slice X xs.length c]) (h1 : lo ≤ hi) (h2 : hi ≤ xs.length) :
    K w A (.sl t) ((xs.take hi).drop lo) [.slice (if c = lo then X else X.map (·.add (lo * t.size))) (hi - lo) (c - lo)] := by
  simp only [K] at h ⊢
  obtain ⟨X', c', e, hc, h⟩ := h
  simp only [List.cons.injEq, Value.slice.injEq, and_true, true_and] at e
  obtain ⟨rfl, rfl⟩ := e
  have hl : ((xs.take hi).drop lo).length = hi - lo := by rw [List.length_drop, List.length_take]; omega
  refine ⟨_, _, by rw [hl], by omega, fun hp => ?_⟩
  rw [hl] at hp
  obtain ⟨g, off, cur, T, fr, rfl, hg, hw, ho, hj⟩ := h (by omega)
  have e1 : (lo + (hi - lo)) * t.size ≤ xs.length * t.size := Nat.mul_le_mul_right _ (by omega)
  rw [Nat.add_mul] at e1
  refine ⟨g, off + lo * t.size, cur, T, fr, ?_, hg, hw, by rw [hl]; omega, fun j hj1 => ?_⟩
  rotate_left
  · have hj2 : j < hi - lo := by rw [← hl]; exact hj1
    have := hj (lo + j) (by omega)
    rw [show ((xs.take hi).drop lo)[j] = xs[lo + j]'(by omega) from by simp]
    rw [show off + lo * t.size + j * t.size = off + (lo + j) * t.size from by rw [Nat.add_mul]; omega]
    exact this
  · rw [if_neg (by omega)]
    simp only [Option.map_some, addr_add]

theorem ref_focus (h : RelS σ w0 W0 Z H S a w) {t : Ty} {s : Nat} {p : Path} {r : TV} {cs0 : List Value} (hr : Ref (tmOf a) S t s p r cs0) :
    ∃ ex b cs' ow', S.at s = .v r ex ∧ open_ p ex ∧ getP p r.t r.m r.x = some b ∧ b.t = t ∧ M w (Av σ Z) H r.t r.m r.x cs0 (fun g => σ g = some s) ex ∧
      cellsAt w p r.t cs0 = some cs' ∧ (∀ g, ow' g → σ g = some s) ∧ M w (Av σ Z) H b.t b.m b.x cs' ow' (subs p ex) := by
  obtain ⟨⟨ex, h1, h2⟩, h3, ⟨b, h4, h5⟩, h6⟩ := hr
  have hh := h.holds s
  rw [h1] at hh
  obtain ⟨cs, hm, hM⟩ := hh
  obtain rfl := matchV_inj h6 hm
  obtain ⟨cs', ow', k1, k2, k3⟩ := focus p hM h2 h3 h4
  exact ⟨ex, b, cs', ow', h1, h2, h4, h5, hM, k1, k2, k3⟩

/-- What a place holds. -/
theorem place_read (h : RelS σ w0 W0 Z H S a w) {t : Ty} {s : Nat} {p : Path} {r : TV} {cs0 cs : List Value} {b : TV} (hr : Ref (tmOf a) S t s p r cs0) (hc : cellsAt w p r.t cs0 = some cs) (hp : S.place s p = some b) :
    b.t = t ∧ ∃ ow', (∀ g, ow' g → σ g = some s) ∧ M w (Av σ Z) H b.t b.m b.x cs ow' [] := by
  obtain ⟨ex, b', cs', ow', h1, h2, h3, h4, hM, k1, k2, k3⟩ := ref_focus h hr
  unfold St.place at hp
  rw [h1] at hp
  simp only at hp
  cases hall : ex.all fun q => !clash q p with
  | false => rw [hall] at hp; cases hp
  | true =>
    rw [hall] at hp
    simp only [cond_true] at hp
    rw [h3] at hp
    injection hp with hp
    subst hp
    rw [k1] at hc
    injection hc with hc
    subst hc
    rw [subs_of_clash (fun q hq => by simpa using List.all_eq_true.1 hall q hq)] at k3
    exact ⟨h4, ow', k2, k3⟩

theorem rdA_spec (h : RelS σ w0 W0 Z H S a w) {av : AV} {b : TV} (hh : Holds w (Av σ Z) H (tmOf a) S own av v) (e : S.rdA av = some b) :
    ∃ cs, matchV b.t v cs ∧ K w (fun _ => False) b.t b.x cs ∧ (b.m.isK = true → K w (Av σ Z) b.t b.x cs) := by
  cases av with
  | v a ex =>
    cases ex with
    | cons _ _ => simp [St.rdA] at e
    | nil =>
      simp only [St.rdA, Option.some.injEq] at e
      subst e
      obtain ⟨cs, h1, h2⟩ := hh
      exact ⟨cs, h1, M_read h2, fun hk => M_isK _ hk h2⟩
  | al t s p =>
    simp only [St.rdA] at e
    obtain ⟨r, cs0, cs, hr, hc, hm⟩ := hh
    obtain ⟨rfl, ow', k2, k3⟩ := place_read h hr hc e
    exact ⟨cs, hm, M_read k3, fun hk => M_isK _ hk k3⟩
  | cut t s p lo hi =>
    simp only [St.rdA] at e
    obtain ⟨r, cs0, t', X, n, c, hr, rfl, hc, hlo, hhi, rfl⟩ := hh
    cases hp : S.place s p with
    | none => rw [hp] at e; cases e
    | some b' =>
      obtain ⟨ht, ow', k2, k3⟩ := place_read h hr hc hp
      obtain ⟨bt, bm, bx⟩ := b'
      simp only at ht
      subst ht
      rw [hp] at e
      simp only [Option.some.injEq] at e
      subst e
      have hK := M_read k3
      have hn : n = List.length bx := by
        simp only [K] at hK
        obtain ⟨_, _, e, _⟩ := hK
        simp only [List.cons.injEq, Value.slice.injEq, and_true] at e
        exact e.2.1
      subst hn
      exact ⟨_, by simp [matchV, isAgg], K_cut hK hlo hhi, fun hk => K_cut (M_isK _ hk k3) hlo hhi⟩
  | _ => simp [St.rdA] at e

theorem rd_spec (h : RelS σ w0 W0 Z H S a w) {T : TypeId} {x : Operand} {b : TV} (e : S.rd Θ T x = some b) :
    ∃ cs, matchV b.t (a.eval x) cs ∧ K w (fun _ => False) b.t b.x cs ∧ (b.m.isK = true → K w (Av σ Z) b.t b.x cs) := by
  unfold St.rd at e
  split at e
  · rename_i av hav
    exact rdA_spec h (opv_holds h hav) e
  · cases e

theorem match_int {k : IntKind} {v : Value} {cs : List Value} {x : Int} (h : matchV (.int k) v cs) (hk : K w A (.int k) x cs) : v = .int k x := by
  simp only [K] at hk; simp only [matchV, isAgg] at h; subst hk; simpa using h.symm
theorem match_bool {v : Value} {cs : List Value} {x : Bool} (h : matchV .bool v cs) (hk : K w A .bool x cs) : v = .bool x := by
  simp only [K] at hk; simp only [matchV, isAgg] at h; subst hk; simpa using h.symm
theorem match_str {v : Value} {cs : List Value} {x : ByteArray} (h : matchV .str v cs) (hk : K w A .str x cs) : v = .string x := by
  simp only [K] at hk; simp only [matchV, isAgg] at h; subst hk; simpa using h.symm
theorem match_sl {t : Ty} {v : Value} {cs : List Value} {x : List t.I} (h : matchV (.sl t) v cs) (hk : K w A (.sl t) x cs) : ∃ X c, v = .slice X x.length c ∧ cs = [.slice X x.length c] ∧ x.length ≤ c := by
  have hk' := hk
  simp only [K] at hk'
  obtain ⟨X, c, rfl, hc, _⟩ := hk'
  simp only [matchV, isAgg] at h
  exact ⟨X, c, by simpa using h.symm, rfl, hc⟩

theorem rdInt_spec (h : RelS σ w0 W0 Z H S a w) {x : Operand} {n : Int} (e : S.rdInt Θ x = some n) : ∃ k, a.eval x = .int k n := by
  unfold St.rdInt at e
  split at e
  · rename_i k m n' hb
    injection e with e
    subst e
    obtain ⟨cs, h1, h2, _⟩ := rd_spec h hb
    exact ⟨k, match_int h1 h2⟩
  · cases e

/-- A value that owns nothing. -/
theorem holds_scalar {t : Ty} {x : t.I} {v : Value} {cs : List Value} (h : matchV t v cs) (hk : K w A t x cs) : Holds w A H tm S (fun _ => False) (.v ⟨t, .k, x⟩ []) v := ⟨cs, h, M_of_K t hk⟩
theorem holds_int (k : IntKind) (n : Int) : Holds w A H tm S (fun _ => False) (.v ⟨.int k, .k, n⟩ []) (.int k n) := holds_scalar (cs := [.int k n]) (by simp [matchV, isAgg]) (by simp [K])
theorem holds_bool (b : Bool) : Holds w A H tm S (fun _ => False) (.v ⟨.bool, .k, b⟩ []) (.bool b) := holds_scalar (cs := [.bool b]) (by simp [matchV, isAgg]) (by simp [K])
theorem holds_str (b : ByteArray) : Holds w A H tm S (fun _ => False) (.v ⟨.str, .k, b⟩ []) (.string b) := holds_scalar (cs := [.string b]) (by simp [matchV, isAgg]) (by simp [K])
end Go.Pv

namespace Go.Pv
set_option linter.unusedVariables false
set_option linter.unusedSimpArgs false
variable {P : Program} {w w' : World} {A A' : Nat → Prop} {H : Nat → Value} {tm tm' : Nat → Value} {S S' : St} {σ : Nat → Option Nat} {w0 : World} {W0 Z : Nat → Prop} {a : Act} {own : Nat → Prop} {v : Value} {Θ : Tab} {dst : Option Nat} {g : Bool}

/-- The operation goes through, and what is told of the state holds behind it. -/
def Goes (P : Program) (w0 : World) (W0 Z : Nat → Prop) (H : Nat → Value) (S' : St) (a : Act) (dst : Option Nat) (w : World) (s : Sem Next) : Prop :=
  ∃ w' v, (s.run P w = .ok (.value v) w' ∨ (v = undef ∧ s.run P w = .ok .skip w')) ∧ Rel w0 W0 Z H S' (a.put dst v) w'

/-- The world has grown. -/
def Ext (w w' : World) : Prop := ∀ g, g < w.heap.size → w'.heap[g]? = w.heap[g]?
theorem Ext.refl (w : World) : Ext w w := fun _ _ => rfl
theorem Ext.stays (h : Ext w w') : Stays w w' A A := ⟨fun g _ hg => h g hg, fun _ _ h => h⟩

/-- The same, of an operation that leaves the world alone, and that gives the same in every world that has grown. -/
def GoesQ (P : Program) (w0 : World) (W0 Z : Nat → Prop) (H : Nat → Value) (S' : St) (a : Act) (dst : Option Nat) (w : World) (s : Sem Next) : Prop :=
  ∃ v, (∀ w2, Ext w w2 → s.run P w2 = .ok (.value v) w2) ∧ Rel w0 W0 Z H S' (a.put dst v) w
theorem GoesQ.goes {s : Sem Next} (h : GoesQ P w0 W0 Z H S' a dst w s) : Goes P w0 W0 Z H S' a dst w s := by
  obtain ⟨v, h1, h2⟩ := h
  exact ⟨w, v, .inl (h1 w (Ext.refl w)), h2⟩

theorem goes_pure {s : Sem Next} {av : AV} (h : RelS σ w0 W0 Z H S a w) (hr : ∀ w2, Ext w w2 → s.run P w2 = .ok (.value v) w2) (hv : Holds w (Av σ Z) H (tmOf a) S (fun _ => False) av v) :
    GoesQ P w0 W0 Z H (S.put dst av) a dst w s := ⟨v, hr, _, h.pure hv⟩

/-- The same, in whatever world. -/
def GoesS (P : Program) (w0 : World) (W0 Z : Nat → Prop) (H : Nat → Value) (S' : St) (a : Act) (dst : Option Nat) (w : World) (s : Sem Next) : Prop :=
  ∃ v, (∀ w2, s.run P w2 = .ok (.value v) w2) ∧ Rel w0 W0 Z H S' (a.put dst v) w
theorem GoesS.q {s : Sem Next} (h : GoesS P w0 W0 Z H S' a dst w s) : GoesQ P w0 W0 Z H S' a dst w s := by
  obtain ⟨v, h1, h2⟩ := h
  exact ⟨v, fun w2 _ => h1 w2, h2⟩
theorem goes_pureS {s : Sem Next} {av : AV} (h : RelS σ w0 W0 Z H S a w) (hr : ∀ w2, s.run P w2 = .ok (.value v) w2) (hv : Holds w (Av σ Z) H (tmOf a) S (fun _ => False) av v) :
    GoesS P w0 W0 Z H (S.put dst av) a dst w s := ⟨v, hr, _, h.pure hv⟩


def scalar : Ty → Bool
  | .int _ => true | .bool => true | .str => true | _ => false
theorem scalar_det {own' : Nat → Prop} {tm1 : Nat → Value} {S2 : St} {r : TV} {v1 v2 : Value} (hs : scalar r.t = true) (h1 : Holds w A H tm S own (.v r []) v1) (h2 : Holds w' A' H tm1 S2 own' (.v r []) v2) : v1 = v2 := by
  obtain ⟨rt, rm, rx⟩ := r
  obtain ⟨cs, a1, a2⟩ := h1
  obtain ⟨cs', b1, b2⟩ := h2
  cases rt <;> simp [scalar] at hs <;> simp only [M] at a2 b2
  · rw [match_int a1 a2.2, match_int b1 b2.2]
  · rw [match_bool a1 a2.2, match_bool b1 b2.2]
  · rw [match_str a1 a2.2, match_str b1 b2.2]

theorem copy_holds (h : RelS σ w0 W0 Z H S a w) {T : TypeId} {x : Operand} {a' av : AV} (ho : S.opv Θ T x = some a') (hc : S.copy x a' = some av) :
    Holds w (Av σ Z) H (tmOf a) S (fun _ => False) av (a.eval x) := by
  have hh := opv_holds h ho
  cases a' with
  | v b ex =>
    simp only [St.copy] at hc
    cases hk : b.m.isK with
    | true =>
      simp only [hk, cond_true, Option.some.injEq] at hc
      subst hc
      obtain ⟨cs, h1, h2⟩ := hh
      obtain ⟨bt, bm, bx⟩ := b
      refine ⟨cs, h1, ?_⟩
      exact K_M hk (M_isK _ hk h2)
    | false =>
      simp only [hk, cond_false] at hc
      cases x with
      | tmp i =>
        simp only [Option.some.injEq] at hc
        subst hc
        simp only [St.opv, Option.some.injEq] at ho
        obtain ⟨cs, h1, h2⟩ := hh
        exact ⟨b, cs, cs, ⟨⟨ex, ho, fun q _ s r e => by cases q <;> simp at e⟩, trivial, ⟨b, rfl, rfl⟩, h1⟩, rfl, h1⟩
      | const c =>
        cases ex with
        | cons _ _ => simp at hc
        | nil =>
          simp only [Option.some.injEq] at hc
          subst hc
          obtain ⟨cs, h1, h2⟩ := hh
          exact ⟨cs, h1, M_move (Stays.refl _ _) _ (fun _ _ _ => rfl) (fun g hg _ => by obtain ⟨i, hi, _⟩ := hg; cases hi) (fun _ h => h) h2⟩
      | func f =>
        cases ex with
        | cons _ _ => simp at hc
        | nil => simp [St.opv] at ho
      | global f =>
        cases ex with
        | cons _ _ => simp at hc
        | nil => simp [St.opv] at ho
  | dead => simp [St.copy] at hc
  | tup l => simp [St.copy] at hc
  | undef => simp only [St.copy, Option.some.injEq] at hc; subst hc; exact hh
  | al t s p => simp only [St.copy, Option.some.injEq] at hc; subst hc; exact hh
  | ad t s p => simp only [St.copy, Option.some.injEq] at hc; subst hc; exact hh
  | cut t s p lo hi => simp only [St.copy, Option.some.injEq] at hc; subst hc; exact hh
  | clo f c => simp only [St.copy, Option.some.injEq] at hc; subst hc; exact hh

theorem move_ok (h : RelS σ w0 W0 Z H S a w) {o : Oper} {x : Operand} (ho : o.op = .move x) (hnt : ∀ l, S.opv Θ o.type x ≠ some (.tup l)) (e : evMove Θ S o.dst o.type x = some (true, S')) : GoesS P w0 W0 Z H S' a o.dst w (execOp a.eval o) := by
  unfold evMove at e
  split at e
  · rename_i l hl
    exact absurd hl (hnt l)
  · rename_i a' _ ha
    split at e
    · rename_i av hv
      injection e with e
      injection e with _ e
      subst e
      exact goes_pureS h (fun w2 => by simp only [execOp, ho]; rfl) (copy_holds h ha hv)
    · cases e
  · cases e

theorem binI_run {op : BinOp} {k k' : IntKind} {x y : Int} {r : TV} (T : TypeId) (hk : k = k' ∨ op = .shl ∨ op = .shr) (e : binI op k x y = some (true, r)) :
    ∃ v, (binOp op T (.int k x) (.int k' y)).run P w = .ok v w ∧ Holds w A H tm S (fun _ => False) (.v r []) v := by
  cases op <;> simp only [binI, Option.some.injEq, Prod.mk.injEq, reduceCtorEq, true_and] at e
  case add => obtain rfl : k = k' := by simpa using hk
              subst e; exact ⟨_, by simp [binOp, Op.intArith], holds_int _ _⟩
  case sub => obtain rfl : k = k' := by simpa using hk
              subst e; exact ⟨_, by simp [binOp, Op.intArith], holds_int _ _⟩
  case mul => obtain rfl : k = k' := by simpa using hk
              subst e; exact ⟨_, by simp [binOp, Op.intArith], holds_int _ _⟩
  case quo => obtain rfl : k = k' := by simpa using hk
              obtain ⟨e0, rfl⟩ := e
              have h0 : ¬ y = 0 := by simpa using e0
              exact ⟨_, by simp [binOp, Op.intDiv, h0], holds_int _ _⟩
  case rem => obtain rfl : k = k' := by simpa using hk
              obtain ⟨e0, rfl⟩ := e
              have h0 : ¬ y = 0 := by simpa using e0
              exact ⟨_, by simp [binOp, Op.intDiv, h0], holds_int _ _⟩
  case and => obtain rfl : k = k' := by simpa using hk
              subst e; exact ⟨_, by simp [binOp, Op.intBits], holds_int _ _⟩
  case or => obtain rfl : k = k' := by simpa using hk
             subst e; exact ⟨_, by simp [binOp, Op.intBits], holds_int _ _⟩
  case xor => obtain rfl : k = k' := by simpa using hk
              subst e; exact ⟨_, by simp [binOp, Op.intBits], holds_int _ _⟩
  case eql => obtain rfl : k = k' := by simpa using hk
              subst e; exact ⟨_, by simp [binOp, Op.intCmp], holds_bool _⟩
  case neq => obtain rfl : k = k' := by simpa using hk
              subst e; exact ⟨_, by simp [binOp, Op.intCmp], holds_bool _⟩
  case lss => obtain rfl : k = k' := by simpa using hk
              subst e; exact ⟨_, by simp [binOp, Op.intCmp], holds_bool _⟩
  case leq => obtain rfl : k = k' := by simpa using hk
              subst e; exact ⟨_, by simp [binOp, Op.intCmp], holds_bool _⟩
  case gtr => obtain rfl : k = k' := by simpa using hk
              subst e; exact ⟨_, by simp [binOp, Op.intCmp], holds_bool _⟩
  case geq => obtain rfl : k = k' := by simpa using hk
              subst e; exact ⟨_, by simp [binOp, Op.intCmp], holds_bool _⟩
  case shl => obtain ⟨e0, rfl⟩ := e
              have h0 : ¬ y < 0 := by have : 0 ≤ y := by simpa using e0
                                      omega
              exact ⟨_, by simp [binOp, Op.shift, h0], holds_int _ _⟩
  case shr => obtain ⟨e0, rfl⟩ := e
              have h0 : ¬ y < 0 := by have : 0 ≤ y := by simpa using e0
                                      omega
              exact ⟨_, by simp [binOp, Op.shift, h0], holds_int _ _⟩

theorem binS_run {op : BinOp} {x y : ByteArray} {r : TV} (T : TypeId) (e : binS op x y = some (true, r)) :
    ∃ v, (binOp op T (.string x) (.string y)).run P w = .ok v w ∧ Holds w A H tm S (fun _ => False) (.v r []) v := by
  cases op <;> simp only [binS, Option.some.injEq, Prod.mk.injEq, reduceCtorEq, true_and] at e
  case add =>
    obtain ⟨e0, rfl⟩ := e
    have h0 : x.size + y.size ≤ 9223372036854775807 := by simpa using e0
    refine ⟨_, ?_, holds_str _⟩
    rw [binOp_string_add]
    simp only [Op.stringOp, IntKind.max_i64]
    rw [if_neg (by omega)]
    rfl
  case eql => subst e; exact ⟨_, by rw [binOp_string_eql]; rfl, holds_bool _⟩
  case neq => subst e; exact ⟨_, by rw [binOp_string_neq]; rfl, holds_bool _⟩

theorem unOp_run {op : UnOp} {b r : TV} {v : Value} {cs : List Value} (hm : matchV b.t v cs) (hK : K w (fun _ => False) b.t b.x cs) (e : unTV op b = some r) :
    ∃ u, (Op.unary op v).run P w = .ok u w ∧ Holds w A H tm S (fun _ => False) (.v r []) u := by
  unfold unTV at e
  split at e
  · injection e with e; subst e
    obtain rfl := match_bool hm hK
    exact ⟨_, rfl, holds_bool _⟩
  · injection e with e; subst e
    obtain rfl := match_int hm hK
    exact ⟨_, rfl, holds_int _ _⟩
  · injection e with e; subst e
    obtain rfl := match_int hm hK
    exact ⟨_, by simp [Op.unary, Op.intBits], holds_int _ _⟩
  · cases e

theorem un_ok (h : RelS σ w0 W0 Z H S a w) {o : Oper} {op : UnOp} {T : TypeId} {x : Operand} (ho : o.op = .unOp op T x) (e : evUn Θ S o.dst op x = some (true, S')) : GoesQ P w0 W0 Z H S' a o.dst w (execOp a.eval o) := by
  unfold evUn at e
  split at e
  · rename_i b hb
    split at e
    · rename_i r hr
      injection e with e; injection e with _ e; subst e
      obtain ⟨cs, h1, h2, _⟩ := rd_spec h hb
      obtain ⟨u, h3, h4⟩ := unOp_run (P := P) (A := Av σ Z) (H := H) (tm := tmOf a) (S := S) h1 h2 hr
      have hsc : scalar r.t = true := by
        unfold unTV at hr
        split at hr <;> first | (injection hr with hr; subst hr; rfl) | cases hr
      refine goes_pure h (fun w2 hw => ?_) h4
      obtain ⟨u2, k3, k4⟩ := unOp_run (w := w2) (P := P) (A := Av σ Z) (H := H) (tm := tmOf a) (S := S) h1 (K_stays hw.stays _ h2) hr
      rw [scalar_det hsc h4 k4]
      simp [execOp, ho, k3]
    · cases e
  · cases e

theorem convert_ok (hT : tabB P Θ = true) (h : RelS σ w0 W0 Z H S a w) {o : Oper} {T T' : TypeId} {x : Operand} (ho : o.op = .convert T T' x) (hk : (match Θ.find T' with
    | some i => (match i.ty with
      | .int _ => true
      | _ => false)
    | none => false) = true) (e : evConvert Θ S o.dst T T' x = some (true, S')) : GoesS P w0 W0 Z H S' a o.dst w (execOp a.eval o) := by
  unfold evConvert at e
  split at e
  · rename_i k m n i _ k' _ _ hb hi hj
    injection e with e; injection e with _ e; subst e
    obtain ⟨cs, h1, h2, _⟩ := rd_spec h hb
    have hv := match_int h1 h2
    obtain ⟨_, hu, rfl⟩ := tab_ti hT hi
    obtain ⟨_, hu', hT'⟩ := tab_ti hT hj
    obtain ⟨d, hd⟩ := (und_not hu).1
    have hd' := und_int hu' rfl
    rw [hT'] at hd'
    refine goes_pureS h (v := .int k' (k'.wrap n)) (fun w2 => ?_) (holds_int _ _)
    simp [execOp, ho, hv, convert, run_underlying hd, run_underlying hd', Conv.intToInt]
  · rename_i hj
    rw [hj] at hk
    cases hk
  · cases e
theorem convert_okQ (hT : tabB P Θ = true) (h : RelS σ w0 W0 Z H S a w) {o : Oper} {T T' : TypeId} {x : Operand} (ho : o.op = .convert T T' x) (e : evConvert Θ S o.dst T T' x = some (true, S')) : GoesQ P w0 W0 Z H S' a o.dst w (execOp a.eval o) := by
  have e0 := e
  unfold evConvert at e
  split at e
  · rename_i hj
    exact (convert_ok hT h ho (by rw [hj]) e0).q
  · rename_i m xs _ _ _ _ _ _ hb hi hj
    injection e with e; injection e with _ e; subst e
    obtain ⟨cs, h1, h2, _⟩ := rd_spec h hb
    obtain ⟨X, c, hv, rfl, hc⟩ := match_sl h1 h2
    obtain ⟨_, hu, hT0⟩ := tab_ti hT hi
    obtain ⟨_, hu', hT'⟩ := tab_ti hT hj
    obtain ⟨hd, he, _⟩ := und_sl hu rfl
    have hd' := und_str hu' rfl
    obtain ⟨ie, hie, hty⟩ := is_find he
    obtain ⟨_, hue, hTe⟩ := tab_ti hT hie
    have hde := und_int hue hty
    simp only at hT0 hT' hd hd'
    rw [hT0] at hd
    rw [hT'] at hd'
    rw [hTe] at hde
    refine goes_pure h (v := .string (bytesOf xs)) (fun w2 hw => ?_) ⟨[.string (bytesOf xs)], by simp [matchV, isAgg], by simp [M, K, Md.isK]⟩
    have hK := K_stays hw.stays _ h2
    simp only [execOp, ho, hv, Sem.run_bind]
    rw [run_convert_bytes_string w2 T T' _ X xs.length c hd hde hd']
    simp only [K] at hK
    obtain ⟨X', c', e1, _, hx⟩ := hK
    simp only [List.cons.injEq, Value.slice.injEq, and_true] at e1
    obtain ⟨rfl, _, rfl⟩ := e1
    by_cases h0 : 0 < xs.length
    · obtain ⟨g, off, cur, T2, fr, rfl, _, hw2, hlen, hel⟩ := hx h0
      rw [run_bytesToString w2 ⟨g, off, none⟩ xs.length c xs ?_]
      · simp [bytesOf, Sem.run_pure]
      · have := run_loadCells_list (P := P) (w := w2) ⟨g, off, none⟩ (xs.map (Value.int .u8)) (fun j v hj => ?_)
        · rwa [List.length_map] at this
        · rw [List.getElem?_map] at hj
          cases hj2 : xs[j]? with
          | none => rw [hj2] at hj; cases hj
          | some n =>
            rw [hj2] at hj
            simp only [Option.map_some, Option.some.injEq] at hj
            subst hj
            have hjl := (List.getElem?_eq_some_iff.1 hj2).1
            have h3 := hel j hjl
            have hn : xs[j] = n := (List.getElem?_eq_some_iff.1 hj2).2
            simp only [K, Ty.size, Nat.mul_one] at h3
            rw [hn] at h3
            have h4 : (cur.toList.drop (off + j)).head? = some (.int .u8 n) := by
              cases hd : cur.toList.drop (off + j) with
              | nil => rw [hd] at h3; simp at h3
              | cons y r => rw [hd] at h3; simp at h3; simp [h3]
            rw [List.head?_drop] at h4
            rw [Addr.add_lit]
            simp only [World.cell?, hw2]
            rw [← Array.getElem?_toList, h4]
            rfl
    · have : xs = [] := List.eq_nil_of_length_eq_zero (by omega)
      subst this
      cases X with
      | none => simp [Conv.bytesToString, bytesOf, Sem.run_pure]
      | some A =>
        show ((Conv.bytesToString (Value.slice (some A) 0 c)).run P w2).andThen _ = _
        rw [run_bytesToString w2 A 0 c [] (by simpa using run_loadCells_list (P := P) (w := w2) A [] (fun j v hj => by simp at hj))]
        simp [bytesOf, Sem.run_pure]
  · cases e

theorem beq_bytes (x y : ByteArray) : (x == y) = (x.toList == y.toList) := beq_toListBytes x y

theorem size_one0 {t : Ty} (h : isAgg t = false) : t.size = 1 := by cases t <;> simp [isAgg] at h <;> rfl
theorem part_run (hT : tabB P Θ = true) {T : TypeId} {t : Ty} (ht : Θ.is T t = true) {cs : List Value} {off : Nat} (hlen : off + t.size ≤ cs.length) :
    ∃ u, (part T cs.toArray off).run P w = .ok u w ∧ matchV t u ((cs.drop off).take t.size) := by
  have hag := agg_is hT ht w
  obtain ⟨inf, s1, s2, _⟩ := size_is hT ht
  have hso : (sizeOf T).run P w = .ok t.size w := by simp [sizeOf, typeInfo, s1, s2]
  cases hca : isAgg t with
  | true =>
    refine ⟨.agg (cs.toArray.extract off (off + t.size)), ?_, ?_⟩
    · rw [hca] at hag
      unfold part
      simp only [Sem.run_bind, hag, Result.andThen_ok, if_true, hso]
      rfl
    · unfold matchV
      rw [if_pos hca]
      congr 1
      apply Array.toList_inj.1
      rw [Array.toList_extract, List.toList_toArray, List.toList_toArray, List.extract_eq_drop_take']
      rw [List.drop_take, Nat.add_sub_cancel_left]
  | false =>
    have h1 := size_one0 hca
    have hlt2 : off < cs.length := by omega
    refine ⟨cs[off], ?_, ?_⟩
    · rw [hca] at hag
      unfold part
      simp only [Sem.run_bind, hag, Result.andThen_ok, if_neg Bool.false_ne_true]
      rw [List.getElem?_toArray, List.getElem?_eq_getElem hlt2]
      rfl
    · unfold matchV
      rw [if_neg (by rw [hca]; exact Bool.false_ne_true), h1, List.drop_eq_getElem_cons hlt2, List.take_succ_cons, List.take_zero]

theorem tyAt_app : ∀ (p q : Path) (t : Ty), tyAt (p ++ q) t = (tyAt p t).bind (tyAt q) := by
  intro p
  induction p with
  | nil => intro q t; rfl
  | cons s p ih => intro q t; cases s <;> cases t <;> first | rfl | exact ih q _
theorem fldOff_app : ∀ (p q : Path) (t u : Ty), tyAt p t = some u → fldOff (p ++ q) t = fldOff p t + fldOff q u := by
  intro p
  induction p with
  | nil => intro q t u h; simp only [tyAt, Option.some.injEq] at h; subst h; simp [fldOff]
  | cons s p ih =>
    intro q t u h
    cases s <;> cases t <;> simp only [tyAt, reduceCtorEq] at h
    · simp only [List.cons_append, fldOff]; exact ih q _ u h
    · simp only [List.cons_append, fldOff]; rw [ih q _ u h]; omega
theorem fld_eq {k n : Nat} (h2 : 2 ≤ n) : fld k n = if k + 1 = n then List.replicate k .snd else List.replicate k .snd ++ [.fst] := by
  unfold fld
  have h1 : Nat.beq n 1 = false := by
    cases hb : Nat.beq n 1 with
    | false => rfl
    | true => have := Nat.eq_of_beq_eq_true hb; omega
  by_cases hkn : k + 1 = n
  · rw [if_pos hkn, hkn, Nat.beq_refl, h1]; rfl
  · have : Nat.beq (k + 1) n = false := by
      cases hb : Nat.beq (k + 1) n with
      | false => rfl
      | true => exact absurd (Nat.eq_of_beq_eq_true hb) hkn
    rw [if_neg hkn, this]; rfl

theorem match_agg {t : Ty} {v : Value} {cs : List Value} (ha : isAgg t = true) (h : matchV t v cs) : v = .agg cs.toArray := by simpa [matchV, ha] using h

/-- '==' of values without slices and pointers. -/
theorem eqV_run (hT : tabB P Θ = true) : ∀ (d : Nat) (t : Ty) {T : TypeId} {x y : t.I} {r : Bool} {cs cs' : List Value} {u v : Value}, Θ.is T t = true → eqV t x y = some r → matchV t u cs → matchV t v cs' → K w (fun _ => False) t x cs → K w (fun _ => False) t y cs' → t.ht < d →
    (Op.equalIn d T u v).run P w = .ok r w
  | 0, _, _, _, _, _, _, _, _, _, _, _, _, _, _, _, hd => absurd hd (Nat.not_lt_zero _)
  | d + 1, t, T, x, y, r, cs, cs', u, v, hT1, he, hu, hv, hx, hy, hd => by
    obtain ⟨i, hi, hty⟩ := is_find hT1
    obtain ⟨_, hun, h3⟩ := tab_ti hT hi
    cases t with
    | int k =>
      have hu' := und_int hun hty
      rw [h3] at hu'
      simp only [eqV, Option.some.injEq] at he
      subst he
      obtain rfl := match_int hu hx
      obtain rfl := match_int hv hy
      rw [run_equalIn_int w d T k k _ _ hu']
      congr 1
    | bool =>
      have hu' := und_bool hun hty
      rw [h3] at hu'
      simp only [eqV, Option.some.injEq] at he
      subst he
      obtain rfl := match_bool hu hx
      obtain rfl := match_bool hv hy
      exact run_equalIn_bool' w d T _ _ hu'
    | str =>
      have hu' := und_str hun hty
      rw [h3] at hu'
      simp only [eqV, Option.some.injEq] at he
      subst he
      obtain rfl := match_str hu hx
      obtain rfl := match_str hv hy
      rw [run_equalIn_string w d T _ _ hu', beq_bytes]
    | unit => exact absurd hty (und_not hun).2.2.2
    | sl t => simp [eqV] at he
    | ptr t => simp [eqV] at he
    | arr n t => simp [eqV] at he
    | pair pa pb =>
      obtain ⟨fs, hfs, hft, hok, hg, hsh, hnb⟩ := und_pair hun hty
      rw [h3] at hfs hsh
      obtain rfl := match_agg rfl hu
      obtain rfl := match_agg rfl hv
      have hfo : P.fieldsOf T = fs := by unfold Program.fieldsOf; rw [hfs]
      rw [run_equalIn_struct w d T _ _ (by rw [hfo]; exact hfs) hsh, hfo]
      have hlx := (K_ok _ hx).1
      have hly := (K_ok _ hy).1
      rw [hty] at hok
      have hfl : fs.toList.length = i.fs.length := by rw [← hft, List.length_map]
      have hU := tab_u hT hi
      unfold uOK at hU
      rw [Bool.and_eq_true, hty] at hU
      have hU := hU.2
      rcases Nat.lt_or_ge fs.size 2 with h2 | h2
      · match hfi : i.fs, hfe : fs.toList with
        | [], _ => rw [hfi] at hU; simp at hU
        | [T1], [f] =>
          rw [hfi] at hU
          cases pb <;> simp at hU
          rw [hfe] at hok
          have hs1 : fs.size = 1 := by rw [← Array.length_toList, hfe]; rfl
          simp only [fieldsOK, hs1, Bool.and_true] at hok
          have e1 : fld 0 1 = [.fst] := rfl
          rw [e1] at hok
          simp only [tyAt, fldOff, Bool.and_eq_true] at hok
          obtain ⟨⟨k1, k2⟩, k3⟩ := hok
          have k2 := Nat.eq_of_beq_eq_true k2
          simp only [Ty.size, Nat.add_zero] at hlx hly
          obtain ⟨u1, p1, p2⟩ := part_run (w := w) hT k1 (cs := cs) (off := 0) (by omega)
          obtain ⟨v1, q1, q2⟩ := part_run (w := w) hT k1 (cs := cs') (off := 0) (by omega)
          rw [List.drop_zero, List.take_of_length_le (by omega)] at p2 q2
          simp only [eqV] at he
          split at he
          case h_2 => cases he
          rename_i p q hp hq
          injection hq with hq
          subst hq
          injection he with he
          subst he
          simp only [K] at hx hy
          obtain ⟨c0, c1, rfl, hx0, hx1⟩ := hx
          obtain ⟨c0', c1', rfl, hy0, hy1⟩ := hy
          subst hx1 hy1
          rw [List.append_nil] at p2 q2 p1 q1
          simp only [Ty.ht] at hd
          have hr := eqV_run hT d _ k1 hp p2 q2 hx0 hy0 (by omega)
          have hnm := hnb f (by rw [← Array.mem_toList_iff, hfe]; exact List.mem_singleton.2 rfl)
          simp only [Op.eqFields, hnm, ne_eq, not_false_eq_true, if_true, Sem.run_bind, k2, List.append_nil, p1, q1, Result.andThen_ok, hr]
          cases p <;> simp
        | [T1], [] => rw [hfi, hfe] at hfl; simp at hfl
        | [T1], _ :: _ :: _ => rw [hfi, hfe] at hfl; simp at hfl
        | _ :: _ :: _, _ => rw [hfi] at hfl; simp only [Array.length_toList, List.length_cons] at hfl; omega
      · have key : ∀ (l : List Field) (k : Nat) (s : Ty) (x' y' : s.I) (c c' : List Value) (r : Bool), k + l.length = fs.size → l ≠ [] → (∀ f ∈ l, f.name ≠ "_") → fieldsOK Θ (.pair pa pb) fs.size l k = true → tyAt (List.replicate k .snd) (.pair pa pb) = some s →
            cs.drop (fldOff (List.replicate k .snd) (.pair pa pb)) = c → cs'.drop (fldOff (List.replicate k .snd) (.pair pa pb)) = c' → fldOff (List.replicate k .snd) (.pair pa pb) + s.size ≤ (Ty.pair pa pb).size → K w (fun _ => False) s x' c → K w (fun _ => False) s y' c' → (s.ht < d ∨ (1 < l.length ∧ s.ht < d + 1)) → eqV s x' y' = some r → (Op.eqFields d cs.toArray cs'.toArray l).run P w = .ok r w := by
          intro l
          induction l with
          | nil => intro k s x' y' c c' r _ h; exact absurd rfl h
          | cons f l ih =>
            intro k s x' y' c c' r hk _ hnm hok hs hc hc' hsz hx hy hd he
            have hnf := hnm f (List.mem_cons_self ..)
            simp only [fieldsOK, Bool.and_eq_true] at hok
            obtain ⟨hok, hrest⟩ := hok
            rw [fld_eq h2] at hok
            cases l with
            | nil =>
              rw [if_pos (by simpa using hk), hs] at hok
              simp only [Bool.and_eq_true] at hok
              obtain ⟨⟨k1, k2⟩, k3⟩ := hok
              have k2 := Nat.eq_of_beq_eq_true k2
              obtain ⟨u1, p1, p2⟩ := part_run (w := w) hT k1 (cs := cs) (off := f.offset) (by omega)
              obtain ⟨v1, q1, q2⟩ := part_run (w := w) hT k1 (cs := cs') (off := f.offset) (by omega)
              have l1 := (K_ok _ hx).1
              have l2 := (K_ok _ hy).1
              rw [k2, hc, List.take_of_length_le (by omega)] at p2
              rw [k2, hc', List.take_of_length_le (by omega)] at q2
              have hr := eqV_run hT d _ k1 he p2 q2 hx hy (by rcases hd with hd | hd; exact hd; simp at hd)
              simp only [Op.eqFields, hnf, ne_eq, not_false_eq_true, if_true, Sem.run_bind, p1, q1, Result.andThen_ok, hr]
              cases r <;> simp
            | cons f' l =>
              rw [if_neg (by simp only [List.length_cons] at hk; omega), tyAt_app, hs, Option.bind_some] at hok
              cases s with
              | pair sa sb =>
                simp only [tyAt, Bool.and_eq_true] at hok
                obtain ⟨⟨k1, k2⟩, k3⟩ := hok
                have k2 := Nat.eq_of_beq_eq_true k2
                rw [fldOff_app _ _ _ _ hs] at k2
                simp only [fldOff, Nat.add_zero] at k2
                simp only [eqV] at he
                split at he
                case h_2 => cases he
                rename_i p q hp hq
                injection he with he
                subst he
                simp only [K] at hx hy
                obtain ⟨c0, c1, hcc, hx0, hx1⟩ := hx
                obtain ⟨c0', c1', hcc', hy0, hy1⟩ := hy
                have l0 := (K_ok _ hx0).1
                have l0' := (K_ok _ hy0).1
                simp only [Ty.size] at hsz hlx hly
                obtain ⟨u1, p1, p2⟩ := part_run (w := w) hT k1 (cs := cs) (off := f.offset) (by omega)
                obtain ⟨v1, q1, q2⟩ := part_run (w := w) hT k1 (cs := cs') (off := f.offset) (by omega)
                rw [k2, hc, hcc, ← l0, List.take_left] at p2
                rw [k2, hc', hcc', ← l0', List.take_left] at q2
                have hdd : max sa.ht sb.ht + 1 < d + 1 := by
                  simp only [Ty.ht] at hd
                  omega
                have hr := eqV_run hT d _ k1 hp p2 q2 hx0 hy0 (by omega)
                have hrep : List.replicate (k + 1) Step.snd = List.replicate k .snd ++ [.snd] := List.replicate_succ'
                have hoff : fldOff (List.replicate (k + 1) .snd) (.pair pa pb) = fldOff (List.replicate k .snd) (.pair pa pb) + sa.size := by
                  rw [hrep, fldOff_app _ _ _ _ hs]; simp [fldOff]
                have hi := ih (k + 1) sb x'.2 y'.2 c1 c1' q (by simp only [List.length_cons] at hk ⊢; omega) (by simp) (fun f hf => hnm f (List.mem_cons_of_mem _ hf)) hrest (by rw [hrep, tyAt_app, hs]; rfl)
                  (by rw [hoff, ← List.drop_drop, hc, hcc, ← l0, List.drop_left]) (by rw [hoff, ← List.drop_drop, hc', hcc', ← l0', List.drop_left]) (by rw [hoff]; simp only [Ty.size]; omega) hx1 hy1 (.inl (by omega)) hq
                simp only [Op.eqFields, hnf, ne_eq, not_false_eq_true, if_true, Sem.run_bind, p1, q1, Result.andThen_ok, hr]
                cases p with
                | false => simp
                | true => simpa [Op.eqFields] using hi
              | _ => simp [tyAt] at hok
        exact key fs.toList 0 _ x y cs cs' r (by simp) (fun e => by rw [← Array.length_toList, e] at h2; simp at h2) (fun f hf => hnb f (by simpa using hf)) hok rfl rfl rfl (by simp [fldOff]) hx hy (.inr ⟨by rw [Array.length_toList]; omega, hd⟩) he


theorem bin_run (hT : tabB P Θ = true) {op : BinOp} {T : TypeId} {x y : Operand} {p q r : TV} {u v : Value} {cs cs' : List Value} (hp : matchV p.t u cs) (hq : matchV q.t v cs') (kp : K w (fun _ => False) p.t p.x cs) (kq : K w (fun _ => False) q.t q.x cs')
    (hi : p.t = .bool ∨ isAgg p.t = true → Θ.is T p.t = true) (e : binTV op p q = some (true, r)) :
    ∃ z, ((do eqGuard op T x y u v; binOp op T u v) : Sem Value).run P w = .ok z w ∧ Holds w A H tm S (fun _ => False) (.v r []) z := by
  unfold binTV at e
  split at e
  · rename_i k _ x0 k' _ y0
    split at e
    · rename_i hk
      obtain rfl := match_int hp kp
      obtain rfl := match_int hq kq
      obtain ⟨z, h1, h2⟩ := binI_run (P := P) (w := w) (A := A) (H := H) (tm := tm) (S := S) T hk e
      exact ⟨z, by rw [eqGuard_at_int]; simpa using h1, h2⟩
    · cases e
  · obtain rfl := match_str hp kp
    obtain rfl := match_str hq kq
    obtain ⟨z, h1, h2⟩ := binS_run (P := P) (w := w) (A := A) (H := H) (tm := tm) (S := S) T e
    exact ⟨z, by rw [eqGuard_at_string]; simpa using h1, h2⟩
  · obtain rfl := match_bool hp kp
    obtain rfl := match_bool hq kq
    obtain ⟨i, h1, h2⟩ := is_find (hi (.inl rfl))
    obtain ⟨_, hu, h3⟩ := tab_ti hT h1
    have hu' := und_bool hu h2
    rw [h3] at hu'
    split at e
    · injection e with e; injection e with _ e; subst e
      refine ⟨_, ?_, holds_bool _⟩
      rw [eqGuard_at_bool]
      simp [binOp, Op.equal, Op.maxDepth, run_equalIn_bool' w 9999 T _ _ hu']
    · injection e with e; injection e with _ e; subst e
      refine ⟨_, ?_, holds_bool _⟩
      rw [eqGuard_at_bool]
      simp [binOp, Op.equal, Op.maxDepth, run_equalIn_bool' w 9999 T _ _ hu']
    · cases e
  · rename_i t t' _ x0 t2 _ y0
    split at e
    · rename_i ht
      subst ht
      have hTT := hi (.inr rfl)
      obtain ⟨i, h1, h2⟩ := is_find hTT
      obtain ⟨hin, hu, h3⟩ := tab_ti hT h1
      obtain ⟨fs, hfs, _, _, hg, _, _⟩ := und_pair hu h2
      rw [h3] at hg
      have eu := match_agg rfl hp
      have ev := match_agg rfl hq
      have hsz : (Ty.pair t t').ht < 10000 := Nat.lt_of_le_of_lt (show (Ty.pair t t').ht ≤ 9000 from by
        have hs := tab_u hT h1
        unfold uOK at hs
        rw [Bool.and_eq_true, h2] at hs
        exact Nat.le_of_ble_eq_true hs.1) (by decide)
      split at e
      · rename_i r0 h0
        injection e with e; injection e with _ e; subst e
        have hr := eqV_run (P := P) hT 10000 (.pair t t') hTT h0 hp hq kp kq hsz
        rw [eu, ev] at hr ⊢
        refine ⟨_, ?_, holds_bool _⟩
        simp only [Sem.run_bind, run_eqGuard_agg (P := P) w _ T x y _ _ hg, Result.andThen_ok, run_eql_struct, hr]
      · rename_i r0 h0
        injection e with e; injection e with _ e; subst e
        have hr := eqV_run (P := P) hT 10000 (.pair t t') hTT h0 hp hq kp kq hsz
        rw [eu, ev] at hr ⊢
        refine ⟨_, ?_, holds_bool _⟩
        simp only [Sem.run_bind, run_eqGuard_agg (P := P) w _ T x y _ _ hg, Result.andThen_ok, run_neq_struct, hr]
      · cases e
    · cases e
  · cases e

theorem binTV_scalar {op : BinOp} {p q r : TV} {g : Bool} (e : binTV op p q = some (g, r)) : scalar r.t = true := by
  unfold binTV at e
  split at e
  · split at e
    · unfold binI at e
      split at e <;> first | (injection e with e; injection e with _ e; subst e; rfl) | cases e
    · cases e
  · unfold binS at e
    split at e <;> first | (injection e with e; injection e with _ e; subst e; rfl) | cases e
  · split at e <;> first | (injection e with e; injection e with _ e; subst e; rfl) | cases e
  · split at e
    · split at e <;> first | (injection e with e; injection e with _ e; subst e; rfl) | cases e
    · cases e
  · cases e

theorem bin_ok (hT : tabB P Θ = true) (h : RelS σ w0 W0 Z H S a w) {o : Oper} {op : BinOp} {T T' : TypeId} {x y : Operand} (ho : o.op = .binOp op T x y T') (e : evBin Θ S o.dst op T x y = some (true, S')) : GoesQ P w0 W0 Z H S' a o.dst w (execOp a.eval o) := by
  unfold evBin at e
  split at e
  · rename_i p q hp hq
    obtain ⟨cs, h1, h2, _⟩ := rd_spec h hp
    obtain ⟨cs', h1', h2', _⟩ := rd_spec h hq
    have fin : ∀ (r : TV), (p.t = .bool ∨ isAgg p.t = true → Θ.is T p.t = true) → binTV op p q = some (true, r) → GoesQ P w0 W0 Z H (S.put o.dst (.v r [])) a o.dst w (execOp a.eval o) := by
      intro r hi hb
      obtain ⟨z, h3, h4⟩ := bin_run (P := P) (A := Av σ Z) (H := H) (tm := tmOf a) (S := S) (x := x) (y := y) hT h1 h1' h2 h2' hi hb
      have hsc : scalar r.t = true := binTV_scalar hb
      refine goes_pure h (v := z) (fun w2 hw => ?_) h4
      obtain ⟨z2, k3, k4⟩ := bin_run (w := w2) (P := P) (A := Av σ Z) (H := H) (tm := tmOf a) (S := S) (x := x) (y := y) hT h1 h1' (K_stays hw.stays _ h2) (K_stays hw.stays _ h2') hi hb
      rw [scalar_det hsc h4 k4]
      simp only [execOp, ho]
      simp only [Sem.run_bind] at k3 ⊢
      rw [k3]
      rfl
    split at e
    · rename_i ht
      cases hc : Θ.is T .bool with
      | false => rw [hc] at e; cases e
      | true =>
        rw [hc] at e
        simp only [cond_true] at e
        split at e
        · rename_i g r hb
          injection e with e; injection e with e1 e; subst e e1
          exact fin r (fun _ => by rw [ht]; exact hc) hb
        · cases e
    · rename_i t t' ht
      cases hc : Θ.is T p.t with
      | false => rw [hc] at e; cases e
      | true =>
        rw [hc] at e
        simp only [cond_true] at e
        split at e
        · rename_i g r hb
          injection e with e; injection e with e1 e; subst e e1
          exact fin r (fun _ => hc) hb
        · cases e
    · rename_i n1 n2
      split at e
      · rename_i g r hb
        injection e with e; injection e with e1 e; subst e e1
        refine fin r (fun hh => ?_) hb
        rcases hh with hh | hh
        · exact absurd hh n1
        · obtain ⟨pt, pm, px⟩ := p
          simp only at hh n1 n2
          cases pt <;> simp [isAgg] at hh
          · exact absurd rfl (n2 _ _)
          · simp [binTV] at hb
          · simp [binTV] at hb
      · cases e
  · cases e
end Go.Pv

namespace Go.Pv
set_option linter.unusedVariables false
set_option linter.unusedSimpArgs false
variable {P : Program} {w w' : World} {A A' : Nat → Prop} {H : Nat → Value} {tm tm' : Nat → Value} {S S' : St} {σ : Nat → Option Nat} {w0 : World} {W0 Z : Nat → Prop} {a : Act} {own : Nat → Prop} {v : Value} {Θ : Tab} {dst : Option Nat} {g : Bool}

theorem inB_true {n : Int} {len : Nat} (h : inB n len = true) : 0 ≤ n ∧ n < (len : Int) := by
  simpa [inB] using h

theorem index_ok (hT : tabB P Θ = true) (h : RelS σ w0 W0 Z H S a w) {o : Oper} {T : TypeId} {x ix : Operand} (ho : o.op = .index T x ix) (e : evIndex Θ S o.dst T x ix = some (true, S')) : GoesQ P w0 W0 Z H S' a o.dst w (execOp a.eval o) := by
  unfold evIndex at e
  split at e
  · rename_i m s n hb hn
    cases hc : Θ.is T .str with
    | false => rw [hc] at e; cases e
    | true =>
      rw [hc] at e
      simp only [cond_true, Option.some.injEq, Prod.mk.injEq] at e
      obtain ⟨e1, e⟩ := e
      subst e
      obtain ⟨b1, b2⟩ := inB_true e1
      obtain ⟨cs, h1, h2, _⟩ := rd_spec h hb
      have hv := match_str h1 h2
      obtain ⟨k, hk⟩ := rdInt_spec h hn
      obtain ⟨i, hi, hty⟩ := is_find hc
      obtain ⟨_, hu, hTi⟩ := tab_ti hT hi
      have hu' := und_str hu hty
      rw [hTi] at hu'
      refine goes_pure h (v := .int .u8 (bt s n)) (fun w2 _ => ?_) (holds_int _ _)
      have hlt : n.toNat < s.size := by omega
      have hget : s[n.toNat]? = some s[n.toNat] := ByteArray.getElem?_lt' s _ hlt
      have hbt : bt s n = (s[n.toNat].toNat : Int) := by unfold bt; rw [dif_pos hlt]
      simp [execOp, ho, hv, hk, Instr.index, asIntOf, run_underlying hu', b1, hget, hbt]
  · cases e

theorem glance_get {s : Nat} {p : Path} {b : TV} (h : S.glance s p = some b) : ∃ r ex, S.at s = .v r ex ∧ (∀ q ∈ ex, under q p = false) ∧ getP p r.t r.m r.x = some b := by
  unfold St.glance at h
  split at h
  · rename_i r ex he
    cases hc : ex.all fun q => !under q p with
    | true =>
      rw [hc] at h
      exact ⟨r, ex, he, fun q hq => by simpa using List.all_eq_true.1 hc q hq, h⟩
    | false => rw [hc] at h; cases h
  · cases h

theorem under_pre : ∀ (q : Path) (s : Step) (r : Path), under q (q ++ s :: r) = true
  | [], _, _ => by simp [under]
  | .idx i :: q, s, r => by simp [under]; exact under_pre q s r
  | .deref :: q, s, r => by simp [under]; exact under_pre q s r
  | .fst :: q, s, r => by simp [under]; exact under_pre q s r
  | .snd :: q, s, r => by simp [under]; exact under_pre q s r
theorem open_of_under {p : Path} {ex : List Path} (h : ∀ q ∈ ex, under q p = false) : open_ p ex := fun q hq s r e => by
  have := h q hq
  rw [e, under_pre] at this
  cases this

theorem place_glance {s : Nat} {p : Path} {b : TV} (h : S.place s p = some b) : ∃ r ex, S.at s = .v r ex ∧ (∀ q ∈ ex, clash q p = false) ∧ getP p r.t r.m r.x = some b := by
  unfold St.place at h
  split at h
  · rename_i r ex he
    cases hc : ex.all fun q => !clash q p with
    | true =>
      rw [hc] at h
      exact ⟨r, ex, he, fun q hq => by simpa using List.all_eq_true.1 hc q hq, h⟩
    | false => rw [hc] at h; cases h
  · cases h

theorem len_ok (hT : tabB P Θ = true) (h : RelS σ w0 W0 Z H S a w) {o : Oper} {as : Array Operand} {ts : Array TypeId} (ho : o.op = .call { callee := .builtin .len, args := as, argTypes := ts }) (e : evLen Θ S o.dst ts.toList as.toList = some (true, S')) : GoesS P w0 W0 Z H S' a o.dst w (execOp a.eval o) := by
  obtain ⟨as⟩ := as
  obtain ⟨ts⟩ := ts
  simp only at e
  unfold evLen at e
  split at e
  · rename_i x T
    split at e
    · rename_i b hb
      cases hc : Θ.is T b.t with
      | false => rw [hc] at e; cases e
      | true =>
        rw [hc] at e
        simp only [cond_true] at e
        split at e
        · rename_i n hn
          injection e with e; injection e with _ e; subst e
          have hval : (∃ xs : ByteArray, b.t = .str ∧ a.eval x = .string xs ∧ n = (xs.size : Int)) ∨ ∃ t X c, ∃ m : Nat, b.t = .sl t ∧ a.eval x = .slice X m c ∧ n = (m : Int) := by
            obtain ⟨bt, bm, bx⟩ := b
            unfold lenTV at hn
            split at hn
            · rename_i t m xs heq
              cases heq
              injection hn with hn
              right
              split at hb
              · rename_i b' ex hav
                cases hx : ex.any List.isEmpty with
                | true => rw [hx] at hb; cases hb
                | false =>
                  rw [hx] at hb
                  simp only [cond_false, Option.some.injEq] at hb
                  subst hb
                  obtain ⟨cs, h1, h2⟩ := opv_holds h hav
                  simp only [M] at h2
                  rcases h2 with ⟨hne, _⟩ | ⟨_, h2⟩ | ⟨T', tag, me, X, c, _, rfl, _⟩
                  · have : ex.any List.isEmpty = true := List.any_eq_true.2 ⟨[], hne, rfl⟩
                    rw [hx] at this; cases this
                  · obtain ⟨X, c, hv, _⟩ := match_sl h1 h2
                    exact ⟨_, X, c, _, rfl, hv, hn.symm⟩
                  · exact ⟨_, X, c, _, rfl, by simpa [matchV, isAgg] using h1.symm, hn.symm⟩
              · rename_i a' _ hav
                obtain ⟨cs, h1, h2, _⟩ := rdA_spec h (opv_holds h hav) hb
                obtain ⟨X, c, hv, _⟩ := match_sl h1 h2
                exact ⟨_, X, c, _, rfl, hv, hn.symm⟩
              · cases hb
            · rename_i m xs heq
              cases heq
              injection hn with hn
              left
              split at hb
              · rename_i b' ex hav
                cases hx : ex.any List.isEmpty with
                | true => rw [hx] at hb; cases hb
                | false =>
                  rw [hx] at hb
                  simp only [cond_false, Option.some.injEq] at hb
                  subst hb
                  obtain ⟨cs, h1, h2⟩ := opv_holds h hav
                  simp only [M] at h2
                  exact ⟨_, rfl, match_str h1 h2.2, hn.symm⟩
              · rename_i a' _ hav
                obtain ⟨cs, h1, h2, _⟩ := rdA_spec h (opv_holds h hav) hb
                exact ⟨_, rfl, match_str h1 h2, hn.symm⟩
              · cases hb
            · cases hn
          obtain ⟨i, hi, hty⟩ := is_find hc
          obtain ⟨_, hu, hTi⟩ := tab_ti hT hi
          rcases hval with ⟨xs, ht, hv, rfl⟩ | ⟨t, X, c, m, ht, hv, rfl⟩
          · have hu' := und_str hu (hty.trans ht)
            rw [hTi] at hu'
            refine goes_pureS h (v := .int .i64 xs.size) (fun w2 => ?_) (holds_int _ _)
            simp [execOp, ho, hv, resolve, invoke, builtin, Builtin.len_, run_underlying hu', goInt]
          · have hu' := (und_sl hu (hty.trans ht)).1
            rw [hTi] at hu'
            refine goes_pureS h (v := .int .i64 m) (fun w2 => ?_) (holds_int _ _)
            simp [execOp, ho, hv, resolve, invoke, builtin, Builtin.len_, run_underlying hu', goInt]
        · cases e
    · cases e
  · cases e

theorem pick_ok (h : RelS σ w0 W0 Z H S a w) {o : Oper} {c x y : Operand} (ho : o.op = .pick c x y) (e : evPick Θ S o.dst o.type c x y = some (true, S')) : GoesQ P w0 W0 Z H S' a o.dst w (execOp a.eval o) := by
  unfold evPick at e
  split at e
  · rename_i m q hq
    obtain ⟨cs, h1, h2, _⟩ := rd_spec h hq
    have hv := match_bool h1 h2
    have hrun : ∀ w2, Ext w w2 → (execOp a.eval o).run P w2 = .ok (.value (if q = true then a.eval x else a.eval y)) w2 := fun w2 _ => by
      simp only [execOp, ho, hv, asBool]
      rfl
    split at e
    · rename_i m1 x1 e1 m2 y1 e2 hx hy
      injection e with e; injection e with _ e; subst e
      refine goes_pure h hrun ?_
      obtain ⟨c1, k1, k2⟩ := opv_holds h hx
      obtain ⟨c2, k3, k4⟩ := opv_holds h hy
      simp only [M] at k2 k4
      have := match_bool k1 k2.2
      have := match_bool k3 k4.2
      cases q <;> simp_all <;> exact holds_bool _
    · rename_i p r hne hx hy
      cases q with
      | true =>
        simp only [cond_true] at e
        split at e
        · rename_i av hav
          injection e with e; injection e with _ e; subst e
          exact goes_pure h (fun w2 hw => by simpa using hrun w2 hw) (copy_holds h hx hav)
        · cases e
      | false =>
        simp only [cond_false] at e
        split at e
        · rename_i av hav
          injection e with e; injection e with _ e; subst e
          exact goes_pure h (fun w2 hw => by simpa using hrun w2 hw) (copy_holds h hy hav)
        · cases e
    · cases e
  · cases e

end Go.Pv

namespace Go.Pv
set_option linter.unusedVariables false
set_option linter.unusedSimpArgs false
variable {P : Program} {w w' : World} {A A' : Nat → Prop} {H : Nat → Value} {tm tm' : Nat → Value} {S S' : St} {σ : Nat → Option Nat} {w0 : World} {W0 Z : Nat → Prop} {a : Act} {own : Nat → Prop} {v : Value} {Θ : Tab} {dst : Option Nat}

theorem getP_append : ∀ (p q : Path) (t : Ty) (m : Md) (x : t.I), getP (p ++ q) t m x = (getP p t m x).bind fun b => getP q b.t b.m b.x
  | [], q, t, m, x => rfl
  | .deref :: p, q, t, m, x => by cases t <;> simp only [List.cons_append, getP, Option.bind_none] <;> exact getP_append p q _ _ _
  | .fst :: p, q, t, m, x => by cases t <;> simp only [List.cons_append, getP, Option.bind_none] <;> exact getP_append p q _ _ _
  | .snd :: p, q, t, m, x => by cases t <;> simp only [List.cons_append, getP, Option.bind_none] <;> exact getP_append p q _ _ _
  | .idx i :: p, q, t, m, x => by cases t <;> simp only [List.cons_append, getP, Option.bind_none] <;> exact getP_append p q _ _ _

theorem valid_append : ∀ (p q : Path) {t : Ty} {m : Md} {x : t.I} {b : TV}, getP p t m x = some b → valid p t x → valid q b.t b.x → valid (p ++ q) t x
  | [], q, t, m, x, b, hg, _, h => by simp only [getP, Option.some.injEq] at hg; subst hg; exact h
  | .deref :: p, q, .ptr t, m, x, b, hg, h1, h2 => by simp only [getP] at hg; simp only [valid] at h1; simp only [List.cons_append, valid]; exact valid_append p q hg h1 h2
  | .fst :: p, q, .pair _ _, m, x, b, hg, h1, h2 => by simp only [getP] at hg; simp only [valid] at h1; simp only [List.cons_append, valid]; exact valid_append p q hg h1 h2
  | .snd :: p, q, .pair _ _, m, x, b, hg, h1, h2 => by simp only [getP] at hg; simp only [valid] at h1; simp only [List.cons_append, valid]; exact valid_append p q hg h1 h2
  | .idx i :: p, q, .sl t, m, x, b, hg, h1, h2 => by simp only [getP] at hg; simp only [valid] at h1; simp only [List.cons_append, valid]; exact ⟨h1.1, valid_append p q hg h1.2 h2⟩

theorem deref_cases (cs : List Value) : (∃ g off, cs = [.pointer (some ⟨g, off, none⟩)]) ∨ ((∀ (w : World) (p : Path) (t : Ty), cellsAt w (.deref :: p) (.ptr t) cs = none) ∧ ∀ (w : World) (p : Path) (t : Ty) (l : Option (Nat × Nat)), addrAt w (.deref :: p) (.ptr t) cs l = none) := by
  rcases cs with _ | ⟨v, _ | ⟨_, _⟩⟩
  · exact .inr ⟨fun _ _ _ => rfl, fun _ _ _ _ => rfl⟩
  · cases v <;> try exact .inr ⟨fun _ _ _ => rfl, fun _ _ _ _ => rfl⟩
    rename_i x
    rcases x with _ | ⟨g, off, _ | _⟩
    · exact .inr ⟨fun _ _ _ => rfl, fun _ _ _ _ => rfl⟩
    · exact .inl ⟨g, off, rfl⟩
    · exact .inr ⟨fun _ _ _ => rfl, fun _ _ _ _ => rfl⟩
  · cases v <;> try exact .inr ⟨fun _ _ _ => rfl, fun _ _ _ _ => rfl⟩
    rename_i x
    rcases x with _ | ⟨g, off, _ | _⟩ <;> exact .inr ⟨fun _ _ _ => rfl, fun _ _ _ _ => rfl⟩
theorem idx_cases (cs : List Value) : (∃ g off n c, cs = [.slice (some ⟨g, off, none⟩) n c]) ∨ ((∀ (w : World) (i : Nat) (p : Path) (t : Ty), cellsAt w (.idx i :: p) (.sl t) cs = none) ∧ ∀ (w : World) (i : Nat) (p : Path) (t : Ty) (l : Option (Nat × Nat)), addrAt w (.idx i :: p) (.sl t) cs l = none) := by
  rcases cs with _ | ⟨v, _ | ⟨_, _⟩⟩
  · exact .inr ⟨fun _ _ _ _ => rfl, fun _ _ _ _ _ => rfl⟩
  · cases v <;> try exact .inr ⟨fun _ _ _ _ => rfl, fun _ _ _ _ _ => rfl⟩
    rename_i x n c
    rcases x with _ | ⟨g, off, _ | _⟩
    · exact .inr ⟨fun _ _ _ _ => rfl, fun _ _ _ _ _ => rfl⟩
    · exact .inl ⟨g, off, n, c, rfl⟩
    · exact .inr ⟨fun _ _ _ _ => rfl, fun _ _ _ _ _ => rfl⟩
  · cases v <;> try exact .inr ⟨fun _ _ _ _ => rfl, fun _ _ _ _ _ => rfl⟩
    rename_i x n c
    rcases x with _ | ⟨g, off, _ | _⟩ <;> exact .inr ⟨fun _ _ _ _ => rfl, fun _ _ _ _ _ => rfl⟩

theorem cells_append : ∀ (p q : Path) {t : Ty} {m : Md} {x : t.I} {b : TV} (cs : List Value) (l : Option (Nat × Nat)), getP p t m x = some b →
    cellsAt w (p ++ q) t cs = (cellsAt w p t cs).bind (cellsAt w q b.t) ∧ addrAt w (p ++ q) t cs l = (cellsAt w p t cs).bind fun c => addrAt w q b.t c (addrAt w p t cs l)
  | [], q, t, m, x, b, cs, l, hg => by simp only [getP, Option.some.injEq] at hg; subst hg; exact ⟨rfl, rfl⟩
  | .fst :: p, q, .pair a' b', m, x, b, cs, l, hg => by simp only [getP] at hg; simp only [List.cons_append, cellsAt, addrAt]; exact cells_append p q _ _ hg
  | .snd :: p, q, .pair a' b', m, x, b, cs, l, hg => by simp only [getP] at hg; simp only [List.cons_append, cellsAt, addrAt]; exact cells_append p q _ _ hg
  | .deref :: p, q, .ptr t, m, x, b, cs, l, hg => by
    simp only [getP] at hg
    have ih := fun c l' => cells_append p q c l' hg
    rw [List.cons_append]
    rcases deref_cases cs with ⟨g, off, rfl⟩ | ⟨h1, h2⟩
    · simp only [cellsAt, addrAt]
      cases hr : rowAt w g off t.size with
      | none => simp
      | some c => simp only [Option.bind_some]; exact ih c _
    · simp only [h1, h2, Option.bind_none, and_self]
  | .idx i :: p, q, .sl t, m, x, b, cs, l, hg => by
    simp only [getP] at hg
    have ih := fun c l' => cells_append p q c l' hg
    rw [List.cons_append]
    rcases idx_cases cs with ⟨g, off, n, c, rfl⟩ | ⟨h1, h2⟩
    · simp only [cellsAt, addrAt]
      cases hr : rowAt w g (off + i * t.size) t.size with
      | none => simp
      | some c => simp only [Option.bind_some]; exact ih c _
    · simp only [h1, h2, Option.bind_none, and_self]

theorem rowAt_len {g off n : Nat} {cs : List Value} (h : rowAt w g off n = some cs) : cs.length = n ∧ ∃ cur T fr, w.heap[g]? = some (.cells cur T fr) ∧ off + n ≤ cur.size ∧ cs = (cur.toList.drop off).take n := by
  unfold rowAt at h
  split at h
  · rename_i cur T fr hw
    split at h
    · rename_i hl
      injection h with h
      subst h
      refine ⟨by simp; omega, cur, T, fr, hw, hl, rfl⟩
    · cases h
  · cases h
theorem rowAt_part {g off n a b : Nat} {cs : List Value} (h : rowAt w g off n = some cs) (hab : a + b ≤ n) : rowAt w g (off + a) b = some ((cs.drop a).take b) := by
  obtain ⟨_, cur, T, fr, hw, hl, rfl⟩ := rowAt_len h
  rw [rowAt_own hw (by omega), List.drop_take, List.take_take, List.drop_drop, Nat.min_eq_left (by omega)]

/-- What stands at an address. -/
theorem addr_row : ∀ (p : Path) {t : Ty} {m : Md} {x : t.I} {b : TV} {cs cs' : List Value} {l : Option (Nat × Nat)} {g off : Nat}, getP p t m x = some b → cs.length = t.size → (∀ g o, l = some (g, o) → rowAt w g o t.size = some cs) →
    cellsAt w p t cs = some cs' → addrAt w p t cs l = some (g, off) → rowAt w g off b.t.size = some cs'
  | [], t, m, x, b, cs, cs', l, g, off, hg, hl, hr, hc, ha => by
    simp only [getP, Option.some.injEq] at hg; subst hg
    simp only [cellsAt, Option.some.injEq] at hc; subst hc
    exact hr g off ha
  | .fst :: p, .pair a' b', m, x, b, cs, cs', l, g, off, hg, hl, hr, hc, ha => by
    simp only [getP] at hg; simp only [cellsAt] at hc; simp only [addrAt] at ha; simp only [Ty.size] at hl hr
    refine addr_row p hg (by rw [List.length_take]; omega) (fun g o e => ?_) hc ha
    have := rowAt_part (a := 0) (b := a'.size) (hr g o e) (by omega)
    rw [Nat.add_zero, List.drop_zero] at this
    exact this
  | .snd :: p, .pair a' b', m, x, b, cs, cs', l, g, off, hg, hl, hr, hc, ha => by
    simp only [getP] at hg; simp only [cellsAt] at hc; simp only [addrAt] at ha; simp only [Ty.size] at hl hr
    refine addr_row p hg (by rw [List.length_drop]; omega) (fun g o e => ?_) hc ha
    cases l with
    | none => simp at e
    | some q =>
      simp only [Option.map_some, Option.some.injEq, Prod.mk.injEq] at e
      obtain ⟨rfl, rfl⟩ := e
      have := rowAt_part (a := a'.size) (b := b'.size) (hr q.1 q.2 rfl) (by omega)
      rw [List.take_of_length_le (by rw [List.length_drop]; omega)] at this
      exact this
  | .deref :: p, .ptr t, m, x, b, cs, cs', l, g, off, hg, hl, hr, hc, ha => by
    simp only [getP] at hg
    rcases deref_cases cs with ⟨g1, off1, rfl⟩ | ⟨h1, h2⟩
    · simp only [cellsAt] at hc
      simp only [addrAt] at ha
      cases hrow : rowAt w g1 off1 t.size with
      | none => rw [hrow] at hc; simp at hc
      | some c =>
        rw [hrow] at hc ha
        simp only [Option.bind_some] at hc ha
        exact addr_row p hg (rowAt_len hrow).1 (fun g o e => by injection e with e; injection e with e1 e2; subst e1 e2; exact hrow) hc ha
    · rw [h1] at hc; cases hc
  | .idx i :: p, .sl t, m, x, b, cs, cs', l, g, off, hg, hl, hr, hc, ha => by
    simp only [getP] at hg
    rcases idx_cases cs with ⟨g1, off1, n, c1, rfl⟩ | ⟨h1, h2⟩
    · simp only [cellsAt] at hc
      simp only [addrAt] at ha
      cases hrow : rowAt w g1 (off1 + i * t.size) t.size with
      | none => rw [hrow] at hc; simp at hc
      | some c =>
        rw [hrow] at hc ha
        simp only [Option.bind_some] at hc ha
        exact addr_row p hg (rowAt_len hrow).1 (fun g o e => by injection e with e; injection e with e1 e2; subst e1 e2; exact hrow) hc ha
    · rw [h1] at hc; cases hc

/-- A load. -/
theorem load_run (hT : tabB P Θ = true) {T : TypeId} {t : Ty} {g off : Nat} {cs : List Value} (ht : Θ.is T t = true) (h : rowAt w g off t.size = some cs) :
    ∃ v, (∀ w2, Ext w w2 → (Instr.loadAt T (.pointer (some ⟨g, off, none⟩))).run P w2 = .ok v w2) ∧ matchV t v cs := by
  suffices hs : ∀ w2, Ext w w2 → ∃ v, (Instr.loadAt T (.pointer (some ⟨g, off, none⟩))).run P w2 = .ok v w2 ∧ matchV t v cs by
    obtain ⟨v, _, h2⟩ := hs w (Ext.refl w)
    refine ⟨v, fun w2 hw => ?_, h2⟩
    obtain ⟨v', k1, k2⟩ := hs w2 hw
    rw [k1]
    unfold matchV at h2 k2
    split at h2
    · rename_i ha; rw [if_pos ha] at k2; rw [h2, k2]
    · rename_i ha; rw [if_neg ha] at k2; rw [h2] at k2; injection k2 with k2; rw [k2]
  intro w2 hw2
  have h : rowAt w2 g off t.size = some cs := by
    obtain ⟨_, cur, T', fr, hw, _, _⟩ := rowAt_len h
    unfold rowAt at h ⊢
    rw [hw2 g (lt_of_some hw)]
    exact h
  clear hw2
  revert h
  generalize w2 = w
  intro h
  obtain ⟨hl, cur, T', fr, hw, hs, rfl⟩ := rowAt_len h
  obtain ⟨inf, hi, hsz, _⟩ := size_is hT ht
  have hcell : ∀ j v, ((cur.toList.drop off).take t.size)[j]? = some v → w.cell? ((⟨g, off, none⟩ : Addr).add j) = some v := by
    intro j v hj
    rw [addr_add]
    unfold World.cell?
    simp only [hw, Option.isSome_none, Bool.false_eq_true, if_false]
    rw [List.getElem?_take] at hj
    split at hj
    · rw [List.getElem?_drop] at hj
      simpa using hj
    · cases hj
  have hagg := agg_is hT ht w
  simp only [Instr.loadAt, Instr.sureAddr, loadVar, Sem.run_bind, Sem.run_pure, Result.andThen_ok, hagg]
  cases hb : isAgg t with
  | true =>
    refine ⟨.agg ((cur.toList.drop off).take t.size).toArray, ?_, by simp [matchV, hb]⟩
    have hlc := run_loadCells_list (P := P) (w := w) ⟨g, off, none⟩ _ hcell
    rw [hl] at hlc
    simp only [if_true, Sem.run_bind, sizeOf, typeInfo, run_program, Result.andThen_ok, hi, Sem.run_pure, hsz, hlc]
  | false =>
    have h1 : t.size = 1 := by cases t <;> simp [isAgg] at hb <;> rfl
    rw [h1] at hl hcell ⊢
    obtain ⟨u, hu⟩ : ∃ u, (cur.toList.drop off).take 1 = [u] := by
      cases hx : (cur.toList.drop off).take 1 with
      | nil => rw [hx] at hl; simp at hl
      | cons u r =>
        rw [hx] at hl
        cases r with
        | nil => exact ⟨u, rfl⟩
        | cons _ _ => simp at hl
    refine ⟨u, ?_, by simp [matchV, hb, hu]⟩
    have := hcell 0 u (by rw [hu]; rfl)
    rw [Addr.add_zero'] at this
    simp [load, Sem.run, this]
end Go.Pv

namespace Go.Pv
set_option linter.unusedVariables false
set_option linter.unusedSimpArgs false
variable {P : Program} {w w' : World} {A A' : Nat → Prop} {H : Nat → Value} {tm tm' : Nat → Value} {S S' : St} {σ : Nat → Option Nat} {w0 : World} {W0 Z : Nat → Prop} {a : Act} {own : Nat → Prop} {v : Value} {Θ : Tab} {dst : Option Nat}

/-- Where a pointer leads. -/
def Leads (w : World) (A : Nat → Prop) (tm : Nat → Value) (S : St) : Tgt → Value → Prop
  | .k b, v => ∃ cs, matchV (.ptr b.t) v cs ∧ K w A (.ptr b.t) b.x cs
  | .pl t s p, v => ∃ r ex, S.at s = .v r ex ∧ (open_ p ex → ∃ cs0 g off, Ref tm S t s p r cs0 ∧ addrAt w p r.t cs0 none = some (g, off) ∧ v = .pointer (some ⟨g, off, none⟩))

theorem lead_own (h : RelS σ w0 W0 Z H S a w) {i : Nat} {t : Ty} {T : TypeId} {tag : Option Nat} {me : Md} {y : t.I} {ex : List Path} (hi : S.at i = .v ⟨.ptr t, .o T tag me, y⟩ ex) :
    Leads w (Av σ Z) (tmOf a) S (.pl t i [.deref]) (tmOf a i) := by
  refine ⟨_, ex, hi, fun ho => ?_⟩
  have hh := h.holds i
  rw [hi] at hh
  obtain ⟨cs, h1, h2⟩ := hh
  simp only [M] at h2
  rcases h2 with ⟨hn, _⟩ | ⟨hk, _⟩ | ⟨T', tag', me', g, cur, e, rfl, ht, hg, hw, hM⟩
  · exact absurd hn ho.not_nil
  · simp [Md.isK] at hk
  · have hlen := (M_ok t hM).1
    refine ⟨_, g, 0, ⟨⟨ex, hi, ho⟩, trivial, ⟨_, rfl, rfl⟩, h1⟩, ?_, by simpa [matchV, isAgg] using h1.symm⟩
    have hs : 0 + t.size ≤ cur.size := by rw [← hlen]; simp
    simp only [addrAt, rowAt_own hw hs, Option.bind_some]

theorem open_head {p q : Path} {ex : List Path} (h : open_ (p ++ q) ex) : open_ p ex := fun r hr s u e => h r hr s (u ++ q) (by rw [e]; simp)
theorem open_not_mem {p : Path} {s : Step} {q : Path} {ex : List Path} (h : open_ (p ++ s :: q) ex) : [] ∉ subs p ex := fun hm => by
  have := mem_subs.1 hm
  rw [List.append_nil] at this
  exact h p this s q rfl

theorem tgt_spec (h : RelS σ w0 W0 Z H S a w) {T : TypeId} {x : Operand} {av : AV} {g : Tgt} (ho : S.opv Θ T x = some av) (e : S.tgt x av = some g) : Leads w (Av σ Z) (tmOf a) S g (a.eval x) := by
  have hh := opv_holds h ho
  have hown : ∀ {t : Ty} {T : TypeId} {tag : Option Nat} {me : Md} {y : t.I} {ex : List Path} {i : Nat}, av = .v ⟨.ptr t, .o T tag me, y⟩ ex → x = .tmp i → Leads w (Av σ Z) (tmOf a) S (.pl t i [.deref]) (a.eval x) := by
    intro t T tag me y ex i e1 e2
    subst e2
    simp only [St.opv, Option.some.injEq] at ho
    rw [e1] at ho
    exact lead_own h ho
  unfold St.tgt at e
  split at e
  · rename_i t m y
    split at e
    · injection e with e; subst e
      obtain ⟨cs, h1, h2⟩ := hh
      exact ⟨cs, h1, M_isK _ rfl h2⟩
    · injection e with e; subst e
      exact hown rfl rfl
    · cases e
  · split at e
    · injection e with e; subst e
      exact hown rfl rfl
    · cases e
  · rename_i t s p
    obtain ⟨r, cs0, cs, hr, hc, hm⟩ := hh
    split at e
    · rename_i t' y hgl
      injection e with e; subst e
      obtain ⟨ex, b, cs', ow', k1, k2, k3, k4, hM, k5, k6, k7⟩ := ref_focus h hr
      obtain ⟨r', ex', q1, q2, q3⟩ := glance_get hgl
      rw [k1] at q1
      injection q1 with q1 q1'
      subst q1 q1'
      rw [k3] at q3
      injection q3 with q3
      subst q3
      rw [k5] at hc
      injection hc with hc
      subst hc
      simp only at k4
      rw [← k4] at hm
      exact ⟨_, hm, M_isK _ rfl k7⟩
    · rename_i t' T' tag' me' y hgl
      injection e with e; subst e
      obtain ⟨ex, b, cs', ow', k1, k2, k3, k4, hM, k5, k6, k7⟩ := ref_focus h hr
      obtain ⟨r', ex', q1, q2, q3⟩ := glance_get hgl
      rw [k1] at q1
      injection q1 with q1 q1'
      subst q1 q1'
      rw [k3] at q3
      injection q3 with q3
      subst q3
      rw [k5] at hc
      injection hc with hc
      subst hc
      simp only at k4
      injection k4 with k4
      subst k4
      refine ⟨r, ex, k1, fun hop => ?_⟩
      simp only [M] at k7
      rcases k7 with ⟨hn, _⟩ | ⟨hk, _⟩ | ⟨T', tag', me', g, cur, e, rfl, ht, hg, hw, hM'⟩
      · exact absurd hn (open_not_mem hop)
      · simp [Md.isK] at hk
      · have hlen := (M_ok _ hM').1
        have hs : 0 + Ty.size t' ≤ cur.size := by rw [← hlen]; simp
        refine ⟨cs0, g, 0, ⟨⟨ex, k1, hop⟩, valid_append p [.deref] k3 hr.val trivial, ⟨_, by rw [getP_append, k3]; rfl, rfl⟩, hr.mat⟩, ?_, by simpa [matchV, isAgg] using hm.symm⟩
        rw [(cells_append p [.deref] cs0 none k3).2, k5]
        simp only [Option.bind_some, addrAt, rowAt_own hw hs]
    · cases e
  · rename_i t s p
    injection e with e; subst e
    obtain ⟨r, cs0, g, off, hr, hc, hm⟩ := hh
    obtain ⟨ex, k1, k2⟩ := hr.at_
    exact ⟨r, ex, k1, fun _ => ⟨cs0, g, off, hr, hc, hm⟩⟩
  · cases e

theorem nilcheck_ok (h : RelS σ w0 W0 Z H S a w) {o : Oper} {x : Operand} (ho : o.op = .nilCheck x) (e : evNilCheck Θ S o.dst x = some (true, S')) : GoesQ P w0 W0 Z H S' a o.dst w (execOp a.eval o) := by
  unfold evNilCheck at e
  split at e
  · rename_i av hav
    split at e
    · rename_i g hg
      split at e
      · rename_i r _ hr hgl
        injection e with e; injection e with _ e; subst e
        have hc := copy_holds h hav hr
        have hl := tgt_spec h hav hg
        have hp : (∃ ad, a.eval x = .pointer (some ad)) := by
          cases g with
          | k b =>
            obtain ⟨cs, h1, h2⟩ := hl
            simp only [K] at h2
            obtain ⟨g, off, cur, T, fr, rfl, _⟩ := h2
            exact ⟨_, by simpa [matchV, isAgg] using h1.symm⟩
          | pl t s p =>
            obtain ⟨r', ex, k1, k2⟩ := hl
            simp only at hgl
            split at hgl
            · rename_i b hb
              obtain ⟨r2, ex2, q1, q2, q3⟩ := glance_get hb
              rw [k1] at q1
              injection q1 with q1 q1'
              subst q1 q1'
              obtain ⟨cs0, g, off, _, _, e3⟩ := k2 (open_of_under q2)
              exact ⟨_, e3⟩
            · cases hgl
        obtain ⟨ad, hp⟩ := hp
        exact goes_pure h (v := a.eval x) (fun w2 _ => by simp only [execOp, ho, hp]; rfl) hc
      · cases e
    · cases e
  · cases e

theorem loadAt_spec (hT : tabB P Θ = true) (h : RelS σ w0 W0 Z H S a w) {T : TypeId} {g : Tgt} {r : AV} {v : Value} (hl : Leads w (Av σ Z) (tmOf a) S g v) (e : S.loadAt g = some r) (ht : Θ.is T g.ty = true) :
    ∃ u, (∀ w2, Ext w w2 → (Instr.loadAt T v).run P w2 = .ok u w2) ∧ Holds w (Av σ Z) H (tmOf a) S (fun _ => False) r u := by
  cases g with
  | k b =>
    simp only [St.loadAt, Option.some.injEq] at e
    subst e
    obtain ⟨cs, h1, h2⟩ := hl
    simp only [K] at h2
    obtain ⟨g, off, cur, T', fr, rfl, hg, hw, hs, hk⟩ := h2
    obtain rfl : v = .pointer (some ⟨g, off, none⟩) := by simpa [matchV, isAgg] using h1.symm
    obtain ⟨u, k1, k2⟩ := load_run hT ht (rowAt_own hw hs)
    exact ⟨u, k1, _, k2, M_of_K _ hk⟩
  | pl t s p =>
    simp only [St.loadAt] at e
    obtain ⟨r', ex, k1, k2⟩ := hl
    split at e
    · rename_i b hb
      obtain ⟨r2, ex2, q1, q2, q3⟩ := glance_get hb
      rw [k1] at q1
      injection q1 with q1 q1'
      subst q1 q1'
      obtain ⟨cs0, g, off, hr, ha, rfl⟩ := k2 (open_of_under q2)
      obtain ⟨ex', b', cs', ow', j1, j2, j3, j4, hM, j5, j6, j7⟩ := ref_focus h hr
      rw [k1] at j1
      injection j1 with j1 j1'
      subst j1'
      rw [q3] at j3
      injection j3 with j3
      subst j3
      subst j4
      have hrow := addr_row p q3 (M_ok _ hM).1 (fun g o e => by cases e) j5 ha
      obtain ⟨u, l1, l2⟩ := load_run hT ht hrow
      refine ⟨u, l1, ?_⟩
      cases hk : b.m.isK with
      | true =>
        rw [hk] at e
        simp only [cond_true] at e
        split at e
        · rename_i c hc
          injection e with e; subst e
          obtain ⟨_, ow2, _, hM2⟩ := place_read h hr j5 hc
          have hcb : c = b := by
            obtain ⟨r3, ex3, p1, p2, p3⟩ := place_glance hc
            rw [k1] at p1
            injection p1 with p1 p1'
            subst p1
            rw [q3] at p3
            injection p3 with p3
            exact p3.symm
          subst hcb
          exact ⟨_, l2, M_of_K _ (M_isK _ hk hM2)⟩
        · cases e
      | false =>
        rw [hk] at e
        simp only [cond_false, Option.some.injEq] at e
        subst e
        exact ⟨r', cs0, cs', hr, j5, l2⟩
    · cases e

theorem load_ok (hT : tabB P Θ = true) (h : RelS σ w0 W0 Z H S a w) {o : Oper} {T : TypeId} {x : Operand} (ho : o.op = .load T x) (e : evLoad Θ S o.dst T x = some (true, S')) : GoesQ P w0 W0 Z H S' a o.dst w (execOp a.eval o) := by
  unfold evLoad at e
  split at e
  · rename_i av hav
    split at e
    · rename_i g hg
      split at e
      · rename_i r hr
        have hl := tgt_spec h hav hg
        cases hc : Θ.is T g.ty with
        | false => rw [hc] at e; cases e
        | true =>
          rw [hc] at e
          simp only [cond_true, Option.some.injEq, Prod.mk.injEq, true_and] at e
          subst e
          obtain ⟨u, h1, h2⟩ := loadAt_spec hT h hl hr hc
          refine goes_pure h (v := u) (fun w2 hw => ?_) h2
          simp only [execOp, ho, Sem.run_bind, h1 w2 hw]
          rfl
      · cases e
    · cases e
  · cases e
end Go.Pv

namespace Go.Pv
set_option linter.unusedVariables false
set_option linter.unusedSimpArgs false
variable {P : Program} {w w' : World} {A A' : Nat → Prop} {H : Nat → Value} {tm tm' : Nat → Value} {S S' : St} {σ : Nat → Option Nat} {w0 : World} {W0 Z : Nat → Prop} {a : Act} {own : Nat → Prop} {v : Value} {Θ : Tab} {dst : Option Nat}

theorem getP_isK : ∀ (p : Path) {t : Ty} {m : Md} {x : t.I} {b : TV}, m.isK = true → getP p t m x = some b → b.m.isK = true
  | [], t, m, x, b, hk, hg => by simp only [getP, Option.some.injEq] at hg; subst hg; exact hk
  | .deref :: p, .ptr t, m, x, b, hk, hg => by simp only [getP] at hg; exact getP_isK p (inn_isK hk) hg
  | .fst :: p, .pair _ _, m, x, b, hk, hg => by simp only [getP] at hg; exact getP_isK p (l_isK hk) hg
  | .snd :: p, .pair _ _, m, x, b, hk, hg => by simp only [getP] at hg; exact getP_isK p (r_isK hk) hg
  | .idx i :: p, .sl t, m, x, b, hk, hg => by simp only [getP] at hg; exact getP_isK p (inn_isK hk) hg

theorem memless_valid : ∀ (p : Path) {t : Ty} {m : Md} {x : t.I} {b : TV}, memless p = true → getP p t m x = some b → valid p t x
  | [], _, _, _, _, _, _ => trivial
  | .fst :: p, .pair _ _, m, x, b, h, hg => by simp only [getP] at hg; simp only [valid]; exact memless_valid p (by simpa [memless] using h) hg
  | .snd :: p, .pair _ _, m, x, b, h, hg => by simp only [getP] at hg; simp only [valid]; exact memless_valid p (by simpa [memless] using h) hg

theorem memless_ty : ∀ (p : Path) {t : Ty} {m : Md} {x : t.I} {b : TV}, memless p = true → getP p t m x = some b → tyAt p t = some b.t
  | [], _, _, _, _, _, hg => by simp only [getP, Option.some.injEq] at hg; subst hg; rfl
  | .fst :: p, .pair _ _, m, x, b, h, hg => by simp only [getP] at hg; simp only [tyAt]; exact memless_ty p (by simpa [memless] using h) hg
  | .snd :: p, .pair _ _, m, x, b, h, hg => by simp only [getP] at hg; simp only [tyAt]; exact memless_ty p (by simpa [memless] using h) hg

theorem memless_append : ∀ (p q : Path), memless p = true → memless q = true → memless (p ++ q) = true
  | [], _, _, h => h
  | .fst :: p, q, h, h' => by simp only [List.cons_append, memless]; exact memless_append p q (by simpa [memless] using h) h'
  | .snd :: p, q, h, h' => by simp only [List.cons_append, memless]; exact memless_append p q (by simpa [memless] using h) h'
theorem snds_memless : ∀ n, memless (List.replicate n .snd) = true
  | 0 => rfl
  | n + 1 => by rw [List.replicate_succ]; simp only [memless]; exact snds_memless n
theorem fld_memless (i n : Nat) : memless (fld i n) = true := by
  unfold fld
  cases Nat.beq (i + 1) n <;> cases Nat.beq n 1 <;> simp only [cond_true, cond_false]
  · exact memless_append _ _ (snds_memless _) rfl
  · exact memless_append _ _ (snds_memless _) rfl
  · exact snds_memless _
  · rfl

/-- A part of what is read through a pointer. -/
theorem K_part {t : Ty} {x : t.I} {p : Path} {b : TV} {cs : List Value} {v : Value} (hm : matchV (.ptr t) v cs) (h : K w A (.ptr t) x cs) (hp : memless p = true) (hg : getP p t .k x = some b) :
    ∃ g off, v = .pointer (some ⟨g, off, none⟩) ∧ K w A (.ptr b.t) b.x [.pointer (some ⟨g, off + fldOff p t, none⟩)] := by
  simp only [K] at h
  obtain ⟨g, off, cur, T', fr, rfl, hA, hw, hs, hk⟩ := h
  refine ⟨g, off, by simpa [matchV, isAgg] using hm.symm, ?_⟩
  have hl := (K_ok t hk).1
  obtain ⟨cs', ow', k1, k2, k3⟩ := focus (w := w) (Wr := A) (H := fun _ => undef) (ow := fun _ => False) (hs := []) p (M_of_K t hk) (fun _ h => by simp at h) (memless_valid p hp hg) hg
  rw [memless_cells p hp hg hl] at k1
  injection k1 with k1
  subst k1
  have hf := memless_fit p hp hg
  simp only [K]
  refine ⟨g, off + fldOff p t, cur, T', fr, rfl, hA, hw, by omega, ?_⟩
  have := M_isK _ (getP_isK p rfl hg) k3
  rw [List.drop_take, List.take_take, List.drop_drop, Nat.min_eq_left (by omega)] at this
  exact this

theorem memless_pair {p : Path} {t : Ty} {m : Md} {x : t.I} {b : TV} (hp : p ≠ []) (h : memless p = true) (hg : getP p t m x = some b) : ∃ a' b', t = .pair a' b' := by
  cases p with
  | nil => exact absurd rfl hp
  | cons s p => cases s <;> cases t <;> simp_all [getP, memless]
theorem fld_ne {i n : Nat} (h : i < n) : fld i n ≠ [] := by
  unfold fld
  cases hb : Nat.beq (i + 1) n with
  | false => simp
  | true =>
    cases hc : Nat.beq n 1 with
    | true => simp
    | false =>
      simp only [cond_true, cond_false]
      have h1 := Nat.eq_of_beq_eq_true hb
      have h2 := Nat.ne_of_beq_eq_false hc
      cases i with
      | zero => omega
      | succ i => simp [List.replicate_succ]

theorem fieldaddr_ok (hT : tabB P Θ = true) (h : RelS σ w0 W0 Z H S a w) {o : Oper} {T : TypeId} {x : Operand} {f : Nat} (ho : o.op = .fieldAddr T x f) (e : evFieldAddr Θ S o.dst T x f = some (true, S')) : GoesS P w0 W0 Z H S' a o.dst w (execOp a.eval o) := by
  unfold evFieldAddr at e
  split at e
  · rename_i av i hav hi
    cases hlt : Nat.blt f i.fs.length with
    | false => rw [hlt] at e; cases e
    | true =>
      rw [hlt] at e
      simp only [cond_true] at e
      have hf : f < i.fs.length := Nat.lt_of_succ_le (Nat.le_of_ble_eq_true hlt)
      obtain ⟨_, hu, hTi⟩ := tab_ti hT hi
      -- the address of the field
      have run : ∀ (w2 : World) (g off : Nat) (b : TV) (t : Ty) (m : Md) (y : t.I), i.ty = t → getP (fld f i.fs.length) t m y = some b →
          (Instr.fieldAt T (.pointer (some ⟨g, off, none⟩)) f).run P w2 = .ok (.pointer (some ⟨g, off + fldOff (fld f i.fs.length) t, none⟩)) w2 := by
        intro w2 g off b t m y hty hg
        have hne : ∃ a' b', i.ty = .pair a' b' := by
          subst hty
          exact memless_pair (fld_ne hf) (fld_memless _ _) hg
        obtain ⟨a', b', hp⟩ := hne
        obtain ⟨fs, hfs, hfl, hfo, _⟩ := und_pair hu hp
        rw [hTi] at hfs
        have hlen : i.fs.length = fs.size := by rw [← hfl]; simp
        obtain ⟨fl, hfl2⟩ : ∃ fl, fs[f]? = some fl := ⟨fs[f]'(by omega), by simp [show f < fs.size from by omega]⟩
        obtain ⟨tf, h1, h2, h3, h4⟩ := fieldsOK_at hfo f fl (by simpa using hfl2)
        rw [Nat.zero_add, ← hlen] at h1 h3
        subst hty
        rw [memless_ty _ (fld_memless _ _) hg] at h1
        injection h1 with h1
        obtain ⟨inf, k1, k2, _⟩ := size_is hT h2
        simp only [Instr.fieldAt, Sem.run_bind, run_underlying hfs, Result.andThen_ok, hfl2, Instr.sureAddr, Sem.run_pure, fieldPlace, sizeOf, typeInfo, run_program, k1, k2]
        rw [if_neg (by omega)]
        simp only [Sem.run_pure, Result.andThen_ok, addr_add, h3]
      split at e
      · rename_i t m y hg
        cases hty : decide (i.ty = t) with
        | false => rw [hty] at e; cases e
        | true =>
          rw [hty] at e
          simp only [cond_true] at e
          split at e
          · rename_i b hb
            injection e with e; injection e with _ e; subst e
            obtain ⟨cs, h1, h2⟩ := tgt_spec h hav hg
            obtain ⟨g', off, hv, hk⟩ := K_part h1 h2 (fld_memless _ _) hb
            refine goes_pureS h (v := .pointer (some ⟨g', off + fldOff (fld f i.fs.length) t, none⟩)) (fun w2 => ?_) ⟨[_], by simp [matchV, isAgg], M_of_K (.ptr b.t) hk⟩
            simp only [execOp, ho, hv, Sem.run_bind, run w2 g' off b t .k y (by simpa using hty) hb]
            rfl
          · cases e
      · rename_i t s p hg
        cases hty : decide (i.ty = t) with
        | false => rw [hty] at e; cases e
        | true =>
          rw [hty] at e
          simp only [cond_true] at e
          split at e
          · rename_i b hb
            injection e with e; injection e with _ e; subst e
            obtain ⟨r, ex, k1, k2⟩ := tgt_spec h hav hg
            obtain ⟨r2, ex2, q1, q2, q3⟩ := glance_get hb
            rw [k1] at q1
            injection q1 with q1 q1'
            subst q1 q1'
            have hop := open_of_under q2
            obtain ⟨cs0, g', off, hr, ha, hv⟩ := k2 (open_head hop)
            obtain ⟨ex', b', cs', ow', j1, j2, j3, j4, hM, j5, j6, j7⟩ := ref_focus h hr
            rw [getP_append, j3] at q3
            simp only [Option.bind_some] at q3
            refine goes_pureS h (v := .pointer (some ⟨g', off + fldOff (fld f i.fs.length) t, none⟩)) (fun w2 => ?_) ⟨r, cs0, g', off + fldOff (fld f i.fs.length) t, ⟨⟨ex, k1, hop⟩, valid_append p _ j3 hr.val (memless_valid _ (fld_memless _ _) q3), ⟨b, by rw [getP_append, j3]; exact q3, rfl⟩, hr.mat⟩, ?_, rfl⟩
            · subst j4
              simp only [execOp, ho, hv, Sem.run_bind, run w2 g' off b b'.t b'.m b'.x (by simpa using hty) q3]
              rfl
            · rw [(cells_append p _ cs0 none j3).2, j5, ha]
              simp only [Option.bind_some]
              rw [memless_addr _ (fld_memless _ _) q3, j4]
          · cases e
      · cases e
  · cases e

theorem getD_lt {α : Type} (xs : List α) (i : Nat) (d : α) (h : i < xs.length) : List.getD xs i d = xs[i] := by simp [List.getD_eq_getElem?_getD, List.getElem?_eq_getElem h]

/-- The address of an element. -/
theorem indexAt_run (hT : tabB P Θ = true) {T : TypeId} {t : Ty} {g off len c : Nat} {k : IntKind} {n : Int} (ht : Θ.is T (.sl t) = true) (h0 : 0 ≤ n) (h1 : n < (len : Int)) :
    (Instr.indexAt T (.slice (some ⟨g, off, none⟩) len c) (.int k n)).run P w = .ok (.pointer (some ⟨g, off + n.toNat * t.size, none⟩)) w := by
  obtain ⟨i, hi, hty⟩ := is_find ht
  obtain ⟨_, hu, hTi⟩ := tab_ti hT hi
  obtain ⟨u1, u2, _⟩ := und_sl hu hty
  rw [hTi] at u1
  obtain ⟨inf, k1, k2, _⟩ := size_is hT u2
  simp [Instr.indexAt, asIntOf, run_underlying u1, h0, h1, sizeOf, typeInfo, run_program, k1, k2, addr_add]

theorem K_elem {t : Ty} {xs : List t.I} {v : Value} {cs : List Value} {n : Nat} (hm : matchV (.sl t) v cs) (h : K w A (.sl t) xs cs) (hn : n < xs.length) :
    ∃ g off c, v = .slice (some ⟨g, off, none⟩) xs.length c ∧ K w A (.ptr t) (List.getD xs n t.z) [.pointer (some ⟨g, off + n * t.size, none⟩)] := by
  simp only [K] at h
  obtain ⟨X, c, rfl, hc, h⟩ := h
  obtain ⟨g, off, cur, T', fr, rfl, hA, hw, hs, hk⟩ := h (by omega)
  refine ⟨g, off, c, by simpa [matchV, isAgg] using hm.symm, ?_⟩
  simp only [K]
  have hb : off + n * t.size + t.size ≤ cur.size := by
    have := Nat.mul_le_mul_right t.size (show n + 1 ≤ xs.length from hn)
    rw [Nat.add_mul, Nat.one_mul] at this
    omega
  exact ⟨g, _, cur, T', fr, rfl, hA, hw, hb, by rw [getD_lt _ _ _ hn]; exact hk n hn⟩

theorem indexaddr_ok (hT : tabB P Θ = true) (h : RelS σ w0 W0 Z H S a w) {o : Oper} {T : TypeId} {x ix : Operand} (ho : o.op = .indexAddr T x ix) (e : evIndexAddr Θ S o.dst T x ix = some (true, S')) : GoesQ P w0 W0 Z H S' a o.dst w (execOp a.eval o) := by
  unfold evIndexAddr at e
  split at e
  · rename_i t m xs ex n hav hn
    obtain ⟨k, hk⟩ := rdInt_spec h hn
    cases hc : Θ.is T (.sl t) with
    | false => rw [hc] at e; cases e
    | true =>
      rw [hc] at e
      simp only [cond_true] at e
      split at e
      · injection e with e; injection e with e1 e; subst e
        obtain ⟨b1, b2⟩ := inB_true e1
        obtain ⟨cs, h1, h2⟩ := opv_holds h hav
        have hK := M_isK _ rfl h2
        obtain ⟨g, off, c, hv, hk2⟩ := K_elem (n := n.toNat) h1 hK (by have b2' : n < (List.length xs : Int) := b2; show n.toNat < List.length xs; omega)
        refine goes_pure h (v := .pointer (some ⟨g, off + n.toNat * t.size, none⟩)) (fun w2 hw2 => ?_) ⟨[_], by simp [matchV, isAgg], M_of_K (.ptr t) hk2⟩
        simp only [execOp, ho, hv, hk, Sem.run_bind, indexAt_run hT hc b1 b2]
        rfl
      · rename_i T' tag me j
        split at e
        · rename_i b hb
          injection e with e; injection e with e1 e; subst e
          obtain ⟨b1, b2⟩ := inB_true e1
          have hat : S.at j = .v ⟨.sl t, .o T' tag me, xs⟩ ex := by simpa [St.opv] using hav
          obtain ⟨r2, ex2, q1, q2, q3⟩ := glance_get hb
          rw [hat] at q1
          injection q1 with q1 q1'
          subst q1 q1'
          have hop := open_of_under q2
          obtain ⟨cs, h1, h2⟩ := opv_holds h hav
          simp only [M] at h2
          rcases h2 with ⟨hne, _⟩ | ⟨hk', _⟩ | ⟨T2, tag2, me2, X, c, e2, rfl, hcc, htag, h2⟩
          · exact absurd hne hop.not_nil
          · simp [Md.isK] at hk'
          · have hv : a.eval (.tmp j) = .slice X xs.length c := by simpa [matchV, isAgg] using h1.symm
            rcases h2 with ⟨rfl, _⟩ | ⟨g, cur, τ, rfl, hg, hw, hsz, hm, hj⟩
            · simp at b2; omega
            · have hlt : n.toNat < xs.length := by omega
              have hbound : 0 + n.toNat * t.size + t.size ≤ cur.size := by
                have h1 := Nat.mul_le_mul_right t.size (show n.toNat + 1 ≤ xs.length from hlt)
                have h2 := Nat.mul_le_mul_right t.size hcc
                rw [Nat.add_mul, Nat.one_mul] at h1
                omega
              refine goes_pure h (v := .pointer (some ⟨g, 0 + n.toNat * t.size, none⟩)) (fun w2 hw2 => ?_) ⟨_, [.slice (some ⟨g, 0, none⟩) xs.length c], g, 0 + n.toNat * t.size, ⟨⟨ex, hat, hop⟩, ⟨hlt, trivial⟩, ⟨_, rfl, rfl⟩, h1⟩, ?_, rfl⟩
              · simp only [execOp, ho, hv, hk, Sem.run_bind, indexAt_run hT hc b1 b2]
                rfl
              · simp only [addrAt, rowAt_own hw hbound, Option.bind_some]
        · cases e
      · cases e
  · rename_i t s p n hav hn
    obtain ⟨k, hk⟩ := rdInt_spec h hn
    cases hc : Θ.is T (.sl t) with
    | false => rw [hc] at e; cases e
    | true =>
      rw [hc] at e
      simp only [cond_true] at e
      obtain ⟨r, cs0, cs, hr, hcl, hm⟩ := opv_holds h hav
      obtain ⟨ex, b, cs', ow', j1, j2, j3, j4, hM, j5, j6, j7⟩ := ref_focus h hr
      rw [hcl] at j5
      injection j5 with j5
      subst j5
      split at e
      · rename_i t' xs hgl
        injection e with e; injection e with e1 e; subst e
        obtain ⟨b1, b2⟩ := inB_true e1
        obtain ⟨r2, ex2, q1, q2, q3⟩ := glance_get hgl
        rw [j1] at q1
        injection q1 with q1 q1'
        subst q1 q1'
        rw [j3] at q3
        injection q3 with q3
        subst q3
        injection j4 with j4
        subst j4
        have hK := M_isK _ rfl j7
        obtain ⟨g, off, c, hv, hk2⟩ := K_elem (n := n.toNat) hm hK (by have b2' : n < (List.length xs : Int) := b2; show n.toNat < List.length xs; omega)
        refine goes_pure h (v := .pointer (some ⟨g, off + n.toNat * Ty.size t', none⟩)) (fun w2 hw2 => ?_) ⟨[_], by simp [matchV, isAgg], M_of_K (.ptr _) hk2⟩
        simp only [execOp, ho, hv, hk, Sem.run_bind, indexAt_run hT hc b1 b2]
        rfl
      · rename_i t' T' tag me xs hgl
        split at e
        · rename_i b2' hb
          injection e with e; injection e with e1 e; subst e
          obtain ⟨b1, b2⟩ := inB_true e1
          obtain ⟨r2, ex2, q1, q2, q3⟩ := glance_get hgl
          rw [j1] at q1
          injection q1 with q1 q1'
          subst q1 q1'
          rw [j3] at q3
          injection q3 with q3
          subst q3
          injection j4 with j4
          subst j4
          obtain ⟨r3, ex3, p1, p2, p3⟩ := glance_get hb
          rw [j1] at p1
          injection p1 with p1 p1'
          subst p1 p1'
          have hop := open_of_under p2
          simp only [M] at j7
          rcases j7 with ⟨hne, _⟩ | ⟨hk', _⟩ | ⟨T2, tag2, me2, X, c, e2, rfl, hcc, htag, h2⟩
          · exact absurd hne (open_not_mem hop)
          · simp [Md.isK] at hk'
          · have hv : a.eval x = .slice X (List.length xs) c := by simpa [matchV, isAgg] using hm.symm
            rcases h2 with ⟨rfl, _⟩ | ⟨g, cur, τ, rfl, hg, hw, hsz, hm', hj⟩
            · simp at b2; omega
            · have hlt : n.toNat < List.length xs := by omega
              have hbound : 0 + n.toNat * Ty.size t' + Ty.size t' ≤ cur.size := by
                have h1 := Nat.mul_le_mul_right (Ty.size t') (show n.toNat + 1 ≤ List.length xs from hlt)
                have h2 := Nat.mul_le_mul_right (Ty.size t') hcc
                rw [Nat.add_mul, Nat.one_mul] at h1
                omega
              refine goes_pure h (v := .pointer (some ⟨g, 0 + n.toNat * Ty.size t', none⟩)) (fun w2 hw2 => ?_) ⟨r, cs0, g, 0 + n.toNat * Ty.size t', ⟨⟨ex, j1, hop⟩, valid_append p _ j3 hr.val ⟨hlt, trivial⟩, ⟨_, by rw [getP_append, j3]; rfl, rfl⟩, hr.mat⟩, ?_, rfl⟩
              · simp only [execOp, ho, hv, hk, Sem.run_bind, indexAt_run hT hc b1 b2]
                rfl
              · rw [(cells_append p _ cs0 none j3).2, hcl]
                simp only [Option.bind_some, addrAt, rowAt_own hw hbound]
        · cases e
      · cases e
  · cases e
end Go.Pv

namespace Go.Pv
set_option linter.unusedVariables false
set_option linter.unusedSimpArgs false
variable {P : Program} {w w' : World} {A A' : Nat → Prop} {H : Nat → Value} {tm tm' : Nat → Value} {S S' : St} {σ : Nat → Option Nat} {w0 : World} {W0 Z : Nat → Prop} {a : Act} {own : Nat → Prop} {v : Value} {Θ : Tab} {dst : Option Nat}

theorem bound_run {k : IntKind} {i : Int} {y : Nat} {code : BoundsCode} (h0 : 0 ≤ i) (h1 : i ≤ y) : (Instr.sliceBound (.int k i) y code).run P w = .ok i.toNat w := by
  simp [Instr.sliceBound, asIntOf, h0, h1]
theorem bounds_run {sl : Bool} {len cap : Nat} {lo hi : Option Value} {l h : Int} (hlo : (lo = none ∧ l = 0) ∨ ∃ k, lo = some (.int k l)) (hhi : (hi = none ∧ h = len) ∨ ∃ k, hi = some (.int k h))
    (h0 : 0 ≤ l) (h1 : l ≤ h) (h2 : h ≤ len) (h3 : len ≤ cap) : (Instr.sliceBounds sl len cap lo hi none).run P w = .ok (l.toNat, h.toNat, cap) w := by
  have e1 : ∀ k code, (Instr.sliceBound (.int k l) h.toNat code).run P w = .ok l.toNat w := fun k code => bound_run h0 (by omega)
  have e2 : ∀ k code, (Instr.sliceBound (.int k h) cap code).run P w = .ok h.toNat w := fun k code => bound_run (by omega) (by omega)
  unfold Instr.sliceBounds
  rcases hlo with ⟨rfl, rfl⟩ | ⟨k, rfl⟩ <;> rcases hhi with ⟨rfl, rfl⟩ | ⟨k', rfl⟩
  · simp
  · simp [e2]
  · have e1' : ∀ k code, (Instr.sliceBound (.int k l) len code).run P w = .ok l.toNat w := fun k code => bound_run h0 (by omega)
    simp [e1']
  · simp [e1, e2]

theorem optInt_spec (h : RelS σ w0 W0 Z H S a w) {x : Option Operand} {d n : Int} (e : optInt Θ S d x = some n) : (x.map a.eval = none ∧ n = d) ∨ ∃ k, x.map a.eval = some (.int k n) := by
  cases x with
  | none => simp only [optInt, Option.some.injEq] at e; exact .inl ⟨rfl, e.symm⟩
  | some x =>
    obtain ⟨k, hk⟩ := rdInt_spec h e
    exact .inr ⟨k, by simp [hk]⟩

theorem slice_ok (hT : tabB P Θ = true) (h : RelS σ w0 W0 Z H S a w) {o : Oper} {T : TypeId} {x : Operand} {lo hi mx : Option Operand} (ho : o.op = .slice T x lo hi mx) (e : evSlice Θ S o.dst T x lo hi mx = some (true, S')) : GoesS P w0 W0 Z H S' a o.dst w (execOp a.eval o) := by
  unfold evSlice at e
  split at e
  · rename_i av m s l hav hrd hl
    split at e
    · rename_i hh hhi
      cases hc : Θ.is T .str with
      | false => rw [hc] at e; cases e
      | true =>
        rw [hc] at e
        simp only [cond_true, Option.some.injEq, Prod.mk.injEq, Bool.and_eq_true, decide_eq_true_eq] at e
        obtain ⟨⟨⟨b1, b2⟩, b3⟩, e⟩ := e
        subst e
        obtain ⟨cs, h1, h2, _⟩ := rd_spec h hrd
        have hv := match_str h1 h2
        obtain ⟨i, hi', hty⟩ := is_find hc
        obtain ⟨_, hu, hTi⟩ := tab_ti hT hi'
        have hu' := und_str hu hty
        rw [hTi] at hu'
        refine goes_pureS h (v := .string (s.extract l.toNat hh.toNat)) (fun w2 => ?_) (holds_str _)
        have hb := bounds_run (P := P) (w := w2) (sl := false) (optInt_spec h hl) (optInt_spec h hhi) b1 b2 b3 (Nat.le_refl _)
        simp [execOp, ho, hv, Instr.sliceAt, Instr.slice, run_underlying hu', hb]
    · cases e
  · rename_i av t m xs l hav hrd hl
    cases hc : Θ.is T (.sl t) with
    | false => rw [hc] at e; cases e
    | true =>
      rw [hc] at e
      simp only [cond_true] at e
      obtain ⟨i, hi', hty⟩ := is_find hc
      obtain ⟨_, hu, hTi⟩ := tab_ti hT hi'
      obtain ⟨u1, u2, _⟩ := und_sl hu hty
      rw [hTi] at u1
      obtain ⟨inf, q1, q2, _⟩ := size_is hT u2
      obtain ⟨cs, h1, h2, h3⟩ := rd_spec h hrd
      obtain ⟨X, c, hv, hcs, hlc⟩ := match_sl h1 h2
      have run : ∀ (hh : Int), optInt Θ S (xs.length : Int) hi = some hh → mx = none → 0 ≤ l → l ≤ hh → hh ≤ (xs.length : Int) →
          ∀ w2, (execOp a.eval o).run P w2 = .ok (.value (.slice (if c = l.toNat then X else X.map (·.add (l.toNat * t.size))) (hh.toNat - l.toNat) (c - l.toNat))) w2 := by
        intro hh hhi hmx b1 b2 b3 w2
        subst hmx
        have hb := bounds_run (P := P) (w := w2) (sl := true) (optInt_spec h hl) (optInt_spec h hhi) b1 b2 b3 hlc
        simp [execOp, ho, hv, Instr.sliceAt, Instr.slice, run_underlying u1, hb, sizeOf, typeInfo, run_program, q1, q2]
      split at e
      · rename_i _ hh hhi
        split at e
        · simp only [Option.some.injEq, Prod.mk.injEq, Bool.and_eq_true, decide_eq_true_eq] at e
          obtain ⟨⟨⟨b1, b2⟩, b3⟩, e⟩ := e
          subst e
          have hK := h3 rfl
          subst hcs
          exact goes_pureS h (run hh hhi rfl b1 b2 b3) ⟨[_], by simp [matchV, isAgg], M_of_K (.sl t) (K_cut hK (by omega) (by omega))⟩
        · rename_i b ex i _
          simp only [Option.some.injEq, Prod.mk.injEq, Bool.and_eq_true, decide_eq_true_eq] at e
          obtain ⟨⟨⟨b1, b2⟩, b3⟩, e⟩ := e
          subst e
          have hat : S.at i = .v b ex := by simpa [St.opv] using hav
          unfold St.rd at hrd
          rw [hav] at hrd
          cases ex with
          | cons _ _ => simp [St.rdA] at hrd
          | nil =>
            simp only [St.rdA, Option.some.injEq] at hrd
            subst hrd
            subst hcs
            refine goes_pureS h (run hh hhi rfl b1 b2 b3) ⟨_, _, t, X, List.length xs, c, ⟨⟨[], hat, fun q hq => by simp at hq⟩, trivial, ⟨_, rfl, rfl⟩, h1⟩, rfl, rfl, by omega, by omega, rfl⟩
        · rename_i _ s p hm
          simp only [Option.some.injEq, Prod.mk.injEq, Bool.and_eq_true, decide_eq_true_eq] at e
          obtain ⟨⟨⟨b1, b2⟩, b3⟩, e⟩ := e
          subst e
          obtain ⟨r, cs0, cs', hr, hcl, hmm⟩ := opv_holds h hav
          unfold St.rd at hrd
          rw [hav] at hrd
          simp only [St.rdA] at hrd
          obtain ⟨hbt, _⟩ := place_read h hr hcl hrd
          simp only at hbt
          subst hbt
          obtain rfl := matchV_inj h1 hmm
          subst hcs
          refine goes_pureS h (run hh hhi rfl b1 b2 b3) ⟨r, cs0, t, X, List.length xs, c, hr, rfl, hcl, by omega, by omega, rfl⟩
        · cases e
      · rename_i _ hh z ii hhi hfind
        split at e
        · rename_i c' hx hz
          simp only [Option.some.injEq, Prod.mk.injEq, Bool.and_eq_true, decide_eq_true_eq] at e
          obtain ⟨⟨⟨rfl, rfl⟩, rfl⟩, e⟩ := e
          subst e
          obtain ⟨kz, hkz⟩ := rdInt_spec h hz
          refine goes_pureS h (v := .slice X 0 0) (fun w2 => ?_) ⟨[.slice X 0 0], by simp [matchV, isAgg], ?_⟩
          · have hl' := optInt_spec h hl
            have hh' := optInt_spec h hhi
            have hb : (Instr.sliceBounds true xs.length c (lo.map a.eval) (some (a.eval hx)) (some (.int kz 0))).run P w2 = .ok (0, 0, 0) w2 := by
              have e0 : ∀ k y code, (Instr.sliceBound (.int k 0) y code).run P w2 = .ok 0 w2 := fun k y code => bound_run (by omega) (by omega)
              have hh2 : ∃ k, a.eval hx = .int k 0 := by
                rcases hh' with ⟨hh', _⟩ | ⟨k, hh'⟩
                · simp at hh'
                · exact ⟨k, by simpa using hh'⟩
              obtain ⟨k2, hk2⟩ := hh2
              unfold Instr.sliceBounds
              rcases hl' with ⟨hl', _⟩ | ⟨k1, hl'⟩ <;> rw [hl', hk2] <;> simp [e0]
            simp [execOp, ho, hv, Instr.sliceAt, Instr.slice, run_underlying u1, hkz, hb, sizeOf, typeInfo, run_program, q1, q2]
          · simp only [M]
            exact .inr (.inr ⟨_, _, _, X, 0, rfl, rfl, Nat.le_refl _, fun h hh => (by cases hh), .inl (by simp)⟩)
        · cases e
      · cases e
  · cases e
end Go.Pv
