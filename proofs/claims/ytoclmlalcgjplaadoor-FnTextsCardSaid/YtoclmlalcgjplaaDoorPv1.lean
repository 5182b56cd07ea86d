/- A verified evaluator of the program's form over pure values, part 1: what it tells of a function holds. -/
import Derived.Test.YtoclmlalcgjplaaDoorPv0
namespace Go.Pv
set_option linter.unusedVariables false
set_option linter.unusedSimpArgs false
variable {h : Hint} {O : Orc} {ops : Array Oper} {Θ : Tab}
structure Eff where
 kills : List Nat
 d : Nat
 v : AV
def killsOf : List Nat → St → St
 | [], S => S
 | x :: r, S => killsOf r (S.put (some x) .dead)
def Eff.app (E : Eff) (S : St) : St := (killsOf E.kills S).put (some E.d) E.v
def noRefs (a : AV) : Prop := ∀ d, a.refs d = false
theorem opOK_opv {S : St} {x : Operand} (hx : opOK S x = true) (T : TypeId) : (∃ i a, x = .tmp i ∧ S.at i = .v a [] ∧ S.opv Θ T x = some (.v a [])) ∨ ∃ c, x = .const c := by
 cases x with
 | tmp i =>
  simp only [opOK] at hx
  split at hx
  ·rename_i a ha
   exact .inl ⟨i, a, rfl, ha, by simp [St.opv, ha]⟩
  ·cases hx
 | const c => exact .inr ⟨c, rfl⟩
 | func f => simp [opOK] at hx
 | global g => simp [opOK] at hx
def Agr (S S' : St) (l : List Nat) : Prop := ∀ r ∈ l, S'.at r = S.at r
theorem opv_agr {S S' : St} {x : Operand} (ha : Agr S S' (tmpOf x)) (T : TypeId) : S'.opv Θ T x = S.opv Θ T x := by
 cases x with
 | tmp i => simp only [St.opv]; rw [ha i (by simp [tmpOf])]
 | const c => rfl
 | func f => rfl
 | global g => rfl
theorem rd_agr {S S' : St} {x : Operand} (hx : opOK S x = true) (ha : Agr S S' (tmpOf x)) (T : TypeId) : S'.rd Θ T x = S.rd Θ T x := by
 unfold St.rd
 rw [opv_agr ha]
 rcases opOK_opv (Θ := Θ) hx T with ⟨i, a, rfl, h1, h2⟩ | ⟨c, rfl⟩
 ·rw [h2]; rfl
 ·simp only [St.opv]
  cases constTV Θ T c <;> rfl
theorem reads_agr {S S' : St} : ∀ (xs : List Operand) (Ts : List TypeId) (l : List (Option TV)), (∀ x ∈ xs, opOK S x = true) → Agr S S' (xs.flatMap tmpOf) → reads Θ S' xs Ts l = reads Θ S xs Ts l
 | [], _, _, _, _ => rfl
 | x :: xs, [], l, _, _ => rfl
 | x :: xs, T :: Ts, [], _, _ => rfl
 | x :: xs, T :: Ts, p :: ps, hx, ha => by
  have ih := reads_agr xs Ts ps (fun y hy => hx y (by simp [hy])) (fun r hr => ha r (by simp [hr]))
  have ho := opv_agr (Θ := Θ) (x := x) (fun r hr => ha r (by simp [hr])) T
  simp only [reads, ih, ho]
  cases p with
  | some a => rfl
  | none =>
   simp only
   rcases opOK_opv (Θ := Θ) (hx x (by simp)) T with ⟨i, a, rfl, h1, h2⟩ | ⟨c, rfl⟩
   ·rw [h2]; rfl
   ·simp only [St.opv]
    cases constTV Θ T c <;> rfl
theorem fines_agr {S S' : St} : ∀ (xs : List Operand) (l : List (Option TV)) (as : List Arg), Agr S S' (xs.flatMap tmpOf) → fines S' xs l as = fines S xs l as
 | [], _, _, _ => rfl
 | x :: xs, [], _, _ => rfl
 | x :: xs, p :: ps, [], _ => rfl
 | x :: xs, p :: ps, r :: rs, ha => by
  have ih := fines_agr xs ps rs (fun r hr => ha r (by simp [hr]))
  have hf : fineA S' x = fineA S x := by
   cases x with
   | tmp i => simp only [fineA]; rw [ha i (by simp [tmpOf])]
   | const c => rfl
   | func f => rfl
   | global g => rfl
  simp only [fines, ih, hf]
theorem takes_val : ∀ (xs : List Operand) (Ts : List TypeId) (ps : List Pass), (ps.all fun p => match p with
   | .val => true
   | _ => false) = true → (∀ S, takes Θ S xs Ts ps = none) ∨ ∃ l, ∀ S, takes Θ S xs Ts ps = some (l, S)
 | [], _, _, _ => .inr ⟨[], fun S => by simp [takes]⟩
 | x :: xs, [], _, _ => .inl fun S => by simp [takes]
 | x :: xs, T :: Ts, [], _ => .inl fun S => by simp [takes]
 | x :: xs, T :: Ts, p :: ps, h => by
  simp only [List.all_cons, Bool.and_eq_true] at h
  cases p with
  | take => cases h.1
  | lend => cases h.1
  | val =>
   rcases takes_val xs Ts ps h.2 with h1 | ⟨l, h1⟩
   ·exact .inl fun S => by simp only [takes, h1]
   ·exact .inr ⟨none :: l, fun S => by simp only [takes, h1]⟩
theorem allVal_lend : ∀ (l : List Pass) (n : Nat), (l.all fun p => match p with
   | .val => true
   | _ => false) = true → lendAt l n = none
 | [], _, _ => rfl
 | .val :: r, n, h => by simp only [lendAt]; exact allVal_lend r (n + 1) (by simpa using h)
 | .take :: r, n, h => by simp at h
 | .lend :: r, n, h => by simp at h
theorem resAV_refs (l : List TV) : noRefs (resAV l) := by
 intro d
 unfold resAV
 split <;> rfl
theorem call_eff (hO : ODet O) {i : Nat} {o : Oper} (ho : ops[i]? = some o) (hg : o.guard = none) {d : Nat} (hd : o.dst = some d) {f : FuncId} {as : Array Operand} {ts : Array TypeId} (hop : o.op = .call { callee := .value (.func f), args := as, argTypes := ts })
  (hv : allVal O f = true) {S : St} (hx : ∀ x ∈ as.toList, opOK S x = true) :
  ∃ oE : Option Eff, (∀ E, oE = some E → E.d = d ∧ E.kills = [] ∧ noRefs E.v) ∧ ∀ S', Agr S S' (as.toList.flatMap tmpOf) → ∀ K, peStep h O ops i S' K = oE.bind fun E => K (E.app S') := by
 have hstep : ∀ S' K, peStep h O ops i S' K = peCall h O o f none as.toList ts.toList S' K := by
  intro S' K
  unfold peStep
  rw [ho]
  simp only [hg]
  unfold peOp
  rw [hop]
  simp only [allVal_lend _ 0 hv]
 rcases takes_val (Θ := h.tab) as.toList ts.toList (O.sig f) hv with ht | ⟨l, ht⟩
 ·exact ⟨none, fun E hE => (by cases hE), fun S' _ K => by rw [hstep]; unfold peCall; simp only [ht]; rfl⟩
 ·cases hr : reads h.tab S as.toList ts.toList l with
  | none => exact ⟨none, fun E hE => (by cases hE), fun S' ha K => by rw [hstep]; unfold peCall; simp only [ht, reads_agr _ _ _ hx ha, hr]; rfl⟩
  | some args =>
   obtain ⟨oR, hR⟩ := hO f (args ++ ([] : List TV).map .tv)
   cases oR with
   | none =>
    refine ⟨none, fun E hE => (by cases hE), fun S' ha K => ?_⟩
    rw [hstep]; unfold peCall
    simp only [ht, reads_agr _ _ _ hx ha, hr, capsIn, hR]
    rfl
   | some ret =>
    cases hrefs : ret.refs with
    | nil =>
     cases hc : (ret.res.all (fun d => solid d.t d.m) || (([] : List TV).isEmpty && fines S as.toList l args)) with
     | false =>
      refine ⟨none, fun E hE => (by cases hE), fun S' ha K => ?_⟩
      rw [hstep]; unfold peCall
      simp only [ht, reads_agr _ _ _ hx ha, fines_agr _ _ _ ha, hr, capsIn, hR, Option.bind_some, hrefs, hc]
      rfl
     | true =>
      refine ⟨some ⟨[], d, resAV ret.res⟩, fun E hE => ?_, fun S' ha K => ?_⟩
      ·injection hE with hE
       subst hE
       exact ⟨rfl, rfl, resAV_refs _⟩
      ·rw [hstep]; unfold peCall
       simp only [ht, reads_agr _ _ _ hx ha, fines_agr _ _ _ ha, hr, capsIn, hR, Option.bind_some, hrefs, hd, hc]
       rfl
    | cons _ _ =>
     refine ⟨none, fun E hE => (by cases hE), fun S' ha K => ?_⟩
     rw [hstep]; unfold peCall
     simp only [ht, reads_agr _ _ _ hx ha, hr, capsIn, hR, Option.bind_some, hrefs]
     rfl
def VD (a : AV) : Prop := (∃ b, a = .v b []) ∨ a = .dead
def opVD (S : St) : Operand → Prop
 | .tmp i => VD (S.at i)
 | .const _ => True
 | _ => False
theorem opOK_VD {S : St} {x : Operand} (h : opOK S x = true) : opVD S x := by
 cases x with
 | tmp i =>
  simp only [opOK] at h
  split at h
  ·rename_i a ha; exact .inl ⟨a, ha⟩
  ·cases h
 | const c => trivial
 | func f => simp [opOK] at h
 | global g => simp [opOK] at h
theorem take_eff2 {S : St} {x : Operand} (hx : opVD S x) (T : TypeId) : ∃ oB : Option (TV × List Nat), (∀ b ks, oB = some (b, ks) → ks.Nodup ∧ ∀ r ∈ ks, r ∈ tmpOf x ∧ ∃ a, S.at r = .v a []) ∧ ∀ S', Agr S S' (tmpOf x) → S'.take Θ T x = oB.map fun q => (q.1, killsOf q.2 S') := by
 cases x with
 | tmp i =>
  rcases hx with ⟨a, ha⟩ | ha
  ·cases hk : a.m.isK with
   | true =>
    refine ⟨some (a, []), fun b ks e => ?_, fun S' hs => ?_⟩
    ·injection e with e
     injection e with _ e
     subst e
     exact ⟨List.nodup_nil, fun r hr => by cases hr⟩
    ·have h2 := (hs i (by simp [tmpOf])).trans ha
     unfold St.take
     simp [St.opv, h2, St.takeA, hk, killsOf]
   | false =>
    refine ⟨some (a, [i]), fun b ks e => ?_, fun S' hs => ?_⟩
    ·injection e with e
     injection e with _ e
     subst e
     refine ⟨by simp, fun r hr => ?_⟩
     simp only [List.mem_singleton] at hr
     subst hr
     exact ⟨by simp [tmpOf], a, ha⟩
    ·have h2 := (hs i (by simp [tmpOf])).trans ha
     unfold St.take
     simp [St.opv, h2, St.takeA, hk, killsOf]
  ·refine ⟨none, fun b ks e => (by cases e), fun S' hs => ?_⟩
   have h2 := (hs i (by simp [tmpOf])).trans ha
   unfold St.take
   simp [St.opv, h2, St.takeA]
 | const c =>
  cases hc : constTV Θ T c with
  | none => exact ⟨none, fun b ks e => (by cases e), fun S' ha => (by unfold St.take; simp [St.opv, hc])⟩
  | some a =>
   refine ⟨some (a, []), fun b ks e => ?_, fun S' ha => ?_⟩
   ·injection e with e
    injection e with _ e
    subst e
    exact ⟨List.nodup_nil, fun r hr => by cases hr⟩
   ·unfold St.take
    simp only [St.opv, hc, St.takeA]
    cases a.m.isK <;> simp [killsOf]
 | func f => exact hx.elim
 | global g => exact hx.elim
theorem take_eff {S : St} {x : Operand} (hx : opOK S x = true) (T : TypeId) : ∃ oB : Option (TV × List Nat), (∀ b ks, oB = some (b, ks) → ks.Nodup ∧ ∀ r ∈ ks, r ∈ tmpOf x) ∧ ∀ S', Agr S S' (tmpOf x) → S'.take Θ T x = oB.map fun q => (q.1, killsOf q.2 S') := by
 obtain ⟨oB, h1, h2⟩ := take_eff2 (Θ := Θ) (opOK_VD hx) T
 exact ⟨oB, fun b ks e => ⟨(h1 b ks e).1, fun r hr => ((h1 b ks e).2 r hr).1⟩, h2⟩
theorem kill_same {S : St} {i j : Nat} {a : TV} (h : S.at j = .v a []) (hij : j ≠ i) : (S.put (some i) .dead).at j = .v a [] := by
 rw [put_at, if_neg (fun e => hij e.1), h]
 simp [AV.refs]
theorem kill_dead {S : St} {i : Nat} {a : TV} (h : S.at i = .v a []) : (S.put (some i) .dead).at i = .dead := by
 have hl : i < S.length := by
  rcases Nat.lt_or_ge i S.length with hl | hl
  ·exact hl
  ·unfold St.at at h
   rw [List.getD_eq_getElem?_getD, List.getElem?_eq_none hl] at h
   cases h
 rw [put_at, if_pos ⟨rfl, hl⟩]
 simp [AV.refs]
theorem kills_same {ks : List Nat} {S : St} {j : Nat} {a : TV} (h : S.at j = .v a []) (hj : j ∉ ks) : (killsOf ks S).at j = .v a [] := by
 induction ks generalizing S with
 | nil => exact h
 | cons x r ih => exact ih (kill_same h (fun e => hj (by simp [e]))) (fun e => hj (by simp [e]))
theorem kills_agr {ks : List Nat} {S S' : St} {y : Operand} (hy : opOK S y = true) (ha : Agr S S' (tmpOf y)) (hn : ∀ r ∈ tmpOf y, r ∉ ks) : Agr S (killsOf ks S') (tmpOf y) := by
 intro r hr
 cases y with
 | tmp j =>
  simp only [tmpOf, List.mem_singleton] at hr
  subst hr
  rcases opOK_opv (Θ := []) hy 0 with ⟨i, a, e, h1, _⟩ | ⟨c, e⟩
  ·injection e with e
   subst e
   rw [h1]
   exact kills_same ((ha r (by simp [tmpOf])).trans h1) (hn r (by simp [tmpOf]))
  ·cases e
 | const c => simp [tmpOf] at hr
 | func f => simp [tmpOf] at hr
 | global g => simp [tmpOf] at hr
theorem kills_gone {ks : List Nat} {S : St} {j : Nat} {a : TV} (h : S.at j = .v a []) (hj : j ∈ ks) : (killsOf ks S).at j = .dead := by
 have dead : ∀ (ks : List Nat) (S : St), S.at j = .dead → (killsOf ks S).at j = .dead := by
  intro ks
  induction ks with
  | nil => intro S h; exact h
  | cons x r ih =>
   intro S h
   refine ih _ ?_
   rw [put_at]
   split
   ·simp [AV.refs]
   ·rw [h]; simp [AV.refs]
 induction ks generalizing S with
 | nil => cases hj
 | cons x r ih =>
  by_cases hx : j = x
  ·subst hx
   exact dead r _ (kill_dead h)
  ·exact ih (kill_same h hx) (by rcases List.mem_cons.1 hj with e | e; exact absurd e hx; exact e)
theorem killsOf_app (a b : List Nat) (S : St) : killsOf (a ++ b) S = killsOf b (killsOf a S) := by
 induction a generalizing S with
 | nil => rfl
 | cons x r ih => exact ih _
theorem append_eff {S : St} {d : Nat} {x y : Operand} {T T' : TypeId} (hx : opOK S x = true) (hy : opOK S y = true) :
  ∃ oG : Option (Bool × Eff), (∀ g E, oG = some (g, E) → E.d = d ∧ noRefs E.v ∧ E.kills.Nodup ∧ ∀ r ∈ E.kills, r ∈ tmpOf x ++ tmpOf y) ∧ ∀ S', Agr S S' (tmpOf x ++ tmpOf y) → evAppend Θ S' (some d) [T, T'] [x, y] = oG.map fun q => (q.1, q.2.app S') := by
 obtain ⟨oB, hB1, hB2⟩ := take_eff (Θ := Θ) hx T
 have hax : ∀ {S' : St}, Agr S S' (tmpOf x ++ tmpOf y) → Agr S S' (tmpOf x) := fun ha r hr => ha r (by simp [hr])
 have hay : ∀ {S' : St}, Agr S S' (tmpOf x ++ tmpOf y) → Agr S S' (tmpOf y) := fun ha r hr => ha r (by simp [hr])
 cases oB with
 | none => exact ⟨none, fun g E e => (by cases e), fun S' ha => by unfold evAppend; simp only [hB2 S' (hax ha)]; rfl⟩
 | some q =>
  obtain ⟨b, ks⟩ := q
  obtain ⟨hnd, hks⟩ := hB1 b ks rfl
  -- is the second gone?
  by_cases hgone : ∃ r ∈ tmpOf y, r ∈ ks
  ·obtain ⟨r, hr, hrk⟩ := hgone
   cases y with
   | const c => simp [tmpOf] at hr
   | func f => simp [tmpOf] at hr
   | global g => simp [tmpOf] at hr
   | tmp j =>
    simp only [tmpOf, List.mem_singleton] at hr
    subst hr
    refine ⟨none, fun g E e => (by cases e), fun S' ha => ?_⟩
    rcases opOK_opv (Θ := Θ) hy 0 with ⟨i, a, e, h1, _⟩ | ⟨c, e⟩
    ·injection e with e
     subst e
     have hdead := kills_gone (ks := ks) ((ha r (by simp [tmpOf])).trans h1) hrk
     unfold evAppend
     simp only [hB2 S' (hax ha), Option.map_some]
     have hrd : (killsOf ks S').rd Θ T' (.tmp r) = none := by unfold St.rd; simp only [St.opv, hdead, St.rdA]
     have htk : (killsOf ks S').take Θ T' (.tmp r) = none := by unfold St.take; simp only [St.opv, hdead, St.takeA]
     split
     ·rename_i t e1 tg me xs S1 i heq hf
      simp only [Option.some.injEq, Prod.mk.injEq] at heq
      obtain ⟨rfl, rfl⟩ := heq
      simp only [hrd, htk, cond_false]
      cases me.isK <;> cases (decide (i.ty = t.sl) && Nat.beq i.e e1 && Θ.is T' t.sl) <;> rfl
     ·rfl
    ·cases e
  ·have hn : ∀ r ∈ tmpOf y, r ∉ ks := fun r hr hk => hgone ⟨r, hr, hk⟩
   obtain ⟨oC, hC1, hC2⟩ := take_eff (Θ := Θ) hy T'
   cases hf : Θ.find T with
   | none => exact ⟨none, fun g E e => (by cases e), fun S' ha => by unfold evAppend; simp only [hB2 S' (hax ha), hf]; split <;> simp_all⟩
   | some ti =>
   by_cases hform : ∃ (t : Ty) (e1 : TypeId) (tg : Option Nat) (me : Md) (xs : List t.I), b = ⟨.sl t, .o e1 tg me, xs⟩
   rotate_left
   ·refine ⟨none, fun g E e => (by cases e), fun S' ha => ?_⟩
    unfold evAppend
    simp only [hB2 S' (hax ha), hf, Option.map_some]
    split
    ·rename_i t e1 tg me xs S1 i heq heq2
     simp only [Option.some.injEq, Prod.mk.injEq] at heq
     exact absurd ⟨t, e1, tg, me, xs, heq.1⟩ hform
    ·rfl
   obtain ⟨t, e1, tg, me, xs, rfl⟩ := hform
   have hS : ∀ S', Agr S S' (tmpOf x ++ tmpOf y) → Agr S (killsOf ks S') (tmpOf y) := fun S' ha => kills_agr hy (hay ha) hn
   cases hc : (decide (ti.ty = .sl t) && Nat.beq ti.e e1 && Θ.is T' (.sl t)) with
   | false => exact ⟨none, fun g E e => (by cases e), fun S' ha => by unfold evAppend; simp only [hB2 S' (hax ha), hf, Option.map_some, hc, cond_false]; rfl⟩
   | true =>
   cases hk : me.isK with
   | true =>
    have hev : ∀ S', Agr S S' (tmpOf x ++ tmpOf y) → evAppend Θ S' (some d) [T, T'] [x, y] = (match S.rd Θ T' y with
     | some ⟨.sl t', m', ys⟩ => bif m'.inn.isK then (if h : t' = t then
       some (decide ((xs.length + ys.length) * t.size ≤ 4398046511104), (killsOf ks S').put (some d) (.v ⟨.sl t, .o e1 none me, xs ++ (h ▸ ys)⟩ [])) else none) else none
     | _ => none) := fun S' ha => by
     unfold evAppend
     simp only [hB2 S' (hax ha), hf, Option.map_some, hc, cond_true, hk, rd_agr hy (hS S' ha)]
     rfl
    cases hr : S.rd Θ T' y with
    | none => exact ⟨none, fun g E e => (by cases e), fun S' ha => by rw [hev S' ha, hr]; rfl⟩
    | some c =>
     by_cases hf2 : ∃ (m' : Md) (ys : List t.I), c = ⟨.sl t, m', ys⟩ ∧ m'.inn.isK = true
     ·obtain ⟨m', ys, rfl, hm⟩ := hf2
      refine ⟨some (decide ((List.length xs + List.length ys) * t.size ≤ 4398046511104), ⟨ks, d, .v ⟨.sl t, .o e1 none me, xs ++ ys⟩ []⟩), fun g E e => ?_, fun S' ha => ?_⟩
      rotate_left
      ·rw [hev S' ha, hr]
       simp only [hm, cond_true, dite_true, Option.map_some, Eff.app]
      ·injection e with e
       injection e with _ e
       subst e
       exact ⟨rfl, fun _ => rfl, hnd, fun r hr => by simp [hks r hr]⟩
     ·refine ⟨none, fun g E e => (by cases e), fun S' ha => ?_⟩
      rw [hev S' ha, hr]
      split
      ·rename_i t' m' ys heq
       injection heq with heq
       subst heq
       cases hm : m'.inn.isK with
       | false => rfl
       | true =>
        simp only [cond_true]
        by_cases ht : t' = t
        ·subst ht
         exact absurd ⟨m', ys, rfl, hm⟩ hf2
        ·rw [dif_neg ht]; rfl
      ·rfl
   | false =>
    have hev : ∀ S', Agr S S' (tmpOf x ++ tmpOf y) → evAppend Θ S' (some d) [T, T'] [x, y] = (match oC.map (fun q => (q.1, killsOf q.2 (killsOf ks S'))) with
     | some (⟨.sl t', m', ys⟩, S2) => if h : t' = t then
       (if m'.inn = me then some (decide ((xs.length + ys.length) * t.size ≤ 4398046511104), S2.put (some d) (.v ⟨.sl t, .o e1 none me, xs ++ (h ▸ ys)⟩ [])) else none) else none
     | _ => none) := fun S' ha => by
     unfold evAppend
     simp only [hB2 S' (hax ha), hf, Option.map_some, hc, cond_true, cond_false, hk, hC2 _ (hS S' ha)]
     rfl
    cases oC with
    | none => exact ⟨none, fun g E e => (by cases e), fun S' ha => by rw [hev S' ha]; rfl⟩
    | some c =>
     obtain ⟨c, ks2⟩ := c
     obtain ⟨hnd2, hks2⟩ := hC1 c ks2 rfl
     by_cases hf2 : ∃ (m' : Md) (ys : List t.I), c = ⟨.sl t, m', ys⟩ ∧ m'.inn = me
     ·obtain ⟨m', ys, rfl, hm⟩ := hf2
      refine ⟨some (decide ((List.length xs + List.length ys) * t.size ≤ 4398046511104), ⟨ks ++ ks2, d, .v ⟨.sl t, .o e1 none me, xs ++ ys⟩ []⟩), fun g E e => ?_, fun S' ha => ?_⟩
      rotate_left
      ·rw [hev S' ha]
       simp only [Option.map_some, dite_true, hm, if_true, Eff.app, killsOf_app]
      ·injection e with e
       injection e with _ e
       subst e
       refine ⟨rfl, fun _ => rfl, List.nodup_append.2 ⟨hnd, hnd2, fun a ha b hb e => by subst e; exact hn a (hks2 a hb) ha⟩, fun r hr => ?_⟩
       rcases List.mem_append.1 hr with hr | hr
       ·simp [hks r hr]
       ·simp [hks2 r hr]
     ·refine ⟨none, fun g E e => (by cases e), fun S' ha => ?_⟩
      rw [hev S' ha]
      simp only [Option.map_some]
      split
      ·rename_i t' m' ys S2 heq
       injection heq with heq
       injection heq with heq _
       by_cases ht : t' = t
       ·subst ht
        by_cases hm : m'.inn = me
        ·exact absurd ⟨m', ys, heq, hm⟩ hf2
        ·rw [dif_pos rfl, if_neg hm]; rfl
       ·rw [dif_neg ht]; rfl
      ·rfl
theorem killsOf_len (ks : List Nat) (S : St) : (killsOf ks S).length = S.length := by
 induction ks generalizing S with
 | nil => rfl
 | cons x r ih => simp only [killsOf, ih, put_len']
theorem killsOf_at : ∀ (ks : List Nat) (S : St), ks.Nodup → (∀ x ∈ ks, ∃ a, S.at x = .v a []) → ∀ i, (killsOf ks S).at i = if i ∈ ks then .dead else bif ks.any (S.at i).refs then .dead else S.at i
 | [], S, _, _, i => by simp [killsOf]
 | x :: r, S, hn, hv, i => by
  obtain ⟨a, ha⟩ := hv x (by simp)
  simp only [List.nodup_cons] at hn
  have hv' : ∀ y ∈ r, ∃ b, (S.put (some x) .dead).at y = .v b [] := fun y hy => by
   obtain ⟨b, hb⟩ := hv y (by simp [hy])
   exact ⟨b, kill_same hb (fun e => hn.1 (by rw [← e]; exact hy))⟩
  simp only [killsOf]
  rw [killsOf_at r _ hn.2 hv' i]
  by_cases hir : i ∈ r
  ·simp [hir]
  ·by_cases hix : i = x
   ·subst hix
    simp only [hir, if_false, kill_dead ha, List.mem_cons, true_or, if_true]
    simp [AV.refs]
   ·simp only [hir, if_false, List.mem_cons, hix, or_self]
    rw [put_at, if_neg (fun e => hix e.1), ha]
    simp only [AV.isV, Bool.and_true, List.any_cons]
    cases hr : (S.at i).refs x <;> simp [AV.refs]
structure Eff.In (E : Eff) (S : St) : Prop where
 nd : E.kills.Nodup
 vals : ∀ x ∈ E.kills, ∃ a, S.at x = .v a []
 slot : (S.at E.d).isV = false
 lt : E.d < S.length
 refs : noRefs E.v
 out : E.d ∉ E.kills
theorem Eff.app_len (E : Eff) (S : St) : (E.app S).length = S.length := by unfold Eff.app; rw [put_len', killsOf_len]
theorem Eff.app_at {E : Eff} {S : St} (h : E.In S) (i : Nat) : (E.app S).at i = if i = E.d then E.v else if i ∈ E.kills then .dead else bif E.kills.any (S.at i).refs then .dead else S.at i := by
 unfold Eff.app
 have hd : ((killsOf E.kills S).at E.d).isV = false := by
  rw [killsOf_at _ _ h.nd h.vals]
  split
  ·rfl
  ·cases E.kills.any (S.at E.d).refs with
   | true => rfl
   | false => exact h.slot
 rw [put_at, killsOf_len, hd]
 by_cases hi : i = E.d
 ·rw [if_pos ⟨hi, h.lt⟩, if_pos hi, h.refs]
  rfl
 ·rw [if_neg (fun e => hi e.1), if_neg hi]
  simp only [Bool.and_false, cond_false]
  exact killsOf_at _ _ h.nd h.vals i
theorem st_ext {S S' : St} (hl : S.length = S'.length) (h : ∀ i, S.at i = S'.at i) : S = S' := by
 apply List.ext_getElem hl
 intro i h1 h2
 have := h i
 unfold St.at at this
 rw [List.getD_eq_getElem?_getD, List.getD_eq_getElem?_getD, List.getElem?_eq_getElem h1, List.getElem?_eq_getElem h2] at this
 exact this
theorem Eff.comm {E F : Eff} {S : St} (hE : E.In S) (hF : F.In S) (hd : E.d ≠ F.d) (h1 : E.d ∉ F.kills) (h2 : F.d ∉ E.kills) (hEF : E.In (F.app S)) (hFE : F.In (E.app S)) : E.app (F.app S) = F.app (E.app S) := by
 refine st_ext (by simp [Eff.app_len]) fun i => ?_
 rw [Eff.app_at hEF, Eff.app_at hFE, Eff.app_at hF, Eff.app_at hE]
 by_cases hiE : i = E.d
 ·subst hiE
  have hv : F.kills.any E.v.refs = false := List.any_eq_false.2 fun x _ => by rw [hE.refs]; simp
  simp [hd, h1, hv]
 ·by_cases hiF : i = F.d
  ·subst hiF
   have hv : E.kills.any F.v.refs = false := List.any_eq_false.2 fun x _ => by rw [hF.refs]; simp
   simp [hiE, h2, hv]
  ·simp only [hiE, hiF, if_false]
   by_cases hkE : i ∈ E.kills
   ·by_cases hkF : i ∈ F.kills
    ·simp [hkE, hkF]
    ·have hv : F.kills.any AV.dead.refs = false := List.any_eq_false.2 fun x _ => by simp [AV.refs]
     simp [hkE, hkF, hv]
   ·by_cases hkF : i ∈ F.kills
    ·have hv : E.kills.any AV.dead.refs = false := List.any_eq_false.2 fun x _ => by simp [AV.refs]
     simp [hkE, hkF, hv]
    ·have hvE : E.kills.any AV.dead.refs = false := List.any_eq_false.2 fun x _ => by simp [AV.refs]
     have hvF : F.kills.any AV.dead.refs = false := List.any_eq_false.2 fun x _ => by simp [AV.refs]
     simp only [hkE, hkF, if_false]
     cases hE' : E.kills.any (S.at i).refs <;> cases hF' : F.kills.any (S.at i).refs <;> simp [hE', hF', hvE, hvF]
theorem put_dead_at {S : St} {r x : Nat} (h : VD (S.at r)) : (S.put (some x) .dead).at r = if r = x then .dead else S.at r := by
 have hr : (S.at r).refs x = false := by rcases h with ⟨a, h⟩ | h <;> rw [h] <;> rfl
 rw [put_at, hr]
 by_cases hx : r = x
 ·subst hx
  by_cases hl : r < S.length
  ·simp [hl, AV.refs]
  ·have : S.at r = .dead := by unfold St.at; rw [List.getD_eq_getElem?_getD, List.getElem?_eq_none (by omega)]; rfl
   simp [hl, this]
 ·simp [hx]
theorem kills_VD : ∀ (ks : List Nat) {S : St} {r : Nat}, VD (S.at r) → (killsOf ks S).at r = if r ∈ ks then .dead else S.at r
 | [], S, r, h => by simp [killsOf]
 | x :: l, S, r, h => by
  have h1 := put_dead_at (x := x) h
  have hv : VD ((S.put (some x) .dead).at r) := by rw [h1]; split; exact .inr rfl; exact h
  simp only [killsOf]
  rw [kills_VD l hv, h1]
  by_cases hx : r = x <;> by_cases hl : r ∈ l <;> simp [hx, hl]
theorem opVD_kills {S : St} {ks : List Nat} {x : Operand} (h : opVD S x) : opVD (killsOf ks S) x := by
 cases x with
 | tmp i =>
  simp only [opVD] at h ⊢
  rw [kills_VD ks h]
  split
  ·exact .inr rfl
  ·exact h
 | const c => trivial
 | func f => exact h
 | global g => exact h
theorem parts_eff {ps : List (Nat × Operand)} : ∀ (r : List TypeId) (j : Nat) {S : St}, (∀ q ∈ ps, opVD S q.2) → ∃ oL : Option (List TV × List Nat), (∀ l ks, oL = some (l, ks) → ks.Nodup ∧ ∀ x ∈ ks, x ∈ ps.flatMap (fun q => tmpOf q.2) ∧ ∃ a, S.at x = .v a []) ∧
  ∀ S', Agr S S' (ps.flatMap fun q => tmpOf q.2) → S'.parts Θ ps r j = oL.map fun q => (q.1, killsOf q.2 S')
 | [], j, S, hx => ⟨some ([], []), fun l ks e => by
   injection e with e
   injection e with _ e
   subst e
   exact ⟨List.nodup_nil, fun x hx => by cases hx⟩, fun S' ha => rfl⟩
 | T :: r, j, S, hx => by
  cases hf : ps.find? (fun q => Nat.beq q.1 j) with
  | none =>
   cases hz : zeroTV Θ T with
   | none => exact ⟨none, fun l ks e => (by cases e), fun S' ha => by simp only [St.parts, hf, hz]; rfl⟩
   | some a =>
    obtain ⟨oL, h1, h2⟩ := parts_eff r (j + 1) hx
    cases oL with
    | none => exact ⟨none, fun l ks e => (by cases e), fun S' ha => by simp only [St.parts, hf, hz, h2 S' ha]; rfl⟩
    | some q =>
     refine ⟨some (a :: q.1, q.2), fun l ks e => ?_, fun S' ha => by simp only [St.parts, hf, hz, h2 S' ha]; rfl⟩
     injection e with e
     injection e with _ e
     subst e
     exact h1 q.1 q.2 rfl
  | some q =>
   have hq : q ∈ ps := List.mem_of_find?_eq_some hf
   have hsub : ∀ r ∈ tmpOf q.2, r ∈ ps.flatMap fun q => tmpOf q.2 := fun r hr => List.mem_flatMap.2 ⟨q, hq, hr⟩
   obtain ⟨oB, b1, b2⟩ := take_eff2 (Θ := Θ) (hx q hq) T
   cases oB with
   | none => exact ⟨none, fun l ks e => (by cases e), fun S' ha => by simp only [St.parts, hf, b2 S' fun r hr => ha r (hsub r hr)]; rfl⟩
   | some bk =>
    obtain ⟨b, ks⟩ := bk
    obtain ⟨hnd, hks⟩ := b1 b ks rfl
    obtain ⟨oL, h1, h2⟩ := parts_eff r (j + 1) (S := killsOf ks S) (fun q hq => opVD_kills (hx q hq))
    have hag : ∀ S', Agr S S' (ps.flatMap fun q => tmpOf q.2) → Agr (killsOf ks S) (killsOf ks S') (ps.flatMap fun q => tmpOf q.2) := fun S' ha r hr => by
     obtain ⟨q', hq', hr'⟩ := List.mem_flatMap.1 hr
     have hv : VD (S.at r) := by
      have := hx q' hq'
      cases hq2 : q'.2 with
      | tmp i =>
       rw [hq2] at this hr'
       simp only [tmpOf, List.mem_singleton] at hr'
       subst hr'
       exact this
      | const c => rw [hq2] at hr'; simp [tmpOf] at hr'
      | func f => rw [hq2] at hr'; simp [tmpOf] at hr'
      | global g => rw [hq2] at hr'; simp [tmpOf] at hr'
     rw [kills_VD ks hv, kills_VD ks (by rw [ha r hr]; exact hv), ha r hr]
    cases oL with
    | none => exact ⟨none, fun l ks e => (by cases e), fun S' ha => by simp only [St.parts, hf, b2 S' fun r hr => ha r (hsub r hr), Option.map_some, h2 _ (hag S' ha)]; rfl⟩
    | some lk =>
     obtain ⟨l, ks2⟩ := lk
     obtain ⟨hnd2, hks2⟩ := h1 l ks2 rfl
     refine ⟨some (b :: l, ks ++ ks2), fun l' ks' e => ?_, fun S' ha => by simp only [St.parts, hf, b2 S' fun r hr => ha r (hsub r hr), Option.map_some, h2 _ (hag S' ha), killsOf_app]⟩
     injection e with e
     injection e with _ e
     subst e
     have hv2 : ∀ x ∈ ks2, x ∉ ks ∧ ∃ a, S.at x = .v a [] := fun x hx2 => by
      obtain ⟨m1, a, m2⟩ := hks2 x hx2
      have hv : VD (S.at x) := by
       obtain ⟨q', hq', hr'⟩ := List.mem_flatMap.1 m1
       have := hx q' hq'
       cases hq2 : q'.2 with
       | tmp i =>
        rw [hq2] at this hr'
        simp only [tmpOf, List.mem_singleton] at hr'
        subst hr'
        exact this
       | const c => rw [hq2] at hr'; simp [tmpOf] at hr'
       | func f => rw [hq2] at hr'; simp [tmpOf] at hr'
       | global g => rw [hq2] at hr'; simp [tmpOf] at hr'
      rw [kills_VD ks hv] at m2
      by_cases hk : x ∈ ks
      ·rw [if_pos hk] at m2; cases m2
      ·rw [if_neg hk] at m2; exact ⟨hk, a, m2⟩
     refine ⟨List.nodup_append.2 ⟨hnd, hnd2, fun a ha b hb e => by subst e; exact (hv2 a hb).1 ha⟩, fun x hx2 => ?_⟩
     rcases List.mem_append.1 hx2 with hx2 | hx2
     ·exact ⟨hsub x (hks x hx2).1, (hks x hx2).2⟩
     ·exact ⟨(hks2 x hx2).1, (hv2 x hx2).2⟩
theorem slice_eff {S : St} {d : Nat} {T : TypeId} {n : Nat} {hn : Hn} {ps : List (Nat × Operand)} (hx : ∀ q ∈ ps, opOK S q.2 = true) :
  ∃ oG : Option (Bool × Eff), (∀ g E, oG = some (g, E) → E.d = d ∧ noRefs E.v ∧ E.kills.Nodup ∧ ∀ r ∈ E.kills, r ∈ ps.flatMap fun q => tmpOf q.2) ∧ ∀ S', Agr S S' (ps.flatMap fun q => tmpOf q.2) → evBuildSlice Θ hn S' (some d) T n ps = oG.map fun q => (q.1, q.2.app S') := by
 cases hf : Θ.find T with
 | none => exact ⟨none, fun g E e => (by cases e), fun S' ha => by unfold evBuildSlice; simp only [hf]; rfl⟩
 | some i =>
  by_cases hform : ∃ t, i.ty = .sl t
  rotate_left
  ·refine ⟨none, fun g E e => (by cases e), fun S' ha => ?_⟩
   unfold evBuildSlice
   simp only [hf]
   split
   ·rename_i heq
    injection heq with heq
    subst heq
    exact absurd ⟨_, rfl⟩ hform
   ·rfl
  obtain ⟨t, ht⟩ := hform
  obtain ⟨q1, ty, e, q4⟩ := i
  simp only at ht
  subst ht
  obtain ⟨oL, l1, l2⟩ := parts_eff (Θ := Θ) (List.replicate n e) 0 (fun q hq => opOK_VD (hx q hq))
  cases hc : (placesB n ps && Nat.ble n 1800) with
  | false => exact ⟨none, fun g E e => (by cases e), fun S' ha => by unfold evBuildSlice; simp only [hf, hc, cond_false]; rfl⟩
  | true =>
   cases oL with
   | none => exact ⟨none, fun g E e => (by cases e), fun S' ha => by unfold evBuildSlice; simp only [hf, hc, cond_true, l2 S' ha]; rfl⟩
   | some q =>
    obtain ⟨l, ks⟩ := q
    obtain ⟨hnd, hks⟩ := l1 l ks rfl
    cases l with
    | nil =>
     refine ⟨some (true, ⟨ks, d, .v ⟨.sl t, bif hn.froz (some d) then .k else .o e none (hn.find (some d) .k), []⟩ []⟩), fun g E e => ?_, fun S' ha => by unfold evBuildSlice; simp only [hf, hc, cond_true, l2 S' ha]; rfl⟩
     injection e with e
     injection e with _ e
     subst e
     exact ⟨rfl, fun _ => rfl, hnd, fun r hr => (hks r hr).1⟩
    | cons a l =>
     cases hl : listOf t a.m (a :: l) with
     | none => exact ⟨none, fun g E e => (by cases e), fun S' ha => by unfold evBuildSlice; simp only [hf, hc, cond_true, l2 S' ha, Option.map_some, hl]; rfl⟩
     | some xs =>
      refine ⟨some (true, ⟨ks, d, .v ⟨.sl t, bif hn.froz (some d) && a.m.isK then .k else .o e none a.m, xs⟩ []⟩), fun g E e => ?_, fun S' ha => by unfold evBuildSlice; simp only [hf, hc, cond_true, l2 S' ha, Option.map_some, hl]; rfl⟩
      injection e with e
      injection e with _ e
      subst e
      exact ⟨rfl, fun _ => rfl, hnd, fun r hr => (hks r hr).1⟩
theorem opK_OK {S : St} {x : Operand} (h : opK S x = true) : opOK S x = true := by
 cases x with
 | tmp i =>
  simp only [opK] at h
  simp only [opOK]
  split at h
  ·rename_i ha; rw [ha]
  ·cases h
 | const c => rfl
 | func f => exact h
 | global g => exact h
theorem optInt_agr {S S' : St} {d : Int} {x : Option Operand} (h : optOK S x = true) (ha : Agr S S' (optTmp x)) : optInt Θ S' d x = optInt Θ S d x := by
 cases x with
 | none => rfl
 | some x =>
  simp only [optInt, St.rdInt, rd_agr h ha]
theorem cut_eff {S : St} {d : Nat} {T : TypeId} {x : Operand} {lo hi : Option Operand} (hx : opK S x = true) (hlo : optOK S lo = true) (hhi : optOK S hi = true) :
  ∃ o : Option (Bool × TV), ∀ S', Agr S S' (tmpOf x ++ (optTmp lo ++ optTmp hi)) → evSlice Θ S' (some d) T x lo hi none = o.map fun q => (q.1, S'.put (some d) (.v q.2 [])) := by
 have ag : ∀ {S' : St}, Agr S S' (tmpOf x ++ (optTmp lo ++ optTmp hi)) → S'.opv Θ 0 x = S.opv Θ 0 x ∧ S'.rd Θ 0 x = S.rd Θ 0 x ∧ optInt Θ S' 0 lo = optInt Θ S 0 lo ∧ ∀ n, optInt Θ S' n hi = optInt Θ S n hi := fun ha =>
  ⟨opv_agr (fun r hr => ha r (by simp [hr])) 0, rd_agr (opK_OK hx) (fun r hr => ha r (by simp [hr])) 0, optInt_agr hlo fun r hr => ha r (by simp [hr]), fun n => optInt_agr hhi fun r hr => ha r (by simp [hr])⟩
 have hav : (∃ t y, S.opv Θ 0 x = some (.v ⟨t, .k, y⟩ []) ∧ S.rd Θ 0 x = some ⟨t, .k, y⟩) ∨ ∃ c, x = .const c := by
  cases x with
  | tmp i =>
   simp only [opK] at hx
   split at hx
   ·rename_i t y ha
    exact .inl ⟨t, y, by simp [St.opv, ha], by simp [St.rd, St.opv, ha, St.rdA]⟩
   ·cases hx
  | const c => exact .inr ⟨c, rfl⟩
  | func f => simp [opK] at hx
  | global g => simp [opK] at hx
 have hval : (∃ a, S.opv Θ 0 x = some (.v a []) ∧ S.rd Θ 0 x = some a ∧ (a.m = .k ∨ ∃ c, x = .const c)) ∨ S.opv Θ 0 x = none := by
  rcases hav with ⟨t, y, h1, h2⟩ | ⟨c, rfl⟩
  ·exact .inl ⟨_, h1, h2, .inl rfl⟩
  ·simp only [St.rd, St.opv]
   cases constTV Θ 0 c with
   | none => exact .inr rfl
   | some a => exact .inl ⟨a, rfl, rfl, .inr ⟨c, rfl⟩⟩
 rcases hval with ⟨a, h1, h2, hm⟩ | h1
 rotate_left
 ·exact ⟨none, fun S' ha => by unfold evSlice; rw [(ag ha).1, h1]; rfl⟩
 cases hl : optInt Θ S 0 lo with
 | none =>
  refine ⟨none, fun S' ha => ?_⟩
  obtain ⟨e1, e2, e3, e4⟩ := ag ha
  unfold evSlice
  rw [e1, e2, e3, h1, h2, hl]
  obtain ⟨t, m, y⟩ := a
  cases t <;> rfl
 | some l =>
  obtain ⟨t, m, y⟩ := a
  have hnone : (∀ S', evSlice Θ S' (some d) T x lo hi none = none) → ∃ o : Option (Bool × TV), ∀ S', Agr S S' (tmpOf x ++ (optTmp lo ++ optTmp hi)) → evSlice Θ S' (some d) T x lo hi none = o.map fun q => (q.1, S'.put (some d) (.v q.2 [])) := fun h => ⟨none, fun S' _ => h S'⟩
  cases t with
  | str =>
   cases hh : optInt Θ S (ByteArray.size y : Int) hi with
   | none =>
    refine ⟨none, fun S' ha => ?_⟩
    obtain ⟨e1, e2, e3, e4⟩ := ag ha
    unfold evSlice
    rw [e1, e2, e3, h1, h2, hl]
    simp only [e4, hh]
    rfl
   | some h' =>
    cases hT : Θ.is T .str with
    | false =>
     refine ⟨none, fun S' ha => ?_⟩
     obtain ⟨e1, e2, e3, e4⟩ := ag ha
     unfold evSlice
     rw [e1, e2, e3, h1, h2, hl]
     simp only [e4, hh, hT]
     rfl
    | true =>
     refine ⟨some (decide (0 ≤ l) && decide (l ≤ h') && decide (h' ≤ (ByteArray.size y : Int)), ⟨.str, .k, ByteArray.extract y l.toNat h'.toNat⟩), fun S' ha => ?_⟩
     obtain ⟨e1, e2, e3, e4⟩ := ag ha
     unfold evSlice
     rw [e1, e2, e3, h1, h2, hl]
     simp only [e4, hh, hT]
     rfl
  | sl t =>
   cases hT : Θ.is T (.sl t) with
   | false =>
    refine ⟨none, fun S' ha => ?_⟩
    obtain ⟨e1, e2, e3, e4⟩ := ag ha
    unfold evSlice
    rw [e1, e2, e3, h1, h2, hl]
    simp only [hT]
    rfl
   | true =>
    cases hh : optInt Θ S (List.length y : Int) hi with
    | none =>
     refine ⟨none, fun S' ha => ?_⟩
     obtain ⟨e1, e2, e3, e4⟩ := ag ha
     unfold evSlice
     rw [e1, e2, e3, h1, h2, hl]
     simp only [hT, e4, hh]
     rfl
    | some h' =>
     by_cases hk : m = .k
     ·subst hk
      refine ⟨some (decide (0 ≤ l) && decide (l ≤ h') && decide (h' ≤ (List.length y : Int)), ⟨.sl t, .k, (List.take h'.toNat y).drop l.toNat⟩), fun S' ha => ?_⟩
      obtain ⟨e1, e2, e3, e4⟩ := ag ha
      unfold evSlice
      rw [e1, e2, e3, h1, h2, hl]
      simp only [hT, e4, hh]
      rfl
     ·obtain ⟨c, rfl⟩ := hm.resolve_left hk
      refine ⟨none, fun S' ha => ?_⟩
      obtain ⟨e1, e2, e3, e4⟩ := ag ha
      unfold evSlice
      rw [e1, e2, e3, h1, h2, hl]
      simp only [hT, e4, hh, cond_true]
      cases m <;> first | exact absurd rfl hk | rfl
  | _ =>
   refine ⟨none, fun S' ha => ?_⟩
   obtain ⟨e1, e2, e3, e4⟩ := ag ha
   unfold evSlice
   rw [e1, e2, e3, h1, h2, hl]
   rfl
theorem iaddr_eff {S : St} {d : Nat} {T : TypeId} {x ix : Operand} (hx : opK S x = true) (hix : opOK S ix = true) :
  ∃ o : Option (Bool × TV), ∀ S', Agr S S' (tmpOf x ++ tmpOf ix) → evIndexAddr Θ S' (some d) T x ix = o.map fun q => (q.1, S'.put (some d) (.v q.2 [])) := by
 have ag : ∀ {S' : St}, Agr S S' (tmpOf x ++ tmpOf ix) → S'.opv Θ 0 x = S.opv Θ 0 x ∧ S'.rdInt Θ ix = S.rdInt Θ ix := fun ha =>
  ⟨opv_agr (fun r hr => ha r (by simp [hr])) 0, by unfold St.rdInt; rw [rd_agr hix (fun r hr => ha r (by simp [hr])) 0]⟩
 have hval : (∃ a, S.opv Θ 0 x = some (.v a []) ∧ (a.m = .k ∨ ∃ c, x = .const c)) ∨ S.opv Θ 0 x = none := by
  cases x with
  | tmp i =>
   simp only [opK] at hx
   split at hx
   ·rename_i t y ha
    exact .inl ⟨⟨t, .k, y⟩, by simp [St.opv, ha], .inl rfl⟩
   ·cases hx
  | const c =>
   simp only [St.opv]
   cases constTV Θ 0 c with
   | none => exact .inr rfl
   | some a => exact .inl ⟨a, rfl, .inr ⟨c, rfl⟩⟩
  | func f => simp [opK] at hx
  | global g => simp [opK] at hx
 rcases hval with ⟨a, h1, hm⟩ | h1
 rotate_left
 ·exact ⟨none, fun S' ha => by unfold evIndexAddr; rw [(ag ha).1, h1]; rfl⟩
 cases hn : S.rdInt Θ ix with
 | none =>
  refine ⟨none, fun S' ha => ?_⟩
  obtain ⟨e1, e2⟩ := ag ha
  unfold evIndexAddr
  rw [e1, e2, h1, hn]
  obtain ⟨t, m, y⟩ := a
  cases t <;> rfl
 | some n =>
  obtain ⟨t, m, y⟩ := a
  cases t with
  | sl t =>
   cases hT : Θ.is T (.sl t) with
   | false =>
    refine ⟨none, fun S' ha => ?_⟩
    obtain ⟨e1, e2⟩ := ag ha
    unfold evIndexAddr
    rw [e1, e2, h1, hn]
    simp only [hT]
    rfl
   | true =>
    by_cases hk : m = .k
    ·subst hk
     refine ⟨some (inB n (List.length y), ⟨.ptr t, .k, List.getD y n.toNat t.z⟩), fun S' ha => ?_⟩
     obtain ⟨e1, e2⟩ := ag ha
     unfold evIndexAddr
     rw [e1, e2, h1, hn]
     simp only [hT]
     rfl
    ·obtain ⟨c, rfl⟩ := hm.resolve_left hk
     refine ⟨none, fun S' ha => ?_⟩
     obtain ⟨e1, e2⟩ := ag ha
     unfold evIndexAddr
     rw [e1, e2, h1, hn]
     simp only [hT, cond_true]
     cases m <;> first | exact absurd rfl hk | rfl
  | _ =>
   refine ⟨none, fun S' ha => ?_⟩
   obtain ⟨e1, e2⟩ := ag ha
   unfold evIndexAddr
   rw [e1, e2, h1, hn]
   rfl
theorem grp_dst {S : St} {o : Oper} (hg : grpOK O ops S o = true) : o.guard = none ∧ ∃ d, o.dst = some d ∧ (S.at d).isV = false ∧ d < S.length := by
 unfold grpOK at hg
 simp only [Bool.and_eq_true] at hg
 obtain ⟨⟨h1, h2⟩, _⟩ := hg
 refine ⟨?_, ?_⟩
 ·split at h1
  ·assumption
  ·cases h1
 ·split at h2
  ·rename_i d hd
   simp only [Bool.and_eq_true, Bool.not_eq_true'] at h2
   exact ⟨d, hd, h2.1, Nat.lt_of_lt_of_le (Nat.lt_succ_self _) (Nat.le_of_ble_eq_true h2.2)⟩
  ·cases h2
theorem opOK_looks {S : St} {x : Operand} (h : opOK S x = true) : ∀ r ∈ tmpOf x, ∃ a, S.at r = .v a [] := by
 intro r hr
 rcases opOK_opv (Θ := []) h 0 with ⟨i, a, rfl, h1, _⟩ | ⟨c, rfl⟩
 ·simp only [tmpOf, List.mem_singleton] at hr
  subst hr
  exact ⟨a, h1⟩
 ·simp [tmpOf] at hr
theorem appendC_none {S S' : St} {Θ : Tab} {dst : Option Nat} : ∀ {as : List Operand} {ts : List TypeId}, (∀ x ∈ as, opOK S x = true) → Agr S S' (as.flatMap tmpOf) → evAppendC Θ S' dst ts as = none := by
 intro as ts hop ha
 unfold evAppendC
 split
 ·rename_i x y T T'
  split
  ·rename_i tt s st pp hav
   exfalso
   have h1 := hop x (by simp)
   cases x with
   | tmp i =>
    have h2 := ha i (by simp [tmpOf])
    simp only [St.opv, Option.some.injEq] at hav
    rw [h2] at hav
    simp only [opOK, hav] at h1
    cases h1
   | const c =>
    simp only [St.opv] at hav
    split at hav <;> cases hav
   | func f => simp [opOK] at h1
   | global g => simp [opOK] at h1
  ·rfl
 ·rfl
theorem grp_eff (hO : ODet O) {i : Nat} {o : Oper} (ho : ops[i]? = some o) {S : St} (hg : grpOK O ops S o = true) {d : Nat} (hd : o.dst = some d) :
  ∃ oE : Option Eff, (∀ E, oE = some E → E.d = d ∧ noRefs E.v ∧ E.kills.Nodup ∧ (∀ r ∈ E.kills, r ∈ looksM ops o) ∧ (callB o = true → E.kills = [])) ∧ ∀ S', Agr S S' (looksM ops o) → ∀ K, peStep h O ops i S' K = oE.bind fun E => K (E.app S') := by
 have hgd := (grp_dst hg).1
 have val : ∀ {o' : Option (Bool × TV)} {evf : St → Res}, callB o = true → (∀ S' K, peStep h O ops i S' K = match evf S' with
    | some (g, S1) => bif g then K S1 else none
    | none => none) → (∀ S', Agr S S' (looksM ops o) → evf S' = o'.map fun q => (q.1, S'.put (some d) (.v q.2 []))) →
   ∃ oE : Option Eff, (∀ E, oE = some E → E.d = d ∧ noRefs E.v ∧ E.kills.Nodup ∧ (∀ r ∈ E.kills, r ∈ looksM ops o) ∧ (callB o = true → E.kills = [])) ∧ ∀ S', Agr S S' (looksM ops o) → ∀ K, peStep h O ops i S' K = oE.bind fun E => K (E.app S') := by
  intro o' evf hc hst hev
  cases o' with
  | none => exact ⟨none, fun E e => (by cases e), fun S' ha K => by rw [hst, hev S' ha]; rfl⟩
  | some q =>
   obtain ⟨g, r⟩ := q
   cases g with
   | false => exact ⟨none, fun E e => (by cases e), fun S' ha K => by rw [hst, hev S' ha]; rfl⟩
   | true =>
    refine ⟨some ⟨[], d, .v r []⟩, fun E e => ?_, fun S' ha K => by rw [hst, hev S' ha]; rfl⟩
    injection e with e
    subst e
    exact ⟨rfl, fun _ => rfl, List.nodup_nil, fun r hr => (by cases hr), fun _ => rfl⟩
 unfold grpOK at hg
 simp only [Bool.and_eq_true] at hg
 have hop := hg.2
 split at hop
 ·rename_i f as ts hop'
  simp only [Bool.and_eq_true, List.all_eq_true] at hop
  obtain ⟨oE, h1, h2⟩ := call_eff (h := h) hO ho hgd hd hop' hop.1 hop.2
  have hl : looksM ops o = as.toList.flatMap tmpOf := by unfold looksM; rw [hop']
  refine ⟨oE, fun E hE => ?_, fun S' ha => h2 S' (by rw [hl] at ha; exact ha)⟩
  obtain ⟨e1, e2, e3⟩ := h1 E hE
  exact ⟨e1, e3, by rw [e2]; exact List.nodup_nil, fun r hr => by rw [e2] at hr; (cases hr), fun _ => e2⟩
 ·rename_i as ts hop'
  simp only [List.all_eq_true] at hop
  have hl : looksM ops o = as.toList.flatMap tmpOf := by unfold looksM; rw [hop']
  have hcb : callB o = false := by unfold callB; rw [hop']
  have hstep : ∀ S' K, Agr S S' (as.toList.flatMap tmpOf) → peStep h O ops i S' K = match evAppend h.tab S' (some d) ts.toList as.toList with
    | some (g, S1) => bif g then K S1 else none
    | none => none := by
   intro S' K ha
   unfold peStep
   rw [ho]
   simp only [hgd]
   unfold peOp
   rw [hop']
   simp only [ev, hop', hd]
   rcases evAppend h.tab S' (some d) ts.toList as.toList with _ | ⟨g, S1⟩
   ·simp only [appendC_none hop ha]
   ·rfl
  have fin : ∀ oG : Option (Bool × Eff), (∀ g E, oG = some (g, E) → E.d = d ∧ noRefs E.v ∧ E.kills.Nodup ∧ ∀ r ∈ E.kills, r ∈ as.toList.flatMap tmpOf) → (∀ S', Agr S S' (as.toList.flatMap tmpOf) → evAppend h.tab S' (some d) ts.toList as.toList = oG.map fun q => (q.1, q.2.app S')) →
    ∃ oE : Option Eff, (∀ E, oE = some E → E.d = d ∧ noRefs E.v ∧ E.kills.Nodup ∧ (∀ r ∈ E.kills, r ∈ looksM ops o) ∧ (callB o = true → E.kills = [])) ∧ ∀ S', Agr S S' (looksM ops o) → ∀ K, peStep h O ops i S' K = oE.bind fun E => K (E.app S') := by
   intro oG h1 h2
   cases oG with
   | none => exact ⟨none, fun E e => (by cases e), fun S' ha K => by rw [hstep S' K (by rw [hl] at ha; exact ha), h2 S' (by rw [hl] at ha; exact ha)]; rfl⟩
   | some q =>
    obtain ⟨g, E⟩ := q
    cases g with
    | false => exact ⟨none, fun E e => (by cases e), fun S' ha K => by rw [hstep S' K (by rw [hl] at ha; exact ha), h2 S' (by rw [hl] at ha; exact ha)]; rfl⟩
    | true =>
     refine ⟨some E, fun E' e => ?_, fun S' ha K => by rw [hstep S' K (by rw [hl] at ha; exact ha), h2 S' (by rw [hl] at ha; exact ha)]; rfl⟩
     injection e with e
     subst e
     obtain ⟨e1, e2, e3, e4⟩ := h1 true E rfl
     exact ⟨e1, e2, e3, by rw [hl]; exact e4, fun hc => by rw [hcb] at hc; cases hc⟩
  by_cases hform : ∃ x y T T', as.toList = [x, y] ∧ ts.toList = [T, T']
  ·obtain ⟨x, y, T, T', ha, ht⟩ := hform
   rw [ha] at hop
   obtain ⟨oG, h1, h2⟩ := append_eff (Θ := h.tab) (d := d) (T := T) (T' := T') (hop x (by simp)) (hop y (by simp))
   refine fin oG ?_ ?_
   ·intro g E e
    obtain ⟨e1, e2, e3, e4⟩ := h1 g E e
    exact ⟨e1, e2, e3, fun r hr => by rw [ha]; simpa using e4 r hr⟩
   ·intro S' hs
    rw [ha, ht]
    exact h2 S' (by rw [ha] at hs; simpa using hs)
  ·refine fin none (fun g E e => (by cases e)) fun S' hs => ?_
   unfold evAppend
   split
   ·rename_i x y T T' ha ht
    exact absurd ⟨x, y, T, T', ha, ht⟩ hform
   ·rfl
 ·rename_i T n ps hop'
  simp only [List.all_eq_true] at hop
  have hl : looksM ops o = ps.toList.flatMap fun q => tmpOf q.2 := by unfold looksM; rw [hop']
  have hcb : callB o = false := by unfold callB; rw [hop']
  have hstep : ∀ S' K, peStep h O ops i S' K = match evBuildSlice h.tab h.hn S' (some d) T n ps.toList with
    | some (g, S1) => bif g then K S1 else none
    | none => none := by
   intro S' K
   unfold peStep
   rw [ho]
   simp only [hgd]
   unfold peOp
   rw [hop']
   simp only [ev, hop', hd]
   rcases evBuildSlice h.tab h.hn S' (some d) T n ps.toList with _ | ⟨g, S1⟩ <;> rfl
  obtain ⟨oG, h1, h2⟩ := slice_eff (Θ := h.tab) (d := d) (T := T) (n := n) (hn := h.hn) hop
  cases oG with
  | none => exact ⟨none, fun E e => (by cases e), fun S' ha K => by rw [hstep, h2 S' (by rw [hl] at ha; exact ha)]; rfl⟩
  | some q =>
   obtain ⟨g, E⟩ := q
   cases g with
   | false => exact ⟨none, fun E e => (by cases e), fun S' ha K => by rw [hstep, h2 S' (by rw [hl] at ha; exact ha)]; rfl⟩
   | true =>
    refine ⟨some E, fun E' e => ?_, fun S' ha K => by rw [hstep, h2 S' (by rw [hl] at ha; exact ha)]; rfl⟩
    injection e with e
    subst e
    obtain ⟨e1, e2, e3, e4⟩ := h1 true E rfl
    exact ⟨e1, e2, e3, by rw [hl]; exact e4, fun hc => by rw [hcb] at hc; cases hc⟩
 ·rename_i T x hop'
  split at hop
  case h_4 => cases hop
  case h_2 =>
   rename_i t y hb hx
   have hl : looksM ops o = [x] := by unfold looksM; rw [hop']; simp only [hb]
   refine val (evf := fun S' => evLoad h.tab S' (some d) T (.tmp x)) (o' := (bif h.tab.is T t then some (true, ⟨t, .k, y⟩) else none)) (by unfold callB; rw [hop']) (fun S' K => by unfold peStep; rw [ho]; simp only [hgd]; unfold peOp; rw [hop']; simp only [ev, hop', hd]; rcases evLoad h.tab S' (some d) T (.tmp x) with _ | ⟨g, S1⟩ <;> rfl) fun S' ha => ?_
   rw [hl] at ha
   have h1 : S'.at x = .v ⟨.ptr t, .k, y⟩ [] := (ha x (by simp)).trans hx
   unfold evLoad
   simp only [St.opv, h1, St.tgt, St.loadAt, Tgt.ty, kTV]
   cases h.tab.is T t <;> rfl
  case h_3 =>
   rename_i t T1 tg me y hb hx
   have hl : looksM ops o = [x] := by unfold looksM; rw [hop']; simp only [hb]
   split at hop
   case h_2 => cases hop
   rename_i b hgl
   refine val (evf := fun S' => evLoad h.tab S' (some d) T (.tmp x)) (o' := match S.place x [.deref] with
    | some c => bif h.tab.is T t then some (true, kTV c) else none
    | none => none) (by unfold callB; rw [hop']) (fun S' K => by unfold peStep; rw [ho]; simp only [hgd]; unfold peOp; rw [hop']; simp only [ev, hop', hd]; rcases evLoad h.tab S' (some d) T (.tmp x) with _ | ⟨g, S1⟩ <;> rfl) fun S' ha => ?_
   rw [hl] at ha
   have h1 : S'.at x = .v ⟨.ptr t, .o T1 tg me, y⟩ [] := (ha x (by simp)).trans hx
   have h2 : S'.glance x [.deref] = some b := by rw [← hgl]; unfold St.glance; rw [ha x (by simp)]
   have h3 : S'.place x [.deref] = S.place x [.deref] := by unfold St.place; rw [ha x (by simp)]
   unfold evLoad
   simp only [St.opv, h1, St.tgt, St.loadAt, h2, hop, cond_true, h3, Tgt.ty]
   cases S.place x [.deref] with
   | none => rfl
   | some c => simp only; cases h.tab.is T t <;> rfl
  rename_i s t s' p hb hx
  simp only [Bool.and_eq_true] at hop
  obtain ⟨hs, hk⟩ := hop
  have := Nat.eq_of_beq_eq_true hs
  subst this
  have hl : looksM ops o = [x, s'] := by unfold looksM; rw [hop']; simp only [hb]
  have hstep : ∀ S' K, peStep h O ops i S' K = match evLoad h.tab S' (some d) T (.tmp x) with
    | some (g, S1) => bif g then K S1 else none
    | none => none := by
   intro S' K
   unfold peStep
   rw [ho]
   simp only [hgd]
   unfold peOp
   rw [hop']
   simp only [ev, hop', hd]
   rcases evLoad h.tab S' (some d) T (.tmp x) with _ | ⟨g, S1⟩ <;> rfl
  split at hk
  case h_2 => cases hk
  rename_i b hgl
  have hev : ∀ S', Agr S S' [x, s'] → evLoad h.tab S' (some d) T (.tmp x) = match S.place s' p with
    | some c => bif h.tab.is T t then some (true, S'.put (some d) (.v (kTV c) [])) else none
    | none => none := by
   intro S' ha
   have h1 : S'.at x = .ad t s' p := (ha x (by simp)).trans hx
   have h2 : S'.glance s' p = some b := by rw [← hgl]; unfold St.glance; rw [ha s' (by simp)]
   have h3 : S'.place s' p = S.place s' p := by unfold St.place; rw [ha s' (by simp)]
   unfold evLoad
   simp only [St.opv, h1, St.tgt, St.loadAt, h2, hk, cond_true, h3]
   cases S.place s' p <;> rfl
  cases hp : S.place s' p with
  | none => exact ⟨none, fun E e => (by cases e), fun S' ha K => by rw [hstep, hev S' (by rw [hl] at ha; exact ha), hp]; rfl⟩
  | some c =>
   cases hT : h.tab.is T t with
   | false => exact ⟨none, fun E e => (by cases e), fun S' ha K => by rw [hstep, hev S' (by rw [hl] at ha; exact ha), hp]; simp only [hT]; rfl⟩
   | true =>
    refine ⟨some ⟨[], d, .v (kTV c) []⟩, fun E e => ?_, fun S' ha K => by rw [hstep, hev S' (by rw [hl] at ha; exact ha), hp]; simp only [hT]; rfl⟩
    injection e with e
    subst e
    exact ⟨rfl, fun _ => rfl, List.nodup_nil, fun r hr => (by cases hr), fun _ => rfl⟩
 ·rename_i T x lo hi hop'
  simp only [Bool.and_eq_true] at hop
  obtain ⟨o', h1⟩ := cut_eff (Θ := h.tab) (d := d) (T := T) hop.1 hop.2.1 hop.2.2
  have hl : looksM ops o = tmpOf x ++ (optTmp lo ++ optTmp hi) := by unfold looksM; rw [hop']
  exact val (o' := o') (by unfold callB; rw [hop']) (fun S' K => by unfold peStep; rw [ho]; simp only [hgd]; unfold peOp; rw [hop']; simp only [ev, hop', hd]; rcases evSlice h.tab S' (some d) T x lo hi none with _ | ⟨g, S1⟩ <;> rfl) fun S' ha => h1 S' (by rw [hl] at ha; exact ha)
 ·rename_i T x ix hop'
  simp only [Bool.and_eq_true] at hop
  obtain ⟨o', h1⟩ := iaddr_eff (Θ := h.tab) (d := d) (T := T) hop.1 hop.2
  have hl : looksM ops o = tmpOf x ++ tmpOf ix := by unfold looksM; rw [hop']
  exact val (o' := o') (by unfold callB; rw [hop']) (fun S' K => by unfold peStep; rw [ho]; simp only [hgd]; unfold peOp; rw [hop']; simp only [ev, hop', hd]; rcases evIndexAddr h.tab S' (some d) T x ix with _ | ⟨g, S1⟩ <;> rfl) fun S' ha => h1 S' (by rw [hl] at ha; exact ha)
 ·cases hop
theorem grp_looks {S : St} {o : Oper} (hg : grpOK O ops S o = true) : (callB o = true ∨ ∀ r ∈ looksM ops o, ∃ a, S.at r = .v a []) ∧ ∀ r ∈ looksM ops o, S.at r ≠ .dead ∧ ∀ x, (S.at r).refs x = true → x ∈ looksM ops o := by
 have key : (∀ r ∈ looksM ops o, ∃ a, S.at r = .v a []) → (callB o = true ∨ ∀ r ∈ looksM ops o, ∃ a, S.at r = .v a []) ∧ ∀ r ∈ looksM ops o, S.at r ≠ .dead ∧ ∀ x, (S.at r).refs x = true → x ∈ looksM ops o := fun h => by
  refine ⟨.inr h, fun r hr => ?_⟩
  obtain ⟨a, ha⟩ := h r hr
  rw [ha]
  exact ⟨fun e => (by cases e), fun x hx => by simp [AV.refs] at hx⟩
 unfold grpOK at hg
 simp only [Bool.and_eq_true] at hg
 have hop := hg.2
 split at hop
 ·rename_i f as ts hop'
  simp only [Bool.and_eq_true, List.all_eq_true] at hop
  refine key fun r hr => ?_
  unfold looksM at hr
  rw [hop'] at hr
  obtain ⟨x, hx, hr⟩ := List.mem_flatMap.1 hr
  exact opOK_looks (hop.2 x hx) r hr
 ·rename_i as ts hop'
  simp only [List.all_eq_true] at hop
  refine key fun r hr => ?_
  unfold looksM at hr
  rw [hop'] at hr
  obtain ⟨x, hx, hr⟩ := List.mem_flatMap.1 hr
  exact opOK_looks (hop x hx) r hr
 ·rename_i T n ps hop'
  simp only [List.all_eq_true] at hop
  refine key fun r hr => ?_
  unfold looksM at hr
  rw [hop'] at hr
  obtain ⟨x, hx, hr⟩ := List.mem_flatMap.1 hr
  exact opOK_looks (hop x hx) r hr
 ·rename_i T x hop'
  split at hop
  case h_4 => cases hop
  case h_2 =>
   rename_i t y hb hx
   have hl : looksM ops o = [x] := by unfold looksM; rw [hop']; simp only [hb]
   refine key fun r hr => ?_
   rw [hl] at hr
   simp only [List.mem_singleton] at hr
   subst hr
   exact ⟨_, hx⟩
  case h_3 =>
   rename_i t T1 tg me y hb hx
   have hl : looksM ops o = [x] := by unfold looksM; rw [hop']; simp only [hb]
   refine key fun r hr => ?_
   rw [hl] at hr
   simp only [List.mem_singleton] at hr
   subst hr
   exact ⟨_, hx⟩
  rename_i s t s' p hb hx
  simp only [Bool.and_eq_true] at hop
  obtain ⟨hs, hk⟩ := hop
  have := Nat.eq_of_beq_eq_true hs
  subst this
  have hl : looksM ops o = [x, s'] := by unfold looksM; rw [hop']; simp only [hb]
  refine ⟨.inl (by unfold callB; rw [hop']), fun r hr => ?_⟩
  rw [hl] at hr ⊢
  simp only [List.mem_cons, List.not_mem_nil, or_false] at hr
  rcases hr with rfl | rfl
  ·rw [hx]
   refine ⟨fun e => (by cases e), fun y hy => ?_⟩
   simp only [AV.refs] at hy
   have := Nat.eq_of_beq_eq_true hy
   simp [this]
  ·split at hk
   case h_2 => cases hk
   rename_i b hgl
   unfold St.glance at hgl
   split at hgl
   ·rename_i a ex ha
    rw [ha]
    exact ⟨fun e => (by cases e), fun y hy => by simp [AV.refs] at hy⟩
   ·cases hgl
 ·rename_i T x lo hi hop'
  simp only [Bool.and_eq_true] at hop
  have hl : looksM ops o = tmpOf x ++ (optTmp lo ++ optTmp hi) := by unfold looksM; rw [hop']
  refine key fun r hr => ?_
  rw [hl] at hr
  have hopt : ∀ {y : Option Operand}, optOK S y = true → r ∈ optTmp y → ∃ a, S.at r = .v a [] := fun {y} h hr => by
   cases y with
   | none => simp [optTmp] at hr
   | some y => exact opOK_looks h r hr
  rcases List.mem_append.1 hr with hr | hr
  ·exact opOK_looks (opK_OK hop.1) r hr
  ·rcases List.mem_append.1 hr with hr | hr
   ·exact hopt hop.2.1 hr
   ·exact hopt hop.2.2 hr
 ·rename_i T x ix hop'
  simp only [Bool.and_eq_true] at hop
  have hl : looksM ops o = tmpOf x ++ tmpOf ix := by unfold looksM; rw [hop']
  refine key fun r hr => ?_
  rw [hl] at hr
  rcases List.mem_append.1 hr with hr | hr
  ·exact opOK_looks (opK_OK hop.1) r hr
  ·exact opOK_looks hop.2 r hr
 ·cases hop
theorem opOK_agr {S S' : St} {x : Operand} (h : opOK S x = true) (ha : Agr S S' (tmpOf x)) : opOK S' x = true := by
 cases x with
 | tmp i => simp only [opOK, ha i (by simp [tmpOf])] at h ⊢; exact h
 | const c => rfl
 | func f => exact h
 | global g => exact h
theorem opK_agr {S S' : St} {x : Operand} (h : opK S x = true) (ha : Agr S S' (tmpOf x)) : opK S' x = true := by
 cases x with
 | tmp i => simp only [opK, ha i (by simp [tmpOf])] at h ⊢; exact h
 | const c => rfl
 | func f => exact h
 | global g => exact h
theorem grpOK_agr {S S' : St} {o : Oper} (hg : grpOK O ops S o = true) (ha : Agr S S' (looksM ops o)) (hl : S'.length = S.length) (hd : ∀ d, o.dst = some d → (S'.at d).isV = false) : grpOK O ops S' o = true := by
 obtain ⟨h1, d, h2, h3, h4⟩ := grp_dst hg
 unfold grpOK at hg ⊢
 simp only [Bool.and_eq_true] at hg ⊢
 refine ⟨⟨hg.1.1, ?_⟩, ?_⟩
 ·rw [h2]
  simp only [hd d h2, Bool.not_false, Bool.true_and]
  rw [hl]
  exact Nat.ble_eq_true_of_le h4
 ·have hop := hg.2
  split at hop
  ·rename_i f as ts hop'
   have hlk : looksM ops o = as.toList.flatMap tmpOf := by unfold looksM; rw [hop']
   rw [hlk] at ha
   simp only [Bool.and_eq_true, List.all_eq_true] at hop
   simp only [Bool.and_eq_true, List.all_eq_true]
   exact ⟨hop.1, fun x hx => opOK_agr (hop.2 x hx) fun r hr => ha r (List.mem_flatMap.2 ⟨x, hx, hr⟩)⟩
  ·rename_i as ts hop'
   have hlk : looksM ops o = as.toList.flatMap tmpOf := by unfold looksM; rw [hop']
   rw [hlk] at ha
   simp only [List.all_eq_true] at hop
   simp only [List.all_eq_true]
   exact fun x hx => opOK_agr (hop x hx) fun r hr => ha r (List.mem_flatMap.2 ⟨x, hx, hr⟩)
  ·rename_i T n ps hop'
   have hlk : looksM ops o = ps.toList.flatMap fun q => tmpOf q.2 := by unfold looksM; rw [hop']
   rw [hlk] at ha
   simp only [List.all_eq_true] at hop
   simp only [List.all_eq_true]
   exact fun x hx => opOK_agr (hop x hx) fun r hr => ha r (List.mem_flatMap.2 ⟨x, hx, hr⟩)
  ·rename_i T x hop'
   split at hop
   case h_4 => cases hop
   case h_2 =>
    rename_i t y hb hx
    have hlk : looksM ops o = [x] := by unfold looksM; rw [hop']; simp only [hb]
    rw [hlk] at ha
    rw [hb, (ha x (by simp)).trans hx]
   case h_3 =>
    rename_i t T1 tg me y hb hx
    have hlk : looksM ops o = [x] := by unfold looksM; rw [hop']; simp only [hb]
    rw [hlk] at ha
    have h2 : S'.glance x [.deref] = S.glance x [.deref] := by unfold St.glance; rw [ha x (by simp)]
    rw [hb, (ha x (by simp)).trans hx]
    simp only [h2]
    exact hop
   rename_i s t s' p hb hx
   simp only [Bool.and_eq_true] at hop
   obtain ⟨hs, hk⟩ := hop
   have := Nat.eq_of_beq_eq_true hs
   subst this
   have hlk : looksM ops o = [x, s'] := by unfold looksM; rw [hop']; simp only [hb]
   rw [hlk] at ha
   have h1 : S'.at x = .ad t s' p := (ha x (by simp)).trans hx
   have h2 : S'.glance s' p = S.glance s' p := by unfold St.glance; rw [ha s' (by simp)]
   rw [hb, h1]
   simp only [Bool.and_eq_true, h2]
   exact ⟨Nat.beq_refl _, hk⟩
  ·rename_i T x lo hi hop'
   simp only [Bool.and_eq_true] at hop
   have hlk : looksM ops o = tmpOf x ++ (optTmp lo ++ optTmp hi) := by unfold looksM; rw [hop']
   rw [hlk] at ha
   simp only [Bool.and_eq_true]
   have hopt : ∀ {y : Option Operand}, optOK S y = true → (∀ r ∈ optTmp y, r ∈ tmpOf x ++ (optTmp lo ++ optTmp hi)) → optOK S' y = true := fun {y} h hs => by
    cases y with
    | none => rfl
    | some y => exact opOK_agr h fun r hr => ha r (hs r hr)
   exact ⟨opK_agr hop.1 fun r hr => ha r (by simp [hr]), hopt hop.2.1 fun r hr => by simp [hr], hopt hop.2.2 fun r hr => by simp [hr]⟩
  ·rename_i T x ix hop'
   simp only [Bool.and_eq_true] at hop
   have hlk : looksM ops o = tmpOf x ++ tmpOf ix := by unfold looksM; rw [hop']
   rw [hlk] at ha
   simp only [Bool.and_eq_true]
   exact ⟨opK_agr hop.1 fun r hr => ha r (by simp [hr]), opOK_agr hop.2 fun r hr => ha r (by simp [hr])⟩
  ·cases hop
theorem grp_in {S : St} {o : Oper} (hg : grpOK O ops S o = true) {d : Nat} (hd : o.dst = some d) {E : Eff} (he : E.d = d ∧ noRefs E.v ∧ E.kills.Nodup ∧ (∀ r ∈ E.kills, r ∈ looksM ops o) ∧ (callB o = true → E.kills = [])) : E.In S := by
 obtain ⟨_, d', h2, h3, h4⟩ := grp_dst hg
 rw [hd] at h2
 injection h2 with h2
 subst h2
 obtain ⟨e1, e2, e3, e4, e5⟩ := he
 have hv : ∀ r ∈ E.kills, ∃ a, S.at r = .v a [] := fun r hr => by
  rcases (grp_looks hg).1 with hc | hv
  ·rw [e5 hc] at hr; cases hr
  ·exact hv r (e4 r hr)
 refine ⟨e3, hv, by rw [e1]; exact h3, by rw [e1]; exact h4, e2, fun hk => ?_⟩
 obtain ⟨a, ha⟩ := hv _ hk
 rw [e1] at ha
 rw [ha] at h3
 cases h3
theorem refs_notV {a : AV} {x : Nat} (h : a.refs x = true) : a.isV = false := by cases a <;> first | rfl | (simp [AV.refs] at h)
theorem app_isV {E : Eff} {S : St} (h : E.In S) {i : Nat} (hi : i ≠ E.d) (hv : (S.at i).isV = false) : ((E.app S).at i).isV = false := by
 rw [Eff.app_at h, if_neg hi]
 split
 ·rfl
 ·cases E.kills.any (S.at i).refs with
  | true => rfl
  | false => exact hv
theorem app_notV {E : Eff} {S : St} (h : E.In S) {i : Nat} (hi : i ≠ E.d) (hk : i ∉ E.kills) (hv : ((E.app S).at i).isV = false) : (S.at i).isV = false := by
 rw [Eff.app_at h, if_neg hi, if_neg hk] at hv
 cases ha : E.kills.any (S.at i).refs with
 | true =>
  obtain ⟨x, _, hx⟩ := List.any_eq_true.1 ha
  exact refs_notV hx
 | false => rw [ha] at hv; exact hv
theorem app_v {E : Eff} {S : St} (h : E.In S) {i : Nat} (hi : i ≠ E.d) (hv : (E.app S).at i ≠ .dead) : S.at i = (E.app S).at i := by
 rw [Eff.app_at h, if_neg hi] at hv ⊢
 split at hv
 ·exact absurd rfl hv
 ·rename_i hk
  rw [if_neg hk]
  cases ha : E.kills.any (S.at i).refs with
  | true => rw [ha] at hv; exact absurd rfl hv
  | false => rfl
theorem v_app {E : Eff} {S : St} (h : E.In S) {i : Nat} (hi : i ≠ E.d) (hk : i ∉ E.kills) (hr : ∀ x, (S.at i).refs x = true → x ∉ E.kills) : (E.app S).at i = S.at i := by
 rw [Eff.app_at h, if_neg hi, if_neg hk]
 have : E.kills.any (S.at i).refs = false := List.any_eq_false.2 fun x hx hx2 => hr x hx2 hx
 rw [this]
 rfl
theorem grp_swap (hO : ODet O) {i j : Nat} {oi oj : Oper} (hi : ops[i]? = some oi) (hj : ops[j]? = some oj) (hd : disjB ops oi oj = true) {r : List Nat} {S : St} {K : St → Option Ret} {ret : Ret} (e : peGrp h O ops (i :: j :: r) S K = some ret) : peGrp h O ops (j :: i :: r) S K = some ret := by
 simp only [peGrp, hi, hj] at e ⊢
 cases gi : grpOK O ops S oi with
 | false => rw [gi] at e; cases e
 | true =>
 rw [gi] at e
 simp only [cond_true] at e
 obtain ⟨_, di, hdi, hvi, _⟩ := grp_dst gi
 obtain ⟨oE, E1, E2⟩ := grp_eff (h := h) hO hi gi hdi
 rw [E2 S (fun _ _ => rfl)] at e
 cases oE with
 | none => cases e
 | some E =>
 simp only [Option.bind_some] at e
 have EI := grp_in gi hdi (E1 E rfl)
 obtain ⟨Ed, Er, En, Ek, Ec⟩ := E1 E rfl
 cases gj : grpOK O ops (E.app S) oj with
 | false => rw [gj] at e; cases e
 | true =>
 rw [gj] at e
 simp only [cond_true] at e
 obtain ⟨_, dj, hdj, hvj, _⟩ := grp_dst gj
 obtain ⟨oF, F1, F2⟩ := grp_eff (h := h) hO hj gj hdj
 rw [F2 _ (fun _ _ => rfl)] at e
 cases oF with
 | none => cases e
 | some F =>
 simp only [Option.bind_some] at e
 have FI1 := grp_in gj hdj (F1 F rfl)
 obtain ⟨Fd, Fr, Fn, Fk, Fc⟩ := F1 F rfl
 unfold disjB at hd
 rw [hdi, hdj] at hd
 simp only [Bool.and_eq_true, Bool.not_eq_true', Bool.or_eq_true] at hd
 obtain ⟨⟨⟨d1, d2⟩, d3⟩, d4⟩ := hd
 have d1 : di ≠ dj := fun e => by subst e; rw [Nat.beq_refl] at d1; cases d1
 have d2 : di ∉ looksM ops oj := fun hm => by
  have := List.any_eq_false.1 d2 di hm
  rw [Nat.beq_refl] at this
  exact this rfl
 have d3 : dj ∉ looksM ops oi := fun hm => by
  have := List.any_eq_false.1 d3 dj hm
  rw [Nat.beq_refl] at this
  exact this rfl
 have d5 : ∀ r ∈ looksM ops oi, r ∉ F.kills := fun r hr hk => by
  rcases d4 with d4 | d4
  ·rw [Fc d4.2] at hk; cases hk
  ·have h1 := List.any_eq_false.1 d4 r hr
   have h2 : (looksM ops oj).any (Nat.beq r) = true := List.any_eq_true.2 ⟨r, Fk r hk, Nat.beq_refl r⟩
   exact h1 h2
 have ag1 : Agr (E.app S) S (looksM ops oj) := fun r hr => by
  exact app_v EI (fun e => d2 (by rw [← Ed, ← e]; exact hr)) ((grp_looks gj).2 r hr).1
 have hdjk : dj ∉ E.kills := fun hk => d3 (Ek dj hk)
 have gj0 : grpOK O ops S oj = true := grpOK_agr gj ag1 (Eff.app_len E S).symm (fun d hd => by
  rw [hdj] at hd
  injection hd with hd
  subst hd
  exact app_notV EI (fun e => d1 (by rw [← Ed, ← e])) hdjk hvj)
 have FI := grp_in gj0 hdj (F1 F rfl)
 have ag2 : Agr S (F.app S) (looksM ops oi) := fun r hr => by
  exact v_app FI (fun e => d3 (by rw [← Fd, ← e]; exact hr)) (d5 r hr) fun x hx => d5 x (((grp_looks gi).2 r hr).2 x hx)
 have gi1 : grpOK O ops (F.app S) oi = true := grpOK_agr gi ag2 (Eff.app_len F S) (fun d hd => by
  rw [hdi] at hd
  injection hd with hd
  subst hd
  exact app_isV FI (fun e => d1 (by rw [← Fd, ← e])) hvi)
 have EI1 := grp_in gi1 hdi (E1 E rfl)
 rw [gj0]
 simp only [cond_true]
 rw [F2 S ag1]
 simp only [Option.bind_some]
 rw [gi1]
 simp only [cond_true]
 rw [E2 _ ag2]
 simp only [Option.bind_some]
 rw [Eff.comm EI FI (by rw [Ed, Fd]; exact d1) (fun hk => by rw [Ed] at hk; exact d2 (Fk _ hk)) (fun hk => by rw [Fd] at hk; exact d3 (Ek _ hk)) EI1 FI1]
 exact e
theorem grp_front (hO : ODet O) {j : Nat} {oj : Oper} (hj : ops[j]? = some oj) : ∀ (p r : List Nat) {S : St} {K : St → Option Ret} {ret : Ret}, (∀ x ∈ p, ∃ ox, ops[x]? = some ox ∧ disjB ops ox oj = true) → peGrp h O ops (p ++ j :: r) S K = some ret → peGrp h O ops (j :: (p ++ r)) S K = some ret
 | [], r, S, K, ret, _, e => e
 | x :: p, r, S, K, ret, hp, e => by
  obtain ⟨ox, hox, hdx⟩ := hp x (by simp)
  refine grp_swap hO hox hj hdx ?_
  simp only [List.cons_append] at e
  unfold peGrp at e ⊢
  rw [hox] at e ⊢
  simp only at e ⊢
  cases gx : grpOK O ops S ox with
  | false => rw [gx] at e; cases e
  | true =>
   rw [gx] at e
   simp only [cond_true] at e ⊢
   obtain ⟨o, ho⟩ := peStep_det (h := h) (ops := ops) hO x (fun o' ho' => by
    rw [hox] at ho'
    injection ho' with ho'
    subst ho'
    unfold grpOK at gx
    simp only [Bool.and_eq_true] at gx
    have g2 := gx.2
    split at g2 <;> first | (rename_i hop; rw [hop]; rfl) | cases g2) S
   rw [ho] at e ⊢
   cases o with
   | none => cases e
   | some S1 =>
    simp only [Option.bind_some] at e ⊢
    exact grp_front hO hj p r (fun y hy => hp y (by simp [hy])) e
end Go.Pv
namespace Go.Pv
set_option linter.unusedVariables false
set_option linter.unusedSimpArgs false
variable {h : Hint} {O : Orc} {Θ : Tab} {ops : Array Oper} {ret : Ret}
theorem refs_slots {a : AV} {s : Nat} : a.refs s = true ↔ s ∈ slotsOf a := by
 cases a with
 | al t s' p => simp only [AV.refs, slotsOf, List.mem_singleton, Nat.beq_eq]; exact eq_comm
 | ad t s' p => simp only [AV.refs, slotsOf, List.mem_singleton, Nat.beq_eq]; exact eq_comm
 | cut t s' p lo hi => simp only [AV.refs, slotsOf, List.mem_singleton, Nat.beq_eq]; exact eq_comm
 | clo f caps =>
  simp only [AV.refs, slotsOf, List.any_eq_true, List.mem_filterMap]
  constructor
  ·rintro ⟨c, hc, h⟩
   refine ⟨c, hc, ?_⟩
   cases c with
   | kv b => cases h
   | pl t s' p => simp at h; simp [h]
  ·rintro ⟨c, hc, h⟩
   refine ⟨c, hc, ?_⟩
   cases c with
   | kv b => cases h
   | pl t s' p => simp at h; simp [h]
 | _ => simp [AV.refs, slotsOf]
def Closed (Δ : Nat → Bool) (S : St) : Prop := ∀ i s, (S.at i).refs s = true → Δ i = Δ s
theorem closedL_spec {Δ : Nat → Bool} : ∀ {S : St} {k : Nat}, closedL Δ S k = true ↔ ∀ i s, (S.at i).refs s = true → Δ (k + i) = Δ s
 | [], k => by simp [closedL, St.at, AV.refs]
 | a :: r, k => by
  simp only [closedL, Bool.and_eq_true, List.all_eq_true, beq_iff_eq]
  constructor
  ·rintro ⟨h1, h2⟩ i s hs
   cases i with
   | zero => exact h1 s (refs_slots.1 (by simpa [St.at] using hs))
   | succ i =>
    have := (closedL_spec.1 h2) i s (by simpa [St.at] using hs)
    rw [← this]; congr 1; omega
  ·intro hh
   refine ⟨fun s hs => by simpa using hh 0 s (by simpa [St.at] using refs_slots.2 hs), closedL_spec.2 fun i s hs => ?_⟩
   have := hh (i + 1) s (by simpa [St.at] using hs)
   rw [← this]; congr 1; omega
theorem closedL_iff {Δ : Nat → Bool} {S : St} : closedL Δ S 0 = true ↔ Closed Δ S := by
 rw [closedL_spec]
 simp only [Nat.zero_add, Closed]
def mix (Δ : Nat → Bool) (A B : St) : St := (List.range A.length).map fun i => bif Δ i then A.at i else B.at i
theorem at_ge {S : St} {i : Nat} (h : S.length ≤ i) : S.at i = .dead := by
 unfold St.at
 rw [List.getD_eq_getElem?_getD, List.getElem?_eq_none h]; rfl
theorem mix_len (Δ : Nat → Bool) (A B : St) : (mix Δ A B).length = A.length := by simp [mix]
theorem mix_at {Δ : Nat → Bool} {A B : St} (hl : B.length = A.length) (i : Nat) : (mix Δ A B).at i = bif Δ i then A.at i else B.at i := by
 by_cases hi : i < A.length
 ·unfold mix
  conv => lhs; unfold St.at
  rw [List.getD_eq_getElem?_getD, List.getElem?_map, List.getElem?_range hi]
  rfl
 ·rw [at_ge (by rw [mix_len]; omega), at_ge (S := A) (by omega), at_ge (S := B) (by omega)]
  cases Δ i <;> rfl
theorem mix_in {Δ : Nat → Bool} {A B : St} (hl : B.length = A.length) {i : Nat} (hi : Δ i = true) : (mix Δ A B).at i = A.at i := by rw [mix_at hl, hi]; rfl
theorem mix_self (Δ : Nat → Bool) (S : St) : mix Δ S S = S := st_ext (mix_len _ _ _) fun i => by rw [mix_at rfl]; cases Δ i <;> rfl
theorem mix_not {Δ : Nat → Bool} {A B : St} (hl : B.length = A.length) : mix (fun i => !Δ i) B A = mix Δ A B := st_ext (by rw [mix_len, mix_len, hl]) fun i => by
 rw [mix_at hl, mix_at hl.symm]; cases Δ i <;> rfl
theorem Closed.not {Δ : Nat → Bool} {S : St} (h : Closed Δ S) : Closed (fun i => !Δ i) S := fun i s hs => by simp only [h i s hs]
section
variable {Δ : Nat → Bool} {A B : St}
theorem out_noref (hB : Closed Δ B) {i d : Nat} (hi : Δ i = false) (hd : Δ d = true) : (B.at i).refs d = false := by
 cases hr : (B.at i).refs d with
 | false => rfl
 | true => have := hB i d hr; rw [hi, hd] at this; cases this
theorem mix_put (hl : B.length = A.length) (hB : Closed Δ B) {d : Nat} (hd : Δ d = true) (a : AV) : (mix Δ A B).put (some d) a = mix Δ (A.put (some d) a) B := by
 refine st_ext (by rw [put_len', mix_len, mix_len, put_len']) fun i => ?_
 rw [mix_at (by rw [put_len', hl]), put_at, put_at, mix_len, mix_at hl, mix_in hl hd]
 cases hi : Δ i with
 | true => rfl
 | false =>
  have hid : ¬ (i = d ∧ d < A.length) := fun e => by rw [e.1, hd] at hi; cases hi
  rw [if_neg hid]
  simp only [cond_false]
  rw [out_noref hB hi hd]; rfl
theorem mix_set (hl : B.length = A.length) {d : Nat} (hd : Δ d = true) (a : AV) : (mix Δ A B).set d a = mix Δ (A.set d a) B := by
 refine st_ext (by rw [List.length_set, mix_len, mix_len, List.length_set]) fun i => ?_
 rw [mix_at (by rw [List.length_set, hl]), at_set, at_set, mix_len, mix_at hl]
 cases hi : Δ i with
 | true => rfl
 | false =>
  have hid : ¬ (i = d ∧ d < A.length) := fun e => by rw [e.1, hd] at hi; cases hi
  rw [if_neg hid]
  rfl
theorem frail_refs {a : AV} {d : Nat} (h : a.refs d = false) : a.frail d = false := by
 cases a with
 | al t s p => simp only [AV.refs] at h; simp only [AV.frail, h]; rfl
 | ad t s p => simp only [AV.refs] at h; simp only [AV.frail, h]; rfl
 | cut t s p lo hi => simpa only [AV.refs, AV.frail] using h
 | clo f caps =>
  simp only [AV.refs, AV.frail, List.any_eq_false] at h ⊢
  intro c hc
  have := h c hc
  cases c with
  | kv b => simp
  | pl t s p => cases p <;> simp_all
 | _ => rfl
theorem mix_weaken (hl : B.length = A.length) (hB : Closed Δ B) {d : Nat} (hd : Δ d = true) : (mix Δ A B).weaken d = mix Δ (A.weaken d) B := by
 refine st_ext (by simp [St.weaken, mix_len]) fun i => ?_
 rw [mix_at (by simp [St.weaken, hl]), at_weaken, at_weaken, mix_at hl]
 cases hi : Δ i with
 | true => rfl
 | false => simp only [cond_false]; rw [frail_refs (out_noref hB hi hd)]; rfl
theorem at_cover' (S : St) (d : Nat) (p : Path) (i : Nat) : (S.cover d p).at i = match S.at i with
  | .ad t s q => bif Nat.beq s d && under p q then .dead else .ad t s q
  | a => a := at_map S _ rfl i
theorem mix_cover (hl : B.length = A.length) (hB : Closed Δ B) {d : Nat} (hd : Δ d = true) (p : Path) : (mix Δ A B).cover d p = mix Δ (A.cover d p) B := by
 refine st_ext (by simp [St.cover, mix_len]) fun i => ?_
 rw [mix_at (by simp [St.cover, hl]), at_cover', at_cover', mix_at hl]
 cases hi : Δ i with
 | true => rfl
 | false =>
  simp only [cond_false]
  have := out_noref hB hi hd
  cases hb : B.at i with
  | ad t s q => rw [hb] at this; simp only [AV.refs] at this; simp only [this]; rfl
  | _ => rfl
theorem bif_refs {c : Bool} {a : AV} {s : Nat} (h : (bif c then AV.dead else a).refs s = true) : a.refs s = true := by
 cases c with
 | true => simp [AV.refs] at h
 | false => exact h
theorem closed_put (hA : Closed Δ A) {d : Nat} (hd : Δ d = true) {a : AV} (ha : ∀ s, a.refs s = true → Δ s = true) : Closed Δ (A.put (some d) a) := fun i s hs => by
 rw [put_at] at hs
 split at hs
 ·rename_i hi
  rw [hi.1, hd]
  exact (ha s (bif_refs hs)).symm
 ·exact hA i s (bif_refs hs)
theorem closed_set (hA : Closed Δ A) {d : Nat} (hd : Δ d = true) {a : AV} (ha : ∀ s, a.refs s = true → Δ s = true) : Closed Δ (A.set d a) := fun i s hs => by
 rw [at_set] at hs
 split at hs
 ·rename_i hi
  rw [hi.1, hd]
  exact (ha s hs).symm
 ·exact hA i s hs
theorem closed_weaken (hA : Closed Δ A) (d : Nat) : Closed Δ (A.weaken d) := fun i s hs => by
 rw [at_weaken] at hs
 exact hA i s (bif_refs hs)
theorem closed_cover (hA : Closed Δ A) (d : Nat) (p : Path) : Closed Δ (A.cover d p) := fun i s hs => by
 rw [at_cover'] at hs
 refine hA i s ?_
 cases hb : A.at i with
 | ad t s' q => rw [hb] at hs; exact bif_refs hs
 | _ => rw [hb] at hs; exact hs
theorem opv_mix (hl : B.length = A.length) {x : Operand} (hx : inD Δ x = true) (T : TypeId) : (mix Δ A B).opv Θ T x = A.opv Θ T x := by
 cases x with
 | tmp i => simp only [St.opv]; rw [mix_in hl hx]
 | _ => rfl
theorem opv_refs (hA : Closed Δ A) {x : Operand} (hx : inD Δ x = true) {T : TypeId} {a : AV} (e : A.opv Θ T x = some a) : ∀ s, a.refs s = true → Δ s = true := fun s hs => by
 cases x with
 | tmp i =>
  simp only [St.opv, Option.some.injEq] at e
  subst e
  rw [← hA i s hs]; exact hx
 | const c =>
  simp only [St.opv] at e
  split at e
  ·injection e with e; subst e; simp [AV.refs] at hs
  ·cases e
 | func f =>
  simp only [St.opv, Option.some.injEq] at e
  subst e
  simp [AV.refs] at hs
 | global g => cases e
theorem place_mix (hl : B.length = A.length) {s : Nat} (hs : Δ s = true) (p : Path) : (mix Δ A B).place s p = A.place s p := by unfold St.place; rw [mix_in hl hs]
theorem glance_mix (hl : B.length = A.length) {s : Nat} (hs : Δ s = true) (p : Path) : (mix Δ A B).glance s p = A.glance s p := by unfold St.glance; rw [mix_in hl hs]
theorem refs_al {t : Ty} {s : Nat} {p : Path} : (AV.al t s p).refs s = true := by simp [AV.refs]
theorem refs_ad {t : Ty} {s : Nat} {p : Path} : (AV.ad t s p).refs s = true := by simp [AV.refs]
theorem refs_cut {t : Ty} {s : Nat} {p : Path} {lo hi : Nat} : (AV.cut t s p lo hi).refs s = true := by simp [AV.refs]
theorem rdA_mix (hl : B.length = A.length) {a : AV} (ha : ∀ s, a.refs s = true → Δ s = true) : (mix Δ A B).rdA a = A.rdA a := by
 cases a with
 | al t s p => simp only [St.rdA]; exact place_mix hl (ha s refs_al) p
 | cut t s p lo hi => simp only [St.rdA]; rw [place_mix hl (ha s refs_cut) p]
 | v b ex => cases ex <;> rfl
 | _ => rfl
theorem rd_mix (hl : B.length = A.length) (hA : Closed Δ A) {x : Operand} (hx : inD Δ x = true) (T : TypeId) : (mix Δ A B).rd Θ T x = A.rd Θ T x := by
 unfold St.rd
 rw [opv_mix hl hx]
 cases e : A.opv Θ T x with
 | none => rfl
 | some a => exact rdA_mix hl (opv_refs hA hx e)
theorem rdInt_mix (hl : B.length = A.length) (hA : Closed Δ A) {x : Operand} (hx : inD Δ x = true) : (mix Δ A B).rdInt Θ x = A.rdInt Θ x := by
 unfold St.rdInt
 rw [rd_mix hl hA hx]
theorem v_norefs {b : TV} {ex : List Path} : ∀ s, (AV.v b ex).refs s = true → Δ s = true := fun s hs => by simp [AV.refs] at hs
def Mx (Δ : Nat → Bool) (A B : St) {α : Type} (X Y : Option (α × St)) : Prop := Y = X.map (fun q => (q.1, mix Δ q.2 B)) ∧ ∀ q, X = some q → Closed Δ q.2 ∧ q.2.length = A.length
theorem mx_none {α : Type} : Mx Δ A B (α := α) none none := ⟨rfl, fun _ h => by cases h⟩
theorem mx_some {α : Type} {c : α} {A1 S1 : St} (h : S1 = mix Δ A1 B) (hc : Closed Δ A1) (hl : A1.length = A.length) : Mx Δ A B (some (c, A1)) (some (c, S1)) := ⟨by rw [h]; rfl, fun q hq => by injection hq with hq; subst hq; exact ⟨hc, hl⟩⟩
theorem mx_put {α : Type} {c : α} {d : Nat} {a : AV} (hl : B.length = A.length) (hB : Closed Δ B) {A1 : St} (hA : Closed Δ A1) (hl1 : A1.length = A.length) (hd : Δ d = true) (ha : ∀ s, a.refs s = true → Δ s = true) :
  Mx Δ A B (some (c, A1.put (some d) a)) (some (c, (mix Δ A1 B).put (some d) a)) := mx_some (mix_put (by rw [hl, hl1]) hB hd a) (closed_put hA hd ha) (by rw [put_len', hl1])
theorem takeA_mix (hl : B.length = A.length) (hA : Closed Δ A) (hB : Closed Δ B) {x : Operand} (hx : inD Δ x = true) {a : AV} (ha : ∀ s, a.refs s = true → Δ s = true) : Mx Δ A B (A.takeA x a) ((mix Δ A B).takeA x a) := by
 have hdead : ∀ s, AV.dead.refs s = true → Δ s = true := fun s hs => by simp [AV.refs] at hs
 cases a with
 | v b ex =>
  simp only [St.takeA]
  cases b.m.isK with
  | true => exact mx_some rfl hA rfl
  | false =>
   simp only [cond_false]
   cases ex with
   | nil =>
    cases x with
    | tmp i => exact mx_put hl hB hA rfl hx hdead
    | const c => exact mx_some rfl hA rfl
    | func f => exact mx_some rfl hA rfl
    | global g => exact mx_some rfl hA rfl
   | cons _ _ => cases x <;> exact mx_none
 | al t s p =>
  have hs := ha s refs_al
  simp only [St.takeA]
  rw [place_mix hl hs]
  cases hp : A.place s p with
  | none => exact mx_none
  | some b =>
   simp only
   cases b.m.isK with
   | true => exact mx_some rfl hA rfl
   | false =>
    simp only [cond_false]
    cases p with
    | nil => exact mx_put hl hB hA rfl hs hdead
    | cons st pp =>
     rw [mix_in hl hs]
     cases A.at s with
     | v r ex =>
      have h1 := closed_cover (closed_weaken hA s) s (st :: pp)
      have l1 : B.length = (A.weaken s).length := by simp [St.weaken, hl]
      have l2 : B.length = ((A.weaken s).cover s (st :: pp)).length := by simp [St.weaken, St.cover, hl]
      refine mx_some ?_ (closed_set h1 hs v_norefs) (by simp [St.weaken, St.cover])
      rw [mix_weaken hl hB hs, mix_cover l1 hB hs, mix_set l2 hs]
     | _ => exact mx_none
 | cut t s p lo hi =>
  have hs := ha s refs_cut
  cases p with
  | cons _ _ => exact mx_none
  | nil =>
   simp only [St.takeA]
   rw [place_mix hl hs]
   split
   ·cases Nat.beq lo 0 with
    | true => exact mx_put hl hB hA rfl hs hdead
    | false => exact mx_none
   ·exact mx_none
 | _ => exact mx_none
theorem take_mix (hl : B.length = A.length) (hA : Closed Δ A) (hB : Closed Δ B) {x : Operand} (hx : inD Δ x = true) (T : TypeId) : Mx Δ A B (A.take Θ T x) ((mix Δ A B).take Θ T x) := by
 unfold St.take
 rw [opv_mix hl hx]
 cases e : A.opv Θ T x with
 | none => exact mx_none
 | some a => exact takeA_mix hl hA hB hx (opv_refs hA hx e)
theorem parts_mix (hB : Closed Δ B) {ps : List (Nat × Operand)} (hx : ∀ q ∈ ps, inD Δ q.2 = true) : ∀ (r : List TypeId) (j : Nat) {A : St}, B.length = A.length → Closed Δ A → Mx Δ A B (A.parts Θ ps r j) ((mix Δ A B).parts Θ ps r j)
 | [], j, A, hl, hA => mx_some rfl hA rfl
 | T :: r, j, A, hl, hA => by
  simp only [St.parts]
  cases hf : ps.find? (fun q => Nat.beq q.1 j) with
  | some q =>
   simp only
   obtain ⟨h1, h2⟩ := take_mix (Θ := Θ) hl hA hB (hx q (List.mem_of_find?_eq_some hf)) T
   rw [h1]
   cases ht : A.take Θ T q.2 with
   | none => exact mx_none
   | some b =>
    obtain ⟨b, A1⟩ := b
    obtain ⟨c1, c2⟩ := h2 _ ht
    simp only [Option.map_some]
    obtain ⟨k1, k2⟩ := parts_mix hB hx r (j + 1) (by rw [c2, hl]) c1
    rw [k1]
    cases hp : St.parts Θ A1 ps r (j + 1) with
    | none => exact mx_none
    | some l =>
     obtain ⟨d1, d2⟩ := k2 _ hp
     exact mx_some rfl d1 (by rw [d2, c2])
  | none =>
   simp only
   cases zeroTV Θ T with
   | none => exact mx_none
   | some z =>
    simp only
    obtain ⟨k1, k2⟩ := parts_mix hB hx r (j + 1) hl hA
    rw [k1]
    cases hp : St.parts Θ A ps r (j + 1) with
    | none => exact mx_none
    | some l =>
     obtain ⟨d1, d2⟩ := k2 _ hp
     exact mx_some rfl d1 d2
end
end Go.Pv
namespace Go.Pv
set_option linter.unusedVariables false
set_option linter.unusedSimpArgs false
variable {h : Hint} {O : Orc} {Θ : Tab} {hn : Hn} {ops : Array Oper} {ret : Ret} {Δ : Nat → Bool} {A B : St}
theorem copy_same (S S' : St) (x : Operand) (a : AV) : S.copy x a = S'.copy x a := by cases a <;> rfl
theorem copy_refs {x : Operand} (hx : inD Δ x = true) {a a' : AV} (ha : ∀ s, a.refs s = true → Δ s = true) (e : A.copy x a = some a') : ∀ s, a'.refs s = true → Δ s = true := fun s hs => by
 cases a with
 | v b ex =>
  simp only [St.copy] at e
  cases hk : b.m.isK with
  | true => rw [hk] at e; simp only [cond_true, Option.some.injEq] at e; subst e; simp [AV.refs] at hs
  | false =>
   rw [hk] at e
   simp only [cond_false] at e
   cases x with
   | tmp i =>
    simp only [Option.some.injEq] at e
    subst e
    simp only [AV.refs, Nat.beq_eq] at hs
    subst hs
    exact hx
   | _ =>
    simp only at e
    split at e
    ·injection e with e; subst e; simp [AV.refs] at hs
    ·cases e
 | tup l => cases e
 | dead => cases e
 | _ => simp only [St.copy, Option.some.injEq] at e; subst e; exact ha s hs
theorem tgt_mix (hl : B.length = A.length) {x : Operand} {a : AV} (ha : ∀ s, a.refs s = true → Δ s = true) : (mix Δ A B).tgt x a = A.tgt x a := by
 cases a with
 | v b ex =>
  obtain ⟨t, m, y⟩ := b
  cases t <;> cases m <;> cases ex <;> rfl
 | al t s p =>
  cases t with
  | ptr t => simp only [St.tgt]; rw [glance_mix hl (ha s refs_al)]
  | _ => rfl
 | _ => rfl
theorem tgt_refs {x : Operand} (hx : inD Δ x = true) {a : AV} (ha : ∀ s, a.refs s = true → Δ s = true) {t : Ty} {s : Nat} {p : Path} (e : A.tgt x a = some (.pl t s p)) : Δ s = true := by
 cases a with
 | v b ex =>
  obtain ⟨t', m, y⟩ := b
  simp only [St.tgt] at e
  split at e
  ·rename_i heq
   injection heq with h1 h2
   split at e
   ·cases e
   ·injection e with e; injection e with _ e _; subst e; exact hx
   ·cases e
  ·split at e
   ·injection e with e; injection e with _ e _; subst e; exact hx
   ·cases e
  all_goals first | (rename_i heq; cases heq; done) | (cases e; done)
 | al t' s' p' =>
  simp only [St.tgt] at e
  split at e
  ·rename_i heq; cases heq
  ·rename_i heq; cases heq
  ·rename_i heq
   injection heq with h1 h2 h3
   subst h2
   split at e
   ·cases e
   ·injection e with e; injection e with _ e _; subst e; exact ha _ refs_al
   ·cases e
  ·rename_i heq; cases heq
  ·cases e
 | ad t' s' p' =>
  simp only [St.tgt, Option.some.injEq, Tgt.pl.injEq] at e
  rw [← e.2.1]; exact ha _ refs_ad
 | _ => simp [St.tgt] at e
theorem loadAt_mix (hl : B.length = A.length) {g : Tgt} (hg : ∀ t s p, g = .pl t s p → Δ s = true) : (mix Δ A B).loadAt g = A.loadAt g := by
 cases g with
 | k a => rfl
 | pl t s p => simp only [St.loadAt]; rw [glance_mix hl (hg t s p rfl), place_mix hl (hg t s p rfl)]
theorem loadAt_refs {g : Tgt} (hg : ∀ t s p, g = .pl t s p → Δ s = true) {a : AV} (e : A.loadAt g = some a) : ∀ s, a.refs s = true → Δ s = true := fun s hs => by
 cases g with
 | k b => simp only [St.loadAt, Option.some.injEq] at e; subst e; simp [AV.refs] at hs
 | pl t s' p =>
  simp only [St.loadAt] at e
  split at e
  case h_2 => cases e
  rename_i b hb
  cases hk : b.m.isK with
  | true =>
   rw [hk] at e
   simp only [cond_true] at e
   split at e
   ·injection e with e; subst e; simp [AV.refs] at hs
   ·cases e
  | false =>
   rw [hk] at e
   simp only [cond_false, Option.some.injEq] at e
   subst e
   simp only [AV.refs, Nat.beq_eq] at hs
   subst hs
   exact hg _ _ _ rfl
section
variable (hl : B.length = A.length) (hA : Closed Δ A) (hB : Closed Δ B) {d : Nat} (hd : Δ d = true)
include hl hA hB hd
theorem alloc_mix (T : TypeId) : Mx Δ A B (evAlloc Θ hn A (some d) T) (evAlloc Θ hn (mix Δ A B) (some d) T) := by
 unfold evAlloc
 cases zeroTV Θ T with
 | none => exact mx_none
 | some z =>
  simp only
  cases zfit z.t (hn.find (some d) z.m) with
  | true => exact mx_put hl hB hA rfl hd v_norefs
  | false => exact mx_none
theorem load_mix (T : TypeId) {x : Operand} (hx : inD Δ x = true) : Mx Δ A B (evLoad Θ A (some d) T x) (evLoad Θ (mix Δ A B) (some d) T x) := by
 unfold evLoad
 rw [opv_mix hl hx]
 cases e : A.opv Θ 0 x with
 | none => exact mx_none
 | some a =>
  simp only
  have ha := opv_refs hA hx e
  rw [tgt_mix hl ha]
  cases et : A.tgt x a with
  | none => exact mx_none
  | some g =>
   simp only
   have hg : ∀ t s p, g = .pl t s p → Δ s = true := fun t s p eg => by subst eg; exact tgt_refs hx ha et
   rw [loadAt_mix hl hg]
   cases el : A.loadAt g with
   | none => exact mx_none
   | some r =>
    simp only
    cases (fitR g.ty r && Θ.is T g.ty) with
    | true => exact mx_put hl hB hA rfl hd (loadAt_refs hg el)
    | false => exact mx_none
theorem move_mix (T : TypeId) {x : Operand} (hx : inD Δ x = true) : Mx Δ A B (evMove Θ A (some d) T x) (evMove Θ (mix Δ A B) (some d) T x) := by
 unfold evMove
 rw [opv_mix hl hx, mix_len]
 have hdead : ∀ s, AV.dead.refs s = true → Δ s = true := fun s hs => by simp [AV.refs] at hs
 cases e : A.opv Θ T x with
 | none => exact mx_none
 | some a =>
  have ha := opv_refs hA hx e
  cases a with
  | tup l =>
   cases x with
   | tmp i =>
    simp only
    cases (Nat.beq d i || !Nat.blt d A.length) with
    | true => exact mx_none
    | false =>
     simp only [cond_false]
     have h1 : (mix Δ A B).put (some i) .dead = mix Δ (A.put (some i) .dead) B := mix_put hl hB hx .dead
     rw [h1]
     exact mx_put hl hB (closed_put hA hx hdead) (put_len' _ _ _) hd (fun s hs => by simp [AV.refs] at hs)
   | _ => exact mx_none
  | _ =>
   simp only
   rw [copy_same (mix Δ A B) A]
   split
   ·rename_i a' hc
    exact mx_put hl hB hA rfl hd (copy_refs hx ha hc)
   ·exact mx_none
theorem extract_mix {x : Operand} (hx : inD Δ x = true) (j : Nat) : Mx Δ A B (evExtract A (some d) x j) (evExtract (mix Δ A B) (some d) x j) := by
 unfold evExtract
 cases x with
 | tmp i =>
  simp only
  rw [mix_in hl hx]
  split
  ·rename_i l hi
   split
   ·rename_i a ha
    cases a.m.isK with
    | true => exact mx_put hl hB hA rfl hd v_norefs
    | false =>
     simp only [cond_false]
     cases Nat.beq d i with
     | true => exact mx_none
     | false =>
      simp only [cond_false]
      have h1 : (mix Δ A B).set i (.tup (l.set j none)) = mix Δ (A.set i (.tup (l.set j none))) B := mix_set hl hx _
      rw [h1]
      exact mx_put hl hB (closed_set hA hx (fun s hs => by simp [AV.refs] at hs)) (by simp) hd v_norefs
   ·exact mx_none
  ·exact mx_none
 | _ => exact mx_none
theorem buildSlice_mix (T : TypeId) (n : Nat) {ps : List (Nat × Operand)} (hx : ∀ q ∈ ps, inD Δ q.2 = true) : Mx Δ A B (evBuildSlice Θ hn A (some d) T n ps) (evBuildSlice Θ hn (mix Δ A B) (some d) T n ps) := by
 unfold evBuildSlice
 split
 ·cases (placesB n ps && Nat.ble n 1800) with
  | false => exact mx_none
  | true =>
   simp only [cond_true]
   rename_i t e fs _
   obtain ⟨k1, k2⟩ := parts_mix (Θ := Θ) hB hx (List.replicate n e) 0 hl hA
   rw [k1]
   cases hp : St.parts Θ A ps (List.replicate n e) 0 with
   | none => exact mx_none
   | some q =>
    obtain ⟨l, A1⟩ := q
    obtain ⟨c1, c2⟩ := k2 _ hp
    simp only [Option.map_some]
    cases l with
    | nil => exact mx_put hl hB c1 c2 hd v_norefs
    | cons a l =>
     simp only
     cases listOf t a.m (a :: l) with
     | none => exact mx_none
     | some xs => exact mx_put hl hB c1 c2 hd v_norefs
 ·exact mx_none
theorem append_mix {ts : List TypeId} {as : List Operand} (hx : ∀ x ∈ as, inD Δ x = true) : Mx Δ A B (evAppend Θ A (some d) ts as) (evAppend Θ (mix Δ A B) (some d) ts as) := by
 unfold evAppend
 split
 ·rename_i x y T T'
  obtain ⟨k1, k2⟩ := take_mix (Θ := Θ) hl hA hB (hx x (by simp)) T
  rw [k1]
  cases ht : A.take Θ T x with
  | none => exact mx_none
  | some q =>
   obtain ⟨⟨t, m, xs⟩, A1⟩ := q
   obtain ⟨c1, c2⟩ := k2 _ ht
   have hl1 : B.length = A1.length := by rw [c2, hl]
   simp only [Option.map_some]
   cases t with
   | sl t =>
    cases m with
    | o e tag me =>
     cases hf : Θ.find T with
     | none => exact mx_none
     | some i =>
      simp only
      cases (decide (i.ty = .sl t) && Nat.beq i.e e && Θ.is T' (.sl t)) with
      | false => exact mx_none
      | true =>
       simp only [cond_true]
       cases me.isK with
       | true =>
        simp only [cond_true]
        rw [rd_mix hl1 c1 (hx y (by simp))]
        split
        ·rename_i t' m' ys _
         cases m'.inn.isK with
         | false => exact mx_none
         | true =>
          simp only [cond_true]
          split
          ·exact mx_put hl hB c1 c2 hd v_norefs
          ·exact mx_none
        ·exact mx_none
       | false =>
        simp only [cond_false]
        obtain ⟨j1, j2⟩ := take_mix (Θ := Θ) hl1 c1 hB (hx y (by simp)) T'
        rw [j1]
        cases hy : A1.take Θ T' y with
        | none => exact mx_none
        | some q =>
         obtain ⟨⟨t', m', ys⟩, A2⟩ := q
         obtain ⟨d1, d2⟩ := j2 _ hy
         simp only [Option.map_some]
         cases t' with
         | sl t' =>
          simp only
          split
          ·split
           ·exact mx_put hl hB d1 (by rw [d2, c2]) hd v_norefs
           ·exact mx_none
          ·exact mx_none
         | _ => exact mx_none
    | _ => exact mx_none
   | _ => exact mx_none
 ·exact mx_none
theorem appendC_mix {ts : List TypeId} {as : List Operand} (hx : ∀ x ∈ as, inD Δ x = true) : Mx Δ A B (evAppendC Θ A (some d) ts as) (evAppendC Θ (mix Δ A B) (some d) ts as) := by
 unfold evAppendC
 split
 ·rename_i x y T T'
  rw [opv_mix hl (hx x (by simp))]
  split
  ·rename_i t s st pp hav
   have hs := opv_refs hA (hx x (by simp)) hav s refs_al
   rw [mix_in hl hs]
   split
   ·rename_i r ex hat
    split
    ·rename_i t e tag me xs i _ _
     cases (decide (i.ty = .sl t) && Nat.beq i.e e && Θ.is T' (.sl t) && me.isK) with
     | false => exact mx_none
     | true =>
      simp only [cond_true]
      have l1 : B.length = (A.weaken s).length := by simp [St.weaken, hl]
      have l2 : B.length = ((A.weaken s).cover s (st :: pp)).length := by simp [St.weaken, St.cover, hl]
      have l3 : B.length = (((A.weaken s).cover s (st :: pp)).set s (.v r (ex ++ [st :: pp]))).length := by simp [St.weaken, St.cover, hl]
      have e1 : List.set (((mix Δ A B).weaken s).cover s (st :: pp)) s (.v r (ex ++ [st :: pp])) = mix Δ (((A.weaken s).cover s (st :: pp)).set s (.v r (ex ++ [st :: pp]))) B := by
       rw [mix_weaken hl hB hs, mix_cover l1 hB hs, mix_set l2 hs]
      have c1 : Closed Δ (((A.weaken s).cover s (st :: pp)).set s (.v r (ex ++ [st :: pp]))) := closed_set (closed_cover (closed_weaken hA s) s _) hs v_norefs
      rw [e1, rd_mix l3 c1 (hx y (by simp))]
      split
      ·rename_i t' m' ys _
       cases m'.inn.isK with
       | false => exact mx_none
       | true =>
        simp only [cond_true]
        split
        ·exact mx_put hl hB c1 (by simp [St.weaken, St.cover]) hd v_norefs
        ·exact mx_none
      ·exact mx_none
    ·exact mx_none
   ·exact mx_none
  ·exact mx_none
 ·exact mx_none
theorem bin_mix (op : BinOp) (T : TypeId) {x y : Operand} (hx : inD Δ x = true) (hy : inD Δ y = true) : Mx Δ A B (evBin Θ A (some d) op T x y) (evBin Θ (mix Δ A B) (some d) op T x y) := by
 unfold evBin
 rw [rd_mix hl hA hx, rd_mix hl hA hy]
 have fin : ∀ a b : TV, Mx Δ A B (match binTV op a b with
   | some (g, r) => some (g, A.put (some d) (.v r []))
   | none => none) (match binTV op a b with
   | some (g, r) => some (g, (mix Δ A B).put (some d) (.v r []))
   | none => none) := fun a b => by
  cases binTV op a b with
  | none => exact mx_none
  | some q => exact mx_put hl hB hA rfl hd v_norefs
 cases A.rd Θ T x with
 | none => exact mx_none
 | some a =>
  cases A.rd Θ T y with
  | none => exact mx_none
  | some b =>
   simp only
   split
   ·cases Θ.is T .bool with
    | true => exact fin a b
    | false => exact mx_none
   ·cases Θ.is T a.t with
    | true => exact fin a b
    | false => exact mx_none
   ·exact fin a b
theorem fieldAddr_mix (T : TypeId) {x : Operand} (hx : inD Δ x = true) (f : Nat) : Mx Δ A B (evFieldAddr Θ A (some d) T x f) (evFieldAddr Θ (mix Δ A B) (some d) T x f) := by
 unfold evFieldAddr
 rw [opv_mix hl hx]
 cases e : A.opv Θ 0 x with
 | none => exact mx_none
 | some a =>
  have ha := opv_refs hA hx e
  cases Θ.find T with
  | none => exact mx_none
  | some i =>
   simp only
   cases Nat.blt f i.fs.length with
   | false => exact mx_none
   | true =>
    simp only [cond_true]
    rw [tgt_mix hl ha]
    cases et : A.tgt x a with
    | none => exact mx_none
    | some g =>
     cases g with
     | k b =>
      obtain ⟨t, m, y⟩ := b
      simp only
      cases decide (i.ty = t) with
      | false => exact mx_none
      | true =>
       simp only [cond_true]
       split
       ·exact mx_put hl hB hA rfl hd v_norefs
       ·exact mx_none
     | pl t s p =>
      have hs := tgt_refs hx ha et
      simp only
      cases decide (i.ty = t) with
      | false => exact mx_none
      | true =>
       simp only [cond_true]
       rw [glance_mix hl hs]
       split
       ·exact mx_put hl hB hA rfl hd (fun s' h' => by simp only [AV.refs, Nat.beq_eq] at h'; rw [← h']; exact hs)
       ·exact mx_none
theorem indexAddr_mix (T : TypeId) {x ix : Operand} (hx : inD Δ x = true) (hi : inD Δ ix = true) : Mx Δ A B (evIndexAddr Θ A (some d) T x ix) (evIndexAddr Θ (mix Δ A B) (some d) T x ix) := by
 unfold evIndexAddr
 rw [opv_mix hl hx, rdInt_mix hl hA hi]
 have hr : ∀ {t : Ty} {s : Nat} {p : Path}, Δ s = true → ∀ s', (AV.ad t s p).refs s' = true → Δ s' = true := fun hs s' h' => by simp only [AV.refs, Nat.beq_eq] at h'; rw [← h']; exact hs
 split
 ·rename_i t m xs ex n hav _
  cases Θ.is T (.sl t) with
  | false => exact mx_none
  | true =>
   simp only [cond_true]
   split
   ·exact mx_put hl hB hA rfl hd v_norefs
   ·rename_i j
    rw [glance_mix hl hx]
    split
    ·exact mx_put hl hB hA rfl hd (hr hx)
    ·exact mx_none
   ·exact mx_none
 ·rename_i t s p n hav _
  have hs := opv_refs hA hx hav s refs_al
  cases Θ.is T (.sl t) with
  | false => exact mx_none
  | true =>
   simp only [cond_true]
   rw [glance_mix hl hs, glance_mix hl hs]
   split
   ·exact mx_put hl hB hA rfl hd v_norefs
   ·split
    ·exact mx_put hl hB hA rfl hd (hr hs)
    ·exact mx_none
   ·exact mx_none
 ·exact mx_none
theorem makeSlice_mix (T : TypeId) {l c : Operand} (hx : inD Δ l = true) (hc : inD Δ c = true) : Mx Δ A B (evMakeSlice Θ A (some d) T l c) (evMakeSlice Θ (mix Δ A B) (some d) T l c) := by
 unfold evMakeSlice
 rw [rdInt_mix hl hA hx, rdInt_mix hl hA hc]
 split
 ·split
  ·split
   ·exact mx_put hl hB hA rfl hd v_norefs
   ·exact mx_none
  ·exact mx_none
 ·exact mx_none
theorem convert_mix (T T' : TypeId) {x : Operand} (hx : inD Δ x = true) : Mx Δ A B (evConvert Θ A (some d) T T' x) (evConvert Θ (mix Δ A B) (some d) T T' x) := by
 unfold evConvert
 rw [rd_mix hl hA hx]
 split
 ·exact mx_put hl hB hA rfl hd v_norefs
 ·exact mx_put hl hB hA rfl hd v_norefs
 ·exact mx_none
end
theorem store_mix (hl : B.length = A.length) (hA : Closed Δ A) (hB : Closed Δ B) (T : TypeId) {x y : Operand} (hx : inD Δ x = true) (hy : inD Δ y = true) : Mx Δ A B (evStore Θ A T x y) (evStore Θ (mix Δ A B) T x y) := by
 unfold evStore
 rw [opv_mix hl hx]
 cases e : A.opv Θ 0 x with
 | none => exact mx_none
 | some a =>
  have ha := opv_refs hA hx e
  simp only
  rw [tgt_mix hl ha]
  cases et : A.tgt x a with
  | none => exact mx_none
  | some g =>
   cases g with
   | k b => exact mx_none
   | pl t s p =>
    have hs := tgt_refs hx ha et
    simp only
    obtain ⟨k1, k2⟩ := take_mix (Θ := Θ) hl hA hB hy T
    rw [k1]
    cases ht : A.take Θ T y with
    | none => exact mx_none
    | some q =>
     obtain ⟨b, A1⟩ := q
     obtain ⟨c1, c2⟩ := k2 _ ht
     have hl1 : B.length = A1.length := by rw [c2, hl]
     simp only [Option.map_some]
     cases Θ.is T b.t with
     | false => exact mx_none
     | true =>
      simp only [cond_true]
      rw [mix_in hl1 hs]
      cases A1.at s with
      | v r ex =>
       simp only
       cases setP b p r.t r.m r.x with
       | none => exact mx_none
       | some mz =>
        simp only
        cases ex.all (fun h => !under h p) with
        | false => exact mx_none
        | true =>
         simp only [cond_true]
         have l2 : B.length = (A1.weaken s).length := by simp [St.weaken, hl1]
         refine mx_some ?_ (closed_set (closed_weaken c1 s) hs v_norefs) (by simp [St.weaken, c2])
         rw [mix_weaken hl1 hB hs, mix_set l2 hs]
      | _ => exact mx_none
theorem shadow_mix (hl : B.length = A.length) (hA : Closed Δ A) (hB : Closed Δ B) (T : TypeId) {y : Operand} (hy : inD Δ y = true) {A1 : St} (hl1 : A1.length = A.length) (hA1 : Closed Δ A1) :
  shadow Θ (mix Δ A B) (mix Δ A1 B) T y = mix Δ (shadow Θ A A1 T y) B ∧ Closed Δ (shadow Θ A A1 T y) ∧ (shadow Θ A A1 T y).length = A.length := by
 unfold shadow
 rw [opv_mix hl hy]
 split
 ·rename_i t s hav
  have hs := opv_refs hA hy hav s refs_al
  rw [mix_in hl hs, mix_in (by rw [hl, hl1]) hs]
  split
  ·rename_i t m xs _ _
   cases m.isK with
   | true => exact ⟨rfl, hA1, hl1⟩
   | false => exact ⟨mix_set (by rw [hl, hl1]) hs _, closed_set hA1 hs v_norefs, by simp [hl1]⟩
  ·exact ⟨rfl, hA1, hl1⟩
 ·exact ⟨rfl, hA1, hl1⟩
end Go.Pv
namespace Go.Pv
set_option linter.unusedVariables false
set_option linter.unusedSimpArgs false
variable {h : Hint} {O : Orc} {Θ : Tab} {hn : Hn} {ops : Array Oper} {ret : Ret} {Δ : Nat → Bool} {A B : St}
theorem takes_mix (hB : Closed Δ B) : ∀ (xs : List Operand) (Ts : List TypeId) (ps : List Pass) {A : St}, B.length = A.length → Closed Δ A → (∀ x ∈ xs, inD Δ x = true) → Mx Δ A B (takes Θ A xs Ts ps) (takes Θ (mix Δ A B) xs Ts ps)
 | [], _, _, A, hl, hA, _ => by simp only [takes]; exact mx_some rfl hA rfl
 | x :: xs, [], _, A, hl, hA, _ => by simp only [takes]; exact mx_none
 | x :: xs, T :: Ts, [], A, hl, hA, _ => by simp only [takes]; exact mx_none
 | x :: xs, T :: Ts, p :: ps, A, hl, hA, hx => by
  simp only [takes]
  cases p with
  | val =>
   simp only
   obtain ⟨k1, k2⟩ := takes_mix hB xs Ts ps hl hA (fun y hy => hx y (by simp [hy]))
   rw [k1]
   cases ht : takes Θ A xs Ts ps with
   | none => exact mx_none
   | some q => obtain ⟨c1, c2⟩ := k2 _ ht; exact mx_some rfl c1 c2
  | take =>
   simp only
   obtain ⟨j1, j2⟩ := take_mix (Θ := Θ) hl hA hB (hx x (by simp)) T
   rw [j1]
   cases hk : A.take Θ T x with
   | none => exact mx_none
   | some q =>
    obtain ⟨a, A1⟩ := q
    obtain ⟨d1, d2⟩ := j2 _ hk
    simp only [Option.map_some]
    obtain ⟨k1, k2⟩ := takes_mix hB xs Ts ps (by rw [d2, hl]) d1 (fun y hy => hx y (by simp [hy]))
    rw [k1]
    cases ht : takes Θ A1 xs Ts ps with
    | none => exact mx_none
    | some q => obtain ⟨c1, c2⟩ := k2 _ ht; exact mx_some rfl c1 (by rw [c2, d2])
  | lend => exact mx_none
theorem capTVs_mix (hl : B.length = A.length) : ∀ {caps : List Cap}, (∀ c ∈ caps, ∀ t s p, c = .pl t s p → Δ s = true) → capTVs (mix Δ A B) caps = capTVs A caps
 | [], _ => rfl
 | c :: r, hc => by
  simp only [capTVs]
  rw [capTVs_mix hl (fun c' h' => hc c' (by simp [h']))]
  have : capTV (mix Δ A B) c = capTV A c := by
   cases c with
   | pl t s p => simp only [capTV]; rw [place_mix hl (hc _ (by simp) t s p rfl)]
   | kv a => rfl
  rw [this]
theorem reads_mix (hl : B.length = A.length) (hA : Closed Δ A) : ∀ (xs : List Operand) (Ts : List TypeId) (l : List (Option TV)), (∀ x ∈ xs, inD Δ x = true) → reads Θ (mix Δ A B) xs Ts l = reads Θ A xs Ts l
 | [], _, _, _ => by simp [reads]
 | x :: xs, [], _, _ => by simp [reads]
 | x :: xs, T :: Ts, [], _ => by simp [reads]
 | x :: xs, T :: Ts, p :: ps, hx => by
  simp only [reads]
  rw [reads_mix hl hA xs Ts ps (fun y hy => hx y (by simp [hy])), opv_mix hl (hx x (by simp))]
  cases p with
  | some a => rfl
  | none =>
   simp only
   cases e : A.opv Θ T x with
   | none => rfl
   | some a =>
    have ha := opv_refs hA (hx x (by simp)) e
    cases a with
    | clo f caps =>
     simp only
     rw [capTVs_mix hl (fun c hc t s p ec => ha s (by
      simp only [AV.refs, List.any_eq_true]
      exact ⟨c, hc, by rw [ec]; simp⟩))]
    | _ => simp only; rw [rdA_mix hl ha]
theorem fineA_mix (hl : B.length = A.length) {x : Operand} (hx : inD Δ x = true) : fineA (mix Δ A B) x = fineA A x := by
 cases x with
 | tmp i => simp only [fineA]; rw [mix_in hl hx]
 | _ => rfl
theorem fines_mix (hl : B.length = A.length) : ∀ (xs : List Operand) (l : List (Option TV)) (as : List Arg), (∀ x ∈ xs, inD Δ x = true) → fines (mix Δ A B) xs l as = fines A xs l as
 | [], _, _, _ => rfl
 | x :: xs, [], _, _ => rfl
 | x :: xs, p :: ps, [], _ => rfl
 | x :: xs, p :: ps, r :: rs, hx => by simp only [fines, fines_mix hl xs ps rs (fun y hy => hx y (by simp [hy])), fineA_mix hl (hx x (by simp))]
def Agree (Δ : Nat → Bool) (A B : St) (K K' : St → Option Ret) : Prop := ∀ A1, Closed Δ A1 → A1.length = A.length → K' (mix Δ A1 B) = K A1
theorem resAV_norefs (l : List TV) : ∀ s, (resAV l).refs s = true → Δ s = true := fun s hs => by rw [resAV_refs] at hs; cases hs
theorem call_mix (hl : B.length = A.length) (hA : Closed Δ A) (hB : Closed Δ B) {o : Oper} {d : Nat} (hdst : o.dst = some d) (hd : Δ d = true) {f : FuncId} {as : List Operand} {ts : List TypeId} (hx : ∀ x ∈ as, inD Δ x = true) {K K' : St → Option Ret} (hK : Agree Δ A B K K') :
  peCall h O o f none as ts (mix Δ A B) K' = peCall h O o f none as ts A K := by
 unfold peCall
 obtain ⟨k1, k2⟩ := takes_mix (Θ := h.tab) hB as ts (O.sig f) hl hA hx
 rw [k1]
 cases ht : takes h.tab A as ts (O.sig f) with
 | none => rfl
 | some q =>
  obtain ⟨l, A1⟩ := q
  obtain ⟨c1, c2⟩ := k2 _ ht
  have hl1 : B.length = A1.length := by rw [c2, hl]
  simp only [Option.map_some, capsIn]
  rw [reads_mix hl1 c1 as ts l hx]
  cases reads h.tab A1 as ts l with
  | none => rfl
  | some args =>
   simp only
   congr 1
   funext rt
   cases rt.refs with
   | cons _ _ => rfl
   | nil =>
    simp only
    rw [fines_mix hl1 as l args hx, hdst, mix_put hl1 hB hd]
    rw [hK _ (closed_put c1 hd (resAV_norefs _)) (by rw [put_len', c2])]
theorem refill_mix (hl : B.length = A.length) (hA : Closed Δ A) (hB : Closed Δ B) {s : Nat} (hs : Δ s = true) (b : TV) (p : Path) : (mix Δ A B).refill s b p = (A.refill s b p).map (fun S => mix Δ S B) ∧ ∀ S, A.refill s b p = some S → Closed Δ S ∧ S.length = A.length := by
 cases p with
 | nil =>
  simp only [St.refill]
  refine ⟨by rw [mix_put hl hB hs]; rfl, fun S e => ?_⟩
  injection e with e
  subst e
  exact ⟨closed_put hA hs v_norefs, put_len' _ _ _⟩
 | cons st pp =>
  simp only [St.refill]
  rw [mix_in hl hs]
  cases A.at s with
  | v r ex =>
   simp only
   cases setP b (st :: pp) r.t r.m r.x with
   | none => exact ⟨rfl, fun _ e => by cases e⟩
   | some q =>
    simp only
    refine ⟨by rw [mix_put hl hB hs]; rfl, fun S e => ?_⟩
    injection e with e
    subst e
    exact ⟨closed_put hA hs v_norefs, put_len' _ _ _⟩
  | _ => exact ⟨rfl, fun _ e => by cases e⟩
theorem zip_at {S S2 : St} (hl : S2.length = S.length) {f : AV → AV → AV} (hf : f .dead .dead = .dead) (i : Nat) : St.at (List.zipWith f S S2) i = f (S.at i) (S2.at i) := by
 by_cases hi : i < S.length
 ·unfold St.at
  rw [List.getD_eq_getElem?_getD, List.getD_eq_getElem?_getD, List.getD_eq_getElem?_getD, List.getElem?_zipWith, List.getElem?_eq_getElem hi, List.getElem?_eq_getElem (by omega : i < S2.length)]
  rfl
 ·rw [at_ge (S := S) (by omega), at_ge (S := S2) (by omega), at_ge (by rw [List.length_zipWith]; omega), hf]
theorem again_len {S S2 : St} {s : Nat} (hl : S2.length = S.length) : (S.again S2 s).length = S.length := by
 unfold St.again
 split
 ·rw [List.length_zipWith]; omega
 ·exact hl
theorem again_closed {S S2 : St} {s : Nat} (hl : S2.length = S.length) (hS : Closed Δ S) (h2 : Closed Δ S2) : Closed Δ (S.again S2 s) := fun i k hk => by
 rcases again_at (s := s) hl i with hx | ⟨t, r, ex, ha, _, _, _, hx⟩
 ·rw [hx] at hk; exact h2 i k hk
 ·rw [hx] at hk; exact hS i k (by rw [ha]; exact hk)
theorem again_mix {A2 : St} (hl : B.length = A.length) (hl2 : A2.length = A.length) {s : Nat} (hs : Δ s = true) : (mix Δ A B).again (mix Δ A2 B) s = mix Δ (A.again A2 s) B := by
 unfold St.again
 rw [mix_in (by omega) hs]
 cases hA2 : A2.at s with
 | v r ex =>
  simp only
  refine st_ext (by simp only [List.length_zipWith, mix_len]) fun i => ?_
  rw [zip_at (by rw [mix_len, mix_len, hl2]) rfl, mix_at hl, mix_at (A := A2) (by omega), mix_at (A := List.zipWith (againA s r.t) A A2) (by rw [List.length_zipWith]; omega)]
  cases Δ i with
  | true => simp only [cond_true]; rw [zip_at hl2 rfl]
  | false => simp only [cond_false]; unfold againA; split <;> first | rfl | (rename_i h1 h2; rw [h1] at h2; cases h2)
 | _ => rfl
theorem lend_mix (hl : B.length = A.length) (hA : Closed Δ A) (hB : Closed Δ B) {o : Oper} {d : Nat} (hdst : o.dst = some d) (hd : Δ d = true) {f : FuncId} {j : Nat} {as : List Operand} {ts : List TypeId} (hx : ∀ x ∈ as, inD Δ x = true) {K K' : St → Option Ret} (hK : Agree Δ A B K K') :
  peLend h O o f j as ts (mix Δ A B) K' = peLend h O o f j as ts A K := by
 unfold peLend
 split
 case h_2 => rfl
 rename_i x T hxj _
 have hxx := hx x (List.mem_of_getElem? hxj)
 rw [opv_mix hl hxx]
 cases e : A.opv h.tab T x with
 | none => rfl
 | some av =>
  simp only
  have ha := opv_refs hA hxx e
  obtain ⟨k1, k2⟩ := takeA_mix hl hA hB hxx ha
  rw [k1]
  cases hp : lplace x av with
  | none => cases A.takeA x av <;> rfl
  | some sp =>
   obtain ⟨s, p⟩ := sp
   have hs : Δ s = true := by
    cases av with
    | v b ex =>
     cases x with
     | tmp i => simp only [lplace, Option.some.injEq, Prod.mk.injEq] at hp; rw [← hp.1]; exact hxx
     | _ => simp [lplace] at hp
    | al t s' p' => simp only [lplace, Option.some.injEq, Prod.mk.injEq] at hp; rw [← hp.1]; exact ha _ refs_al
    | _ => simp [lplace] at hp
   cases ht : A.takeA x av with
   | none => rfl
   | some q =>
    obtain ⟨b, A1⟩ := q
    obtain ⟨c1, c2⟩ := k2 _ ht
    have hl1 : B.length = A1.length := by rw [c2, hl]
    simp only [Option.map_some]
    cases (!b.m.isK && lendable b.t b.m) with
    | false => rfl
    | true =>
     simp only [cond_true]
     rw [reads_mix hl1 c1 as ts _ hx]
     cases reads h.tab A1 as ts ((List.replicate as.length none).set j (some ⟨b.t, tagM b.t b.m 0, b.x⟩)) with
     | none => rfl
     | some args =>
      simp only
      rw [fines_mix hl1 as _ args hx]
      cases (lendS b.t b.m || fines A1 as ((List.replicate as.length none).set j (some ⟨b.t, tagM b.t b.m 0, b.x⟩)) args) with
      | false => rfl
      | true =>
       simp only [cond_true]
       congr 1
       funext rt
       split
       case h_2 => rfl
       rename_i c _
       cases (rt.res.all fun d => bareM d.m && (solid d.t d.m || fines A1 as ((List.replicate as.length none).set j (some ⟨b.t, tagM b.t b.m 0, b.x⟩)) args)) with
       | false => rfl
       | true =>
        simp only [cond_true]
        split
        case isFalse => rfl
        split
        case isFalse => rfl
        obtain ⟨r1, r2⟩ := refill_mix hl1 c1 hB hs ⟨b.t, b.m, mergeV b.t b.m b.x (‹c.t = b.t› ▸ c.x)⟩ p
        rw [r1]
        cases hr : A1.refill s ⟨b.t, b.m, mergeV b.t b.m b.x (‹c.t = b.t› ▸ c.x)⟩ p with
        | none => rfl
        | some A2 =>
         obtain ⟨d1, d2⟩ := r2 _ hr
         simp only [Option.map_some]
         rw [again_mix hl (by rw [d2, c2]) hs, hdst, mix_put (by rw [again_len (by rw [d2, c2]), hl]) hB hd]
         exact hK _ (closed_put (again_closed (by rw [d2, c2]) hA d1) hd (resAV_norefs _)) (by rw [put_len', again_len (by rw [d2, c2])])
theorem step_mix (hl : B.length = A.length) (hA : Closed Δ A) (hB : Closed Δ B) {i : Nat} {o : Oper} (ho : ops[i]? = some o) (ht : touchIn Δ o = true) {K K' : St → Option Ret} (hK : Agree Δ A B K K') :
  peStep h O ops i (mix Δ A B) K' = peStep h O ops i A K := by
 unfold touchIn at ht
 simp only [Bool.and_eq_true] at ht
 obtain ⟨⟨hg, hd⟩, hx⟩ := ht
 have hg : o.guard = none := by
  cases hq : o.guard with
  | none => rfl
  | some _ => rw [hq] at hg; cases hg
 by_cases hst : ∃ T x y, o.op = .store T x y
 ·obtain ⟨T, x, y, hop⟩ := hst
  have hdn : o.dst = none := by
   cases hq : o.dst with
   | none => rfl
   | some d => unfold dstD at hd; rw [hq, hop] at hd; cases hd
  rw [hop] at hx
  simp only [Bool.and_eq_true] at hx
  have e1 : ∀ S K, peStep h O ops i S K = match evStore h.tab S T x y with
    | some (g, S1) => bif g then K (shadow h.tab S S1 T y) else none
    | none => none := fun S K => by
   unfold peStep
   rw [ho]
   simp only [hg]
   unfold peOp
   rw [hop]
   simp only [ev, hop, hdn]
   cases evStore h.tab S T x y with
   | none => rfl
   | some q => rfl
  have hm := store_mix (Θ := h.tab) hl hA hB T hx.1 hx.2
  rw [e1, e1, hm.1]
  cases he : evStore h.tab A T x y with
  | none => rfl
  | some q =>
   obtain ⟨g, A1⟩ := q
   obtain ⟨c1, c2⟩ := hm.2 _ he
   simp only [Option.map_some]
   obtain ⟨s1, s2, s3⟩ := shadow_mix (Θ := h.tab) (A1 := A1) hl hA hB T hx.2 c2 c1
   rw [s1, hK _ s2 s3]
 obtain ⟨d, hdst⟩ : ∃ d, o.dst = some d := by
  cases hq : o.dst with
  | none =>
   exfalso
   cases hop : o.op with
   | store T x y => exact hst ⟨T, x, y, hop⟩
   | _ => simp [dstD, hq, hop] at hd
  | some d => exact ⟨d, rfl⟩
 have hd : Δ d = true := by
  cases hop : o.op with
  | store T x y => exact absurd ⟨T, x, y, hop⟩ hst
  | _ => simpa [dstD, hdst, hop] using hd
 have key : ∀ {evf : St → Res}, Mx Δ A B (evf A) (evf (mix Δ A B)) → (∀ S K, peStep h O ops i S K = match evf S with
   | some (g, S1) => bif g then K S1 else none
   | none => none) → peStep h O ops i (mix Δ A B) K' = peStep h O ops i A K := by
  intro evf hm hs
  rw [hs, hs, hm.1]
  cases he : evf A with
  | none => rfl
  | some q =>
   obtain ⟨g, A1⟩ := q
   obtain ⟨c1, c2⟩ := hm.2 _ he
   simp only [Option.map_some]
   rw [hK A1 c1 c2]
 have stp : ∀ S K, peStep h O ops i S K = peOp h O o S K := fun S K => by
  unfold peStep
  rw [ho]
  simp only [hg]
 split at hx
 ·rename_i T x y hop; exact absurd ⟨T, x, y, hop⟩ hst
 ·rename_i T l c hop
  simp only [Bool.and_eq_true] at hx
  refine key (evf := fun S => evMakeSlice h.tab S (some d) T l c) (makeSlice_mix hl hA hB hd T hx.1 hx.2) fun S K => ?_
  rw [stp]; unfold peOp; rw [hop]; simp only [ev, hop, hdst]; try rfl
 ·rename_i T hop
  refine key (evf := fun S => evAlloc h.tab h.hn S (some d) T) (alloc_mix hl hA hB hd T) fun S K => ?_
  rw [stp]; unfold peOp; rw [hop]; simp only [ev, hop, hdst]; try rfl
 ·rename_i T n ps hop
  refine key (evf := fun S => evBuildSlice h.tab h.hn S (some d) T n ps.toList) (buildSlice_mix hl hA hB hd T n (List.all_eq_true.1 hx)) fun S K => ?_
  rw [stp]; unfold peOp; rw [hop]; simp only [ev, hop, hdst]; try rfl
 ·rename_i T x hop
  refine key (evf := fun S => evLoad h.tab S (some d) T x) (load_mix hl hA hB hd T hx) fun S K => ?_
  rw [stp]; unfold peOp; rw [hop]; simp only [ev, hop, hdst]; try rfl
 ·rename_i x hop
  refine key (evf := fun S => evMove h.tab S (some d) o.type x) (move_mix hl hA hB hd _ hx) fun S K => ?_
  rw [stp]; unfold peOp; rw [hop]; simp only [ev, hop, hdst]; try rfl
 ·rename_i x j hop
  refine key (evf := fun S => evExtract S (some d) x j) (extract_mix hl hA hB hd hx j) fun S K => ?_
  rw [stp]; unfold peOp; rw [hop]; simp only [ev, hop, hdst]; try rfl
 ·rename_i op T x y T' hop
  simp only [Bool.and_eq_true, Bool.not_eq_true'] at hx
  obtain ⟨h1, h2, h3⟩ := hx
  refine key (evf := fun S => evBin h.tab S (some d) op T x y) (bin_mix hl hA hB hd op T h1 h2) fun S K => ?_
  rw [stp]
  unfold peOp
  split
  ·rename_i e; rw [hop] at e; cases e
  ·rename_i e; rw [hop] at e; cases e
  ·rename_i e; rw [hop] at e; rw [hop] at h3; injection e with e1 e2 e3 e4 e5; subst e4; simp [nilT] at h3
  ·rename_i e; rw [hop] at e; rw [hop] at h3; injection e with e1 e2 e3 e4 e5; subst e4; simp [nilT] at h3
  ·simp only [ev, hop, hdst]; try rfl
 ·rename_i T x f hop
  refine key (evf := fun S => evFieldAddr h.tab S (some d) T x f) (fieldAddr_mix hl hA hB hd T hx f) fun S K => ?_
  rw [stp]; unfold peOp; rw [hop]; simp only [ev, hop, hdst]; try rfl
 ·rename_i T x ix hop
  simp only [Bool.and_eq_true] at hx
  refine key (evf := fun S => evIndexAddr h.tab S (some d) T x ix) (indexAddr_mix hl hA hB hd T hx.1 hx.2) fun S K => ?_
  rw [stp]; unfold peOp; rw [hop]; simp only [ev, hop, hdst]; try rfl
 ·rename_i T T' x hop
  refine key (evf := fun S => evConvert h.tab S (some d) T T' x) (convert_mix hl hA hB hd T T' hx) fun S K => ?_
  rw [stp]; unfold peOp; rw [hop]; simp only [ev, hop, hdst]; try rfl
 ·rename_i as ts hop
  have hx' := List.all_eq_true.1 hx
  refine key (evf := fun S => match evAppend h.tab S (some d) ts.toList as.toList with
   | some r => some r
   | none => evAppendC h.tab S (some d) ts.toList as.toList) ?_ fun S K => ?_
  ·have h1 := append_mix (Θ := h.tab) (ts := ts.toList) hl hA hB hd hx'
   have h2 := appendC_mix (Θ := h.tab) (ts := ts.toList) hl hA hB hd hx'
   refine ⟨?_, fun q hq => ?_⟩
   ·show (match evAppend h.tab (mix Δ A B) (some d) ts.toList as.toList with
     | some r => some r
     | none => evAppendC h.tab (mix Δ A B) (some d) ts.toList as.toList) = _
    rw [h1.1]
    cases evAppend h.tab A (some d) ts.toList as.toList with
    | none => exact h2.1
    | some r => rfl
   ·split at hq
    ·rename_i r hr
     injection hq with hq
     subst hq
     exact h1.2 _ hr
    ·exact h2.2 _ hq
  ·rw [stp]; unfold peOp; rw [hop]; simp only [ev, hop, hdst]; try rfl
 ·rename_i f as ts hop
  have hx' := List.all_eq_true.1 hx
  rw [stp, stp]
  unfold peOp
  rw [hop]
  simp only
  cases lendAt (O.sig f) 0 with
  | none => exact call_mix hl hA hB hdst hd hx' hK
  | some j => exact lend_mix hl hA hB hdst hd hx' hK
 ·cases hx
end Go.Pv
namespace Go.Pv
set_option linter.unusedVariables false
set_option linter.unusedSimpArgs false
variable {h : Hint} {O : Orc} {Θ : Tab} {ops : Array Oper} {ret : Ret} {Δ : Nat → Bool} {A B S : St} {K : St → Option Ret}
theorem touch_nil {o : Oper} (ht : touchIn Δ o = true) : nilT o.op = false := by
 unfold touchIn at ht
 simp only [Bool.and_eq_true] at ht
 have hx := ht.2
 split at hx
 all_goals first | (rename_i hop; rw [hop]; rfl) | (simp only [Bool.and_eq_true, Bool.not_eq_true'] at hx; exact hx.2.2) | cases hx
theorem closed_mix (hl : B.length = A.length) (hA : Closed Δ A) (hB : Closed Δ B) : Closed Δ (mix Δ A B) := fun i s hs => by
 rw [mix_at hl] at hs
 cases hi : Δ i with
 | true => rw [hi] at hs; rw [← hi]; exact hA i s hs
 | false => rw [hi] at hs; rw [← hi]; exact hB i s hs
theorem outL_not (d : List Nat) : (fun i => !outL d i) = inL d := by funext i; simp [outL]
theorem closed_out {d : List Nat} : Closed (outL d) S ↔ Closed (inL d) S :=
 ⟨fun h => by have := h.not; rwa [outL_not] at this, fun h => h.not⟩
theorem step_reach (hS : Closed Δ S) {i : Nat} {o : Oper} (ho : ops[i]? = some o) (ht : touchIn Δ o = true) (c : St → Bool) (hc : ∀ X, Closed Δ X → c X = true) :
  peStep h O ops i S K = peStep h O ops i S (fun X => bif c X then K X else none) := by
 have h1 := step_mix (h := h) (O := O) (A := S) (B := S) rfl hS hS ho ht (K := fun A1 => open Classical in if Closed Δ A1 then K (mix Δ A1 S) else none) (K' := K) (fun A1 hA hl => (if_pos hA).symm)
 have h2 := step_mix (h := h) (O := O) (A := S) (B := S) rfl hS hS ho ht (K := fun A1 => open Classical in if Closed Δ A1 then K (mix Δ A1 S) else none) (K' := fun X => bif c X then K X else none) (fun A1 hA hl => by
  show (bif c (mix Δ A1 S) then K (mix Δ A1 S) else none) = open Classical in if Closed Δ A1 then K (mix Δ A1 S) else none
  rw [if_pos hA, hc _ (closed_mix (by rw [hl]) hA hS)]; rfl)
 rw [mix_self] at h1 h2
 rw [h1, h2]
theorem step_len (hS : Closed Δ S) {i : Nat} {o : Oper} (ho : ops[i]? = some o) (ht : touchIn Δ o = true) :
  peStep h O ops i S K = peStep h O ops i S (fun X => bif Nat.beq X.length S.length then K X else none) := by
 have h1 := step_mix (h := h) (O := O) (A := S) (B := S) rfl hS hS ho ht (K := fun A1 => K (mix Δ A1 S)) (K' := K) (fun A1 hA hl => rfl)
 have h2 := step_mix (h := h) (O := O) (A := S) (B := S) rfl hS hS ho ht (K := fun A1 => K (mix Δ A1 S)) (K' := fun X => bif Nat.beq X.length S.length then K X else none) (fun A1 hA hl => by
  show (bif Nat.beq (mix Δ A1 S).length S.length then K (mix Δ A1 S) else none) = K (mix Δ A1 S)
  rw [mix_len, hl, Nat.beq_refl]; rfl)
 rw [mix_self] at h1 h2
 rw [h1, h2]
theorem two_steps (hS : Closed Δ S) {i j : Nat} {oi oj : Oper} (hi : ops[i]? = some oi) (hj : ops[j]? = some oj) (ti : touchIn Δ oi = true) (tj : touchIn (fun i => !Δ i) oj = true) :
  peStep h O ops i S (fun S1 => peStep h O ops j S1 K) = peStep h O ops i S (fun A1 => peStep h O ops j S (fun B1 => K (mix Δ A1 B1))) := by
 have h1 := step_mix (h := h) (O := O) (A := S) (B := S) rfl hS hS hi ti (K' := fun S1 => peStep h O ops j S1 K) (K := fun A1 => peStep h O ops j S (fun B1 => K (mix Δ A1 B1))) (fun A1 hA hl => by
  have h2 := step_mix (h := h) (O := O) (Δ := fun i => !Δ i) (A := S) (B := A1) hl hS.not hA.not hj tj (K' := K) (K := fun B1 => K (mix Δ A1 B1)) (fun B1 hB hlB => by rw [mix_not (by rw [hl, hlB])])
  rw [mix_not (by rw [hl])] at h2
  exact h2)
 rw [mix_self] at h1
 exact h1
theorem steps_comm (hO : ODet O) (hS : Closed Δ S) {i j : Nat} {oi oj : Oper} (hi : ops[i]? = some oi) (hj : ops[j]? = some oj) (ti : touchIn Δ oi = true) (tj : touchIn (fun i => !Δ i) oj = true) :
  peStep h O ops i S (fun S1 => peStep h O ops j S1 K) = peStep h O ops j S (fun S1 => peStep h O ops i S1 K) := by
 have tn : (fun i => !(!Δ i)) = Δ := by funext i; simp
 rw [two_steps hS hi hj ti tj, two_steps (Δ := fun i => !Δ i) hS.not hj hi tj (by rw [tn]; exact ti)]
 obtain ⟨ri, h1⟩ := peStep_det (h := h) (O := O) (ops := ops) hO i (fun o ho => by rw [hi] at ho; injection ho with ho; subst ho; exact touch_nil ti) S
 obtain ⟨rj, h2⟩ := peStep_det (h := h) (O := O) (ops := ops) hO j (fun o ho => by rw [hj] at ho; injection ho with ho; subst ho; exact touch_nil tj) S
 -- the lengths are the same
 have l1 := fun K => step_len (h := h) (O := O) (K := K) hS hi ti
 have l2 := fun K => step_len (h := h) (O := O) (K := K) hS.not hj tj
 cases ri with
 | none => simp only [h1, h2, Option.bind_none]; cases rj <;> rfl
 | some A1 =>
  cases rj with
  | none => simp only [h1, h2, Option.bind_none, Option.bind_some]
  | some B1 =>
   simp only [h1, h2, Option.bind_some] at l1 l2 ⊢
   have hA : A1.length = S.length := by
    have := l1 (fun _ => some ⟨[], []⟩)
    cases hq : Nat.beq A1.length S.length with
    | true => exact Nat.eq_of_beq_eq_true hq
    | false => rw [hq] at this; cases this
   have hB : B1.length = S.length := by
    have := l2 (fun _ => some ⟨[], []⟩)
    cases hq : Nat.beq B1.length S.length with
    | true => exact Nat.eq_of_beq_eq_true hq
    | false => rw [hq] at this; cases this
   rw [mix_not (by rw [hA, hB])]
theorem set_self' {S : St} {d : Nat} {a : AV} (h : S.at d = a) (hd : a ≠ .dead) : S.set d a = S := by
 refine st_ext (List.length_set) fun i => ?_
 rw [at_set]
 split
 ·rename_i hi
  rw [hi.1, h]
 ·rfl
theorem put_comm {S : St} {a b : Nat} {u v : AV} (hab : a ≠ b) (hu : ∀ d, u.refs d = false) (hv : ∀ d, v.refs d = false) : (S.put (some a) u).put (some b) v = (S.put (some b) v).put (some a) u := by
 refine st_ext (by simp only [put_len']) fun i => ?_
 have hV : ∀ (S : St) (a b : Nat) (u : AV), a ≠ b → ((S.put (some a) u).at b).isV = (S.at b).isV := fun S a b u hab => by
  rw [put_at, if_neg (fun e => hab e.1.symm)]
  cases hr : (S.at b).refs a with
  | false => rfl
  | true =>
   have : (S.at b).isV = false := by cases hx : S.at b <;> first | rfl | (rw [hx] at hr; simp [AV.refs] at hr)
   rw [this]
   cases (S.at a).isV with
   | true => rfl
   | false => exact this
 simp only [put_at, put_len', hu, hv, cond_false]
 have hVa := hV S b a v (Ne.symm hab)
 have hVb := hV S a b u hab
 simp only [put_at, hu, hv, cond_false] at hVa hVb
 rw [hVa, hVb]
 by_cases h1 : i = a
 ·subst h1
  by_cases hl : i < S.length
  ·rw [if_neg (fun e => hab e.1), if_pos ⟨rfl, hl⟩, if_pos ⟨rfl, hl⟩, hu]; rfl
  ·rw [if_neg (fun e => hab e.1), if_neg (fun e => hl e.2), if_neg (fun e => hl e.2), if_neg (fun e => hab e.1), at_ge (S := S) (i := i) (by omega)]
   simp [AV.refs]
 ·by_cases h2 : i = b
  ·subst h2
   by_cases hl : i < S.length
   ·rw [if_pos ⟨rfl, hl⟩, if_neg (fun e => h1 e.1), if_pos ⟨rfl, hl⟩, hv]; rfl
   ·rw [if_neg (fun e => hl e.2), if_neg (fun e => h1 e.1), if_neg (fun e => h1 e.1), if_neg (fun e => hl e.2), at_ge (S := S) (i := i) (by omega)]
    simp [AV.refs]
  ·rw [if_neg (fun e => h2 e.1), if_neg (fun e => h1 e.1), if_neg (fun e => h1 e.1), if_neg (fun e => h2 e.1)]
   have dr : ∀ d, AV.dead.refs d = false := fun _ => rfl
   cases hra : (S.at i).refs a <;> cases hrb : (S.at i).refs b <;> cases (S.at a).isV <;> cases (S.at b).isV <;> simp only [hra, hrb, dr, Bool.and_true, Bool.and_false, Bool.true_and, Bool.false_and, cond_true, cond_false]
theorem put_set_comm {S : St} {a x : Nat} {u t : AV} (hax : a ≠ x) (ht : ∀ d, t.refs d = false) (hx : ∀ d, (S.at x).refs d = false) : List.set (S.put (some a) u) x t = St.put (S.set x t) (some a) u := by
 refine st_ext (by simp only [put_len', List.length_set]) fun i => ?_
 have h1 : (St.at (S.set x t) a).isV = (S.at a).isV := by rw [at_set, if_neg (fun e => hax e.1)]
 rw [at_set, put_len', put_at, put_at, List.length_set, h1]
 by_cases hi : i = x ∧ x < S.length
 ·rw [if_pos hi, if_neg (fun e => hax (e.1.symm.trans hi.1)), at_set, if_pos hi, ht]; rfl
 ·rw [if_neg hi, at_set, if_neg hi]
theorem ex_step {i : Nat} {o : Oper} {a x p : Nat} (ho : ops[i]? = some o) (hg : o.guard = none) (hd : o.dst = some a) (hop : o.op = .extract (.tmp x) p) (S : St) (K : St → Option Ret) : peStep h O ops i S K = match evExtract S (some a) (.tmp x) p with
  | some (g, S1) => bif g then K S1 else none
  | none => none := by
 unfold peStep
 rw [ho]
 simp only [hg]
 unfold peOp
 rw [hop]
 simp only [ev, hop, hd]
 try rfl
theorem ex_comm {i j : Nat} {oi oj : Oper} (hi : ops[i]? = some oi) (hj : ops[j]? = some oj) (hx : exB oi oj = true) (S : St) (K : St → Option Ret) :
  peStep h O ops i S (fun S1 => peStep h O ops j S1 K) = peStep h O ops j S (fun S1 => peStep h O ops i S1 K) := by
 unfold exB at hx
 split at hx
 case h_2 => cases hx
 rename_i a b x p y q g1 g2 d1 d2 o1 o2
 simp only [Bool.and_eq_true, Bool.not_eq_true'] at hx
 obtain ⟨e1, e2, e3, e4, e5⟩ := hx
 have e1 := Nat.eq_of_beq_eq_true e1
 subst e1
 have e2 : p ≠ q := fun e => by rw [e, Nat.beq_refl] at e2; cases e2
 have e3 : a ≠ b := fun e => by rw [e, Nat.beq_refl] at e3; cases e3
 have e4 : a ≠ x := fun e => by rw [e, Nat.beq_refl] at e4; cases e4
 have e5 : b ≠ x := fun e => by rw [e, Nat.beq_refl] at e5; cases e5
 have bf : ∀ {a x : Nat}, a ≠ x → Nat.beq a x = false := fun {a x} hne => by
  cases hq : Nat.beq a x with
  | false => rfl
  | true => exact absurd (Nat.eq_of_beq_eq_true hq) hne
 -- one extraction, on its own
 have one : ∀ (S : St) (a p : Nat), a ≠ x → evExtract S (some a) (.tmp x) p = match S.at x with
   | .tup l => (match l.getD p none with
    | some u => some (true, St.put (S.set x (.tup (bif u.m.isK then l else l.set p none))) (some a) (.v u []))
    | none => none)
   | _ => none := fun S a p hax => by
  unfold evExtract
  simp only
  cases hat : S.at x with
  | tup l =>
   simp only
   cases l.getD p none with
   | none => rfl
   | some u =>
    simp only
    cases u.m.isK with
    | true => simp only [cond_true]; rw [set_self' hat (fun e => by cases e)]
    | false => simp only [cond_false, bf hax]
  | _ => rfl
 simp only [ex_step hi g1 d1 o1, ex_step hj g2 d2 o2, one _ _ _ e4, one _ _ _ e5]
 cases hat : S.at x with
 | tup l =>
  simp only
  have hxl : x < S.length := by
   refine Classical.byContradiction fun hl => ?_
   rw [at_ge (S := S) (i := x) (Nat.le_of_not_lt hl)] at hat
   cases hat
  -- the tuple, behind the first
  have after : ∀ (t : AV) (u : TV) (a : Nat), (∀ d, t.refs d = false) → a ≠ x → (St.put (S.set x t) (some a) (.v u [])).at x = t := fun t u a ht hax => by
   rw [put_at, if_neg (fun e => hax e.1.symm), at_set, if_pos ⟨rfl, hxl⟩, ht]; rfl
  have hset : ∀ (l : List (Option TV)) (p q : Nat) (c : Bool), p ≠ q → (bif c then l else l.set p none).getD q none = l.getD q none := fun l p q c hpq => by
   cases c with
   | true => rfl
   | false => simp only [cond_false, List.getD_eq_getElem?_getD]; rw [List.getElem?_set_ne hpq]
  have ntup : ∀ (l : List (Option TV)) (d : Nat), (AV.tup l).refs d = false := fun _ _ => rfl
  have nv : ∀ (b : TV) (d : Nat), (AV.v b []).refs d = false := fun _ _ => rfl
  cases hp : l.getD p none with
  | none =>
   cases hq : l.getD q none with
   | none => rfl
   | some w =>
    simp only [cond_true, after _ _ _ (ntup _) e5, hset _ _ _ _ (Ne.symm e2), hp]
  | some u =>
   cases hq : l.getD q none with
   | none => simp only [cond_true, after _ _ _ (ntup _) e4, hset _ _ _ _ e2, hq]
   | some w =>
    simp only [cond_true, after _ _ _ (ntup _) e4, after _ _ _ (ntup _) e5, hset _ _ _ _ e2, hset _ _ _ _ (Ne.symm e2), hp, hq]
    congr 1
    rw [put_set_comm e4 (ntup _) (by rw [at_set, if_pos ⟨rfl, hxl⟩]; exact ntup _), put_set_comm e5 (ntup _) (by rw [at_set, if_pos ⟨rfl, hxl⟩]; exact ntup _), List.set_set, List.set_set, put_comm e3 (nv _) (nv _)]
    congr 3
    cases u.m.isK <;> cases w.m.isK <;> simp only [cond_true, cond_false]
    rw [List.set_comm _ _ e2]
 | _ => rfl
theorem whole_spec {ds : List (List Nat)} : wholeB ds S = true ↔ ∀ d ∈ ds, Closed (inL d) S := by
 unfold wholeB
 rw [List.all_eq_true]
 exact ⟨fun h d hd => closedL_iff.1 (h d hd), fun h d hd => closedL_iff.2 (h d hd)⟩
end Go.Pv
namespace Go.Pv
set_option linter.unusedVariables false
set_option linter.unusedSimpArgs false
variable {h : Hint} {O : Orc} {Θ : Tab} {ops : Array Oper} {ret : Ret} {Δ : Nat → Bool} {A B S S' : St} {K : St → Option Ret}
def ldV (Θ : Tab) (S : St) (T : TypeId) (x : Nat) : Option AV := match S.tgt (.tmp x) (S.at x) with
 | some g => match S.loadAt g with
  | some r => bif fitR g.ty r && Θ.is T g.ty then some r else none
  | none => none
 | none => none
theorem ld_eq (S : St) (dst : Option Nat) (T : TypeId) (x : Nat) : evLoad Θ S dst T (.tmp x) = (ldV Θ S T x).map fun r => (true, S.put dst r) := by
 unfold evLoad ldV
 simp only [St.opv]
 cases S.tgt (.tmp x) (S.at x) with
 | none => rfl
 | some g =>
  simp only
  cases S.loadAt g with
  | none => rfl
  | some r =>
   simp only
   cases (fitR g.ty r && Θ.is T g.ty) <;> rfl
def rootOf (x : Nat) : AV → Nat
 | .al _ s _ => s
 | .ad _ s _ => s
 | _ => x
theorem glance_at {s : Nat} (hs : S'.at s = S.at s) (p : Path) : S'.glance s p = S.glance s p := by unfold St.glance; rw [hs]
theorem place_at {s : Nat} (hs : S'.at s = S.at s) (p : Path) : S'.place s p = S.place s p := by unfold St.place; rw [hs]
theorem tgt_root {x : Nat} {a : AV} {g : Tgt} (e : S.tgt (.tmp x) a = some g) : (∀ t s p, g = .pl t s p → s = rootOf x a) := by
 intro t s p hg
 subst hg
 unfold St.tgt at e
 split at e
 ·split at e
  ·cases e <;> rfl
  ·rename_i h1
   injection h1 with h1
   injection e with e
   injection e with _ e _
   rw [← e, ← h1]; rfl
  ·cases e <;> rfl
 ·split at e
  ·rename_i h1
   injection h1 with h1
   injection e with e
   injection e with _ e _
   rw [← e, ← h1]; rfl
  ·cases e <;> rfl
 ·split at e
  ·cases e <;> rfl
  ·injection e with e
   injection e with _ e _
   rw [← e]; rfl
  ·cases e <;> rfl
 ·injection e with e
  injection e with _ e _
  rw [← e]; rfl
 ·cases e
theorem tgt_congr {x : Nat} {a : AV} (hs : S'.at (rootOf x a) = S.at (rootOf x a)) : S'.tgt (.tmp x) a = S.tgt (.tmp x) a := by
 unfold St.tgt
 split <;> first | rfl | (rename_i t s p; rw [show S'.glance s p = S.glance s p from glance_at hs p])
theorem ldV_congr {T : TypeId} {x : Nat} (hx : S'.at x = S.at x) (hs : S'.at (rootOf x (S.at x)) = S.at (rootOf x (S.at x))) : ldV Θ S' T x = ldV Θ S T x := by
 unfold ldV
 rw [hx, tgt_congr hs]
 cases hg : S.tgt (.tmp x) (S.at x) with
 | none => rfl
 | some g =>
  simp only
  have : S'.loadAt g = S.loadAt g := by
   unfold St.loadAt
   cases g with
   | k a => rfl
   | pl t s p =>
    have := tgt_root hg t s p rfl
    subst this
    simp only [glance_at hs, place_at hs]
  rw [this]
theorem ldV_refs {T : TypeId} {x : Nat} {r : AV} (e : ldV Θ S T x = some r) (k : Nat) (hk : r.refs k = true) : k = rootOf x (S.at x) := by
 unfold ldV at e
 cases hg : S.tgt (.tmp x) (S.at x) with
 | none => rw [hg] at e; cases e
 | some g =>
  rw [hg] at e
  simp only at e
  cases hl : S.loadAt g with
  | none => rw [hl] at e; cases e
  | some r' =>
   rw [hl] at e
   simp only at e
   cases hT : (fitR g.ty r' && Θ.is T g.ty) with
   | false => rw [hT] at e; cases e
   | true =>
    rw [hT] at e
    simp only [cond_true, Option.some.injEq] at e
    subst e
    unfold St.loadAt at hl
    split at hl
    ·injection hl with hl; rw [← hl] at hk; cases hk
    ·rename_i t s p
     have hr := tgt_root hg t s p rfl
     split at hl
     case h_2 => cases hl
     rename_i a _
     cases ha : a.m.isK with
     | true =>
      rw [ha] at hl
      simp only [cond_true] at hl
      split at hl
      ·injection hl with hl; rw [← hl] at hk; cases hk
      ·cases hl
     | false =>
      rw [ha] at hl
      simp only [cond_false, Option.some.injEq] at hl
      rw [← hl] at hk
      have : s = k := Nat.eq_of_beq_eq_true hk
      rw [← this]; exact hr
theorem root_refs {x : Nat} {a : AV} : rootOf x a = x ∨ a.refs (rootOf x a) = true := by
 cases a <;> first | exact .inl rfl | exact .inr (Nat.beq_refl _)
def Lone (a : Nat) (S : St) : Prop := ∀ i, (S.at i).refs a = true → i = a
theorem lone_of {a : Nat} (h : Closed (inL [a]) S) : Lone a S := fun i hi => by
 have := h i a hi
 have ha : inL [a] a = true := by simp [inL]
 rw [ha] at this
 unfold inL at this
 simp only [List.any_cons, List.any_nil, Bool.or_false] at this
 exact Nat.eq_of_beq_eq_true this
theorem lone_ne {c : Nat} {u : AV} (lc : Lone c S) {k : Nat} (hk : k ≠ c) : (S.put (some c) u).at k = S.at k := by
 rw [put_at, if_neg (fun e => hk e.1)]
 cases hq : (S.at k).refs c with
 | false => rfl
 | true => exact absurd (lc k hq) hk
theorem lone_eq {c : Nat} {u : AV} (hu : u.refs c = false) (hc : c < S.length) : (S.put (some c) u).at c = u := by
 rw [put_at, if_pos ⟨rfl, hc⟩, hu]; rfl
theorem lone_put {a b : Nat} {u : AV} (la : Lone a S) (lb : Lone b S) (hua : u.refs a = false) (hub : u.refs b = false) : Lone b (S.put (some a) u) := fun i hi => by
 by_cases h1 : i = a
 ·subst h1
  by_cases hl : i < S.length
  ·rw [lone_eq hua hl, hub] at hi; cases hi
  ·rw [at_ge (by rw [put_len']; omega)] at hi; cases hi
 ·rw [lone_ne la h1] at hi
  exact lb i hi
theorem put_comm2 {S : St} {a b : Nat} {u v : AV} (hab : a ≠ b) (hua : u.refs a = false) (hub : u.refs b = false) (hva : v.refs a = false) (hvb : v.refs b = false) (la : Lone a S) (lb : Lone b S) : (S.put (some a) u).put (some b) v = (S.put (some b) v).put (some a) u := by
 have lb1 := lone_put la lb hua hub
 have la1 := lone_put lb la hvb hva
 refine st_ext (by simp only [put_len']) fun i => ?_
 by_cases hl : i < S.length
 rotate_left
 ·rw [at_ge (by rw [put_len', put_len']; omega), at_ge (by rw [put_len', put_len']; omega)]
 by_cases h1 : i = a
 ·subst h1
  rw [lone_ne lb1 hab, lone_eq hua hl, lone_eq hua (by rw [put_len']; exact hl)]
 ·by_cases h2 : i = b
  ·subst h2
   rw [lone_eq hvb (by rw [put_len']; exact hl), lone_ne la1 h1, lone_eq hvb hl]
  ·rw [lone_ne lb1 h2, lone_ne la h1, lone_ne la1 h1, lone_ne lb h2]
theorem ld_step {i : Nat} {o : Oper} {T : TypeId} {a x : Nat} (ho : ops[i]? = some o) (hg : o.guard = none) (hd : o.dst = some a) (hop : o.op = .load T (.tmp x)) (S : St) (K : St → Option Ret) : peStep h O ops i S K = (ldV h.tab S T x).bind fun r => K (S.put (some a) r) := by
 unfold peStep
 rw [ho]
 simp only [hg]
 unfold peOp
 rw [hop]
 simp only [ev, hop, hd, ld_eq]
 cases ldV h.tab S T x <;> rfl
theorem ld_comm {i j : Nat} {oi oj : Oper} (hi : ops[i]? = some oi) (hj : ops[j]? = some oj) (hx : ldB oi oj = true) {S : St} (hSi : Closed (inL (dstL oi)) S) (hSj : Closed (inL (dstL oj)) S) (K : St → Option Ret) :
  peStep h O ops i S (fun S1 => peStep h O ops j S1 K) = peStep h O ops j S (fun S1 => peStep h O ops i S1 K) := by
 unfold ldB at hx
 split at hx
 case h_2 => cases hx
 rename_i a b T x T' y g1 g2 d1 d2 o1 o2
 simp only [Bool.and_eq_true, Bool.not_eq_true'] at hx
 obtain ⟨e1, e2, e3, e4, e5⟩ := hx
 have ne : ∀ {p q : Nat}, Nat.beq p q = false → p ≠ q := fun e h => by rw [h, Nat.beq_refl] at e; cases e
 have e1 := ne e1
 have e2 := ne e2
 have e3 := ne e3
 have e4 := ne e4
 have e5 := ne e5
 unfold dstL at hSi hSj
 rw [d1] at hSi
 rw [d2] at hSj
 have la := lone_of hSi
 have lb := lone_of hSj
 simp only [ld_step hi g1 d1 o1, ld_step hj g2 d2 o2]
 -- what stands elsewhere stays
 have keep : ∀ {c : Nat} {u : AV}, Lone c S → ∀ k, k ≠ c → (S.put (some c) u).at k = S.at k := fun {c u} lc k hk => by
  rw [put_at, if_neg (fun e => hk e.1)]
  cases hq : (S.at k).refs c with
  | false => rfl
  | true => exact absurd (lc k hq) hk
 have root : ∀ {c z : Nat}, Lone c S → c ≠ z → rootOf z (S.at z) ≠ c := fun {c z} lc hz e => by
  rcases root_refs (x := z) (a := S.at z) with h1 | h1
  ·exact hz (by rw [← e, h1])
  ·rw [e] at h1; exact hz (lc z h1).symm
 have ey : ∀ u, ldV h.tab (S.put (some a) u) T' y = ldV h.tab S T' y := fun u => ldV_congr (keep la y (Ne.symm e3)) (keep la _ (root la e3))
 have ex : ∀ u, ldV h.tab (S.put (some b) u) T x = ldV h.tab S T x := fun u => ldV_congr (keep lb x (Ne.symm e4)) (keep lb _ (root lb e4))
 simp only [ey, ex]
 cases hu : ldV h.tab S T x with
 | none => cases ldV h.tab S T' y <;> rfl
 | some u =>
  cases hv : ldV h.tab S T' y with
  | none => rfl
  | some v =>
   simp only [Option.bind_some]
   have rf : ∀ {c z : Nat} {T : TypeId} {r : AV}, ldV h.tab S T z = some r → Lone c S → c ≠ z → r.refs c = false := fun {c z T r} hr lc hz => by
    cases hq : r.refs c with
    | false => rfl
    | true => exact absurd (ldV_refs hr c hq).symm (root lc hz)
   rw [put_comm2 e1 (rf hu la e2) (rf hu lb e4) (rf hv la e3) (rf hv lb e5) la lb]
theorem eqN_same : ∀ (a b : List Nat), eqN a b = true → a = b
 | [], [], _ => rfl
 | x :: r, y :: s, h => by
  simp only [eqN, Bool.and_eq_true] at h
  rw [Nat.eq_of_beq_eq_true h.1, eqN_same r s h.2]
theorem cross_keep {T : TypeId} {x d : Nat} {r : AV} {i : TI} (hT : Θ.find T = some i) (hf : i.ty.flat = true) (e : ldV Θ S T x = some r) (hS : Closed Δ S) : Closed Δ (S.put (some d) r) := by
 have hr : ∀ s, r.refs s = false := by
  unfold ldV at e
  cases hg : S.tgt (.tmp x) (S.at x) with
  | none => rw [hg] at e; cases e
  | some g =>
   rw [hg] at e
   simp only at e
   cases hl : S.loadAt g with
   | none => rw [hl] at e; cases e
   | some r' =>
    rw [hl] at e
    simp only at e
    cases hq : (fitR g.ty r' && Θ.is T g.ty) with
    | false => rw [hq] at e; cases e
    | true =>
     rw [hq] at e
     simp only [cond_true, Option.some.injEq] at e
     subst e
     simp only [Bool.and_eq_true] at hq
     obtain ⟨h1, h2⟩ := hq
     have hty : i.ty = g.ty := by
      unfold Tab.is at h2
      rw [hT] at h2
      simpa using h2
     unfold St.loadAt at hl
     split at hl
     ·injection hl with hl; rw [← hl]; intro s; rfl
     ·split at hl
      case h_2 => cases hl
      rename_i a _
      cases ha : a.m.isK with
      | true =>
       rw [ha] at hl
       simp only [cond_true] at hl
       split at hl
       ·injection hl with hl; rw [← hl]; intro s; rfl
       ·cases hl
      | false =>
       rw [ha] at hl
       simp only [cond_false, Option.some.injEq] at hl
       rw [← hl] at h1
       unfold fitR at h1
       rw [← hty, hf] at h1
       cases h1
 intro k s hs
 rw [put_at] at hs
 split at hs
 ·cases hq : r.refs d with
  | true => rw [hr] at hq; cases hq
  | false => rw [hq, cond_false, hr] at hs; cases hs
 ·revert hs
  cases (S.at k).refs d && (S.at d).isV with
  | true => intro hs; cases hs
  | false => intro hs; exact hS k s hs
theorem step_one (hO : ODet O) {i : Nat} {o : Oper} (ho : ops[i]? = some o) (hn : nilT o.op = false) (e : peStep h O ops i S K = some ret) : ∃ X, (∀ K, peStep h O ops i S K = K X) ∧ K X = some ret ∧ ∀ d, keepB h.tab d o = true → Closed (inL d) S → Closed (inL d) X := by
 obtain ⟨ro, h1⟩ := peStep_det (h := h) (O := O) (ops := ops) hO i (fun o' ho' => by rw [ho] at ho'; injection ho' with ho'; subst ho'; exact hn) S
 cases ro with
 | none => rw [h1] at e; cases e
 | some X =>
  refine ⟨X, fun K => h1 K, by rw [h1] at e; exact e, fun d hk hS => ?_⟩
  unfold keepB at hk
  simp only [Bool.or_eq_true] at hk
  rcases hk with ht | ht | ht
  ·have := step_reach (h := h) (O := O) (K := fun _ => some ⟨[], []⟩) hS ho ht (fun X => closedL (inL d) X 0) (fun X hX => closedL_iff.2 hX)
   simp only [h1, Option.bind_some] at this
   cases hc : closedL (inL d) X 0 with
   | true => exact closedL_iff.1 hc
   | false => rw [hc] at this; cases this
  ·have := step_reach (h := h) (O := O) (K := fun _ => some ⟨[], []⟩) (closed_out.2 hS) ho ht (fun X => closedL (inL d) X 0) (fun X hX => closedL_iff.2 (closed_out.1 hX))
   simp only [h1, Option.bind_some] at this
   cases hc : closedL (inL d) X 0 with
   | true => exact closedL_iff.1 hc
   | false => rw [hc] at this; cases this
  ·unfold crossB at ht
   split at ht
   case h_2 => cases ht
   rename_i d' T x g1 g2 g3
   split at ht
   case h_2 => cases ht
   rename_i ti hti
   have h2 := fun K => (ld_step (h := h) (O := O) ho g1 g2 g3 S K).symm.trans (h1 K)
   cases hv : ldV h.tab S T x with
   | none => have := h2 (fun _ => some ⟨[], []⟩); rw [hv] at this; cases this
   | some r =>
    have hX : S.put (some d') r = X := by
     refine Classical.byContradiction fun hne => ?_
     have := h2 (fun Y => open Classical in if Y = X then some ⟨[], []⟩ else none)
     rw [hv] at this
     simp only [Option.bind_some, if_neg hne, if_true] at this
     cases this
    rw [← hX]
    exact cross_keep hti ht hv hS
theorem comm_ok (hO : ODet O) {us : List (List Nat)} (hw : ∀ d ∈ us, Closed (inL d) S) {i j : Nat} {oi oj : Oper} (hi : ops[i]? = some oi) (hj : ops[j]? = some oj) (hp : commB us oi oj = true) :
  peStep h O ops i S (fun S1 => peStep h O ops j S1 K) = peStep h O ops j S (fun S1 => peStep h O ops i S1 K) := by
 unfold commB at hp
 simp only [Bool.or_eq_true, Bool.and_eq_true] at hp
 rcases hp with hp | ⟨h1, h2, h3⟩ | hp
 ·exact ex_comm hi hj hp S K
 ·have mem : ∀ d, memLL us d = true → d ∈ us := fun d hd => by
   unfold memLL at hd
   obtain ⟨e, he, hq⟩ := List.any_eq_true.1 hd
   rw [eqN_same _ _ hq]; exact he
  exact ld_comm hi hj h1 (hw _ (mem _ h2)) (hw _ (mem _ h3)) K
 ·unfold sepB at hp
  obtain ⟨d, hd, hp⟩ := List.any_eq_true.1 hp
  simp only [Bool.or_eq_true, Bool.and_eq_true] at hp
  rcases hp with ⟨h1, h2⟩ | ⟨h1, h2⟩
  ·exact steps_comm hO (hw d hd) hi hj h1 h2
  ·exact steps_comm hO (closed_out.2 (hw d hd)) hi hj h1 (by rw [outL_not]; exact h2)
theorem par_front2 (hO : ODet O) {U : Nat → List (List Nat)} {j : Nat} {oj : Oper} (hj : ops[j]? = some oj) : ∀ (p r : List Nat) {S : St} {K : St → Option Ret} {ret : Ret}, (∀ x ∈ p, ∃ ox, ops[x]? = some ox ∧ nilT ox.op = false ∧ commB (U x) ox oj = true ∧ ∀ d ∈ U x, Closed (inL d) S) →
  p.Pairwise (fun y x => ∀ d ∈ U x, ∀ oy, ops[y]? = some oy → keepB h.tab d oy = true) →
  peIdx h O ops (p ++ j :: r) S K = some ret → peStep h O ops j S (fun S1 => peIdx h O ops (p ++ r) S1 K) = some ret
 | [], r, S, K, ret, hp, _, e => e
 | x :: p, r, S, K, ret, hp, hk, e => by
  obtain ⟨ox, hx, hn, hc, hw⟩ := hp x (by simp)
  simp only [List.cons_append, peIdx] at e ⊢
  obtain ⟨X, h1, h3, h2⟩ := step_one hO hx hn e
  rw [List.pairwise_cons] at hk
  have h4 := par_front2 hO hj p r (fun y hy => by
   obtain ⟨oy, y1, y2, y3, y4⟩ := hp y (by simp [hy])
   exact ⟨oy, y1, y2, y3, fun d hd => h2 d (hk.1 y hy d hd ox hx) (y4 d hd)⟩) hk.2 h3
  rw [← comm_ok hO hw hx hj hc, h1]
  exact h4
def parOK (Θ : Tab) (ops : Array Oper) (as : List Nat) (ds : List (List Nat)) (l : List Nat) (i j : Nat) : Prop := ∃ oi oj, ops[i]? = some oi ∧ ops[j]? = some oj ∧ i ≠ j ∧ Nat.testBit (waitM j as 0 0) i = false ∧ (Nat.testBit (waitM i as 0 0) j = true ∨ commB (ds.filter (useB Θ ops as l i j)) oi oj = true)
theorem parPairs_spec {as : List Nat} {ds : List (List Nat)} {q : List Nat} : ∀ {l : List Nat}, parPairs Θ ops as ds q l = true ↔ l.Pairwise (parOK Θ ops as ds q)
 | [] => by simp [parPairs]
 | i :: r => by
  simp only [parPairs, Bool.and_eq_true, List.all_eq_true, List.pairwise_cons]
  rw [parPairs_spec]
  refine and_congr ?_ Iff.rfl
  refine forall_congr' fun j => ?_
  refine imp_congr Iff.rfl ?_
  unfold parOK
  cases hi : ops[i]? with
  | none => simp
  | some oi =>
   cases hj : ops[j]? with
   | none => simp
   | some oj =>
    simp only [Bool.and_eq_true, Bool.not_eq_true', Bool.or_eq_true, Option.some.injEq]
    constructor
    ·rintro ⟨h1, h2⟩
     exact ⟨oi, oj, rfl, rfl, (fun e => by rw [e, Nat.beq_refl] at h1; cases h1), h2⟩
    ·rintro ⟨_, _, rfl, rfl, h1, h2⟩
     refine ⟨?_, h2⟩
     cases hq : Nat.beq i j with
     | false => rfl
     | true => exact absurd (Nat.eq_of_beq_eq_true hq) h1
theorem useB_spec {as l : List Nat} {i j z : Nat} {d : List Nat} (h : useB Θ ops as l i j d = true) (hz : z ∈ l) (h1 : z ≠ i) (h2 : z ≠ j) (h3 : Nat.testBit (waitM i as 0 0) z = false) (h4 : Nat.testBit (waitM j as 0 0) z = false) {oz : Oper} (ho : ops[z]? = some oz) : keepB Θ d oz = true := by
 unfold useB at h
 have h5 := List.all_eq_true.1 h z hz
 rw [h3, h4, ho] at h5
 simp only [Bool.or_eq_true, Bool.false_or] at h5
 rcases h5 with h5 | h5 | h5
 ·exact absurd (Nat.eq_of_beq_eq_true h5) h1
 ·exact absurd (Nat.eq_of_beq_eq_true h5) h2
 ·exact h5
theorem useB_sub {as l l' : List Nat} {i j : Nat} {d : List Nat} (hl : ∀ z ∈ l', z ∈ l) (h : useB Θ ops as l i j d = true) : useB Θ ops as l' i j d = true := List.all_eq_true.2 fun z hz => List.all_eq_true.1 h z (hl z hz)
theorem commB_mono {us us' : List (List Nat)} (hu : ∀ d ∈ us, d ∈ us') {oi oj : Oper} (h : commB us oi oj = true) : commB us' oi oj = true := by
 have any : ∀ f : List Nat → Bool, us.any f = true → us'.any f = true := fun f hf => by
  obtain ⟨d, hd, hq⟩ := List.any_eq_true.1 hf
  exact List.any_eq_true.2 ⟨d, hu d hd, hq⟩
 unfold commB at h ⊢
 simp only [Bool.or_eq_true, Bool.and_eq_true] at h ⊢
 rcases h with h | ⟨h1, h2, h3⟩ | h
 ·exact .inl h
 ·exact .inr (.inl ⟨h1, any _ h2, any _ h3⟩)
 ·exact .inr (.inr (any _ h))
end Go.Pv
namespace Go.Pv
set_option linter.unusedVariables false
set_option linter.unusedSimpArgs false
def zc : Ty → List Value
 | .int k => [.int k 0] | .bool => [.bool false] | .str => [.string ByteArray.empty] | .sl _ => [.slice none 0 0] | .ptr _ => [.pointer none]
 | .pair a b => zc a ++ zc b | .unit => [] | .arr n t => (List.replicate n (zc t)).flatten
def tyAt : Path → Ty → Option Ty
 | [], t => some t
 | .fst :: p, .pair a _ => tyAt p a
 | .snd :: p, .pair _ b => tyAt p b
 | _, _ => none
def veq : Value → Value → Bool
 | .int k n, .int k' n' => decide (k = k') && decide (n = n')
 | .bool a, .bool b => a == b
 | .string a, .string b => a.data.toList == b.data.toList
 | .slice none a b, .slice none c d => Nat.beq a c && Nat.beq b d
 | .pointer none, .pointer none => true
 | _, _ => false
def veqs : List Value → List Value → Bool
 | [], [] => true
 | a :: r, b :: s => veq a b && veqs r s
 | _, _ => false
theorem veq_eq {a b : Value} (h : veq a b = true) : a = b := by
 unfold veq at h
 split at h <;> simp at h
 ·obtain ⟨rfl, rfl⟩ := h; rfl
 ·subst h; rfl
 ·rename_i a b
  cases a; cases b
  simp at h
  rw [h]
 ·obtain ⟨rfl, rfl⟩ := h; rfl
 ·rfl
theorem veqs_eq : ∀ {a b : List Value}, veqs a b = true → a = b
 | [], [], _ => rfl
 | a :: r, b :: s, h => by
  simp only [veqs, Bool.and_eq_true] at h
  rw [veq_eq h.1, veqs_eq h.2]
 | [], _ :: _, h => by simp [veqs] at h
 | _ :: _, [], h => by simp [veqs] at h
def zOK (t : Ty) (z : Value) : Bool := match isAgg t, z with
 | true, .agg cs => veqs cs.toList (zc t)
 | true, _ => false
 | false, z => veqs [z] (zc t)
theorem zOK_match {t : Ty} {z : Value} (h : zOK t z = true) : matchV t z (zc t) := by
 unfold zOK at h
 unfold matchV
 split at h
 ·rename_i ha
  rw [if_pos ha, ← veqs_eq h]
 ·cases h
 ·rename_i ha
  rw [if_neg (by simp [ha]), ← veqs_eq h]
def fieldsOK (Θ : Tab) (ty : Ty) (n : Nat) : List Field → Nat → Bool
 | [], _ => true
 | f :: r, k => (match tyAt (fld k n) ty with
  | some t => Θ.is f.type t && Nat.beq f.offset (fldOff (fld k n) ty) && Nat.blt 0 t.size
  | none => false) && fieldsOK Θ ty n r (k + 1)
def undOK (P : Program) (Θ : Tab) (i : TI) : Bool := match i.ty, P.underlying i.T with
 | .int k, some (.int k') => decide (k = k')
 | .bool, some .bool => true
 | .str, some .string => true
 | .sl t, some (.slice e) => Nat.beq e i.e && Θ.is e t && Nat.blt 0 t.size
 | .pair _ _, some (.struct fs) => decide (fs.toList.map (·.type) = i.fs) && fieldsOK Θ i.ty fs.size fs.toList 0 && !P.eqGuardType P.depth i.T && !P.stoodInHeld i.T && fs.toList.all (fun f => f.name != "_")
 | _, _ => false
def infOK (i : TI) (inf : TypeInfo) : Bool := Nat.beq inf.size i.ty.size && Nat.ble i.ty.size 9000 && Nat.ble inf.bytes (32 * i.ty.size) && Nat.ble inf.bytes 256 && Nat.blt 0 inf.bytes && match inf.zero with
 | some z => zOK i.ty z
 | none => false
def Ty.ht : Ty → Nat
 | .pair a b => max a.ht b.ht + 1
 | _ => 0
def uOK (i : TI) : Bool := Nat.ble i.ty.ht 9000 && match i.fs, i.ty with
 | [_], .pair _ .unit => true
 | [_], _ => false
 | [], .pair _ _ => false
 | _, _ => true
def tiOK (P : Program) (Θ : Tab) (i : TI) : Bool := ((match P.info? i.T with
 | some inf => infOK i inf
 | none => false) && undOK P Θ i) && uOK i
def tabB (P : Program) (Θ : Tab) : Bool := Θ.all (tiOK P Θ)
structure InfOK (P : Program) (i : TI) : Prop where
 small : i.ty.size ≤ 9000
 out : ∃ inf z, P.info? i.T = some inf ∧ inf.size = i.ty.size ∧ inf.bytes ≤ 32 * i.ty.size ∧ inf.bytes ≤ 256 ∧ 0 < inf.bytes ∧ inf.zero = some z ∧ matchV i.ty z (zc i.ty)
theorem find_mem {Θ : Tab} {T : TypeId} {i : TI} (h : Θ.find T = some i) : i ∈ Θ ∧ i.T = T := by
 induction Θ with
 | nil => simp [Tab.find] at h
 | cons j r ih =>
  simp only [Tab.find] at h
  cases hb : Nat.beq j.T T with
  | true =>
   rw [hb] at h
   simp only [cond_true, Option.some.injEq] at h
   subst h
   exact ⟨by simp, Nat.eq_of_beq_eq_true hb⟩
  | false =>
   rw [hb] at h
   simp only [cond_false] at h
   exact ⟨List.mem_cons_of_mem _ (ih h).1, (ih h).2⟩
theorem tab_ti {P : Program} {Θ : Tab} (hT : tabB P Θ = true) {T : TypeId} {i : TI} (h : Θ.find T = some i) : InfOK P i ∧ undOK P Θ i = true ∧ i.T = T := by
 have h1 := List.all_eq_true.1 hT i (find_mem h).1
 simp only [tiOK, Bool.and_eq_true] at h1
 refine ⟨?_, h1.1.2, (find_mem h).2⟩
 have h2 := h1.1.1
 split at h2
 ·rename_i inf hi
  simp only [infOK, Bool.and_eq_true] at h2
  obtain ⟨⟨⟨⟨⟨a, sm⟩, b⟩, b'⟩, b''⟩, c⟩ := h2
  split at c
  ·rename_i z hz
   exact ⟨Nat.le_of_ble_eq_true sm, ⟨inf, z, hi, Nat.eq_of_beq_eq_true a, Nat.le_of_ble_eq_true b, Nat.le_of_ble_eq_true b', Nat.lt_of_succ_le (Nat.le_of_ble_eq_true b''), hz, zOK_match c⟩⟩
  ·cases c
 ·cases h2
theorem tab_u {P : Program} {Θ : Tab} (hT : tabB P Θ = true) {T : TypeId} {i : TI} (h : Θ.find T = some i) : uOK i = true := by
 have h1 := List.all_eq_true.1 hT i (find_mem h).1
 simp only [tiOK, Bool.and_eq_true] at h1
 exact h1.2
theorem is_find {Θ : Tab} {T : TypeId} {t : Ty} (h : Θ.is T t = true) : ∃ i, Θ.find T = some i ∧ i.ty = t := by
 unfold Tab.is at h
 split at h
 ·rename_i i hi; exact ⟨i, hi, by simpa using h⟩
 ·cases h
theorem und_sl {P : Program} {Θ : Tab} {i : TI} {t : Ty} (h : undOK P Θ i = true) (ht : i.ty = .sl t) : P.underlying i.T = some (.slice i.e) ∧ Θ.is i.e t = true ∧ 0 < t.size := by
 unfold undOK at h
 rw [ht] at h
 split at h <;> simp_all
 obtain ⟨⟨a, b⟩, c⟩ := h
 rw [← a]
 exact b
theorem und_int {P : Program} {Θ : Tab} {i : TI} {k : IntKind} (h : undOK P Θ i = true) (ht : i.ty = .int k) : P.underlying i.T = some (.int k) := by
 unfold undOK at h
 rw [ht] at h
 split at h <;> simp_all
theorem und_bool {P : Program} {Θ : Tab} {i : TI} (h : undOK P Θ i = true) (ht : i.ty = .bool) : P.underlying i.T = some .bool := by
 unfold undOK at h
 rw [ht] at h
 split at h <;> simp_all
theorem und_str {P : Program} {Θ : Tab} {i : TI} (h : undOK P Θ i = true) (ht : i.ty = .str) : P.underlying i.T = some .string := by
 unfold undOK at h
 rw [ht] at h
 split at h <;> simp_all
theorem und_pair {P : Program} {Θ : Tab} {i : TI} {a b : Ty} (h : undOK P Θ i = true) (ht : i.ty = .pair a b) : ∃ fs, P.underlying i.T = some (.struct fs) ∧ fs.toList.map (·.type) = i.fs ∧ fieldsOK Θ i.ty fs.size fs.toList 0 = true ∧ P.eqGuardType P.depth i.T = false ∧ P.stoodInHeld i.T = false ∧ ∀ f ∈ fs, f.name ≠ "_" := by
 unfold undOK at h
 rw [ht] at h
 split at h <;> simp_all
 intro f hf
 obtain ⟨k, hk, rfl⟩ := Array.mem_iff_getElem.1 hf
 exact h.2 k hk
theorem und_not {P : Program} {Θ : Tab} {i : TI} (h : undOK P Θ i = true) : (∃ d, P.underlying i.T = some d) ∧ (∀ t, i.ty ≠ .ptr t) ∧ (∀ n t, i.ty ≠ .arr n t) ∧ i.ty ≠ .unit := by
 unfold undOK at h
 split at h <;> simp_all
theorem fieldsOK_at {Θ : Tab} {ty : Ty} {n : Nat} : ∀ {l : List Field} {k0 : Nat}, fieldsOK Θ ty n l k0 = true → ∀ k f, l[k]? = some f → ∃ t, tyAt (fld (k0 + k) n) ty = some t ∧ Θ.is f.type t = true ∧ f.offset = fldOff (fld (k0 + k) n) ty ∧ 0 < t.size
 | [], _, _, k, f, h => by simp at h
 | g :: r, k0, hok, k, f, h => by
  simp only [fieldsOK, Bool.and_eq_true] at hok
  cases k with
  | zero =>
   simp only [List.getElem?_cons_zero, Option.some.injEq] at h
   subst h
   have := hok.1
   split at this
   ·rename_i t ht
    simp only [Bool.and_eq_true] at this
    exact ⟨t, ht, this.1.1, Nat.eq_of_beq_eq_true this.1.2, Nat.lt_of_succ_le (Nat.le_of_ble_eq_true this.2)⟩
   ·cases this
  | succ k =>
   simp only [List.getElem?_cons_succ] at h
   have := fieldsOK_at hok.2 k f h
   rw [show k0 + 1 + k = k0 + (k + 1) from by omega] at this
   exact this
theorem size_is {P : Program} {Θ : Tab} (hT : tabB P Θ = true) {T : TypeId} {t : Ty} (h : Θ.is T t = true) : ∃ inf, P.info? T = some inf ∧ inf.size = t.size ∧ P.cellsOf T = t.size := by
 obtain ⟨i, hi, rfl⟩ := is_find h
 obtain ⟨⟨_, inf, z, h1, h2, _⟩, _, rfl⟩ := tab_ti hT hi
 exact ⟨inf, h1, h2, by simp [Program.cellsOf, h1, h2]⟩
theorem agg_is {P : Program} {Θ : Tab} (hT : tabB P Θ = true) {T : TypeId} {t : Ty} (h : Θ.is T t = true) (w : World) : (Go.isAgg T).run P w = .ok (isAgg t) w := by
 obtain ⟨i, hi, rfl⟩ := is_find h
 obtain ⟨_, hu, rfl⟩ := tab_ti hT hi
 have hn := und_not hu
 unfold undOK at hu
 unfold Go.isAgg
 split at hu <;> simp_all [underlying, program, isAgg, Sem.run]
end Go.Pv
namespace Go.Pv
set_option linter.unusedVariables false
set_option linter.unusedSimpArgs false
variable {w w' : World} {A A' : Nat → Prop} {H : Nat → Value} {tm tm' : Nat → Value} {S S' : St} {σ : Nat → Option Nat} {w0 : World} {W0 Z : Nat → Prop} {a : Act} {own : Nat → Prop} {v : Value} {Θ : Tab}
theorem addr_add (g off n : Nat) : (⟨g, off, none⟩ : Addr).add n = ⟨g, off + n, none⟩ := by
 unfold Addr.add
 split
 ·rename_i h; subst h; rfl
 ·rfl
theorem K_cut {t : Ty} {xs : List t.I} {X : Option Addr} {c lo hi : Nat} (h : K w A (.sl t) xs [.slice X xs.length c]) (h1 : lo ≤ hi) (h2 : hi ≤ xs.length) :
  K w A (.sl t) ((xs.take hi).drop lo) [.slice (if c = lo then X else X.map (·.add (lo * t.size))) (hi - lo) (c - lo)] := by
 simp only [K] at h ⊢
 obtain ⟨X', c', e, hc, h⟩ := h
 simp only [List.cons.injEq, Value.slice.injEq, and_true, true_and] at e
 obtain ⟨rfl, rfl⟩ := e
 have hl : ((xs.take hi).drop lo).length = hi - lo := by rw [List.length_drop, List.length_take]; omega
 refine ⟨_, _, by rw [hl], by omega, fun hp => ?_⟩
 rw [hl] at hp
 obtain ⟨g, off, cur, T, fr, rfl, hg, hw, ho, hj⟩ := h (by omega)
 have e1 : (lo + (hi - lo)) * t.size ≤ xs.length * t.size := Nat.mul_le_mul_right _ (by omega)
 rw [Nat.add_mul] at e1
 refine ⟨g, off + lo * t.size, cur, T, fr, ?_, hg, hw, by rw [hl]; omega, fun j hj1 => ?_⟩
 rotate_left
 ·have hj2 : j < hi - lo := by rw [← hl]; exact hj1
  have := hj (lo + j) (by omega)
  rw [show ((xs.take hi).drop lo)[j] = xs[lo + j]'(by omega) from by simp]
  rw [show off + lo * t.size + j * t.size = off + (lo + j) * t.size from by rw [Nat.add_mul]; omega]
  exact this
 ·rw [if_neg (by omega)]
  simp only [Option.map_some, addr_add]
theorem ref_focus (h : RelS σ w0 W0 Z H S a w) {t : Ty} {s : Nat} {p : Path} {r : TV} {cs0 : List Value} (hr : Ref (tmOf a) S t s p r cs0) :
  ∃ ex b cs' ow', S.at s = .v r ex ∧ open_ p ex ∧ getP p r.t r.m r.x = some b ∧ b.t = t ∧ M w (Av σ Z) H r.t r.m r.x cs0 (fun g => σ g = some s) ex ∧
   cellsAt w p r.t cs0 = some cs' ∧ (∀ g, ow' g → σ g = some s) ∧ M w (Av σ Z) H b.t b.m b.x cs' ow' (subs p ex) := by
 obtain ⟨⟨ex, h1, h2⟩, h3, ⟨b, h4, h5⟩, h6⟩ := hr
 have hh := h.holds s
 rw [h1] at hh
 obtain ⟨cs, hm, hM⟩ := hh
 obtain rfl := matchV_inj h6 hm
 obtain ⟨cs', ow', k1, k2, k3⟩ := focus p hM h2 h3 h4
 exact ⟨ex, b, cs', ow', h1, h2, h4, h5, hM, k1, k2, k3⟩
theorem place_read (h : RelS σ w0 W0 Z H S a w) {t : Ty} {s : Nat} {p : Path} {r : TV} {cs0 cs : List Value} {b : TV} (hr : Ref (tmOf a) S t s p r cs0) (hc : cellsAt w p r.t cs0 = some cs) (hp : S.place s p = some b) :
  b.t = t ∧ ∃ ow', (∀ g, ow' g → σ g = some s) ∧ M w (Av σ Z) H b.t b.m b.x cs ow' [] := by
 obtain ⟨ex, b', cs', ow', h1, h2, h3, h4, hM, k1, k2, k3⟩ := ref_focus h hr
 unfold St.place at hp
 rw [h1] at hp
 simp only at hp
 cases hall : ex.all fun q => !clash q p with
 | false => rw [hall] at hp; cases hp
 | true =>
  rw [hall] at hp
  simp only [cond_true] at hp
  rw [h3] at hp
  injection hp with hp
  subst hp
  rw [k1] at hc
  injection hc with hc
  subst hc
  rw [subs_of_clash (fun q hq => by simpa using List.all_eq_true.1 hall q hq)] at k3
  exact ⟨h4, ow', k2, k3⟩
theorem rdA_spec (h : RelS σ w0 W0 Z H S a w) {av : AV} {b : TV} (hh : Holds w (Av σ Z) H (tmOf a) S own av v) (e : S.rdA av = some b) :
  ∃ cs, matchV b.t v cs ∧ K w (fun _ => False) b.t b.x cs ∧ (b.m.isK = true → K w (Av σ Z) b.t b.x cs) := by
 cases av with
 | v a ex =>
  cases ex with
  | cons _ _ => simp [St.rdA] at e
  | nil =>
   simp only [St.rdA, Option.some.injEq] at e
   subst e
   obtain ⟨cs, h1, h2⟩ := hh
   exact ⟨cs, h1, M_read h2, fun hk => M_isK _ hk h2⟩
 | al t s p =>
  simp only [St.rdA] at e
  obtain ⟨r, cs0, cs, hr, hc, hm⟩ := hh
  obtain ⟨rfl, ow', k2, k3⟩ := place_read h hr hc e
  exact ⟨cs, hm, M_read k3, fun hk => M_isK _ hk k3⟩
 | cut t s p lo hi =>
  simp only [St.rdA] at e
  obtain ⟨r, cs0, t', X, n, c, hr, rfl, hc, hlo, hhi, rfl⟩ := hh
  cases hp : S.place s p with
  | none => rw [hp] at e; cases e
  | some b' =>
   obtain ⟨ht, ow', k2, k3⟩ := place_read h hr hc hp
   obtain ⟨bt, bm, bx⟩ := b'
   simp only at ht
   subst ht
   rw [hp] at e
   simp only [Option.some.injEq] at e
   subst e
   have hK := M_read k3
   have hn : n = List.length bx := by
    simp only [K] at hK
    obtain ⟨_, _, e, _⟩ := hK
    simp only [List.cons.injEq, Value.slice.injEq, and_true] at e
    exact e.2.1
   subst hn
   exact ⟨_, by simp [matchV, isAgg], K_cut hK hlo hhi, fun hk => K_cut (M_isK _ hk k3) hlo hhi⟩
 | _ => simp [St.rdA] at e
theorem rd_spec (h : RelS σ w0 W0 Z H S a w) {T : TypeId} {x : Operand} {b : TV} (e : S.rd Θ T x = some b) :
  ∃ cs, matchV b.t (a.eval x) cs ∧ K w (fun _ => False) b.t b.x cs ∧ (b.m.isK = true → K w (Av σ Z) b.t b.x cs) := by
 unfold St.rd at e
 split at e
 ·rename_i av hav
  exact rdA_spec h (opv_holds h hav) e
 ·cases e
theorem match_int {k : IntKind} {v : Value} {cs : List Value} {x : Int} (h : matchV (.int k) v cs) (hk : K w A (.int k) x cs) : v = .int k x := by
 simp only [K] at hk; simp only [matchV, isAgg] at h; subst hk; simpa using h.symm
theorem match_bool {v : Value} {cs : List Value} {x : Bool} (h : matchV .bool v cs) (hk : K w A .bool x cs) : v = .bool x := by
 simp only [K] at hk; simp only [matchV, isAgg] at h; subst hk; simpa using h.symm
theorem match_str {v : Value} {cs : List Value} {x : ByteArray} (h : matchV .str v cs) (hk : K w A .str x cs) : v = .string x := by
 simp only [K] at hk; simp only [matchV, isAgg] at h; subst hk; simpa using h.symm
theorem match_sl {t : Ty} {v : Value} {cs : List Value} {x : List t.I} (h : matchV (.sl t) v cs) (hk : K w A (.sl t) x cs) : ∃ X c, v = .slice X x.length c ∧ cs = [.slice X x.length c] ∧ x.length ≤ c := by
 have hk' := hk
 simp only [K] at hk'
 obtain ⟨X, c, rfl, hc, _⟩ := hk'
 simp only [matchV, isAgg] at h
 exact ⟨X, c, by simpa using h.symm, rfl, hc⟩
theorem rdInt_spec (h : RelS σ w0 W0 Z H S a w) {x : Operand} {n : Int} (e : S.rdInt Θ x = some n) : ∃ k, a.eval x = .int k n := by
 unfold St.rdInt at e
 split at e
 ·rename_i k m n' hb
  injection e with e
  subst e
  obtain ⟨cs, h1, h2, _⟩ := rd_spec h hb
  exact ⟨k, match_int h1 h2⟩
 ·cases e
theorem holds_scalar {t : Ty} {x : t.I} {v : Value} {cs : List Value} (h : matchV t v cs) (hk : K w A t x cs) : Holds w A H tm S (fun _ => False) (.v ⟨t, .k, x⟩ []) v := ⟨cs, h, M_of_K t hk⟩
theorem holds_int (k : IntKind) (n : Int) : Holds w A H tm S (fun _ => False) (.v ⟨.int k, .k, n⟩ []) (.int k n) := holds_scalar (cs := [.int k n]) (by simp [matchV, isAgg]) (by simp [K])
theorem holds_bool (b : Bool) : Holds w A H tm S (fun _ => False) (.v ⟨.bool, .k, b⟩ []) (.bool b) := holds_scalar (cs := [.bool b]) (by simp [matchV, isAgg]) (by simp [K])
theorem holds_str (b : ByteArray) : Holds w A H tm S (fun _ => False) (.v ⟨.str, .k, b⟩ []) (.string b) := holds_scalar (cs := [.string b]) (by simp [matchV, isAgg]) (by simp [K])
end Go.Pv
