/- A verified evaluator of the program's form over pure values, part 2: what it tells of a function holds. -/
import Derived.Test.YthdoldaaodmeeaaDoorPv1
import Derived.Deep.AppendSrc
import Derived.Deep.Upon
import Derived.Laws.CopyRow
import Derived.Laws.MakeOwn
import Derived.Laws.OwnMore
import Derived.Laws.Tables
import Derived.Maps.AppendAt
namespace Go.Pv
set_option linter.unusedVariables false
set_option linter.unusedSimpArgs false
variable {P : Program} {w w' : World} {A A' Wr : Nat → Prop} {H : Nat → Value} {tm tm' : Nat → Value} {S S' S1 : St} {σ : Nat → Option Nat} {w0 : World} {W0 Z : Nat → Prop} {a : Act} {own : Nat → Prop} {v : Value} {Θ : Tab} {dst : Option Nat}

/-- What stands at a place is taken out of it: a hole is left. -/
theorem punch : ∀ (p : Path) {t : Ty} {m : Md} {x : t.I} {cs : List Value} {ow : Nat → Prop} {hs : List Path} {b : TV}, M w Wr H t m x cs ow hs → open_ p hs → valid p t x → getP p t m x = some b → b.m.isK = false →
    ∃ cs' ow', cellsAt w p t cs = some cs' ∧ (∀ g, ow' g → ow g) ∧ M w Wr H b.t b.m b.x cs' ow' (subs p hs) ∧ M w Wr H t m x cs (fun g => ow g ∧ ¬ ow' g) (hs ++ [p])
  | [], t, m, x, cs, ow, hs, b, h, ho, hv, hg, hk => by
    simp only [getP, Option.some.injEq] at hg
    subst hg
    refine ⟨cs, ow, rfl, fun _ h => h, h, ?_⟩
    simp only at hk
    have hok := M_ok t h
    cases t <;> simp only [M] at h ⊢ <;> first
      | (rw [hk] at h; exact absurd h.1 (by simp))
      | (exact .inl ⟨by simp, hk, hok⟩)
  | .deref :: p, .ptr t, m, x, cs, ow, hs, b, h, ho, hv, hg, hk => by
    simp only [getP] at hg
    simp only [valid] at hv
    simp only [M] at h
    rcases h with ⟨hn, _⟩ | ⟨hk', h⟩ | ⟨T, tag, me, g, cur, rfl, rfl, ht, hog, hw, h⟩
    · exact absurd hn ho.not_nil
    · rw [getP_isK p (inn_isK hk') hg] at hk; cases hk
    · have hlen := (M_ok t h).1
      obtain ⟨cs', ow', h1, h2, h3, h4⟩ := punch p h ho.sub hv hg hk
      have hsz : 0 + t.size ≤ cur.size := by rw [← hlen]; simp
      refine ⟨cs', ow', ?_, fun g hg => (h2 g hg).1, h3, ?_⟩
      · simp only [cellsAt, rowAt_own hw hsz, Option.bind_some, List.drop_zero]
        rw [List.take_of_length_le (by omega)]
        exact h1
      · simp only [M]
        exact .inr (.inr ⟨T, tag, me, g, cur, rfl, rfl, ht, ⟨hog, fun hx => (h2 g hx).2 rfl⟩, hw, M_move (Stays.refl _ _) t (fun _ _ _ => rfl) (fun g' hg' _ => ⟨⟨hg'.1.1, hg'.2⟩, hg'.1.2⟩) (fun q hq => by
          rcases List.mem_append.1 hq with hq | hq
          · exact mem_sub.2 (List.mem_append_left _ (mem_sub.1 hq))
          · rw [List.mem_singleton.1 hq]; exact mem_sub.2 (List.mem_append_right _ (by simp))) h4⟩)
  | .fst :: p, .pair a b', m, x, cs, ow, hs, b, h, ho, hv, hg, hk => by
    simp only [getP] at hg
    simp only [valid] at hv
    simp only [M] at h
    rcases h with ⟨hn, _⟩ | ⟨hk', h⟩ | ⟨ma, mb, c0, c1, s, rfl, rfl, h0, h1⟩
    · exact absurd hn ho.not_nil
    · rw [getP_isK p (l_isK hk') hg] at hk; cases hk
    · obtain ⟨cs', ow', k1, k2, k3, k4⟩ := punch p h0 ho.sub hv hg hk
      refine ⟨cs', ow', by simp only [cellsAt]; rw [← (M_ok a h0).1, List.take_left]; exact k1, fun g hg => (k2 g hg).1, k3, ?_⟩
      simp only [M]
      refine .inr (.inr ⟨ma, mb, c0, c1, s, rfl, rfl, M_move (Stays.refl _ _) a (fun _ _ _ => rfl) (fun g' hg' _ => ⟨⟨hg'.1.1, hg'.2⟩, hg'.1.2⟩) (fun q hq => ?_) k4, M_move (Stays.refl _ _) b' (fun _ _ _ => rfl) (fun g' hg' _ => ⟨⟨hg'.1, fun hx => hg'.2 (k2 g' hx).2⟩, hg'.2⟩) (sub_mono (fun q hq => List.mem_append_left _ hq)) h1⟩)
      rcases List.mem_append.1 hq with hq | hq
      · exact mem_sub.2 (List.mem_append_left _ (mem_sub.1 hq))
      · rw [List.mem_singleton.1 hq]; exact mem_sub.2 (List.mem_append_right _ (by simp))
  | .snd :: p, .pair a b', m, x, cs, ow, hs, b, h, ho, hv, hg, hk => by
    simp only [getP] at hg
    simp only [valid] at hv
    simp only [M] at h
    rcases h with ⟨hn, _⟩ | ⟨hk', h⟩ | ⟨ma, mb, c0, c1, s, rfl, rfl, h0, h1⟩
    · exact absurd hn ho.not_nil
    · rw [getP_isK p (r_isK hk') hg] at hk; cases hk
    · obtain ⟨cs', ow', k1, k2, k3, k4⟩ := punch p h1 ho.sub hv hg hk
      refine ⟨cs', ow', by simp only [cellsAt]; rw [← (M_ok a h0).1, List.drop_left]; exact k1, fun g hg => (k2 g hg).1, k3, ?_⟩
      simp only [M]
      refine .inr (.inr ⟨ma, mb, c0, c1, s, rfl, rfl, M_move (Stays.refl _ _) a (fun _ _ _ => rfl) (fun g' hg' _ => ⟨⟨hg'.1, fun hx => (k2 g' hx).2 hg'.2⟩, hg'.2⟩) (sub_mono (fun q hq => List.mem_append_left _ hq)) h0, M_move (Stays.refl _ _) b' (fun _ _ _ => rfl) (fun g' hg' _ => ⟨⟨hg'.1.1, hg'.2⟩, hg'.1.2⟩) (fun q hq => ?_) k4⟩)
      rcases List.mem_append.1 hq with hq | hq
      · exact mem_sub.2 (List.mem_append_left _ (mem_sub.1 hq))
      · rw [List.mem_singleton.1 hq]; exact mem_sub.2 (List.mem_append_right _ (by simp))
  | .idx i :: p, .sl t, m, xs, cs, ow, hs, b, h, ho, hv, hg, hk => by
    simp only [getP] at hg
    simp only [valid] at hv
    obtain ⟨hi, hv⟩ := hv
    have hget : List.getD xs i t.z = xs[i] := getD_lt _ _ _ hi
    simp only [M] at h
    rcases h with ⟨hn, _⟩ | ⟨hk', h⟩ | ⟨T, tag, me, X, c, rfl, rfl, hc, ht, h⟩
    · exact absurd hn ho.not_nil
    · rw [getP_isK p (inn_isK hk') hg] at hk; cases hk
    · rcases h with ⟨rfl, _⟩ | ⟨g, cur, τ, rfl, hog, hw, hsz, hm, h⟩
      · simp at hi
      · have hbound : 0 + i * t.size + t.size ≤ cur.size := by
          have h1 := Nat.mul_le_mul_right t.size (show i + 1 ≤ xs.length from hi)
          have h2 := Nat.mul_le_mul_right t.size hc
          rw [Nat.add_mul, Nat.one_mul] at h1
          omega
        have hM := h i hi
        rw [← hget] at hM
        obtain ⟨cs', ow', h1, h2, h3, h4⟩ := punch p hM ho.sub hv hg hk
        refine ⟨cs', ow', by simp only [cellsAt, rowAt_own hw hbound, Option.bind_some]; rw [Nat.zero_add]; exact h1, fun g hg => (h2 g hg).1, h3, ?_⟩
        simp only [M]
        refine .inr (.inr ⟨T, tag, me, some ⟨g, 0, none⟩, c, rfl, rfl, hc, ht, .inr ⟨g, cur, τ, rfl, ⟨hog, fun hx => (h2 g hx).2.1 rfl⟩, hw, hsz, hm, fun j hj => ?_⟩⟩)
        by_cases hji : j = i
        · subst hji
          rw [hget] at h4
          refine M_move (Stays.refl _ _) t (fun _ _ _ => rfl) (fun g' hg' _ => ⟨⟨hg'.1.1, hg'.2⟩, hg'.1.2⟩) (fun q hq => ?_) h4
          rcases List.mem_append.1 hq with hq | hq
          · exact mem_sub.2 (List.mem_append_left _ (mem_sub.1 hq))
          · rw [List.mem_singleton.1 hq]; exact mem_sub.2 (List.mem_append_right _ (by simp))
        · exact M_move (Stays.refl _ _) t (fun _ _ _ => rfl) (fun g' hg' _ => ⟨⟨hg'.1, fun hx => hji (by rw [← hg'.2.2]; exact (h2 g' hx).2.2)⟩, hg'.2⟩) (sub_mono (fun q hq => List.mem_append_left _ hq)) (h j hj)

theorem put_same (a : Act) (i : Nat) : a.put (some i) (tmOf a i) = a := by
  unfold Act.put tmOf
  simp only
  have : a.tmps.setIfInBounds i (a.tmps.getD i undef) = a.tmps := by
    apply Array.ext_getElem?
    intro j
    rw [Array.getElem?_setIfInBounds, Array.getD_eq_getD_getElem?]
    by_cases h : i = j
    · subst h
      by_cases hl : i < a.tmps.size
      · simp [hl]
      · simp [hl]
    · simp [h]
  rw [this]

/-- What is taken out belongs to no temporary. -/
def park (σ : Nat → Option Nat) (q s : Nat) (g : Nat) : Option Nat := if σ g = some s then some q else σ g
theorem park_Av {σ : Nat → Option Nat} {Z : Nat → Prop} {q s g : Nat} : Av (park σ q s) Z g ↔ Av σ Z g := by
  unfold Av park
  by_cases h : σ g = some s
  · rw [if_pos h, h]; exact ⟨fun _ => .inl ⟨s, rfl⟩, fun _ => .inl ⟨q, rfl⟩⟩
  · rw [if_neg h]

/-- What is taken: its blocks are parked; all other blocks stay with theirs. -/
structure Took (σ σ1 : Nat → Option Nat) (n : Nat) (ow : Nat → Prop) : Prop where
  was : ∀ g, ow g → ∃ i, i < n ∧ σ g = some i
  now : ∀ g, ow g → ∃ i, n ≤ i ∧ σ1 g = some i
  sub : ∀ g i, σ1 g = some i → i < n → σ g = some i
  dom : ∀ g, (∃ i, σ1 g = some i) ↔ ∃ i, σ g = some i
  par : ∀ g i, σ g = some i → n ≤ i → σ1 g = some i

theorem Took.none (σ : Nat → Option Nat) (n : Nat) : Took σ σ n fun _ => False := ⟨fun _ h => h.elim, fun _ h => h.elim, fun _ _ h _ => h, fun _ => Iff.rfl, fun _ _ h _ => h⟩
theorem Took.park (σ : Nat → Option Nat) {n s : Nat} (hs : s < n) {ow : Nat → Prop} (h : ∀ g, ow g → σ g = some s) : Took σ (park σ n s) n ow := by
  refine ⟨fun g hg => ⟨s, hs, h g hg⟩, fun g hg => ⟨n, Nat.le_refl _, by unfold Go.Pv.park; rw [if_pos (h g hg)]⟩, fun g i hg hi => ?_, fun g => ?_, fun g i hg hi => ?_⟩
  · unfold Go.Pv.park at hg
    split at hg
    · injection hg with hg; omega
    · exact hg
  · unfold Go.Pv.park
    split
    · rename_i h; rw [h]; exact ⟨fun _ => ⟨s, rfl⟩, fun _ => ⟨n, rfl⟩⟩
    · exact Iff.rfl
  · unfold Go.Pv.park
    rw [if_neg (by rw [hg]; intro e; injection e with e; omega)]
    exact hg
theorem Took.Av {σ σ1 : Nat → Option Nat} {n : Nat} {ow : Nat → Prop} (h : Took σ σ1 n ow) {Z : Nat → Prop} {g : Nat} : Av σ1 Z g ↔ Av σ Z g := by
  unfold Go.Pv.Av
  rw [h.dom g]

theorem at_lt {S : St} {i : Nat} (h : S.at i ≠ .dead) : i < S.length := by
  rcases Nat.lt_or_ge i S.length with hl | hl
  · exact hl
  · refine absurd ?_ h
    unfold St.at
    rw [List.getD_eq_getElem?_getD, List.getElem?_eq_none hl]
    rfl

/-- A temporary is forgotten; its blocks are parked. -/
theorem RelS.park (h : RelS σ w0 W0 Z H S a w) (i : Nat) : RelS (park σ S.length i) w0 W0 Z H (S.put (some i) .dead) a w := by
  have hst : Stays w w (Av σ Z) (Av (Go.Pv.park σ S.length i) Z) := ⟨fun _ _ _ => rfl, fun g _ hg => park_Av.1 hg⟩
  have hs : ∀ g j, Go.Pv.park σ S.length i g = some j → ∃ k, σ g = some k := fun g j hg => by
    unfold Go.Pv.park at hg
    split at hg
    · exact ⟨_, by assumption⟩
    · exact ⟨_, hg⟩
  have := h.put (dst := some i) (av := .dead) (v := tmOf a i) hst h.fr (fun g j hg => by
    obtain ⟨k, hk⟩ := hs g j hg
    exact ⟨h.new g k hk, h.lt g k hk⟩) (fun g hg => by unfold Go.Pv.park; rw [(h.old g hg).1]; simp) (fun j g _ hd hg => ⟨rfl, by unfold Go.Pv.park; rw [if_neg (by rw [hg]; intro e; exact hd e.symm)]; exact hg⟩) (fun _ _ _ _ => trivial)
  rw [put_same] at this
  exact this

theorem at_cover (S : St) (d : Nat) (p : Path) (i : Nat) : (S.cover d p).at i = match S.at i with
    | .ad t s q => bif Nat.beq s d && under p q then .dead else .ad t s q
    | a => a := at_map S _ rfl i

theorem Ref.re {t : Ty} {s : Nat} {p : Path} {r : TV} {cs0 : List Value} (h : Ref tm S t s p r cs0) (hk : ∀ ex, S.at s = .v r ex → open_ p ex → ∃ ex', S'.at s = .v r ex' ∧ open_ p ex') : Ref tm S' t s p r cs0 := by
  obtain ⟨⟨ex, h1, h2⟩, h3, h4, h5⟩ := h
  exact ⟨hk ex h1 h2, h3, h4, h5⟩

/-- Something is taken out of a place: what is told of the others. -/
theorem holds_hole {d : Nat} {p : Path} {r : TV} {ex : List Path} (hd : S.at d = .v r ex) (hS : ∀ i r' ex', i ≠ d → S.at i = .v r' ex' → S'.at i = .v r' ex') (hS' : S'.at d = .v r (ex ++ [p])) {own : Nat → Prop} {av : AV} {v : Value}
    (hf : av.frail d = false) (hc : ∀ t q, av = .ad t d q → under p q = false) (h : Holds w A H tm S own av v) (hnv : ∀ b ex, av ≠ .v b ex) (hnt : ∀ l, av ≠ .tup l) : Holds w A H tm S' own av v := by
  have hre : ∀ {t : Ty} {s : Nat} {q : Path} {r' : TV} {cs0 : List Value}, Ref tm S t s q r' cs0 → (s = d → under p q = false) → Ref tm S' t s q r' cs0 := by
    intro t s q r' cs0 hr hu
    refine hr.re (fun ex1 h1 h2 => ?_)
    by_cases hsd : s = d
    · subst hsd
      rw [hd] at h1
      injection h1 with h1 h1'
      subst h1 h1'
      refine ⟨ex ++ [p], hS', fun q' hq' s' r' e => ?_⟩
      rcases List.mem_append.1 hq' with hq' | hq'
      · exact h2 q' hq' s' r' e
      · rw [List.mem_singleton.1 hq'] at e
        have := hu rfl
        rw [e, under_pre] at this
        cases this
    · exact ⟨ex1, hS s r' ex1 hsd h1, h2⟩
  have hnil : under p [] = false := by cases p <;> rfl
  cases av with
  | dead => trivial
  | undef => exact h
  | v b ex => exact absurd rfl (hnv _ _)
  | tup l => exact absurd rfl (hnt _)
  | al t s q =>
    obtain ⟨r', cs0, cs, h1, h2, h3⟩ := h
    refine ⟨r', cs0, cs, hre h1 (fun e => ?_), h2, h3⟩
    subst e
    cases q with
    | nil => exact hnil
    | cons _ _ => simp [AV.frail] at hf
  | ad t s q =>
    obtain ⟨r', cs0, g, off, h1, h2, h3⟩ := h
    exact ⟨r', cs0, g, off, hre h1 (fun e => by subst e; exact hc _ _ rfl), h2, h3⟩
  | cut t s q lo hi =>
    obtain ⟨r', cs0, t', X, n, c, h1, h2⟩ := h
    refine ⟨r', cs0, t', X, n, c, hre h1 (fun e => ?_), h2⟩
    subst e
    simp [AV.frail] at hf
  | clo f caps =>
    obtain ⟨vs, h1, h2, h3⟩ := h
    refine ⟨vs, h1, h2, fun j c hj => ?_⟩
    obtain ⟨u, k1, k2⟩ := h3 j c hj
    refine ⟨u, k1, ?_⟩
    cases c with
    | kv b => exact k2
    | pl t s q =>
      obtain ⟨r', cs0, cs, l1, l2, l3⟩ := k2
      refine ⟨r', cs0, cs, hre l1 (fun e => ?_), l2, l3⟩
      subst e
      cases q with
      | nil => exact hnil
      | cons a' q' =>
        simp only [AV.frail] at hf
        have hne := List.any_eq_false.1 hf _ (List.mem_of_getElem? hj)
        simp at hne

theorem takeA_spec (h : RelS σ w0 W0 Z H S a w) {T : TypeId} {x : Operand} {av : AV} {b : TV} (ho : S.opv Θ T x = some av) (e : S.takeA x av = some (b, S1)) :
    ∃ σ1 cs ow, RelS σ1 w0 W0 Z H S1 a w ∧ matchV b.t (a.eval x) cs ∧ M w (Av σ Z) H b.t b.m b.x cs ow [] ∧ Took σ σ1 S.length ow ∧ S1.length = S.length := by
  have hh := opv_holds h ho
  cases av with
  | v b0 ex =>
    simp only [St.takeA] at e
    cases hk : b0.m.isK with
    | true =>
      rw [hk] at e
      simp only [cond_true, Option.some.injEq, Prod.mk.injEq] at e
      obtain ⟨rfl, rfl⟩ := e
      obtain ⟨cs, h1, h2⟩ := hh
      exact ⟨σ, cs, fun _ => False, h, h1, K_M hk (M_isK _ hk h2), Took.none _ _, rfl⟩
    | false =>
      rw [hk] at e
      simp only [cond_false] at e
      split at e
      · rename_i i
        simp only [Option.some.injEq, Prod.mk.injEq] at e
        obtain ⟨rfl, rfl⟩ := e
        obtain ⟨cs, h1, h2⟩ := hh
        refine ⟨_, cs, _, h.park i, h1, h2, Took.park σ (at_lt ?_) (fun g hg => ?_), put_len' _ _ _⟩
        · simp only [St.opv, Option.some.injEq] at ho
          rw [ho]
          exact fun e => by cases e
        · obtain ⟨j, hj, hg⟩ := hg
          injection hj with hj
          subst hj
          exact hg
      · rename_i hx
        simp only [Option.some.injEq, Prod.mk.injEq] at e
        obtain ⟨rfl, rfl⟩ := e
        obtain ⟨cs, h1, h2⟩ := hh
        refine ⟨σ, cs, fun _ => False, h, h1, M_move (Stays.refl _ _) _ (fun _ _ _ => rfl) (fun g hg _ => ?_) (fun _ h => h) h2, Took.none _ _, rfl⟩
        obtain ⟨j, hj, _⟩ := hg
        exact hx j hj
      · cases e
  | al t s p =>
    simp only [St.takeA] at e
    obtain ⟨r, cs0, cs, hr, hc, hm⟩ := hh
    split at e
    · rename_i b' hb
      cases hk : b'.m.isK with
      | true =>
        rw [hk] at e
        simp only [cond_true, Option.some.injEq, Prod.mk.injEq] at e
        obtain ⟨rfl, rfl⟩ := e
        obtain ⟨hbt, ow', _, hM⟩ := place_read h hr hc hb
        exact ⟨σ, cs, fun _ => False, h, by rw [hbt]; exact hm, K_M hk (M_isK _ hk hM), Took.none _ _, rfl⟩
      | false =>
        rw [hk] at e
        simp only [cond_false] at e
        cases hp : p with
        | nil =>
          subst hp
          simp only [Option.some.injEq, Prod.mk.injEq] at e
          obtain ⟨rfl, rfl⟩ := e
          obtain ⟨hbt, ow', how, hM⟩ := place_read h hr hc hb
          obtain ⟨ex0, hs0, _⟩ := hr.at_
          exact ⟨_, cs, ow', h.park s, by rw [hbt]; exact hm, hM, Took.park σ (at_lt (by rw [hs0]; exact fun e => by cases e)) how, put_len' _ _ _⟩
        | cons stp pp =>
          rw [hp] at e
          obtain ⟨ex, b2, cs', ow0, j1, j2, j3, j4, hM, j5, j6, j7⟩ := ref_focus h hr
          rw [j1] at e
          simp only [Option.some.injEq, Prod.mk.injEq] at e
          rw [← hp] at e
          obtain ⟨rfl, rfl⟩ := e
          obtain ⟨r3, ex3, q1, q2, q3⟩ := place_glance hb
          rw [j1] at q1
          injection q1 with q1 q1'
          subst q1 q1'
          rw [j3] at q3
          injection q3 with q3
          subst q3
          obtain ⟨cs2, ow', k1, k2, k3, k4⟩ := punch p hM j2 hr.val j3 hk
          rw [hc] at k1
          injection k1 with k1
          subst k1
          rw [subs_of_clash q2] at k3
          -- the ownership without what is taken
          have hsl0 : s < S.length := at_lt (by rw [j1]; exact fun e => by cases e)
          let σ1 : Nat → Option Nat := fun g => open Classical in if ow' g then some S.length else σ g
          have hσ1 : ∀ g i, σ1 g = some i → ∃ k, σ g = some k := by
            intro g i hg
            simp only [σ1] at hg
            split at hg
            · exact ⟨s, k2 g (by assumption)⟩
            · exact ⟨i, hg⟩
          have hσ1' : ∀ g i, σ g = some i → ¬ ow' g → σ1 g = some i := by
            intro g i hg hn
            simp only [σ1, if_neg hn, hg]
          have hst : Stays w w (Av σ Z) (Av σ1 Z) := ⟨fun _ _ _ => rfl, fun g _ hg => by
            rcases hg with ⟨i, hg⟩ | hg
            · exact .inl (hσ1 g i hg)
            · exact .inr hg⟩
          have htook : Took σ σ1 S.length ow' := by
            refine ⟨fun g hg => ⟨s, hsl0, k2 g hg⟩, fun g hg => ⟨_, Nat.le_refl _, by simp only [σ1, if_pos hg]⟩, fun g i hg hi => ?_, fun g => ⟨fun ⟨i, hg⟩ => hσ1 g i hg, fun ⟨i, hg⟩ => ?_⟩, fun g i hg hi => hσ1' g i hg (fun hx => ?_)⟩
            · simp only [σ1] at hg
              split at hg
              · injection hg with hg; omega
              · exact hg
            · simp only [σ1]
              split
              · exact ⟨_, rfl⟩
              · exact ⟨i, hg⟩
            · have := k2 g hx
              rw [hg] at this
              injection this with this
              omega
          refine ⟨σ1, cs, ow', ?_, by rw [j4]; exact hm, k3, htook, by simp [St.weaken, St.cover]⟩
          have hlen : ((S.weaken s).cover s p).length = S.length := by simp [St.weaken, St.cover]
          have hsl : s < S.length := by
            rcases Nat.lt_or_ge s S.length with hl | hl
            · exact hl
            · unfold St.at at j1
              rw [List.getD_eq_getElem?_getD, List.getElem?_eq_none hl] at j1
              cases j1
          have hatS : St.at (((S.weaken s).cover s p).set s (.v r (ex ++ [p]))) s = .v r (ex ++ [p]) := by rw [at_set, if_pos ⟨rfl, by rw [hlen]; exact hsl⟩]
          have hoth : ∀ i, i ≠ s → St.at (((S.weaken s).cover s p).set s (.v r (ex ++ [p]))) i = (match (bif (S.at i).frail s then AV.dead else S.at i) with
              | .ad t s' q => bif Nat.beq s' s && under p q then .dead else .ad t s' q
              | a => a) := by
            intro i hi
            rw [at_set, if_neg (fun e => hi e.1), at_cover, at_weaken]
          refine ⟨by simp only [List.length_set, hlen]; exact h.len, h.defers, h.fr, fun g i hg => (hσ1 g i hg).elim fun k hk => h.new g k hk, fun g i hg => (hσ1 g i hg).elim fun k hk => h.lt g k hk, fun g hg => ⟨?_, (h.old g hg).2⟩, fun i => ?_⟩
          · simp only [σ1]
            split
            · rename_i hx
              have := k2 g hx
              rw [(h.old g hg).1] at this
              cases this
            · exact (h.old g hg).1
          · by_cases his : i = s
            · subst his
              rw [hatS]
              exact ⟨cs0, hr.mat, M_move hst _ (fun _ _ _ => rfl) (fun g hg _ => hσ1' g _ hg.1 hg.2) (fun _ h => h) k4⟩
            · rw [hoth i his]
              cases hfr : (S.at i).frail s with
              | true => trivial
              | false =>
                simp only [cond_false]
                have hi := h.holds i
                have base : Holds w (Av σ1 Z) H (tmOf a) S (fun g => σ1 g = some i) (S.at i) (tmOf a i) :=
                  hi.kept hst (fun g hg _ => ⟨rfl, hσ1' g i hg (fun hx => his (by have := k2 g hx; rw [hg] at this; injection this))⟩) (fun s' _ => ⟨fun _ _ h => h, rfl, _, h.holds s', fun _ _ _ => rfl⟩)
                have hSv : ∀ j r' ex', j ≠ s → S.at j = .v r' ex' → St.at (((S.weaken s).cover s p).set s (.v r (ex ++ [p]))) j = .v r' ex' := by
                  intro j r' ex' hj hv
                  rw [hoth j hj, hv]
                  simp [AV.frail]
                cases hcase : S.at i with
                | v b3 ex3 =>
                  rw [hcase] at base
                  obtain ⟨c3, l1, l2⟩ := base
                  exact ⟨c3, l1, l2⟩
                | tup l =>
                  rw [hcase] at base
                  exact base
                | ad t' s' q =>
                  rw [hcase] at base hfr
                  simp only
                  cases hcov : (Nat.beq s' s && under p q) with
                  | true => trivial
                  | false =>
                    simp only [cond_false]
                    refine holds_hole j1 hSv hatS hfr (fun t2 q2 e2 => ?_) base (fun _ _ e => by cases e) (fun _ e => by cases e)
                    injection e2 with _ e3 e4
                    subst e3 e4
                    simpa using hcov
                | dead => trivial
                | undef => rw [hcase] at base; exact base
                | al t' s' q =>
                  rw [hcase] at base hfr
                  exact holds_hole j1 hSv hatS hfr (fun t2 q2 e2 => by cases e2) base (fun _ _ e => by cases e) (fun _ e => by cases e)
                | cut t' s' q lo hi' =>
                  rw [hcase] at base hfr
                  exact holds_hole j1 hSv hatS hfr (fun t2 q2 e2 => by cases e2) base (fun _ _ e => by cases e) (fun _ e => by cases e)
                | clo f caps =>
                  rw [hcase] at base hfr
                  exact holds_hole j1 hSv hatS hfr (fun t2 q2 e2 => by cases e2) base (fun _ _ e => by cases e) (fun _ e => by cases e)
    · cases e
  | cut t s p lo hi =>
    cases p with
    | cons _ _ => simp [St.takeA] at e
    | nil =>
      simp only [St.takeA] at e
      obtain ⟨r, cs0, t', X, n, c, hr, rfl, hc, hlo, hhi, hv⟩ := hh
      split at e
      · rename_i t2 T2 tag me xs hb
        cases hlo0 : Nat.beq lo 0 with
        | false => rw [hlo0] at e; cases e
        | true =>
          rw [hlo0] at e
          have hl0 := Nat.eq_of_beq_eq_true hlo0
          subst hl0
          simp only [cond_true, Option.some.injEq, Prod.mk.injEq] at e
          obtain ⟨rfl, rfl⟩ := e
          obtain ⟨hbt, ow', how, hM⟩ := place_read h hr hc hb
          injection hbt with hbt
          subst hbt
          simp only [M] at hM
          rcases hM with ⟨hn, _⟩ | ⟨hk, _⟩ | ⟨T3, tag3, me3, X3, c3, e3, e4, hcc, htag, hM⟩
          · simp at hn
          · simp [Md.isK] at hk
          · injection e3 with e3 e3' e3''
            subst e3 e3' e3''
            simp only [List.cons.injEq, Value.slice.injEq, and_true] at e4
            obtain ⟨rfl, hn, rfl⟩ := e4
            have hv' : a.eval x = .slice X hi c := by
              rw [hv]
              have : (if c = 0 then X else X.map fun x => x.add (0 * Ty.size t2)) = X := by
                split
                · rfl
                · cases X with
                  | none => rfl
                  | some ad => simp [Addr.add]
              rw [this]
              simp
            have hlen : (List.take hi xs).length = hi := by rw [List.length_take]; omega
            obtain ⟨ex0, hs0, _⟩ := hr.at_
            refine ⟨_, [.slice X hi c], ow', h.park s, by simp [matchV, isAgg, hv'], ?_, Took.park σ (at_lt (by rw [hs0]; exact fun e => by cases e)) how, put_len' _ _ _⟩
            simp only [M]
            refine .inr (.inr ⟨T2, none, me, X, c, rfl, by rw [hlen], by rw [hlen]; omega, fun h hh => (by cases hh), ?_⟩)
            rcases hM with ⟨rfl, rfl⟩ | ⟨g, cur, τ, rfl, hg, hw, hsz, hm, hj⟩
            · left
              simp
            · right
              refine ⟨g, cur, τ, rfl, hg, hw, hsz, hm, fun j hj1 => ?_⟩
              rw [hlen] at hj1
              have := hj j (by omega)
              rw [List.getElem_take]
              exact this
      · cases e
  | _ => simp [St.takeA] at e

/-- The blocks that a temporary gets. -/
noncomputable def grant (σ : Nat → Option Nat) (dst : Option Nat) (ow : Nat → Prop) (g : Nat) : Option Nat := open Classical in if ow g then dst else release σ dst g
/-- A temporary gets a value of its own. -/
theorem RelS.give0 (h : RelS σ w0 W0 Z H S a w) {av : AV} {ow : Nat → Prop} (hsz : w.heap.size ≤ w'.heap.size) (hsame : ∀ g, g < w.heap.size → (∀ i, S.length ≤ i → σ g ≠ some i) → w'.heap[g]? = w.heap[g]?) (hfr : Fr w0 W0 w')
    (how : ∀ g, ow g → g < w'.heap.size ∧ ((∃ i, S.length ≤ i ∧ σ g = some i) ∨ w.heap.size ≤ g))
    (hH : ∀ d, dst = some d → (∀ g, ow g → grant σ dst ow g = some d) → (∀ g, Av (grant σ dst ow) Z g → Av σ Z g ∨ ow g) → Holds w' (Av (grant σ dst ow) Z) H (tmOf (a.put dst v)) (S.put dst av) (fun g => grant σ dst ow g = some d) av v) :
    RelS (grant σ dst ow) w0 W0 Z H (S.put dst av) (a.put dst v) w' := by
  have hw0 : w0.heap.size ≤ w.heap.size := h.fr.size
  have hcase : ∀ g i, grant σ dst ow g = some i → (ow g ∧ dst = some i) ∨ (¬ ow g ∧ σ g = some i ∧ dst ≠ some i) := fun g i hg => by
    unfold grant at hg
    split at hg
    · exact .inl ⟨by assumption, hg⟩
    · exact .inr ⟨by assumption, release_some hg⟩
  have hAv : ∀ g, Av (grant σ dst ow) Z g → Av σ Z g ∨ ow g := fun g hg => by
    rcases hg with ⟨i, hg⟩ | hg
    · rcases hcase g i hg with ⟨h1, _⟩ | ⟨_, h1, _⟩
      · exact .inr h1
      · exact .inl (.inl ⟨i, h1⟩)
    · exact .inl (.inr hg)
  have hst : Stays w w' (Av σ Z) (Av (grant σ dst ow) Z) := ⟨fun g hn hg => hsame g hg (fun i _ hi => hn (.inl ⟨i, hi⟩)), fun g hg hx => by
    rcases hAv g hx with h1 | h1
    · exact h1
    · rcases (how g h1).2 with ⟨i, _, hi⟩ | h2
      · exact .inl ⟨i, hi⟩
      · omega⟩
  refine h.put hst hfr (fun g i hg => ?_) (fun g hg => ?_) (fun i g hi hd hg => ⟨hsame g (h.lt g i hg) (fun j hj hj2 => by rw [hg] at hj2; injection hj2 with hj2; omega), ?_⟩) (fun d hd hl _ => hH d hd (fun g hg => by unfold grant; rw [if_pos hg]; exact hd) hAv)
  · rcases hcase g i hg with ⟨h1, _⟩ | ⟨_, h1, _⟩
    · rcases how g h1 with ⟨h2, ⟨j, _, hj⟩ | h3⟩
      · exact ⟨h.new g j hj, h2⟩
      · exact ⟨.inl (by omega), h2⟩
    · exact ⟨h.new g i h1, by have := h.lt g i h1; omega⟩
  · obtain ⟨h1, h2⟩ := h.old g hg
    unfold grant
    split
    · rename_i hx
      rcases (how g hx).2 with ⟨i, _, hi⟩ | h3
      · rw [h1] at hi; cases hi
      · omega
    · unfold release
      split
      · rfl
      · exact h1
  · have hn : ¬ ow g := fun hx => by
      rcases (how g hx).2 with ⟨j, hj, hj2⟩ | h3
      · rw [hg] at hj2; injection hj2 with hj2; omega
      · have := h.lt g i hg; omega
    unfold grant
    rw [if_neg hn]
    exact release_keep hd hg
theorem RelS.give' (h : RelS σ w0 W0 Z H S a w) {b : TV} {cs : List Value} {ow : Nat → Prop} {A' : Nat → Prop} (hsz : w.heap.size ≤ w'.heap.size) (hsame : ∀ g, g < w.heap.size → (∀ i, S.length ≤ i → σ g ≠ some i) → w'.heap[g]? = w.heap[g]?) (hfr : Fr w0 W0 w')
    (how : ∀ g, ow g → g < w'.heap.size ∧ ((∃ i, S.length ≤ i ∧ σ g = some i) ∨ w.heap.size ≤ g)) (hA : ∀ g, g < w'.heap.size → Av σ Z g ∨ ow g → A' g)
    (hm : matchV b.t v cs) (hM : M w' A' H b.t b.m b.x cs ow []) :
    RelS (grant σ dst ow) w0 W0 Z H (S.put dst (.v b [])) (a.put dst v) w' :=
  h.give0 hsz hsame hfr how fun d _ h1 h2 => ⟨cs, hm, M_move ⟨fun _ _ _ => rfl, fun g hg hx => hA g hg (h2 g hx)⟩ _ (fun _ _ _ => rfl) (fun g hg _ => h1 g hg) (fun _ h => h) hM⟩
theorem RelS.give (h : RelS σ w0 W0 Z H S a w) {b : TV} {cs : List Value} {ow : Nat → Prop} {A' : Nat → Prop} (hsame : ∀ g, g < w.heap.size → w'.heap[g]? = w.heap[g]?) (hfr : Fr w0 W0 w')
    (how : ∀ g, ow g → g < w'.heap.size ∧ ((∃ i, S.length ≤ i ∧ σ g = some i) ∨ w.heap.size ≤ g)) (hA : ∀ g, g < w'.heap.size → Av σ Z g ∨ ow g → A' g)
    (hm : matchV b.t v cs) (hM : M w' A' H b.t b.m b.x cs ow []) :
    RelS (grant σ dst ow) w0 W0 Z H (S.put dst (.v b [])) (a.put dst v) w' := by
  refine h.give' ?_ (fun g hg _ => hsame g hg) hfr how hA hm hM
  rcases Nat.eq_zero_or_pos w.heap.size with h0 | h0
  · omega
  · have := hsame (w.heap.size - 1) (by omega)
    rw [Array.getElem?_eq_getElem (show w.heap.size - 1 < w.heap.size by omega)] at this
    have := lt_of_some this
    omega
end Go.Pv

namespace Go.Pv
set_option linter.unusedVariables false
set_option linter.unusedSimpArgs false
variable {P : Program} {w w' : World} {A A' Wr : Nat → Prop} {H : Nat → Value} {tm tm' : Nat → Value} {S S' S1 : St} {σ σ1 : Nat → Option Nat} {w0 : World} {W0 Z : Nat → Prop} {a : Act} {own : Nat → Prop} {v : Value} {Θ : Tab} {dst : Option Nat}

theorem zread_K : ∀ (t : Ty), zread t = true → K w A t t.z (zc t)
  | .int k, _ => by simp [K, zc, Ty.z]
  | .bool, _ => by simp [K, zc, Ty.z]
  | .str, _ => by simp [K, zc, Ty.z]
  | .unit, _ => by simp [K, zc]
  | .sl t, _ => by simp only [K, zc, Ty.z]; exact ⟨none, 0, rfl, Nat.le_refl _, fun h => absurd h (Nat.lt_irrefl _)⟩
  | .pair a b, h => by
    simp only [zread, Bool.and_eq_true] at h
    simp only [K, zc, Ty.z]
    exact ⟨_, _, rfl, zread_K a h.1, zread_K b h.2⟩
  | .ptr t, h => by simp [zread] at h
  | .arr n t, h => by simp [zread] at h

theorem M_none {t : Ty} {x : t.I} {m : Md} {cs : List Value} {ow : Nat → Prop} (h : M w A H t m x cs (fun _ => False) []) : M w A H t m x cs ow [] := M_move (Stays.refl _ _) t (fun _ _ _ => rfl) (fun _ h _ => h.elim) (fun _ h => h) h

theorem zfit_M : ∀ (t : Ty) {m : Md}, zfit t m = true → M w A H t m t.z (zc t) (fun _ => False) []
  | .pair a b, .p ma mb, h => by
    simp only [zfit, Bool.or_eq_true, Bool.and_eq_true] at h
    rcases h with h | h
    · simp only [M]
      exact .inr (.inr ⟨ma, mb, zc a, zc b, fun _ => True, rfl, rfl, M_none (zfit_M a h.1), M_none (zfit_M b h.2)⟩)
    · exact K_M (by simp [Md.isK, h.1.1.1, h.1.1.2]) (by simp only [K, zc, Ty.z]; exact ⟨_, _, rfl, zread_K a h.1.2, zread_K b h.2⟩)
  | .sl t, .o T none me, _ => by
    simp only [M]
    exact .inr (.inr ⟨T, none, me, none, 0, rfl, rfl, Nat.le_refl _, fun h hh => (by cases hh), .inl ⟨rfl, rfl⟩⟩)
  | .pair a b, .k, h => by
    simp only [zfit, Bool.and_eq_true] at h
    exact K_M h.1 (zread_K _ h.2)
  | .pair a b, .o .., h => by simp [zfit, Md.isK] at h
  | .sl t, .k, h => by
    simp only [zfit, Bool.and_eq_true] at h
    exact K_M h.1 (zread_K _ h.2)
  | .sl t, .o _ (some _) _, h => by simp [zfit, Md.isK] at h
  | .sl t, .p a b, h => by
    simp only [zfit, Bool.and_eq_true] at h
    exact K_M h.1 (zread_K _ h.2)
  | .int k, m, h => by
    have h : (m.isK && zread (.int k)) = true := by cases m <;> exact h
    simp only [Bool.and_eq_true] at h
    exact K_M h.1 (zread_K _ h.2)
  | .bool, m, h => by
    have h : (m.isK && zread .bool) = true := by cases m <;> exact h
    simp only [Bool.and_eq_true] at h
    exact K_M h.1 (zread_K _ h.2)
  | .str, m, h => by
    have h : (m.isK && zread .str) = true := by cases m <;> exact h
    simp only [Bool.and_eq_true] at h
    exact K_M h.1 (zread_K _ h.2)
  | .unit, m, h => by
    have h : (m.isK && zread .unit) = true := by cases m <;> exact h
    simp only [Bool.and_eq_true] at h
    exact K_M h.1 (zread_K _ h.2)
  | .ptr t, m, h => by
    have h : (m.isK && zread (.ptr t)) = true := by cases m <;> exact h
    simp [zread] at h
  | .arr n t, m, h => by
    have h : (m.isK && zread (.arr n t)) = true := by cases m <;> exact h
    simp [zread] at h

theorem zero_spec (hT : tabB P Θ = true) {T : TypeId} {z : TV} (h : zeroTV Θ T = some z) :
    ∃ i inf zv, Θ.find T = some i ∧ i.ty = z.t ∧ z.x = z.t.z ∧ zfit z.t z.m = true ∧ P.info? T = some inf ∧ inf.size = z.t.size ∧ inf.zero = some zv ∧ matchV z.t zv (zc z.t) ∧ inf.bytes ≤ 32 * z.t.size ∧ inf.bytes ≤ 256 := by
  unfold zeroTV at h
  split at h
  · rename_i i hi
    cases hz : zfit i.ty (zmode Θ 9 T) with
    | false => rw [hz] at h; cases h
    | true =>
      rw [hz] at h
      simp only [cond_true, Option.some.injEq] at h
      subst h
      obtain ⟨⟨_, inf, zv, h1, h2, h3, h4, h5, h6, h7⟩, _, rfl⟩ := tab_ti hT hi
      exact ⟨i, inf, zv, hi, rfl, rfl, hz, h1, h2, h6, h7, h3, h4⟩
  · cases h

theorem Fr.alloc (h : Fr w0 W0 w) (o : Obj) : Fr w0 W0 (w.alloc o) := by
  refine ⟨h.os, h.tape, h.output, ?_, fun g hg hn => ?_⟩
  · have := h.size
    simp only [World.alloc, Array.size_push]; omega
  · rw [heap_alloc_old w o g (by have := h.size; omega)]
    exact h.block g hg hn

theorem tail_match {t : Ty} {v : Value} {cs : List Value} (h : matchV t v cs) (h1 : ∀ u ∈ cs, u.oneCell' = true) : v.cells = cs.toArray := by
  have := matchV_cells h h1
  rw [← this]

/-- A value is put into a new block. -/
theorem box_spec {t : Ty} {m : Md} {x : t.I} {cs : List Value} {ow : Nat → Prop} (T : TypeId) (hM : M w A H t m x cs ow []) (hlt : ∀ g, ow g → g < w.heap.size) :
    M (w.alloc (.cells cs.toArray T)) (fun g => A g ∨ w.heap.size ≤ g) H (.ptr t) (.o T none m) x [.pointer (some ⟨w.heap.size, 0, none⟩)] (fun g => ow g ∨ g = w.heap.size) [] := by
  simp only [M]
  refine .inr (.inr ⟨T, none, m, w.heap.size, cs.toArray, rfl, rfl, fun h hh => (by cases hh), .inr rfl, heap_alloc_new w _, ?_⟩)
  refine M_move (w := w) ⟨fun g _ hg => heap_alloc_old w _ g hg, fun g hg hx => ?_⟩ t (fun g hg hl => heap_alloc_old w _ g hl) (fun g hg hl => ⟨.inl hg, by omega⟩) (fun _ h => (by simp at h)) hM
  rcases hx with hx | hx
  · exact hx
  · omega

/-- The same, of an operation that only adds to the world. -/
def GoesX (P : Program) (w0 : World) (W0 Z : Nat → Prop) (H : Nat → Value) (S' : St) (a : Act) (dst : Option Nat) (w : World) (s : Sem Next) : Prop :=
  ∃ w' v, s.run P w = .ok (.value v) w' ∧ Ext w w' ∧ Rel w0 W0 Z H S' (a.put dst v) w'
theorem GoesX.goes {s : Sem Next} (h : GoesX P w0 W0 Z H S' a dst w s) : Goes P w0 W0 Z H S' a dst w s := by
  obtain ⟨w', v, h1, _, h2⟩ := h
  exact ⟨w', v, .inl h1, h2⟩
theorem GoesQ.adds {s : Sem Next} (h : GoesQ P w0 W0 Z H S' a dst w s) : GoesX P w0 W0 Z H S' a dst w s := by
  obtain ⟨v, h1, h2⟩ := h
  exact ⟨w, v, h1 w (Ext.refl w), Ext.refl w, h2⟩

theorem alloc_ok (hT : tabB P Θ = true) (h : RelS σ w0 W0 Z H S a w) {hn : Hn} {o : Oper} {T : TypeId} (ho : o.op = .alloc T) (e : evAlloc Θ hn S o.dst T = some (true, S')) : GoesX P w0 W0 Z H S' a o.dst w (execOp a.eval o) := by
  unfold evAlloc at e
  split at e
  · rename_i z hz
    cases hf : zfit z.t (hn.find o.dst z.m) with
    | false => rw [hf] at e; cases e
    | true =>
      rw [hf] at e
      simp only [cond_true, Option.some.injEq, Prod.mk.injEq, true_and] at e
      subst e
      obtain ⟨i, inf, zv, _, _, _, _, h1, h2, h3, h4, _⟩ := zero_spec hT hz
      have hM : M w (Av σ Z) H z.t (hn.find o.dst z.m) z.t.z (zc z.t) (fun _ => False) [] := zfit_M z.t hf
      have hbox := box_spec T hM (fun _ h => h.elim)
      refine ⟨w.alloc (.cells (zc z.t).toArray T), .pointer (some ⟨w.heap.size, 0, none⟩), ?_, fun g hg => heap_alloc_old w _ g hg, _, h.give (b := ⟨.ptr z.t, .o T none (hn.find o.dst z.m), z.t.z⟩) (cs := [.pointer (some ⟨w.heap.size, 0, none⟩)]) (fun g hg => heap_alloc_old w _ g hg) (h.fr.alloc _) (fun g hg => ?_) (fun g hg hx => ?_) (by simp [matchV, isAgg]) hbox⟩
      · simp [execOp, ho, Instr.alloc, zeroValue, typeInfo, h1, h3, newVar, newRow, tail_match h4 (M_ok _ hM).2]
      · rcases hg with hg | rfl
        · exact hg.elim
        · exact ⟨by simp only [World.alloc, Array.size_push]; omega, .inr (Nat.le_refl _)⟩
      · rcases hx with hx | hx | rfl
        · exact .inl hx
        · exact hx.elim
        · exact .inr (Nat.le_refl _)
  · cases e

/-- What was taken is given to a temporary; the world stays. -/
theorem goes_took {b : TV} {cs : List Value} {ow : Nat → Prop} {s : Sem Next} {n : Nat} (h : RelS σ1 w0 W0 Z H S1 a w) (hk : Took σ σ1 n ow) (hn : S1.length = n) (hr : ∀ w2, Ext w w2 → s.run P w2 = .ok (.value v) w2) (hm : matchV b.t v cs) (hM : M w (Av σ Z) H b.t b.m b.x cs ow []) :
    GoesQ P w0 W0 Z H (S1.put dst (.v b [])) a dst w s := by
  refine ⟨v, hr, _, h.give (b := b) (cs := cs) (fun _ _ => rfl) h.fr (fun g hg => ?_) (fun g hg hx => ?_) hm hM⟩
  · obtain ⟨i, hi, hg'⟩ := hk.now g hg
    exact ⟨h.lt g i hg', .inl ⟨i, by omega, hg'⟩⟩
  · rcases hx with hx | hx
    · exact hk.Av.1 hx
    · obtain ⟨i, hi, hg'⟩ := hk.was g hx
      exact .inl ⟨i, hg'⟩

theorem box_ok (hT : tabB P Θ = true) (h : RelS σ w0 W0 Z H S a w) {o : Oper} {T : TypeId} {x : Operand} (ho : o.op = .box T x) (e : evBox Θ S o.dst T x = some (true, S')) : GoesX P w0 W0 Z H S' a o.dst w (execOp a.eval o) := by
  unfold evBox St.take at e
  split at e
  · rename_i b S1 hb
    split at hb
    · rename_i av hav
      obtain ⟨σ1, cs, ow, h1, hm, hM, hk, hn⟩ := takeA_spec h hav hb
      cases hc : Θ.is T b.t with
      | false => rw [hc] at e; cases e
      | true =>
        rw [hc] at e
        simp only [cond_true, Option.some.injEq, Prod.mk.injEq, true_and] at e
        subst e
        have hlt : ∀ g, ow g → g < w.heap.size := fun g hg => by
          obtain ⟨i, _, hi⟩ := hk.was g hg
          exact h.lt g i hi
        have hbox := box_spec T hM hlt
        refine ⟨w.alloc (.cells cs.toArray T), .pointer (some ⟨w.heap.size, 0, none⟩), ?_, fun g hg => heap_alloc_old w _ g hg, _, h1.give (b := ⟨.ptr b.t, .o T none b.m, b.x⟩) (cs := [.pointer (some ⟨w.heap.size, 0, none⟩)]) (fun g hg => heap_alloc_old w _ g hg) (h1.fr.alloc _) (fun g hg => ?_) (fun g hg hx => ?_) (by simp [matchV, isAgg]) hbox⟩
        · simp [execOp, ho, Instr.box, newVar, newRow, tail_match hm (M_ok _ hM).2]
        · rcases hg with hg | rfl
          · obtain ⟨i, hi, hg'⟩ := hk.now g hg
            have := hlt g hg
            exact ⟨by simp only [World.alloc, Array.size_push]; omega, .inl ⟨i, by omega, hg'⟩⟩
          · exact ⟨by simp only [World.alloc, Array.size_push]; omega, .inr (Nat.le_refl _)⟩
        · rcases hx with hx | hx | rfl
          · exact .inl (hk.Av.1 hx)
          · obtain ⟨i, _, hi⟩ := hk.was g hx
            exact .inl (.inl ⟨i, hi⟩)
          · exact .inr (Nat.le_refl _)
    · cases hb
  · cases e
end Go.Pv

namespace Go.Pv
set_option linter.unusedVariables false
set_option linter.unusedSimpArgs false
variable {P : Program} {w w' : World} {A A' Wr : Nat → Prop} {H : Nat → Value} {tm tm' : Nat → Value} {S S' S1 : St} {σ σ1 : Nat → Option Nat} {w0 : World} {W0 Z : Nat → Prop} {a : Act} {own : Nat → Prop} {v : Value} {Θ : Tab} {dst : Option Nat}

theorem setP_ty : ∀ (p : Path) {t : Ty} {m : Md} {x : t.I} {b b0 : TV} {r : Md × t.I}, setP b p t m x = some r → getP p t m x = some b0 → b.t = b0.t
  | [], t, m, x, b, b0, r, h, hg => by
    simp only [getP, Option.some.injEq] at hg
    subst hg
    simp only [setP] at h
    split at h
    · assumption
    · cases h
  | .deref :: p, .ptr t, .o T tag me, x, b, b0, r, h, hg => by
    simp only [setP] at h
    simp only [getP] at hg
    split at h
    · rename_i r1 h1
      exact setP_ty p h1 hg
    · cases h
  | .fst :: p, .pair t u, m, x, b, b0, r, h, hg => by
    simp only [setP] at h
    simp only [getP] at hg
    split at h
    · rename_i r1 h1
      exact setP_ty p h1 hg
    · cases h
  | .snd :: p, .pair t u, m, x, b, b0, r, h, hg => by
    simp only [setP] at h
    simp only [getP] at hg
    split at h
    · rename_i r1 h1
      exact setP_ty p h1 hg
    · cases h
  | .idx i :: p, .sl t, .o T tag me, xs, b, b0, r, h, hg => by
    obtain ⟨r1, h1, _⟩ := setP_idx h
    simp only [getP] at hg
    exact setP_ty p h1 hg

theorem memless_valid2 : ∀ (q : Path) {t : Ty} {x y : t.I}, memless q = true → valid q t x → valid q t y
  | [], _, _, _, _, _ => trivial
  | .fst :: q, .pair a b, x, y, h, hv => by
    simp only [valid] at hv ⊢
    exact memless_valid2 q (by simpa [memless] using h) hv
  | .snd :: q, .pair a b, x, y, h, hv => by
    simp only [valid] at hv ⊢
    exact memless_valid2 q (by simpa [memless] using h) hv
theorem depth_memless : ∀ (q : Path), depth q = 0 → memless q = true
  | [], _ => rfl
  | .fst :: q, h => by simp only [memless]; exact depth_memless q (by simpa [depth] using h)
  | .snd :: q, h => by simp only [memless]; exact depth_memless q (by simpa [depth] using h)
  | .deref :: q, h => by simp [depth] at h
  | .idx i :: q, h => by simp [depth] at h
theorem memless_addr_eq : ∀ (q : Path) {t : Ty} {cs cs' : List Value} {l : Option (Nat × Nat)}, memless q = true → addrAt w q t cs l = addrAt w' q t cs' l
  | [], _, _, _, _, _ => rfl
  | .fst :: q, .pair a b, cs, cs', l, h => by
    simp only [addrAt]
    exact memless_addr_eq q (by simpa [memless] using h)
  | .snd :: q, .pair a b, cs, cs', l, h => by
    simp only [addrAt]
    exact memless_addr_eq q (by simpa [memless] using h)
  | .fst :: q, .int _, _, _, _, _ => by simp [addrAt]
  | .fst :: q, .bool, _, _, _, _ => by simp [addrAt]
  | .fst :: q, .str, _, _, _, _ => by simp [addrAt]
  | .fst :: q, .sl _, _, _, _, _ => by simp [addrAt]
  | .fst :: q, .ptr _, _, _, _, _ => by simp [addrAt]
  | .fst :: q, .unit, _, _, _, _ => by simp [addrAt]
  | .fst :: q, .arr _ _, _, _, _, _ => by simp [addrAt]
  | .snd :: q, .int _, _, _, _, _ => by simp [addrAt]
  | .snd :: q, .bool, _, _, _, _ => by simp [addrAt]
  | .snd :: q, .str, _, _, _, _ => by simp [addrAt]
  | .snd :: q, .sl _, _, _, _, _ => by simp [addrAt]
  | .snd :: q, .ptr _, _, _, _, _ => by simp [addrAt]
  | .snd :: q, .unit, _, _, _, _ => by simp [addrAt]
  | .snd :: q, .arr _ _, _, _, _, _ => by simp [addrAt]

theorem setP_valid : ∀ (q p : Path) {t : Ty} {m : Md} {x : t.I} {b : TV} {r : Md × t.I}, setP b p t m x = some r → memless p = false → depth q ≤ 1 → valid q t x → valid q t r.2
  | [], _, _, _, _, _, _, _, _, _, _ => trivial
  | .deref :: q, p, .ptr t, m, x, b, r, h, hp, hd, hv => by
    simp only [valid] at hv ⊢
    exact memless_valid2 q (depth_memless q (by simp [depth] at hd; omega)) hv
  | .idx i :: q, p, .sl t, m, xs, b, r, h, hp, hd, hv => by
    simp only [valid] at hv ⊢
    refine ⟨?_, memless_valid2 q (depth_memless q (by simp [depth] at hd; omega)) hv.2⟩
    cases p with
    | nil => simp [memless] at hp
    | cons s p =>
      cases s <;> cases m <;> simp [setP] at h
      rename_i j T tag me
      have h' : setP b (.idx j :: p) (.sl t) (.o T tag me) xs = some r := by simp only [setP]; exact h
      obtain ⟨r1, _, _, rfl⟩ := setP_idx h'
      simpa using hv.1
  | .fst :: q, p, .pair t u, m, x, b, r, h, hp, hd, hv => by
    simp only [valid] at hv ⊢
    cases p with
    | nil => simp [memless] at hp
    | cons s p =>
      cases s <;> simp only [setP, reduceCtorEq] at h
      · split at h
        · rename_i r1 h1
          injection h with h
          subst h
          exact setP_valid q p h1 (by simpa [memless] using hp) (by simpa [depth] using hd) hv
        · cases h
      · split at h
        · rename_i r1 h1
          injection h with h
          subst h
          exact hv
        · cases h
  | .snd :: q, p, .pair t u, m, x, b, r, h, hp, hd, hv => by
    simp only [valid] at hv ⊢
    cases p with
    | nil => simp [memless] at hp
    | cons s p =>
      cases s <;> simp only [setP, reduceCtorEq] at h
      · split at h
        · rename_i r1 h1
          injection h with h
          subst h
          exact hv
        · cases h
      · split at h
        · rename_i r1 h1
          injection h with h
          subst h
          exact setP_valid q p h1 (by simpa [memless] using hp) (by simpa [depth] using hd) hv
        · cases h

/-- An address in a block that a temporary points to itself. -/
theorem addr_once : ∀ (q : Path) {t : Ty} {m : Md} {x : t.I} {cs : List Value} {ow : Nat → Prop} {hs : List Path} {l : Option (Nat × Nat)} {g : Nat × Nat},
    M w' A' H t m x cs ow hs → open_ q hs → valid q t x → depth q ≤ 1 → addrAt w q t cs l = some g → addrAt w' q t cs l = some g
  | [], _, _, _, _, _, _, _, _, _, _, _, _, e => e
  | .deref :: q, .ptr t, m, x, cs, ow, hs, l, g0, h, ho, hv, hd, e => by
    have hq : memless q = true := depth_memless q (by simp [depth] at hd; omega)
    simp only [M] at h
    rcases h with ⟨hn, _⟩ | ⟨hk, h⟩ | ⟨T, tag, me, g, cur, rfl, rfl, ht, hog, hw, h⟩
    · exact absurd hn ho.not_nil
    · simp only [K] at h
      obtain ⟨g, off, cur, T, fr, rfl, hng, hw, hl, h⟩ := h
      simp only [addrAt, rowAt_own hw hl, Option.bind_some] at e ⊢
      cases hr : rowAt w g off t.size with
      | none => rw [hr] at e; cases e
      | some row =>
        rw [hr, Option.bind_some] at e
        rw [← e]
        exact memless_addr_eq q hq
    · have hsz : 0 + t.size ≤ cur.size := by rw [← (M_ok t h).1]; simp
      simp only [addrAt, rowAt_own hw hsz, Option.bind_some] at e ⊢
      cases hr : rowAt w g 0 t.size with
      | none => rw [hr] at e; cases e
      | some row =>
        rw [hr, Option.bind_some] at e
        rw [← e]
        exact memless_addr_eq q hq
  | .fst :: q, .pair a b', m, x, cs, ow, hs, l, g0, h, ho, hv, hd, e => by
    simp only [valid] at hv
    simp only [M] at h
    simp only [addrAt] at e ⊢
    rcases h with ⟨hn, _⟩ | ⟨hk, h⟩ | ⟨ma, mb, c0, c1, s, rfl, rfl, h0, h1⟩
    · exact absurd hn ho.not_nil
    · simp only [K] at h
      obtain ⟨c0, c1, rfl, h0, h1⟩ := h
      rw [← (K_ok a h0).1, List.take_left] at e ⊢
      exact addr_once q (M_of_K (H := H) (ow := fun _ => False) (hs := sub .fst hs) a h0) ho.sub hv (by simpa [depth] using hd) e
    · rw [← (M_ok a h0).1, List.take_left] at e ⊢
      exact addr_once q h0 ho.sub hv (by simpa [depth] using hd) e
  | .snd :: q, .pair a b', m, x, cs, ow, hs, l, g0, h, ho, hv, hd, e => by
    simp only [valid] at hv
    simp only [M] at h
    simp only [addrAt] at e ⊢
    rcases h with ⟨hn, _⟩ | ⟨hk, h⟩ | ⟨ma, mb, c0, c1, s, rfl, rfl, h0, h1⟩
    · exact absurd hn ho.not_nil
    · simp only [K] at h
      obtain ⟨c0, c1, rfl, h0, h1⟩ := h
      rw [← (K_ok a h0).1, List.drop_left] at e ⊢
      exact addr_once q (M_of_K (H := H) (ow := fun _ => False) (hs := sub .snd hs) b' h1) ho.sub hv (by simpa [depth] using hd) e
    · rw [← (M_ok a h0).1, List.drop_left] at e ⊢
      exact addr_once q h1 ho.sub hv (by simpa [depth] using hd) e
  | .idx i :: q, .sl t, m, xs, cs, ow, hs, l, g0, h, ho, hv, hd, e => by
    have hq : memless q = true := depth_memless q (by simp [depth] at hd; omega)
    simp only [valid] at hv
    obtain ⟨hi, hv⟩ := hv
    simp only [M] at h
    rcases h with ⟨hn, _⟩ | ⟨hk, h⟩ | ⟨T, tag, me, X, c, rfl, rfl, hc, ht, h⟩
    · exact absurd hn ho.not_nil
    · simp only [K] at h
      obtain ⟨X, c, rfl, hc, h⟩ := h
      obtain ⟨g, off, cur, T, fr, rfl, hng, hw, hl, h⟩ := h (by omega)
      have hbound : off + i * t.size + t.size ≤ cur.size := by
        have := Nat.mul_le_mul_right t.size (show i + 1 ≤ xs.length from hi)
        rw [Nat.add_mul, Nat.one_mul] at this
        omega
      simp only [addrAt, rowAt_own hw hbound, Option.bind_some] at e ⊢
      cases hr : rowAt w g (off + i * t.size) t.size with
      | none => rw [hr] at e; cases e
      | some row =>
        rw [hr, Option.bind_some] at e
        rw [← e]
        exact memless_addr_eq q hq
    · rcases h with ⟨rfl, _⟩ | ⟨g, cur, τ, rfl, hog, hw, hsz, hm, h⟩
      · simp at hi
      · have hbound : 0 + i * t.size + t.size ≤ cur.size := by
          have h1 := Nat.mul_le_mul_right t.size (show i + 1 ≤ xs.length from hi)
          have h2 := Nat.mul_le_mul_right t.size hc
          rw [Nat.add_mul, Nat.one_mul] at h1
          omega
        simp only [addrAt, rowAt_own hw hbound, Option.bind_some] at e ⊢
        cases hr : rowAt w g (0 + i * t.size) t.size with
        | none => rw [hr] at e; cases e
        | some row =>
          rw [hr, Option.bind_some] at e
          rw [← e]
          exact memless_addr_eq q hq

theorem setP_get : ∀ (q p : Path) {t : Ty} {m : Md} {x : t.I} {b b1 : TV} {r : Md × t.I}, setP b p t m x = some r → getP q t m x = some b1 → ∀ m', ∃ b2, getP q t m' r.2 = some b2 ∧ b2.t = b1.t := by
  have key : ∀ (q : Path) {t : Ty} {m m' : Md} {x y : t.I} {b1 : TV}, getP q t m x = some b1 → ∃ b2, getP q t m' y = some b2 ∧ b2.t = b1.t := by
    intro q
    induction q with
    | nil => intro t m m' x y b1 h; simp only [getP, Option.some.injEq] at h; subst h; exact ⟨_, rfl, rfl⟩
    | cons s q ih =>
      intro t m m' x y b1 h
      cases s <;> cases t <;> simp only [getP, reduceCtorEq] at h ⊢
      all_goals exact ih h
  intro q p t m x b b1 r _ h m'
  exact key q h

/-- What is told of the others where one's content changes. -/
theorem holds_written (hst : Stays w w' A A') {d : Nat} {r r' : TV} {ex ex' : List Path} (hrt : r'.t = r.t) (hd : S.at d = .v r ex) (hd' : S'.at d = .v r' ex') (hS : ∀ i r1 ex1, i ≠ d → S.at i = .v r1 ex1 → S'.at i = .v r1 ex1)
    (hM : ∃ cs0 own', matchV r.t (tm d) cs0 ∧ M w' A' H r'.t r'.m r'.x cs0 own' ex') (hex : ∀ q ∈ ex', q ∈ ex)
    (hval : ∀ q, depth q ≤ 1 → valid q r.t r.x → valid q r'.t r'.x) (hget : ∀ q b1, getP q r.t r.m r.x = some b1 → ∃ b2, getP q r'.t r'.m r'.x = some b2 ∧ b2.t = b1.t)
    (hk : ∀ s, s ≠ d → ∃ own, Holds w A H tm S own (S.at s) (tm s) ∧ ∀ g, own g → g < w.heap.size → w'.heap[g]? = w.heap[g]?)
    {own own' : Nat → Prop} (hown : ∀ g, own g → g < w.heap.size → w'.heap[g]? = w.heap[g]? ∧ own' g) {av : AV} {v : Value} (hf : av.frail d = false) (h : Holds w A H tm S own av v) : Holds w' A' H tm S' own' av v := by
  have hkept : ∀ s, s ≠ d → Kept w w' A H tm tm S S' s := fun s hs => ⟨fun r1 ex1 => hS s r1 ex1 hs, rfl, hk s hs⟩
  have href : ∀ {t : Ty} {q : Path} {r1 : TV} {cs0 : List Value}, depth q ≤ 1 → Ref tm S t d q r1 cs0 → r1 = r ∧ Ref tm S' t d q r' cs0 := by
    intro t q r1 cs0 hq hr
    obtain ⟨⟨ex1, h1, h2⟩, h3, ⟨b1, h4, h5⟩, h6⟩ := hr
    rw [hd] at h1
    injection h1 with h1 h1'
    subst h1 h1'
    obtain ⟨b2, k1, k2⟩ := hget q b1 h4
    exact ⟨rfl, ⟨ex', hd', fun p hp => h2 p (hex p hp)⟩, hval q hq h3, ⟨b2, k1, k2.trans h5⟩, by rw [hrt]; exact h6⟩
  cases av with
  | dead => trivial
  | undef => exact h
  | v b ex1 =>
    obtain ⟨cs, h1, h2⟩ := h
    exact ⟨cs, h1, M_move hst _ (fun g hg hl => (hown g hg hl).1) (fun g hg hl => (hown g hg hl).2) (fun _ h => h) h2⟩
  | tup l =>
    obtain ⟨vs, τ, h1, h2, h3⟩ := h
    refine ⟨vs, τ, h1, h2, fun j b hj => ?_⟩
    obtain ⟨u, cs, k1, k2, k3⟩ := h3 j b hj
    exact ⟨u, cs, k1, k2, M_move hst _ (fun g hg hl => (hown g hg.1 hl).1) (fun g hg hl => ⟨(hown g hg.1 hl).2, hg.2⟩) (fun _ h => h) k3⟩
  | al t s p =>
    obtain ⟨r1, cs0, cs, hr, hc, hm⟩ := h
    by_cases hsd : s = d
    · subst hsd
      cases p with
      | cons _ _ => simp [AV.frail] at hf
      | nil =>
        obtain ⟨rfl, hr'⟩ := href (by simp [depth]) hr
        exact ⟨r', cs0, cs, hr', hc, hm⟩
    · obtain ⟨h1, h2⟩ := hr.kept hst (hkept s hsd)
      exact ⟨r1, cs0, cs, h1, by rw [(h2 none).1]; exact hc, hm⟩
  | ad t s p =>
    obtain ⟨r1, cs0, g, off, hr, hc, hm⟩ := h
    by_cases hsd : s = d
    · subst hsd
      have hdep : depth p ≤ 1 := by
        simp only [AV.frail, Nat.beq_refl, Bool.true_and] at hf
        have : ¬ 2 ≤ depth p := fun h2 => by rw [Nat.ble_eq_true_of_le h2] at hf; cases hf
        omega
      obtain ⟨rfl, hr'⟩ := href hdep hr
      obtain ⟨cs1, own1, m1, m2⟩ := hM
      obtain rfl := matchV_inj m1 hr.mat
      obtain ⟨ex1, e1, e2⟩ := hr'.at_
      rw [hd'] at e1
      injection e1 with _ e1
      subst e1
      refine ⟨r', cs1, g, off, hr', addr_once (w := w) p m2 e2 hr'.val hdep (by rw [hrt]; exact hc), hm⟩
    · obtain ⟨h1, h2⟩ := hr.kept hst (hkept s hsd)
      exact ⟨r1, cs0, g, off, h1, by rw [(h2 none).2]; exact hc, hm⟩
  | cut t s p lo hi =>
    obtain ⟨r1, cs0, t', A1, n, c, hr, ht, hc, hm⟩ := h
    by_cases hsd : s = d
    · subst hsd
      simp [AV.frail] at hf
    · obtain ⟨h1, h2⟩ := hr.kept hst (hkept s hsd)
      exact ⟨r1, cs0, t', A1, n, c, h1, ht, by rw [(h2 none).1]; exact hc, hm⟩
  | clo f caps =>
    obtain ⟨vs, h1, h2, h3⟩ := h
    refine ⟨vs, h1, h2, fun j c hj => ?_⟩
    obtain ⟨u, k1, k2⟩ := h3 j c hj
    refine ⟨u, k1, ?_⟩
    cases c with
    | kv b => exact K_stays hst _ k2
    | pl t s p =>
      by_cases hsd : s = d
      · subst hsd
        obtain ⟨r1, cs0, cs, hr, hc, hm⟩ := k2
        cases p with
        | cons _ _ =>
          have hne := List.any_eq_false.1 hf _ (List.mem_of_getElem? hj)
          simp at hne
        | nil =>
          obtain ⟨rfl, hr'⟩ := href (by simp [depth]) hr
          exact ⟨r', cs0, cs, hr', hc, hm⟩
      · exact HoldsCap.kept hst (fun t1 s1 p1 e1 => by injection e1 with _ e1 _; subst e1; exact hkept _ hsd) k2

theorem pre_ok : ∀ (p h : Path), pre p h = true → ∃ q, h = p ++ q
  | [], h, _ => ⟨h, rfl⟩
  | .deref :: p, .deref :: h, e => by obtain ⟨q, rfl⟩ := pre_ok p h (by simpa [pre] using e); exact ⟨q, rfl⟩
  | .fst :: p, .fst :: h, e => by obtain ⟨q, rfl⟩ := pre_ok p h (by simpa [pre] using e); exact ⟨q, rfl⟩
  | .snd :: p, .snd :: h, e => by obtain ⟨q, rfl⟩ := pre_ok p h (by simpa [pre] using e); exact ⟨q, rfl⟩

/-- What a take leaves of the other temporaries. -/
theorem take_at {x : Operand} {av : AV} {b : TV} {s : Nat} {r : TV} {ex : List Path} (e : S.takeA x av = some (b, S1)) (hs : S1.at s = .v r ex) : ∃ ex0, S.at s = .v r ex0 ∧ ∀ q ∈ ex0, q ∈ ex := by
  have hput : ∀ i, (S.put (some i) .dead).at s = .v r ex → S.at s = .v r ex := by
    intro i h
    rw [put_at] at h
    split at h
    · simp [AV.refs] at h
    · cases hr : (S.at s).refs i && (S.at i).isV with
      | true => rw [hr] at h; cases h
      | false => rw [hr] at h; exact h
  cases av with
  | v b0 ex0 =>
    simp only [St.takeA] at e
    cases hk : b0.m.isK with
    | true =>
      rw [hk] at e
      simp only [cond_true, Option.some.injEq, Prod.mk.injEq] at e
      obtain ⟨_, rfl⟩ := e
      exact ⟨ex, hs, fun _ h => h⟩
    | false =>
      rw [hk] at e
      simp only [cond_false] at e
      split at e
      · simp only [Option.some.injEq, Prod.mk.injEq] at e
        obtain ⟨_, rfl⟩ := e
        exact ⟨ex, hput _ hs, fun _ h => h⟩
      · simp only [Option.some.injEq, Prod.mk.injEq] at e
        obtain ⟨_, rfl⟩ := e
        exact ⟨ex, hs, fun _ h => h⟩
      · cases e
  | al t s0 p =>
    simp only [St.takeA] at e
    split at e
    · rename_i b' hb
      cases hk : b'.m.isK with
      | true =>
        rw [hk] at e
        simp only [cond_true, Option.some.injEq, Prod.mk.injEq] at e
        obtain ⟨_, rfl⟩ := e
        exact ⟨ex, hs, fun _ h => h⟩
      | false =>
        rw [hk] at e
        simp only [cond_false] at e
        split at e
        · simp only [Option.some.injEq, Prod.mk.injEq] at e
          obtain ⟨_, rfl⟩ := e
          exact ⟨ex, hput _ hs, fun _ h => h⟩
        · rename_i r2 ex2 _ hat
          simp only [Option.some.injEq, Prod.mk.injEq] at e
          obtain ⟨_, rfl⟩ := e
          rw [at_set] at hs
          split at hs
          · rename_i hx
            injection hs with h1 h2
            subst h1 h2
            rw [hx.1]
            exact ⟨ex2, hat, fun q hq => List.mem_append_left _ hq⟩
          · rw [at_cover, at_weaken] at hs
            cases hfr : (S.at s).frail s0 with
            | true => rw [hfr] at hs; simp at hs
            | false =>
              rw [hfr] at hs
              simp only [cond_false] at hs
              split at hs
              · cases hx : (Nat.beq _ s0 && under _ _) with
                | true => rw [hx] at hs; cases hs
                | false => rw [hx] at hs; cases hs
              · exact ⟨ex, hs, fun _ h => h⟩
        · cases e
    · cases e
  | cut t s0 p lo hi =>
    cases p with
    | cons _ _ => simp [St.takeA] at e
    | nil =>
      simp only [St.takeA] at e
      split at e
      · cases hl : Nat.beq lo 0 with
        | false => rw [hl] at e; cases e
        | true =>
          rw [hl] at e
          simp only [cond_true, Option.some.injEq, Prod.mk.injEq] at e
          obtain ⟨_, rfl⟩ := e
          exact ⟨ex, hput _ hs, fun _ h => h⟩
      · cases e
  | _ => simp [St.takeA] at e
end Go.Pv

namespace Go.Pv
set_option linter.unusedVariables false
set_option linter.unusedSimpArgs false
variable {P : Program} {w w' : World} {A A' Wr : Nat → Prop} {H : Nat → Value} {tm tm' : Nat → Value} {S S' S1 : St} {σ σ1 : Nat → Option Nat} {w0 : World} {W0 Z : Nat → Prop} {a : Act} {own : Nat → Prop} {v : Value} {Θ : Tab} {dst : Option Nat}

theorem Fr.setRow (h : Fr w0 W0 w) {g : Nat} {cs : Array Value} (hg : w0.heap.size ≤ g ∨ W0 g) : Fr w0 W0 (w.setRow g cs) := by
  refine ⟨h.os, h.tape, h.output, by rw [setRow_size]; exact h.size, fun k hk hn => ?_⟩
  rw [setRow_other w g k _ (fun e => by subst e; rcases hg with hg | hg; omega; exact hn hg)]
  exact h.block k hk hn

theorem store_run (hT : tabB P Θ = true) {T : TypeId} {t : Ty} {g off : Nat} {cs : List Value} {v : Value} {cur : Array Value} {T' : TypeId} (ht : Θ.is T t = true) (hm : matchV t v cs) (hl : cs.length = t.size) (h1 : ∀ u ∈ cs, u.oneCell' = true)
    (hw : w.heap[g]? = some (.cells cur T' (0, 0))) (hb : off + cs.length ≤ cur.size) :
    (Instr.storeAt T (.pointer (some ⟨g, off, none⟩)) v).run P w = .ok () (w.setRow g (putCells cur.toList off cs).toArray) := by
  obtain ⟨inf, hi, hs, _⟩ := size_is hT ht
  have := run_storeCells_at (P := P) g off T' cs 0 cur w hw (by omega) h1
  simp only [Nat.add_zero] at this
  simp [Instr.storeAt, Instr.sureAddr, storeVar, sizeOf, typeInfo, hi, hs, tail_match hm h1, hl]
  rw [hl] at this
  unfold putCells
  rw [hl]
  simpa using this

theorem same_eq : ∀ (p h : Path), alikeP p h = true → sameP p h = true → h = p
  | [], [], _, _ => rfl
  | .idx i :: p, .idx j :: h, e, e2 => by
    simp only [sameP, Bool.and_eq_true] at e2
    rw [same_eq p h (by simpa [alikeP] using e) e2.1, Nat.eq_of_beq_eq_true e2.2]
  | .deref :: p, .deref :: h, e, e2 => by rw [same_eq p h (by simpa [alikeP] using e) (by simpa [sameP] using e2)]
  | .fst :: p, .fst :: h, e, e2 => by rw [same_eq p h (by simpa [alikeP] using e) (by simpa [sameP] using e2)]
  | .snd :: p, .snd :: h, e, e2 => by rw [same_eq p h (by simpa [alikeP] using e) (by simpa [sameP] using e2)]
  | [], .idx _ :: _, e, _ | [], .deref :: _, e, _ | [], .fst :: _, e, _ | [], .snd :: _, e, _ => by simp [alikeP] at e
  | .idx _ :: _, [], e, _ | .deref :: _, [], e, _ | .fst :: _, [], e, _ | .snd :: _, [], e, _ => by simp [alikeP] at e
  | .idx _ :: _, .deref :: _, e, _ | .idx _ :: _, .fst :: _, e, _ | .idx _ :: _, .snd :: _, e, _ => by simp [alikeP] at e
  | .deref :: _, .idx _ :: _, e, _ | .deref :: _, .fst :: _, e, _ | .deref :: _, .snd :: _, e, _ => by simp [alikeP] at e
  | .fst :: _, .idx _ :: _, e, _ | .fst :: _, .deref :: _, e, _ | .fst :: _, .snd :: _, e, _ => by simp [alikeP] at e
  | .snd :: _, .idx _ :: _, e, _ | .snd :: _, .deref :: _, e, _ | .snd :: _, .fst :: _, e, _ => by simp [alikeP] at e
theorem dropSame_sub {p q : Path} : ∀ {l : List Path}, q ∈ (dropSame p l).2 → q ∈ l
  | [], h => h
  | x :: r, h => by
    simp only [dropSame] at h
    cases ha : alikeP p x with
    | true => rw [ha] at h; exact List.mem_cons_of_mem _ h
    | false =>
      rw [ha] at h
      simp only [cond_false, List.mem_cons] at h
      rcases h with h | h
      · rw [h]; exact List.mem_cons_self
      · exact List.mem_cons_of_mem _ (dropSame_sub h)
theorem dropSame_keep {p q : Path} : ∀ {l : List Path}, (dropSame p l).1 = true → (∀ q', q ≠ p ++ q') → q ∈ l → q ∈ (dropSame p l).2
  | [], _, _, h => h
  | x :: r, hc, hn, h => by
    simp only [dropSame] at hc ⊢
    cases ha : alikeP p x with
    | true =>
      rw [ha] at hc
      simp only [cond_true] at hc ⊢
      rcases List.mem_cons.1 h with h | h
      · subst h
        exact absurd ((same_eq p q ha hc).trans (List.append_nil p).symm) (hn [])
      · exact h
    | false =>
      rw [ha] at hc
      simp only [cond_false] at hc ⊢
      rcases List.mem_cons.1 h with h | h
      · rw [h]; exact List.mem_cons_self
      · exact List.mem_cons_of_mem _ (dropSame_keep hc hn h)

theorem store_ok (hT : tabB P Θ = true) (h : RelS σ w0 W0 Z H S a w) {o : Oper} {T : TypeId} {x y : Operand} (ho : o.op = .store T x y) (hdst : o.dst = none) (e : evStore Θ S T x y = some (true, S')) : Goes P w0 W0 Z H S' a o.dst w (execOp a.eval o) := by
  unfold evStore at e
  split at e
  case h_2 => cases e
  rename_i av hav
  split at e
  case h_2 => cases e
  rename_i t s p htgt
  unfold St.take at e
  split at e
  case h_2 => cases e
  rename_i b S1 hb
  split at hb
  case h_2 => cases hb
  rename_i av2 hav2
  cases hc : Θ.is T b.t with
  | false => rw [hc] at e; cases e
  | true =>
  rw [hc] at e
  simp only [cond_true] at e
  split at e
  case h_2 => cases e
  rename_i r ex hs1
  split at e
  case h_2 => cases e
  rename_i m z hset
  cases hex : ex.all (fun q => !under q p) with
  | false => rw [hex] at e; cases e
  | true =>
  rw [hex] at e
  simp only [cond_true, Option.some.injEq, Prod.mk.injEq] at e
  obtain ⟨hds, e⟩ := e
  have hopen : open_ p ex := open_of_under (fun q hq => by simpa using List.all_eq_true.1 hex q hq)
  obtain ⟨r0, ex0, q1, q2⟩ := tgt_spec h hav htgt
  obtain ⟨σ1, cs, ow, h1, hm, hM, hk, hn⟩ := takeA_spec h hav2 hb
  obtain ⟨ex0', q3, q4⟩ := take_at hb hs1
  rw [q1] at q3
  injection q3 with q3 q3'
  subst q3 q3'
  obtain ⟨cs0, g, off, hr, haddr, hx⟩ := q2 (fun q hq => hopen q (q4 q hq))
  obtain ⟨b0, hb0, hbt⟩ := hr.get
  -- the slot, behind the take
  have hh := h1.holds s
  rw [hs1] at hh
  obtain ⟨cs0', hm0, hM0⟩ := hh
  obtain rfl := matchV_inj hr.mat hm0
  have hsl : s < S1.length := at_lt (by rw [hs1]; exact fun e => by cases e)
  obtain ⟨cs', ow', c1, c2, c3, hback⟩ := focusW p hM0 hopen hr.val hb0
  have hty : b.t = b0.t := setP_ty p hset hb0
  obtain ⟨hloc, hback⟩ := hback b (m, z) hty hset
  have hpm : memless p = false := by
    cases hp : memless p with
    | false => rfl
    | true => rw [memless_addr_none p hp] at haddr; cases haddr
  -- the address is the same: the world is
  have haddr' : addrAt w p r0.t cs0 none = some (g, off) := haddr
  obtain ⟨hg1, hg2, cur, T', hw, hbound, _⟩ := hloc g off haddr'
  obtain ⟨hlen, hone⟩ := M_ok _ hM
  have hfit : off + cs.length ≤ cur.size := by rw [hlen, hty]; exact hbound
  have hrun := store_run (P := P) (w := w) hT hc hm hlen hone hw hfit
  have hnow : ∀ g', ow g' → σ1 g' ≠ some s := fun g' hg' e' => by
    obtain ⟨i, hi, hi2⟩ := hk.now g' hg'
    rw [e'] at hi2
    injection hi2 with hi2
    omega
  let σ2 : Nat → Option Nat := fun g' => open Classical in if ow g' then some s else σ1 g'
  have hσ2 : ∀ g' i, σ2 g' = some i → (ow g' ∧ i = s) ∨ (¬ ow g' ∧ σ1 g' = some i) := fun g' i hg' => by
    simp only [σ2] at hg'
    split at hg'
    · injection hg' with hg'; exact .inl ⟨by assumption, hg'.symm⟩
    · exact .inr ⟨by assumption, hg'⟩
  have hσ2' : ∀ g' i, ¬ ow g' → σ1 g' = some i → σ2 g' = some i := fun g' i hn hg' => by simp only [σ2, if_neg hn, hg']
  have hAv2 : ∀ g', Av σ2 Z g' → Av σ1 Z g' := fun g' hg' => by
    rcases hg' with ⟨i, hg'⟩ | hg'
    · rcases hσ2 g' i hg' with ⟨hx, _⟩ | ⟨_, hx⟩
      · obtain ⟨j, _, hj⟩ := hk.now g' hx
        exact .inl ⟨j, hj⟩
      · exact .inl ⟨i, hx⟩
    · exact .inr hg'
  have hheap : ∀ k, k ≠ g → (w.setRow g (putCells cur.toList off cs).toArray).heap[k]? = w.heap[k]? := fun k hk => setRow_other w g k _ hk
  have hst : Stays w (w.setRow g (putCells cur.toList off cs).toArray) (Av σ1 Z) (Av σ2 Z) := ⟨fun k hk _ => hheap k (fun e' => hk (by rw [e']; exact .inl ⟨s, hg1⟩)), fun k _ hk => hAv2 k hk⟩
  have hMb : M (w.setRow g (putCells cur.toList off cs).toArray) (Av σ2 Z) H b.t b.m b.x cs ow (subs p (dropSame p (ex.filter fun q => !pre p q)).2) := by
    refine M_move ⟨fun k hk' _ => hheap k (fun e' => hk' (by rw [e']; exact hk.Av.1 (.inl ⟨s, hg1⟩))), fun k _ hk' => hk.Av.1 (hAv2 k hk')⟩ _ (fun k hk' _ => hheap k (fun e' => hnow k hk' (by rw [e']; exact hg1))) (fun k hk' _ => hk') (fun _ h => by simp at h) hM
  have hres := hback (w.setRow g (putCells cur.toList off cs).toArray) (Av σ2 Z) cs ow (dropSame p (ex.filter fun q => !pre p q)).2 hst (by rw [hlen, hty]) (fun k hk1 hk2 _ => by
      rw [haddr']
      simp only [BlkUpd]
      split
      · rename_i hkg
        subst hkg
        exact ⟨cur, T', hw, setRow_heap w k cur _ T' (0, 0) hw⟩
      · rename_i hkg
        exact hheap k hkg) hMb (fun k hk1 _ hk2 => absurd hk2 (hnow k hk1)) (fun q hq1 hq2 => by
      refine dropSame_keep hds hq1 (List.mem_filter.2 ⟨hq2, ?_⟩)
      cases hp : pre p q with
      | false => rfl
      | true =>
        obtain ⟨q', rfl⟩ := pre_ok p q hp
        exact absurd rfl (hq1 q'))
  rw [memful_upd p hpm] at hres
  have hres2 : M (w.setRow g (putCells cur.toList off cs).toArray) (Av σ2 Z) H r0.t m z cs0 (fun g' => σ2 g' = some s) (dropSame p (ex.filter fun q => !pre p q)).2 := by
    refine M_move (Stays.refl _ _) _ (fun _ _ _ => rfl) (fun k hk' _ => ?_) (fun _ h => h) hres
    rcases hk' with ⟨k1, _⟩ | k1
    · exact hσ2' k s (fun hx => hnow k hx k1) k1
    · simp only [σ2, if_pos k1]
  refine ⟨w.setRow g (putCells cur.toList off cs).toArray, undef, .inr ⟨rfl, ?_⟩, σ2, ?_⟩
  · simp only [execOp, ho, hx, Sem.run_bind, hrun, Result.andThen_ok]
    rfl
  · rw [hdst]
    show RelS σ2 w0 W0 Z H S' a (w.setRow g (putCells cur.toList off cs).toArray)
    have hlen' : ((S1.weaken s).set s (.v ⟨r0.t, m, z⟩ (dropSame p (ex.filter fun q => !pre p q)).2)).length = S1.length := by simp [St.weaken]
    have hat : ∀ i, S'.at i = if i = s then .v ⟨r0.t, m, z⟩ (dropSame p (ex.filter fun q => !pre p q)).2 else bif (S1.at i).frail s then .dead else S1.at i := by
      intro i
      rw [← e, at_set]
      by_cases hi : i = s
      · rw [if_pos hi, if_pos ⟨hi, by simp [St.weaken]; exact hsl⟩]
      · rw [if_neg hi, if_neg (fun h => hi h.1), at_weaken]
    refine ⟨by rw [← e, hlen']; exact h1.len, h1.defers, h1.fr.setRow (h1.new g s hg1), fun g' i hg' => ?_, fun g' i hg' => ?_, fun g' hg' => ⟨?_, (h1.old g' hg').2⟩, fun i => ?_⟩
    · rcases hσ2 g' i hg' with ⟨hx, _⟩ | ⟨_, hx⟩
      · obtain ⟨j, _, hj⟩ := hk.now g' hx
        exact h1.new g' j hj
      · exact h1.new g' i hx
    · rw [setRow_size]
      rcases hσ2 g' i hg' with ⟨hx, _⟩ | ⟨_, hx⟩
      · obtain ⟨j, _, hj⟩ := hk.now g' hx
        exact h1.lt g' j hj
      · exact h1.lt g' i hx
    · have := (h1.old g' hg').1
      simp only [σ2]
      split
      · rename_i hx
        obtain ⟨j, _, hj⟩ := hk.now g' hx
        rw [this] at hj
        cases hj
      · exact this
    · rw [hat i]
      by_cases his : i = s
      · subst his
        rw [if_pos rfl]
        exact ⟨cs0, hr.mat, hres2⟩
      · rw [if_neg his]
        by_cases hil : i < S1.length
        rotate_left
        · have : S1.at i = .dead := Classical.byContradiction fun hx => hil (at_lt hx)
          rw [this]
          trivial
        cases hfr : (S1.at i).frail s with
        | true => trivial
        | false =>
          simp only [cond_false]
          refine holds_written (r := r0) (r' := ⟨r0.t, m, z⟩) (ex := ex) (ex' := (dropSame p (ex.filter fun q => !pre p q)).2) hst rfl hs1 (by rw [hat s, if_pos rfl]) (fun j r1 ex1 hj hv => by rw [hat j, if_neg hj, hv]; simp [AV.frail]) ⟨cs0, _, hr.mat, hres2⟩ (fun q hq => (List.mem_filter.1 (dropSame_sub hq)).1)
            (fun q hq hv => setP_valid q p hset hpm hq hv) (fun q b1 hq => setP_get q p hset hq m) (fun j hj => ⟨_, h1.holds j, fun g' hg' _ => hheap g' (fun e' => by subst e'; rw [hg1] at hg'; injection hg' with hg'; exact hj hg'.symm)⟩)
            (fun g' hg' _ => ⟨hheap g' (fun e' => by subst e'; rw [hg1] at hg'; injection hg' with hg'; exact his hg'.symm), hσ2' g' i (fun hx => ?_) hg'⟩) hfr (h1.holds i)
          obtain ⟨j, hj1, hj2⟩ := hk.now g' hx
          rw [hg'] at hj2
          injection hj2 with hj2
          omega
end Go.Pv

namespace Go.Pv
set_option linter.unusedVariables false
set_option linter.unusedSimpArgs false
variable {P : Program} {w w' : World} {A A' Wr : Nat → Prop} {H : Nat → Value} {tm tm' : Nat → Value} {S S' S1 : St} {σ σ1 σ2 : Nat → Option Nat} {w0 : World} {W0 Z : Nat → Prop} {a : Act} {own : Nat → Prop} {v : Value} {Θ : Tab} {dst : Option Nat}

/-! ### filling -/
theorem fold_put (off : Nat) : ∀ (l : List Value) (k : Nat) (cells : Array Value), off + k + l.length ≤ cells.size →
    ((l.zipIdx k).foldl (fun (cs : Array Value) (x : Value × Nat) => cs.setIfInBounds (off + x.2) x.1) cells).toList = putCells cells.toList (off + k) l
  | [], k, cells, h => by simp [putCells]
  | c :: l, k, cells, h => by
    simp only [List.zipIdx_cons, List.foldl_cons]
    simp only [List.length_cons] at h
    rw [fold_put off l (k + 1) (cells.setIfInBounds (off + k) c) (by simp; omega)]
    have h1 : off + k < cells.toList.length := by simp; omega
    apply List.ext_getElem?
    intro j
    rw [put_get _ _ _ _ (by simp; omega), put_get _ _ _ _ (by simp; omega)]
    simp only [Array.toList_setIfInBounds, List.length_cons]
    by_cases hj : j < off + k
    · rw [if_pos (by omega), if_pos hj, List.getElem?_set_ne (by omega)]
    · by_cases hj2 : j = off + k
      · subst hj2
        rw [if_pos (by omega), if_neg (by omega), if_pos (by omega), List.getElem?_set_self h1]
        simp
      · by_cases hj3 : j < off + k + 1 + l.length
        · rw [if_neg (by omega), if_pos (by omega), if_neg (by omega), if_pos (by omega), show j - (off + k) = (j - (off + (k + 1))) + 1 from by omega]
          simp
        · rw [if_neg (by omega), if_neg (by omega), if_neg (by omega), if_neg (by omega), List.getElem?_set_ne (by omega)]

def offs (segs : List (List Value)) (i : Nat) : Nat := ((segs.take i).map List.length).sum
theorem flat_split (segs : List (List Value)) (i : Nat) (h : i < segs.length) : segs.flatten = (segs.take i).flatten ++ (segs[i] ++ (segs.drop (i + 1)).flatten) := by
  conv => lhs; rw [← List.take_append_drop i segs]
  rw [List.flatten_append, List.drop_eq_getElem_cons h, List.flatten_cons]
theorem offs_len (segs : List (List Value)) (i : Nat) : (segs.take i).flatten.length = offs segs i := by simp [offs, List.length_flatten]
theorem put_seg (segs : List (List Value)) (i : Nat) (c : List Value) (h : i < segs.length) (hc : c.length = segs[i].length) : putCells segs.flatten (offs segs i) c = (segs.set i c).flatten := by
  have e1 := flat_split segs i h
  have e2 := flat_split (segs.set i c) i (by simpa using h)
  rw [e2]
  simp only [List.getElem_set_self]
  rw [List.take_set_of_le (by omega), List.drop_set_of_lt (by omega)]
  have hd : segs.flatten.drop (offs segs i + c.length) = (segs.drop (i + 1)).flatten := by
    rw [e1, ← offs_len, hc, ← List.append_assoc, ← List.length_append, List.drop_left]
  have ht : segs.flatten.take (offs segs i) = (segs.take i).flatten := by
    rw [e1, ← offs_len, List.take_left]
  unfold putCells
  rw [hd, ht, List.append_assoc]
theorem offs_set (segs : List (List Value)) (i j : Nat) (c : List Value) (h : i < segs.length) (hc : c.length = segs[i].length) : offs (segs.set i c) j = offs segs j := by
  unfold offs
  congr 1
  apply List.ext_getElem?
  intro k
  simp only [List.getElem?_map, List.getElem?_take, List.getElem?_set]
  split
  · by_cases hk : i = k
    · subst hk
      simp [h, hc]
    · simp [hk]
  · rfl
theorem offs_fit (segs : List (List Value)) (i : Nat) (h : i < segs.length) : offs segs i + segs[i].length ≤ segs.flatten.length := by
  rw [flat_split segs i h, List.length_append, List.length_append, offs_len]
  omega

/-- What the parts leave: each at its place. -/
def fillS (f : Nat → Option (List Value)) (segs : List (List Value)) : List (List Value) := segs.mapIdx fun i c => (f i).getD c

theorem fill_segs (place : Nat → Option (Nat × Nat)) : ∀ (parts : List (Nat × Value)) (segs : List (List Value)), (∀ i (h : i < segs.length), place i = some (offs segs i, segs[i].length)) →
    (∀ q ∈ parts, ∃ h : q.1 < segs.length, q.2.cells.size = segs[q.1].length) → (parts.map (·.1)).Nodup →
    Instr.fill place segs.flatten.toArray parts = some (fillS (fun i => (parts.find? (fun q => Nat.beq q.1 i)).map (·.2.cells.toList)) segs).flatten.toArray
  | [], segs, _, _, _ => by
    have : fillS (fun i => (([] : List (Nat × Value)).find? (fun q => Nat.beq q.1 i)).map (·.2.cells.toList)) segs = segs := by
      unfold fillS
      apply List.ext_getElem?
      intro k
      simp [List.getElem?_mapIdx]
    rw [this]; rfl
  | (i, v) :: rest, segs, hp, hs, hn => by
    obtain ⟨hi, hv⟩ := hs (i, v) (by simp)
    simp only at hi hv
    have hfit := offs_fit segs i hi
    simp only [Instr.fill, hp i hi]
    have hfit' := hfit
    rw [List.length_flatten] at hfit'
    rw [if_neg (by simp [hv]; omega)]
    have hlen : v.cells.toList.length = segs[i].length := by simpa using hv
    have hfold : v.cells.zipIdx.foldl (fun cs (x : Value × Nat) => cs.setIfInBounds (offs segs i + x.2) x.1) segs.flatten.toArray = (segs.set i v.cells.toList).flatten.toArray := by
      have := fold_put (offs segs i) v.cells.toList 0 segs.flatten.toArray (by simp only [hlen, List.size_toArray]; omega)
      rw [← put_seg segs i v.cells.toList hi hlen]
      apply Array.toList_inj.1
      rw [← Array.foldl_toList, Array.toList_zipIdx]
      simpa using this
    simp only [List.map_cons, List.nodup_cons] at hn
    have hset : ∀ (k : Nat) (hk : k < (segs.set i v.cells.toList).length), (segs.set i v.cells.toList)[k].length = (segs[k]'(by simpa using hk)).length := by
      intro k hk
      rw [List.getElem_set]
      split
      · rename_i e; subst e; exact hlen
      · rfl
    have ih := fill_segs place rest (segs.set i v.cells.toList) (fun k hk => by rw [offs_set segs i k _ hi hlen, hset k hk]; exact hp k (by simpa using hk)) (fun q hq => by
      obtain ⟨h1, h2⟩ := hs q (by simp [hq])
      exact ⟨by simpa using h1, by rw [hset]; exact h2⟩) hn.2
    refine (congrArg (fun c => Instr.fill place c rest) hfold).trans (ih.trans ?_)
    congr 3
    unfold fillS
    apply List.ext_getElem?
    intro k
    simp only [List.getElem?_mapIdx, List.getElem?_set]
    by_cases hk : i = k
    · subst hk
      have : rest.find? (fun q => Nat.beq q.1 i) = none := List.find?_eq_none.2 fun q hq e => hn.1 (List.mem_map.2 ⟨q, hq, Nat.eq_of_beq_eq_true e⟩)
      simp [hi, this]
    · have : Nat.beq i k = false := by
        cases hb : Nat.beq i k with
        | false => rfl
        | true => exact absurd (Nat.eq_of_beq_eq_true hb) hk
      simp [hk, this]
end Go.Pv

namespace Go.Pv
set_option linter.unusedVariables false
set_option linter.unusedSimpArgs false
variable {P : Program} {w w' : World} {A A' Wr : Nat → Prop} {H : Nat → Value} {tm tm' : Nat → Value} {S S' S1 : St} {σ σ1 σ2 : Nat → Option Nat} {w0 : World} {W0 Z : Nat → Prop} {a : Act} {own : Nat → Prop} {v : Value} {Θ : Tab} {dst : Option Nat}

theorem Took.trans {n : Nat} {ow1 ow2 : Nat → Prop} (h1 : Took σ σ1 n ow1) (h2 : Took σ1 σ2 n ow2) : Took σ σ2 n (fun g => ow1 g ∨ ow2 g) := by
  refine ⟨fun g hg => ?_, fun g hg => ?_, fun g i hg hi => h1.sub g i (h2.sub g i hg hi) hi, fun g => (h2.dom g).trans (h1.dom g), fun g i hg hi => h2.par g i (h1.par g i hg hi) hi⟩
  · rcases hg with hg | hg
    · exact h1.was g hg
    · obtain ⟨i, hi, hi2⟩ := h2.was g hg
      exact ⟨i, hi, h1.sub g i hi2 hi⟩
  · rcases hg with hg | hg
    · obtain ⟨i, hi, hi2⟩ := h1.now g hg
      exact ⟨i, hi, h2.par g i hi2 hi⟩
    · exact h2.now g hg
theorem Took.apart {n : Nat} {ow1 ow2 : Nat → Prop} (h1 : Took σ σ1 n ow1) (h2 : Took σ1 σ2 n ow2) {g : Nat} (hg : ow1 g) : ¬ ow2 g := fun hg2 => by
  obtain ⟨i, hi, hi2⟩ := h1.now g hg
  obtain ⟨j, hj, hj2⟩ := h2.was g hg2
  rw [hi2] at hj2
  injection hj2 with hj2
  omega

theorem zc_len : ∀ (t : Ty), (zc t).length = t.size
  | .int _ => rfl | .bool => rfl | .str => rfl | .sl _ => rfl | .ptr _ => rfl | .unit => rfl
  | .pair a b => by simp [zc, Ty.size, zc_len a, zc_len b]
  | .arr n t => by simp [zc, Ty.size, List.length_flatten, zc_len t]

theorem parts_spec (hT : tabB P Θ = true) (ps : List (Nat × Operand)) : ∀ (Ts : List TypeId) (j : Nat) {S S1 : St} {σ : Nat → Option Nat} {l : List TV}, RelS σ w0 W0 Z H S a w → S.parts Θ ps Ts j = some (l, S1) →
    ∃ (σ1 : Nat → Option Nat) (ow : Nat → Prop) (τ : Nat → Nat) (css : List (List Value)), RelS σ1 w0 W0 Z H S1 a w ∧ S1.length = S.length ∧ Took σ σ1 S.length ow ∧ css.length = l.length ∧ l.length = Ts.length ∧ (∀ g, ow g → j ≤ τ g) ∧
      ∀ (k : Nat) (b : TV), l[k]? = some b → ∃ cs, css[k]? = some cs ∧ M w (Av σ Z) H b.t b.m b.x cs (fun g => ow g ∧ τ g = j + k) [] ∧
        ((∃ q, ps.find? (fun q => Nat.beq q.1 (j + k)) = some q ∧ matchV b.t (a.eval q.2) cs) ∨ (ps.find? (fun q => Nat.beq q.1 (j + k)) = none ∧ cs = zc b.t))
  | [], j, S, S1, σ, l, h, e => by
    simp only [St.parts, Option.some.injEq, Prod.mk.injEq] at e
    obtain ⟨rfl, rfl⟩ := e
    exact ⟨σ, fun _ => False, fun _ => j, [], h, rfl, Took.none _ _, rfl, rfl, fun _ h => h.elim, fun k b hk => by simp at hk⟩
  | T :: Ts, j, S, S1, σ, l, h, e => by
    simp only [St.parts] at e
    split at e
    · rename_i q hq
      unfold St.take at e
      split at e
      case h_2 => cases e
      rename_i b S2 hb
      split at hb
      case h_2 => cases hb
      rename_i av hav
      split at e
      case h_2 => cases e
      rename_i l2 S3 hl2
      simp only [Option.some.injEq, Prod.mk.injEq] at e
      obtain ⟨rfl, rfl⟩ := e
      obtain ⟨σ1, cs, ow, h1, hm, hM, hk, hn⟩ := takeA_spec h hav hb
      obtain ⟨σ2, ow2, τ, css, r1, r2, r3, r4, r5, r6, r7⟩ := parts_spec hT ps Ts (j + 1) h1 hl2
      rw [hn] at r3
      have hap : ∀ g, ow g → ¬ ow2 g := fun g hg => hk.apart r3 hg
      let τ' : Nat → Nat := fun g => open Classical in if ow g then j else τ g
      refine ⟨σ2, fun g => ow g ∨ ow2 g, τ', cs :: css, r1, by omega, hk.trans r3, by simp [r4], by simp [r5], fun g hg => ?_, fun k b' hk' => ?_⟩
      · simp only [τ']
        split
        · exact Nat.le_refl _
        · rename_i hx
          have := r6 g (hg.resolve_left hx)
          omega
      · cases k with
        | zero =>
          simp only [List.getElem?_cons_zero, Option.some.injEq] at hk'
          subst hk'
          refine ⟨cs, rfl, M_move (Stays.refl _ _) _ (fun _ _ _ => rfl) (fun g hg _ => ⟨.inl hg, by simp only [τ', if_pos hg, Nat.add_zero]⟩) (fun _ h => h) hM, .inl ⟨q, hq, hm⟩⟩
        | succ k =>
          simp only [List.getElem?_cons_succ] at hk' ⊢
          obtain ⟨c2, d1, d2, d3⟩ := r7 k b' hk'
          refine ⟨c2, d1, M_move ⟨fun _ _ _ => rfl, fun g _ hg => hk.Av.2 hg⟩ _ (fun _ _ _ => rfl) (fun g hg _ => ⟨.inr hg.1, ?_⟩) (fun _ h => h) d2, by rw [show j + (k + 1) = j + 1 + k from by omega]; exact d3⟩
          simp only [τ']
          rw [if_neg (fun hx => hap g hx hg.1), hg.2]
          omega
    · rename_i hq
      split at e
      case h_2 => cases e
      rename_i b hb
      split at e
      case h_2 => cases e
      rename_i l2 S3 hl2
      simp only [Option.some.injEq, Prod.mk.injEq] at e
      obtain ⟨rfl, rfl⟩ := e
      obtain ⟨i, inf, zv, _, _, hx, hfit, _⟩ := zero_spec hT hb
      obtain ⟨σ2, ow2, τ, css, r1, r2, r3, r4, r5, r6, r7⟩ := parts_spec hT ps Ts (j + 1) h hl2
      refine ⟨σ2, ow2, τ, zc b.t :: css, r1, r2, r3, by simp [r4], by simp [r5], fun g hg => by have := r6 g hg; omega, fun k b' hk' => ?_⟩
      cases k with
      | zero =>
        simp only [List.getElem?_cons_zero, Option.some.injEq] at hk'
        subst hk'
        refine ⟨_, rfl, M_none ?_, .inr ⟨hq, rfl⟩⟩
        rw [hx]
        exact zfit_M _ hfit
      | succ k =>
        simp only [List.getElem?_cons_succ] at hk' ⊢
        obtain ⟨c2, d1, d2, d3⟩ := r7 k b' hk'
        exact ⟨c2, d1, M_move (Stays.refl _ _) _ (fun _ _ _ => rfl) (fun g hg _ => ⟨hg.1, by rw [hg.2]; omega⟩) (fun _ h => h) d2, by rw [show j + (k + 1) = j + 1 + k from by omega]; exact d3⟩

/-- The parts' cells, as the machine lays them. -/
theorem parts_fill {ps : List (Nat × Operand)} {l : List TV} {css : List (List Value)} {place : Nat → Option (Nat × Nat)} (hl : css.length = l.length) (hpl : placesB l.length ps = true)
    (hlen : ∀ (k : Nat) (b : TV) (cs : List Value), l[k]? = some b → css[k]? = some cs → cs.length = b.t.size ∧ ∀ u ∈ cs, u.oneCell' = true)
    (hcs : ∀ (k : Nat) (b : TV), l[k]? = some b → ∃ cs, css[k]? = some cs ∧ ((∃ q, ps.find? (fun q => Nat.beq q.1 k) = some q ∧ matchV b.t (a.eval q.2) cs) ∨ (ps.find? (fun q => Nat.beq q.1 k) = none ∧ cs = zc b.t)))
    (hpla : ∀ i (h : i < l.length), place i = some (offs (l.map fun b => zc b.t) i, l[i].t.size)) :
    Instr.fill place (l.map fun b => zc b.t).flatten.toArray (ps.map fun q => (q.1, a.eval q.2)) = some css.flatten.toArray := by
  have hp : ∀ {n : Nat} {ps : List (Nat × Operand)}, placesB n ps = true → (∀ q ∈ ps, q.1 < n) ∧ (ps.map (·.1)).Nodup := by
    intro n ps
    induction ps with
    | nil => intro _; exact ⟨fun _ h => by simp at h, by simp⟩
    | cons q r ih =>
      intro h
      simp only [placesB, Bool.and_eq_true] at h
      obtain ⟨⟨h1, h2⟩, h3⟩ := h
      obtain ⟨i1, i2⟩ := ih h3
      refine ⟨fun q' hq' => ?_, ?_⟩
      · rcases List.mem_cons.1 hq' with rfl | hq'
        · exact Nat.lt_of_succ_le (Nat.le_of_ble_eq_true h1)
        · exact i1 q' hq'
      · simp only [List.map_cons, List.nodup_cons]
        refine ⟨fun hm => ?_, i2⟩
        obtain ⟨q', hq', e⟩ := List.mem_map.1 hm
        have : (r.any fun q' => Nat.beq q'.1 q.1) = true := List.any_eq_true.2 ⟨q', hq', by rw [e]; exact Nat.beq_refl _⟩
        rw [this] at h2
        cases h2
  obtain ⟨hlt, hnd⟩ := hp hpl
  have hget : ∀ i (h : i < l.length), l[i]? = some l[i] := fun i h => List.getElem?_eq_getElem h
  have hfind : ∀ (i : Nat) (q : Nat × Operand), q ∈ ps → q.1 = i → ps.find? (fun q => Nat.beq q.1 i) = some q := by
    intro i q hq hi
    subst hi
    clear hcs hlen hpla hpl hlt
    induction ps with
    | nil => simp at hq
    | cons q' r ih =>
      simp only [List.map_cons, List.nodup_cons] at hnd
      rcases List.mem_cons.1 hq with rfl | hq
      · simp
      · have : Nat.beq q'.1 q.1 = false := by
          cases hb : Nat.beq q'.1 q.1 with
          | false => rfl
          | true => exact absurd (List.mem_map.2 ⟨q, hq, (Nat.eq_of_beq_eq_true hb).symm⟩) hnd.1
        rw [List.find?_cons, this]
        exact ih hnd.2 hq
  rw [fill_segs place _ (l.map fun b => zc b.t) (fun i h => by
      rw [hpla i (by simpa using h)]
      simp [zc_len]) (fun q hq => by
      obtain ⟨q0, hq0, rfl⟩ := List.mem_map.1 hq
      have hi := hlt q0 hq0
      refine ⟨by simpa using hi, ?_⟩
      obtain ⟨cs, h1, h2⟩ := hcs q0.1 _ (hget q0.1 hi)
      obtain ⟨h3, h4⟩ := hlen _ _ _ (hget q0.1 hi) h1
      rcases h2 with ⟨q, hq', hm⟩ | ⟨hq', _⟩
      · rw [hfind q0.1 q0 hq0 rfl] at hq'
        injection hq' with hq'
        subst hq'
        rw [tail_match hm h4]
        simp [h3, zc_len]
      · rw [hfind q0.1 q0 hq0 rfl] at hq'; cases hq') (by simpa [List.map_map, Function.comp_def] using hnd)]
  congr 3
  unfold fillS
  apply List.ext_getElem?
  intro k
  rw [List.getElem?_mapIdx]
  by_cases hk : k < l.length
  · simp only [List.getElem?_map, hget k hk, Option.map_some]
    obtain ⟨cs, h1, h2⟩ := hcs k _ (hget k hk)
    obtain ⟨h3, h4⟩ := hlen _ _ _ (hget k hk) h1
    rw [h1]
    rw [List.find?_map]
    simp only [Function.comp_def]
    rcases h2 with ⟨q, hq', hm⟩ | ⟨hq', he⟩
    · rw [hq']
      simp only [Option.map_some, Option.getD_some]
      rw [tail_match hm h4]
    · rw [hq']
      simp [he]
  · rw [List.getElem?_eq_none (by simpa using hk), List.getElem?_eq_none (by omega)]
    rfl
end Go.Pv

namespace Go.Pv
set_option linter.unusedVariables false
set_option linter.unusedSimpArgs false
variable {P : Program} {w w' : World} {A A' Wr : Nat → Prop} {H : Nat → Value} {tm tm' : Nat → Value} {S S' S1 : St} {σ σ1 σ2 : Nat → Option Nat} {w0 : World} {W0 Z : Nat → Prop} {a : Act} {own : Nat → Prop} {v : Value} {Θ : Tab} {dst : Option Nat}

theorem M_mkS {ow : Nat → Prop} {τ : Nat → Nat} : ∀ (l : List TV) (css : List (List Value)) (j : Nat), css.length = l.length →
    (∀ (k : Nat) (b : TV), l[k]? = some b → ∃ cs, css[k]? = some cs ∧ M w A H b.t b.m b.x cs (fun g => ow g ∧ τ g = j + k) []) →
    M w A H (mkS l).t (mkS l).m (mkS l).x css.flatten (fun g => ow g ∧ j ≤ τ g) []
  | [], css, j, hl, _ => by
    obtain rfl : css = [] := List.eq_nil_of_length_eq_zero (by simpa using hl)
    simp [mkS, M, K, Md.isK]
  | [a], css, j, hl, h => by
    obtain ⟨cs, h1, h2⟩ := h 0 a rfl
    match css, hl with
    | [c], _ =>
      simp only [List.getElem?_cons_zero, Option.some.injEq] at h1
      subst h1
      simp only [mkS, List.flatten_cons, List.flatten_nil, List.append_nil]
      exact M_move (Stays.refl _ _) _ (fun _ _ _ => rfl) (fun g hg _ => ⟨hg.1, by rw [hg.2]; omega⟩) (fun _ h => h) h2
  | a :: b :: r, css, j, hl, h => by
    match css, hl with
    | c :: cs, hl =>
      obtain ⟨c', h1, h2⟩ := h 0 a rfl
      simp only [List.getElem?_cons_zero, Option.some.injEq] at h1
      subst h1
      have ih := M_mkS (ow := ow) (τ := τ) (b :: r) cs (j + 1) (by simpa using hl) (fun k b' hk => by
        obtain ⟨c', h1, h2⟩ := h (k + 1) b' (by simpa using hk)
        exact ⟨c', by simpa using h1, M_move (Stays.refl _ _) _ (fun _ _ _ => rfl) (fun g hg _ => ⟨hg.1, by rw [hg.2]; omega⟩) (fun _ h => h) h2⟩)
      simp only [mkS, List.flatten_cons]
      refine mkM_pair (s := fun g => τ g = j) ?_ ?_
      · exact M_move (Stays.refl _ _) _ (fun _ _ _ => rfl) (fun g hg _ => ⟨⟨hg.1, by rw [hg.2]; omega⟩, by rw [hg.2]; rfl⟩) (fun _ h => by simp at h) h2
      · exact M_move (Stays.refl _ _) _ (fun _ _ _ => rfl) (fun g hg _ => ⟨⟨hg.1, by omega⟩, by omega⟩) (fun _ h => by simp at h) ih

theorem M_mkStruct {ow : Nat → Prop} {τ : Nat → Nat} {l : List TV} {css : List (List Value)} (hl : css.length = l.length)
    (h : ∀ (k : Nat) (b : TV), l[k]? = some b → ∃ cs, css[k]? = some cs ∧ M w A H b.t b.m b.x cs (fun g => ow g ∧ τ g = 0 + k) []) :
    M w A H (mkStruct l).t (mkStruct l).m (mkStruct l).x css.flatten ow [] := by
  have h0 := M_mkS (ow := ow) (τ := τ) l css 0 hl h
  have h1 : M w A H (mkS l).t (mkS l).m (mkS l).x css.flatten ow [] := M_move (Stays.refl _ _) _ (fun _ _ _ => rfl) (fun g hg _ => hg.1) (fun _ h => h) h0
  cases l with
  | nil => exact h1
  | cons a r =>
    cases r with
    | cons b r => exact h1
    | nil =>
      have : M w A H (.pair a.t .unit) (mkM a.m .k) (a.x, ()) (css.flatten ++ []) ow [] := mkM_pair (s := fun _ => True) (M_move (Stays.refl _ _) _ (fun _ _ _ => rfl) (fun g hg _ => ⟨hg, trivial⟩) (fun _ h => by simp at h) h1) (by simp [M, K, Md.isK])
      rw [List.append_nil] at this
      exact this

theorem fld_mkS : ∀ (l : List TV) (k : Nat) (h : k < l.length), tyAt (if k + 1 = l.length then List.replicate k .snd else List.replicate k .snd ++ [.fst]) (mkS l).t = some l[k].t ∧
    fldOff (if k + 1 = l.length then List.replicate k .snd else List.replicate k .snd ++ [.fst]) (mkS l).t = offs (l.map fun b => zc b.t) k
  | [a], k, h => by
    obtain rfl : k = 0 := by simpa using h
    simp [mkS, tyAt, fldOff, offs]
  | a :: b :: r, 0, h => by simp [mkS, tyAt, fldOff, offs]
  | a :: b :: r, k + 1, h => by
    obtain ⟨h1, h2⟩ := fld_mkS (b :: r) k (by simpa using h)
    have e : (if k + 1 + 1 = (a :: b :: r).length then List.replicate (k + 1) Step.snd else List.replicate (k + 1) .snd ++ [.fst]) = .snd :: (if k + 1 = (b :: r).length then List.replicate k Step.snd else List.replicate k .snd ++ [.fst]) := by
      simp only [List.length_cons]
      by_cases hk : k = r.length
      · rw [if_pos (by omega), if_pos (by omega)]; rfl
      · rw [if_neg (by omega), if_neg (by omega)]; rfl
    rw [e]
    simp only [mkS, tyAt, fldOff]
    refine ⟨h1, ?_⟩
    rw [h2]
    simp only [List.map_cons, offs, List.take_succ_cons, List.map_cons, List.sum_cons, zc_len]

theorem fld_mkStruct (l : List TV) (k : Nat) (h : k < l.length) : tyAt (fld k l.length) (mkStruct l).t = some l[k].t ∧ fldOff (fld k l.length) (mkStruct l).t = offs (l.map fun b => zc b.t) k := by
  match l, h with
  | [a], h =>
    obtain rfl : k = 0 := by simpa using h
    simp [mkStruct, fld, tyAt, fldOff, offs]
  | a :: b :: r, h =>
    have := fld_mkS (a :: b :: r) k h
    have e : fld k (a :: b :: r).length = if k + 1 = (a :: b :: r).length then List.replicate k .snd else List.replicate k .snd ++ [.fst] := by
      unfold fld
      by_cases hk : k + 1 = (a :: b :: r).length
      · have h1 : Nat.beq (k + 1) (a :: b :: r).length = true := by rw [← hk]; exact Nat.beq_refl _
        rw [if_pos hk, h1]
        have : Nat.beq (a :: b :: r).length 1 = false := by
          simp only [List.length_cons]
          rfl
        rw [this]
        rfl
      · rw [if_neg hk]
        have : Nat.beq (k + 1) (a :: b :: r).length = false := by
          cases hb : Nat.beq (k + 1) (a :: b :: r).length with
          | false => rfl
          | true => exact absurd (Nat.eq_of_beq_eq_true hb) hk
        rw [this]
        rfl
    rw [e]
    exact this

theorem zc_mkStruct (l : List TV) : zc (mkStruct l).t = (l.map fun b => zc b.t).flatten := by
  have h : ∀ l : List TV, zc (mkS l).t = (l.map fun b => zc b.t).flatten := by
    intro l
    induction l with
    | nil => simp [mkS, zc]
    | cons a r ih =>
      cases r with
      | nil => simp [mkS]
      | cons b r => simp only [mkS, zc, List.map_cons, List.flatten_cons]; rw [ih]; simp
  unfold mkStruct
  split
  · simp [zc]
  · exact h l

theorem mapM_some {α β : Type} {g : α → Option β} {h : α → β} : ∀ (l : List α), (∀ f ∈ l, g f = some (h f)) → l.mapM g = some (l.map h)
  | [], _ => by simp
  | f :: r, hf => by
    rw [List.mapM_cons, hf f (by simp), mapM_some r fun f hf' => hf f (by simp [hf'])]
    rfl

theorem build_ok (hT : tabB P Θ = true) (h : RelS σ w0 W0 Z H S a w) {o : Oper} {T : TypeId} {ps : Array (Nat × Operand)} (ho : o.op = .build T ps) (e : evBuild Θ S o.dst T ps.toList = some (true, S')) : GoesQ P w0 W0 Z H S' a o.dst w (execOp a.eval o) := by
  unfold evBuild at e
  split at e
  case h_2 => cases e
  rename_i i hi
  split at e
  case h_2 => cases e
  rename_i l S1 hl
  cases hc : (decide ((mkStruct l).t = i.ty) && evBuild.isPair i.ty && placesB l.length ps.toList) with
  | false => rw [hc] at e; cases e
  | true =>
  rw [hc] at e
  simp only [cond_true, Option.some.injEq, Prod.mk.injEq, true_and] at e
  simp only [Bool.and_eq_true, decide_eq_true_eq] at hc
  obtain ⟨⟨hty, hpair⟩, hpl⟩ := hc
  obtain ⟨σ1, ow, τ, css, h1, hn, hk, hcl, hll, hj, hparts⟩ := parts_spec hT ps.toList i.fs 0 h hl
  obtain ⟨⟨_, inf, z, k1, k2, _, _, _, k3, k4⟩, hu, rfl⟩ := tab_ti hT hi
  obtain ⟨pa, pb, hpp⟩ : ∃ pa pb, i.ty = .pair pa pb := by
    cases hty' : i.ty <;> rw [hty'] at hpair <;> first | exact ⟨_, _, rfl⟩ | cases hpair
  obtain ⟨fs, f1, f2, f3, _⟩ := und_pair hu hpp
  have hfl : fs.toList.length = l.length := by rw [hll, ← f2, List.length_map]
  have hM : M w (Av σ Z) H (mkStruct l).t (mkStruct l).m (mkStruct l).x css.flatten ow [] := M_mkStruct hcl (fun k b hb => by obtain ⟨cs, c1, c2, _⟩ := hparts k b hb; exact ⟨cs, c1, c2⟩)
  have hfields : ∀ f ∈ fs.toList, (P.info? f.type).map (fun i => (f.offset, i.size)) = some (f.offset, P.cellsOf f.type) := by
    intro f hf
    obtain ⟨k, hk, rfl⟩ := List.mem_iff_getElem.1 hf
    obtain ⟨t, _, ht, _⟩ := fieldsOK_at f3 k _ (List.getElem?_eq_getElem hk)
    obtain ⟨inf', i1, i2, i3⟩ := size_is hT ht
    rw [i1, Option.map_some, i2, i3]
  have hfill := parts_fill (a := a) (ps := ps.toList) (l := l) (css := css) (place := fun k => (fs.toList.map fun f => (f.offset, P.cellsOf f.type)).toArray[k]?) hcl hpl (fun k b cs hb hcs => by
      obtain ⟨cs', c1, c2, _⟩ := hparts k b hb
      rw [c1] at hcs
      injection hcs with hcs
      subst hcs
      exact M_ok _ c2) (fun k b hb => by
      obtain ⟨cs', c1, _, c3⟩ := hparts k b hb
      simp only [Nat.zero_add] at c3
      exact ⟨cs', c1, c3⟩) (fun k hk => by
      obtain ⟨q1, q2⟩ := fld_mkStruct l k hk
      obtain ⟨t, t1, t2, t3, _⟩ := fieldsOK_at f3 k (fs.toList[k]'(by omega)) (List.getElem?_eq_getElem (by omega))
      have hfs : fs.size = l.length := by rw [← hfl, Array.length_toList]
      rw [Nat.zero_add, ← hty, hfs] at t1 t3
      rw [q1] at t1
      injection t1 with t1
      subst t1
      obtain ⟨_, _, _, c3⟩ := size_is hT t2
      rw [q2] at t3
      simp only [List.getElem?_toArray, List.getElem?_map, List.getElem?_eq_getElem (show k < fs.toList.length by omega), Option.map_some, c3, t3])
  have hbuilt : P.built i.T (ps.map fun (j, x) => (j, a.eval x)).toList = some css.flatten.toArray := by
    unfold Program.built
    have hz : z.cells = (l.map fun b => zc b.t).flatten.toArray := by
      rw [← zc_mkStruct, hty]
      have hag : isAgg i.ty = true := by rw [hpp]; rfl
      unfold matchV at k4
      rw [if_pos hag] at k4
      rw [k4]
      rfl
    rw [k1, f1]
    simp only [k3, mapM_some _ hfields, hz]
    rw [Array.toList_map]
    exact hfill
  have hrun := fun w => run_build (P := P) w i.T _ _ hbuilt
  rw [← e]
  refine goes_took (b := mkStruct l) (cs := css.flatten) (v := .agg css.flatten.toArray) h1 hk hn (fun w2 _ => ?_) ?_ hM
  · simp only [execOp, ho, Sem.run_bind, hrun w2, Result.andThen_ok]
    rfl
  · unfold matchV
    rw [if_pos (by rw [hty, hpp]; rfl)]
end Go.Pv

namespace Go.Pv
set_option linter.unusedVariables false
set_option linter.unusedSimpArgs false
variable {P : Program} {w w' : World} {A A' Wr : Nat → Prop} {H : Nat → Value} {tm tm' : Nat → Value} {S S' S1 : St} {σ σ1 σ2 : Nat → Option Nat} {w0 : World} {W0 Z : Nat → Prop} {a : Act} {own : Nat → Prop} {v : Value} {Θ : Tab} {dst : Option Nat}

theorem flat_row {s : Nat} (css : List (List Value)) (h : ∀ c ∈ css, c.length = s) (j : Nat) (hj : j < css.length) : (css.flatten.drop (j * s)).take s = css[j] := by
  have h1 : (css.take j).flatten.length = j * s := by
    rw [flatten_len s (fun c hc => h c (List.mem_of_mem_take hc)), List.length_take, Nat.min_eq_left (by omega)]
  rw [flat_split css j hj, ← h1, List.drop_left, ← h (css[j]) (List.getElem_mem hj), List.take_left]

/-- A row of values, in a new block. -/
theorem M_row {t : Ty} {m : Md} {xs : List t.I} {css : List (List Value)} {ow : Nat → Prop} {τ : Nat → Nat} (e : TypeId) (hl : css.length = xs.length)
    (hM : ∀ (j : Nat) (hj : j < xs.length), M w A H t m xs[j] (css[j]'(by omega)) (fun g => ow g ∧ τ g = j) []) (hlt : ∀ g, ow g → g < w.heap.size) (hmax : xs.length ≤ maxLen) :
    M (w.alloc (.cells css.flatten.toArray e)) (fun g => A g ∨ w.heap.size ≤ g) H (.sl t) (.o e none m) xs [.slice (some ⟨w.heap.size, 0, none⟩) xs.length xs.length] (fun g => ow g ∨ g = w.heap.size) [] := by
  have hall : ∀ c ∈ css, c.length = t.size := fun c hc => by
    obtain ⟨j, hj, rfl⟩ := List.mem_iff_getElem.1 hc
    exact (M_ok t (hM j (by omega))).1
  simp only [M]
  refine .inr (.inr ⟨e, none, m, some ⟨w.heap.size, 0, none⟩, xs.length, rfl, rfl, Nat.le_refl _, fun h hh => (by cases hh), .inr ⟨w.heap.size, css.flatten.toArray, τ, rfl, .inr rfl, heap_alloc_new w _, ?_, hmax, fun j hj => ?_⟩⟩)
  · rw [List.size_toArray, flatten_len t.size hall, hl]
  · rw [List.toList_toArray, flat_row css hall j (by omega)]
    refine M_move (w := w) ⟨fun g _ hg => heap_alloc_old w _ g hg, fun g hg hx => ?_⟩ t (fun g hg hl => heap_alloc_old w _ g hl) (fun g hg hl => ⟨.inl hg.1, by omega, hg.2⟩) (fun _ h => by simp at h) (hM j hj)
    rcases hx with hx | hx
    · exact hx
    · omega

theorem made_flat (zl : List Value) : ∀ n, madeCells zl.toArray (n * zl.length) = (List.replicate n zl).flatten.toArray := by
  intro n
  unfold madeCells
  apply Array.toList_inj.1
  simp only [Array.toList_map, Array.toList_range, List.toList_toArray]
  induction n with
  | zero => simp
  | succ n ih =>
    rw [Nat.add_mul, Nat.one_mul, List.range_add, List.map_append, ih, List.replicate_succ', List.flatten_append]
    congr 1
    simp only [List.map_map, List.flatten_cons, List.flatten_nil, List.append_nil]
    apply List.ext_getElem?
    intro k
    by_cases hk : k < zl.length
    · simp [hk, Function.comp_def, Nat.mod_eq_of_lt hk]
    · simp [hk]

theorem listOf_spec {t : Ty} {m : Md} : ∀ {l : List TV} {xs : List t.I}, listOf t m l = some xs → xs.length = l.length ∧ ∀ (k : Nat) (hk : k < xs.length), l[k]? = some ⟨t, m, xs[k]⟩
  | [], xs, h => by
    simp only [listOf, Option.some.injEq] at h
    subst h
    exact ⟨rfl, fun k hk => by simp at hk⟩
  | b :: r, xs, h => by
    simp only [listOf] at h
    split at h
    · rename_i ht
      split at h
      · rename_i hm
        split at h
        · rename_i l hl
          injection h with h
          subst h
          obtain ⟨h1, h2⟩ := listOf_spec hl
          obtain ⟨bt, bm, bx⟩ := b
          simp only at ht hm
          subst ht hm
          refine ⟨by simp [h1], fun k hk => ?_⟩
          cases k with
          | zero => rfl
          | succ k => simpa using h2 k (by simpa using hk)
        · cases h
      · cases h
    · cases h

theorem buildSlice_ok (hT : tabB P Θ = true) (h : RelS σ w0 W0 Z H S a w) {hn : Hn} {o : Oper} {T : TypeId} {n : Nat} {ps : Array (Nat × Operand)} (ho : o.op = .buildSlice T n ps) (e : evBuildSlice Θ hn S o.dst T n ps.toList = some (true, S')) : GoesX P w0 W0 Z H S' a o.dst w (execOp a.eval o) := by
  unfold evBuildSlice at e
  split at e
  case h_2 => cases e
  rename_i T0 t te fs0 hi
  cases hc : (placesB n ps.toList && Nat.ble n 1800) with
  | false => rw [hc] at e; cases e
  | true =>
  rw [hc] at e
  simp only [cond_true] at e
  simp only [Bool.and_eq_true] at hc
  obtain ⟨hpl, hn18⟩ := hc
  have hn18 := Nat.le_of_ble_eq_true hn18
  split at e
  case h_2 => cases e
  rename_i l S1 hl
  obtain ⟨σ1, ow, τ, css, h1, hnn, hk, hcl, hll, hj, hparts⟩ := parts_spec hT ps.toList _ 0 h hl
  rw [List.length_replicate] at hll
  obtain ⟨_, hu, hT0⟩ := tab_ti hT hi
  simp only at hT0
  subst hT0
  obtain ⟨u1, u2, u3⟩ := und_sl hu rfl
  simp only at u1 u2
  obtain ⟨i2, hi2, ht2⟩ := is_find u2
  obtain ⟨⟨sm, inf, z, k1, k2, _, _, _, k3, k4⟩, _, hte⟩ := tab_ti hT hi2
  rw [hte] at k1
  rw [ht2] at k2 k4 sm
  have hlt : ∀ g, ow g → g < w.heap.size := fun g hg => by
    obtain ⟨i, _, hi⟩ := hk.was g hg
    exact h.lt g i hi
  -- all parts are of the type
  have hall : (∃ m xs, listOf t m l = some xs ∧ S' = S1.put o.dst (.v ⟨.sl t, .o te none m, xs⟩ [])) := by
    split at e
    · simp only [Option.some.injEq, Prod.mk.injEq, true_and] at e
      exact ⟨_, [], rfl, e.symm⟩
    · split at e
      · rename_i b r xs hxs
        simp only [Option.some.injEq, Prod.mk.injEq, true_and] at e
        exact ⟨_, xs, hxs, e.symm⟩
      · cases e
  obtain ⟨m, xs, hxs, rfl⟩ := hall
  obtain ⟨x1, x2⟩ := listOf_spec hxs
  have hty : ∀ (k : Nat) (b : TV), l[k]? = some b → b.t = t := fun k b hb => by
    have hkl : k < xs.length := by rw [x1]; exact (List.getElem?_eq_some_iff.1 hb).1
    rw [x2 k hkl] at hb
    injection hb with hb
    rw [← hb]
  have hzl : (l.map fun b => zc b.t) = List.replicate n (zc t) := by
    apply List.ext_getElem?
    intro k
    rw [List.getElem?_map, List.getElem?_replicate]
    by_cases hkl : k < l.length
    · rw [if_pos (by omega), List.getElem?_eq_getElem hkl, Option.map_some, hty k _ (List.getElem?_eq_getElem hkl)]
    · rw [if_neg (by omega), List.getElem?_eq_none (by omega)]
      rfl
  have hfill := parts_fill (a := a) (ps := ps.toList) (l := l) (css := css) (place := fun k => some (k * t.size, t.size)) hcl (by rw [hll]; exact hpl) (fun k b cs hb hcs => by
      obtain ⟨cs', c1, c2, _⟩ := hparts k b hb
      rw [c1] at hcs
      injection hcs with hcs
      subst hcs
      exact M_ok _ c2) (fun k b hb => by
      obtain ⟨cs', c1, _, c3⟩ := hparts k b hb
      simp only [Nat.zero_add] at c3
      exact ⟨cs', c1, c3⟩) (fun k hk => by
      rw [hty k _ (List.getElem?_eq_getElem hk), hzl]
      congr 2
      unfold offs
      rw [List.take_replicate, Nat.min_eq_left (by omega), List.map_replicate, List.sum_replicate_nat, zc_len])
  have hz1 : z.cells = (zc t).toArray := tail_match k4 (fun u hu => ?_)
  rotate_left
  · -- one cell each
    have : ∀ (t : Ty), ∀ u ∈ zc t, u.oneCell' = true := by
      intro t
      induction t with
      | pair a b iha ihb => intro u hu; simp only [zc, List.mem_append] at hu; rcases hu with hu | hu; exact iha u hu; exact ihb u hu
      | arr n t ih => intro u hu; simp only [zc, List.mem_flatten] at hu; obtain ⟨c, hc, hu⟩ := hu; rw [List.eq_of_mem_replicate hc] at hu; exact ih u hu
      | unit => intro u hu; simp [zc] at hu
      | _ => intro u hu; simp only [zc, List.mem_singleton] at hu; subst hu; rfl
    exact this t u hu
  have hlc : css.length = xs.length := by omega
  have hMrow := M_row (w := w) (A := Av σ Z) (H := H) (t := t) (m := m) (xs := xs) (css := css) (ow := ow) (τ := τ) te hlc (fun j hj => by
      have hjl := x2 j hj
      obtain ⟨cs', c1, c2, _⟩ := hparts j _ hjl
      rw [List.getElem?_eq_getElem (by omega)] at c1
      injection c1 with c1
      rw [c1]
      simpa using c2) hlt (by simp only [maxLen]; omega)
  have hrun : (Instr.buildSlice T0 n (ps.map fun (j, x) => (j, a.eval x))).run P w = .ok (.slice (some ⟨w.heap.size, 0, none⟩) n n) (w.alloc (.cells css.flatten.toArray te)) := by
    have hsz : ¬ n * t.size > 2 ^ 24 := by
      have := Nat.mul_le_mul hn18 sm
      omega
    have hfill' : Instr.fill (fun i => some (i * t.size, t.size)) ((Array.range (n * t.size)).map (z.cells[· % z.cells.size]!)) (ps.map fun x => (x.1, a.eval x.2)).toList = some css.flatten.toArray := by
      have := made_flat (zc t) n
      unfold madeCells at this
      rw [hz1, Array.toList_map]
      rw [zc_len] at this
      rw [this, ← hzl]
      exact hfill
    have hso : (sizeOf te).run P w = .ok t.size w := by
      simp [sizeOf, typeInfo, k1, k2]
    have hzv : (zeroValue te).run P w = .ok z w := by
      simp [zeroValue, typeInfo, k1, k3]
    by_cases h0 : n * t.size = 0
    · have hfill0 : Instr.fill (fun i => some (i * t.size, t.size)) ((Array.range (n * t.size)).map ((#[] : Array Value)[· % (#[] : Array Value).size]!)) (ps.map fun x => (x.1, a.eval x.2)).toList = some css.flatten.toArray := by
        rw [← hfill', h0]
        simp [Array.range_zero']
      unfold Instr.buildSlice
      simp only [Sem.run_bind, run_underlying u1, Result.andThen_ok, hso, hsz, if_false]
      rw [if_pos h0]
      simp only [Sem.run_bind, Sem.run_pure, Result.andThen_ok, hfill0]
      simp [newRow]
    · unfold Instr.buildSlice
      simp only [Sem.run_bind, run_underlying u1, Result.andThen_ok, hso, hsz, if_false]
      rw [if_neg h0]
      simp only [Sem.run_bind, Sem.run_pure, hzv, Result.andThen_ok, hfill']
      simp [newRow]
  refine ⟨w.alloc (.cells css.flatten.toArray te), .slice (some ⟨w.heap.size, 0, none⟩) n n, ?_, fun g hg => heap_alloc_old w _ g hg, _, h1.give (b := ⟨.sl t, .o te none m, xs⟩) (cs := [.slice (some ⟨w.heap.size, 0, none⟩) n n]) (fun g hg => heap_alloc_old w _ g hg) (h1.fr.alloc _) (fun g hg => ?_) (fun g hg hx => ?_) (by simp [matchV, isAgg]) (by
      have : xs.length = n := by omega
      rw [this] at hMrow
      exact hMrow)⟩
  · simp only [execOp, ho, Sem.run_bind, hrun, Result.andThen_ok]
    rfl
  · rcases hg with hg | rfl
    · obtain ⟨i, hi, hg'⟩ := hk.now g hg
      have := hlt g hg
      exact ⟨by simp only [World.alloc, Array.size_push]; omega, .inl ⟨i, by omega, hg'⟩⟩
    · exact ⟨by simp only [World.alloc, Array.size_push]; omega, .inr (Nat.le_refl _)⟩
  · rcases hx with hx | hx | rfl
    · exact .inl (hk.Av.1 hx)
    · obtain ⟨i, _, hi⟩ := hk.was g hx
      exact .inl (.inl ⟨i, hi⟩)
    · exact .inr (Nat.le_refl _)

theorem makeSlice_ok (hT : tabB P Θ = true) (h : RelS σ w0 W0 Z H S a w) {o : Oper} {T : TypeId} {l c : Operand} (ho : o.op = .makeSlice T l c) (e : evMakeSlice Θ S o.dst T l c = some (true, S')) : GoesX P w0 W0 Z H S' a o.dst w (execOp a.eval o) := by
  unfold evMakeSlice at e
  split at e
  case h_2 => cases e
  rename_i T0 t te fs0 n n' hi hl hc
  split at e
  case h_2 => cases e
  rename_i z hz
  split at e
  case isFalse => cases e
  rename_i hzt
  simp only [Option.some.injEq, Prod.mk.injEq, Bool.and_eq_true, decide_eq_true_eq] at e
  obtain ⟨⟨⟨rfl, h0⟩, h40⟩, rfl⟩ := e
  obtain ⟨kl, hl⟩ := rdInt_spec h hl
  obtain ⟨kc, hc⟩ := rdInt_spec h hc
  obtain ⟨_, hu, hT0⟩ := tab_ti hT hi
  simp only at hT0
  subst hT0
  obtain ⟨u1, u2, u3⟩ := und_sl hu rfl
  simp only at u1
  obtain ⟨i, inf, zv, hi2, hty, hx, hfit, q1, q2, q3, q4, q5, q6⟩ := zero_spec hT hz
  have hM0 : M w (Av σ Z) H z.t z.m z.t.z (zc z.t) (fun _ => False) [] := zfit_M z.t hfit
  have hzc : zv.cells = (zc z.t).toArray := tail_match q4 (M_ok _ hM0).2
  have hrun := run_make (P := P) w T0 te inf zv u1 q1 q3 kl kc n n h0 (Int.le_refl _) (by
    have h1 : (inf.bytes : Int) ≤ 256 := by omega
    calc (inf.bytes : Int) * n ≤ 256 * n := Int.mul_le_mul_of_nonneg_right h1 h0
      _ ≤ 281474976710656 := by omega) (by omega)
  rw [q2, hzc, ← zc_len, made_flat] at hrun
  have hMrow := M_row (w := w) (A := Av σ Z) (H := H) (t := t) (m := z.m) (xs := List.replicate n.toNat t.z) (css := List.replicate n.toNat (zc z.t)) (ow := fun _ => False) (τ := fun _ => 0) te (by simp) (fun j hj => by
      subst hzt
      simp only [List.getElem_replicate]
      exact M_none hM0) (fun _ h => h.elim) (by simp only [List.length_replicate, maxLen]; omega)
  refine ⟨w.alloc (.cells (List.replicate n.toNat (zc z.t)).flatten.toArray te), _, ?_, fun g hg => heap_alloc_old w _ g hg, _, h.give (b := ⟨.sl t, .o te none z.m, List.replicate n.toNat t.z⟩) (cs := [.slice (some ⟨w.heap.size, 0, none⟩) n.toNat n.toNat]) (w' := w.alloc (.cells (List.replicate n.toNat (zc z.t)).flatten.toArray te)) (v := .slice (some ⟨w.heap.size, 0, none⟩) n.toNat n.toNat) (fun g hg => heap_alloc_old w _ g hg) (h.fr.alloc _) (fun g hg => ?_) (fun g hg hx => ?_) (by simp [matchV, isAgg]) (by
      rw [List.length_replicate] at hMrow
      exact hMrow)⟩
  · simp only [execOp, ho, hl, hc, Sem.run_bind, hrun, Result.andThen_ok]
    rfl
  · rcases hg with hg | rfl
    · exact hg.elim
    · exact ⟨by simp only [World.alloc, Array.size_push]; omega, .inr (Nat.le_refl _)⟩
  · rcases hx with hx | hx | rfl
    · exact .inl hx
    · exact hx.elim
    · exact .inr (Nat.le_refl _)
end Go.Pv

namespace Go.Pv
set_option linter.unusedVariables false
set_option linter.unusedSimpArgs false
variable {P : Program} {w w' : World} {A A' Wr : Nat → Prop} {H : Nat → Value} {tm tm' : Nat → Value} {S S' S1 : St} {σ σ1 σ2 : Nat → Option Nat} {w0 : World} {W0 Z : Nat → Prop} {a : Act} {own : Nat → Prop} {v : Value} {Θ : Tab} {dst : Option Nat}

theorem row_left {olds news : List Value} {s n j : Nat} (hl : olds.length = n * s) (hj : j < n) : ((olds ++ news).drop (j * s)).take s = (olds.drop (j * s)).take s := by
  have h1 : (j + 1) * s ≤ n * s := Nat.mul_le_mul_right s hj
  rw [Nat.add_mul, Nat.one_mul] at h1
  rw [List.drop_append_of_le_length (by omega), List.take_append_of_le_length (by rw [List.length_drop]; omega)]
theorem row_right {olds news : List Value} {s n j : Nat} (hl : olds.length = n * s) : ((olds ++ news).drop ((n + j) * s)).take s = (news.drop (j * s)).take s := by
  rw [Nat.add_mul, ← hl, List.drop_append, Nat.add_sub_cancel_left, List.drop_eq_nil_of_le (Nat.le_add_right _ _), List.nil_append]
theorem row_take {cur : List Value} {s n j : Nat} (hj : j < n) : ((cur.take (n * s)).drop (j * s)).take s = (cur.drop (j * s)).take s := by
  have h1 : (j + 1) * s ≤ n * s := Nat.mul_le_mul_right s hj
  rw [Nat.add_mul, Nat.one_mul] at h1
  rw [List.drop_take, List.take_take, Nat.min_eq_left (by omega)]

theorem setCells_setRow {g o : Nat} {t : TypeId} {cur : Array Value} {vs : List Value} (hw : w.heap[g]? = some (.cells cur t (0, 0))) (hb : o + vs.length ≤ cur.size) (h1 : ∀ u ∈ vs, u.oneCell' = true) :
    w.setCells g o vs = w.setRow g (putCells cur.toList o vs).toArray := by
  have e1 := run_storeCells_at (P := (default : Program)) g o t vs 0 cur w hw (by omega) h1
  have e2 := run_storeCells_cells (P := (default : Program)) g o vs 0 w (fun j hj => by
    have : o + j < cur.size := by omega
    simp [World.cell?, hw, this]) (fun j hj => by simp [World.frozen?, hw]) h1
  rw [e1] at e2
  simp only [Nat.add_zero, Result.ok.injEq, true_and] at e2
  exact e2.symm

theorem src_of {T' e' : TypeId} {size : Nat} {t : Ty} {ys : List t.I} {vy : Value} (hk : P.underlying T' = some (.slice e')) (hs : size = t.size)
    (h : ∃ X c, vy = .slice X ys.length c ∧ (0 < ys.length → ∃ g off cur T fr, X = some ⟨g, off, none⟩ ∧ w.heap[g]? = some (.cells cur T fr) ∧ off + ys.length * t.size ≤ cur.size ∧ ∀ u ∈ (cur.toList.drop off).take (ys.length * t.size), u.oneCell' = true)) :
    ∃ news, Src P size T' vy ys.length news w ∧ (∀ g off cur T fr X c, vy = .slice X ys.length c → X = some ⟨g, off, none⟩ → w.heap[g]? = some (.cells cur T fr) → 0 < ys.length → news = (cur.toList.drop off).take (ys.length * t.size)) := by
  subst hs
  obtain ⟨X, c, rfl, h⟩ := h
  rcases Nat.eq_zero_or_pos ys.length with h0 | h0
  · refine ⟨[], ?_, fun _ _ _ _ _ _ _ _ _ _ hp => by omega⟩
    rw [h0]
    cases X with
    | none => exact Src.ofNil w hk c
    | some ad => exact Src.ofSlice w hk ad 0 c [] (by simp) (fun j u hu => by simp at hu) (fun u hu => by simp at hu)
  · obtain ⟨g, off, cur, T, fr, rfl, hw, hb, h1⟩ := h h0
    refine ⟨(cur.toList.drop off).take (ys.length * t.size), Src.ofSlice w hk ⟨g, off, none⟩ ys.length c _ (by have hc : cur.toList.length = cur.size := Array.length_toList; rw [List.length_take, List.length_drop]; omega) (fun j u hu => ?_) h1, ?_⟩
    · have hj : j < ys.length * t.size := by
        have := (List.getElem?_eq_some_iff.1 hu).1
        rw [List.length_take] at this
        omega
      rw [List.getElem?_take, if_pos hj, List.getElem?_drop] at hu
      rw [addr_add]
      simp only [World.cell?, hw]
      rw [← Array.getElem?_toList]
      exact hu
    · intro g' off' cur' T' fr' X' c' e1 e2 hw' _
      injection e1 with e1
      subst e2
      injection e1 with e1
      injection e1 with e1 e1'
      subst e1 e1'
      rw [hw] at hw'
      injection hw' with hw'
      injection hw' with hw'
      rw [hw']

noncomputable def join (owN : Nat → Prop) (n : Nat) (τN τ : Nat → Nat) (g : Nat) : Nat := open Classical in if owN g then n + τN g else τ g
theorem join_in {owN : Nat → Prop} {n : Nat} {τN τ : Nat → Nat} {g : Nat} (h : owN g) : join owN n τN τ g = n + τN g := if_pos h
theorem join_out {owN : Nat → Prop} {n : Nat} {τN τ : Nat → Nat} {g : Nat} (h : ¬ owN g) : join owN n τN τ g = τ g := if_neg h
/-- append onto a slice of one's own. -/
theorem append_plain (hT : tabB P Θ = true) {T T' e ty : TypeId} {t : Ty} {tag : Option Nat} {me : Md} {xs ys : List t.I} {vx vy : Value} {owx owN : Nat → Prop} {τN : Nat → Nat} {news : List Value} {inf : TypeInfo} {z : Value}
    (hu : P.underlying T = some (.slice e)) (hi : P.info? e = some inf) (hz : inf.zero = some z) (hsz : inf.size = t.size) (hby : inf.bytes ≤ 32 * t.size) (hzs : z.cells.size = t.size) (hpos : 0 < t.size)
    (hx : M w A H (.sl t) (.o e tag me) xs [vx] owx []) (hsrc : Src P t.size T' vy ys.length news w)
    (hN : ∀ (k : Nat) (hk : k < ys.length), M w A H t me ys[k] ((news.drop (k * t.size)).take t.size) (fun g => owN g ∧ τN g = k) [])
    (hdis : ∀ g, owx g → ¬ owN g) (hxA : ∀ g, owx g → A g) (hlx : ∀ g, owx g → g < w.heap.size) (hlN : ∀ g, owN g → g < w.heap.size) (hlim : (xs.length + ys.length) * t.size ≤ 4398046511104) :
    ∃ v' w' ow', (Builtin.append_ #[T, T'] ty #[vx, vy]).run P w = .ok v' w' ∧ M w' (fun g => A g ∨ w.heap.size ≤ g) H (.sl t) (.o e none me) (xs ++ ys) [v'] ow' [] ∧
      (∀ g, g < w.heap.size → ¬ owx g → w'.heap[g]? = w.heap[g]?) ∧ (∀ g, ow' g → g < w'.heap.size ∧ (owx g ∨ owN g ∨ w.heap.size ≤ g)) ∧ w.heap.size ≤ w'.heap.size ∧ w'.os = w.os ∧ w'.tape = w.tape ∧ w'.output = w.output := by
  have hcount : xs.length + ys.length ≤ 4398046511104 := Nat.le_trans (Nat.le_mul_of_pos_right _ hpos) hlim
  have hbytes : (xs.length + ys.length) * inf.bytes ≤ 140737488355328 := by
    have : (xs.length + ys.length) * inf.bytes ≤ (xs.length + ys.length) * (32 * t.size) := Nat.mul_le_mul_left _ hby
    have e2 : (xs.length + ys.length) * (32 * t.size) = 32 * ((xs.length + ys.length) * t.size) := by rw [Nat.mul_left_comm]
    omega
  have hsrc' : Src P inf.size T' vy ys.length news w := by rw [hsz]; exact hsrc
  have hone := hsrc.one
  have hnl := hsrc.newsLen
  -- the grown row
  have grown : ∀ (base : Option Addr) (c : Nat) (olds : List Value) (owo : Nat → Prop) (τ : Nat → Nat), vx = .slice base xs.length c → c < xs.length + ys.length → olds.length = xs.length * t.size →
      (Builtin.firstCells inf.size xs.length vx).run P w.drew = .ok olds.toArray w.drew → (∀ g, owo g → owx g) →
      (∀ (k : Nat) (hk : k < xs.length), M w A H t me xs[k] ((olds.drop (k * t.size)).take t.size) (fun g => owo g ∧ τ g = k) []) →
      ∃ v' w' ow', (Builtin.append_ #[T, T'] ty #[vx, vy]).run P w = .ok v' w' ∧ M w' (fun g => A g ∨ w.heap.size ≤ g) H (.sl t) (.o e none me) (xs ++ ys) [v'] ow' [] ∧
      (∀ g, g < w.heap.size → ¬ owx g → w'.heap[g]? = w.heap[g]?) ∧ (∀ g, ow' g → g < w'.heap.size ∧ (owx g ∨ owN g ∨ w.heap.size ≤ g)) ∧ w.heap.size ≤ w'.heap.size ∧ w'.os = w.os ∧ w'.tape = w.tape ∧ w'.output = w.output := by
    intro base c olds owo τ hv hc hol hfirst hsub hel
    subst hv
    have hrun := run_append_grow_src (P := P) w T T' ty e inf z hu hi hz base xs.length c olds hfirst vy ys.length news hsrc' hc (by omega) (by
      have h1 := nextslicecap_le hc
      have h2 := Nat.mul_le_mul_right inf.bytes h1
      rw [Nat.mul_assoc] at h2
      omega)
    have hge := grownCap_ge w (xs.length + ys.length) c e
    have hle := grownCap_le_maxLen w (xs.length + ys.length) c e (by simp only [maxLen]; omega)
    let pad := Builtin.zeroCells z.cells (grownCap w (xs.length + ys.length) c e - (xs.length + ys.length))
    have hheap : ∀ g, g < w.heap.size → (w.drew.alloc (.cells ((olds ++ news).toArray ++ pad) e)).heap[g]? = w.heap[g]? := fun g hg => heap_alloc_old w.drew _ g hg
    refine ⟨_, w.drew.alloc (.cells ((olds ++ news).toArray ++ pad) e), fun g => owo g ∨ owN g ∨ g = w.heap.size, hrun, ?_, fun g hg _ => hheap g hg, fun g hg => ?_, by simp, rfl, rfl, rfl⟩
    · simp only [M]
      refine .inr (.inr ⟨e, none, me, some ⟨w.heap.size, 0, none⟩, grownCap w (xs.length + ys.length) c e, rfl, by rw [List.length_append], by rw [List.length_append]; exact hge, fun h hh => (by cases hh), .inr ⟨w.heap.size, (olds ++ news).toArray ++ pad, join owN xs.length τN τ, rfl, .inr (.inr rfl), heap_alloc_new w.drew _, ?_, hle, fun j hj => ?_⟩⟩)
      · simp only [pad, Array.size_append, List.size_toArray, List.length_append, size_zeroCells, hzs, hol, hnl, ← Nat.add_mul]
        congr 1
        omega
      · have hst : Stays w (w.drew.alloc (.cells ((olds ++ news).toArray ++ pad) e)) A (fun g => A g ∨ w.heap.size ≤ g) := ⟨fun g _ hg => hheap g hg, fun g hg hx => hx.resolve_right (by omega)⟩
        rw [Array.toList_append, List.toList_toArray]
        rcases Nat.lt_or_ge j xs.length with hjx | hjx
        · rw [List.getElem_append_left hjx, List.append_assoc, row_left hol hjx]
          refine M_move hst t (fun g hg hl => hheap g hl) (fun g hg hl => ⟨.inl hg.1, by omega, ?_⟩) (fun _ h => by simp at h) (hel j hjx)
          rw [join_out (hdis g (hsub g hg.1))]
          exact hg.2
        · have hjy : j - xs.length < ys.length := by rw [List.length_append] at hj; omega
          rw [List.getElem_append_right hjx]
          have e1 := row_right (olds := olds) (news := news ++ pad.toList) (s := t.size) (n := xs.length) (j := j - xs.length) hol
          rw [show xs.length + (j - xs.length) = j from by omega, ← List.append_assoc, row_left hnl hjy] at e1
          rw [e1]
          refine M_move hst t (fun g hg hl => hheap g hl) (fun g hg hl => ⟨.inr (.inl hg.1), by omega, ?_⟩) (fun _ h => by simp at h) (hN (j - xs.length) hjy)
          rw [join_in hg.1, hg.2]
          omega
    · have : (w.drew.alloc (.cells ((olds ++ news).toArray ++ pad) e)).heap.size = w.heap.size + 1 := by simp
      rcases hg with hg | hg | rfl
      · exact ⟨by have := hlx g (hsub g hg); omega, .inl (hsub g hg)⟩
      · exact ⟨by have := hlN g hg; omega, .inr (.inl hg)⟩
      · exact ⟨by omega, .inr (.inr (Nat.le_refl _))⟩
  -- nothing to append
  have nothing : ∀ (base : Option Addr) (c : Nat), vx = .slice base xs.length c → xs.length ≤ c → ys.length = 0 →
      ∃ v' w' ow', (Builtin.append_ #[T, T'] ty #[vx, vy]).run P w = .ok v' w' ∧ M w' (fun g => A g ∨ w.heap.size ≤ g) H (.sl t) (.o e none me) (xs ++ ys) [v'] ow' [] ∧
      (∀ g, g < w.heap.size → ¬ owx g → w'.heap[g]? = w.heap[g]?) ∧ (∀ g, ow' g → g < w'.heap.size ∧ (owx g ∨ owN g ∨ w.heap.size ≤ g)) ∧ w.heap.size ≤ w'.heap.size ∧ w'.os = w.os ∧ w'.tape = w.tape ∧ w'.output = w.output := by
    intro base c hv hle h0
    have hys : ys = [] := List.eq_nil_of_length_eq_zero h0
    subst hys
    have hn0 : news = [] := List.eq_nil_of_length_eq_zero (by simpa using hnl)
    rw [hn0] at hsrc'
    rw [hv] at hx ⊢
    have hrun := run_append_nothing (P := P) w T T' ty e inf hu hi base xs.length c hle vy hsrc'
    refine ⟨_, w, owx, hrun, ?_, fun _ _ _ => rfl, fun g hg => ⟨hlx g hg, .inl hg⟩, Nat.le_refl _, rfl, rfl, rfl⟩
    rw [List.append_nil]
    have hx' : M w A H (.sl t) (.o e none me) xs [.slice base xs.length c] owx [] := by
      simp only [M] at hx ⊢
      rcases hx with ⟨hn, _⟩ | ⟨hk, _⟩ | ⟨T1, tag1, me1, X, c1, e1, e2, h1, h2, h3⟩
      · simp at hn
      · simp [Md.isK] at hk
      · injection e1 with e1 e1' e1''
        subst e1 e1' e1''
        exact .inr (.inr ⟨e, none, me, X, c1, rfl, e2, h1, fun h hh => (by cases hh), h3⟩)
    exact M_move (w := w) ⟨fun _ _ _ => rfl, fun g hg hx => hx.resolve_right (by omega)⟩ (.sl t) (fun _ _ _ => rfl) (fun g hg _ => hg) (fun _ h => h) hx'
  have hx0 := hx
  simp only [M] at hx
  rcases hx with ⟨hn, _⟩ | ⟨hk, _⟩ | ⟨T1, tag1, me1, X, c, e1, e2, hle, htag, hx⟩
  · simp at hn
  · simp [Md.isK] at hk
  · injection e1 with e1 e1' e1''
    subst e1 e1' e1''
    simp only [List.cons.injEq, and_true] at e2
    rcases Nat.eq_zero_or_pos ys.length with h0 | h0
    · exact nothing X c e2 hle h0
    · rcases hx with ⟨hxs, hc⟩ | ⟨g, cur, τ, rfl, hog, hw, hcs, hcm, hel⟩
      · subst hxs hc
        refine grown X 0 [] (fun _ => False) (fun _ => 0) e2 (by simpa using h0) (by simp) ?_ (fun _ h => h.elim) (fun k hk => by simp at hk)
        rw [e2]
        cases X with
        | none => exact run_firstCells_none w.drew _ _ _ _
        | some ad => exact run_firstCells_some w.drew _ _ ad _ _ [] (by simp) (fun j u hu => by simp at hu)
      · have hbx : xs.length * t.size ≤ cur.toList.length := by
          have h1 : cur.toList.length = cur.size := Array.length_toList
          have h2 := Nat.mul_le_mul_right t.size hle
          omega
        have hcl : cur.toList.length = cur.size := Array.length_toList
        by_cases hroom : xs.length + ys.length ≤ c
        · -- room
          have hfit : xs.length * t.size + news.length ≤ cur.size := by
            rw [hnl, hcs, ← Nat.add_mul]
            exact Nat.mul_le_mul_right _ hroom
          have hrun := run_append_room_src (P := P) w T T' ty e inf hu hi g 0 xs.length c vy ys.length news hsrc' hroom (fun j hj => by
            have : xs.length * inf.size + j < cur.size := by rw [hsz]; omega
            simp [World.cell?, hw, this]) (fun j hj => by simp [World.frozen?, hw])
          rw [Nat.zero_add, hsz, setCells_setRow hw hfit hone] at hrun
          have hheap : ∀ k, k ≠ g → (w.setRow g (putCells cur.toList (xs.length * t.size) news).toArray).heap[k]? = w.heap[k]? := fun k hk => setRow_other w g k _ hk
          refine ⟨_, w.setRow g (putCells cur.toList (xs.length * t.size) news).toArray, fun k => owx k ∨ owN k, by rw [e2]; exact hrun, ?_, fun k _ hk => hheap k (fun e' => hk (by rw [e']; exact hog)), fun k hk => ?_, by rw [setRow_size]; exact Nat.le_refl _, rfl, rfl, rfl⟩
          · simp only [M]
            refine .inr (.inr ⟨e, none, me, some ⟨g, 0, none⟩, c, rfl, by rw [List.length_append], by rw [List.length_append]; exact hroom, fun h hh => (by cases hh), .inr ⟨g, (putCells cur.toList (xs.length * t.size) news).toArray, join owN xs.length τN τ, rfl, .inl hog, setRow_heap w g cur _ e (0, 0) hw, ?_, hcm, fun j hj => ?_⟩⟩)
            · rw [List.size_toArray, put_len _ _ _ (by omega), hcl, hcs]
            · have hst : Stays w (w.setRow g (putCells cur.toList (xs.length * t.size) news).toArray) A (fun g => A g ∨ w.heap.size ≤ g) := ⟨fun k hk _ => hheap k (fun e' => hk (by rw [e']; exact hxA g hog)), fun k hk hx => hx.resolve_right (by omega)⟩
              rw [List.toList_toArray]
              have htl : (cur.toList.take (xs.length * t.size)).length = xs.length * t.size := by rw [List.length_take]; omega
              have hput : putCells cur.toList (xs.length * t.size) news = cur.toList.take (xs.length * t.size) ++ (news ++ cur.toList.drop (xs.length * t.size + news.length)) := by unfold putCells; rw [List.append_assoc]
              rcases Nat.lt_or_ge j xs.length with hjx | hjx
              · have hrow : ((putCells cur.toList (xs.length * t.size) news).drop (j * t.size)).take t.size = (cur.toList.drop (j * t.size)).take t.size := by rw [hput, row_left htl hjx, row_take hjx]
                rw [List.getElem_append_left hjx, hrow]
                refine M_move hst t (fun k hk hl => hheap k hk.2.1) (fun k hk hl => ⟨.inl hk.1, hk.2.1, ?_⟩) (fun _ h => h) (hel j hjx)
                rw [join_out (hdis k hk.1)]
                exact hk.2.2
              · have hjy : j - xs.length < ys.length := by rw [List.length_append] at hj; omega
                rw [List.getElem_append_right hjx]
                have e1 := row_right (olds := cur.toList.take (xs.length * t.size)) (news := news ++ cur.toList.drop (xs.length * t.size + news.length)) (s := t.size) (n := xs.length) (j := j - xs.length) htl
                rw [show xs.length + (j - xs.length) = j from by omega, row_left hnl hjy] at e1
                rw [← hput] at e1
                rw [e1]
                have hgN : ∀ k, owN k → k ≠ g := fun k hk e' => hdis g hog (by rw [← e']; exact hk)
                refine M_move hst t (fun k hk hl => hheap k (hgN k hk.1)) (fun k hk hl => ⟨.inr hk.1, hgN k hk.1, ?_⟩) (fun _ h => by simp at h) (hN (j - xs.length) hjy)
                rw [join_in hk.1, hk.2]
                omega
          · rw [setRow_size]
            rcases hk with hk | hk
            · exact ⟨hlx k hk, .inl hk⟩
            · exact ⟨hlN k hk, .inr (.inl hk)⟩
        · refine grown (some ⟨g, 0, none⟩) c (cur.toList.take (xs.length * t.size)) (fun k => owx k ∧ k ≠ g) τ e2 (by omega) (by rw [List.length_take]; omega) ?_ (fun k hk => hk.1) (fun k hk => ?_)
          · rw [e2, hsz]
            refine run_firstCells_some w.drew _ _ ⟨g, 0, none⟩ _ _ _ (by rw [List.length_take]; omega) (fun j u hu => ?_)
            rw [addr_add]
            have hj : j < xs.length * t.size := by
              have := (List.getElem?_eq_some_iff.1 hu).1
              rw [List.length_take] at this
              omega
            rw [List.getElem?_take, if_pos hj] at hu
            have hw' : w.drew.heap[g]? = some (.cells cur e (0, 0)) := hw
            simp only [World.cell?, hw', Nat.zero_add]
            rw [← Array.getElem?_toList]
            exact hu
          · rw [row_take hk]
            exact M_move (Stays.refl _ _) t (fun _ _ _ => rfl) (fun g' hg' _ => ⟨⟨hg'.1, hg'.2.1⟩, hg'.2.2⟩) (fun _ h => h) (hel k hk)
end Go.Pv

namespace Go.Pv
set_option linter.unusedVariables false
set_option linter.unusedSimpArgs false
variable {P : Program} {w w' : World} {A A' Wr : Nat → Prop} {H : Nat → Value} {tm tm' : Nat → Value} {S S' S1 : St} {σ σ1 σ2 : Nat → Option Nat} {w0 : World} {W0 Z : Nat → Prop} {a : Act} {own : Nat → Prop} {v : Value} {Θ : Tab} {dst : Option Nat}

/-- A slice that may be one's own, of elements that are read. -/
def KS (w : World) (A : Nat → Prop) (t : Ty) (xs : List t.I) (cs : List Value) : Prop :=
  ∃ X c, cs = [.slice X xs.length c] ∧ xs.length ≤ c ∧ (0 < xs.length → ∃ g off cur T fr, X = some ⟨g, off, none⟩ ∧ w.heap[g]? = some (.cells cur T fr) ∧ off + xs.length * t.size ≤ cur.size ∧ ∀ j (h : j < xs.length), K w A t xs[j] ((cur.toList.drop (off + j * t.size)).take t.size))

theorem M_KS {t : Ty} {m : Md} {xs : List t.I} {cs : List Value} {ow : Nat → Prop} (hk : m.inn.isK = true) (h : M w A H (.sl t) m xs cs ow []) : KS w A t xs cs := by
  simp only [M] at h
  rcases h with ⟨hn, _⟩ | ⟨_, h⟩ | ⟨T, tag, me, X, c, rfl, rfl, hc, ht, h⟩
  · simp at hn
  · simp only [K] at h
    obtain ⟨X, c, rfl, hc, h⟩ := h
    refine ⟨X, c, rfl, hc, fun hp => ?_⟩
    obtain ⟨g, off, cur, T, fr, h1, _, h2, h3, h4⟩ := h hp
    exact ⟨g, off, cur, T, fr, h1, h2, h3, h4⟩
  · refine ⟨X, c, rfl, hc, fun hp => ?_⟩
    rcases h with ⟨rfl, _⟩ | ⟨g, cur, τ, rfl, hog, hw, hsz, hm, h⟩
    · simp at hp
    · refine ⟨g, 0, cur, T, (0, 0), rfl, hw, ?_, fun j hj => ?_⟩
      · have := Nat.mul_le_mul_right t.size hc
        omega
      · rw [Nat.zero_add]
        exact M_isK t hk (h j hj)

theorem KS_cut {t : Ty} {xs : List t.I} {X : Option Addr} {c lo hi : Nat} (h : KS w A t xs [.slice X xs.length c]) (h1 : lo ≤ hi) (h2 : hi ≤ xs.length) :
    KS w A t ((xs.take hi).drop lo) [.slice (if c = lo then X else X.map (·.add (lo * t.size))) (hi - lo) (c - lo)] := by
  obtain ⟨X', c', e, hc, h⟩ := h
  simp only [List.cons.injEq, Value.slice.injEq, and_true, true_and] at e
  obtain ⟨rfl, rfl⟩ := e
  have hl : ((xs.take hi).drop lo).length = hi - lo := by rw [List.length_drop, List.length_take]; omega
  refine ⟨_, _, by rw [hl], by omega, fun hp => ?_⟩
  rw [hl] at hp
  obtain ⟨g, off, cur, T, fr, rfl, hw, ho, hj⟩ := h (by omega)
  have e1 : (lo + (hi - lo)) * t.size ≤ xs.length * t.size := Nat.mul_le_mul_right _ (by omega)
  rw [Nat.add_mul] at e1
  refine ⟨g, off + lo * t.size, cur, T, fr, ?_, hw, by rw [hl]; omega, fun j hj1 => ?_⟩
  rotate_left
  · have hj2 : j < hi - lo := by rw [← hl]; exact hj1
    have := hj (lo + j) (by omega)
    rw [show ((xs.take hi).drop lo)[j] = xs[lo + j]'(by omega) from by simp]
    rw [show off + lo * t.size + j * t.size = off + (lo + j) * t.size from by rw [Nat.add_mul]; omega]
    exact this
  · rw [if_neg (by omega)]
    simp only [Option.map_some, addr_add]

theorem rdK_spec (h : RelS σ w0 W0 Z H S a w) {av : AV} {t : Ty} {m : Md} {ys : List t.I} (hh : Holds w (Av σ Z) H (tmOf a) S own av v) (e : S.rdA av = some ⟨.sl t, m, ys⟩) (hk : m.inn.isK = true) :
    KS w (Av σ Z) t ys [v] := by
  cases av with
  | v a ex =>
    cases ex with
    | cons _ _ => simp [St.rdA] at e
    | nil =>
      simp only [St.rdA, Option.some.injEq] at e
      subst e
      obtain ⟨cs, h1, h2⟩ := hh
      have : cs = [v] := by simpa [matchV, isAgg] using h1
      subst this
      exact M_KS hk h2
  | al t1 s p =>
    simp only [St.rdA] at e
    obtain ⟨r, cs0, cs, hr, hc, hm⟩ := hh
    obtain ⟨rfl, ow', k2, k3⟩ := place_read h hr hc e
    have : cs = [v] := by simpa [matchV, isAgg] using hm
    subst this
    exact M_KS hk k3
  | cut t1 s p lo hi =>
    simp only [St.rdA] at e
    obtain ⟨r, cs0, t', X, n, c, hr, rfl, hc, hlo, hhi, rfl⟩ := hh
    cases hp : S.place s p with
    | none => rw [hp] at e; cases e
    | some b' =>
      obtain ⟨ht, ow', k2, k3⟩ := place_read h hr hc hp
      obtain ⟨bt, bm, bx⟩ := b'
      simp only at ht
      subst ht
      rw [hp] at e
      simp only [Option.some.injEq] at e
      injection e with e1 e2 e3
      injection e1 with e1
      subst e1 e2
      simp only [heq_eq_eq] at e3
      subst e3
      have hK := M_KS hk k3
      have hn : n = List.length bx := by
        obtain ⟨_, _, e, _⟩ := hK
        simp only [List.cons.injEq, Value.slice.injEq, and_true] at e
        exact e.2.1
      subst hn
      exact KS_cut hK hlo hhi
  | _ => simp [St.rdA] at e

theorem rows_one {s : Nat} {Q : Value → Prop} {l : List Value} : ∀ (n : Nat), (∀ j, j < n → ∀ u ∈ (l.drop (j * s)).take s, Q u) → ∀ u ∈ l.take (n * s), Q u
  | 0, _, u, hu => by simp at hu
  | n + 1, h, u, hu => by
    rw [Nat.add_mul, Nat.one_mul, List.take_add] at hu
    rcases List.mem_append.1 hu with hu | hu
    · exact rows_one n (fun j hj => h j (by omega)) u hu
    · exact h n (by omega) u hu

theorem KS_src {T' e' : TypeId} {t : Ty} {ys : List t.I} {vy : Value} (hk : P.underlying T' = some (.slice e')) (h : KS w A t ys [vy]) :
    ∃ news, Src P t.size T' vy ys.length news w ∧ ∀ (k : Nat) (hk : k < ys.length), K w A t ys[k] ((news.drop (k * t.size)).take t.size) := by
  obtain ⟨X, c, e, hc, h⟩ := h
  simp only [List.cons.injEq, and_true] at e
  obtain ⟨news, h1, h2⟩ := src_of (P := P) (w := w) (t := t) (ys := ys) (vy := vy) hk rfl ⟨X, c, e, fun hp => by
    obtain ⟨g, off, cur, T, fr, rfl, hw, hb, hj⟩ := h hp
    refine ⟨g, off, cur, T, fr, rfl, hw, hb, rows_one _ fun j hj1 u hu => ?_⟩
    rw [List.drop_drop] at hu
    exact (K_ok t (hj j hj1)).2 u hu⟩
  refine ⟨news, h1, fun k hk => ?_⟩
  obtain ⟨g, off, cur, T, fr, rfl, hw, hb, hj⟩ := h (by omega)
  rw [h2 g off cur T fr _ c e rfl hw (by omega), row_take hk, List.drop_drop]
  exact hj k hk

/-- The end of an append. -/
theorem append_end (hT : tabB P Θ = true) {T0 : TypeId} {i : TI} (hi : Θ.find T0 = some i) {t : Ty} (hty : i.ty = .sl t) {o : Oper} {x y : Operand} {T' : TypeId} {tag : Option Nat} {me : Md} {xs ys : List t.I} {owx owN : Nat → Prop} {τN : Nat → Nat} {news : List Value} {n : Nat}
    (ho : o.op = .call { callee := .builtin .append, args := #[x, y], argTypes := #[T0, T'] })
    (h2 : RelS σ2 w0 W0 Z H S1 a w) (hS1 : S1.length = n) (hA : A = Av σ2 Z)
    (hx : M w A H (.sl t) (.o i.e tag me) xs [a.eval x] owx []) (hsrc : Src P t.size T' (a.eval y) ys.length news w)
    (hN : ∀ (k : Nat) (hk : k < ys.length), M w A H t me ys[k] ((news.drop (k * t.size)).take t.size) (fun g => owN g ∧ τN g = k) [])
    (hdis : ∀ g, owx g → ¬ owN g) (hnow : ∀ g, owx g ∨ owN g → ∃ i, n ≤ i ∧ σ2 g = some i) (hlim : (xs.length + ys.length) * t.size ≤ 4398046511104) :
    Goes P w0 W0 Z H (S1.put o.dst (.v ⟨.sl t, .o i.e none me, xs ++ ys⟩ [])) a o.dst w (execOp a.eval o) := by
  subst hA hS1
  obtain ⟨_, hu, hT0⟩ := tab_ti hT hi
  obtain ⟨u1, u2, u3⟩ := und_sl hu hty
  rw [hT0] at u1
  obtain ⟨i2, hi2, ht2⟩ := is_find u2
  obtain ⟨⟨sm, inf, z, k1, k2, kb, _, _, k3, k4⟩, _, hte⟩ := tab_ti hT hi2
  rw [hte] at k1
  rw [ht2] at k2 k4 kb
  have hlt : ∀ g, owx g ∨ owN g → g < w.heap.size := fun g hg => by
    obtain ⟨i, _, hi⟩ := hnow g hg
    exact h2.lt g i hi
  have hz1 : z.cells.size = t.size := by
    unfold matchV at k4
    split at k4
    · rw [k4, Value.cells, List.size_toArray, zc_len]
    · rename_i hag
      have hl := zc_len t
      rw [k4] at hl
      have hv : ∀ (t : Ty), ∀ u ∈ zc t, u.oneCell' = true := by
        intro t
        induction t with
        | pair a b iha ihb => intro u hu; simp only [zc, List.mem_append] at hu; rcases hu with hu | hu; exact iha u hu; exact ihb u hu
        | arr n t ih => intro u hu; simp only [zc, List.mem_flatten] at hu; obtain ⟨c, hc, hu⟩ := hu; rw [List.eq_of_mem_replicate hc] at hu; exact ih u hu
        | unit => intro u hu; simp [zc] at hu
        | _ => intro u hu; simp only [zc, List.mem_singleton] at hu; subst hu; rfl
      have h1 := hv t z (by rw [k4]; simp)
      have : z.cells = #[z] := by cases z <;> first | rfl | simp [Value.oneCell'] at h1
      rw [this]
      simpa using hl
  obtain ⟨v', w', ow', r1, r2, r3, r4, r5, r6, r7, r8⟩ := append_plain (ty := o.type) hT u1 k1 k3 k2 kb hz1 u3 hx hsrc hN hdis (fun g hg => by
    obtain ⟨i, _, hi⟩ := hnow g (.inl hg)
    exact .inl ⟨i, hi⟩) (fun g hg => hlt g (.inl hg)) (fun g hg => hlt g (.inr hg)) hlim
  refine ⟨w', v', .inl ?_, _, h2.give' (b := ⟨.sl t, .o i.e none me, xs ++ ys⟩) (cs := [v']) (ow := ow') (A' := fun g => Av σ2 Z g ∨ w.heap.size ≤ g) r5 (fun g hg hn => r3 g hg (fun hx => ?_)) ?_ (fun g hg => ?_) (fun g hg hx => ?_) (by simp [matchV, isAgg]) r2⟩
  · simp [execOp, ho, resolve, invoke, builtin, r1]
  · obtain ⟨i, hi1, hi2⟩ := hnow g (.inl hx)
    exact hn i hi1 hi2
  · refine ⟨by rw [r6]; exact h2.fr.os, by rw [r7]; exact h2.fr.tape, by rw [r8]; exact h2.fr.output, Nat.le_trans h2.fr.size r5, fun g hg hn => ?_⟩
    rw [r3 g (by have := h2.fr.size; omega) (fun hx => ?_)]
    · exact h2.fr.block g hg hn
    · obtain ⟨i, _, hi⟩ := hnow g (.inl hx)
      rcases h2.new g i hi with h1 | h1
      · omega
      · exact hn h1
  · obtain ⟨q1, q2⟩ := r4 g hg
    refine ⟨q1, ?_⟩
    rcases q2 with q2 | q2 | q2
    · exact .inl (hnow g (.inl q2))
    · exact .inl (hnow g (.inr q2))
    · exact .inr q2
  · rcases hx with hx | hx
    · exact .inl hx
    · rcases (r4 g hx).2 with q2 | q2 | q2
      · obtain ⟨i, _, hi⟩ := hnow g (.inl q2)
        exact .inl (.inl ⟨i, hi⟩)
      · obtain ⟨i, _, hi⟩ := hnow g (.inr q2)
        exact .inl (.inl ⟨i, hi⟩)
      · exact .inr q2

theorem append_ok (hT : tabB P Θ = true) (h : RelS σ w0 W0 Z H S a w) {o : Oper} {as : Array Operand} {ts : Array TypeId} (ho : o.op = .call { callee := .builtin .append, args := as, argTypes := ts }) (e : evAppend Θ S o.dst ts.toList as.toList = some (true, S')) : Goes P w0 W0 Z H S' a o.dst w (execOp a.eval o) := by
  obtain ⟨as⟩ := as
  obtain ⟨ts⟩ := ts
  simp only at e
  unfold evAppend at e
  split at e
  case h_2 => cases e
  rename_i x y T T'
  split at e
  case h_2 => cases e
  rename_i t e0 tag me xs S1 i hb hi
  unfold St.take at hb
  split at hb
  case h_2 => cases hb
  rename_i av hav
  obtain ⟨σ1, cs, ow, h1, hm, hM, hk, hn⟩ := takeA_spec h hav hb
  cases hc : (decide (i.ty = .sl t) && Nat.beq i.e e0 && Θ.is T' (.sl t)) with
  | false => rw [hc] at e; cases e
  | true =>
  rw [hc] at e
  simp only [cond_true] at e
  simp only [Bool.and_eq_true, decide_eq_true_eq] at hc
  obtain ⟨⟨hty, hee⟩, hT'⟩ := hc
  have hee := Nat.eq_of_beq_eq_true hee
  subst hee
  have hcs : cs = [a.eval x] := by simpa [matchV, isAgg] using hm
  subst hcs
  obtain ⟨i', hi', hty'⟩ := is_find hT'
  obtain ⟨_, hu', hT1⟩ := tab_ti hT hi'
  obtain ⟨u1, _, _⟩ := und_sl hu' hty'
  rw [hT1] at u1
  have hst1 : Stays w w (Av σ Z) (Av σ1 Z) := ⟨fun _ _ _ => rfl, fun g _ hg => hk.Av.1 hg⟩
  cases hme : me.isK with
  | true =>
    rw [hme] at e
    simp only [cond_true] at e
    split at e
    case h_2 => cases e
    rename_i t' m' ys hy
    cases hmi : m'.inn.isK with
    | false => rw [hmi] at e; cases e
    | true =>
    rw [hmi] at e
    simp only [cond_true] at e
    split at e
    case isFalse => cases e
    rename_i htt
    subst htt
    simp only [Option.some.injEq, Prod.mk.injEq, decide_eq_true_eq] at e
    obtain ⟨hlim, rfl⟩ := e
    unfold St.rd at hy
    split at hy
    case h_2 => cases hy
    rename_i av2 hav2
    have hKS := rdK_spec h1 (opv_holds h1 hav2) hy hmi
    obtain ⟨news, hsrc, hel⟩ := KS_src (P := P) u1 hKS
    refine append_end (n := S1.length) (A := Av σ1 Z) (owx := ow) (owN := fun _ => False) (τN := fun _ => 0) hT hi hty ho h1 rfl rfl (M_move hst1 _ (fun _ _ _ => rfl) (fun _ h _ => h) (fun _ h => h) hM) hsrc (fun k hk' => K_M hme (hel k hk')) (fun _ _ h => h) (fun g hg => ?_) hlim
    rw [hn]
    exact hk.now g (hg.resolve_right id)
  | false =>
    rw [hme] at e
    simp only [cond_false] at e
    split at e
    case h_2 => cases e
    rename_i t' m' ys S2 hy
    split at e
    case isFalse => cases e
    rename_i htt
    subst htt
    split at e
    case isFalse => cases e
    rename_i hmi
    simp only [Option.some.injEq, Prod.mk.injEq, decide_eq_true_eq] at e
    obtain ⟨hlim, rfl⟩ := e
    unfold St.take at hy
    split at hy
    case h_2 => cases hy
    rename_i av2 hav2
    obtain ⟨σ2, cs2, ow2, h2, hm2, hM2, hk2, hn2⟩ := takeA_spec h1 hav2 hy
    rw [hn] at hk2 hn2
    have hcs : cs2 = [a.eval y] := by simpa [matchV, isAgg] using hm2
    subst hcs
    have hst2 : Stays w w (Av σ1 Z) (Av σ2 Z) := ⟨fun _ _ _ => rfl, fun g _ hg => hk2.Av.1 hg⟩
    have hM2' : M w (Av σ2 Z) H (.sl t') m' ys [a.eval y] ow2 [] := M_move hst2 _ (fun _ _ _ => rfl) (fun _ h _ => h) (fun _ h => h) hM2
    have hM' : M w (Av σ2 Z) H (.sl t') (.o i.e tag me) xs [a.eval x] ow [] := M_move ⟨fun _ _ _ => rfl, fun g _ hg => hk.Av.1 (hk2.Av.1 hg)⟩ _ (fun _ _ _ => rfl) (fun _ h _ => h) (fun _ h => h) hM
    have hnow : ∀ g, ow g ∨ ow2 g → ∃ i, S.length ≤ i ∧ σ2 g = some i := fun g hg => (hk.trans hk2).now g hg
    simp only [M] at hM2'
    rcases hM2' with ⟨hn0, _⟩ | ⟨hK, _⟩ | ⟨T2, tag2, me2, X, c, rfl, e2, hle, htag, hel⟩
    · simp at hn0
    · rw [← hmi] at hme
      rw [inn_isK hK] at hme
      cases hme
    · simp only [Md.inn] at hmi
      subst hmi
      simp only [List.cons.injEq, and_true] at e2
      have hsrc : ∃ (owN : Nat → Prop) (τN : Nat → Nat) (news : List Value), Src P t'.size T' (a.eval y) ys.length news w ∧ (∀ g, owN g → ow2 g) ∧
          ∀ (k : Nat) (hk : k < ys.length), M w (Av σ2 Z) H t' me2 ys[k] ((news.drop (k * t'.size)).take t'.size) (fun g => owN g ∧ τN g = k) [] := by
        rcases hel with ⟨hys, _⟩ | ⟨g, cur, τ, hX, hog, hw, hsz, hmax, hel⟩
        · subst hys
          obtain ⟨news, s1, _⟩ := src_of (P := P) (w := w) (t := t') (ys := ([] : List t'.I)) (vy := a.eval y) u1 rfl ⟨X, c, e2, fun hp => by simp at hp⟩
          exact ⟨fun _ => False, fun _ => 0, news, s1, fun _ h => h.elim, fun k hk => by simp at hk⟩
        · subst hX
          have hcl : cur.toList.length = cur.size := Array.length_toList
          have hb := Nat.mul_le_mul_right t'.size hle
          obtain ⟨news, s1, s2⟩ := src_of (P := P) (w := w) (t := t') (ys := ys) (vy := a.eval y) u1 rfl ⟨some ⟨g, 0, none⟩, c, e2, fun hp => ⟨g, 0, cur, T2, (0, 0), rfl, hw, by omega, rows_one _ fun j hj u hu => by
            rw [List.drop_zero] at hu
            exact (M_ok t' (hel j hj)).2 u hu⟩⟩
          refine ⟨fun g' => ow2 g' ∧ g' ≠ g, τ, news, s1, fun _ h => h.1, fun k hk => ?_⟩
          rw [s2 g 0 cur T2 (0, 0) _ c e2 rfl hw (by omega), row_take hk, List.drop_zero]
          exact M_move (Stays.refl _ _) t' (fun _ _ _ => rfl) (fun g' hg' _ => ⟨⟨hg'.1, hg'.2.1⟩, hg'.2.2⟩) (fun _ h => h) (hel k hk)
      obtain ⟨owN, τN, news, s1, s2, s3⟩ := hsrc
      exact append_end (n := S.length) (A := Av σ2 Z) (owx := ow) (owN := owN) (τN := τN) hT hi hty ho h2 hn2 rfl hM' s1 s3 (fun g hg hg2 => hk.apart hk2 hg (s2 g hg2)) (fun g hg => hnow g (hg.imp id (s2 g))) hlim
end Go.Pv

namespace Go.Pv
set_option linter.unusedVariables false
set_option linter.unusedSimpArgs false
variable {P : Program} {w w' : World} {A A' Wr : Nat → Prop} {H : Nat → Value} {tm tm' : Nat → Value} {S S' S1 : St} {σ σ1 : Nat → Option Nat} {w0 : World} {W0 Z : Nat → Prop} {a : Act} {own : Nat → Prop} {v : Value} {Θ : Tab} {dst : Option Nat}

theorem open_of_clashE {p : Path} : ∀ {q : Path} {s : Step} {r : Path}, clashE q p = false → p ≠ q ++ s :: r := by
  intro q
  induction q generalizing p with
  | nil => intro s r e; cases p <;> simp [clashE] at e
  | cons a q ih =>
    intro s r e h
    subst h
    cases a <;> simp [clashE] at e <;> exact ih e rfl
theorem subs_of_clashE {p : Path} {ex : List Path} (h : ∀ q ∈ ex, clashE q p = false) : subs p ex = [] := by
  have key : ∀ (p r : Path), clashE (p ++ r) p = true := by
    intro p
    induction p with
    | nil => intro r; cases r <;> rfl
    | cons a p ih => intro r; cases a <;> simp [clashE, ih]
  apply List.eq_nil_iff_forall_not_mem.2
  intro q hq
  have := h _ (mem_subs.1 hq)
  rw [key] at this
  cases this
theorem takeC_spec (h : RelS σ w0 W0 Z H S a w) {x : Operand} {t : Ty} {s : Nat} {p : Path} (hpc : p ≠ []) {r : TV} {ex : List Path} {b : TV} (hh : Holds w (Av σ Z) H (tmOf a) S own (.al t s p) (a.eval x)) (hs : S.at s = .v r ex) (hg : getP p r.t r.m r.x = some b) (hk : b.m.isK = false) (hcl : ∀ q ∈ ex, clashE q p = false) :
    ∃ σ1 cs ow, RelS σ1 w0 W0 Z H (((S.weaken s).cover s p).set s (.v r (ex ++ [p]))) a w ∧ matchV b.t (a.eval x) cs ∧ M w (Av σ1 Z) H b.t b.m b.x cs ow [] ∧ Took σ σ1 S.length ow ∧ (((S.weaken s).cover s p).set s (.v r (ex ++ [p]))).length = S.length := by
  obtain ⟨r0, cs0, cs, hr, hc, hm⟩ := hh
  obtain ⟨ex0, b2, cs', ow0, j1, j2, j3, j4, hM, j5, j6, j7⟩ := ref_focus h hr
  rw [hs] at j1
  injection j1 with j1 j1'
  subst j1 j1'
  have j1 := hs
  rw [hg] at j3
  injection j3 with j3
  subst j3
  have j3 := hg
  obtain ⟨cs2, ow', k1, k2, k3, k4⟩ := punch p hM j2 hr.val j3 hk
  rw [hc] at k1
  injection k1 with k1
  subst k1
  rw [subs_of_clashE hcl] at k3
  -- the ownership without what is taken
  have hsl0 : s < S.length := at_lt (by rw [j1]; exact fun e => by cases e)
  let σ1 : Nat → Option Nat := fun g => open Classical in if ow' g then some S.length else σ g
  have hσ1 : ∀ g i, σ1 g = some i → ∃ k, σ g = some k := by
    intro g i hg
    simp only [σ1] at hg
    split at hg
    · exact ⟨s, k2 g (by assumption)⟩
    · exact ⟨i, hg⟩
  have hσ1' : ∀ g i, σ g = some i → ¬ ow' g → σ1 g = some i := by
    intro g i hg hn
    simp only [σ1, if_neg hn, hg]
  have hst : Stays w w (Av σ Z) (Av σ1 Z) := ⟨fun _ _ _ => rfl, fun g _ hg => by
    rcases hg with ⟨i, hg⟩ | hg
    · exact .inl (hσ1 g i hg)
    · exact .inr hg⟩
  have htook : Took σ σ1 S.length ow' := by
    refine ⟨fun g hg => ⟨s, hsl0, k2 g hg⟩, fun g hg => ⟨_, Nat.le_refl _, by simp only [σ1, if_pos hg]⟩, fun g i hg hi => ?_, fun g => ⟨fun ⟨i, hg⟩ => hσ1 g i hg, fun ⟨i, hg⟩ => ?_⟩, fun g i hg hi => hσ1' g i hg (fun hx => ?_)⟩
    · simp only [σ1] at hg
      split at hg
      · injection hg with hg; omega
      · exact hg
    · simp only [σ1]
      split
      · exact ⟨_, rfl⟩
      · exact ⟨i, hg⟩
    · have := k2 g hx
      rw [hg] at this
      injection this with this
      omega
  refine ⟨σ1, cs, ow', ?_, by rw [j4]; exact hm, M_move hst _ (fun _ _ _ => rfl) (fun _ h _ => h) (fun _ h => h) k3, htook, by simp [St.weaken, St.cover]⟩
  have hlen : ((S.weaken s).cover s p).length = S.length := by simp [St.weaken, St.cover]
  have hsl : s < S.length := by
    rcases Nat.lt_or_ge s S.length with hl | hl
    · exact hl
    · unfold St.at at j1
      rw [List.getD_eq_getElem?_getD, List.getElem?_eq_none hl] at j1
      cases j1
  have hatS : St.at (((S.weaken s).cover s p).set s (.v r (ex ++ [p]))) s = .v r (ex ++ [p]) := by rw [at_set, if_pos ⟨rfl, by rw [hlen]; exact hsl⟩]
  have hoth : ∀ i, i ≠ s → St.at (((S.weaken s).cover s p).set s (.v r (ex ++ [p]))) i = (match (bif (S.at i).frail s then AV.dead else S.at i) with
      | .ad t s' q => bif Nat.beq s' s && under p q then .dead else .ad t s' q
      | a => a) := by
    intro i hi
    rw [at_set, if_neg (fun e => hi e.1), at_cover, at_weaken]
    try (cases (bif AV.frail s (S.at i) then AV.dead else S.at i) <;> rfl)
  refine ⟨by simp only [List.length_set, hlen]; exact h.len, h.defers, h.fr, fun g i hg => (hσ1 g i hg).elim fun k hk => h.new g k hk, fun g i hg => (hσ1 g i hg).elim fun k hk => h.lt g k hk, fun g hg => ⟨?_, (h.old g hg).2⟩, fun i => ?_⟩
  · simp only [σ1]
    split
    · rename_i hx
      have := k2 g hx
      rw [(h.old g hg).1] at this
      cases this
    · exact (h.old g hg).1
  · by_cases his : i = s
    · subst his
      rw [hatS]
      exact ⟨cs0, hr.mat, M_move hst _ (fun _ _ _ => rfl) (fun g hg _ => hσ1' g _ hg.1 hg.2) (fun _ h => h) k4⟩
    · rw [hoth i his]
      cases hfr : (S.at i).frail s with
      | true => trivial
      | false =>
        simp only [cond_false]
        have hi := h.holds i
        have base : Holds w (Av σ1 Z) H (tmOf a) S (fun g => σ1 g = some i) (S.at i) (tmOf a i) :=
          hi.kept hst (fun g hg _ => ⟨rfl, hσ1' g i hg (fun hx => his (by have := k2 g hx; rw [hg] at this; injection this))⟩) (fun s' _ => ⟨fun _ _ h => h, rfl, _, h.holds s', fun _ _ _ => rfl⟩)
        have hSv : ∀ j r' ex', j ≠ s → S.at j = .v r' ex' → St.at (((S.weaken s).cover s p).set s (.v r (ex ++ [p]))) j = .v r' ex' := by
          intro j r' ex' hj hv
          rw [hoth j hj, hv]
          simp [AV.frail]
        cases hcase : S.at i with
        | v b3 ex3 =>
          rw [hcase] at base
          obtain ⟨c3, l1, l2⟩ := base
          exact ⟨c3, l1, l2⟩
        | tup l =>
          rw [hcase] at base
          exact base
        | ad t' s' q =>
          rw [hcase] at base hfr
          simp only
          cases hcov : (Nat.beq s' s && under p q) with
          | true => trivial
          | false =>
            simp only [cond_false]
            refine holds_hole j1 hSv hatS hfr (fun t2 q2 e2 => ?_) base (fun _ _ e => by cases e) (fun _ e => by cases e)
            injection e2 with _ e3 e4
            subst e3 e4
            simpa using hcov
        | dead => trivial
        | undef => rw [hcase] at base; exact base
        | al t' s' q =>
          rw [hcase] at base hfr
          exact holds_hole j1 hSv hatS hfr (fun t2 q2 e2 => by cases e2) base (fun _ _ e => by cases e) (fun _ e => by cases e)
        | cut t' s' q lo hi' =>
          rw [hcase] at base hfr
          exact holds_hole j1 hSv hatS hfr (fun t2 q2 e2 => by cases e2) base (fun _ _ e => by cases e) (fun _ e => by cases e)
        | clo f caps =>
          rw [hcase] at base hfr
          exact holds_hole j1 hSv hatS hfr (fun t2 q2 e2 => by cases e2) base (fun _ _ e => by cases e) (fun _ e => by cases e)


theorem append_okC (hT : tabB P Θ = true) (h : RelS σ w0 W0 Z H S a w) {o : Oper} {as : Array Operand} {ts : Array TypeId} (ho : o.op = .call { callee := .builtin .append, args := as, argTypes := ts }) (e : evAppendC Θ S o.dst ts.toList as.toList = some (true, S')) : Goes P w0 W0 Z H S' a o.dst w (execOp a.eval o) := by
  obtain ⟨as⟩ := as
  obtain ⟨ts⟩ := ts
  simp only at e
  unfold evAppendC at e
  split at e
  case h_2 => cases e
  rename_i x y T T'
  split at e
  case h_2 => cases e
  rename_i tt s st pp hav
  split at e
  case h_2 => cases e
  rename_i r ex hs
  split at e
  case h_2 => cases e
  rename_i t e0 tag me xs i hg hi
  cases hc : (decide (i.ty = .sl t) && Nat.beq i.e e0 && Θ.is T' (.sl t) && me.isK) with
  | false => rw [hc] at e; cases e
  | true =>
  rw [hc] at e
  simp only [cond_true] at e
  simp only [Bool.and_eq_true, decide_eq_true_eq] at hc
  obtain ⟨⟨⟨hty, hee⟩, hT'⟩, hme⟩ := hc
  have hee := Nat.eq_of_beq_eq_true hee
  subst hee
  split at e
  case h_2 => cases e
  rename_i t' m' ys hy
  cases hmi : m'.inn.isK with
  | false => rw [hmi] at e; cases e
  | true =>
  rw [hmi] at e
  simp only [cond_true] at e
  split at e
  case isFalse => cases e
  rename_i htt
  subst htt
  simp only [Option.some.injEq, Prod.mk.injEq, Bool.and_eq_true, decide_eq_true_eq] at e
  obtain ⟨⟨hcl, hlim⟩, rfl⟩ := e
  obtain ⟨σ1, cs, ow, h1, hm, hM, hk, hn⟩ := takeC_spec (x := x) h (by simp) (opv_holds h hav) hs hg (by simp [Md.isK]) (fun q hq => by simpa using List.all_eq_true.1 hcl q hq)
  have hcs : cs = [a.eval x] := by simpa [matchV, isAgg] using hm
  subst hcs
  obtain ⟨i', hi', hty'⟩ := is_find hT'
  obtain ⟨_, hu', hT1⟩ := tab_ti hT hi'
  obtain ⟨u1, _, _⟩ := und_sl hu' hty'
  rw [hT1] at u1
  unfold St.rd at hy
  split at hy
  case h_2 => cases hy
  rename_i av2 hav2
  have hKS := rdK_spec h1 (opv_holds h1 hav2) hy hmi
  obtain ⟨news, hsrc, hel⟩ := KS_src (P := P) u1 hKS
  refine append_end (n := S.length) (A := Av σ1 Z) (owx := ow) (owN := fun _ => False) (τN := fun _ => 0) hT hi hty ho h1 hn rfl hM hsrc (fun k hk' => K_M hme (hel k hk')) (fun _ _ h => h) (fun g hg => ?_) hlim
  exact hk.now g (hg.resolve_right id)
end Go.Pv

namespace Go.Pv
set_option linter.unusedVariables false
set_option linter.unusedSimpArgs false
variable {P : Program} {w w' : World} {A A' Wr : Nat → Prop} {H : Nat → Value} {tm tm' : Nat → Value} {S S' S1 : St} {σ σ1 σ2 : Nat → Option Nat} {w0 : World} {W0 Z : Nat → Prop} {a : Act} {own : Nat → Prop} {v : Value} {Θ : Tab} {dst : Option Nat}

theorem RelS.setAt (h : RelS σ w0 W0 Z H S a w) {i : Nat} {av : AV} (hno : ∀ j, j ≠ i → (S.at j).refs i = false) (hv : Holds w (Av σ Z) H (tmOf a) (S.set i av) (fun g => σ g = some i) av (tmOf a i)) :
    RelS σ w0 W0 Z H (S.set i av) a w := by
  refine ⟨by rw [List.length_set]; exact h.len, h.defers, h.fr, h.new, h.lt, h.old, fun j => ?_⟩
  rw [at_set]
  by_cases hj : j = i ∧ i < S.length
  · rw [if_pos hj, hj.1]
    exact hv
  · rw [if_neg hj]
    by_cases hji : j = i
    · have : S.at j = .dead := Classical.byContradiction fun hx => hj ⟨hji, by rw [← hji]; exact at_lt hx⟩
      rw [this]
      trivial
    · refine (h.holds j).kept (Stays.refl _ _) (fun g hg _ => ⟨rfl, hg⟩) (fun s hs => ?_)
      have hsi : s ≠ i := fun e => by subst e; rw [hno j hji] at hs; cases hs
      exact ⟨fun r ex hr => by rw [at_set, if_neg (fun e => hsi e.1)]; exact hr, rfl, _, h.holds s, fun _ _ _ => rfl⟩

/-- A part of what a tuple has is parked. -/
theorem RelS.part (h : RelS σ w0 W0 Z H S a w) {i : Nat} (hi : ∀ r ex, S.at i ≠ .v r ex) (hl : i < S.length) {Q : Nat → Prop} {av : AV} (hv : Holds w (Av σ Z) H (tmOf a) (S.set i av) (fun g => σ g = some i ∧ ¬ Q g) av (tmOf a i)) :
    ∃ σ1, RelS σ1 w0 W0 Z H (S.set i av) a w ∧ Took σ σ1 S.length (fun g => σ g = some i ∧ Q g) := by
  let σ1 : Nat → Option Nat := fun g => open Classical in if σ g = some i ∧ Q g then some S.length else σ g
  have hs : ∀ g j, σ1 g = some j → ∃ k, σ g = some k := fun g j hg => by
    simp only [σ1] at hg
    split at hg
    · rename_i hx; exact ⟨i, hx.1⟩
    · exact ⟨j, hg⟩
  have hs' : ∀ g j, σ g = some j → ¬ (σ g = some i ∧ Q g) → σ1 g = some j := fun g j hg hn => by simp only [σ1, if_neg hn, hg]
  have hst : Stays w w (Av σ Z) (Av σ1 Z) := ⟨fun _ _ _ => rfl, fun g _ hg => by
    rcases hg with ⟨j, hg⟩ | hg
    · exact .inl (hs g j hg)
    · exact .inr hg⟩
  refine ⟨σ1, ⟨by rw [List.length_set]; exact h.len, h.defers, h.fr, fun g j hg => (hs g j hg).elim fun k hk => h.new g k hk, fun g j hg => (hs g j hg).elim fun k hk => h.lt g k hk, fun g hg => ⟨?_, (h.old g hg).2⟩, fun j => ?_⟩, ?_⟩
  · simp only [σ1]
    rw [if_neg (fun hx => by rw [(h.old g hg).1] at hx; cases hx.1)]
    exact (h.old g hg).1
  · rw [at_set]
    by_cases hj : j = i
    · rw [if_pos ⟨hj, hl⟩, hj]
      exact hv.kept hst (fun g hg _ => ⟨rfl, hs' g i hg.1 (fun hx => hg.2 hx.2)⟩) (fun s _ => ⟨fun _ _ h => h, rfl, by
        by_cases hsi : s = i
        · subst hsi
          rw [at_set, if_pos ⟨rfl, hl⟩]
          exact ⟨_, hv, fun _ _ _ => rfl⟩
        · rw [at_set, if_neg (fun e => hsi e.1)]
          refine ⟨_, (h.holds s).kept (Stays.refl _ _) (fun g hg _ => ⟨rfl, hg⟩) (fun s1 hs1 => ⟨fun r ex hr => ?_, rfl, _, h.holds s1, fun _ _ _ => rfl⟩), fun _ _ _ => rfl⟩
          by_cases hs1i : s1 = i
          · subst hs1i; exact absurd hr (hi r ex)
          · rw [at_set, if_neg (fun e => hs1i e.1)]; exact hr⟩)
    · rw [if_neg (fun e => hj e.1)]
      refine (h.holds j).kept hst (fun g hg _ => ⟨rfl, hs' g j hg (fun hx => hj (by rw [hx.1] at hg; injection hg with hg; exact hg.symm))⟩) (fun s hs1 => ⟨fun r ex hr => ?_, rfl, _, h.holds s, fun _ _ _ => rfl⟩)
      by_cases hsi : s = i
      · subst hsi; exact absurd hr (hi r ex)
      · rw [at_set, if_neg (fun e => hsi e.1)]; exact hr
  · refine ⟨fun g hg => ⟨i, hl, hg.1⟩, fun g hg => ⟨_, Nat.le_refl _, by simp only [σ1, if_pos hg]⟩, fun g j hg hj => ?_, fun g => ⟨fun ⟨j, hg⟩ => hs g j hg, fun ⟨j, hg⟩ => ?_⟩, fun g j hg hj => hs' g j hg (fun hx => ?_)⟩
    · simp only [σ1] at hg
      split at hg
      · injection hg with hg; omega
      · exact hg
    · simp only [σ1]
      split
      · exact ⟨_, rfl⟩
      · exact ⟨j, hg⟩
    · rw [hx.1] at hg
      injection hg with hg
      omega

theorem extract_ok (h : RelS σ w0 W0 Z H S a w) {o : Oper} {x : Operand} {j : Nat} (ho : o.op = .extract x j) (e : evExtract S o.dst x j = some (true, S')) : GoesQ P w0 W0 Z H S' a o.dst w (execOp a.eval o) := by
  unfold evExtract at e
  split at e
  case h_2 => cases e
  rename_i i
  split at e
  case h_2 => cases e
  rename_i l hl
  split at e
  case h_2 => cases e
  rename_i b hb
  have hh := h.holds i
  rw [hl] at hh
  obtain ⟨vs, τ, hv, hlen, hel⟩ := hh
  have hbj : l[j]? = some (some b) := by
    rw [List.getD_eq_getElem?_getD] at hb
    cases hq : l[j]? with
    | none => rw [hq] at hb; cases hb
    | some q => rw [hq] at hb; simp only [Option.getD_some] at hb; rw [hb]
  obtain ⟨u, cs, hu, hm, hM⟩ := hel j b hbj
  have hrun : ∀ w2, Ext w w2 → (execOp a.eval o).run P w2 = .ok (.value u) w2 := fun w2 _ => by
    have : a.eval (.tmp i) = .tuple vs.toArray := hv
    simp [execOp, ho, this, Instr.extract, hu]
  cases hk : b.m.isK with
  | true =>
    rw [hk] at e
    simp only [cond_true, Option.some.injEq, Prod.mk.injEq, true_and] at e
    subst e
    exact goes_pure h hrun ⟨cs, hm, K_M hk (M_isK _ hk hM)⟩
  | false =>
    rw [hk] at e
    simp only [cond_false] at e
    split at e
    case h_2 => cases e
    rename_i d hd
    cases hdi : Nat.beq d i with
    | true => rw [hdi] at e; cases e
    | false =>
    rw [hdi] at e
    simp only [cond_false, Option.some.injEq, Prod.mk.injEq, true_and] at e
    subst e
    rw [← hd]
    have hil : i < S.length := at_lt (by rw [hl]; exact fun e => by cases e)
    obtain ⟨σ1, h1, hk1⟩ := h.part (i := i) (fun r ex => by rw [hl]; exact fun e => by cases e) hil (Q := fun g => τ g = j) (av := .tup (l.set j none)) ⟨vs, τ, hv, by rw [List.length_set]; exact hlen, fun k b' hk' => by
      rw [List.getElem?_set] at hk'
      split at hk'
      · split at hk' <;> cases hk'
      · rename_i hjk
        obtain ⟨u', cs', c1, c2, c3⟩ := hel k b' hk'
        exact ⟨u', cs', c1, c2, M_move (Stays.refl _ _) _ (fun _ _ _ => rfl) (fun g hg _ => ⟨⟨hg.1, fun hx => hjk (by rw [← hx, hg.2])⟩, hg.2⟩) (fun _ h => h) c3⟩⟩
    exact goes_took (n := S.length) h1 hk1 (List.length_set) hrun hm (M_move (Stays.refl _ _) _ (fun _ _ _ => rfl) (fun g hg _ => hg) (fun _ h => h) hM)

theorem put_refs (S : St) (d : Nat) (b : TV) (ex : List Path) (i : Nat) (hi : ∀ j, (S.at j).refs i = false) (j : Nat) : ((S.put (some d) (.v b ex)).at j).refs i = false := by
  rw [put_at]
  split
  · simp [AV.refs]
  · cases hr : (S.at j).refs d && (S.at d).isV with
    | true => simp [AV.refs]
    | false => exact hi j
theorem dead_refs (S : St) (i : Nat) (hv : (S.at i).isV = true) (j : Nat) : ((S.put (some i) .dead).at j).refs i = false := by
  rw [put_at]
  split
  · simp [AV.refs]
  · rw [hv, Bool.and_true]
    cases hr : (S.at j).refs i with
    | true => simp [AV.refs]
    | false => exact hr

theorem assign_ok (h : RelS σ w0 W0 Z H S a w) {o : Oper} {x : Operand} (ho : o.op = .assign x) (e : evAssign Θ S o.dst o.type x = some (true, S')) : GoesQ P w0 W0 Z H S' a o.dst w (execOp a.eval o) := by
  have hrun : ∀ w2, Ext w w2 → (execOp a.eval o).run P w2 = .ok (.value (a.eval x)) w2 := fun w2 _ => by simp only [execOp, ho]; rfl
  unfold evAssign at e
  split at e
  case h_2 =>
    split at e
    · injection e with e
      injection e with _ e
      subst e
      exact goes_pure h hrun trivial
    · cases e
  rename_i av hav
  have hh := opv_holds h hav
  split at e
  · -- a value of a temporary
    rename_i d i b ex hd
    cases hk : b.m.isK with
    | true =>
      rw [hk] at e
      simp only [cond_true, Option.some.injEq, Prod.mk.injEq, true_and] at e
      subst e
      obtain ⟨cs, h1, h2⟩ := hh
      exact goes_pure h hrun ⟨cs, h1, K_M hk (M_isK _ hk h2)⟩
    | false =>
      rw [hk] at e
      simp only [cond_false] at e
      split at e
      case h_2 => cases e
      cases hdi : (Nat.beq d i || !Nat.blt d S.length) with
      | true => rw [hdi] at e; cases e
      | false =>
      rw [hdi] at e
      simp only [cond_false, Option.some.injEq, Prod.mk.injEq, true_and] at e
      subst e
      simp only [Bool.or_eq_false_iff, Bool.not_eq_false'] at hdi
      have hdi1 : d ≠ i := fun e => by rw [e, Nat.beq_refl] at hdi; cases hdi.1
      have hdl : d < S.length := Nat.lt_of_succ_le (Nat.le_of_ble_eq_true hdi.2)
      obtain ⟨cs, h1, h2⟩ := hh
      simp only [St.opv, Option.some.injEq] at hav
      have hil : i < S.length := at_lt (by rw [hav]; exact fun e => by cases e)
      have hp := h.park i
      have hk : Took σ (park σ S.length i) S.length (ownOf σ (.tmp i)) := Took.park σ hil (fun g hg => by obtain ⟨j, hj, hg⟩ := hg; injection hj with hj; subst hj; exact hg)
      obtain ⟨v2, hr2, σ2, h3⟩ := goes_took (P := P) (dst := some d) (n := S.length) hp hk (put_len' _ _ _) hrun h1 h2
      have hv2 := hr2 w (Ext.refl w)
      rw [hrun w (Ext.refl w)] at hv2
      injection hv2 with e1 e2
      injection e1 with e1
      subst e1
      refine ⟨a.eval (.tmp i), hrun, σ2, ?_⟩
      rw [hd]
      refine h3.setAt (fun j _ => put_refs _ d b [] i (dead_refs S i (by rw [hav]; rfl)) j) ?_
      have htm : tmOf (a.put (some d) (a.eval (.tmp i))) i = tmOf a i := by rw [tm_put, if_neg (fun e => hdi1 e.1.symm)]
      have htd : tmOf (a.put (some d) (a.eval (.tmp i))) d = tmOf a i := by rw [tm_put, if_pos ⟨rfl, by rw [← h.len]; exact hdl⟩]; rfl
      refine ⟨b, cs, cs, ⟨⟨[], ?_, fun q hq => by simp at hq⟩, trivial, ⟨b, rfl, rfl⟩, by rw [htd]; exact h1⟩, rfl, by rw [htm]; exact h1⟩
      rw [at_set, if_neg (fun e => hdi1 e.1), put_at, if_pos ⟨rfl, by rw [put_len']; exact hdl⟩]
      rfl
  · -- another value
    rename_i b ex hne
    cases hk : b.m.isK with
    | true =>
      rw [hk] at e
      simp only [cond_true, Option.some.injEq, Prod.mk.injEq, true_and] at e
      subst e
      obtain ⟨cs, h1, h2⟩ := hh
      exact goes_pure h hrun ⟨cs, h1, K_M hk (M_isK _ hk h2)⟩
    | false =>
      rw [hk] at e
      simp only [cond_false] at e
      split at e
      case h_2 => cases e
      simp only [Option.some.injEq, Prod.mk.injEq, true_and] at e
      subst e
      obtain ⟨cs, h1, h2⟩ := hh
      exact goes_pure h hrun ⟨cs, h1, M_move (Stays.refl _ _) _ (fun _ _ _ => rfl) (fun g hg _ => by obtain ⟨i, hi, _⟩ := hg; cases hi) (fun _ h => h) h2⟩
  · rename_i d t s hd
    cases hsd : Nat.beq s d with
    | true => rw [hsd] at e; cases e
    | false =>
      rw [hsd] at e
      simp only [cond_false, Option.some.injEq, Prod.mk.injEq, true_and] at e
      subst e
      exact goes_pure h hrun hh
  · rename_i d f c hd
    cases hsd : AV.refs d (.clo f c) with
    | true => rw [hsd] at e; cases e
    | false =>
      rw [hsd] at e
      simp only [cond_false, Option.some.injEq, Prod.mk.injEq, true_and] at e
      subst e
      exact goes_pure h hrun hh
  · simp only [Option.some.injEq, Prod.mk.injEq, true_and] at e
    subst e
    exact goes_pure h hrun hh
  · split at e
    case h_2 => cases e
    rename_i b S1 hb
    simp only [Option.some.injEq, Prod.mk.injEq, true_and] at e
    subst e
    obtain ⟨σ1, cs, ow, h1, hm, hM, hk, hn⟩ := takeA_spec h hav hb
    exact goes_took h1 hk hn hrun hm hM
end Go.Pv

namespace Go.Pv
set_option linter.unusedVariables false
set_option linter.unusedSimpArgs false
variable {P : Program} {w w' : World} {A A' Wr : Nat → Prop} {H : Nat → Value} {tm tm' : Nat → Value} {S S' S1 : St} {σ σ1 σ2 : Nat → Option Nat} {w0 : World} {W0 Z : Nat → Prop} {a : Act} {own : Nat → Prop} {v : Value} {Θ : Tab} {dst : Option Nat}

theorem size_one {t : Ty} (h : isAgg t = false) : t.size = 1 := by cases t <;> simp [isAgg] at h <;> rfl

theorem field_ok (hT : tabB P Θ = true) (h : RelS σ w0 W0 Z H S a w) {o : Oper} {T : TypeId} {x : Operand} {f : Nat} (ho : o.op = .field T x f) (e : evField Θ S o.dst T x f = some (true, S')) : GoesQ P w0 W0 Z H S' a o.dst w (execOp a.eval o) := by
  unfold evField at e
  split at e
  case h_2 => cases e
  rename_i b ex i hav hi
  cases hc : (Nat.blt f i.fs.length && decide (i.ty = b.t)) with
  | false => rw [hc] at e; cases e
  | true =>
  rw [hc] at e
  simp only [cond_true] at e
  simp only [Bool.and_eq_true, decide_eq_true_eq] at hc
  obtain ⟨hlt, hty⟩ := hc
  have hlt : f < i.fs.length := Nat.lt_of_succ_le (Nat.le_of_ble_eq_true hlt)
  split at e
  case h_2 => cases e
  rename_i j
  split at e
  case h_2 => cases e
  rename_i c hg
  simp only [St.opv, Option.some.injEq] at hav
  have hh := h.holds j
  rw [hav] at hh
  obtain ⟨cs, hm, hM⟩ := hh
  obtain ⟨_, hu, hT0⟩ := tab_ti hT hi
  have hp := fld_memless f i.fs.length
  obtain ⟨pa, pb, hpp⟩ := memless_pair (fld_ne hlt) hp hg
  obtain ⟨fs, f1, f2, f3, _⟩ := und_pair hu (hty.trans hpp)
  rw [hT0] at f1
  have hfl : fs.toList.length = i.fs.length := by rw [← f2, List.length_map]
  have hfs : fs.size = i.fs.length := by rw [← hfl, Array.length_toList]
  obtain ⟨fd, hfd⟩ : ∃ fd, fs[f]? = some fd := ⟨_, Array.getElem?_eq_getElem (by omega)⟩
  obtain ⟨t, t1, t2, t3, _⟩ := fieldsOK_at f3 f fd (by rw [Array.getElem?_toList]; exact hfd)
  rw [Nat.zero_add, hfs, hty] at t1 t3
  have hct : c.t = t := by
    have := memless_ty _ hp hg
    rw [t1] at this
    injection this with this
    exact this.symm
  subst hct
  obtain ⟨hlen, hone⟩ := M_ok _ hM
  have hfit := memless_fit _ hp hg
  have hcells : cellsAt w (fld f i.fs.length) b.t cs = some ((cs.drop (fldOff (fld f i.fs.length) b.t)).take c.t.size) := memless_cells _ hp hg hlen
  obtain ⟨v, hv, hrun⟩ : ∃ v, matchV c.t v ((cs.drop (fldOff (fld f i.fs.length) b.t)).take c.t.size) ∧ ∀ w2, Ext w w2 → (execOp a.eval o).run P w2 = .ok (.value v) w2 := by
    have hval : a.eval (.tmp j) = .agg cs.toArray := by
      unfold matchV at hm
      rw [if_pos (by rw [hpp]; rfl)] at hm
      exact hm
    have hag := agg_is hT t2
    obtain ⟨inf, s1, s2, _⟩ := size_is hT t2
    have hso : ∀ w2, (sizeOf fd.type).run P w2 = .ok c.t.size w2 := fun w2 => by simp [sizeOf, typeInfo, s1, s2]
    cases hca : isAgg c.t with
    | true =>
      refine ⟨.agg (cs.toArray.extract (fldOff (fld f i.fs.length) b.t) (fldOff (fld f i.fs.length) b.t + c.t.size)), ?_, fun w2 _ => ?_⟩
      · unfold matchV
        rw [if_pos hca]
        congr 1
        apply Array.toList_inj.1
        rw [Array.toList_extract, List.toList_toArray, List.toList_toArray, List.extract_eq_drop_take']
        rw [List.drop_take, Nat.add_sub_cancel_left]
      · rw [hca] at hag
        have hpart : (part fd.type cs.toArray fd.offset).run P w2 = .ok (.agg (cs.toArray.extract (fldOff (fld f i.fs.length) b.t) (fldOff (fld f i.fs.length) b.t + c.t.size))) w2 := by
          unfold part
          simp only [Sem.run_bind, hag, Result.andThen_ok, if_true, hso, t3]
          rfl
        simp only [execOp, ho, hval, Instr.field, Sem.run_bind, run_underlying f1, Result.andThen_ok, hfd, asAgg, Sem.run_pure, hpart]
    | false =>
      have h1 := size_one hca
      have hlt2 : fldOff (fld f i.fs.length) b.t < cs.length := by omega
      refine ⟨cs[fldOff (fld f i.fs.length) b.t], ?_, fun w2 _ => ?_⟩
      · unfold matchV
        rw [if_neg (by rw [hca]; exact Bool.false_ne_true), h1, List.drop_eq_getElem_cons hlt2, List.take_succ_cons, List.take_zero]
      · rw [hca] at hag
        have hpart : (part fd.type cs.toArray fd.offset).run P w2 = .ok (cs[fldOff (fld f i.fs.length) b.t]) w2 := by
          unfold part
          simp only [Sem.run_bind, hag, Result.andThen_ok, if_neg Bool.false_ne_true, t3]
          rw [List.getElem?_toArray, List.getElem?_eq_getElem hlt2]
          rfl
        simp only [execOp, ho, hval, Instr.field, Sem.run_bind, run_underlying f1, Result.andThen_ok, hfd, asAgg, Sem.run_pure, hpart]
  have hvalid := memless_valid _ hp hg
  cases hk : c.m.isK with
  | true =>
    rw [hk] at e
    simp only [cond_true] at e
    split at e
    case h_2 => cases e
    simp only [Option.some.injEq, Prod.mk.injEq, true_and] at e
    subst e
    obtain ⟨cs', ow', k1, k2, k3⟩ := focus _ hM (fun q hq => by simp at hq) hvalid hg
    rw [hcells] at k1
    injection k1 with k1
    subst k1
    exact goes_pure h hrun ⟨_, hv, M_of_K _ (M_isK _ hk k3)⟩
  | false =>
    rw [hk] at e
    simp only [cond_false] at e
    split at e
    case h_2 => cases e
    rename_i c' hgl
    simp only [Option.some.injEq, Prod.mk.injEq, true_and] at e
    subst e
    obtain ⟨r, ex', q1, q2, q3⟩ := glance_get hgl
    rw [hav] at q1
    injection q1 with q1 q1'
    subst q1 q1'
    exact goes_pure h hrun ⟨b, cs, _, ⟨⟨ex, hav, open_of_under q2⟩, hvalid, ⟨c, hg, rfl⟩, hm⟩, hcells, hv⟩

theorem capsOf_spec (h : RelS σ w0 W0 Z H S a w) : ∀ {xs : List Operand} {l : List Cap}, capsOf S xs = some l → xs.length = l.length ∧ ∀ (j : Nat) (c : Cap), l[j]? = some c → ∃ u, (xs.map a.eval)[j]? = some u ∧ HoldsCap w (Av σ Z) (tmOf a) S c u
  | [], l, e => by
    simp only [capsOf, Option.some.injEq] at e
    subst e
    exact ⟨rfl, fun j c hj => by simp at hj⟩
  | x :: xs, l, e => by
    simp only [capsOf] at e
    split at e
    case h_2 => cases e
    rename_i c l2 hc hl
    simp only [Option.some.injEq] at e
    subst e
    obtain ⟨h1, h2⟩ := capsOf_spec h hl
    refine ⟨by simp [h1], fun j c' hj => ?_⟩
    cases j with
    | succ j => simpa using h2 j c' (by simpa using hj)
    | zero =>
      simp only [List.getElem?_cons_zero, Option.some.injEq] at hj
      subst hj
      refine ⟨a.eval x, rfl, ?_⟩
      unfold capOf at hc
      split at hc
      case h_2 => cases hc
      rename_i i
      have hh := h.holds i
      split at hc
      · rename_i t T tag me y ex hat
        injection hc with hc
        subst hc
        rw [hat] at hh
        obtain ⟨cs, h1, h2⟩ := hh
        exact ⟨_, cs, cs, ⟨⟨ex, hat, fun q _ s r e => by cases q <;> simp at e⟩, trivial, ⟨_, rfl, rfl⟩, h1⟩, rfl, h1⟩
      · rename_i t y ex hat
        injection hc with hc
        subst hc
        rw [hat] at hh
        obtain ⟨cs, h1, h2⟩ := hh
        have h1' : cs = [tmOf a i] := by simpa [matchV, isAgg] using h1
        subst h1'
        simp only [M] at h2
        rcases h2 with ⟨_, hx, _⟩ | ⟨_, h2⟩ | ⟨T, tag, me, g, cur, hx, _⟩
        · simp [Md.isK] at hx
        · exact h2
        · cases hx
      · rename_i t s p hat
        injection hc with hc
        subst hc
        rw [hat] at hh
        exact hh
      · cases hc

theorem makeFunc_ok (h : RelS σ w0 W0 Z H S a w) {o : Oper} {f : FuncId} {first caps : Array Operand} (ho : o.op = .makeFunc (.func f) first caps) (e : evMakeFunc S o.dst f first.toList caps.toList = some (true, S')) : GoesQ P w0 W0 Z H S' a o.dst w (execOp a.eval o) := by
  unfold evMakeFunc at e
  split at e
  case h_2 => cases e
  rename_i l hf hl
  split at e
  case h_2 => cases e
  rename_i d hd
  cases hr : AV.refs d (.clo f l) with
  | true => rw [hr] at e; cases e
  | false =>
  rw [hr] at e
  simp only [cond_false, Option.some.injEq, Prod.mk.injEq, true_and] at e
  subst e
  obtain ⟨h1, h2⟩ := capsOf_spec h hl
  have hfe : first = #[] := by
    apply Array.toList_inj.1
    rw [hf]
  refine goes_pure (v := .func (.func f) #[] (caps.map a.eval)) h (fun w2 _ => by simp [execOp, ho, Instr.makeFunc, hfe]) ⟨caps.toList.map a.eval, ?_, by rw [List.length_map, h1], h2⟩
  congr 1
  apply Array.toList_inj.1
  simp


theorem move_ok2 (h : RelS σ w0 W0 Z H S a w) {o : Oper} {x : Operand} (ho : o.op = .move x) (e : evMove Θ S o.dst o.type x = some (true, S')) : GoesS P w0 W0 Z H S' a o.dst w (execOp a.eval o) := by
  by_cases hnt : ∃ l, S.opv Θ o.type x = some (.tup l)
  rotate_left
  · exact move_ok h ho (fun l hl => hnt ⟨l, hl⟩) e
  obtain ⟨l, hl⟩ := hnt
  unfold evMove at e
  rw [hl] at e
  simp only at e
  split at e
  case h_2 => cases e
  rename_i d i hd
  cases hc : (Nat.beq d i || !Nat.blt d S.length) with
  | true => rw [hc] at e; cases e
  | false =>
    rw [hc] at e
    simp only [cond_false, Option.some.injEq, Prod.mk.injEq, true_and] at e
    subst e
    have hat : S.at i = .tup l := by simpa [St.opv] using hl
    have hh := h.holds i
    rw [hat] at hh
    obtain ⟨vs, τ, h1, h2, h3⟩ := hh
    refine ⟨tmOf a i, fun w2 => by simp only [execOp, ho]; rfl, ?_⟩
    rw [hd]
    have hp := h.park i
    have hgo := hp.give0 (dst := some d) (v := tmOf a i) (av := .tup l) (ow := fun g => σ g = some i) (w' := w) (Nat.le_refl _) (fun _ _ _ => rfl) h.fr (fun g hg => ⟨h.lt g i hg, .inl ⟨S.length, by rw [put_len']; exact Nat.le_refl _, by unfold park; rw [if_pos hg]⟩⟩) (fun d' hd' q1 q2 => ?_)
    · exact ⟨_, hgo⟩
    · refine ⟨vs, τ, h1, h2, fun j b hb => ?_⟩
      obtain ⟨u, cs, u1, u2, u3⟩ := h3 j b hb
      refine ⟨u, cs, u1, u2, M_move ⟨fun _ _ _ => rfl, fun g hg hx => ?_⟩ _ (fun _ _ _ => rfl) (fun g hg _ => ⟨q1 g hg.1, hg.2⟩) (fun _ h => h) u3⟩
      rcases q2 g hx with q | q
      · exact park_Av.1 q
      · exact .inl ⟨i, q⟩

theorem evq_ok (hT : tabB P Θ = true) (h : RelS σ w0 W0 Z H S a w) {hn : Hn} {o : Oper} (hq : quiet o.op = true) (e : ev Θ hn S o = some (true, S')) : GoesQ P w0 W0 Z H S' a o.dst w (execOp a.eval o) := by
  unfold ev at e
  split at e
  case h_1 x ho => exact (move_ok2 h ho e).q
  case h_2 x ho => exact assign_ok h ho e
  case h_3 c x y ho => exact pick_ok h ho e
  case h_4 T ho => rw [ho] at hq; cases hq
  case h_5 T x ho => rw [ho] at hq; cases hq
  case h_6 T ps ho => exact build_ok hT h ho e
  case h_7 T n ps ho => rw [ho] at hq; cases hq
  case h_8 T x ho => exact load_ok hT h ho e
  case h_9 T x y ho => rw [ho] at hq; cases hq
  case h_10 x ho => exact nilcheck_ok h ho e
  case h_11 T x f ho => exact (fieldaddr_ok hT h ho e).q
  case h_12 T x f ho => exact field_ok hT h ho e
  case h_13 T x ix ho => exact indexaddr_ok hT h ho e
  case h_14 T x ix ho => exact index_ok hT h ho e
  case h_15 x j ho => exact extract_ok h ho e
  case h_16 T x lo hi mx ho => exact (slice_ok hT h ho e).q
  case h_17 T T' x ho => exact convert_okQ hT h ho e
  case h_18 op T x y p ho => exact bin_ok hT h ho e
  case h_19 op T x ho => exact un_ok h ho e
  case h_20 T l c ho => rw [ho] at hq; cases hq
  case h_21 f first caps ho => exact makeFunc_ok h ho e
  case h_22 as ts ho => exact (len_ok hT h ho e).q
  case h_23 as ts ho => rw [ho] at hq; cases hq
  case h_24 => cases e

/-- Cuts do not ask the memory. -/
def stillE : Op → Bool
  | .slice .. => true | .move _ => true | .convert .. => true | .fieldAddr .. => true | .call { callee := .builtin .len, .. } => true | _ => false
theorem evs_ok (hT : tabB P Θ = true) (h : RelS σ w0 W0 Z H S a w) {hn : Hn} {o : Oper} (hq : stillE o.op = true) (hq2 : (match o.op with
  | .convert _ T' _ => (match Θ.find T' with
    | some i => (match i.ty with
      | .int _ => true
      | _ => false)
    | none => false)
  | _ => true) = true) (e : ev Θ hn S o = some (true, S')) : GoesS P w0 W0 Z H S' a o.dst w (execOp a.eval o) := by
  unfold stillE at hq
  split at hq
  · rename_i T x lo hi mx ho
    unfold ev at e
    rw [ho] at e
    exact slice_ok hT h ho e
  · rename_i x ho
    unfold ev at e
    rw [ho] at e
    exact move_ok2 h ho e
  · rename_i T T' x ho
    unfold ev at e
    rw [ho] at e
    rw [ho] at hq2
    exact convert_ok hT h ho hq2 e
  · rename_i T x f ho
    unfold ev at e
    rw [ho] at e
    exact fieldaddr_ok hT h ho e
  · rename_i as ts ho
    unfold ev at e
    rw [ho] at e
    exact len_ok hT h ho e
  · cases hq

/-- The operations that call nothing and only add to the world. -/
def addsE : Op → Bool
  | .alloc _ => true | .box .. => true | .buildSlice .. => true | .makeSlice .. => true | o => quiet o
theorem evx_ok (hT : tabB P Θ = true) (h : RelS σ w0 W0 Z H S a w) {hn : Hn} {o : Oper} (hq : addsE o.op = true) (e : ev Θ hn S o = some (true, S')) : GoesX P w0 W0 Z H S' a o.dst w (execOp a.eval o) := by
  cases hqq : quiet o.op with
  | true => exact (evq_ok hT h hqq e).adds
  | false =>
  unfold ev at e
  split at e
  case h_4 T ho => exact alloc_ok hT h ho e
  case h_5 T x ho => exact box_ok hT h ho e
  case h_7 T n ps ho => exact buildSlice_ok hT h ho e
  case h_20 T l c ho => exact makeSlice_ok hT h ho e
  case h_24 => cases e
  case h_9 T x y ho => rw [ho] at hq; cases hq
  case h_23 as ts ho => rw [ho] at hq; cases hq
  all_goals (rename_i ho; rw [ho] at hqq; cases hqq)

theorem ev_ok (hT : tabB P Θ = true) (h : RelS σ w0 W0 Z H S a w) {hn : Hn} {o : Oper} (e : ev Θ hn S o = some (true, S')) : Goes P w0 W0 Z H S' a o.dst w (execOp a.eval o) := by
  cases hq : addsE o.op with
  | true => exact (evx_ok hT h hq e).goes
  | false =>
  unfold ev at e
  split at e
  case h_9 T x y ho =>
    split at e
    · rename_i hd; exact store_ok hT h ho hd e
    · cases e
  case h_23 as ts ho =>
    split at e
    · rename_i r hr
      injection e with e
      subst e
      exact append_ok hT h ho hr
    · exact append_okC hT h ho e
  case h_24 => cases e
  all_goals (rename_i ho; rw [ho] at hq; cases hq)
end Go.Pv
