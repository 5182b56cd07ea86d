/- A verified evaluator of the program's form over pure values, part 3: what it tells of a function holds. -/
import Derived.Test.YthdoldaaodmeeaaDoorPv2
import Derived.Lib.Bytealg
import Derived.Lib.IndexBytes
import Derived.Lib.IndexMore
import Derived.Lib.ItoaNum
import Derived.Lib.Join
import Derived.Lib.Split
import Derived.Lib.SplitLaws
import Derived.OrdersHeld
import GoSem.ClaimChange
namespace Go.Pv
set_option linter.unusedVariables false
set_option linter.unusedSimpArgs false
variable {P : Program} {w w' : World} {A A' Wr : Nat → Prop} {H : Nat → Value} {tm tm' : Nat → Value} {S S' S1 : St} {σ σ1 σ2 : Nat → Option Nat} {w0 : World} {W0 Z : Nat → Prop} {a : Act} {own : Nat → Prop} {v : Value} {Θ : Tab} {dst : Option Nat}

/-- What one owns. -/
def Own (σ : Nat → Option Nat) (g : Nat) : Prop := ∃ i, σ g = some i
def ArgOK (w : World) (A : Nat → Prop) (H : Nat → Value) : Arg → Value → (Nat → Prop) → Prop
  | .tv b, v, own => ∃ cs, matchV b.t v cs ∧ M w A H b.t b.m b.x cs own []
  | .fn f caps, v, _ => ∃ vs : List Value, v = .func (.func f) #[] vs.toArray ∧ vs.length = caps.length ∧ ∀ (j : Nat) (c : TV), caps[j]? = some c → ∃ u, vs[j]? = some u ∧ K w A c.t c.x [u]

/-- What stands in the memory's first blocks: nobody's to write. -/
abbrev Gl := Nat → Option Obj
/-- A call's arguments; B: what others may write. -/
structure In (Γ : Gl) (B : Nat → Prop) (H : Nat → Value) (w : World) (σ : Nat → Option Nat) (args : List Arg) (vals : List Value) : Prop where
  len : vals.length = args.length
  lt : ∀ g i, σ g = some i → i < args.length ∧ g < w.heap.size
  old : ∀ g, B g → σ g = none ∧ g < w.heap.size
  env : ∀ g o, Γ g = some o → σ g = none ∧ w.heap[g]? = some o
  ok : ∀ (j : Nat) (a : Arg), args[j]? = some a → ∃ v, vals[j]? = some v ∧ ArgOK w (Av σ B) H a v (fun g => σ g = some j)

def packV : List Value → Value
  | [u] => u
  | vs => .tuple vs.toArray
/-- What comes back. -/
structure Out (B : Nat → Prop) (H : Nat → Value) (w w' : World) (σ : Nat → Option Nat) (rt : Ret) (v : Value) : Prop where
  fr : Fr w (Own σ) w'
  res : ∃ (σ' : Nat → Option Nat) (vs : List Value), v = packV vs ∧ vs.length = rt.res.length ∧ (∀ g i, σ' g = some i → (w.heap.size ≤ g ∨ Own σ g) ∧ g < w'.heap.size) ∧
    (∀ (i : Nat) (b : TV), rt.res[i]? = some b → ∃ u cs, vs[i]? = some u ∧ matchV b.t u cs ∧ M w' (Av σ' B) H b.t b.m b.x cs (fun g => σ' g = some i) []) ∧
    ∀ c, rt.refs = [c] → ∃ cs, M w' (Av σ' B) H c.t c.m c.x cs (fun g => σ' g = some rt.res.length) []

/-- A function's call: its text, or the machine's own. -/
def Does (P : Program) (f : FuncId) (vals : List Value) (w : World) (R : Value → World → Prop) : Prop :=
  ((callFunc f vals.toArray).run P w = .ok (.enter f vals.toArray) w ∧ Calls P f vals.toArray w fun
    | .returned v, w' => R v w'
    | _, _ => False) ∨ ∃ v w', (callFunc f vals.toArray).run P w = .ok (.value v) w' ∧ R v w'
theorem Does.mono {f : FuncId} {vals : List Value} {R R' : Value → World → Prop} (h : Does P f vals w R) (hr : ∀ v w', R v w' → R' v w') : Does P f vals w R' := by
  rcases h with ⟨h1, h2⟩ | ⟨v, w', h1, h2⟩
  · refine .inl ⟨h1, h2.mono fun e w' he => ?_⟩
    cases e <;> first | exact hr _ _ he | exact he
  · exact .inr ⟨v, w', h1, hr _ _ h2⟩

/-- A function does what is told of it. -/
def SoundAt (Γ : Gl) (P : Program) (f : FuncId) (run : List Arg → (Ret → Option Ret) → Option Ret) : Prop :=
  ∀ (args : List Arg) (kf : Ret → Option Ret) (ret : Ret) (w : World) (σ : Nat → Option Nat) (vals : List Value) (H : Nat → Value) (B : Nat → Prop), run args kf = some ret → In Γ B H w σ args vals →
    Does P f vals w fun v w' => ∃ rt, kf rt = some ret ∧ Out B H w w' σ rt v
/-- It does so, and goes on in one way. -/
def Sound (Γ : Gl) (P : Program) (f : FuncId) (run : List Arg → (Ret → Option Ret) → Option Ret) : Prop := SoundAt Γ P f run ∧ ∀ as, Det (run as)
def OrcS (Γ : Gl) (P : Program) (O : Orc) : Prop := ∀ f, Sound Γ P f (O.run f)
structure OrcOK (Γ : Gl) (P : Program) (O : Orc) (w0 : World) (W0 : Nat → Prop) : Prop where
  sd : OrcS Γ P O
  env : ∀ g o, Γ g = some o → ¬ W0 g ∧ w0.heap[g]? = some o
theorem OrcOK.det {Γ : Gl} {P : Program} {O : Orc} {w0 : World} {W0 : Nat → Prop} (h : OrcOK Γ P O w0 W0) : ODet O := fun f => (h.sd f).2
variable {Γ : Gl}
theorem orc_of {l : List Entry} (h : ∀ e ∈ l, Sound Γ P e.f e.run) : OrcS Γ P (Orc.of l) := by
  intro f
  have key : ∀ (l : List Entry) (e : Entry), entry l f = some e → e ∈ l ∧ e.f = f := by
    intro l
    induction l with
    | nil => intro e h; cases h
    | cons e' r ih =>
      intro e h
      simp only [entry] at h
      cases hb : Nat.beq e'.f f with
      | true =>
        rw [hb] at h
        injection h with h
        subst h
        exact ⟨by simp, Nat.eq_of_beq_eq_true hb⟩
      | false =>
        rw [hb] at h
        obtain ⟨h1, h2⟩ := ih e h
        exact ⟨by simp [h1], h2⟩
  simp only [Orc.of]
  split
  · rename_i e he
    obtain ⟨h1, h2⟩ := key l e he
    rw [← h2]
    exact h e h1
  · exact ⟨fun args kf ret w σ vals H B hr => (by cases hr), fun _ => Det.none⟩

theorem K_free : ∀ (t : Ty) {x : t.I} {cs : List Value}, memfree t = true → K w A t x cs → K w' A' t x cs
  | .int _, _, _, _, h => h
  | .bool, _, _, _, h => h
  | .str, _, _, _, h => h
  | .unit, _, _, _, h => h
  | .pair a b, x, cs, hf, h => by
    simp only [memfree, Bool.and_eq_true] at hf
    simp only [K] at h ⊢
    obtain ⟨c0, c1, rfl, h0, h1⟩ := h
    exact ⟨c0, c1, rfl, K_free a hf.1 h0, K_free b hf.2 h1⟩
  | .arr n t, x, cs, hf, h => by
    simp only [memfree] at hf
    simp only [K] at h ⊢
    obtain ⟨css, rfl, hl, hx, hj⟩ := h
    exact ⟨css, rfl, hl, hx, fun j h1 h2 => K_free t hf (hj j h1 h2)⟩
theorem M_solid : ∀ (t : Ty) {m : Md} {x : t.I} {cs : List Value} {ow : Nat → Prop}, solid t m = true → M w A H t m x cs ow [] → M w A' H t m x cs ow []
  | .sl t, .o T tag me, xs, cs, ow, hs, h => by
    simp only [solid] at hs
    simp only [M] at h ⊢
    rcases h with ⟨hn, _⟩ | ⟨hk, _⟩ | ⟨T, tag, me, X, c, e1, e2, hc, ht, h⟩
    · simp at hn
    · simp [Md.isK] at hk
    · injection e1 with e1 e1' e1''
      subst e1 e1' e1''
      refine .inr (.inr ⟨_, _, _, X, c, rfl, e2, hc, ht, ?_⟩)
      rcases h with h | ⟨g, cur, τ, h1, h2, h3, h4, h5, h6⟩
      · exact .inl h
      · exact .inr ⟨g, cur, τ, h1, h2, h3, h4, h5, fun j hj => M_solid t hs (h6 j hj)⟩
  | .ptr t, .o T tag me, x, cs, ow, hs, h => by
    simp only [solid] at hs
    simp only [M] at h ⊢
    rcases h with ⟨hn, _⟩ | ⟨hk, _⟩ | ⟨T, tag, me, g, cur, e1, e2, ht, hg, hw, h⟩
    · simp at hn
    · simp [Md.isK] at hk
    · injection e1 with e1 e1' e1''
      subst e1 e1' e1''
      exact .inr (.inr ⟨_, _, _, g, cur, rfl, e2, ht, hg, hw, M_solid t hs h⟩)
  | .pair a b, .p ma mb, x, cs, ow, hs, h => by
    simp only [solid, Bool.and_eq_true] at hs
    simp only [M] at h ⊢
    rcases h with ⟨hn, _⟩ | ⟨hk, h⟩ | ⟨ma, mb, c0, c1, s, e1, e2, h0, h1⟩
    · simp at hn
    · simp only [K] at h
      simp only [Md.isK, Bool.and_eq_true] at hk
      obtain ⟨c0, c1, e2, h0, h1⟩ := h
      refine .inr (.inr ⟨ma, mb, c0, c1, fun _ => True, rfl, e2, M_solid a hs.1 (K_M hk.1 h0), M_solid b hs.2 (K_M hk.2 h1)⟩)
    · injection e1 with e1 e1'
      subst e1 e1'
      exact .inr (.inr ⟨_, _, c0, c1, s, rfl, e2, M_solid a hs.1 h0, M_solid b hs.2 h1⟩)
  | .sl t, .k, xs, cs, ow, hs, h => by simp [solid, memfree] at hs
  | .sl t, .p _ _, xs, cs, ow, hs, h => by simp [solid, memfree] at hs
  | .ptr t, .k, xs, cs, ow, hs, h => by simp [solid, memfree] at hs
  | .ptr t, .p _ _, xs, cs, ow, hs, h => by simp [solid, memfree] at hs
  | .pair a b, .k, xs, cs, ow, hs, h => by
    simp only [solid, Bool.and_eq_true] at hs
    exact K_M hs.1 (K_free _ hs.2 (M_isK _ hs.1 h))
  | .pair a b, .o .., xs, cs, ow, hs, h => by simp [solid, Md.isK] at hs
  | .int k, m, x, cs, ow, hs, h => by simp only [M, K] at h ⊢; exact h
  | .bool, m, x, cs, ow, hs, h => by simp only [M, K] at h ⊢; exact h
  | .str, m, x, cs, ow, hs, h => by simp only [M, K] at h ⊢; exact h
  | .unit, m, x, cs, ow, hs, h => by simp only [M, K] at h ⊢; exact h
  | .arr n t, m, x, cs, ow, hs, h => by
    have hs : (m.isK && memfree (.arr n t)) = true := by cases m <;> exact hs
    simp only [Bool.and_eq_true] at hs
    exact K_M hs.1 (K_free _ hs.2 (M_isK _ hs.1 h))

/-- What is parked. -/
def Pk (σ : Nat → Option Nat) (n : Nat) (g : Nat) : Prop := ∃ i, n ≤ i ∧ σ g = some i
theorem M_Pk {t : Ty} {m : Md} {x : t.I} {cs : List Value} {s n : Nat} {ow : Nat → Prop} (hs : s < n) (ho : ∀ g, ow g → σ g = some s) (h : M w (Av σ Z) H t m x cs ow []) : K w (Pk σ n) t x cs :=
  M_K (fun g _ hg => by obtain ⟨i, _, hi⟩ := hg; exact .inl ⟨i, hi⟩) t rfl (fun g hg hx => by
    obtain ⟨i, hi, hi2⟩ := hx
    rw [ho g hg] at hi2
    injection hi2 with hi2
    omega) h

theorem rdP_spec (h : RelS σ w0 W0 Z H S a w) {T : TypeId} {x : Operand} {av : AV} {b : TV} (ho : S.opv Θ T x = some av) (e : S.rdA av = some b) :
    ∃ cs, matchV b.t (a.eval x) cs ∧ K w (Pk σ S.length) b.t b.x cs := by
  have hh := opv_holds h ho
  cases av with
  | v a0 ex =>
    cases ex with
    | cons _ _ => simp [St.rdA] at e
    | nil =>
      simp only [St.rdA, Option.some.injEq] at e
      subst e
      obtain ⟨cs, h1, h2⟩ := hh
      cases x with
      | tmp i =>
        simp only [St.opv, Option.some.injEq] at ho
        exact ⟨cs, h1, M_Pk (s := i) (at_lt (by rw [ho]; exact fun e => by cases e)) (fun g hg => by obtain ⟨j, hj, hg⟩ := hg; injection hj with hj; subst hj; exact hg) h2⟩
      | const c => exact ⟨cs, h1, M_K (fun g _ hg => by obtain ⟨i, _, hi⟩ := hg; exact .inl ⟨i, hi⟩) _ rfl (fun g hg => by obtain ⟨j, hj, _⟩ := hg; cases hj) h2⟩
      | func f => exact ⟨cs, h1, M_K (fun g _ hg => by obtain ⟨i, _, hi⟩ := hg; exact .inl ⟨i, hi⟩) _ rfl (fun g hg => by obtain ⟨j, hj, _⟩ := hg; cases hj) h2⟩
      | global f => exact ⟨cs, h1, M_K (fun g _ hg => by obtain ⟨i, _, hi⟩ := hg; exact .inl ⟨i, hi⟩) _ rfl (fun g hg => by obtain ⟨j, hj, _⟩ := hg; cases hj) h2⟩
  | al t s p =>
    simp only [St.rdA] at e
    obtain ⟨r, cs0, cs, hr, hc, hm⟩ := hh
    obtain ⟨rfl, ow', k2, k3⟩ := place_read h hr hc e
    obtain ⟨ex0, hs0, _⟩ := hr.at_
    exact ⟨cs, hm, M_Pk (s := s) (at_lt (by rw [hs0]; exact fun e => by cases e)) k2 k3⟩
  | cut t s p lo hi =>
    simp only [St.rdA] at e
    obtain ⟨r, cs0, t', X, n, c, hr, rfl, hc, hlo, hhi, hv⟩ := hh
    cases hp : S.place s p with
    | none => rw [hp] at e; cases e
    | some b' =>
      obtain ⟨ht, ow', k2, k3⟩ := place_read h hr hc hp
      obtain ⟨bt, bm, bx⟩ := b'
      simp only at ht
      subst ht
      rw [hp] at e
      simp only [Option.some.injEq] at e
      subst e
      obtain ⟨ex0, hs0, _⟩ := hr.at_
      have hK := M_Pk (s := s) (n := S.length) (at_lt (by rw [hs0]; exact fun e => by cases e)) k2 k3
      have hn : n = List.length bx := by
        simp only [K] at hK
        obtain ⟨_, _, e, _⟩ := hK
        simp only [List.cons.injEq, Value.slice.injEq, and_true] at e
        exact e.2.1
      subst hn
      rw [hv]
      exact ⟨_, by simp [matchV, isAgg], K_cut hK hlo hhi⟩
  | _ => simp [St.rdA] at e

theorem Pk_stays {n : Nat} : Stays w w (Av σ Z) (Pk σ n) := ⟨fun _ _ _ => rfl, fun g _ hg => by obtain ⟨i, _, hi⟩ := hg; exact .inl ⟨i, hi⟩⟩

theorem capTVs_spec (h : RelS σ w0 W0 Z H S a w) : ∀ {caps : List Cap} {l : List TV} {vs : List Value}, capTVs S caps = some l → vs.length = caps.length → (∀ (j : Nat) (c : Cap), caps[j]? = some c → ∃ u, vs[j]? = some u ∧ HoldsCap w (Av σ Z) (tmOf a) S c u) →
    l.length = caps.length ∧ ∀ (j : Nat) (c : TV), l[j]? = some c → ∃ u, vs[j]? = some u ∧ K w (Pk σ S.length) c.t c.x [u]
  | [], l, vs, e, _, _ => by
    simp only [capTVs, Option.some.injEq] at e
    subst e
    exact ⟨rfl, fun j c hj => by simp at hj⟩
  | c :: caps, l, vs, e, hl, hv => by
    simp only [capTVs] at e
    split at e
    case h_2 => cases e
    rename_i b l2 hb hl2
    simp only [Option.some.injEq] at e
    subst e
    match vs, hl with
    | u :: vs, hl =>
      obtain ⟨h1, h2⟩ := capTVs_spec h (vs := vs) hl2 (by simpa using hl) (fun j c hj => by simpa using hv (j + 1) c (by simpa using hj))
      refine ⟨by simp [h1], fun j c' hj => ?_⟩
      cases j with
      | succ j => simpa using h2 j c' (by simpa using hj)
      | zero =>
        simp only [List.getElem?_cons_zero, Option.some.injEq] at hj
        subst hj
        obtain ⟨u', hu, hc⟩ := hv 0 c rfl
        simp only [List.getElem?_cons_zero, Option.some.injEq] at hu
        subst hu
        refine ⟨u, rfl, ?_⟩
        cases c with
        | kv b' =>
          simp only [capTV, Option.some.injEq] at hb
          subst hb
          exact K_stays Pk_stays _ hc
        | pl t s p =>
          simp only [capTV] at hb
          split at hb
          case h_2 => cases hb
          rename_i b' hp
          simp only [Option.some.injEq] at hb
          subst hb
          obtain ⟨r, cs0, cs, hr, hcl, hm⟩ := hc
          obtain ⟨hbt, ow', k2, k3⟩ := place_read h hr hcl hp
          obtain ⟨ex0, hs0, _⟩ := hr.at_
          have hK := M_Pk (s := s) (n := S.length) (at_lt (by rw [hs0]; exact fun e => by cases e)) k2 k3
          have : cs = [u] := by simpa [matchV, isAgg] using hm
          rw [this] at hK
          exact hK

theorem takes_spec : ∀ (xs : List Operand) (Ts : List TypeId) (ps : List Pass) (j : Nat) {S S1 : St} {σ : Nat → Option Nat} {l : List (Option TV)}, RelS σ w0 W0 Z H S a w → takes Θ S xs Ts ps = some (l, S1) →
    ∃ (σ1 : Nat → Option Nat) (ow : Nat → Prop) (τ : Nat → Nat), RelS σ1 w0 W0 Z H S1 a w ∧ S1.length = S.length ∧ Took σ σ1 S.length ow ∧ l.length = xs.length ∧ (∀ g, ow g → j ≤ τ g ∧ τ g < j + l.length) ∧
      ((∀ p ∈ ps, p = .val) → ∀ g, ¬ ow g) ∧
      ∀ (k : Nat) (b : TV), l[k]? = some (some b) → ∃ x cs, xs[k]? = some x ∧ matchV b.t (a.eval x) cs ∧ M w (Av σ Z) H b.t b.m b.x cs (fun g => ow g ∧ τ g = j + k) []
  | [], Ts, ps, j, S, S1, σ, l, h, e => by
    simp only [takes, Option.some.injEq, Prod.mk.injEq] at e
    obtain ⟨rfl, rfl⟩ := e
    exact ⟨σ, fun _ => False, fun _ => j, h, rfl, Took.none _ _, rfl, fun _ h => h.elim, fun _ _ h => h, fun k b hk => by simp at hk⟩
  | x :: xs, [], ps, j, S, S1, σ, l, h, e => by simp [takes] at e
  | x :: xs, T :: Ts, [], j, S, S1, σ, l, h, e => by simp [takes] at e
  | x :: xs, T :: Ts, p :: ps, j, S, S1, σ, l, h, e => by
    simp only [takes] at e
    split at e
    · split at e
      case h_2 => cases e
      rename_i r hr
      simp only [Option.some.injEq, Prod.mk.injEq] at e
      obtain ⟨rfl, rfl⟩ := e
      obtain ⟨σ1, ow, τ, k1, k2, k3, k4, k5, k6, k7⟩ := takes_spec xs Ts ps (j + 1) h hr
      refine ⟨σ1, ow, τ, k1, k2, k3, by simp [k4], fun g hg => by have := k5 g hg; simp only [List.length_cons]; omega, fun hp => k6 (fun p hp' => hp p (by simp [hp'])), fun k b hk => ?_⟩
      cases k with
      | zero => simp at hk
      | succ k =>
        obtain ⟨x', cs, q1, q2, q3⟩ := k7 k b (by simpa using hk)
        exact ⟨x', cs, by simpa using q1, q2, by rw [show j + (k + 1) = j + 1 + k from by omega]; exact q3⟩
    rotate_left
    · cases e
    · unfold St.take at e
      split at e
      case h_2 => cases e
      rename_i b S2 hb
      split at hb
      case h_2 => cases hb
      rename_i av hav
      split at e
      case h_2 => cases e
      rename_i r hr
      simp only [Option.some.injEq, Prod.mk.injEq] at e
      obtain ⟨rfl, rfl⟩ := e
      obtain ⟨σ1, cs, ow, h1, hm, hM, hk, hn⟩ := takeA_spec h hav hb
      obtain ⟨σ2, ow2, τ, k1, k2, k3, k4, k5, k6, k7⟩ := takes_spec xs Ts ps (j + 1) h1 hr
      rw [hn] at k3
      have hap : ∀ g, ow g → ¬ ow2 g := fun g hg => hk.apart k3 hg
      let τ' : Nat → Nat := fun g => open Classical in if ow g then j else τ g
      refine ⟨σ2, fun g => ow g ∨ ow2 g, τ', k1, by omega, hk.trans k3, by simp [k4], fun g hg => ?_, fun hp => (fun hx : Pass.take = Pass.val => nomatch hx) (hp .take (by simp)), fun k b' hk' => ?_⟩
      · simp only [τ', List.length_cons]
        split
        · omega
        · rename_i hx
          have := k5 g (hg.resolve_left hx)
          omega
      · cases k with
        | zero =>
          simp only [List.getElem?_cons_zero, Option.some.injEq] at hk'
          subst hk'
          refine ⟨x, cs, rfl, hm, M_move (Stays.refl _ _) _ (fun _ _ _ => rfl) (fun g hg _ => ⟨.inl hg, by simp only [τ', if_pos hg, Nat.add_zero]⟩) (fun _ h => h) hM⟩
        | succ k =>
          obtain ⟨x', cs', q1, q2, q3⟩ := k7 k b' (by simpa using hk')
          refine ⟨x', cs', by simpa using q1, q2, M_move ⟨fun _ _ _ => rfl, fun g _ hg => hk.Av.2 hg⟩ _ (fun _ _ _ => rfl) (fun g hg _ => ⟨.inr hg.1, ?_⟩) (fun _ h => h) q3⟩
          simp only [τ']
          rw [if_neg (fun hx => hap g hx hg.1), hg.2]
          omega

theorem reads_spec (h : RelS σ w0 W0 Z H S a w) : ∀ (xs : List Operand) (Ts : List TypeId) (l : List (Option TV)) {as : List Arg}, l.length = xs.length → reads Θ S xs Ts l = some as →
    as.length = xs.length ∧ ∀ (k : Nat) (r : Arg), as[k]? = some r → (∃ b, l[k]? = some (some b) ∧ r = .tv b) ∨ ∃ x, xs[k]? = some x ∧ ∀ H, ArgOK w (Pk σ S.length) H r (a.eval x) (fun _ => False)
  | [], Ts, l, as, _, e => by
    simp only [reads, Option.some.injEq] at e
    subst e
    exact ⟨rfl, fun k r hk => by simp at hk⟩
  | x :: xs, [], l, as, hl, e => by simp [reads] at e
  | x :: xs, T :: Ts, [], as, hl, e => by simp at hl
  | x :: xs, T :: Ts, p :: ps, as, hl, e => by
    have hl' : ps.length = xs.length := by simpa using hl
    simp only [reads] at e
    split at e
    · rename_i b
      split at e
      case h_2 => cases e
      rename_i r hr
      simp only [Option.some.injEq] at e
      subst e
      obtain ⟨h1, h2⟩ := reads_spec h xs Ts ps hl' hr
      refine ⟨by simp [h1], fun k r' hk => ?_⟩
      cases k with
      | zero =>
        simp only [List.getElem?_cons_zero, Option.some.injEq] at hk
        exact .inl ⟨b, rfl, hk.symm⟩
      | succ k => simpa using h2 k r' (by simpa using hk)
    · split at e
      · rename_i f caps hav
        split at e
        case h_2 => cases e
        rename_i cs r hcs hr
        simp only [Option.some.injEq] at e
        subst e
        obtain ⟨h1, h2⟩ := reads_spec h xs Ts ps hl' hr
        refine ⟨by simp [h1], fun k r' hk => ?_⟩
        cases k with
        | zero =>
          simp only [List.getElem?_cons_zero, Option.some.injEq] at hk
          subst hk
          obtain ⟨vs, v1, v2, v3⟩ := opv_holds h hav
          obtain ⟨c1, c2⟩ := capTVs_spec h hcs v2 v3
          exact .inr ⟨x, rfl, fun _ => ⟨vs, v1, by omega, c2⟩⟩
        | succ k => simpa using h2 k r' (by simpa using hk)
      · rename_i av _ hav
        split at e
        case h_2 => cases e
        rename_i b r hb hr
        simp only [Option.some.injEq] at e
        subst e
        obtain ⟨h1, h2⟩ := reads_spec h xs Ts ps hl' hr
        refine ⟨by simp [h1], fun k r' hk => ?_⟩
        cases k with
        | zero =>
          simp only [List.getElem?_cons_zero, Option.some.injEq] at hk
          subst hk
          obtain ⟨cs, c1, c2⟩ := rdP_spec h hav hb
          exact .inr ⟨x, rfl, fun _ => ⟨cs, c1, M_of_K _ c2⟩⟩
        | succ k => simpa using h2 k r' (by simpa using hk)
      · cases e
/-- What is nobody's to write is read so. -/
theorem reads_fine (h : RelS σ w0 W0 Z H S a w) : ∀ (xs : List Operand) (Ts : List TypeId) (l : List (Option TV)) {as : List Arg}, l.length = xs.length → reads Θ S xs Ts l = some as → fines S xs l as = true →
    ∀ (k : Nat) (r : Arg), as[k]? = some r → (∃ b, l[k]? = some (some b) ∧ r = .tv b) ∨ ∃ x, xs[k]? = some x ∧ ∀ H, ArgOK w (Av σ Z) H r (a.eval x) (fun _ => False)
  | [], Ts, l, as, _, e, _ => by
    simp only [reads, Option.some.injEq] at e
    subst e
    exact fun k r hk => by simp at hk
  | x :: xs, [], l, as, hl, e, _ => by simp [reads] at e
  | x :: xs, T :: Ts, [], as, hl, e, _ => by simp at hl
  | x :: xs, T :: Ts, p :: ps, as, hl, e, hf => by
    have hl' : ps.length = xs.length := by simpa using hl
    have hall := (reads_spec h (x :: xs) (T :: Ts) (p :: ps) hl e).2
    simp only [reads] at e
    split at e
    · rename_i b
      split at e
      case h_2 => cases e
      rename_i r hr
      simp only [Option.some.injEq] at e
      subst e
      simp only [fines, Bool.true_or, Bool.true_and] at hf
      have h2 := reads_fine h xs Ts ps hl' hr hf
      intro k r' hk
      cases k with
      | zero =>
        simp only [List.getElem?_cons_zero, Option.some.injEq] at hk
        exact .inl ⟨b, rfl, hk.symm⟩
      | succ k => simpa using h2 k r' (by simpa using hk)
    · split at e
      · rename_i f caps hav
        split at e
        case h_2 => cases e
        rename_i cs r hcs hr
        simp only [Option.some.injEq] at e
        subst e
        simp only [fines, Bool.false_or, Bool.and_eq_true, List.isEmpty_iff] at hf
        obtain ⟨hf1, hf2⟩ := hf
        have h2 := reads_fine h xs Ts ps hl' hr hf2
        intro k r' hk
        cases k with
        | succ k => simpa using h2 k r' (by simpa using hk)
        | zero =>
          simp only [List.getElem?_cons_zero, Option.some.injEq] at hk
          subst hk
          rcases hall 0 _ rfl with ⟨b', hb', _⟩ | ⟨x', hx', hok⟩
          · simp at hb'
          · simp only [List.getElem?_cons_zero, Option.some.injEq] at hx'
            subst hx'
            refine .inr ⟨x, rfl, fun H' => ?_⟩
            obtain ⟨vs, v1, v2, v3⟩ := hok H'
            exact ⟨vs, v1, v2, fun j c hj => by rw [hf1] at hj; simp at hj⟩
      · rename_i av _ hav
        split at e
        case h_2 => cases e
        rename_i b r hb hr
        simp only [Option.some.injEq] at e
        subst e
        simp only [fines, Bool.false_or, Bool.and_eq_true, Bool.or_eq_true] at hf
        obtain ⟨hf1, hf2⟩ := hf
        have h2 := reads_fine h xs Ts ps hl' hr hf2
        intro k r' hk
        cases k with
        | succ k => simpa using h2 k r' (by simpa using hk)
        | zero =>
          simp only [List.getElem?_cons_zero, Option.some.injEq] at hk
          subst hk
          rcases hf1 with hs | hs
          · rcases hall 0 _ rfl with ⟨b', hb', _⟩ | ⟨x', hx', hok⟩
            · simp at hb'
            · simp only [List.getElem?_cons_zero, Option.some.injEq] at hx'
              subst hx'
              refine .inr ⟨x, rfl, fun H' => ?_⟩
              obtain ⟨cs, c1, c2⟩ := hok H'
              exact ⟨cs, c1, M_solid _ hs c2⟩
          · refine .inr ⟨x, rfl, fun H' => ?_⟩
            have hh := opv_holds h hav
            cases x with
            | func f => simp [fineA] at hs
            | global f => simp [fineA] at hs
            | tmp i =>
              simp only [St.opv, Option.some.injEq] at hav
              subst hav
              simp only [fineA] at hs
              split at hs
              · rename_i b0 hb0
                rw [hb0] at hh hb
                simp only [St.rdA, Option.some.injEq] at hb
                subst hb
                obtain ⟨cs, c1, c2⟩ := hh
                exact ⟨cs, c1, K_M rfl (M_isK _ hs c2)⟩
              · cases hs
            | const c =>
              have hk : ∀ a0, av = .v a0 [] → ∀ H', ArgOK w (Av σ Z) H' (.tv (kTV b)) (a.eval (.const c)) fun _ => False := fun a0 e H' => by
                subst e
                simp only [St.rdA, Option.some.injEq] at hb
                subst hb
                have hh := opv_holds h hav
                obtain ⟨cs, c1, c2⟩ := hh
                exact ⟨cs, c1, K_M rfl (M_K (fun g _ hg => hg) _ rfl (fun g hg => by obtain ⟨j, hj, _⟩ := hg; cases hj) c2)⟩
              simp only [St.opv] at hav
              cases hc : constTV Θ T c with
              | none => rw [hc] at hav; cases hav
              | some a0 =>
                rw [hc] at hav
                simp only [Option.map_some, Option.some.injEq] at hav
                exact hk a0 hav.symm H'
      · cases e
end Go.Pv

namespace Go.Pv
set_option linter.unusedVariables false
set_option linter.unusedSimpArgs false
variable {P : Program} {w w' : World} {A A' B Wr : Nat → Prop} {H H' : Nat → Value}

theorem M_bare : ∀ (t : Ty) {m : Md} {x : t.I} {cs : List Value} {ow : Nat → Prop} {hs : List Path}, bareM m = true → M w A H t m x cs ow hs → M w A H' t m x cs ow hs
  | .int _, _, _, _, _, _, _, h => by simp only [M] at h ⊢; exact h
  | .bool, _, _, _, _, _, _, h => by simp only [M] at h ⊢; exact h
  | .str, _, _, _, _, _, _, h => by simp only [M] at h ⊢; exact h
  | .unit, _, _, _, _, _, _, h => by simp only [M] at h ⊢; exact h
  | .arr _ _, _, _, _, _, _, _, h => by simp only [M] at h ⊢; exact h
  | .sl t, m, xs, cs, ow, hs, hb, h => by
    simp only [M] at h ⊢
    rcases h with h | h | ⟨T, tag, me, X, c, rfl, e2, hc, ht, h⟩
    · exact .inl h
    · exact .inr (.inl h)
    · simp only [bareM, Bool.and_eq_true] at hb
      obtain ⟨hb1, hb2⟩ := hb
      cases tag with
      | some _ => cases hb1
      | none =>
        refine .inr (.inr ⟨T, none, me, X, c, rfl, e2, hc, fun h hh => (by cases hh), ?_⟩)
        rcases h with h | ⟨g, cur, τ, h1, h2, h3, h4, h5, h6⟩
        · exact .inl h
        · exact .inr ⟨g, cur, τ, h1, h2, h3, h4, h5, fun j hj => M_bare t hb2 (h6 j hj)⟩
  | .ptr t, m, x, cs, ow, hs, hb, h => by
    simp only [M] at h ⊢
    rcases h with h | h | ⟨T, tag, me, g, cur, rfl, e2, ht, hg, hw, h⟩
    · exact .inl h
    · exact .inr (.inl h)
    · simp only [bareM, Bool.and_eq_true] at hb
      obtain ⟨hb1, hb2⟩ := hb
      cases tag with
      | some _ => cases hb1
      | none => exact .inr (.inr ⟨T, none, me, g, cur, rfl, e2, fun h hh => (by cases hh), hg, hw, M_bare t hb2 h⟩)
  | .pair a b, m, x, cs, ow, hs, hb, h => by
    simp only [M] at h ⊢
    rcases h with h | h | ⟨ma, mb, c0, c1, s, rfl, e2, h0, h1⟩
    · exact .inl h
    · exact .inr (.inl h)
    · simp only [bareM, Bool.and_eq_true] at hb
      exact .inr (.inr ⟨ma, mb, c0, c1, s, rfl, e2, M_bare a hb.1 h0, M_bare b hb.2 h1⟩)

theorem tagM_isK : ∀ (t : Ty) {m : Md} {n : Nat}, m.isK = true → (tagM t m n).isK = true
  | .int _, m, n, h => by simpa [tagM] using h
  | .bool, m, n, h => by simpa [tagM] using h
  | .str, m, n, h => by simpa [tagM] using h
  | .unit, m, n, h => by simpa [tagM] using h
  | .arr _ _, m, n, h => by simpa [tagM] using h
  | .sl t, m, n, h => by cases m <;> simp_all [tagM, Md.isK]
  | .ptr t, m, n, h => by cases m <;> simp_all [tagM, Md.isK]
  | .pair a b, m, n, h => by
    cases m with
    | k => simp [tagM, Md.isK]
    | o => simp [Md.isK] at h
    | p ma mb =>
      simp only [Md.isK, Bool.and_eq_true] at h
      simp only [tagM, Md.isK, Bool.and_eq_true]
      exact ⟨tagM_isK a h.1, tagM_isK b h.2⟩
theorem mergeV_isK : ∀ (t : Ty) {m : Md} {x y : t.I}, m.isK = true → mergeV t m x y = x
  | .int _, m, x, y, h => rfl
  | .bool, m, x, y, h => rfl
  | .str, m, x, y, h => rfl
  | .unit, m, x, y, h => rfl
  | .arr _ _, m, x, y, h => rfl
  | .sl t, m, x, y, h => by cases m <;> simp_all [mergeV, Md.isK]
  | .ptr t, m, x, y, h => by cases m <;> simp_all [mergeV, Md.isK]
  | .pair a b, m, x, y, h => by
    cases m with
    | k => simp [mergeV]
    | o => simp [Md.isK] at h
    | p ma mb =>
      simp only [Md.isK, Bool.and_eq_true] at h
      simp only [mergeV]
      rw [mergeV_isK a h.1, mergeV_isK b h.2]

/-- The headers get names. -/
theorem M_tag : ∀ (t : Ty) {m : Md} {x : t.I} {cs : List Value} {ow : Nat → Prop} {n : Nat}, lendable t m = true → M w A H t m x cs ow [] → (∀ (j : Nat) (u : Value), cs[j]? = some u → H' (n + j) = u) → M w A H' t (tagM t m n) x cs ow []
  | .int _, _, _, _, _, _, _, h, _ => by simp only [M, tagM] at h ⊢; exact h
  | .bool, _, _, _, _, _, _, h, _ => by simp only [M, tagM] at h ⊢; exact h
  | .str, _, _, _, _, _, _, h, _ => by simp only [M, tagM] at h ⊢; exact h
  | .unit, _, _, _, _, _, _, h, _ => by simp only [M, tagM] at h ⊢; exact h
  | .arr _ _, _, _, _, _, _, _, h, _ => by simp only [M, tagM] at h ⊢; exact h
  | .sl t, m, xs, cs, ow, n, hl, h, hH => by
    simp only [M] at h ⊢
    rcases h with ⟨h, _⟩ | ⟨hk, h⟩ | ⟨T, tag, me, X, c, rfl, rfl, hc, ht, h⟩
    · simp at h
    · exact .inr (.inl ⟨tagM_isK (.sl t) hk, h⟩)
    · simp only [lendable, Bool.and_eq_true] at hl
      refine .inr (.inr ⟨T, some n, me, X, c, rfl, rfl, hc, fun h hh => ?_, ?_⟩)
      · injection hh with hh
        subst hh
        exact hH 0 _ rfl
      · rcases h with h | ⟨g, cur, τ, h1, h2, h3, h4, h5, h6⟩
        · exact .inl h
        · exact .inr ⟨g, cur, τ, h1, h2, h3, h4, h5, fun j hj => M_bare t hl (h6 j hj)⟩
  | .ptr t, m, x, cs, ow, n, hl, h, hH => by
    simp only [M] at h ⊢
    rcases h with ⟨h, _⟩ | ⟨hk, h⟩ | ⟨T, tag, me, g, cur, rfl, rfl, ht, hg, hw, h⟩
    · simp at h
    · exact .inr (.inl ⟨tagM_isK (.ptr t) hk, h⟩)
    · simp only [lendable, Bool.and_eq_true] at hl
      refine .inr (.inr ⟨T, some n, me, g, cur, rfl, rfl, fun h hh => ?_, hg, hw, M_bare t hl h⟩)
      injection hh with hh
      subst hh
      exact hH 0 _ rfl
  | .pair a b, m, x, cs, ow, n, hl, h, hH => by
    simp only [M] at h ⊢
    rcases h with ⟨h, _⟩ | ⟨hk, h⟩ | ⟨ma, mb, c0, c1, s, rfl, rfl, h0, h1⟩
    · simp at h
    · exact .inr (.inl ⟨tagM_isK (.pair a b) hk, h⟩)
    · simp only [lendable, Bool.and_eq_true] at hl
      have hl0 := (M_ok a h0).1
      refine .inr (.inr ⟨_, _, c0, c1, s, rfl, rfl, M_tag a hl.1 h0 (fun j u hj => hH j u ?_), M_tag b hl.2 h1 (fun j u hj => ?_)⟩)
      · rw [List.getElem?_append_left (List.getElem?_eq_some_iff.1 hj).1]; exact hj
      · rw [Nat.add_assoc]
        refine hH (a.size + j) u ?_
        rw [List.getElem?_append_right (by omega), hl0, Nat.add_sub_cancel_left]
        exact hj

/-- What comes back has the same headers. -/
theorem M_untag (hst : Stays w w' A A') : ∀ (t : Ty) {m : Md} {x y : t.I} {cs cs' : List Value} {ow ow' : Nat → Prop} {n : Nat}, lendable t m = true → (lendS t m = true ∨ Stays w' w' B A') → M w A H t m x cs ow [] → (∀ (j : Nat) (u : Value), cs[j]? = some u → H' (n + j) = u) →
    M w' B H' t (tagM t m n) y cs' ow' [] → M w' A' H t m (mergeV t m x y) cs ow' []
  | .int _, _, _, _, _, _, _, _, _, _, _, h, _, _ => by simp only [M, mergeV] at h ⊢; exact ⟨h.1, K_stays hst _ h.2⟩
  | .bool, _, _, _, _, _, _, _, _, _, _, h, _, _ => by simp only [M, mergeV] at h ⊢; exact ⟨h.1, K_stays hst _ h.2⟩
  | .str, _, _, _, _, _, _, _, _, _, _, h, _, _ => by simp only [M, mergeV] at h ⊢; exact ⟨h.1, K_stays hst _ h.2⟩
  | .unit, _, _, _, _, _, _, _, _, _, _, h, _, _ => by simp only [M, mergeV] at h ⊢; exact ⟨h.1, K_stays hst _ h.2⟩
  | .arr _ _, _, _, _, _, _, _, _, _, _, _, h, _, _ => by simp only [M, mergeV] at h ⊢; exact ⟨h.1, K_stays hst _ h.2⟩
  | .sl t, m, xs, ys, cs, cs', ow, ow', n, hl, hB, h, hH, h' => by
    simp only [M] at h
    rcases h with ⟨h, _⟩ | ⟨hk, h⟩ | ⟨T, tag, me, X, c, rfl, rfl, hc, ht, h⟩
    · simp at h
    · rw [mergeV_isK _ hk]
      exact K_M hk (K_stays hst _ h)
    · simp only [lendable, Bool.and_eq_true] at hl
      simp only [tagM, M] at h'
      rcases h' with ⟨h', _⟩ | ⟨hk, _⟩ | ⟨T2, tag2, me2, X2, c2, e1, e2, hc2, ht2, h'⟩
      · simp at h'
      · simp [Md.isK] at hk
      · injection e1 with e1 e1' e1''
        subst e1 e1' e1''
        have q1 := ht2 n rfl
        rw [show H' n = .slice X xs.length c from hH 0 _ rfl] at q1
        injection q1 with q1 q2 q3
        subst q1 q3
        simp only [M, mergeV]
        refine .inr (.inr ⟨T, tag, me, X, c, rfl, by rw [q2], hc2, fun h hh => by rw [ht h hh, q2], ?_⟩)
        rcases h' with h' | ⟨g, cur, τ, k1, k2, k3, k4, k5, k6⟩
        · exact .inl h'
        · exact .inr ⟨g, cur, τ, k1, k2, k3, k4, k5, fun j hj => hB.elim (fun hs => M_solid t hs (M_bare t hl (k6 j hj))) fun hst => M_move hst t (fun _ _ _ => rfl) (fun _ h _ => h) (fun _ h => h) (M_bare t hl (k6 j hj))⟩
  | .ptr t, m, x, y, cs, cs', ow, ow', n, hl, hB, h, hH, h' => by
    simp only [M] at h
    rcases h with ⟨h, _⟩ | ⟨hk, h⟩ | ⟨T, tag, me, g, cur, rfl, rfl, ht, hg, hw, h⟩
    · simp at h
    · rw [mergeV_isK _ hk]
      exact K_M hk (K_stays hst _ h)
    · simp only [lendable, Bool.and_eq_true] at hl
      simp only [tagM, M] at h'
      rcases h' with ⟨h', _⟩ | ⟨hk, _⟩ | ⟨T2, tag2, me2, g2, cur2, e1, e2, ht2, hg2, hw2, h'⟩
      · simp at h'
      · simp [Md.isK] at hk
      · injection e1 with e1 e1' e1''
        subst e1 e1' e1''
        have q1 := ht2 n rfl
        rw [show H' n = .pointer (some ⟨g, 0, none⟩) from hH 0 _ rfl] at q1
        injection q1 with q1
        injection q1 with q1
        injection q1 with q1
        subst q1
        simp only [M, mergeV]
        exact .inr (.inr ⟨T, tag, me, g, cur2, rfl, rfl, ht, hg2, hw2, hB.elim (fun hs => M_solid t hs (M_bare t hl h')) fun hst => M_move hst t (fun _ _ _ => rfl) (fun _ h _ => h) (fun _ h => h) (M_bare t hl h')⟩)
  | .pair a b, m, x, y, cs, cs', ow, ow', n, hl, hB, h, hH, h' => by
    simp only [M] at h
    rcases h with ⟨h, _⟩ | ⟨hk, h⟩ | ⟨ma, mb, c0, c1, s, rfl, rfl, h0, h1⟩
    · simp at h
    · rw [mergeV_isK _ hk]
      exact K_M hk (K_stays hst _ h)
    · simp only [lendable, Bool.and_eq_true] at hl
      have hBa : lendS a ma = true ∨ Stays w' w' B A' := hB.imp (fun h => by simp only [lendS, Bool.and_eq_true] at h; exact h.1) id
      have hBb : lendS b mb = true ∨ Stays w' w' B A' := hB.imp (fun h => by simp only [lendS, Bool.and_eq_true] at h; exact h.2) id
      have hl0 := (M_ok a h0).1
      have hH0 : ∀ (j : Nat) (u : Value), c0[j]? = some u → H' (n + j) = u := fun j u hj => hH j u (by rw [List.getElem?_append_left (List.getElem?_eq_some_iff.1 hj).1]; exact hj)
      have hH1 : ∀ (j : Nat) (u : Value), c1[j]? = some u → H' (n + a.size + j) = u := fun j u hj => by
        rw [Nat.add_assoc]
        refine hH (a.size + j) u ?_
        rw [List.getElem?_append_right (by omega), hl0, Nat.add_sub_cancel_left]
        exact hj
      simp only [tagM, M] at h'
      simp only [M, mergeV]
      rcases h' with ⟨h', _⟩ | ⟨hk, h'⟩ | ⟨ma2, mb2, d0, d1, s2, e1, e2, k0, k1⟩
      · simp at h'
      · simp only [Md.isK, Bool.and_eq_true] at hk
        simp only [K] at h'
        obtain ⟨d0, d1, e2, k0, k1⟩ := h'
        exact .inr (.inr ⟨ma, mb, c0, c1, fun _ => True, rfl, rfl, M_untag hst a hl.1 hBa h0 hH0 (K_M hk.1 k0), M_untag hst b hl.2 hBb h1 hH1 (K_M hk.2 k1)⟩)
      · injection e1 with e1 e1'
        subst e1 e1'
        exact .inr (.inr ⟨ma, mb, c0, c1, s2, rfl, rfl, M_untag hst a hl.1 hBa h0 hH0 k0, M_untag hst b hl.2 hBb h1 hH1 k1⟩)
end Go.Pv

namespace Go.Pv
set_option linter.unusedVariables false
set_option linter.unusedSimpArgs false
variable {P : Program} {w w' : World} {A A' Wr : Nat → Prop} {H : Nat → Value} {tm tm' : Nat → Value} {S S' S1 : St} {σ σ1 σ2 : Nat → Option Nat} {w0 : World} {W0 Z : Nat → Prop} {a : Act} {own : Nat → Prop} {v : Value} {Θ : Tab} {dst : Option Nat} {O : Orc} {hh : Hint} {Γ : Gl}

theorem Fr.trans {W1 : Nat → Prop} (h : Fr w0 W0 w) (h1 : Fr w W1 w') (hw : ∀ g, W1 g → g < w0.heap.size → W0 g) : Fr w0 W0 w' := by
  refine ⟨h1.os.trans h.os, h1.tape.trans h.tape, h1.output.trans h.output, Nat.le_trans h.size h1.size, fun g hg hn => ?_⟩
  rw [h1.block g (by have := h.size; omega) (fun hx => hn (hw g hx hg))]
  exact h.block g hg hn

/-- A call, on the caller's side. -/
theorem call_ok (hT : tabB P hh.tab = true) (hO : OrcOK Γ P O w0 W0) (h : RelS σ w0 W0 Z H S a w) {o : Oper} {f : FuncId} {cal : Option Nat} {as : List Operand} {ts : List TypeId} {K : St → Option Ret} {ret : Ret} {capv : List Value}
    (hcal : (cal = none ∧ capv = []) ∨ ∃ i, cal = some i ∧ tmOf a i = .func (.func f) #[] capv.toArray) (e : peCall hh O o f cal as ts S K = some ret) :
    Does P f (as.map a.eval ++ capv) w fun v w' => ∃ S', K S' = some ret ∧ Rel w0 W0 Z H S' (a.put o.dst v) w' ∧ ((∀ p ∈ O.sig f, p = .val) → Ext w w') := by
  unfold peCall at e
  split at e
  case h_2 => cases e
  rename_i l S1 hl
  split at e
  case h_2 => cases e
  rename_i args cs hargs hcs
  obtain ⟨σ1, ow, τ, t1, t2, t3, t4, t5, t6, t7⟩ := takes_spec as ts (O.sig f) 0 h hl
  obtain ⟨r1, r2⟩ := reads_spec t1 as ts l t4 hargs
  -- the captured values
  have hcap : cs.length = capv.length ∧ ∀ (j : Nat) (c : TV), cs[j]? = some c → ptrTV c = true ∧ ∃ u, capv[j]? = some u ∧ Go.Pv.K w (Pk σ1 S1.length) c.t c.x [u] := by
    rcases hcal with ⟨rfl, rfl⟩ | ⟨i, rfl, hv⟩
    · simp only [capsIn, Option.some.injEq] at hcs
      subst hcs
      exact ⟨rfl, fun j c hj => by simp at hj⟩
    · simp only [capsIn] at hcs
      split at hcs
      case h_2 => cases hcs
      rename_i f' caps hat
      cases hb : Nat.beq f' f with
      | false => rw [hb] at hcs; cases hcs
      | true =>
        rw [hb] at hcs
        simp only [cond_true] at hcs
        have hold := t1.holds i
        rw [hat] at hold
        obtain ⟨vs, v1, v2, v3⟩ := hold
        rw [hv] at v1
        injection v1 with _ _ v1
        have hvs : capv = vs := by
          have := congrArg Array.toList v1
          simpa using this
        subst hvs
        split at hcs
        case h_2 => cases hcs
        rename_i l' hl'
        cases hp : l'.all ptrTV with
        | false => rw [hp] at hcs; cases hcs
        | true =>
          rw [hp] at hcs
          simp only [cond_true, Option.some.injEq] at hcs
          subst hcs
          obtain ⟨c1, c2⟩ := capTVs_spec t1 hl' v2 v3
          exact ⟨by omega, fun j c hj => ⟨List.all_eq_true.1 hp c (List.mem_of_getElem? hj), c2 j c hj⟩⟩
  -- the callee's arguments
  let σc : Nat → Option Nat := fun g => open Classical in if ow g then some (τ g) else none
  have hσc : ∀ g i, σc g = some i ↔ ow g ∧ τ g = i := fun g i => by
    simp only [σc]
    split
    · rename_i hx; exact ⟨fun hg => ⟨hx, by injection hg⟩, fun hg => by rw [hg.2]⟩
    · rename_i hx; exact ⟨fun hg => (by cases hg), fun hg => absurd hg.1 hx⟩
  have hOwn : ∀ g, Own σc g ↔ ow g := fun g => ⟨fun ⟨i, hi⟩ => ((hσc g i).1 hi).1, fun hg => ⟨τ g, (hσc g _).2 ⟨hg, rfl⟩⟩⟩
  have hpk : ∀ g, ow g → Pk σ1 S1.length g := fun g hg => by rw [t2]; exact t3.now g hg
  obtain ⟨fine, hfine⟩ : ∃ fine, fine = (cs.isEmpty && fines S1 as l args) := ⟨_, rfl⟩
  let B : Nat → Prop := fun g => fine = true ∧ Av σ Z g ∧ ¬ ow g
  have hstT : Stays w w (Av σ Z) (Av σc B) := ⟨fun _ _ _ => rfl, fun g _ hg => by
    rcases hg with hg | hg
    · obtain ⟨i, _, hi⟩ := t3.was g ((hOwn g).1 hg)
      exact .inl ⟨i, hi⟩
    · exact hg.2.1⟩
  have hstF : Stays w w (Av σ1 Z) (Av σc B) := ⟨fun _ _ _ => rfl, fun g hl hg => t3.Av.2 (hstT.wr g hl hg)⟩
  have hstP : fine = false → Stays w w (Pk σ1 S1.length) (Av σc B) := fun hn => ⟨fun _ _ _ => rfl, fun g _ hg => by
    rcases hg with hg | hg
    · exact hpk g ((hOwn g).1 hg)
    · have h1 := hg.1; rw [hn] at h1; cases h1⟩
  have r3 := fun hf : fine = true => reads_fine t1 as ts l t4 hargs (by rw [hf] at hfine; exact (Bool.and_eq_true _ _ ▸ hfine.symm).2)
  have hin : In Γ B H w σc (args ++ cs.map .tv) (as.map a.eval ++ capv) := by
    refine ⟨by simp [r1, hcap.1], fun g i hg => ?_, fun g hg => ⟨?_, ?_⟩, fun g o hg => ⟨?_, ?_⟩, fun j r hj => ?_⟩
    · obtain ⟨q1, q2⟩ := (hσc g i).1 hg
      have := (t5 g q1).2
      obtain ⟨k, _, hk⟩ := t3.was g q1
      exact ⟨by simp only [List.length_append]; omega, h.lt g k hk⟩
    · cases hc : σc g with
      | none => rfl
      | some i => exact absurd ((hσc g i).1 hc).1 hg.2.2
    · rcases hg.2.1 with ⟨i, hi⟩ | hz
      · exact h.lt g i hi
      · have := (h.old g hz).2; have := h.fr.size; omega
    · cases hc : σc g with
      | none => rfl
      | some i =>
        obtain ⟨k, _, hk⟩ := t3.was g ((hσc g i).1 hc).1
        obtain ⟨e1, e2⟩ := hO.env g o hg
        rcases h.new g k hk with hx | hx
        · have := lt_of_some e2; omega
        · exact absurd hx e1
    · obtain ⟨e1, e2⟩ := hO.env g o hg
      rw [h.fr.block g (lt_of_some e2) e1, e2]
    · rcases Nat.lt_or_ge j args.length with hjl | hjl
      · rw [List.getElem?_append_left hjl] at hj
        rw [List.getElem?_append_left (by simp only [List.length_map]; omega), List.getElem?_map]
        rcases r2 j r hj with ⟨b, hb, rfl⟩ | ⟨x, hx, hok⟩
        · obtain ⟨x, c, q1, q2, q3⟩ := t7 j b hb
          rw [q1]
          exact ⟨_, rfl, c, q2, M_move hstT _ (fun _ _ _ => rfl) (fun g hg _ => (hσc g j).2 ⟨hg.1, by rw [hg.2]; omega⟩) (fun _ h => h) q3⟩
        · have fin : ∀ {A0 : Nat → Prop}, Stays w w A0 (Av σc B) → ArgOK w A0 H r (a.eval x) (fun _ => False) → ArgOK w (Av σc B) H r (a.eval x) (fun g => σc g = some j) := fun hst hok => by
            cases r with
            | tv b =>
              obtain ⟨c, c1, c2⟩ := hok
              exact ⟨c, c1, M_move hst _ (fun _ _ _ => rfl) (fun _ hg _ => hg.elim) (fun _ h => h) c2⟩
            | fn f' caps =>
              obtain ⟨vs, c1, c2, c3⟩ := hok
              exact ⟨vs, c1, c2, fun k c hk => by obtain ⟨u, u1, u2⟩ := c3 k c hk; exact ⟨u, u1, K_stays hst _ u2⟩⟩
          cases hfn : fine with
          | false =>
            rw [hx]
            exact ⟨_, rfl, fin (hstP hfn) (hok H)⟩
          | true =>
            rcases r3 hfn j r hj with ⟨b, hb, rfl⟩ | ⟨x', hx', hok'⟩
            · obtain ⟨x, c, q1, q2, q3⟩ := t7 j b hb
              rw [q1]
              exact ⟨_, rfl, c, q2, M_move hstT _ (fun _ _ _ => rfl) (fun g hg _ => (hσc g j).2 ⟨hg.1, by rw [hg.2]; omega⟩) (fun _ h => h) q3⟩
            · rw [hx] at hx'
              injection hx' with hx'
              subst hx'
              rw [hx]
              exact ⟨_, rfl, fin hstF (hok' H)⟩
      · rw [List.getElem?_append_right hjl, List.getElem?_map] at hj
        cases hc : cs[j - args.length]? with
        | none => rw [hc] at hj; cases hj
        | some c =>
          rw [hc] at hj
          injection hj with hj
          subst hj
          obtain ⟨u0, u, u1, u2⟩ := hcap.2 _ c hc
          refine ⟨u, ?_, ?_⟩
          · rw [List.getElem?_append_right (by simp only [List.length_map]; omega)]
            simpa [r1] using u1
          · have hfn : fine = false := by
              cases hf : fine with
              | false => rfl
              | true =>
                rw [hf] at hfine
                cases cs with
                | nil => simp at hc
                | cons _ _ => simp at hfine
            have hK := K_stays (hstP hfn) _ u2
            obtain ⟨ct, cm, cx⟩ := c
            unfold ptrTV at u0
            split at u0
            · rename_i t ht
              simp only at ht u0 hK
              subst ht
              exact ⟨[u], by simp [matchV, isAgg], K_M u0 hK⟩
            · cases u0
  refine ((hO.sd f).1 _ _ ret w σc _ H B e hin).mono fun v w' hv => ?_
  obtain ⟨rt, hrt, hout⟩ := hv
  split at hrt
  case h_2 => cases hrt
  cases hcnd : (rt.res.all (fun d => solid d.t d.m) || (cs.isEmpty && fines S1 as l args)) with
  | false => rw [hcnd] at hrt; cases hrt
  | true =>
  rw [hcnd] at hrt
  simp only [cond_true] at hrt
  rw [← hfine, Bool.or_eq_true] at hcnd
  refine ⟨_, hrt, ?_, fun hall g hg => hout.fr.block g hg (fun hx => t6 hall g ((hOwn g).1 hx))⟩
  -- behind the call
  obtain ⟨σ', vs, q1, q2, q3, q4, _⟩ := hout.res
  let n := S1.length
  let σr : Nat → Option Nat := fun g => match σ' g with
    | some i => some (S1.length + i)
    | none => open Classical in if ow g then none else σ1 g
  have hσr : ∀ g i, σr g = some i → (∃ k, σ' g = some k ∧ i = S1.length + k) ∨ (σ' g = none ∧ ¬ ow g ∧ σ1 g = some i) := fun g i hg => by
    simp only [σr] at hg
    split at hg
    · rename_i k hk
      injection hg with hg
      exact .inl ⟨k, hk, hg.symm⟩
    · rename_i hk
      split at hg
      · cases hg
      · exact .inr ⟨hk, by assumption, hg⟩
  have hσr1 : ∀ g k, σ' g = some k → σr g = some (S1.length + k) := fun g k hk => by simp only [σr, hk]
  have hσr2 : ∀ g i, σ' g = none → ¬ ow g → σ1 g = some i → σr g = some i := fun g i h1 h2 h3 => by simp only [σr, h1, if_neg h2, h3]
  have hkeep : ∀ g, g < w.heap.size → ¬ ow g → w'.heap[g]? = w.heap[g]? := fun g hg hn => hout.fr.block g hg (fun hx => hn ((hOwn g).1 hx))
  have hold' : ∀ g, g < w.heap.size → ∀ k, σ' g = some k → ow g := fun g hg k hk => by
    rcases (q3 g k hk).1 with hx | hx
    · omega
    · exact (hOwn g).1 hx
  have hst : Stays w w' (Av σ1 Z) (Av σr Z) := ⟨fun g hn hg => hkeep g hg (fun hx => hn (by obtain ⟨i, _, hi⟩ := hpk g hx; exact .inl ⟨i, hi⟩)), fun g hg hx => by
    rcases hx with ⟨i, hx⟩ | hx
    · rcases hσr g i hx with ⟨k, hk, _⟩ | ⟨_, _, hk⟩
      · obtain ⟨i, _, hi⟩ := hpk g (hold' g hg k hk)
        exact .inl ⟨i, hi⟩
      · exact .inl ⟨i, hk⟩
    · exact .inr hx⟩
  have hownlt : ∀ g, ow g → ∀ i, σ1 g = some i → S1.length ≤ i := fun g hg i hi => by
    obtain ⟨j, hj, hj2⟩ := hpk g hg
    rw [hi] at hj2
    injection hj2 with hj2
    omega
  have hR : RelS σr w0 W0 Z H S1 a w' := by
    refine ⟨t1.len, t1.defers, t1.fr.trans hout.fr (fun g hg hl => ?_), fun g i hg => ?_, fun g i hg => ?_, fun g hg => ⟨?_, (t1.old g hg).2⟩, fun i => ?_⟩
    · obtain ⟨i, _, hi⟩ := hpk g ((hOwn g).1 hg)
      rcases t1.new g i hi with hx | hx
      · omega
      · exact hx
    · rcases hσr g i hg with ⟨k, hk, _⟩ | ⟨_, _, hk⟩
      · rcases (q3 g k hk).1 with hx | hx
        · have := t1.fr.size; exact .inl (by omega)
        · obtain ⟨i, _, hi⟩ := hpk g ((hOwn g).1 hx)
          exact t1.new g i hi
      · exact t1.new g i hk
    · rcases hσr g i hg with ⟨k, hk, _⟩ | ⟨_, _, hk⟩
      · exact (q3 g k hk).2
      · have := t1.lt g i hk; have := hout.fr.size; omega
    · obtain ⟨z1, z2⟩ := t1.old g hg
      have hno : ¬ ow g := fun hx => by obtain ⟨i, _, hi⟩ := hpk g hx; rw [z1] at hi; cases hi
      have : σ' g = none := by
        cases hk : σ' g with
        | none => rfl
        | some k => exact absurd (hold' g (by have := t1.fr.size; omega) k hk) hno
      simp only [σr, this, if_neg hno, z1]
    · by_cases hil : i < S1.length
      · refine (t1.holds i).kept hst (fun g hg hl => ?_) (fun s hs => ?_)
        · have hno : ¬ ow g := fun hx => by have := hownlt g hx i hg; omega
          refine ⟨hkeep g hl hno, hσr2 g i ?_ hno hg⟩
          cases hk : σ' g with
          | none => rfl
          | some k => exact absurd (hold' g hl k hk) hno
        · by_cases hsl : s < S1.length
          · exact ⟨fun _ _ h => h, rfl, _, t1.holds s, fun g hg hl => hkeep g hl (fun hx => by have := hownlt g hx s hg; omega)⟩
          · have hd : S1.at s = .dead := Classical.byContradiction fun hx => hsl (at_lt hx)
            exact ⟨fun _ _ h => h, rfl, fun _ => False, by rw [hd]; trivial, fun _ h => h.elim⟩
      · have hd : S1.at i = .dead := Classical.byContradiction fun hx => hil (at_lt hx)
        rw [hd]
        trivial
  refine ⟨_, hR.give0 (ow := fun g => ∃ k, σ' g = some k) (Nat.le_refl _) (fun _ _ _ => rfl) hR.fr (fun g ⟨k, hk⟩ => ⟨(q3 g k hk).2, .inl ⟨S1.length + k, by omega, hσr1 g k hk⟩⟩) fun d _ g1 g2 => ?_⟩
  -- the results
  have hkey : fine = true → Stays w' w' (Av σ' B) (Av (grant σr o.dst fun g => ∃ k, σ' g = some k) Z) := fun hfn => ⟨fun _ _ _ => rfl, fun g _ hg => by
    rcases g2 g hg with (⟨i, hi⟩ | hz) | hx
    · rcases hσr g i hi with ⟨k, hk, _⟩ | ⟨_, hno, hk⟩
      · exact .inl ⟨k, hk⟩
      · exact .inr ⟨hfn, t3.Av.1 (.inl ⟨i, hk⟩), hno⟩
    · refine .inr ⟨hfn, .inr hz, fun hx => ?_⟩
      obtain ⟨i, _, hi⟩ := hpk g hx
      rw [(t1.old g hz).1] at hi
      cases hi
    · exact .inl hx⟩
  have hres : ∀ (i : Nat) (b : TV), rt.res[i]? = some b → ∃ u cs, vs[i]? = some u ∧ matchV b.t u cs ∧ M w' (Av (grant σr o.dst fun g => ∃ k, σ' g = some k) Z) H b.t b.m b.x cs (fun g => σ' g = some i) [] := fun i b hb => by
    obtain ⟨u, c, u1, u2, u3⟩ := q4 i b hb
    refine ⟨u, c, u1, u2, ?_⟩
    rcases hcnd with hs | hfn
    · exact M_solid _ (List.all_eq_true.1 hs b (List.mem_of_getElem? hb)) u3
    · exact M_move (hkey hfn) _ (fun _ _ _ => rfl) (fun _ h _ => h) (fun _ h => h) u3
  have htup : ∀ l : List TV, l = rt.res → Holds w' (Av (grant σr o.dst fun g => ∃ k, σ' g = some k) Z) H (tmOf (a.put o.dst v)) (S1.put o.dst (.tup (l.map some))) (fun g => grant σr o.dst (fun g => ∃ k, σ' g = some k) g = some d) (.tup (l.map some)) (.tuple vs.toArray) := fun l hl => by
    subst hl
    refine ⟨vs, fun g => (σ' g).getD 0, rfl, by simp [q2], fun j b hj => ?_⟩
    rw [List.getElem?_map] at hj
    cases hb : rt.res[j]? with
    | none => rw [hb] at hj; cases hj
    | some b' =>
      rw [hb] at hj
      simp only [Option.map_some, Option.some.injEq] at hj
      subst hj
      obtain ⟨u, c, u1, u2, u3⟩ := hres j b' hb
      exact ⟨u, c, u1, u2, M_move (Stays.refl _ _) _ (fun _ _ _ => rfl) (fun g hg _ => ⟨g1 g ⟨j, hg⟩, by show (σ' g).getD 0 = j; rw [hg]; rfl⟩) (fun _ h => h) u3⟩
  subst q1
  match hres' : rt.res, q2 with
  | [b], q2 =>
    match vs, q2 with
    | [u], _ =>
      obtain ⟨u', c, u1, u2, u3⟩ := hres 0 b (by rw [hres']; rfl)
      simp only [List.getElem?_cons_zero, Option.some.injEq] at u1
      subst u1
      exact ⟨c, u2, M_move (Stays.refl _ _) _ (fun _ _ _ => rfl) (fun g hg _ => g1 g ⟨0, hg⟩) (fun _ h => h) u3⟩
  | [], q2 =>
    match vs, q2 with
    | [], _ => exact htup [] hres'.symm
  | b :: b' :: r, q2 =>
    match vs, q2 with
    | u :: u' :: vr, _ => exact htup (b :: b' :: r) hres'.symm
end Go.Pv

namespace Go.Pv
set_option linter.unusedVariables false
set_option linter.unusedSimpArgs false
variable {P : Program} {w w' : World} {A A' Wr : Nat → Prop} {H H' : Nat → Value} {tm tm' : Nat → Value} {S S' S1 : St} {σ σ1 σ2 : Nat → Option Nat} {w0 : World} {W0 Z : Nat → Prop} {a : Act} {own : Nat → Prop} {v : Value} {Θ : Tab} {dst : Option Nat} {O : Orc} {hh : Hint} {Γ : Gl}

theorem putCells_same (cur : List Value) (off n : Nat) (h : off + n ≤ cur.length) : putCells cur off ((cur.drop off).take n) = cur := by
  have hl : ((cur.drop off).take n).length = n := by rw [List.length_take, List.length_drop]; omega
  apply List.ext_getElem?
  intro k
  rw [put_get _ _ _ _ (by omega), hl]
  by_cases h1 : k < off
  · rw [if_pos h1]
  · rw [if_neg h1]
    by_cases h2 : k < off + n
    · rw [if_pos h2, List.getElem?_take, if_pos (by omega), List.getElem?_drop]
      congr 1; omega
    · rw [if_neg h2]

/-- Behind a call: what the caller keeps. -/
theorem after_call {ow : Nat → Prop} {σc σ' : Nat → Option Nat} (t1 : RelS σ1 w0 W0 Z H S1 a w) (hpk : ∀ g, ow g → Pk σ1 S1.length g) (hOwn : ∀ g, Own σc g ↔ ow g) (hfr : Fr w (Own σc) w')
    (q3 : ∀ g i, σ' g = some i → (w.heap.size ≤ g ∨ Own σc g) ∧ g < w'.heap.size) :
    ∃ σr, RelS σr w0 W0 Z H S1 a w' ∧ (∀ g k, σ' g = some k → σr g = some (S1.length + k)) ∧ Stays w w' (Av σ1 Z) (Av σr Z) ∧
      (∀ g i, i < S1.length → σr g = some i → σ1 g = some i) ∧ (∀ g i, i < S1.length → σ1 g = some i → w'.heap[g]? = w.heap[g]?) ∧ (∀ g i, σr g = some i → (∃ k, σ' g = some k) ∨ (¬ ow g ∧ σ1 g = some i)) := by
  let σr : Nat → Option Nat := fun g => match σ' g with
    | some i => some (S1.length + i)
    | none => open Classical in if ow g then none else σ1 g
  have hσr : ∀ g i, σr g = some i → (∃ k, σ' g = some k ∧ i = S1.length + k) ∨ (σ' g = none ∧ ¬ ow g ∧ σ1 g = some i) := fun g i hg => by
    simp only [σr] at hg
    split at hg
    · rename_i k hk
      injection hg with hg
      exact .inl ⟨k, hk, hg.symm⟩
    · rename_i hk
      split at hg
      · cases hg
      · exact .inr ⟨hk, by assumption, hg⟩
  have hσr1 : ∀ g k, σ' g = some k → σr g = some (S1.length + k) := fun g k hk => by simp only [σr, hk]
  have hσr2 : ∀ g i, σ' g = none → ¬ ow g → σ1 g = some i → σr g = some i := fun g i h1 h2 h3 => by simp only [σr, h1, if_neg h2, h3]
  have hkeep : ∀ g, g < w.heap.size → ¬ ow g → w'.heap[g]? = w.heap[g]? := fun g hg hn => hfr.block g hg (fun hx => hn ((hOwn g).1 hx))
  have hold' : ∀ g, g < w.heap.size → ∀ k, σ' g = some k → ow g := fun g hg k hk => by
    rcases (q3 g k hk).1 with hx | hx
    · omega
    · exact (hOwn g).1 hx
  have hst : Stays w w' (Av σ1 Z) (Av σr Z) := ⟨fun g hn hg => hkeep g hg (fun hx => hn (by obtain ⟨i, _, hi⟩ := hpk g hx; exact .inl ⟨i, hi⟩)), fun g hg hx => by
    rcases hx with ⟨i, hx⟩ | hx
    · rcases hσr g i hx with ⟨k, hk, _⟩ | ⟨_, _, hk⟩
      · obtain ⟨i, _, hi⟩ := hpk g (hold' g hg k hk)
        exact .inl ⟨i, hi⟩
      · exact .inl ⟨i, hk⟩
    · exact .inr hx⟩
  have hownlt : ∀ g, ow g → ∀ i, σ1 g = some i → S1.length ≤ i := fun g hg i hi => by
    obtain ⟨j, hj, hj2⟩ := hpk g hg
    rw [hi] at hj2
    injection hj2 with hj2
    omega
  refine ⟨σr, ?_, hσr1, hst, fun g i hi hg => ?_, fun g i hi hg => hkeep g (t1.lt g i hg) (fun hx => by have := hownlt g hx i hg; omega), fun g i hg => by
    rcases hσr g i hg with ⟨k, hk, _⟩ | ⟨_, h1, h2⟩
    · exact .inl ⟨k, hk⟩
    · exact .inr ⟨h1, h2⟩⟩
  rotate_left
  · rcases hσr g i hg with ⟨k, _, hk⟩ | ⟨_, _, hk⟩
    · omega
    · exact hk
  refine ⟨t1.len, t1.defers, t1.fr.trans hfr (fun g hg hl => ?_), fun g i hg => ?_, fun g i hg => ?_, fun g hg => ⟨?_, (t1.old g hg).2⟩, fun i => ?_⟩
  · obtain ⟨i, _, hi⟩ := hpk g ((hOwn g).1 hg)
    rcases t1.new g i hi with hx | hx
    · omega
    · exact hx
  · rcases hσr g i hg with ⟨k, hk, _⟩ | ⟨_, _, hk⟩
    · rcases (q3 g k hk).1 with hx | hx
      · have := t1.fr.size; exact .inl (by omega)
      · obtain ⟨i, _, hi⟩ := hpk g ((hOwn g).1 hx)
        exact t1.new g i hi
    · exact t1.new g i hk
  · rcases hσr g i hg with ⟨k, hk, _⟩ | ⟨_, _, hk⟩
    · exact (q3 g k hk).2
    · have := t1.lt g i hk; have := hfr.size; omega
  · obtain ⟨z1, z2⟩ := t1.old g hg
    have hno : ¬ ow g := fun hx => by obtain ⟨i, _, hi⟩ := hpk g hx; rw [z1] at hi; cases hi
    have : σ' g = none := by
      cases hk : σ' g with
      | none => rfl
      | some k => exact absurd (hold' g (by have := t1.fr.size; omega) k hk) hno
    simp only [σr, this, if_neg hno, z1]
  · by_cases hil : i < S1.length
    · refine (t1.holds i).kept hst (fun g hg hl => ?_) (fun s hs => ?_)
      · have hno : ¬ ow g := fun hx => by have := hownlt g hx i hg; omega
        refine ⟨hkeep g hl hno, hσr2 g i ?_ hno hg⟩
        cases hk : σ' g with
        | none => rfl
        | some k => exact absurd (hold' g hl k hk) hno
      · by_cases hsl : s < S1.length
        · exact ⟨fun _ _ h => h, rfl, _, t1.holds s, fun g hg hl => hkeep g hl (fun hx => by have := hownlt g hx s hg; omega)⟩
        · have hd : S1.at s = .dead := Classical.byContradiction fun hx => hsl (at_lt hx)
          exact ⟨fun _ _ h => h, rfl, fun _ => False, by rw [hd]; trivial, fun _ h => h.elim⟩
    · have hd : S1.at i = .dead := Classical.byContradiction fun hx => hil (at_lt hx)
      rw [hd]
      trivial

/-- Where what is lent comes from. -/
theorem lend_place (h : RelS σ w0 W0 Z H S a w) {T : TypeId} {x : Operand} {av : AV} {b : TV} {s : Nat} {p : Path} {cs : List Value} (ho : S.opv Θ T x = some av) (hl : lplace x av = some (s, p)) (e : S.takeA x av = some (b, S1)) (hk : b.m.isK = false) (hm : matchV b.t (a.eval x) cs) :
    (p = [] ∧ matchV b.t (tmOf a s) cs) ∨ ∃ r ex cs0, p ≠ [] ∧ S1.at s = .v r (ex ++ [p]) ∧ matchV r.t (tmOf a s) cs0 ∧ cellsAt w p r.t cs0 = some cs ∧ valid p r.t r.x ∧ getP p r.t r.m r.x = some b ∧ ∀ q ∈ ex, clash q p = false := by
  have hh := opv_holds h ho
  cases av with
  | v a0 ex =>
    cases x with
    | tmp i =>
      simp only [lplace, Option.some.injEq, Prod.mk.injEq] at hl
      obtain ⟨rfl, rfl⟩ := hl
      exact .inl ⟨rfl, hm⟩
    | const c => simp [lplace] at hl
    | func f => simp [lplace] at hl
    | global g => simp [lplace] at hl
  | al t s' p' =>
    simp only [lplace, Option.some.injEq, Prod.mk.injEq] at hl
    obtain ⟨rfl, rfl⟩ := hl
    obtain ⟨r, cs0, cs1, hr, hc, hm1⟩ := hh
    simp only [St.takeA] at e
    split at e
    case h_2 => cases e
    rename_i b' hb
    cases hk' : b'.m.isK with
    | true =>
      rw [hk'] at e
      simp only [cond_true, Option.some.injEq, Prod.mk.injEq] at e
      obtain ⟨rfl, rfl⟩ := e
      rw [hk] at hk'; cases hk'
    | false =>
      rw [hk'] at e
      simp only [cond_false] at e
      have hpr := place_read h hr hc hb
      obtain ⟨hbt, _⟩ := hpr
      cases hp : p' with
      | nil =>
        subst hp
        simp only [Option.some.injEq, Prod.mk.injEq] at e
        obtain ⟨rfl, rfl⟩ := e
        simp only [cellsAt, Option.some.injEq] at hc
        subst hc
        obtain ⟨b2, g1, g2⟩ := hr.get
        simp only [getP, Option.some.injEq] at g1
        subst g1
        have hrt : r.t = b'.t := by rw [hbt]; exact g2
        refine .inl ⟨rfl, ?_⟩
        rw [hbt] at hm ⊢
        obtain rfl := matchV_inj hm hm1
        have := hr.mat
        rw [hrt, hbt] at this
        exact this
      | cons stp pp =>
        rw [hp] at e
        obtain ⟨ex, b2, cs', ow0, j1, j2, j3, j4, hM, j5, j6, j7⟩ := ref_focus h hr
        rw [j1] at e
        simp only [Option.some.injEq, Prod.mk.injEq] at e
        rw [← hp] at e
        obtain ⟨rfl, rfl⟩ := e
        obtain ⟨r3, ex3, q1, q2, q3⟩ := place_glance hb
        rw [j1] at q1
        injection q1 with q1 q1'
        subst q1 q1'
        rw [j3] at q3
        injection q3 with q3
        subst q3
        rw [hbt] at hm
        obtain rfl := matchV_inj hm hm1
        have hlen : ((S.weaken s').cover s' p').length = S.length := by simp [St.weaken, St.cover]
        have hsl : s' < S.length := at_lt (by rw [j1]; exact fun e => by cases e)
        have hatS : St.at (((S.weaken s').cover s' p').set s' (.v r (ex ++ [p']))) s' = .v r (ex ++ [p']) := by rw [at_set, if_pos ⟨rfl, by rw [hlen]; exact hsl⟩]
        exact .inr ⟨r, ex, cs0, by simp, by rw [← hp]; exact hatS, hr.mat, by rw [← hp]; exact hc, by rw [← hp]; exact hr.val, by rw [← hp]; exact j3, by rw [← hp]; exact q2⟩
  | _ => simp [lplace] at hl

/-- What was lent is put back where it was. -/
theorem refill_hole {b : TV} {s : Nat} {p : Path} {r : TV} {ex : List Path} {cs0 cs : List Value} {ow2 : Nat → Prop} {b0 : TV} {m : Md} {z : r.t.I} (h : RelS σ w0 W0 Z H S a w) (hown : ∀ g, ow2 g → ∃ i, S.length ≤ i ∧ σ g = some i)
    (hat : S.at s = .v r (ex ++ [p])) (hmat : matchV r.t (tmOf a s) cs0) (hc : cellsAt w p r.t cs0 = some cs) (hval : valid p r.t r.x) (hget : getP p r.t r.m r.x = some b0) (hcl : ∀ q ∈ ex, clash q p = false)
    (hset : setP b p r.t r.m r.x = some (m, z)) (hM : M w (Av σ Z) H b.t b.m b.x cs ow2 []) : Rel w0 W0 Z H (S.put (some s) (.v ⟨r.t, m, z⟩ ex)) a w := by
  have hh := h.holds s
  rw [hat] at hh
  obtain ⟨cs0', hm0, hM0⟩ := hh
  obtain rfl := matchV_inj hmat hm0
  have hopen : open_ p (ex ++ [p]) := by
    intro q hq s' r' e
    rcases List.mem_append.1 hq with hq | hq
    · exact open_of_clash hcl q hq s' r' e
    · rw [List.mem_singleton.1 hq] at e
      have := congrArg List.length e
      simp at this
  obtain ⟨cs', ow', c1, c2, c3, hback⟩ := focusW p hM0 hopen hval hget
  rw [hc] at c1
  injection c1 with c1
  subst c1
  have hty : b.t = b0.t := setP_ty p hset hget
  obtain ⟨hloc, hback⟩ := hback b (m, z) hty hset
  have hlen : cs.length = b.t.size := (M_ok _ hM).1
  let σ2 : Nat → Option Nat := fun g' => open Classical in if ow2 g' then some s else σ g'
  have hσ2 : ∀ g' i, σ2 g' = some i → (ow2 g' ∧ i = s) ∨ (¬ ow2 g' ∧ σ g' = some i) := fun g' i hg' => by
    simp only [σ2] at hg'
    split at hg'
    · injection hg' with hg'; exact .inl ⟨by assumption, hg'.symm⟩
    · exact .inr ⟨by assumption, hg'⟩
  have hσ2' : ∀ g' i, ¬ ow2 g' → σ g' = some i → σ2 g' = some i := fun g' i hn hg' => by simp only [σ2, if_neg hn, hg']
  have hsl : s < S.length := at_lt (by rw [hat]; exact fun e => by cases e)
  have hAv2 : ∀ g', Av σ2 Z g' → Av σ Z g' := fun g' hg' => by
    rcases hg' with ⟨i, hg'⟩ | hg'
    · rcases hσ2 g' i hg' with ⟨hx, _⟩ | ⟨_, hx⟩
      · obtain ⟨j, _, hj⟩ := hown g' hx
        exact .inl ⟨j, hj⟩
      · exact .inl ⟨i, hx⟩
    · exact .inr hg'
  have hno : ∀ g i, i < S.length → σ g = some i → ¬ ow2 g := fun g i hi hg hx => by
    obtain ⟨j, hj, hj2⟩ := hown g hx
    rw [hg] at hj2
    injection hj2 with hj2
    omega
  have hst : Stays w w (Av σ Z) (Av σ2 Z) := ⟨fun _ _ _ => rfl, fun g _ hg => hAv2 g hg⟩
  have hl0 : cs0.length = r.t.size := (M_ok _ hM0).1
  have hres := hback w (Av σ2 Z) cs ow2 ex hst (by rw [hlen, hty]) (fun g hg1 hg2 _ => by
      unfold BlkUpd
      split
      · rename_i q hq
        split
        · rename_i hgq
          obtain ⟨_, _, cur, T, hw, hb, hcs⟩ := hloc q.1 q.2 hq
          subst hgq
          refine ⟨cur, T, hw, ?_⟩
          rw [hcs, putCells_same _ _ _ (by simpa using hb)]
          simpa using hw
        · rfl
      · rfl) (M_move hst _ (fun _ _ _ => rfl) (fun g hg _ => hg) (fun _ hx => by cases hx) hM) (fun g hg1 _ hg2 => absurd hg1 (hno g s hsl hg2)) (fun q hq1 hq2 => by
      rcases List.mem_append.1 hq2 with hq2 | hq2
      · exact hq2
      · exact absurd (by rw [List.mem_singleton.1 hq2]; simp) (hq1 []))
  have hupd : updC p r.t cs0 cs = cs0 := by
    cases hp : memless p with
    | false => exact memful_upd p hp
    | true =>
      have h1 := memless_cells (w := w) p hp hget hl0
      rw [hc] at h1
      injection h1 with h1
      rw [memless_upd p hp hget hl0 (by rw [hlen, hty]), h1]
      exact putCells_same _ _ _ (by rw [hl0]; exact memless_fit p hp hget)
  rw [hupd] at hres
  refine ⟨σ2, ?_⟩
  have := h.put (dst := some s) (av := .v ⟨r.t, m, z⟩ ex) (v := tmOf a s) hst h.fr (fun g i hg => ?_) (fun g hg => ?_) (fun i g hi hd hg => ⟨rfl, hσ2' g i (hno g i hi hg) hg⟩) (fun d hd hdl _ => ?_)
  · rw [put_same] at this
    exact this
  · rcases hσ2 g i hg with ⟨hx, _⟩ | ⟨_, hx⟩
    · obtain ⟨j, _, hj⟩ := hown g hx
      exact ⟨h.new g j hj, h.lt g j hj⟩
    · exact ⟨h.new g i hx, h.lt g i hx⟩
  · have h0 := (h.old g hg).1
    simp only [σ2]
    split
    · rename_i hx
      obtain ⟨j, _, hj⟩ := hown g hx
      rw [h0] at hj; cases hj
    · exact h0
  · injection hd with hd
    subst hd
    refine ⟨cs0, hmat, M_move (Stays.refl _ _) _ (fun _ _ _ => rfl) (fun g hg _ => ?_) (fun _ h => h) hres⟩
    rcases hg with ⟨k1, _⟩ | k1
    · exact hσ2' g s (hno g s hsl k1) k1
    · simp only [σ2, if_pos k1]

theorem refill_slot {b : TV} {s : Nat} {cs : List Value} {ow2 : Nat → Prop} (h : RelS σ w0 W0 Z H S a w) (hown : ∀ g, ow2 g → ∃ i, S.length ≤ i ∧ σ g = some i)
    (hmat : matchV b.t (tmOf a s) cs) (hM : M w (Av σ Z) H b.t b.m b.x cs ow2 []) : Rel w0 W0 Z H (S.put (some s) (.v b [])) a w := by
  refine ⟨grant σ (some s) ow2, ?_⟩
  have := h.give (dst := some s) (v := tmOf a s) (ow := ow2) (A' := Av σ Z) (fun _ _ => rfl) h.fr (fun g hg => by
    obtain ⟨i, hi, hi2⟩ := hown g hg
    exact ⟨h.lt g i hi2, .inl ⟨i, hi, hi2⟩⟩) (fun g _ hg => by
    rcases hg with hg | hg
    · exact hg
    · obtain ⟨i, hi, hi2⟩ := hown g hg
      exact .inl ⟨i, hi2⟩) hmat hM
  rw [put_same] at this
  exact this

/-- A call that writes into what it is lent, on the caller's side. -/
theorem lend_ok (hT : tabB P hh.tab = true) (hO : OrcOK Γ P O w0 W0) (h : RelS σ w0 W0 Z H S a w) {o : Oper} {f : FuncId} {j : Nat} {as : List Operand} {ts : List TypeId} {K : St → Option Ret} {ret : Ret}
    (e : peLend hh O o f j as ts S K = some ret) : Does P f (as.map a.eval) w fun v w' => ∃ S', K S' = some ret ∧ Rel w0 W0 Z H S' (a.put o.dst v) w' := by
  unfold peLend at e
  split at e
  case h_2 => cases e
  rename_i x T hx hT'
  split at e
  case h_2 => cases e
  rename_i av hav
  split at e
  case h_2 => cases e
  rename_i s p b S1 hlp htk
  cases hcond : (!b.m.isK && lendable b.t b.m) with
  | false => rw [hcond] at e; cases e
  | true =>
  rw [hcond] at e
  simp only [cond_true] at e
  simp only [Bool.and_eq_true, Bool.not_eq_true'] at hcond
  obtain ⟨hk, hlb⟩ := hcond
  split at e
  case h_2 => cases e
  rename_i args hargs
  obtain ⟨fine, hfine⟩ : ∃ fine, fine = fines S1 as ((List.replicate as.length none).set j (some ⟨b.t, tagM b.t b.m 0, b.x⟩)) args := ⟨_, rfl⟩
  cases hls : (lendS b.t b.m || fines S1 as ((List.replicate as.length none).set j (some ⟨b.t, tagM b.t b.m 0, b.x⟩)) args) with
  | false => rw [hls] at e; cases e
  | true =>
  rw [hls] at e
  simp only [cond_true] at e
  rw [← hfine, Bool.or_eq_true] at hls
  obtain ⟨σ1, cs, ow, t1, hm, hM, t3, t2⟩ := takeA_spec h hav htk
  have hplace := lend_place h hav hlp htk hk hm
  have hjl : j < as.length := (List.getElem?_eq_some_iff.1 hx).1
  obtain ⟨r1, r2⟩ := reads_spec t1 as ts _ (by simp) hargs
  let H' : Nat → Value := fun n => cs.getD n undef
  have hH' : ∀ (j : Nat) (u : Value), cs[j]? = some u → H' (0 + j) = u := fun j u hj => by
    simp only [H', Nat.zero_add, List.getD_eq_getElem?_getD, hj, Option.getD_some]
  have hMt := M_tag (H' := H') (n := 0) b.t hlb hM hH'
  let σc : Nat → Option Nat := fun g => open Classical in if ow g then some j else none
  have hσc : ∀ g i, σc g = some i ↔ ow g ∧ j = i := fun g i => by
    simp only [σc]
    split
    · rename_i hx; exact ⟨fun hg => ⟨hx, by injection hg⟩, fun hg => by rw [hg.2]⟩
    · rename_i hx; exact ⟨fun hg => (by cases hg), fun hg => absurd hg.1 hx⟩
  have hOwn : ∀ g, Own σc g ↔ ow g := fun g => ⟨fun ⟨i, hi⟩ => ((hσc g i).1 hi).1, fun hg => ⟨j, (hσc g _).2 ⟨hg, rfl⟩⟩⟩
  have hpk : ∀ g, ow g → Pk σ1 S1.length g := fun g hg => by rw [t2]; exact t3.now g hg
  let B : Nat → Prop := fun g => fine = true ∧ Av σ Z g ∧ ¬ ow g
  have hstT : Stays w w (Av σ Z) (Av σc B) := ⟨fun _ _ _ => rfl, fun g _ hg => by
    rcases hg with hg | hg
    · obtain ⟨i, _, hi⟩ := t3.was g ((hOwn g).1 hg)
      exact .inl ⟨i, hi⟩
    · exact hg.2.1⟩
  have hstF : Stays w w (Av σ1 Z) (Av σc B) := ⟨fun _ _ _ => rfl, fun g hl hg => t3.Av.2 (hstT.wr g hl hg)⟩
  have hstP : fine = false → Stays w w (Pk σ1 S1.length) (Av σc B) := fun hn => ⟨fun _ _ _ => rfl, fun g _ hg => by
    rcases hg with hg | hg
    · exact hpk g ((hOwn g).1 hg)
    · have h1 := hg.1; rw [hn] at h1; cases h1⟩
  have r3 := fun hf : fine = true => reads_fine t1 as ts _ (by simp) hargs (hfine.symm.trans hf)
  have hin : In Γ B H' w σc args (as.map a.eval) := by
    refine ⟨by simp [r1], fun g i hg => ?_, fun g hg => ⟨?_, ?_⟩, fun g o hg => ⟨?_, ?_⟩, fun k r hk' => ?_⟩
    · obtain ⟨q1, q2⟩ := (hσc g i).1 hg
      obtain ⟨k, _, hk⟩ := t3.was g q1
      exact ⟨by omega, h.lt g k hk⟩
    · cases hc : σc g with
      | none => rfl
      | some i => exact absurd ((hσc g i).1 hc).1 hg.2.2
    · rcases hg.2.1 with ⟨i, hi⟩ | hz
      · exact h.lt g i hi
      · have := (h.old g hz).2; have := h.fr.size; omega
    · cases hc : σc g with
      | none => rfl
      | some i =>
        obtain ⟨k, _, hk⟩ := t3.was g ((hσc g i).1 hc).1
        obtain ⟨e1, e2⟩ := hO.env g o hg
        rcases h.new g k hk with hx | hx
        · have := lt_of_some e2; omega
        · exact absurd hx e1
    · obtain ⟨e1, e2⟩ := hO.env g o hg
      rw [h.fr.block g (lt_of_some e2) e1, e2]
    · rw [List.getElem?_map]
      rcases r2 k r hk' with ⟨b', hb', rfl⟩ | ⟨x', hx', hok⟩
      · rw [List.getElem?_set] at hb'
        split at hb'
        · rename_i hjk
          subst hjk
          simp only [List.length_replicate, if_pos hjl, Option.some.injEq] at hb'
          subst hb'
          rw [hx]
          exact ⟨_, rfl, cs, hm, M_move hstT _ (fun _ _ _ => rfl) (fun g hg _ => (hσc g j).2 ⟨hg, rfl⟩) (fun _ h => h) hMt⟩
        · rw [List.getElem?_replicate] at hb'
          split at hb' <;> simp at hb'
      · have fin : ∀ {A0 : Nat → Prop}, Stays w w A0 (Av σc B) → ArgOK w A0 H' r (a.eval x') (fun _ => False) → ArgOK w (Av σc B) H' r (a.eval x') (fun g => σc g = some k) := fun hst hok => by
          cases r with
          | tv b =>
            obtain ⟨c, c1, c2⟩ := hok
            exact ⟨c, c1, M_move hst _ (fun _ _ _ => rfl) (fun _ hg _ => hg.elim) (fun _ h => h) c2⟩
          | fn f' caps =>
            obtain ⟨vs, c1, c2, c3⟩ := hok
            exact ⟨vs, c1, c2, fun k c hk => by obtain ⟨u, u1, u2⟩ := c3 k c hk; exact ⟨u, u1, K_stays hst _ u2⟩⟩
        cases hfn : fine with
        | false =>
          rw [hx']
          exact ⟨_, rfl, fin (hstP hfn) (hok H')⟩
        | true =>
          rcases r3 hfn k r hk' with ⟨b', hb', rfl⟩ | ⟨x2, hx2, hok'⟩
          · rw [List.getElem?_set] at hb'
            split at hb'
            · rename_i hjk
              subst hjk
              simp only [List.length_replicate, if_pos hjl, Option.some.injEq] at hb'
              subst hb'
              rw [hx]
              exact ⟨_, rfl, cs, hm, M_move hstT _ (fun _ _ _ => rfl) (fun g hg _ => (hσc g j).2 ⟨hg, rfl⟩) (fun _ h => h) hMt⟩
            · rw [List.getElem?_replicate] at hb'
              split at hb' <;> simp at hb'
          · rw [hx'] at hx2
            injection hx2 with hx2
            subst hx2
            rw [hx']
            exact ⟨_, rfl, fin hstF (hok' H')⟩
  refine ((hO.sd f).1 _ _ ret w σc _ H' B e hin).mono fun v w' hv => ?_
  obtain ⟨rt, hrt, hout⟩ := hv
  split at hrt
  case h_2 => cases hrt
  rename_i c hrefs
  cases hall : rt.res.all (fun d => d.m.isK && memfree d.t) with
  | false => rw [hall] at hrt; cases hrt
  | true =>
  rw [hall] at hrt
  simp only [cond_true] at hrt
  split at hrt
  case isFalse => cases hrt
  rename_i hct
  split at hrt
  case isFalse => cases hrt
  rename_i hcm
  split at hrt
  case h_2 => cases hrt
  rename_i S2 hS2
  obtain ⟨σ', vs, q1, q2, q3, q4, q5⟩ := hout.res
  obtain ⟨cs', hMc⟩ := q5 c hrefs
  obtain ⟨σr, hR, hσr1, hst, hσr2, hsame, hσr3⟩ := after_call t1 hpk hOwn hout.fr q3
  -- what comes back
  obtain ⟨ct, cm, cx⟩ := c
  simp only at hct hcm hMc hS2
  subst hct
  subst hcm
  have hst2 : Stays w w' (Av σ Z) (Av σr Z) := ⟨fun g hn hl => hst.same g (fun hx => hn (t3.Av.1 hx)) hl, fun g hl hg => t3.Av.1 (hst.wr g hl hg)⟩
  have hkey : lendS b.t b.m = true ∨ Stays w' w' (Av σ' B) (Av σr Z) := hls.imp id fun hfn => ⟨fun _ _ _ => rfl, fun g _ hg => by
    rcases hg with ⟨i, hi⟩ | hz
    · rcases hσr3 g i hi with ⟨k, hk⟩ | ⟨hno, hk⟩
      · exact .inl ⟨k, hk⟩
      · exact .inr ⟨hfn, t3.Av.1 (.inl ⟨i, hk⟩), hno⟩
    · refine .inr ⟨hfn, .inr hz, fun hx => ?_⟩
      obtain ⟨i, _, hi⟩ := hpk g hx
      rw [(t1.old g hz).1] at hi
      cases hi⟩
  have hMb := M_untag (B := Av σ' B) (A' := Av σr Z) hst2 b.t hlb hkey hM hH' hMc
  have hown : ∀ g, σ' g = some rt.res.length → ∃ i, S1.length ≤ i ∧ σr g = some i := fun g hg => ⟨_, by omega, hσr1 g _ hg⟩
  have hR2 : Rel w0 W0 Z H S2 a w' := by
    rcases hplace with ⟨rfl, hmt⟩ | ⟨r, ex, cs0, hp, hat, hmt, hcl, hval, hget, hclash⟩
    · simp only [St.refill, Option.some.injEq] at hS2
      subst hS2
      exact refill_slot (b := ⟨b.t, b.m, _⟩) hR hown hmt hMb
    · cases p with
      | nil => exact absurd rfl hp
      | cons stp pp =>
      simp only [St.refill, hat] at hS2
      split at hS2
      case h_2 => cases hS2
      rename_i m z hset
      simp only [Option.some.injEq, List.dropLast_concat] at hS2
      subst hS2
      have hh0 := t1.holds s
      rw [hat] at hh0
      obtain ⟨cs0', hm0, hM0⟩ := hh0
      obtain rfl := matchV_inj hmt hm0
      have hopen : open_ (stp :: pp) (ex ++ [stp :: pp]) := by
        intro q hq s' r' e
        rcases List.mem_append.1 hq with hq | hq
        · exact open_of_clash hclash q hq s' r' e
        · rw [List.mem_singleton.1 hq] at e
          have := congrArg List.length e
          simp at this
      have hsl : s < S1.length := at_lt (by rw [hat]; exact fun e => by cases e)
      have hcl' := (cells_same hst (stp :: pp) none hM0 (fun g hg _ => hsame g s hsl hg) hopen hval).1
      exact refill_hole (b := ⟨b.t, b.m, _⟩) hR hown hat hmt (hcl'.trans hcl) hval hget hclash hset hMb
  refine ⟨_, hrt, ?_⟩
  obtain ⟨σ3, hR3⟩ := hR2
  -- the results: nothing that one owns
  have hres : ∀ (i : Nat) (d : TV), rt.res[i]? = some d → ∃ u cs, vs[i]? = some u ∧ matchV d.t u cs ∧ ∀ (A : Nat → Prop) (ow : Nat → Prop), M w' A H d.t d.m d.x cs ow [] := fun i d hd => by
    obtain ⟨u, c, u1, u2, u3⟩ := q4 i d hd
    have hkd := List.all_eq_true.1 hall d (List.mem_of_getElem? hd)
    simp only [Bool.and_eq_true] at hkd
    exact ⟨u, c, u1, u2, fun A ow => K_M hkd.1 (K_free _ hkd.2 (M_isK _ hkd.1 u3))⟩
  have fin : ∀ (av : AV), Holds w' (Av σ3 Z) H (tmOf a) S2 (fun _ => False) av v → Rel w0 W0 Z H (S2.put o.dst av) (a.put o.dst v) w' := fun av hav => ⟨_, hR3.pure hav⟩
  subst q1
  have htup : ∀ l : List TV, l = rt.res → Holds w' (Av σ3 Z) H (tmOf a) S2 (fun _ => False) (.tup (l.map some)) (.tuple vs.toArray) := fun l hl => by
    subst hl
    refine ⟨vs, fun g => 0, rfl, by simp [q2], fun j b hj => ?_⟩
    rw [List.getElem?_map] at hj
    cases hb : rt.res[j]? with
    | none => rw [hb] at hj; cases hj
    | some b' =>
      rw [hb] at hj
      simp only [Option.map_some, Option.some.injEq] at hj
      subst hj
      obtain ⟨u, c, u1, u2, u3⟩ := hres j b' hb
      exact ⟨u, c, u1, u2, u3 _ _⟩
  match hres' : rt.res, q2 with
  | [b], q2 =>
    match vs, q2 with
    | [u], _ =>
      obtain ⟨u', c, u1, u2, u3⟩ := hres 0 b (by rw [hres']; rfl)
      simp only [List.getElem?_cons_zero, Option.some.injEq] at u1
      subst u1
      exact fin _ ⟨c, u2, u3 _ _⟩
  | [], q2 =>
    match vs, q2 with
    | [], _ => exact fin _ (htup [] hres'.symm)
  | b :: b' :: r, q2 =>
    match vs, q2 with
    | u :: u' :: vr, _ => exact fin _ (htup (b :: b' :: r) hres'.symm)
end Go.Pv

namespace Go.Pv
set_option linter.unusedVariables false
set_option linter.unusedSimpArgs false
variable {Γ : Gl} {P : Program} {w w' : World} {A A' Wr : Nat → Prop} {H : Nat → Value} {tm tm' : Nat → Value} {S S' S1 : St} {σ σ1 σ2 : Nat → Option Nat} {w0 : World} {W0 Z : Nat → Prop} {a : Act} {own : Nat → Prop} {v : Value} {Θ : Tab} {dst : Option Nat} {O : Orc} {hh : Hint} {Q : Exit → Act → World → Prop} {K : St → Option Ret} {ret : Ret}

/-- What holds behind an operation. -/
def Then (w0 : World) (W0 Z : Nat → Prop) (H : Nat → Value) (K : St → Option Ret) (ret : Ret) (a : Act) (w : World) : Prop := ∃ S, K S = some ret ∧ Rel w0 W0 Z H S a w

theorem op_call {o : Oper} {c : Call} {f : FuncId} {capv : List Value} (ho : o.op = .call c) (hc : ∃ x, c.callee = .value x ∧ a.eval x = .func (.func f) #[] capv.toArray) {R : Value → World → Prop} (hd : Does P f (c.args.toList.map a.eval ++ capv) w R)
    {N : Act → World → Prop} (hN : ∀ v w', R v w' → N (a.put o.dst v) w') : o.wp P a w N Q := by
  obtain ⟨x, hx, hv⟩ := hc
  have hrun : (execOp a.eval o).run P w = (callFunc f (c.args.toList.map a.eval ++ capv).toArray).run P w := by
    simp only [execOp, ho, resolve, hx, Deferred.ofValue, hv, Sem.run_bind, Sem.run_pure, Result.andThen_ok, invoke]
    congr 2
    apply Array.toList_inj.1
    simp
  unfold Oper.wp
  rw [hrun]
  rcases hd with ⟨h1, h2⟩ | ⟨v, w', h1, h2⟩
  · rw [h1, Oper.upon_enter]
    refine h2.mono fun e w' he => ?_
    cases e with
    | returned v => exact hN _ _ he
    | panicked c => exact he.elim
    | outgrown => exact he.elim
  · rw [h1, Oper.upon_value]
    exact hN _ _ h2

theorem adds_call {f : FuncId} {c : Call} (hc : c.callee = .value (.func f)) (h : adds O (.call c) = true) : ∀ p ∈ O.sig f, p = .val := by
  obtain ⟨callee, args, ats⟩ := c
  simp only at hc
  subst hc
  simp only [adds, List.all_eq_true] at h
  intro p hp
  have := h p hp
  cases p <;> first | rfl | cases this

theorem quiet_adds {op : Op} (h : quiet op = true) : addsE op = true := by
  unfold addsE
  split <;> first | rfl | exact h

theorem lendAt_not : ∀ (l : List Pass) (n : Nat) {j : Nat}, lendAt l n = some j → ¬ ∀ p ∈ l, p = .val
  | [], n, j, h, _ => by cases h
  | .lend :: r, n, j, h, hv => by have := hv .lend (by simp); cases this
  | .val :: r, n, j, h, hv => lendAt_not r (n + 1) (by simpa [lendAt] using h) (fun p hp => hv p (by simp [hp]))
  | .take :: r, n, j, h, hv => by have := hv .take (by simp); cases this

theorem nil_ok (hT : tabB P hh.tab = true) (h : RelS σ w0 W0 Z H S a w) {T : TypeId} {x : Operand} {eq : Bool} {dst : Option Nat} (e : peNil hh dst T eq x S K = some ret) :
    (∃ A n c, a.eval x = .slice A n c) ∧ ∃ q, (binOp (bif eq then .eql else .neq) T (a.eval x) (.slice none 0 0)).run P w = .ok (.bool q) w ∧ ∃ S', K S' = some ret ∧ Rel w0 W0 Z H S' (a.put dst (.bool q)) w := by
  unfold peNil at e
  split at e
  case h_2 => cases e
  rename_i t m xs hx
  cases hTi : hh.tab.is T (.sl t) with
  | false => rw [hTi] at e; cases e
  | true =>
  rw [hTi] at e
  simp only [cond_true] at e
  obtain ⟨cs, h1, h2, _⟩ := rd_spec h hx
  simp only [Go.Pv.K] at h2
  obtain ⟨A, c, rfl, hc, hpos⟩ := h2
  have hv : a.eval x = .slice A (List.length xs) c := by simpa [matchV, isAgg] using h1.symm
  obtain ⟨i, hi, hty⟩ := is_find hTi
  obtain ⟨_, hu, hTT⟩ := tab_ti hT hi
  obtain ⟨u1, _, _⟩ := und_sl hu hty
  rw [hTT] at u1
  have hin : ∀ d, (Op.equalIn (d + 1) T (.slice A (List.length xs) c) (.slice none 0 0)).run P w = .ok A.isNone w := fun d => by
    simp only [Op.equalIn, Sem.run_bind, run_underlying u1, Result.andThen_ok]
    cases A <;> simp
  have hrun : (Op.equal T (a.eval x) (.slice none 0 0)).run P w = .ok A.isNone w := by
    rw [hv]
    exact hin 9999
  have hq : (binOp (bif eq then .eql else .neq) T (a.eval x) (.slice none 0 0)).run P w = .ok (.bool (bif eq then A.isNone else !A.isNone)) w := by
    cases eq <;> simp [binOp, hrun]
  refine ⟨⟨A, _, c, hv⟩, _, hq, ?_⟩
  have put : ∀ q : Bool, Rel w0 W0 Z H (S.put dst (.v ⟨.bool, .k, q⟩ [])) (a.put dst (.bool q)) w := fun q => ⟨_, h.pure (holds_bool q)⟩
  cases hemp : List.isEmpty xs with
  | true =>
    rw [hemp] at e
    simp only [cond_true] at e
    obtain ⟨e1, e2⟩ := both_some e
    cases hb : (bif eq then A.isNone else !A.isNone) with
    | true => exact ⟨_, e1, put true⟩
    | false => exact ⟨_, e2, put false⟩
  | false =>
    rw [hemp] at e
    simp only [cond_false] at e
    have hp : 0 < List.length xs := by
      cases xs with
      | nil => simp at hemp
      | cons _ _ => simp
    obtain ⟨g, off, cur, T', fr, rfl, _⟩ := hpos hp
    cases eq with
    | true => exact ⟨_, e, put false⟩
    | false => exact ⟨_, e, put true⟩

theorem op_ok (hT : tabB P hh.tab = true) (hO : OrcOK Γ P O w0 W0) (h : RelS σ w0 W0 Z H S a w) {o : Oper} (e : peOp hh O o S K = some ret) :
    o.wp P a w (fun a' w' => Then w0 W0 Z H K ret a' w' ∧ (adds O o.op = true → Ext w w')) Q := by
  unfold peOp at e
  split at e
  · rename_i f as ts ho
    split at e
    · rename_i j hj
      have hd := lend_ok hT hO h e
      rw [← List.append_nil (as.toList.map a.eval)] at hd
      refine op_call ho (capv := []) ⟨_, rfl, by simp [Act.eval]⟩ hd ?_
      intro v w' ⟨S', h1, h2⟩
      exact ⟨⟨S', h1, h2⟩, fun hx => absurd (adds_call rfl (by rw [ho] at hx; exact hx)) (lendAt_not _ _ hj)⟩
    refine op_call ho (capv := []) ⟨_, rfl, by simp [Act.eval]⟩ (call_ok hT hO h (.inl ⟨rfl, rfl⟩) e) ?_
    intro v w' ⟨S', h1, h2, h3⟩
    exact ⟨⟨S', h1, h2⟩, fun hx => h3 (adds_call rfl (by rw [ho] at hx; exact hx))⟩
  · rename_i i as ts ho
    split at e
    case h_2 => cases e
    rename_i f caps hat
    have hold := h.holds i
    rw [hat] at hold
    obtain ⟨vs, v1, v2, v3⟩ := hold
    refine op_call ho (capv := vs) ⟨_, rfl, v1⟩ (call_ok hT hO h (.inr ⟨i, rfl, v1⟩) e) ?_
    intro v w' ⟨S', h1, h2, h3⟩
    refine ⟨⟨S', h1, h2⟩, fun hx => ?_⟩
    rw [ho] at hx
    cases hx
  · rename_i T x T' ho
    obtain ⟨⟨A, n, c, hv⟩, q, hq, S', hS, hR⟩ := nil_ok hT h (eq := true) e
    unfold Oper.wp
    have hr : (execOp a.eval o).run P w = .ok (.value (.bool q)) w := by
      have hq' : (binOp .eql T (a.eval x) (a.eval (.const (.slice none 0 0)))).run P w = .ok (.bool q) w := hq
      have hg : (eqGuard .eql T x (.const (.slice none 0 0)) (a.eval x) (a.eval (.const (.slice none 0 0)))).run P w = .ok () w := by
        rw [hv]
        simp [eqGuard, Act.eval]
      simp only [execOp, ho, Sem.run_bind]
      rw [hg]
      simp only [Result.andThen_ok]
      rw [hq']
      rfl
    rw [hr, Oper.upon_value]
    exact ⟨⟨S', hS, hR⟩, fun _ => Ext.refl w⟩
  · rename_i T x T' ho
    obtain ⟨⟨A, n, c, hv⟩, q, hq, S', hS, hR⟩ := nil_ok hT h (eq := false) e
    unfold Oper.wp
    have hr : (execOp a.eval o).run P w = .ok (.value (.bool q)) w := by
      have hq' : (binOp .neq T (a.eval x) (a.eval (.const (.slice none 0 0)))).run P w = .ok (.bool q) w := hq
      have hg : (eqGuard .neq T x (.const (.slice none 0 0)) (a.eval x) (a.eval (.const (.slice none 0 0)))).run P w = .ok () w := by
        rw [hv]
        simp [eqGuard, Act.eval]
      simp only [execOp, ho, Sem.run_bind]
      rw [hg]
      simp only [Result.andThen_ok]
      rw [hq']
      rfl
    rw [hr, Oper.upon_value]
    exact ⟨⟨S', hS, hR⟩, fun _ => Ext.refl w⟩
  · rename_i n1 n2 n3 n4
    split at e
    case h_2 => cases e
    rename_i g S1 hev
    cases g with
    | false => cases e
    | true =>
    simp only [cond_true] at e
    by_cases hadd : addsE o.op = true
    · obtain ⟨w', v, r1, r2, r3⟩ := evx_ok hT h hadd hev
      unfold Oper.wp
      rw [r1, Oper.upon_value]
      exact ⟨⟨S1, e, r3⟩, fun _ => r2⟩
    · obtain ⟨w', v, r1, r3⟩ := ev_ok hT h hev
      have hna : ¬ adds O o.op = true := fun hx => by
        apply hadd
        revert hx n1
        generalize o.op = op
        intro n1 hx
        unfold adds at hx
        split at hx <;> first | rfl | (exact absurd rfl (n1 _ _ _)) | exact quiet_adds hx
      unfold Oper.wp
      rcases r1 with r1 | ⟨rfl, r1⟩
      · rw [r1, Oper.upon_value]
        exact ⟨⟨S1, e, r3⟩, fun hx => absurd hx hna⟩
      · rw [r1, Oper.upon_skip]
        exact ⟨⟨S1, e, r3⟩, fun hx => absurd hx hna⟩
end Go.Pv

namespace Go.Pv
set_option linter.unusedVariables false
set_option linter.unusedSimpArgs false
variable {Γ : Gl} {P : Program} {w w' : World} {A A' Wr : Nat → Prop} {H : Nat → Value} {tm tm' : Nat → Value} {S S' S1 : St} {σ σ1 σ2 : Nat → Option Nat} {w0 : World} {W0 Z : Nat → Prop} {a : Act} {own : Nat → Prop} {v : Value} {Θ : Tab} {dst : Option Nat} {O : Orc} {hh : Hint} {Q : Exit → Act → World → Prop} {K : St → Option Ret} {ret : Ret} {ops : Array Oper}

theorem tm_get {i : Nat} (h : RelS σ w0 W0 Z H S a w) (hi : i < S.length) : a.tmps[i]? = some (tmOf a i) := by
  have hl : i < a.tmps.size := by rw [← h.len]; exact hi
  unfold tmOf
  rw [Array.getD_eq_getD_getElem?, Array.getElem?_eq_getElem hl]
  rfl

theorem yield_bool (h : RelS σ w0 W0 Z H S a w) {j d : Nat} {m : Md} {q : Bool} {ex : List Path} (hd : (ops[j]?).bind (·.dst) = some d) (hat : S.at d = .v ⟨.bool, m, q⟩ ex) : yielded ops a.tmps j = some q ∧ tmOf a d = .bool q := by
  have hl := at_lt (S := S) (i := d) (by rw [hat]; exact fun e => by cases e)
  have hh := h.holds d
  rw [hat] at hh
  obtain ⟨cs, h1, h2⟩ := hh
  simp only [M] at h2
  have hv := match_bool h1 h2.2
  refine ⟨?_, hv⟩
  unfold yielded
  rw [hd, Option.bind_some, tm_get h hl, hv]
theorem yield_undef (h : RelS σ w0 W0 Z H S a w) {j d : Nat} (hd : (ops[j]?).bind (·.dst) = some d) (hat : S.at d = .undef) : yielded ops a.tmps j = none := by
  have hl := at_lt (S := S) (i := d) (by rw [hat]; exact fun e => by cases e)
  have hh := h.holds d
  rw [hat] at hh
  have hv : tmOf a d = undef := hh
  unfold yielded
  rw [hd, Option.bind_some, tm_get h hl, hv]
  rfl
theorem RelS.know (h : RelS σ w0 W0 Z H S a w) {d : Nat} {q : Bool} (hv : tmOf a d = .bool q) : ∃ σ', RelS σ' w0 W0 Z H (S.put (some d) (.v ⟨.bool, .k, q⟩ [])) a w := by
  have := h.pure (dst := some d) (av := .v ⟨.bool, .k, q⟩ []) (v := tmOf a d) (by rw [hv]; exact holds_bool q)
  rw [put_same] at this
  exact ⟨_, this⟩
theorem Rel.undef (h : RelS σ w0 W0 Z H S a w) (dst : Option Nat) : Rel w0 W0 Z H (S.put dst .undef) (a.put dst Go.undef) w := ⟨_, h.pure (av := .undef) (v := Go.undef) rfl⟩

/-- One operation, with its guard: it is done, or it is left out. -/
theorem set_self {S : St} {d : Nat} {a : AV} (h : S.at d = a) (hd : a ≠ .dead) : S.set d a = S := by
  unfold St.at at h
  rw [List.getD_eq_getElem?_getD] at h
  by_cases hl : d < S.length
  · rw [List.getElem?_eq_getElem hl] at h
    simp only [Option.getD_some] at h
    subst h
    simp
  · rw [List.getElem?_eq_none (by omega)] at h
    exact absurd h.symm hd
theorem step_cases (h : RelS σ w0 W0 Z H S a w) {i : Nat} {o : Oper} (ho : ops[i]? = some o) (e : peStep hh O ops i S K = some ret) :
    (Region.wanted o (yielded ops a.tmps) = true ∧ ∃ σ' S', RelS σ' w0 W0 Z H S' a w ∧ peOp hh O o S' K = some ret) ∨
    (Region.wanted o (yielded ops a.tmps) = false ∧ Then w0 W0 Z H K ret (a.put o.dst undef) w) := by
  unfold peStep at e
  rw [ho] at e
  simp only at e
  split at e
  · rename_i hg
    exact .inl ⟨by simp [Region.wanted, hg], σ, S, h, e⟩
  · rename_i j want hg
    split at e
    case h_2 => cases e
    rename_i d hd
    split at e
    · rename_i m q ex hat
      obtain ⟨hy, hv⟩ := yield_bool h hd hat
      have hw : Region.wanted o (yielded ops a.tmps) = (q == want) := by
        unfold Region.wanted
        rw [hg]
        simp only [hy]
        cases q <;> cases want <;> rfl
      have hself := set_self hat (fun e => by cases e)
      cases q with
      | true =>
        simp only [cond_true, hself] at e
        cases want with
        | true => exact .inl ⟨hw, σ, _, h, e⟩
        | false => exact .inr ⟨hw, _, e, Rel.undef h o.dst⟩
      | false =>
        simp only [cond_false, hself] at e
        cases want with
        | true => exact .inr ⟨hw, _, e, Rel.undef h o.dst⟩
        | false => exact .inl ⟨hw, σ, _, h, e⟩
    · rename_i hat
      have hy := yield_undef h hd hat
      refine .inr ⟨?_, _, e, Rel.undef h o.dst⟩
      unfold Region.wanted
      rw [hg]
      simp only [hy]
      rfl
    · cases e

theorem step_ok (hT : tabB P hh.tab = true) (hO : OrcOK Γ P O w0 W0) (h : RelS σ w0 W0 Z H S a w) {i : Nat} (e : peStep hh O ops i S K = some ret) :
    wpOp P ops Q i (fun a' w' => Then w0 W0 Z H K ret a' w' ∧ (∀ o, ops[i]? = some o → adds O o.op = true → Ext w w')) a w := by
  unfold wpOp
  cases ho : ops[i]? with
  | none => unfold peStep at e; rw [ho] at e; cases e
  | some o =>
    simp only
    rcases step_cases h ho e with ⟨hw, σ', S', h', e'⟩ | ⟨hw, hthen⟩
    · rw [if_pos hw]
      refine .inl (Oper.wp_mono (fun a' w' h => ⟨h.1, fun o' ho' => ?_⟩) (op_ok hT hO h' e'))
      injection ho' with ho'
      subst ho'
      exact h.2
    · rw [if_neg (by rw [hw]; exact Bool.false_ne_true)]
      exact ⟨hthen, fun _ _ _ => Ext.refl w⟩

theorem idx_ok (hT : tabB P hh.tab = true) (hO : OrcOK Γ P O w0 W0) (hQ : ∀ a w, Then w0 W0 Z H K ret a w → Q .normal a w) : ∀ (l : List Nat) {S : St} {a : Act} {w : World}, peIdx hh O ops l S K = some ret → Rel w0 W0 Z H S a w → wpOps P ops Q l a w
  | [], S, a, w, e, h => hQ a w ⟨S, e, h⟩
  | i :: l, S, a, w, e, ⟨σ, h⟩ => by
    rw [wpOps_cons]
    simp only [peIdx] at e
    refine wpOp_mono (fun a' w' h' => ?_) (step_ok hT hO h e)
    obtain ⟨⟨S', h1, h2⟩, _⟩ := h'
    exact idx_ok hT hO hQ l h1 h2

/-! ### orders -/
theorem Ext.trans {w1 w2 w3 : World} (h : Ext w1 w2) (h' : Ext w2 w3) : Ext w1 w3 := fun g hg => by
  have h1 := h g hg
  have : g < w2.heap.size := by
    rw [Array.getElem?_eq_getElem hg] at h1
    exact lt_of_some h1
  rw [h' g this, h1]

def wpE (P : Program) (ops : Array Oper) (Q : Exit → Act → World → Prop) (ad : Nat → Bool) : Nat → Array Bool → Act → World → Prop
  | 0, listed, a, w => Region.ready .any ops listed = [] ∧ Q .normal a w
  | n + 1, listed, a, w => (Region.ready .any ops listed = [] → Q .normal a w) ∧
    ∀ i ∈ Region.ready .any ops listed, wpOp P ops Q i (fun a' w' => (ad i = true → Ext w w') ∧ wpE P ops Q ad n (listed.setIfInBounds i true) a' w') a w
theorem wpE_any {ad : Nat → Bool} : ∀ (n : Nat) {listed : Array Bool} {a : Act} {w : World}, wpE P ops Q ad n listed a w → wpAny P .any ops Q n listed a w
  | 0, _, _, _, h => h
  | n + 1, _, _, _, h => ⟨h.1, fun i hi => wpOp_mono (fun _ _ h' => wpE_any n h'.2) (h.2 i hi)⟩

theorem wpE_first {ad : Nat → Bool} {i : Nat} {oi : Oper} {v : Value} (hi : ops[i]? = some oi) (hsel : ∀ (j : Nat) (o : Oper) cs b, ops[j]? = some o → o.op ≠ .select cs b)
    (hQ : ∀ c a w, Q (.panic c) (a.put oi.dst v) w → Q (.panic c) a w) {D : Nat → Bool} (hDi : D i = true)
    (hD : ∀ j oj, ops[j]? = some oj → D j = true → j ≠ i → ∃ e ∈ oj.after, Region.binds .any e = true ∧ D e.on = true) :
    ∀ (fuel : Nat) (listed : Array Bool) (a : Act) (w : World), (∀ j, D j = true → listed.getD j true = false) →
      (∀ j oj, ops[j]? = some oj → D j = false → listed.getD j true = false → oi.apart ops oj = true ∧ ad j = true) →
      i ∈ Region.ready .any ops listed → YieldsIf P ops (Ext w) oi v a → wpE P ops Q ad fuel (listed.setIfInBounds i true) (a.put oi.dst v) w → wpE P ops Q ad (fuel + 1) listed a w := by
  intro fuel
  induction fuel with
  | zero =>
    intro listed a w _ _ hr hy HH
    refine ⟨fun h => (by rw [h] at hr; cases hr), fun j hj => ?_⟩
    by_cases hji : j = i
    · subst hji; exact hy.wpOp hi (Ext.refl w) ⟨fun _ => Ext.refl w, HH⟩
    · have := ready_mono hj hji
      rw [HH.1] at this
      cases this
  | succ fuel ih =>
    intro listed a w hun hfree hr hy HH
    refine ⟨fun h => (by rw [h] at hr; cases hr), fun j hj => ?_⟩
    by_cases hji : j = i
    · subst hji; exact hy.wpOp hi (Ext.refl w) ⟨fun _ => Ext.refl w, HH⟩
    · have h1 := HH.2 j (ready_mono hj hji)
      obtain ⟨hjun, oj, hoj, hall⟩ := mem_ready.1 hj
      have hDj : D j = false := by
        cases hd : D j with
        | false => rfl
        | true =>
          obtain ⟨e, he, hb, hde⟩ := hD j oj hoj hd hji
          have h2 := hall e he hb
          have h3 := hun e.on hde
          rcases Nat.lt_or_ge e.on listed.size with hl | hl
          · simp [hl] at h2 h3; rw [h3] at h2; cases h2
          · simp [Array.getElem?_eq_none hl] at h2
      obtain ⟨hap, had⟩ := hfree j oj hoj hDj hjun
      have h2 := wpOp_putIf hoj hap (fun cs b => hsel i oi cs b hi) (fun cs b => hsel j oj cs b hoj) hQ hy h1
      refine wpOp_mono (fun a' w' h3 => ⟨fun _ => h3.2.1 had, ?_⟩) h2
      have hext := h3.2.1 had
      refine ih (listed.setIfInBounds j true) a' w' (fun k hk => ?_) (fun k ok hk hdk hun' => hfree k ok hk hdk ?_) (ready_mono hr (Ne.symm hji)) ?_ ?_
      · have hjk : j ≠ k := fun e => by subst e; rw [hDj] at hk; cases hk
        rw [getD_set_ne true hjk]
        exact hun k hk
      · by_cases hjk : j = k
        · subst hjk; exact hjun
        · rw [getD_set_ne true hjk] at hun'; exact hun'
      · exact h3.1.imp (fun ⟨q1, q2⟩ => ⟨q1, fun w2 hw2 => q2 w2 (hext.trans hw2)⟩) id
      · rw [Array.setIfInBounds_comm _ _ hji]
        exact h3.2.2

theorem wpE_first1 {ad : Nat → Bool} {i : Nat} {oi : Oper} {v : Value} (hi : ops[i]? = some oi) (hsel : ∀ (j : Nat) (o : Oper) cs b, ops[j]? = some o → o.op ≠ .select cs b)
    (hQ : ∀ c a w, Q (.panic c) (a.put oi.dst v) w → Q (.panic c) a w) {D : Nat → Bool} (hDi : D i = true)
    (hD : ∀ j oj, ops[j]? = some oj → D j = true → j ≠ i → ∃ e ∈ oj.after, Region.binds .any e = true ∧ D e.on = true) :
    ∀ (fuel : Nat) (listed : Array Bool) (a : Act) (w : World), (∀ j, D j = true → listed.getD j true = false) →
      (∀ j oj, ops[j]? = some oj → D j = false → listed.getD j true = false → oi.apart ops oj = true) →
      i ∈ Region.ready .any ops listed → YieldsIf P ops (fun _ => True) oi v a → wpE P ops Q ad fuel (listed.setIfInBounds i true) (a.put oi.dst v) w → wpE P ops Q ad (fuel + 1) listed a w := by
  intro fuel
  induction fuel with
  | zero =>
    intro listed a w _ _ hr hy HH
    refine ⟨fun h => (by rw [h] at hr; cases hr), fun j hj => ?_⟩
    by_cases hji : j = i
    · subst hji; exact hy.wpOp hi trivial ⟨fun _ => Ext.refl w, HH⟩
    · have := ready_mono hj hji
      rw [HH.1] at this
      cases this
  | succ fuel ih =>
    intro listed a w hun hfree hr hy HH
    refine ⟨fun h => (by rw [h] at hr; cases hr), fun j hj => ?_⟩
    by_cases hji : j = i
    · subst hji; exact hy.wpOp hi trivial ⟨fun _ => Ext.refl w, HH⟩
    · have h1 := HH.2 j (ready_mono hj hji)
      obtain ⟨hjun, oj, hoj, hall⟩ := mem_ready.1 hj
      have hDj : D j = false := by
        cases hd : D j with
        | false => rfl
        | true =>
          obtain ⟨e, he, hb, hde⟩ := hD j oj hoj hd hji
          have h2 := hall e he hb
          have h3 := hun e.on hde
          rcases Nat.lt_or_ge e.on listed.size with hl | hl
          · simp [hl] at h2 h3; rw [h3] at h2; cases h2
          · simp [Array.getElem?_eq_none hl] at h2
      have hap := hfree j oj hoj hDj hjun
      have h2 := wpOp_putIf hoj hap (fun cs b => hsel i oi cs b hi) (fun cs b => hsel j oj cs b hoj) hQ hy h1
      refine wpOp_mono (fun a' w' h3 => ⟨h3.2.1, ?_⟩) h2
      refine ih (listed.setIfInBounds j true) a' w' (fun k hk => ?_) (fun k ok hk hdk hun' => hfree k ok hk hdk ?_) (ready_mono hr (Ne.symm hji)) ?_ ?_
      · have hjk : j ≠ k := fun e => by subst e; rw [hDj] at hk; cases hk
        rw [getD_set_ne true hjk]
        exact hun k hk
      · by_cases hjk : j = k
        · subst hjk; exact hjun
        · rw [getD_set_ne true hjk] at hun'; exact hun'
      · exact h3.1
      · rw [Array.setIfInBounds_comm _ _ hji]
        exact h3.2.2

theorem bit_pow (j k : Nat) : Nat.testBit (2 ^ j) k = decide (j = k) := Nat.testBit_two_pow
theorem afterM_spec {o : Oper} {k : Nat} (h : Nat.testBit (afterM o) k = true) : ∃ e ∈ o.after, Region.binds .any e = true ∧ e.on = k := by
  have key : ∀ (l : List Edge), Nat.testBit (l.foldr (fun e m => bif Region.binds .any e then m ||| 2 ^ e.on else m) 0) k = true → ∃ e ∈ l, Region.binds .any e = true ∧ e.on = k := by
    intro l
    induction l with
    | nil => intro h; simp at h
    | cons e r ih =>
      intro h
      simp only [List.foldr_cons] at h
      cases hb : Region.binds .any e with
      | false =>
        rw [hb] at h
        obtain ⟨e', h1, h2⟩ := ih h
        exact ⟨e', List.mem_cons_of_mem _ h1, h2⟩
      | true =>
        rw [hb] at h
        simp only [cond_true, Nat.testBit_or, Bool.or_eq_true, bit_pow, decide_eq_true_eq] at h
        rcases h with h | h
        · obtain ⟨e', h1, h2⟩ := ih h
          exact ⟨e', List.mem_cons_of_mem _ h1, h2⟩
        · exact ⟨e, List.mem_cons_self .., hb, h⟩
  obtain ⟨e, h1, h2⟩ := key _ h
  exact ⟨e, by simpa using h1, h2⟩
theorem afterM_has {o : Oper} {e : Edge} (he : e ∈ o.after) (hb : Region.binds .any e = true) : Nat.testBit (afterM o) e.on = true := by
  have key : ∀ (l : List Edge), e ∈ l → Nat.testBit (l.foldr (fun e m => bif Region.binds .any e then m ||| 2 ^ e.on else m) 0) e.on = true := by
    intro l
    induction l with
    | nil => intro h; cases h
    | cons e' r ih =>
      intro h
      simp only [List.foldr_cons]
      rcases List.mem_cons.1 h with rfl | h
      · rw [hb]
        simp [Nat.testBit_or, bit_pow]
      · cases Region.binds .any e' <;> simp [Nat.testBit_or, ih h]
  exact key _ (by simpa using he)
theorem waitM_mono (i : Nat) : ∀ (r : List Nat) (j acc k : Nat), Nat.testBit acc k = true → Nat.testBit (waitM i r j acc) k = true
  | [], _, _, _, h => h
  | m :: r, j, acc, k, h => by
    simp only [waitM]
    refine waitM_mono i r _ _ k ?_
    cases (Nat.beq j i || !(Nat.beq (m &&& acc) 0)) <;> simp [Nat.testBit_or, h]
theorem waitM_self (i : Nat) : ∀ (r : List Nat) (j acc : Nat), j ≤ i → i < j + r.length → Nat.testBit (waitM i r j acc) i = true
  | [], _, _, h1, h2 => by simp at h2; omega
  | m :: r, j, acc, h1, h2 => by
    simp only [waitM]
    by_cases hj : j = i
    · subst hj
      refine waitM_mono _ r _ _ _ ?_
      simp [Nat.testBit_or, bit_pow]
    · exact waitM_self i r _ _ (by omega) (by simp only [List.length_cons] at h2; omega)
theorem waitM_spec (i : Nat) : ∀ (r : List Nat) (j acc k : Nat), Nat.testBit (waitM i r j acc) k = true →
    Nat.testBit acc k = true ∨ ∃ q m, k = j + q ∧ r[q]? = some m ∧ (k = i ∨ ∃ t, Nat.testBit m t = true ∧ Nat.testBit (waitM i r j acc) t = true)
  | [], _, _, _, h => .inl h
  | m :: r, j, acc, k, h => by
    simp only [waitM] at h ⊢
    rcases waitM_spec i r _ _ k h with h1 | ⟨q, m', h1, h2, h3⟩
    · cases hc : (Nat.beq j i || !(Nat.beq (m &&& acc) 0)) with
      | false => rw [hc] at h1; exact .inl h1
      | true =>
        rw [hc] at h1
        simp only [cond_true, Nat.testBit_or, Bool.or_eq_true, bit_pow, decide_eq_true_eq] at h1
        rcases h1 with h1 | rfl
        · exact .inl h1
        · refine .inr ⟨0, m, by omega, rfl, ?_⟩
          rw [Bool.or_eq_true] at hc
          rcases hc with hc | hc
          · exact .inl (Nat.eq_of_beq_eq_true hc)
          · right
            have hne : m &&& acc ≠ 0 := fun e => by rw [e] at hc; cases hc
            obtain ⟨t, ht⟩ := Nat.exists_testBit_of_ne_zero hne
            rw [Nat.testBit_and, Bool.and_eq_true] at ht
            refine ⟨t, ht.1, waitM_mono i r _ _ t ?_⟩
            simp [Nat.testBit_or, ht.2]
    · exact .inr ⟨q + 1, m', by omega, by simpa using h2, h3⟩
theorem apartAll_spec {oi : Oper} {rest : Nat} : ∀ (r : List Oper) (j : Nat), apartAll O ops oi rest r j = true → ∀ (q : Nat) (oj : Oper), r[q]? = some oj → Nat.testBit rest (j + q) = true → oi.apart ops oj = true ∧ adds O oj.op = true
  | [], _, _, q, oj, h, _ => by simp at h
  | o :: r, j, h, q, oj, hq, ht => by
    simp only [apartAll, Bool.and_eq_true] at h
    cases q with
    | zero =>
      simp only [List.getElem?_cons_zero, Option.some.injEq] at hq
      subst hq
      rw [Nat.add_zero] at ht
      rw [ht] at h
      simpa using h.1
    | succ q => exact apartAll_spec r (j + 1) h.2 q oj (by simpa using hq) (by rw [← ht]; congr 1; omega)

/-- An operation that leaves the world alone: what it yields, in whatever world that has grown. -/
theorem stepq_ok (hT : tabB P hh.tab = true) (h : RelS σ w0 W0 Z H S a w) {i : Nat} {o : Oper} (ho : ops[i]? = some o) (hq : quiet o.op = true) (hn : nilT o.op = false) (e : peStep hh O ops i S K = some ret) :
    ∃ v, YieldsIf P ops (Ext w) o v a ∧ Then w0 W0 Z H K ret (a.put o.dst v) w := by
  rcases step_cases h ho e with ⟨hw, σ', S', h', e'⟩ | ⟨hw, hthen⟩
  · unfold peOp at e'
    split at e'
    · rename_i f as ts hop; rw [hop] at hq; cases hq
    · rename_i i' as ts hop; rw [hop] at hq; cases hq
    · rename_i hop; rw [hop] at hn; cases hn
    · rename_i hop; rw [hop] at hn; cases hn
    · split at e'
      case h_2 => cases e'
      rename_i g S1 hev
      cases g with
      | false => cases e'
      | true =>
        obtain ⟨v, h1, h2⟩ := evq_ok hT h' hq hev
        exact ⟨v, .inl ⟨hw, h1⟩, S1, e', h2⟩
  · exact ⟨undef, .inr ⟨hw, rfl⟩, hthen⟩

theorem apartOnly_spec {oi : Oper} {rest : Nat} : ∀ (r : List Oper) (j : Nat), apartOnly ops oi rest r j = true → ∀ (q : Nat) (oj : Oper), r[q]? = some oj → Nat.testBit rest (j + q) = true → oi.apart ops oj = true
  | [], _, _, q, oj, h, _ => by simp at h
  | o :: r, j, h, q, oj, hq, ht => by
    simp only [apartOnly, Bool.and_eq_true] at h
    cases q with
    | zero =>
      simp only [List.getElem?_cons_zero, Option.some.injEq] at hq
      subst hq
      rw [Nat.add_zero] at ht
      rw [ht] at h
      simpa using h.1
    | succ q => exact apartOnly_spec r (j + 1) h.2 q oj (by simpa using hq) (by rw [← ht]; congr 1; omega)
theorem stepS_ok (hT : tabB P hh.tab = true) (h : RelS σ w0 W0 Z H S a w) {i : Nat} {o : Oper} (ho : ops[i]? = some o) (hqT : stillT hh.tab o.op = true) (e : peStep hh O ops i S K = some ret) :
    ∃ v, YieldsIf P ops (fun _ => True) o v a ∧ Then w0 W0 Z H K ret (a.put o.dst v) w := by
  have hq : still o.op = true := by unfold stillT at hqT; simp only [Bool.and_eq_true] at hqT; exact hqT.1
  have hq' : stillE o.op = true := by
    unfold still at hq
    split at hq <;> first | (rename_i hop; rw [hop]; rfl) | cases hq
  rcases step_cases h ho e with ⟨hw, σ', S', h', e'⟩ | ⟨hw, hthen⟩
  · unfold peOp at e'
    split at e'
    · rename_i f as ts hop; rw [hop] at hq; cases hq
    · rename_i i' as ts hop; rw [hop] at hq; cases hq
    · rename_i hop; rw [hop] at hq; cases hq
    · rename_i hop; rw [hop] at hq; cases hq
    · split at e'
      case h_2 => cases e'
      rename_i g S1 hev
      cases g with
      | false => cases e'
      | true =>
        obtain ⟨v, h1, h2⟩ := evs_ok hT h' hq' (by unfold stillT at hqT; simp only [Bool.and_eq_true] at hqT; exact hqT.2) hev
        exact ⟨v, .inl ⟨hw, fun w _ => h1 w⟩, S1, e', h2⟩
  · exact ⟨undef, .inr ⟨hw, rfl⟩, hthen⟩

/-- The bits tell what is listed. -/
def Bits (ops : Array Oper) (listed : Array Bool) (L : Nat) : Prop := listed.size = ops.size ∧ ∀ j, j < ops.size → listed[j]? = some (Nat.testBit L j)
theorem Bits.set {listed : Array Bool} {L i : Nat} (h : Bits ops listed L) (hi : i < ops.size) : Bits ops (listed.setIfInBounds i true) (L ||| 2 ^ i) := by
  refine ⟨by simp [h.1], fun j hj => ?_⟩
  rw [Array.getElem?_setIfInBounds]
  by_cases hij : i = j
  · subst hij
    simp [h.1, hi, Nat.testBit_or, bit_pow]
  · rw [if_neg hij, h.2 j hj, Nat.testBit_or, bit_pow]
    simp [hij]
theorem Bits.getD {listed : Array Bool} {L : Nat} (h : Bits ops listed L) {j : Nat} (hj : j < ops.size) (d : Bool) : listed.getD j d = Nat.testBit L j := by
  rw [Array.getD_eq_getD_getElem?, h.2 j hj]; rfl
theorem Bits.out {listed : Array Bool} {L : Nat} (h : Bits ops listed L) {j : Nat} (hj : ¬ j < ops.size) (d : Bool) : listed.getD j d = d := by
  rw [Array.getD_eq_getD_getElem?, Array.getElem?_eq_none (by rw [h.1]; omega)]; rfl

def pairOK (ops : Array Oper) (as : List Nat) (i j : Nat) : Prop := ∃ m oi oj, as[j]? = some m ∧ ops[i]? = some oi ∧ ops[j]? = some oj ∧ i ≠ j ∧ (Nat.testBit m i = true ∨ disjB ops oi oj = true)
theorem pairs_spec {as : List Nat} : ∀ {l : List Nat}, pairsB ops as l = true ↔ l.Pairwise (pairOK ops as)
  | [] => by simp [pairsB]
  | i :: r => by
    simp only [pairsB, Bool.and_eq_true, List.all_eq_true, List.pairwise_cons, pairs_spec (l := r)]
    refine and_congr (forall_congr' fun j => forall_congr' fun hj => ?_) Iff.rfl
    constructor
    · intro h
      split at h
      case h_2 => cases h
      rename_i m oi oj h1 h2 h3
      simp only [Bool.and_eq_true, Bool.not_eq_true', Bool.or_eq_true] at h
      exact ⟨m, oi, oj, h1, h2, h3, fun e => by (subst e; rw [Nat.beq_refl] at h; cases h.1), h.2⟩
    · rintro ⟨m, oi, oj, h1, h2, h3, h4, h5⟩
      rw [h1, h2, h3]
      simp only [Bool.and_eq_true, Bool.not_eq_true', Bool.or_eq_true]
      refine ⟨?_, h5⟩
      cases hb : Nat.beq i j with
      | false => rfl
      | true => exact absurd (Nat.eq_of_beq_eq_true hb) h4
theorem deps_mono {as : List Nat} : ∀ (l : List Nat) {L L' : Nat}, (∀ k, Nat.testBit L k = true → Nat.testBit L' k = true) → depsB as L l = true → depsB as L' l = true
  | [], _, _, _, _ => rfl
  | i :: r, L, L', hL, h => by
    simp only [depsB, Bool.and_eq_true] at h ⊢
    refine ⟨?_, deps_mono r (fun k hk => ?_) h.2⟩
    · have h1 := h.1
      split at h1
      case h_2 => cases h1
      rename_i m hm
      have h2 := Nat.eq_of_beq_eq_true h1
      have : m &&& L' = m := Nat.eq_of_testBit_eq fun k => by
        rw [Nat.testBit_and]
        cases hk : Nat.testBit m k with
        | false => rfl
        | true =>
          have h3 : Nat.testBit (m &&& L) k = true := by rw [h2]; exact hk
          rw [Nat.testBit_and, hk] at h3
          rw [hL k (by simpa using h3)]
          rfl
      rw [this]
      exact Nat.beq_refl m
    · rw [Nat.testBit_or, Bool.or_eq_true] at hk ⊢
      exact hk.imp (hL k) id
theorem deps_out {as : List Nat} {j : Nat} : ∀ (p r : List Nat) {L : Nat}, depsB as L (p ++ j :: r) = true → depsB as (L ||| 2 ^ j) (p ++ r) = true
  | [], r, L, h => by
    simp only [List.nil_append, depsB, Bool.and_eq_true] at h
    exact h.2
  | x :: p, r, L, h => by
    simp only [List.cons_append, depsB, Bool.and_eq_true] at h ⊢
    have h0 : depsB as (L ||| 2 ^ j) [x] = true := deps_mono [x] (L := L) (fun k hk => by rw [Nat.testBit_or, hk]; rfl) (by simp only [depsB, Bool.and_eq_true]; exact ⟨h.1, trivial⟩)
    simp only [depsB, Bool.and_eq_true] at h0
    refine ⟨h0.1, ?_⟩
    have := deps_out p r h.2
    rwa [Nat.or_assoc, Nat.or_comm (2 ^ x), ← Nat.or_assoc] at this
theorem maskOf_bit : ∀ (l : List Nat) (k : Nat), Nat.testBit (maskOf l) k = decide (k ∈ l)
  | [], k => by simp [maskOf]
  | i :: r, k => by
    have h : maskOf (i :: r) = maskOf r ||| 2 ^ i := rfl
    rw [h, Nat.testBit_or, maskOf_bit r k, bit_pow]
    by_cases h1 : k ∈ r <;> by_cases h2 : i = k <;> simp [h1, h2, eq_comm]
theorem order_ok (hT : tabB P hh.tab = true) (hO : OrcOK Γ P O w0 W0) (hQ : ∀ a w, Then w0 W0 Z H K ret a w → Q .normal a w) (hQp : ∀ c a w, ¬ Q (.panic c) a w) (hsel : Region.noSelect ops = true) :
    ∀ (n : Nat) (L : Nat) (l : OT) {listed : Array Bool} {S : St} {a : Act} {w : World}, ordGo hh.tab O ops (ops.toList.map afterM) (2 ^ ops.size - 1) L l = true → Bits ops listed L → l.len ≤ n → peTree hh O ops l S K = some ret → Rel w0 W0 Z H S a w →
      wpE P ops Q (fun j => match ops[j]? with | some o => adds O o.op | none => false) n listed a w := by
  have hfin : ∀ {listed : Array Bool} {L : Nat}, Bits ops listed L → L = 2 ^ ops.size - 1 → Region.ready .any ops listed = [] := by
    intro listed L hb hL
    refine List.eq_nil_iff_forall_not_mem.2 fun j hj => ?_
    obtain ⟨h1, oj, h2, _⟩ := mem_ready.1 hj
    have hj := (Array.getElem?_eq_some_iff.1 h2).1
    rw [hb.getD hj, hL, Nat.testBit_two_pow_sub_one] at h1
    simp [hj] at h1
  intro n
  induction n with
  | zero =>
    intro L l listed S a w ho hb hn e h
    cases l with
    | one _ _ => simp [OT.len] at hn
    | any q _ =>
      cases q with
      | nil => simp [ordGo, anyB] at ho
      | cons _ _ => simp [OT.len] at hn
    | done =>
      simp only [ordGo] at ho
      exact ⟨hfin hb (Nat.eq_of_beq_eq_true ho), hQ a w ⟨S, e, h⟩⟩
  | succ n ih =>
    intro L l listed S a w ho hb hn e h
    have hlt2 : ∀ (l : OT) (L : Nat), ordGo hh.tab O ops (ops.toList.map afterM) (2 ^ ops.size - 1) L l = true → L < 2 ^ ops.size := by
      intro l
      induction l with
      | done =>
        intro L h
        have := Nat.eq_of_beq_eq_true h
        have := Nat.two_pow_pos ops.size
        omega
      | one i t ih =>
        intro L h
        simp only [ordGo, Bool.and_eq_true] at h
        exact Nat.lt_of_le_of_lt Nat.left_le_or (ih _ h.2)
      | any q t ih =>
        intro L h
        simp only [ordGo, Bool.and_eq_true] at h
        exact Nat.lt_of_le_of_lt Nat.left_le_or (ih _ h.2)
    have hL2 := hlt2 l L ho
    have facts0 : ∀ (i : Nat) (oi : Oper), ops[i]? = some oi → waitM i (ops.toList.map afterM) 0 0 &&& L = 0 →
        (∀ j, Nat.testBit (waitM i (ops.toList.map afterM) 0 0) j = true → Nat.testBit L j = false) ∧ Nat.testBit (waitM i (ops.toList.map afterM) 0 0) i = true ∧
        (∀ j oj, ops[j]? = some oj → Nat.testBit (waitM i (ops.toList.map afterM) 0 0) j = true → j ≠ i → ∃ e ∈ oj.after, Region.binds .any e = true ∧ Nat.testBit (waitM i (ops.toList.map afterM) 0 0) e.on = true) ∧
        (∀ j, Nat.testBit (waitM i (ops.toList.map afterM) 0 0) j = true → j < ops.size) := by
      intro i oi hoi c3
      have hi : i < ops.size := (Array.getElem?_eq_some_iff.1 hoi).1
      have hW3 : ∀ j, Nat.testBit (waitM i (ops.toList.map afterM) 0 0) j = true → Nat.testBit L j = false := fun j hj => by
        have : Nat.testBit (waitM i (ops.toList.map afterM) 0 0 &&& L) j = false := by rw [c3]; simp
        rw [Nat.testBit_and, hj] at this
        simpa using this
      have hWi : Nat.testBit (waitM i (ops.toList.map afterM) 0 0) i = true := waitM_self i _ 0 0 (Nat.zero_le _) (by simpa using hi)
      have hWs : ∀ j oj, ops[j]? = some oj → Nat.testBit (waitM i (ops.toList.map afterM) 0 0) j = true → j ≠ i → ∃ e ∈ oj.after, Region.binds .any e = true ∧ Nat.testBit (waitM i (ops.toList.map afterM) 0 0) e.on = true := fun j oj hoj hj hji => by
        rcases waitM_spec i _ _ _ j hj with hx | ⟨q, m, hq, hm, hx⟩
        · simp at hx
        · rw [Nat.zero_add] at hq
          subst hq
          rw [List.getElem?_map, Array.getElem?_toList, hoj] at hm
          simp only [Option.map_some, Option.some.injEq] at hm
          subst hm
          rcases hx with hx | ⟨t, h1, h2⟩
          · exact absurd hx hji
          · obtain ⟨e, he, hbd, rfl⟩ := afterM_spec h1
            exact ⟨e, he, hbd, h2⟩
      have hWlt : ∀ j, Nat.testBit (waitM i (ops.toList.map afterM) 0 0) j = true → j < ops.size := fun j hj => by
        rcases waitM_spec i _ _ _ j hj with hx | ⟨q, m, hq, hm, hx⟩
        · simp at hx
        · have := (List.getElem?_eq_some_iff.1 hm).1
          simp at this
          omega
      exact ⟨hW3, hWi, hWs, hWlt⟩
    have facts : ∀ (i : Nat) (oi : Oper), ops[i]? = some oi → Nat.testBit L i = false → afterM oi &&& L = afterM oi → waitM i (ops.toList.map afterM) 0 0 &&& L = 0 →
        (∀ j, Nat.testBit (waitM i (ops.toList.map afterM) 0 0) j = true → Nat.testBit L j = false) ∧ Nat.testBit (waitM i (ops.toList.map afterM) 0 0) i = true ∧
        (∀ j oj, ops[j]? = some oj → Nat.testBit (waitM i (ops.toList.map afterM) 0 0) j = true → j ≠ i → ∃ e ∈ oj.after, Region.binds .any e = true ∧ Nat.testBit (waitM i (ops.toList.map afterM) 0 0) e.on = true) ∧
        (∀ j, Nat.testBit (waitM i (ops.toList.map afterM) 0 0) j = true → j < ops.size) ∧ i ∈ Region.ready .any ops listed := by
      intro i oi hoi c1 c2 c3
      have hi : i < ops.size := (Array.getElem?_eq_some_iff.1 hoi).1
      obtain ⟨hW3, hWi, hWs, hWlt⟩ := facts0 i oi hoi c3
      refine ⟨hW3, hWi, hWs, hWlt, mem_ready.2 ⟨by rw [hb.getD hi]; exact c1, oi, hoi, fun e he hbd => ?_⟩⟩
      have h1 := afterM_has he hbd
      have h2 : Nat.testBit (afterM oi &&& L) e.on = true := by rw [c2]; exact h1
      rw [Nat.testBit_and, h1] at h2
      have h3 : Nat.testBit L e.on = true := by simpa using h2
      by_cases hl : e.on < ops.size
      · rw [hb.getD hl]; exact h3
      · rw [Nat.testBit_lt_two_pow (Nat.lt_of_lt_of_le hL2 (Nat.pow_le_pow_right (by decide) (by omega)))] at h3
        cases h3
    cases l with
    | done =>
      simp only [ordGo] at ho
      have hr := hfin hb (Nat.eq_of_beq_eq_true ho)
      exact ⟨fun _ => hQ a w ⟨S, e, h⟩, fun i hi => by rw [hr] at hi; cases hi⟩
    | any q t =>
      simp only [ordGo, Bool.and_eq_true] at ho
      obtain ⟨hc, hot⟩ := ho
      have hc0 := hc
      unfold anyB at hc
      simp only [Bool.and_eq_true, Bool.not_eq_true', List.all_eq_true] at hc
      obtain ⟨⟨⟨hne, hmem⟩, hpairs⟩, hdeps⟩ := hc
      have hpw := pairs_spec.1 hpairs
      have get : ∀ i ∈ q, ∃ oi, ops[i]? = some oi ∧ i < ops.size := fun i hi => by
        have h1 : i < ops.size := Nat.lt_of_lt_of_le (Nat.lt_succ_self _) (Nat.le_of_ble_eq_true (hmem i hi).1.1.1)
        exact ⟨ops[i], Array.getElem?_eq_getElem h1, h1⟩
      have unl : ∀ i ∈ q, Nat.testBit L i = false := fun i hi => (hmem i hi).1.1.2
      -- the first is ready
      obtain ⟨i0, q0, rfl⟩ : ∃ i0 q0, q = i0 :: q0 := by
        cases q with
        | nil => simp at hne
        | cons i0 q0 => exact ⟨i0, q0, rfl⟩
      obtain ⟨oi0, hoi0, hi0⟩ := get i0 (by simp)
      have hd0 := hdeps
      simp only [depsB, Bool.and_eq_true] at hd0
      have hd1 := hd0.1
      rw [List.getElem?_map, Array.getElem?_toList, hoi0] at hd1
      simp only [Option.map_some] at hd1
      obtain ⟨_, _, _, _, hr0⟩ := facts i0 oi0 hoi0 (unl i0 (by simp)) (Nat.eq_of_beq_eq_true hd1) (Nat.eq_of_beq_eq_true (hmem i0 (by simp)).1.2)
      refine ⟨fun hx => (by rw [hx] at hr0; cases hr0), fun j hj => ?_⟩
      obtain ⟨j1, oj, hoj, j3⟩ := mem_ready.1 hj
      have hjl := (Array.getElem?_eq_some_iff.1 hoj).1
      have nowait : ∀ i ∈ i0 :: q0, j ≠ i → Nat.testBit (waitM i (ops.toList.map afterM) 0 0) j = false := fun i hi hji => by
        cases hw : Nat.testBit (waitM i (ops.toList.map afterM) 0 0) j with
        | false => rfl
        | true =>
          exfalso
          obtain ⟨oi, hoi, hil⟩ := get i hi
          obtain ⟨w3, _, ws, wlt⟩ := facts0 i oi hoi (Nat.eq_of_beq_eq_true (hmem i hi).1.2)
          obtain ⟨e, he, hbd, h6⟩ := ws j oj hoj hw hji
          have h7 := j3 e he hbd
          rw [hb.getD (wlt _ h6), w3 _ h6] at h7
          cases h7
      have hjq : j ∈ i0 :: q0 := by
        refine Classical.byContradiction fun hnj => ?_
        have hz := Nat.eq_of_beq_eq_true (hmem i0 (by simp)).2
        have h4 : Nat.testBit (2 ^ ops.size - 1 ^^^ (waitM i0 (ops.toList.map afterM) 0 0 ||| L ||| maskOf (i0 :: q0))) j = false := by rw [hz]; simp
        rw [Nat.testBit_xor, Nat.testBit_two_pow_sub_one, Nat.testBit_or, Nat.testBit_or, maskOf_bit, nowait i0 (by simp) (fun e => hnj (by simp [e]))] at h4
        rw [hb.getD hjl] at j1
        rw [j1] at h4
        simp [hjl, hnj] at h4
      obtain ⟨p, r, hpr⟩ := List.append_of_mem hjq
      rw [hpr] at hc0 hpw hdeps hmem nowait unl e hn
      clear hd0 hd1 hr0 hjq get
      have hfront : ∀ x ∈ p, ∃ ox, ops[x]? = some ox ∧ disjB ops ox oj = true := fun x hx => by
        obtain ⟨m, ox, oj', h1, h2, h3, h4, h5⟩ := (List.pairwise_append.1 hpw).2.2 x hx j (by simp)
        rw [hoj] at h3
        injection h3 with h3
        subst h3
        refine ⟨ox, h2, h5.resolve_left fun hm => ?_⟩
        rw [List.getElem?_map, Array.getElem?_toList, hoj] at h1
        simp only [Option.map_some, Option.some.injEq] at h1
        subst h1
        obtain ⟨e, he, hbd, rfl⟩ := afterM_spec hm
        have h7 := j3 e he hbd
        have hxl := (Array.getElem?_eq_some_iff.1 h2).1
        rw [hb.getD hxl, unl _ (by simp [hx])] at h7
        cases h7
      simp only [peTree] at e
      have e2 := grp_front hO.det hoj p r hfront e
      unfold peGrp at e2
      rw [hoj] at e2
      simp only at e2
      cases gj : grpOK O ops S oj with
      | false => rw [gj] at e2; cases e2
      | true =>
      rw [gj] at e2
      simp only [cond_true] at e2
      obtain ⟨σ, h⟩ := h
      refine wpOp_mono (fun a' w' h' => ?_) (step_ok hT hO h e2)
      obtain ⟨⟨S', k1, k2⟩, k3⟩ := h'
      have hjn : j ∉ p ++ r := fun hx => by
        rw [List.pairwise_append, List.pairwise_cons] at hpw
        rcases List.mem_append.1 hx with hx | hx
        · obtain ⟨_, _, _, _, _, _, h4, _⟩ := hpw.2.2 j hx j (by simp); exact h4 rfl
        · obtain ⟨_, _, _, _, _, _, h4, _⟩ := hpw.2.1.1 j hx; exact h4 rfl
      have hmask : L ||| maskOf (p ++ j :: r) = L ||| 2 ^ j ||| maskOf (p ++ r) := Nat.eq_of_testBit_eq fun k => by
        rw [Nat.testBit_or, Nat.testBit_or, Nat.testBit_or, maskOf_bit, maskOf_bit, bit_pow]
        have hm : decide (k ∈ p ++ j :: r) = (decide (j = k) || decide (k ∈ p ++ r)) := by
          rw [← Bool.decide_or]
          apply decide_eq_decide.2
          simp only [List.mem_append, List.mem_cons]
          constructor
          · rintro (h | h | h)
            · exact .inr (.inl h)
            · exact .inl h.symm
            · exact .inr (.inr h)
          · rintro (h | h | h)
            · exact .inr (.inl h.symm)
            · exact .inl h
            · exact .inr (.inr h)
        rw [hm, Bool.or_assoc]
      refine ⟨fun had => ?_, ?_⟩
      · simp only [hoj] at had
        exact k3 oj hoj had
      · have hot' : ordGo hh.tab O ops (ops.toList.map afterM) (2 ^ ops.size - 1) (L ||| 2 ^ j ||| maskOf (p ++ r)) t = true := by rw [← hmask, ← hpr]; exact hot
        cases hpe : p ++ r with
        | nil =>
          rw [hpe] at k1 hot'
          simp only [peGrp] at k1
          refine ih _ t (by simpa [maskOf] using hot') (hb.set hjl) ?_ k1 k2
          simp only [OT.len, List.length_append, List.length_cons] at hn
          omega
        | cons z zs =>
          refine ih (L ||| 2 ^ j) (.any (p ++ r) t) ?_ (hb.set hjl) ?_ k1 k2
          · simp only [ordGo, Bool.and_eq_true]
            refine ⟨?_, hot'⟩
            unfold anyB
            simp only [Bool.and_eq_true, Bool.not_eq_true', List.all_eq_true]
            refine ⟨⟨⟨by rw [hpe]; rfl, fun i hi => ?_⟩, pairs_spec.2 (hpw.sublist (by simp))⟩, deps_out p r hdeps⟩
            have hi' : i ∈ p ++ j :: r := by simp only [List.mem_append, List.mem_cons] at hi ⊢; exact hi.imp id .inr
            have hij : j ≠ i := fun e => hjn (by rw [e]; exact hi)
            obtain ⟨⟨⟨m1, m2⟩, m3⟩, m4⟩ := hmem i hi'
            refine ⟨⟨⟨m1, ?_⟩, ?_⟩, ?_⟩
            · rw [Nat.testBit_or, m2, bit_pow]; simp [hij]
            · have hz : waitM i (ops.toList.map afterM) 0 0 &&& (L ||| 2 ^ j) = 0 := Nat.eq_of_testBit_eq fun k => by
                have hk : Nat.testBit (waitM i (ops.toList.map afterM) 0 0 &&& L) k = false := by rw [Nat.eq_of_beq_eq_true m3]; simp
                rw [Nat.testBit_and] at hk
                rw [Nat.testBit_and, Nat.testBit_or, bit_pow, Nat.zero_testBit]
                by_cases hkj : j = k
                · subst hkj
                  rw [nowait i hi' hij]
                  rfl
                · simp only [hkj, decide_false, Bool.or_false]
                  exact hk
              rw [hz]; rfl
            · have hz := Nat.eq_of_beq_eq_true m4
              have : waitM i (ops.toList.map afterM) 0 0 ||| (L ||| 2 ^ j) ||| maskOf (p ++ r) = waitM i (ops.toList.map afterM) 0 0 ||| L ||| maskOf (p ++ j :: r) := by rw [Nat.or_assoc, ← hmask, Nat.or_assoc]
              rw [this]
              exact m4
          · simp only [OT.len, List.length_append, List.length_cons] at hn ⊢
            omega
    | one i l =>
      simp only [ordGo, Bool.and_eq_true] at ho
      obtain ⟨hc, ho⟩ := ho
      unfold ordOne at hc
      split at hc
      case h_2 => cases hc
      rename_i m oi hm hoi
      have hi : i < ops.size := (Array.getElem?_eq_some_iff.1 hoi).1
      rw [List.getElem?_map, Array.getElem?_toList, hoi] at hm
      simp only [Option.map_some, Option.some.injEq] at hm
      subst hm
      simp only [Bool.and_eq_true, Bool.not_eq_true'] at hc
      obtain ⟨⟨⟨c1, c2⟩, c3⟩, c4⟩ := hc
      have c2 := Nat.eq_of_beq_eq_true c2
      have c3 := Nat.eq_of_beq_eq_true c3
      have hn' : l.len ≤ n := by simp only [OT.len] at hn; omega
      obtain ⟨hW3, hWi, hWs, hWlt, hready⟩ := facts i oi hoi c1 c2 c3
      rw [Bool.or_eq_true] at c4
      have hrest : ∀ j, j < ops.size → Nat.testBit (2 ^ ops.size - 1 ^^^ (waitM i (ops.toList.map afterM) 0 0 ||| L)) j = !(Nat.testBit (waitM i (ops.toList.map afterM) 0 0) j || Nat.testBit L j) := fun j hj => by
        rw [Nat.testBit_xor, Nat.testBit_two_pow_sub_one, Nat.testBit_or]
        simp [hj]
      simp only [peTree] at e
      obtain ⟨σ, h⟩ := h
      by_cases c0 : Nat.beq (2 ^ ops.size - 1 ^^^ (waitM i (ops.toList.map afterM) 0 0 ||| L)) 0 = true
      · have hz := Nat.eq_of_beq_eq_true c0
        refine ⟨fun hx => (by rw [hx] at hready; cases hready), fun j hj => ?_⟩
        have hji : j = i := by
          refine Classical.byContradiction fun hji => ?_
          obtain ⟨h1, oj, h2, h3⟩ := mem_ready.1 hj
          have hjl := (Array.getElem?_eq_some_iff.1 h2).1
          have h4 := hrest j hjl
          rw [hz, Nat.zero_testBit] at h4
          rw [hb.getD hjl] at h1
          rw [h1] at h4
          have h5 : Nat.testBit (waitM i (ops.toList.map afterM) 0 0) j = true := by
            cases hx : Nat.testBit (waitM i (ops.toList.map afterM) 0 0) j with
            | true => rfl
            | false => rw [hx] at h4; cases h4
          obtain ⟨e, he, hbd, h6⟩ := hWs j oj h2 h5 hji
          have h7 := h3 e he hbd
          rw [hb.getD (hWlt _ h6), hW3 _ h6] at h7
          cases h7
        subst hji
        refine wpOp_mono (fun a' w' h' => ?_) (step_ok hT hO h e)
        obtain ⟨⟨S', k1, k2⟩, k3⟩ := h'
        refine ⟨fun had => ?_, ih _ l ho (hb.set hi) hn' k1 k2⟩
        simp only [hoi] at had
        exact k3 oi hoi had
      · rw [Bool.or_eq_true] at c4
        rcases c4 with c4 | c4
        rotate_left
        · rw [Bool.and_eq_true] at c4
          obtain ⟨hq, hap⟩ := c4
          obtain ⟨v, hy, S', k1, k2⟩ := stepS_ok hT h hoi hq e
          refine wpE_first1 hoi (Region.noSelect_spec hsel) (fun c a w hx => absurd hx (hQp _ _ _)) (D := fun j => Nat.testBit (waitM i (ops.toList.map afterM) 0 0) j) hWi hWs n listed a w (fun j hd => ?_) (fun j oj hoj hd hun => ?_) hready hy (ih _ l ho (hb.set hi) hn' k1 k2)
          · rw [hb.getD (hWlt j hd)]; exact hW3 j hd
          · have hjl := (Array.getElem?_eq_some_iff.1 hoj).1
            have h4 := hrest j hjl
            rw [hb.getD hjl] at hun
            try simp only at hd
            rw [hd, hun] at h4
            exact apartOnly_spec ops.toList 0 hap j oj (by rw [Array.getElem?_toList]; exact hoj) (by rw [Nat.zero_add]; exact h4)
        have c4 := c4.resolve_left c0
        rw [Bool.and_eq_true, Bool.and_eq_true, Bool.not_eq_true'] at c4
        obtain ⟨hq, hn0, hap⟩ := c4
        obtain ⟨v, hy, S', k1, k2⟩ := stepq_ok hT h hoi hq hn0 e
        refine wpE_first hoi (Region.noSelect_spec hsel) (fun c a w hx => absurd hx (hQp _ _ _)) (D := fun j => Nat.testBit (waitM i (ops.toList.map afterM) 0 0) j) hWi hWs n listed a w (fun j hd => ?_) (fun j oj hoj hd hun => ?_) hready hy (ih _ l ho (hb.set hi) hn' k1 k2)
        · rw [hb.getD (hWlt j hd)]; exact hW3 j hd
        · have hjl := (Array.getElem?_eq_some_iff.1 hoj).1
          have h4 := hrest j hjl
          rw [hb.getD hjl] at hun
          try simp only at hd
          rw [hd, hun] at h4
          have := apartAll_spec ops.toList 0 hap j oj (by rw [Array.getElem?_toList]; exact hoj) (by rw [Nat.zero_add]; exact h4)
          simp only [hoj]
          exact this

theorem ordB_ok (hT : tabB P hh.tab = true) (hO : OrcOK Γ P O w0 W0) (hQ : ∀ a w, Then w0 W0 Z H K ret a w → Q .normal a w) (hQp : ∀ c a w, ¬ Q (.panic c) a w) {l : OT} (hl : ordB hh.tab O ops l = true) {S : St} {a : Act} {w : World} (e : peTree hh O ops l S K = some ret) (h : Rel w0 W0 Z H S a w) :
    wpAny P .any ops Q ops.size (Array.replicate ops.size false) a w := by
  unfold ordB at hl
  rw [Bool.and_eq_true, Bool.and_eq_true] at hl
  obtain ⟨⟨hsel, hlen⟩, ho⟩ := hl
  have hb : Bits ops (Array.replicate ops.size false) 0 := ⟨by simp, fun j hj => by simp [hj]⟩
  exact wpE_any _ (order_ok hT hO hQ hQp hsel ops.size 0 l ho hb (Nat.le_of_ble_eq_true hlen) e h)
end Go.Pv

namespace Go.Pv
set_option linter.unusedVariables false
set_option linter.unusedSimpArgs false
variable {Γ : Gl} {P : Program} {w w' : World} {A A' Wr : Nat → Prop} {H : Nat → Value} {tm tm' : Nat → Value} {S S' S1 : St} {σ σ1 σ2 : Nat → Option Nat} {w0 : World} {W0 Z : Nat → Prop} {a : Act} {own : Nat → Prop} {v : Value} {Θ : Tab} {dst : Option Nat} {O : Orc} {hh : Hint} {Q : Exit → Act → World → Prop} {ret : Ret} {ops : Array Oper}

theorem RelS.less (h : RelS σ w0 W0 Z H S a w) (hl : S'.length = S.length) (hs : ∀ i, S'.at i = .dead ∨ (S'.at i = S.at i ∧ ∀ s, (S.at i).refs s = true → S'.at s = S.at s)) : RelS σ w0 W0 Z H S' a w := by
  refine ⟨by rw [hl]; exact h.len, h.defers, h.fr, h.new, h.lt, h.old, fun i => ?_⟩
  rcases hs i with hi | ⟨hi, hr⟩
  · rw [hi]; trivial
  · rw [hi]
    exact (h.holds i).kept (Stays.refl _ _) (fun g hg _ => ⟨rfl, hg⟩) (fun s hs => ⟨fun r ex he => by rw [hr s hs]; exact he, rfl, _, h.holds s, fun _ _ _ => rfl⟩)

theorem rel_sweep (h : Rel w0 W0 Z H S a w) : Rel w0 W0 Z H (sweep S) a w := by
  obtain ⟨σ, h⟩ := h
  have hat : ∀ i, (sweep S).at i = match S.at i with
    | .al t s [] => .al t s []
    | .al .. => .dead
    | .ad .. => .dead
    | .cut .. => .dead
    | a => a := fun i => at_map S _ rfl i
  have hv : ∀ s r ex, S.at s = .v r ex → (sweep S).at s = .v r ex := fun s r ex he => by rw [hat s, he]
  refine ⟨σ, ⟨by unfold sweep; rw [List.length_map]; exact h.len, h.defers, h.fr, h.new, h.lt, h.old, fun i => ?_⟩⟩
  have hi := (h.holds i).kept (S' := sweep S) (Stays.refl w (Av σ Z)) (fun g hg _ => ⟨rfl, hg⟩) (fun s _ => ⟨fun r ex he => hv s r ex he, rfl, _, h.holds s, fun _ _ _ => rfl⟩)
  rw [hat i]
  split <;> first | trivial | (rename_i he; rw [he] at hi; exact hi) | exact hi

theorem cproj_eq : ∀ (cs : List CK) (S : List Cap) {x : CVals cs}, cproj cs S = some x → cshape cs x = S
  | [], [], x, _ => rfl
  | [], _ :: _, x, e => by simp [cproj] at e
  | .kv _ :: r, [], x, e => by simp [cproj] at e
  | .pl _ _ _ :: r, [], x, e => by simp [cproj] at e
  | .kv t :: r, .pl _ _ _ :: S, x, e => by simp [cproj] at e
  | .pl _ _ _ :: r, .kv _ :: S, x, e => by simp [cproj] at e
  | .kv t :: r, .kv b :: S, x, e => by
    obtain ⟨bt, bm, bx⟩ := b
    simp only [cproj] at e
    split at e
    case isFalse => cases e
    rename_i ht
    subst ht
    split at e
    case isFalse => cases e
    rename_i hm
    subst hm
    split at e
    case h_2 => cases e
    rename_i y hy
    injection e with e
    subst e
    simp [cshape, cproj_eq r S hy]
  | .pl t s p :: r, .pl t' s' p' :: S, x, e => by
    simp only [cproj] at e
    split at e
    case isFalse => cases e
    rename_i ht
    subst ht
    cases hb : Nat.beq s' s with
    | false => rw [hb] at e; cases e
    | true =>
      rw [hb] at e
      simp only [cond_true] at e
      have := Nat.eq_of_beq_eq_true hb
      subst this
      split at e
      case isFalse => cases e
      rename_i hp
      subst hp
      simp [cshape, cproj_eq r S e]

theorem proj_at : ∀ (ks : List Kd) (S : St) {x : Vals ks}, proj ks S = some x → (shape ks x).length = S.length ∧ ∀ i, (shape ks x).at i = .dead ∨ ((shape ks x).at i = S.at i ∧ ((∃ t m y, ks[i]? = some (.v t m) ∧ S.at i = .v ⟨t, m, y⟩ []) ∨ (∃ t s, ks[i]? = some (.al t s) ∧ S.at i = .al t s []) ∨ ∃ f cs y, ks[i]? = some (.clo f cs) ∧ S.at i = .clo f (cshape cs y)))
  | [], [], x, _ => ⟨rfl, fun i => .inl rfl⟩
  | [], _ :: _, x, e => by simp [proj] at e
  | .dead :: r, [], x, e => by simp [proj] at e
  | .v _ _ :: r, [], x, e => by simp [proj] at e
  | .al _ _ :: r, [], x, e => by simp [proj] at e
  | .clo _ _ :: r, [], x, e => by simp [proj] at e
  | .clo f cs :: r, a :: S, x, e => by
    cases a with
    | clo f' caps =>
      simp only [proj] at e
      cases hb : Nat.beq f' f with
      | false => rw [hb] at e; cases e
      | true =>
        rw [hb] at e
        simp only [cond_true] at e
        have := Nat.eq_of_beq_eq_true hb
        subst this
        split at e
        case h_2 => cases e
        rename_i y z hy hz
        injection e with e
        subst e
        obtain ⟨h1, h2⟩ := proj_at r S hz
        have hc := cproj_eq cs caps hy
        refine ⟨by simp [shape, h1], fun i => ?_⟩
        cases i with
        | zero => exact .inr ⟨by simp [shape, St.at, hc], .inr (.inr ⟨_, _, y, rfl, by simp [St.at, hc]⟩)⟩
        | succ i => exact h2 i
    | _ => simp [proj] at e
  | .dead :: r, a :: S, x, e => by
    simp only [proj] at e
    obtain ⟨h1, h2⟩ := proj_at r S e
    refine ⟨by simp [shape, h1], fun i => ?_⟩
    cases i with
    | zero => exact .inl rfl
    | succ i => exact h2 i
  | .v t m :: r, a :: S, x, e => by
    cases a with
    | v b ex =>
      cases ex with
      | cons _ _ => simp [proj] at e
      | nil =>
        obtain ⟨bt, bm, bx⟩ := b
        simp only [proj] at e
        split at e
        case isFalse => cases e
        rename_i ht
        subst ht
        split at e
        case isFalse => cases e
        rename_i hm
        subst hm
        split at e
        case h_2 => cases e
        rename_i y hy
        injection e with e
        subst e
        obtain ⟨h1, h2⟩ := proj_at r S hy
        refine ⟨by simp [shape, h1], fun i => ?_⟩
        cases i with
        | zero => exact .inr ⟨rfl, .inl ⟨_, _, _, rfl, rfl⟩⟩
        | succ i => exact h2 i
    | _ => simp [proj] at e
  | .al t s :: r, a :: S, x, e => by
    cases a with
    | al t' s' p =>
      cases p with
      | cons _ _ => simp [proj] at e
      | nil =>
        simp only [proj] at e
        split at e
        case isFalse => cases e
        rename_i ht
        subst ht
        cases hb : Nat.beq s' s with
        | false => rw [hb] at e; cases e
        | true =>
          rw [hb] at e
          simp only [cond_true] at e
          have := Nat.eq_of_beq_eq_true hb
          subst this
          obtain ⟨h1, h2⟩ := proj_at r S e
          refine ⟨by simp [shape, h1], fun i => ?_⟩
          cases i with
          | zero => exact .inr ⟨rfl, .inr (.inl ⟨_, _, rfl, rfl⟩)⟩
          | succ i => exact h2 i
    | _ => simp [proj] at e

/-- The slots that hold values keep them. -/
theorem proj_v : ∀ (ks : List Kd) (S : St) {x : Vals ks}, proj ks S = some x → ∀ (i : Nat) (t : Ty) (m : Md), ks[i]? = some (Kd.v t m) → (shape ks x).at i = S.at i
  | [], _, x, _, i, t, m, hi => by simp at hi
  | .dead :: r, [], x, e, _, _, _, _ => by simp [proj] at e
  | .v _ _ :: r, [], x, e, _, _, _, _ => by simp [proj] at e
  | .al _ _ :: r, [], x, e, _, _, _, _ => by simp [proj] at e
  | .clo _ _ :: r, [], x, e, _, _, _, _ => by simp [proj] at e
  | .clo f cs :: r, a :: S, x, e, i, t, m, hi => by
    cases i with
    | zero => simp at hi
    | succ i =>
      cases a with
      | clo f' caps =>
        simp only [proj] at e
        cases hb : Nat.beq f' f with
        | false => rw [hb] at e; cases e
        | true =>
          rw [hb] at e
          simp only [cond_true] at e
          split at e
          case h_2 => cases e
          rename_i y z hy hz
          injection e with e
          subst e
          exact proj_v r S hz i t m (by simpa using hi)
      | _ => simp [proj] at e
  | .dead :: r, a :: S, x, e, i, t, m, hi => by
    simp only [proj] at e
    cases i with
    | zero => simp at hi
    | succ i => exact proj_v r S e i t m (by simpa using hi)
  | .v t0 m0 :: r, a :: S, x, e, i, t, m, hi => by
    cases i with
    | zero =>
      obtain ⟨_, h2⟩ := proj_at _ _ e
      rcases h2 0 with h | h
      · simp only [shape] at h
        cases h
      · exact h.1
    | succ i =>
      cases a with
      | v b ex =>
        cases ex with
        | cons _ _ => simp [proj] at e
        | nil =>
          obtain ⟨bt, bm, bx⟩ := b
          simp only [proj] at e
          split at e
          case isFalse => cases e
          rename_i ht
          subst ht
          split at e
          case isFalse => cases e
          split at e
          case h_2 => cases e
          rename_i y hy
          injection e with e
          subst e
          exact proj_v r S hy i t m (by simpa using hi)
      | _ => simp [proj] at e
  | .al t0 s :: r, a :: S, x, e, i, t, m, hi => by
    cases i with
    | zero => simp at hi
    | succ i =>
      cases a with
      | al t' s' p =>
        cases p with
        | cons _ _ => simp [proj] at e
        | nil =>
          simp only [proj] at e
          split at e
          case isFalse => cases e
          cases hb : Nat.beq s' s with
          | false => rw [hb] at e; cases e
          | true =>
            rw [hb] at e
            exact proj_v r S e i t m (by simpa using hi)
      | _ => simp [proj] at e

theorem kinds_al : ∀ (all ks : List Kd), kindsOK all ks = true → ∀ (i : Nat) (t : Ty) (s : Nat), ks[i]? = some (Kd.al t s) → ∃ t' m', all[s]? = some (Kd.v t' m')
  | all, [], _, i, t, s, hi => by simp at hi
  | all, k :: r, h, i, t, s, hi => by
    cases i with
    | zero =>
      simp only [List.getElem?_cons_zero, Option.some.injEq] at hi
      subst hi
      simp only [kindsOK, Bool.and_eq_true] at h
      have := h.1
      split at this
      · rename_i t' m' h'; exact ⟨t', m', h'⟩
      · cases this
    | succ i =>
      refine kinds_al all r ?_ i t s (by simpa using hi)
      cases k <;> simp only [kindsOK, Bool.and_eq_true] at h <;> first | exact h | exact h.2

theorem kinds_clo : ∀ (all ks : List Kd), kindsOK all ks = true → ∀ (i : Nat) (f : FuncId) (cs : List CK), ks[i]? = some (Kd.clo f cs) → ∀ t s p, CK.pl t s p ∈ cs → ∃ t' m', all[s]? = some (Kd.v t' m')
  | all, [], _, i, f, cs, hi => by simp at hi
  | all, k :: r, h, i, f, cs, hi => by
    cases i with
    | zero =>
      simp only [List.getElem?_cons_zero, Option.some.injEq] at hi
      subst hi
      simp only [kindsOK, Bool.and_eq_true, List.all_eq_true] at h
      intro t s p hc
      have := h.1 _ hc
      simp only at this
      split at this
      · rename_i t' m' h'; exact ⟨t', m', h'⟩
      · cases this
    | succ i =>
      refine kinds_clo all r ?_ i f cs (by simpa using hi)
      cases k <;> simp only [kindsOK, Bool.and_eq_true] at h <;> first | exact h | exact h.2

theorem cshape_refs : ∀ (cs : List CK) (y : CVals cs) (d : Nat), ((cshape cs y).any fun c => match c with
    | .pl _ s _ => Nat.beq s d
    | .kv _ => false) = true → ∃ t p, CK.pl t d p ∈ cs
  | [], y, d, h => by simp [cshape] at h
  | .kv t :: r, y, d, h => by
    simp only [cshape, List.any_cons, Bool.false_or] at h
    obtain ⟨t', p, hm⟩ := cshape_refs r y.2 d h
    exact ⟨t', p, List.mem_cons_of_mem _ hm⟩
  | .pl t s p :: r, y, d, h => by
    simp only [cshape, List.any_cons, Bool.or_eq_true] at h
    rcases h with h | h
    · have := Nat.eq_of_beq_eq_true h
      subst this
      exact ⟨t, p, List.mem_cons_self ..⟩
    · obtain ⟨t', p', hm⟩ := cshape_refs r y d h
      exact ⟨t', p', List.mem_cons_of_mem _ hm⟩

theorem rel_own1 (h : Rel w0 W0 Z H S a w) (i : Nat) (k : Kd) : Rel w0 W0 Z H (own1 S i k) a w := by
  unfold own1
  split
  case h_2 => exact h
  rename_i t m
  cases hk : m.isK with
  | true => exact h
  | false =>
    simp only [cond_false]
    split
    case h_2 => exact h
    rename_i t' s hat
    split
    case h_2 => exact h
    rename_i b S1 hb
    obtain ⟨σ, h⟩ := h
    obtain ⟨σ1, cs, ow, h1, hm, hM, hkk, hn⟩ := takeA_spec (Θ := []) (T := 0) (x := .tmp i) h (by simp only [St.opv]; rw [hat]) hb
    let P0 : Program := default
    obtain ⟨v2, hr2, σ2, h3⟩ := goes_took (P := P0) (dst := some i) (n := S.length) (s := (pure (Next.value (tmOf a i)) : Sem Next)) h1 hkk hn (fun w2 _ => rfl) hm hM
    have hv2 := hr2 w (Ext.refl w)
    have e1 : Next.value (tmOf a i) = Next.value v2 := by
      have : (Result.ok (Next.value (tmOf a i)) w : Result Next) = Result.ok (Next.value v2) w := hv2
      injection this
    injection e1 with e1
    subst e1
    rw [put_same] at h3
    exact ⟨σ2, h3⟩
theorem rel_ownAll : ∀ (ks : List Kd) (i : Nat) {S : St}, Rel w0 W0 Z H S a w → Rel w0 W0 Z H (ownAll ks i S) a w
  | [], _, _, h => h
  | k :: r, i, _, h => rel_ownAll r (i + 1) (rel_own1 h i k)
theorem rel_cleanTo (h : Rel w0 W0 Z H S a w) {ks : List Kd} (e : cleanTo ks S = some S1) : Rel w0 W0 Z H S1 a w := by
  obtain ⟨σ, h⟩ := rel_ownAll ks 0 h
  unfold cleanTo at e
  cases hk : kindsOK ks ks with
  | false => rw [hk] at e; cases e
  | true =>
  rw [hk] at e
  simp only [cond_true] at e
  split at e
  case h_2 => cases e
  rename_i x hx'
  injection e with e
  subst e
  obtain ⟨h1, h2⟩ := proj_at ks _ hx'
  refine ⟨σ, h.less h1 fun i => ?_⟩
  rcases h2 i with hi | ⟨hi, hx⟩
  · exact .inl hi
  · refine .inr ⟨hi, fun s hs => ?_⟩
    rcases hx with ⟨t, m, y, _, h3⟩ | ⟨t, s', hk1, h3⟩ | ⟨f, cs, y, hk1, h3⟩
    · rw [h3] at hs; cases hs
    · rw [h3] at hs
      have : s' = s := Nat.eq_of_beq_eq_true hs
      subst this
      obtain ⟨t', m', h4⟩ := kinds_al ks ks hk i t s' hk1
      exact proj_v ks _ hx' s' t' m' h4
    · rw [h3] at hs
      obtain ⟨t', p, h5⟩ := cshape_refs cs y s hs
      obtain ⟨t', m', h4⟩ := kinds_clo ks ks hk i f cs hk1 _ _ _ h5
      exact proj_v ks _ hx' s t' m' h4

theorem rel_clean (h : Rel w0 W0 Z H S a w) {key : Nat} (e : hh.clean key S = some S1) : Rel w0 W0 Z H S1 a w := by
  unfold Hint.clean at e
  split at e
  case h_2 => cases e
  exact rel_cleanTo h e

theorem rel_out (h : Rel w0 W0 Z H S a w) {key : Nat} {K : Ks} {e : Ex} (he : hh.onOut key K e S = some ret) : ∃ S1, K e S1 = some ret ∧ Rel w0 W0 Z H S1 a w := by
  unfold Hint.onOut at he
  split at he
  case h_2 => cases he
  split at he
  case h_2 => cases he
  rename_i S1 h1
  exact ⟨S1, he, rel_cleanTo h h1⟩

theorem clean_shape {key : Nat} (e : hh.clean key S = some S1) : ∃ ks x, heads hh.loops key = some ks ∧ S1 = shape ks x := by
  unfold Hint.clean at e
  split at e
  case h_2 => cases e
  rename_i ks hks
  unfold cleanTo at e
  cases hk : kindsOK ks ks with
  | false => rw [hk] at e; cases e
  | true =>
  rw [hk] at e
  simp only [cond_true] at e
  split at e
  case h_2 => cases e
  rename_i x _
  injection e with e
  exact ⟨ks, x, hks, e.symm⟩

/-- An exit, as the machine has it. -/
def Ex.out : Ex → Exit
  | .n => .normal | .x id => .exit id | .r => .ret

/-- A loop that is entered: its body, then it again. -/
def LoopWp (P : Program) (c : Code) (Q : Exit → Act → World → Prop) (a : Act) (w : World) : Prop :=
  ∀ (b : Frame) (k : List Item) (cs : List Frame), ∃ e a' w', Q e a' w' ∧ Arrives P (lone (b.at a (.code c :: .inLoop c :: k)) cs w) b k cs e a' w'
theorem LoopWp.wp {c : Code} (h : LoopWp P c Q a w) : (Code.loop c).wp P Q a w := fun b k cs => by
  obtain ⟨e, a', w', hq, harr⟩ := h b k cs
  exact ⟨e, a', w', hq, .of_steps (.one step_loop) harr⟩
theorem LoopWp.round {c : Code} (h : c.wp P (Exit.then (LoopWp P c Q) Q) a w) : LoopWp P c Q a w := fun b k cs => by
  obtain ⟨e, a₁, w₁, hq, harr⟩ := h b (.inLoop c :: k) cs
  cases e with
  | normal =>
    obtain ⟨e₂, a₂, w₂, hq₂, harr₂⟩ := hq b k cs
    exact ⟨e₂, a₂, w₂, hq₂, .of_steps (Steps.trans harr (.one step_inLoop)) harr₂⟩
  | exit id => exact ⟨_, a₁, w₁, hq, .pass (x := .inLoop c) rfl (fun _ _ => .inl (by simp)) harr⟩
  | goto l => exact ⟨_, a₁, w₁, hq, .pass (x := .inLoop c) rfl (fun _ _ => .inl (by simp)) harr⟩
  | ret => exact ⟨_, a₁, w₁, hq, .pass (x := .inLoop c) rfl (fun _ _ => .inl (by simp)) harr⟩
  | panic ch => exact ⟨_, a₁, w₁, hq, .pass (x := .inLoop c) rfl (fun _ _ => .inl (by simp)) harr⟩
  | outgrown => exact ⟨_, a₁, w₁, hq, .pass (x := .inLoop c) rfl (fun _ _ => .inl (by simp)) harr⟩

/-- The loops of a text. -/
def loopsIn : Code → List Code
  | .seq a b => loopsIn a ++ loopsIn b
  | .cond _ a b => loopsIn a ++ loopsIn b
  | .block _ c => loopsIn c
  | .loop c => c :: loopsIn c
  | _ => []

/-- What the loops' handler is to be: if it goes through, so does the loop. -/
def LoopOK (P : Program) (hh : Hint) (w0 : World) (W0 Z : Nat → Prop) (H : Nat → Value) (ret : Ret) (L : Nat → St → Ks → Option Ret) (c : Code) : Prop :=
  ∀ (S : St) (K : Ks) (Q : Exit → Act → World → Prop) (a : Act) (w : World), (∃ ks x, heads hh.loops (keyOf c) = some ks ∧ S = shape ks x) → L (keyOf c) S (hh.onOut (keyOf c) K) = some ret → Rel w0 W0 Z H S a w → (∀ e S a w, K e S = some ret → Rel w0 W0 Z H S a w → Q e.out a w) → (∀ c a w, ¬ Q (.panic c) a w) → LoopWp P c Q a w

theorem pe_ok (hm : P.follows .mixedOrders = true) (hT : tabB P hh.tab = true) (hO : OrcOK Γ P O w0 W0) {L : Nat → St → Ks → Option Ret} : ∀ (c : Code) {S : St} {K : Ks} {Q : Exit → Act → World → Prop} {a : Act} {w : World}, ordsOK hh O c = true →
    (∀ c' ∈ loopsIn c, LoopOK P hh w0 W0 Z H ret L c') → pe hh O L c S K = some ret → Rel w0 W0 Z H S a w → (∀ e S a w, K e S = some ret → Rel w0 W0 Z H S a w → Q e.out a w) → (∀ c a w, ¬ Q (.panic c) a w) → c.wp P Q a w := by
  intro c
  induction c with
  | skip => intro S K Q a w hor hL e h hQ hQp; exact wp_skip (hQ .n S a w e h)
  | seq x y ihx ihy =>
    intro S K Q a w hor hL e h hQ hQp
    simp only [pe] at e
    simp only [ordsOK, Bool.and_eq_true] at hor
    refine wp_seq (ihx hor.1 (fun c hc => hL c (by simp [loopsIn, hc])) e h (fun e1 S1 a1 w1 h1 h2 => ?_) (fun c a w => hQp c a w))
    cases e1 with
    | n => exact ihy hor.2 (fun c hc => hL c (by simp [loopsIn, hc])) h1 h2 hQ hQp
    | x id => exact hQ _ _ _ _ h1 h2
    | r => exact hQ _ _ _ _ h1 h2
  | cond c x y ihx ihy =>
    intro S K Q a w hor hL e h hQ hQp
    simp only [pe] at e
    split at e
    case h_2 => cases e
    rename_i m q hq
    obtain ⟨σ, h⟩ := h
    obtain ⟨cs, h1, h2, _⟩ := rd_spec h hq
    have hv := match_bool h1 h2
    refine wp_cond hv ?_
    simp only [ordsOK, Bool.and_eq_true] at hor
    cases q with
    | true => exact ihx hor.1 (fun c hc => hL c (by simp [loopsIn, hc])) e ⟨σ, h⟩ hQ hQp
    | false => exact ihy hor.2 (fun c hc => hL c (by simp [loopsIn, hc])) e ⟨σ, h⟩ hQ hQp
  | block id c ih =>
    intro S K Q a w hor hL e h hQ hQp
    simp only [pe] at e
    refine wp_block (ih (by simpa [ordsOK] using hor) (fun c hc => hL c (by simpa [loopsIn] using hc)) e h (fun e1 S1 a1 w1 h1 h2 => ?_) (fun c a w => hQp c a w))
    cases e1 with
    | n => exact hQ _ _ _ _ h1 h2
    | r => exact hQ _ _ _ _ h1 h2
    | x id' =>
      simp only [Ex.out, Exit.inBlock]
      cases hb : Nat.beq id' id with
      | true =>
        simp only [hb, cond_true] at h1
        rw [if_pos (Nat.eq_of_beq_eq_true hb)]
        exact hQ .n _ _ _ h1 h2
      | false =>
        simp only [hb, cond_false] at h1
        rw [if_neg (fun e => by rw [e, Nat.beq_refl] at hb; cases hb)]
        exact hQ (.x id') _ _ _ h1 h2
  | loop c ih =>
    intro S K Q a w hor hL e h hQ hQp
    simp only [pe] at e
    split at e
    case h_2 => cases e
    rename_i S1 hS1
    exact (hL c (by simp [loopsIn]) _ K Q a w (clean_shape hS1) e (rel_clean h hS1) hQ hQp).wp
  | exit id => intro S K Q a w hor hL e h hQ hQp; exact wp_exit (hQ (.x id) S a w e h)
  | ret => intro S K Q a w hor hL e h hQ hQp; exact wp_ret (hQ .r S a w e h)
  | region id ops d =>
    intro S K Q a w hor hL e h hQ hQp
    have hend : ∀ a w, Then w0 W0 Z H (fun S1 => K .n (sweep S1)) ret a w → Q .normal a w := fun a w ⟨S', h1, h2⟩ => hQ .n _ a w h1 (rel_sweep h2)
    cases d with
    | false =>
      simp only [pe] at e
      exact wp_region (idx_ok hT hO hend _ e h)
    | true =>
      simp only [pe] at e
      split at e
      case h_2 => cases e
      rename_i l hl
      simp only [ordsOK, hl] at hor
      refine wp_region_any hm (ordB_ok hT hO hend hQp hor e ?_)
      obtain ⟨σ, h⟩ := h
      refine ⟨σ, h.len, h.defers, ⟨h.fr.os, h.fr.tape, h.fr.output, h.fr.size, h.fr.block⟩, h.new, h.lt, h.old, fun i => ?_⟩
      have hst : Stays w { w with drawn := w.drawn + 1 } (Av σ Z) (Av σ Z) := ⟨fun _ _ _ => rfl, fun _ _ h => h⟩
      exact (h.holds i).kept hst (fun g hg _ => ⟨rfl, hg⟩) (fun s _ => ⟨fun _ _ h => h, rfl, _, h.holds s, fun _ _ _ => rfl⟩)
  | _ => intro S K Q a w hor hL e h hQ hQp; simp [pe] at e

theorem loops_sub : ∀ (c c' : Code), c' ∈ loopsIn c → ∀ c'' ∈ loopsIn c', c'' ∈ loopsIn c := by
  intro c
  induction c with
  | seq x y ihx ihy =>
    intro c' h c'' h'
    simp only [loopsIn, List.mem_append] at h ⊢
    exact h.imp (fun h => ihx c' h c'' h') (fun h => ihy c' h c'' h')
  | cond _ x y ihx ihy =>
    intro c' h c'' h'
    simp only [loopsIn, List.mem_append] at h ⊢
    exact h.imp (fun h => ihx c' h c'' h') (fun h => ihy c' h c'' h')
  | block id c ih => intro c' h c'' h'; simp only [loopsIn] at h ⊢; exact ih c' h c'' h'
  | loop c ih =>
    intro c' h c'' h'
    simp only [loopsIn, List.mem_cons] at h ⊢
    rcases h with rfl | h
    · exact .inr h'
    · exact .inr (ih c' h c'' h')
  | _ => intro c' h; simp [loopsIn] at h

theorem loops_ords : ∀ (c c' : Code), ordsOK hh O c = true → c' ∈ loopsIn c → ordsOK hh O c' = true := by
  intro c
  induction c with
  | seq x y ihx ihy =>
    intro c' ho h
    simp only [ordsOK, Bool.and_eq_true] at ho
    simp only [loopsIn, List.mem_append] at h
    exact h.elim (ihx c' ho.1) (ihy c' ho.2)
  | cond _ x y ihx ihy =>
    intro c' ho h
    simp only [ordsOK, Bool.and_eq_true] at ho
    simp only [loopsIn, List.mem_append] at h
    exact h.elim (ihx c' ho.1) (ihy c' ho.2)
  | block id c ih => intro c' ho h; simp only [loopsIn] at h; simp only [ordsOK] at ho; exact ih c' ho h
  | loop c ih =>
    intro c' ho h
    simp only [ordsOK] at ho
    simp only [loopsIn, List.mem_cons] at h
    rcases h with rfl | h
    · exact ho
    · exact ih c' ho h
  | _ => intro c' _ h; simp [loopsIn] at h

/-- The loops in a loop bear other names. -/
def keysB : Code → Bool
  | .seq a b => keysB a && keysB b
  | .cond _ a b => keysB a && keysB b
  | .block _ c => keysB c
  | .loop c => ((loopsIn c).all fun c' => !Nat.beq (keyOf c') (keyOf c)) && keysB c
  | _ => true

/-- The loops of a text, by their rounds. -/
theorem loops_ok (hm : P.follows .mixedOrders = true) (hT : tabB P hh.tab = true) (hO : OrcOK Γ P O w0 W0) {Lf : Nat → Nat → St → Ks → Option Ret} {N : Nat} (h0 : ∀ k S K, Lf 0 k S K = none) : ∀ (body : Code), ordsOK hh O body = true → keysB body = true →
    (∀ c ∈ loopsIn body, ∀ (n : Nat) (ks : List Kd) (x : Vals ks) (K : Ks) (r : Ret), heads hh.loops (keyOf c) = some ks → Lf (n + 1) (keyOf c) (shape ks x) (hh.onOut (keyOf c) K) = some r → peRound hh O (mixL Lf N n (keyOf c)) c (shape ks x) (hh.onOut (keyOf c) K) = some r) →
    ∀ c ∈ loopsIn body, ∀ (n : Nat), LoopOK P hh w0 W0 Z H ret (Lf n) c := by
  intro body
  induction body with
  | seq x y ihx ihy =>
    intro ho hk hround c hc n
    simp only [ordsOK, Bool.and_eq_true] at ho
    simp only [keysB, Bool.and_eq_true] at hk
    simp only [loopsIn, List.mem_append] at hc hround
    exact hc.elim (fun hc => ihx ho.1 hk.1 (fun c hc => hround c (.inl hc)) c hc n) (fun hc => ihy ho.2 hk.2 (fun c hc => hround c (.inr hc)) c hc n)
  | cond _ x y ihx ihy =>
    intro ho hk hround c hc n
    simp only [ordsOK, Bool.and_eq_true] at ho
    simp only [keysB, Bool.and_eq_true] at hk
    simp only [loopsIn, List.mem_append] at hc hround
    exact hc.elim (fun hc => ihx ho.1 hk.1 (fun c hc => hround c (.inl hc)) c hc n) (fun hc => ihy ho.2 hk.2 (fun c hc => hround c (.inr hc)) c hc n)
  | block id x ih =>
    intro ho hk hround c hc n
    simp only [ordsOK] at ho
    simp only [keysB] at hk
    simp only [loopsIn] at hc hround
    exact ih ho hk hround c hc n
  | loop x ih =>
    intro ho hk hround c hc n
    simp only [ordsOK] at ho
    simp only [keysB, Bool.and_eq_true, List.all_eq_true, Bool.not_eq_true'] at hk
    simp only [loopsIn, List.mem_cons] at hc hround
    have hin := ih ho hk.2 (fun c hc => hround c (.inr hc))
    rcases hc with rfl | hc
    · induction n with
      | zero => intro S K Q a w _ e; rw [h0] at e; cases e
      | succ n ihn =>
        intro S K Q a w hs e h hQ hQp
        obtain ⟨ks, x, hks, rfl⟩ := hs
        have hr := hround c (.inl rfl) n ks x K ret hks e
        unfold peRound at hr
        refine LoopWp.round (pe_ok hm hT hO c ho (fun c' hc' => ?_) hr h (fun e1 S1 a1 w1 h1 h2 => ?_) (fun c a w => hQp c a w))
        · have hL : mixL Lf N n (keyOf c) (keyOf c') = Lf N (keyOf c') := by
            funext S K
            unfold mixL
            rw [hk.1 c' hc']
            rfl
          intro S K Q a w hs e
          rw [hL] at e
          exact hin c' hc' N S K Q a w hs e
        · cases e1 with
          | n =>
            simp only at h1
            split at h1
            case h_2 => cases h1
            rename_i S2 hS2
            have hL : mixL Lf N n (keyOf c) (keyOf c) = Lf n (keyOf c) := by
              funext S K
              unfold mixL
              rw [Nat.beq_refl]
              rfl
            rw [hL] at h1
            exact ihn _ K Q a1 w1 (clean_shape hS2) h1 (rel_clean h2 hS2) hQ hQp
          | x id => obtain ⟨S2, h3, h4⟩ := rel_out h2 h1; exact hQ _ _ _ _ h3 h4
          | r => obtain ⟨S2, h3, h4⟩ := rel_out h2 h1; exact hQ _ _ _ _ h3 h4
    · exact hin c hc n
  | _ => intro _ _ _ c hc; simp [loopsIn] at hc
/-- The loops go on in one way. -/
theorem loops_det (hO : ODet O) {N : Nat} {Lf : Nat → Nat → St → Ks → Option Ret} (h0 : ∀ k S K, Lf 0 k S K = none) : ∀ (body : Code), plainC body = true →
    (∀ c ∈ loopsIn body, ∀ (n : Nat) (ks : List Kd) (x : Vals ks) (K : Ks), heads hh.loops (keyOf c) = some ks → Lf (n + 1) (keyOf c) (shape ks x) (hh.onOut (keyOf c) K) = peRound hh O (mixL Lf N n (keyOf c)) c (shape ks x) (hh.onOut (keyOf c) K)) →
    ∀ k ∈ keysIn body, ∀ n, n = N ∨ k = keyOf body ∧ (∃ c, body = .loop c) → LDet hh (Lf n) k := by
  intro body
  induction body with
  | seq a b iha ihb =>
    intro hp hround k hk n hn
    simp only [plainC, Bool.and_eq_true] at hp
    simp only [keysIn, List.mem_append] at hk
    simp only [loopsIn, List.mem_append] at hround
    have hn : n = N := hn.elim id (fun h => by obtain ⟨_, c, hc⟩ := h; cases hc)
    rcases hk with hk | hk
    · exact iha hp.1 (fun c hc => hround c (.inl hc)) k hk n (.inl hn)
    · exact ihb hp.2 (fun c hc => hround c (.inr hc)) k hk n (.inl hn)
  | cond q a b iha ihb =>
    intro hp hround k hk n hn
    simp only [plainC, Bool.and_eq_true] at hp
    simp only [keysIn, List.mem_append] at hk
    simp only [loopsIn, List.mem_append] at hround
    have hn : n = N := hn.elim id (fun h => by obtain ⟨_, c, hc⟩ := h; cases hc)
    rcases hk with hk | hk
    · exact iha hp.1 (fun c hc => hround c (.inl hc)) k hk n (.inl hn)
    · exact ihb hp.2 (fun c hc => hround c (.inr hc)) k hk n (.inl hn)
  | block bid c ih =>
    intro hp hround k hk n hn
    have hn : n = N := hn.elim id (fun h => by obtain ⟨_, c, hc⟩ := h; cases hc)
    exact ih hp hround k hk n (.inl hn)
  | loop c ih =>
    intro hp hround k hk n _
    simp only [plainC] at hp
    simp only [keysIn, List.mem_cons] at hk
    simp only [loopsIn, List.mem_cons] at hround
    have hin : ∀ k ∈ keysIn c, LDet hh (Lf N) k := fun k hk => ih hp (fun c' hc' => hround c' (.inr hc')) k hk N (.inl rfl)
    have hself : ∀ n, LDet hh (Lf n) (keyOf c) := by
      intro n
      induction n with
      | zero => intro ks x _; exact ⟨none, fun K => h0 _ _ _⟩
      | succ n ihn =>
        intro ks x hks
        have e : (fun K => Lf (n + 1) (keyOf c) (shape ks x) (hh.onOut (keyOf c) K)) = fun K => peRound hh O (mixL Lf N n (keyOf c)) c (shape ks x) (hh.onOut (keyOf c) K) := funext fun K => hround c (.inl rfl) n ks x K hks
        have hL : ∀ k ∈ keysIn c, LDet hh (mixL Lf N n (keyOf c)) k := fun k hk => by
          intro ks' x' hks'
          unfold mixL
          cases hb : Nat.beq k (keyOf c) with
          | true =>
            have := Nat.eq_of_beq_eq_true hb
            subst this
            exact ihn ks' x' hks'
          | false => exact hin k hk ks' x' hks'
        rw [e]
        unfold peRound
        refine KDet.bind (Y := fun e1 S1 K => match e1 with
          | .n => (match hh.clean (keyOf c) S1 with
            | some S2 => mixL Lf N n (keyOf c) (keyOf c) S2 (hh.onOut (keyOf c) K)
            | none => none)
          | e1 => hh.onOut (keyOf c) K e1 S1) (pe_det hO c _ hp hL) fun e1 S1 => ?_
        cases e1 with
        | n =>
          simp only
          split
          · rename_i S2 hS2
            obtain ⟨ks2, x2, hk2, rfl⟩ := clean_shape' hS2
            unfold mixL
            rw [Nat.beq_refl]
            exact ihn ks2 x2 hk2
          · exact KDet.none
        | x id => exact onOut_det hh (keyOf c) _ S1
        | r => exact onOut_det hh (keyOf c) _ S1
    rcases hk with rfl | hk
    · exact hself n
    · rename_i hn
      rcases hn with rfl | ⟨rfl, _⟩
      · exact hin k hk
      · exact hself n
  | _ => intro _ _ k hk; simp [keysIn] at hk
end Go.Pv

namespace Go.Pv
set_option linter.unusedVariables false
set_option linter.unusedSimpArgs false
variable {Γ : Gl} {P : Program} {w w' : World} {A A' Wr : Nat → Prop} {H : Nat → Value} {tm tm' : Nat → Value} {S S' S1 : St} {σ σ1 σ2 : Nat → Option Nat} {w0 : World} {W0 Z : Nat → Prop} {a : Act} {own : Nat → Prop} {v : Value} {Θ : Tab} {dst : Option Nat} {O : Orc} {hh : Hint} {Q : Exit → Act → World → Prop} {ret : Ret} {ops : Array Oper}

/-- One result, as the machine has it. -/
def resOf (a : Act) : ResultVar → Sem Value
  | .tmp t => pure (a.tmps.getD t undef)
  | .cell c t => do loadVar t (← asAddr (a.tmps.getD c undef))

theorem endRes_spec (hT : tabB P Θ = true) : ∀ (rs : List ResultVar) (j : Nat) {S S1 : St} {σ : Nat → Option Nat} {l : List TV}, RelS σ w0 W0 Z H S a w → endRes Θ S rs = some (l, S1) →
    ∃ (σ1 : Nat → Option Nat) (ow : Nat → Prop) (τ : Nat → Nat) (vs : List Value), (RelS σ1 w0 W0 Z H S1 a w ∧ S1.length = S.length) ∧ Took σ σ1 S.length ow ∧ l.length = rs.length ∧ (∀ g, ow g → j ≤ τ g) ∧ (rs.mapM (resOf a)).run P w = .ok vs w ∧ vs.length = rs.length ∧
      ∀ (k : Nat) (b : TV), l[k]? = some b → ∃ u cs, vs[k]? = some u ∧ matchV b.t u cs ∧ M w (Av σ Z) H b.t b.m b.x cs (fun g => ow g ∧ τ g = j + k) []
  | [], j, S, S1, σ, l, h, e => by
    simp only [endRes, Option.some.injEq, Prod.mk.injEq] at e
    obtain ⟨rfl, rfl⟩ := e
    exact ⟨σ, fun _ => False, fun _ => j, [], ⟨h, rfl⟩, Took.none _ _, rfl, fun _ h => h.elim, by simp, rfl, fun k b hk => by simp at hk⟩
  | q :: r, j, S, S1, σ, l, h, e => by
    have key : ∃ (b : TV) (l2 : List TV) (S2 : St) (u : Value) (σ1 : Nat → Option Nat) (cs : List Value) (ow : Nat → Prop), l = b :: l2 ∧ RelS σ1 w0 W0 Z H S2 a w ∧ endRes Θ S2 r = some (l2, S1) ∧ (resOf a q).run P w = .ok u w ∧
        matchV b.t u cs ∧ M w (Av σ Z) H b.t b.m b.x cs ow [] ∧ Took σ σ1 S.length ow ∧ S2.length = S.length := by
      cases q with
      | tmp t =>
        simp only [endRes] at e
        split at e
        case h_2 => cases e
        rename_i b S2 hb
        split at e
        case h_2 => cases e
        rename_i l2 S3 hl
        simp only [Option.some.injEq, Prod.mk.injEq] at e
        obtain ⟨rfl, rfl⟩ := e
        obtain ⟨σ1, cs, ow, h1, hm, hM, hk, hn⟩ := takeA_spec (Θ := []) (T := 0) (x := .tmp t) h rfl hb
        exact ⟨b, l2, S2, tmOf a t, σ1, cs, ow, rfl, h1, hl, rfl, hm, hM, hk, hn⟩
      | cell t T =>
        simp only [endRes] at e
        split at e
        case h_2 => cases e
        rename_i ty T' tag me x hat
        split at e
        case h_2 => cases e
        rename_i l2 S3 hl
        cases hs : Θ.is T ty with
        | false => rw [hs] at e; cases e
        | true =>
        rw [hs] at e
        simp only [cond_true, Option.some.injEq, Prod.mk.injEq] at e
        obtain ⟨rfl, rfl⟩ := e
        have hh := h.holds t
        rw [hat] at hh
        obtain ⟨cs, h1, h2⟩ := hh
        simp only [M] at h2
        rcases h2 with ⟨hn, _⟩ | ⟨hk, _⟩ | ⟨T2, tag2, me2, g, cur, e2, rfl, ht, hg, hw, hM⟩
        · simp at hn
        · simp [Md.isK] at hk
        · injection e2 with e2 e2' e2''
          subst e2 e2' e2''
          have hlen := (M_ok ty hM).1
          have hrow : rowAt w g 0 ty.size = some cur.toList := by
            rw [rowAt_own hw (by rw [← hlen]; simp), List.drop_zero, List.take_of_length_le (by omega)]
          obtain ⟨u, hu, hmu⟩ := load_run (P := P) hT hs hrow
          have hv : tmOf a t = .pointer (some ⟨g, 0, none⟩) := by simpa [matchV, isAgg] using h1.symm
          have hrun : (resOf a (.cell t T)).run P w = .ok u w := by
            have h3 := hu w (Ext.refl w)
            simp only [Instr.loadAt, Instr.sureAddr, Sem.run_bind, Sem.run_pure, Result.andThen_ok] at h3
            have hv' : a.tmps.getD t undef = .pointer (some ⟨g, 0, none⟩) := hv
            simp only [resOf, hv', asAddr, Sem.run_bind, Sem.run_pure, Result.andThen_ok]
            exact h3
          exact ⟨⟨ty, _, x⟩, l2, _, u, _, cur.toList, fun g' => σ g' = some t ∧ g' ≠ g, rfl, h.park t, hl, hrun, hmu, M_move (Stays.refl _ _) _ (fun _ _ _ => rfl) (fun g' hg' _ => hg') (fun _ h => by simp [sub] at h) hM, Took.park σ (at_lt (by rw [hat]; exact fun e => by cases e)) (fun g' hg' => hg'.1), put_len' _ _ _⟩
    obtain ⟨b, l2, S2, u, σ1, cs, ow, rfl, h1, hl, hrun, hm, hM, hk, hn⟩ := key
    obtain ⟨σ2, ow2, τ, vs, ⟨k2, k2'⟩, k3, k4, k5, k6, k6', k7⟩ := endRes_spec hT r (j + 1) h1 hl
    rw [hn] at k3
    have hap : ∀ g, ow g → ¬ ow2 g := fun g hg => hk.apart k3 hg
    let τ' : Nat → Nat := fun g => open Classical in if ow g then j else τ g
    refine ⟨σ2, fun g => ow g ∨ ow2 g, τ', u :: vs, ⟨k2, by omega⟩, hk.trans k3, by simp [k4], fun g hg => ?_, ?_, by simp [k6'], fun k b' hk' => ?_⟩
    · simp only [τ']
      split
      · exact Nat.le_refl _
      · rename_i hx
        have := k5 g (hg.resolve_left hx)
        omega
    · rw [List.mapM_cons]
      simp only [Sem.run_bind, hrun, Result.andThen_ok, k6, Sem.run_pure]
    · cases k with
      | zero =>
        simp only [List.getElem?_cons_zero, Option.some.injEq] at hk'
        subst hk'
        exact ⟨u, cs, rfl, hm, M_move (Stays.refl _ _) _ (fun _ _ _ => rfl) (fun g hg _ => ⟨.inl hg, by simp only [τ', if_pos hg, Nat.add_zero]⟩) (fun _ h => h) hM⟩
      | succ k =>
        obtain ⟨u', cs', q1, q2, q3⟩ := k7 k b' (by simpa using hk')
        refine ⟨u', cs', by simpa using q1, q2, M_move ⟨fun _ _ _ => rfl, fun g _ hg => hk.Av.2 hg⟩ _ (fun _ _ _ => rfl) (fun g hg _ => ⟨.inr hg.1, ?_⟩) (fun _ h => h) q3⟩
        simp only [τ']
        rw [if_neg (fun hx => hap g hx hg.1), hg.2]
        omega

theorem results_run {fn : Func} {vs : List Value} (hv : (fn.results.toList.mapM (resOf a)).run P w = .ok vs w) : (results fn a.tmps).run P w = .ok (packV vs) w := by
  have hpack : ∀ vs : List Value, (if h : vs.toArray.size = 1 then vs.toArray[0] else Value.tuple vs.toArray) = packV vs := by
    intro vs
    match vs with
    | [] => rfl
    | [u] => rfl
    | u :: u' :: r => rw [dif_neg (by simp)]; rfl
  unfold results
  rw [Sem.run_bind, Array.mapM_eq_mapM_toList]
  rw [map_eq_pure_bind, Sem.run_bind]
  erw [hv]
  simp only [Result.andThen_ok, Sem.run_pure, hpack]

theorem lent_M {dr : Bool} {b c : TV} {cs : List Value} {ow : Nat → Prop} (h : lentTV dr b = some c) (hM : M w A H b.t b.m b.x cs ow []) : ∃ cs, M w A H c.t c.m c.x cs ow [] := by
  unfold lentTV at h
  split at h
  · injection h with h; subst h; exact ⟨cs, hM⟩
  · injection h with h
    subst h
    simp only [M] at hM
    rcases hM with ⟨hn, _⟩ | ⟨hk, _⟩ | ⟨T2, tag2, me2, g, cur, e2, rfl, ht, hg, hw, hM⟩
    · simp at hn
    · simp [Md.isK] at hk
    · injection e2 with e2 e2' e2''
      subst e2 e2' e2''
      exact ⟨cur.toList, M_move (Stays.refl _ _) _ (fun _ _ _ => rfl) (fun g hg _ => hg.1) (fun _ h => by simp [sub] at h) hM⟩
  · cases h

/-- A function's text does what is told of it. -/
theorem fun_ok (hm : P.follows .mixedOrders = true) (hT : tabB P hh.tab = true) (hS : OrcS Γ P O) {f : FuncId} {fn : Func} {body : Code} (hf : P.funcs[f]? = some fn) (hb : fn.body = some body) (hnm : (fn.name == "runtime.NumGoroutine") = false)
    (hor : ordsOK hh O body = true) (hky : keysB body = true) {N : Nat} {Lf : Nat → Nat → St → Ks → Option Ret} (h0 : ∀ k S K, Lf 0 k S K = none)
    (hround : ∀ c ∈ loopsIn body, ∀ (n : Nat) (ks : List Kd) (x : Vals ks) (K : Ks) (r : Ret), heads hh.loops (keyOf c) = some ks → Lf (n + 1) (keyOf c) (shape ks x) (hh.onOut (keyOf c) K) = some r → peRound hh O (mixL Lf N n (keyOf c)) c (shape ks x) (hh.onOut (keyOf c) K) = some r)
    {run : List Arg → (Ret → Option Ret) → Option Ret} (hrun : ∀ args kf r, run args kf = some r → args.length ≤ fn.ntmps ∧ peFunc hh O (Lf N) fn args kf = some r) : SoundAt Γ P f run := by
  intro args kf ret w σ vals H B hr hin
  obtain ⟨hlen, hr⟩ := hrun args kf ret hr
  unfold peFunc at hr
  rw [hb] at hr
  simp only at hr
  have hnm' : ¬ fn.name = "runtime.NumGoroutine" := by simpa using hnm
  refine .inl ⟨by simp [callFunc, hf, hnm', hb], calls_of_wp hf hb ?_⟩
  let a0 : Act := { tmps := vals.toArray ++ Array.replicate (fn.ntmps - vals.toArray.size) undef, defers := [] }
  have hO : OrcOK Γ P O w (Own σ) := ⟨hS, fun g o hg => ⟨fun ⟨i, hi⟩ => (by rw [(hin.env g o hg).1] at hi; cases hi), (hin.env g o hg).2⟩⟩
  have hR : RelS σ w (Own σ) B H (start fn args) a0 w := by
    refine ⟨?_, rfl, ⟨rfl, rfl, rfl, Nat.le_refl _, fun _ _ _ => rfl⟩, fun g i hg => .inr ⟨i, hg⟩, fun g i hg => (hin.lt g i hg).2, hin.old, fun i => ?_⟩
    · simp only [start, a0, List.length_append, List.length_map, List.length_replicate, Array.size_append, List.size_toArray, Array.size_replicate, hin.len]
    · have htm : tmOf a0 i = if h : i < vals.length then vals[i] else undef := by
        unfold tmOf
        simp only [a0]
        rw [Array.getD_eq_getD_getElem?]
        split
        · rename_i hl
          rw [Array.getElem?_append_left (by simpa using hl)]
          simp [hl]
        · rename_i hl
          rw [Array.getElem?_append_right (by simpa using hl), Array.getElem?_replicate]
          split <;> rfl
      have hat : (start fn args).at i = if h : i < args.length then argAV args[i] else if i < fn.ntmps then .undef else .dead := by
        unfold start St.at
        rw [List.getD_eq_getElem?_getD]
        split
        · rename_i hl
          rw [List.getElem?_append_left (by simpa using hl), List.getElem?_map, List.getElem?_eq_getElem hl]
          rfl
        · rename_i hl
          rw [List.getElem?_append_right (by simpa using hl), List.getElem?_replicate]
          simp only [List.length_map]
          by_cases hn : i < fn.ntmps
          · rw [if_pos (by omega), if_pos hn]; rfl
          · rw [if_neg (by omega), if_neg hn]; rfl
      rw [hat, htm]
      by_cases hl : i < args.length
      · rw [dif_pos hl, dif_pos (by rw [hin.len]; exact hl)]
        obtain ⟨v, hv, hok⟩ := hin.ok i args[i] (List.getElem?_eq_getElem hl)
        rw [List.getElem?_eq_getElem (by rw [hin.len]; exact hl)] at hv
        injection hv with hv
        rw [hv]
        cases hai : args[i] with
        | tv b =>
          rw [hai] at hok
          exact hok
        | fn f' caps =>
          rw [hai] at hok
          obtain ⟨vs, v1, v2, v3⟩ := hok
          refine ⟨vs, v1, by rw [v2, List.length_map], fun j c hj => ?_⟩
          rw [List.getElem?_map] at hj
          cases hc : caps[j]? with
          | none => rw [hc] at hj; cases hj
          | some c' =>
            rw [hc] at hj
            simp only [Option.map_some, Option.some.injEq] at hj
            subst hj
            exact v3 j c' hc
      · rw [dif_neg hl, dif_neg (by rw [hin.len]; exact hl)]
        split
        · rfl
        · trivial
  refine pe_ok (Q := bodyPost P fn _) hm hT hO body hor (fun c hc => loops_ok hm hT hO h0 body hor hky hround c hc N) hr ⟨σ, hR⟩ (fun e S a1 w1 he hrel => ?_) (fun c a w hq => hq.2.elim)
  obtain ⟨σ1, h1⟩ := hrel
  have fin : ∀ (x : Option Ret), (match endRes hh.tab S fn.results.toList with
      | some (l, S1) => (match hh.lent with
        | none => kf ⟨l, []⟩
        | some q => match S1.at q.1 with
          | .v b [] => (match lentTV q.2 b with
            | some c => kf ⟨l, [c]⟩
            | none => none)
          | _ => none)
      | none => none) = x → x = some ret → a1.defers = [] ∧ ∃ v, (results fn a1.tmps).run P w1 = .ok v w1 ∧ ∃ rt, kf rt = some ret ∧ Out B H w w1 σ rt v := by
    intro x hx hx2
    subst hx
    split at hx2
    case h_2 => cases hx2
    rename_i l S1 hl
    obtain ⟨σ2, ow, τ, vs, ⟨k2, k2'⟩, k3, k4, k5, k6, k6', k7⟩ := endRes_spec hT fn.results.toList 0 h1 hl
    refine ⟨h1.defers, _, results_run k6, ?_⟩
    cases hlent : hh.lent with
    | none =>
      rw [hlent] at hx2
      refine ⟨_, hx2, ⟨h1.fr, ?_⟩⟩
      let σ' : Nat → Option Nat := fun g => open Classical in if ow g then some (τ g) else none
      have hσ' : ∀ g i, σ' g = some i ↔ ow g ∧ τ g = i := fun g i => by
        simp only [σ']
        split
        · rename_i hx; exact ⟨fun hg => ⟨hx, by injection hg⟩, fun hg => by rw [hg.2]⟩
        · rename_i hx; exact ⟨fun hg => (by cases hg), fun hg => absurd hg.1 hx⟩
      refine ⟨σ', vs, rfl, by rw [k4, k6'], fun g i hg => ?_, fun i b hb => ?_, fun c hc => by cases hc⟩
      · obtain ⟨j, _, hj⟩ := k3.was g ((hσ' g i).1 hg).1
        exact ⟨h1.new g j hj, h1.lt g j hj⟩
      · obtain ⟨u, cs, u1, u2, u3⟩ := k7 i b hb
        refine ⟨u, cs, u1, u2, M_move ⟨fun _ _ _ => rfl, fun g _ hg => ?_⟩ _ (fun _ _ _ => rfl) (fun g hg _ => (hσ' g i).2 ⟨hg.1, by rw [hg.2]; omega⟩) (fun _ h => h) u3⟩
        rcases hg with ⟨i, hi⟩ | hz
        · obtain ⟨j, _, hj⟩ := k3.was g ((hσ' g i).1 hi).1
          exact .inl ⟨j, hj⟩
        · exact .inr hz
    | some ql =>
      obtain ⟨jl, dr⟩ := ql
      rw [hlent] at hx2
      simp only at hx2
      split at hx2
      case h_2 => cases hx2
      rename_i bl0 hatl
      split at hx2
      case h_2 => cases hx2
      rename_i bl hbl
      refine ⟨_, hx2, ⟨h1.fr, ?_⟩⟩
      have hjl : jl < S.length := by rw [← k2']; exact at_lt (by rw [hatl]; exact fun e => by cases e)
      let σ' : Nat → Option Nat := fun g => open Classical in if ow g then (if τ g < l.length then some (τ g) else none) else if σ2 g = some jl then some l.length else none
      have hσ1 : ∀ g i, σ' g = some i → (ow g ∧ τ g = i ∧ i < l.length) ∨ (¬ ow g ∧ σ2 g = some jl ∧ i = l.length) := fun g i hg => by
        simp only [σ'] at hg
        split at hg
        · split at hg
          · injection hg with hg; exact .inl ⟨by assumption, hg, by omega⟩
          · cases hg
        · split at hg
          · injection hg with hg; exact .inr ⟨by assumption, by assumption, hg.symm⟩
          · cases hg
      have hσ2 : ∀ g i, ow g → τ g = i → i < l.length → σ' g = some i := fun g i h1 h2 h3 => by
        simp only [σ', if_pos h1]
        rw [h2, if_pos h3]
      have hσ3 : ∀ g, σ2 g = some jl → σ' g = some l.length := fun g hg => by
        have hno : ¬ ow g := fun hx => by
          obtain ⟨i, hi, hi2⟩ := k3.now g hx
          rw [hg] at hi2
          injection hi2 with hi2
          omega
        simp only [σ', if_neg hno, if_pos hg]
      have hwas : ∀ g i, σ' g = some i → ∃ j, σ1 g = some j := fun g i hg => by
        rcases hσ1 g i hg with ⟨hx, _⟩ | ⟨_, hx, _⟩
        · obtain ⟨j, _, hj⟩ := k3.was g hx; exact ⟨j, hj⟩
        · exact (k3.dom g).1 ⟨jl, hx⟩
      refine ⟨σ', vs, rfl, by rw [k4, k6'], fun g i hg => ?_, fun i b hb => ?_, fun c hc => ?_⟩
      · obtain ⟨j, hj⟩ := hwas g i hg
        exact ⟨h1.new g j hj, h1.lt g j hj⟩
      · obtain ⟨u, cs, u1, u2, u3⟩ := k7 i b hb
        have hil : i < l.length := (List.getElem?_eq_some_iff.1 hb).1
        refine ⟨u, cs, u1, u2, M_move ⟨fun _ _ _ => rfl, fun g _ hg => ?_⟩ _ (fun _ _ _ => rfl) (fun g hg _ => hσ2 g i hg.1 (by rw [hg.2]; omega) hil) (fun _ h => h) u3⟩
        rcases hg with ⟨i, hi⟩ | hz
        · exact .inl (hwas g i hi)
        · exact .inr hz
      · injection hc with hc
        subst hc
        have hh := k2.holds jl
        rw [hatl] at hh
        obtain ⟨cs, _, hM⟩ := hh
        obtain ⟨cs, hM⟩ := lent_M hbl hM
        refine ⟨cs, M_move ⟨fun _ _ _ => rfl, fun g _ hg => ?_⟩ _ (fun _ _ _ => rfl) (fun g hg _ => hσ3 g hg) (fun _ h => h) hM⟩
        rcases hg with ⟨i, hi⟩ | hz
        · obtain ⟨j, hj⟩ := hwas g i hi
          exact k3.Av.2 (.inl ⟨j, hj⟩)
        · exact .inr hz
  cases e with
  | n => exact fin _ rfl he
  | r => exact fin _ rfl he
  | x id => cases he
end Go.Pv

namespace Go.Pv
set_option linter.unusedVariables false
set_option linter.unusedSimpArgs false

/-- A value with a name. -/
@[reducible] def share {α β : Type} (x : α) (k : α → β) : β := k x

/-- What an argument is to be. -/
inductive AK where
  | v (t : Ty) (m : Md) | fn (f : FuncId) (ts : List Ty)
@[reducible] def PVals : List Ty → Type
  | [] => Unit
  | t :: r => t.I × PVals r
def pshape : (ts : List Ty) → PVals ts → List TV
  | [], _ => []
  | t :: r, x => ⟨t, .k, x.1⟩ :: pshape r x.2
def pproj : (ts : List Ty) → List TV → Option (PVals ts)
  | [], [] => some ()
  | t :: r, ⟨t', m', x⟩ :: S => if h : t' = t then (if m' = .k then match pproj r S with
      | some y => some (h ▸ x, y)
      | none => none else none) else none
  | _, _ => none
@[reducible] def AVals : List AK → Type
  | [] => Unit
  | .v t _ :: r => t.I × AVals r
  | .fn _ ts :: r => PVals ts × AVals r
def ashape : (l : List AK) → AVals l → List Arg
  | [], _ => []
  | .v t m :: r, x => .tv ⟨t, m, x.1⟩ :: ashape r x.2
  | .fn f ts :: r, x => .fn f (pshape ts x.1) :: ashape r x.2
def aproj : (l : List AK) → List Arg → Option (AVals l)
  | [], [] => some ()
  | .v t m :: r, .tv ⟨t', m', x⟩ :: S => if h : t' = t then (if m' = m then match aproj r S with
      | some y => some (h ▸ x, y)
      | none => none else none) else none
  | .fn f ts :: r, .fn f' caps :: S => bif Nat.beq f' f then (match pproj ts caps, aproj r S with
      | some y, some z => some (y, z)
      | _, _ => none) else none
  | _, _ => none

theorem pproj_eq : ∀ (ts : List Ty) (S : List TV) {x : PVals ts}, pproj ts S = some x → S = pshape ts x
  | [], [], x, _ => rfl
  | [], _ :: _, x, e => by simp [pproj] at e
  | _ :: r, [], x, e => by simp [pproj] at e
  | t :: r, b :: S, x, e => by
    obtain ⟨bt, bm, bx⟩ := b
    simp only [pproj] at e
    split at e
    case isFalse => cases e
    rename_i ht
    subst ht
    split at e
    case isFalse => cases e
    rename_i hm
    subst hm
    split at e
    case h_2 => cases e
    rename_i y hy
    injection e with e
    subst e
    simp [pshape, ← pproj_eq r S hy]
theorem aproj_eq : ∀ (l : List AK) (S : List Arg) {x : AVals l}, aproj l S = some x → S = ashape l x
  | [], [], x, _ => rfl
  | [], _ :: _, x, e => by simp [aproj] at e
  | .v _ _ :: r, [], x, e => by simp [aproj] at e
  | .fn _ _ :: r, [], x, e => by simp [aproj] at e
  | .v _ _ :: r, .fn _ _ :: S, x, e => by simp [aproj] at e
  | .fn _ _ :: r, .tv _ :: S, x, e => by simp [aproj] at e
  | .v t m :: r, .tv b :: S, x, e => by
    obtain ⟨bt, bm, bx⟩ := b
    simp only [aproj] at e
    split at e
    case isFalse => cases e
    rename_i ht
    subst ht
    split at e
    case isFalse => cases e
    rename_i hm
    subst hm
    split at e
    case h_2 => cases e
    rename_i y hy
    injection e with e
    subst e
    simp [ashape, ← aproj_eq r S hy]
  | .fn f ts :: r, .fn f' caps :: S, x, e => by
    simp only [aproj] at e
    cases hb : Nat.beq f' f with
    | false => rw [hb] at e; cases e
    | true =>
      rw [hb] at e
      simp only [cond_true] at e
      have := Nat.eq_of_beq_eq_true hb
      subst this
      split at e
      case h_2 => cases e
      rename_i y z hy hz
      injection e with e
      subst e
      simp [ashape, ← aproj_eq r S hz, ← pproj_eq ts caps hy]
theorem ashape_length : ∀ (l : List AK) (x : AVals l), (ashape l x).length = l.length
  | [], _ => rfl
  | .v _ _ :: r, x => by simp [ashape, ashape_length r x.2]
  | .fn _ _ :: r, x => by simp [ashape, ashape_length r x.2]

/-- A function's answer to arguments of these kinds. -/
def runOf (l : List AK) (F : AVals l → (Ret → Option Ret) → Option Ret) : List Arg → (Ret → Option Ret) → Option Ret := fun as kf => match aproj l as with
  | some x => F x kf
  | none => none
/-- This one, or else another. -/
def runOr (l : List AK) (F : AVals l → (Ret → Option Ret) → Option Ret) (g : List Arg → (Ret → Option Ret) → Option Ret) : List Arg → (Ret → Option Ret) → Option Ret := fun as kf => match aproj l as with
  | some x => F x kf
  | none => g as kf
def withVals (ks : List Kd) (S : St) (f : Vals ks → Option Ret) : Option Ret := match proj ks S with
  | some x => f x
  | none => none
theorem withVals0 {ks : List Kd} {S : St} {f : Vals ks → Option Ret} (h : ∀ x, f x = none) : withVals ks S f = none := by
  unfold withVals
  split
  · exact h _
  · rfl
theorem bif0 {c : Bool} {a b : Option Ret} (ha : a = none) (hb : b = none) : (bif c then a else b) = none := by cases c <;> assumption

section
variable {Γ : Gl} {P : Program}
theorem sound_or {f : FuncId} {l : List AK} {F : AVals l → (Ret → Option Ret) → Option Ret} {g : List Arg → (Ret → Option Ret) → Option Ret} (h1 : Sound Γ P f (runOf l F)) (h2 : Sound Γ P f g) : Sound Γ P f (runOr l F g) := by
  refine ⟨?_, fun as => ?_⟩
  · intro args kf ret w σ vals H B hr hin
    unfold runOr at hr
    split at hr
    · rename_i x hx
      exact h1.1 args kf ret w σ vals H B (by unfold runOf; rw [hx]; exact hr) hin
    · exact h2.1 args kf ret w σ vals H B hr hin
  · have h3 := h1.2 as
    unfold runOf at h3
    unfold runOr
    cases hx : aproj l as with
    | some x => rw [hx] at h3; exact h3
    | none => exact h2.2 as
theorem sound_none {f : FuncId} : Sound Γ P f (fun _ _ => none) := ⟨fun _ _ _ _ _ _ _ _ h => (by cases h), fun _ => Det.none⟩
theorem sound_zero {f : FuncId} {run : List Arg → (Ret → Option Ret) → Option Ret} (h : ∀ as kf, run as kf = none) : Sound Γ P f run := ⟨fun _ _ _ _ _ _ _ _ e => (by rw [h] at e; cases e), fun as => ⟨none, fun K => h as K⟩⟩

/-- The called functions do what is told of them. -/
def EOK (Γ : Gl) (P : Program) : List Entry → Prop
  | [] => True
  | e :: r => Sound Γ P e.f e.run ∧ EOK Γ P r
theorem eok_mem : ∀ {l : List Entry}, EOK Γ P l → ∀ e ∈ l, Sound Γ P e.f e.run
  | [], _, e, h => by cases h
  | e' :: r, h, e, he => by
    rcases List.mem_cons.1 he with rfl | he
    · exact h.1
    · exact eok_mem h.2 e he
/-- The loops' rounds. -/
def Rounds (hh : Hint) (O : Orc) (Lf : Nat → Nat → St → Ks → Option Ret) (N : Nat) : List Code → Prop
  | [] => True
  | c :: r => (∀ (n : Nat) (ks : List Kd), heads hh.loops (keyOf c) = some ks → ∀ (x : Vals ks) (K : Ks), Lf (n + 1) (keyOf c) (shape ks x) (hh.onOut (keyOf c) K) = peRound hh O (mixL Lf N n (keyOf c)) c (shape ks x) (hh.onOut (keyOf c) K)) ∧ Rounds hh O Lf N r
theorem rounds_mem {hh : Hint} {O : Orc} {Lf : Nat → Nat → St → Ks → Option Ret} {N : Nat} : ∀ {l : List Code}, Rounds hh O Lf N l → ∀ c ∈ l, ∀ (n : Nat) (ks : List Kd), heads hh.loops (keyOf c) = some ks → ∀ (x : Vals ks) (K : Ks), Lf (n + 1) (keyOf c) (shape ks x) (hh.onOut (keyOf c) K) = peRound hh O (mixL Lf N n (keyOf c)) c (shape ks x) (hh.onOut (keyOf c) K)
  | [], _, c, h => by cases h
  | c' :: r, h, c, hc => by
    rcases List.mem_cons.1 hc with rfl | hc
    · exact h.1
    · exact rounds_mem h.2 c hc
theorem round_cons {hh : Hint} {O : Orc} {Lf : Nat → Nat → St → Ks → Option Ret} {N : Nat} {c : Code} {l : List Code} {key : Nat} {ks : List Kd} (hk : keyOf c = key) (hh1 : heads hh.loops key = some ks)
    (h : ∀ (n : Nat) (x : Vals ks) (K : Ks), Lf (n + 1) key (shape ks x) (hh.onOut key K) = peRound hh O (mixL Lf N n key) c (shape ks x) (hh.onOut key K)) (hr : Rounds hh O Lf N l) : Rounds hh O Lf N (c :: l) := by
  refine ⟨fun n ks' hks x K => ?_, hr⟩
  rw [hk] at hks ⊢
  rw [hh1] at hks
  injection hks with hks
  subst hks
  exact h n x K

/-- A function's text does what its residual says. -/
theorem fun_ok2 (hm : P.follows .mixedOrders = true) {hh : Hint} (hT : tabB P hh.tab = true) {es : List Entry} (hO : EOK Γ P es) {f : FuncId} {fn : Func} {body : Code} (hf : P.funcs[f]? = some fn) (hb : fn.body = some body) (hnm : (fn.name == "runtime.NumGoroutine") = false)
    (hor : ordsOK hh (Orc.of es) body = true) (hky : keysB body = true) {N : Nat} {Lf : Nat → Nat → St → Ks → Option Ret} (h0 : ∀ k S K, Lf 0 k S K = none) {ls : List Code} (hls : loopsIn body = ls) (hround : Rounds hh (Orc.of es) Lf N ls) {l : List AK} {F : AVals l → (Ret → Option Ret) → Option Ret}
    (hlen : Nat.ble l.length fn.ntmps = true) (hF : ∀ x kf, F x kf = peFunc hh (Orc.of es) (Lf N) fn (ashape l x) kf) (hdet : plainC body = true ∨ ∀ x, Det (F x)) : Sound Γ P f (runOf l F) := by
  refine ⟨?_, fun as => ?_⟩
  rotate_left
  · unfold runOf
    cases hx : aproj l as with
    | none => exact Det.none
    | some x =>
      rcases hdet with hp | hdet
      rotate_left
      · exact hdet x
      have hd : ODet (Orc.of es) := fun f => (orc_of (eok_mem hO) f).2
      have := peFunc_det (h := hh) hd (L := Lf N) (fn := fn) hb hp (fun k hk => loops_det hd h0 body hp (fun c hc n ks x K hks => by rw [hls] at hc; exact rounds_mem hround c hc n ks hks x K) k hk N (.inl rfl)) (ashape l x)
      have e : (fun kf => F x kf) = fun kf => peFunc hh (Orc.of es) (Lf N) fn (ashape l x) kf := funext fun kf => hF x kf
      show Det fun kf => F x kf
      rw [e]
      exact this
  refine fun_ok hm hT (orc_of (eok_mem hO)) hf hb hnm hor hky (N := N) h0 (fun c hc n ks x K r hks hr => ?_) (fun args kf r hr => ?_)
  · rw [hls] at hc
    rw [← rounds_mem hround c hc n ks hks x K]
    exact hr
  · unfold runOf at hr
    split at hr
    case h_2 => cases hr
    rename_i x hx
    have := aproj_eq l args hx
    subst this
    exact ⟨by rw [ashape_length]; exact Nat.le_of_ble_eq_true hlen, by rw [← hF]; exact hr⟩
end
/-- In order. -/
def sortL (l : List Int) : List Int := l.mergeSort fun x y => decide (x ≤ y)
/-- Runs of the same, once. -/
def compactFrom (x : Int) : List Int → List Int
  | [] => []
  | y :: r => bif y == x then compactFrom x r else y :: compactFrom y r
def compactL : List Int → List Int
  | [] => []
  | x :: r => x :: compactFrom x r
end Go.Pv

namespace Go.Pv
/-! ### texts -/
/-- A number's digits. -/
def itoaB (n : Int) : ByteArray := ⟨(Lib.itoa n).toArray⟩
/-- Where a letter stands first. -/
def letterAt (s : ByteArray) (c : Int) : Int := Lib.indexByte s.data.toList (Int.toNat c).toUInt8
/-- The pieces of a text. -/
def splitL (s sep : ByteArray) : List ByteArray := Lib.splitB sep 0 (Lib.countB s sep) s
def cutA (s sep : ByteArray) : ByteArray := ⟨(Lib.cut s.data.toList sep.data.toList).1.toArray⟩
def cutB (s sep : ByteArray) : ByteArray := ⟨(Lib.cut s.data.toList sep.data.toList).2.1.toArray⟩
def cutF (s sep : ByteArray) : Bool := (Lib.cut s.data.toList sep.data.toList).2.2
/-- Texts in a row. -/
def joinB (xs : List ByteArray) (sep : ByteArray) : ByteArray := ⟨(Lib.join (xs.map (·.data.toList)) sep.data.toList).toArray⟩
end Go.Pv

namespace Go.Pv
set_option linter.unusedVariables false
set_option linter.unusedSimpArgs false
variable {P : Program} {w : World} {Θ : Tab} {Wr : Nat → Prop}

/-- The numbers are in range; the lists are no longer than the machine has them. -/
def wf : (t : Ty) → t.I → Prop
  | .int k, n => (Lit.int k n).wf = true
  | .bool, _ => True
  | .str, s => s.size ≤ maxLen
  | .unit, _ => True
  | .sl t, xs => xs.length ≤ maxLen ∧ ∀ x ∈ xs, wf t x
  | .ptr t, x => wf t x
  | .pair a b, x => wf a x.1 ∧ wf b x.2
  | .arr _ t, xs => ∀ x ∈ xs, wf t x

/-- Structs of one field: nothing lies behind it. -/
def tabU (Θ : Tab) : Bool := Θ.all fun i => match i.fs, i.ty with
  | [_], .pair _ .unit => true
  | [_], _ => false
  | [], .pair _ _ => false
  | _, _ => true

theorem cells_row {base : Nat} {a : Addr} {n : Nat} {cs : List Value} (h : w.cells? base a n = some cs) : cs.length = n ∧ ∀ j, j < n → w.cell? (a.add j) = cs[j]? := by
  unfold World.cells? at h
  split at h
  case isFalse => cases h
  have key : ∀ (l : List Nat) (cs : List Value), (l.mapM fun i => w.cell? (a.add i)) = some cs → cs.length = l.length ∧ ∀ j (hj : j < l.length), w.cell? (a.add l[j]) = cs[j]? := by
    intro l
    induction l with
    | nil => intro cs h; simp at h; subst h; exact ⟨rfl, fun j hj => by simp at hj⟩
    | cons i r ih =>
      intro cs h
      rw [List.mapM_cons] at h
      cases h1 : w.cell? (a.add i) with
      | none => rw [h1] at h; cases h
      | some v =>
        rw [h1] at h
        cases h2 : (r.mapM fun i => w.cell? (a.add i)) with
        | none => rw [h2] at h; cases h
        | some vs =>
          rw [h2] at h
          injection h with h
          subst h
          obtain ⟨k1, k2⟩ := ih vs h2
          refine ⟨by simp [k1], fun j hj => ?_⟩
          cases j with
          | zero => simpa using h1
          | succ j => simpa using k2 j (by simpa using hj)
  obtain ⟨h1, h2⟩ := key _ _ h
  refine ⟨by simpa using h1, fun j hj => ?_⟩
  have := h2 j (by simpa using hj)
  simpa using this

theorem add_none (g off n : Nat) : (⟨g, off, none⟩ : Addr).add n = ⟨g, off + n, none⟩ := addr_add g off n

/-- A row that is there: it lies in one block. -/
theorem row_block {base : Nat} {a : Addr} {n : Nat} {cs : List Value} (hn : 0 < n) (h : w.cells? base a n = some cs) : ∃ cur T fr, a = ⟨a.block, a.off, none⟩ ∧ w.heap[a.block]? = some (.cells cur T fr) ∧ a.off + n ≤ cur.size ∧ cs = (cur.toList.drop a.off).take n := by
  obtain ⟨h1, h2⟩ := cells_row h
  have h0 := h2 0 hn
  have e0 : a.add 0 = a := by unfold Addr.add; rw [if_pos rfl]
  rw [e0] at h0
  unfold World.cell? at h0
  obtain ⟨v, hv⟩ : ∃ v, cs[0]? = some v := ⟨_, List.getElem?_eq_getElem (by omega)⟩
  rw [hv] at h0
  split at h0
  case h_2 => cases h0
  rename_i cur T fr hw
  split at h0
  · cases h0
  · rename_i hs
    have hsp : a.spot = none := by cases hx : a.spot with
      | none => rfl
      | some _ => rw [hx] at hs; simp at hs
    have ha : a = ⟨a.block, a.off, none⟩ := by cases a; simp only at hsp; subst hsp; rfl
    have hcell : ∀ j, j < n → cur[a.off + j]? = cs[j]? := fun j hj => by
      have := h2 j hj
      rw [ha, add_none] at this
      simpa [World.cell?, hw] using this
    have hb : a.off + n ≤ cur.size := by
      have := hcell (n - 1) (by omega)
      rw [List.getElem?_eq_getElem (show n - 1 < cs.length by omega)] at this
      have := lt_of_some this
      omega
    refine ⟨cur, T, fr, ha, hw, hb, ?_⟩
    apply List.ext_getElem?
    intro j
    by_cases hj : j < n
    · rw [List.getElem?_take, if_pos hj, List.getElem?_drop, ← hcell j hj, Array.getElem?_toList]
    · rw [List.getElem?_eq_none (by omega), List.getElem?_eq_none (by rw [List.length_take]; omega)]

theorem mapM_at {α β : Type} {f : α → Option β} : ∀ {l : List α} {r : List β}, l.mapM f = some r → r.length = l.length ∧ ∀ (j : Nat) (a : α), l[j]? = some a → ∃ b, f a = some b ∧ r[j]? = some b
  | [], r, h => by simp at h; subst h; exact ⟨rfl, fun j a hj => by simp at hj⟩
  | a :: l, r, h => by
    rw [List.mapM_cons] at h
    cases h1 : f a with
    | none => rw [h1] at h; cases h
    | some b =>
      rw [h1] at h
      cases h2 : l.mapM f with
      | none => rw [h2] at h; cases h
      | some bs =>
        rw [h2] at h
        injection h with h
        subst h
        obtain ⟨k1, k2⟩ := mapM_at h2
        refine ⟨by simp [k1], fun j a' hj => ?_⟩
        cases j with
        | zero => simp only [List.getElem?_cons_zero, Option.some.injEq] at hj; subst hj; exact ⟨b, h1, rfl⟩
        | succ j => simpa using k2 j a' (by simpa using hj)

/-- A struct's value out of its fields'. -/
theorem pairs_K {n : Nat} {ty : Ty} {cs : List Value} (hlen : cs.length = ty.size) (h2 : 2 ≤ n)
    (hf : ∀ k, k < n → ∃ (t : Ty) (x : t.I), tyAt (fld k n) ty = some t ∧ K w Wr t x ((cs.drop (fldOff (fld k n) ty)).take t.size) ∧ wf t x) :
    ∀ (m j : Nat) (u : Ty), j + m + 1 = n → tyAt (List.replicate j .snd) ty = some u → fldOff (List.replicate j .snd) ty + u.size = ty.size → ∃ x : u.I, K w Wr u x (cs.drop (fldOff (List.replicate j .snd) ty)) ∧ wf u x := by
  have fldE : ∀ k, k < n → fld k n = if k + 1 = n then List.replicate k .snd else List.replicate k .snd ++ [.fst] := fun k hk => by
    unfold fld
    have h1 : Nat.beq n 1 = false := by
      cases hb : Nat.beq n 1 with
      | false => rfl
      | true => have := Nat.eq_of_beq_eq_true hb; omega
    by_cases hkn : k + 1 = n
    · rw [if_pos hkn, hkn, Nat.beq_refl, h1]; rfl
    · have : Nat.beq (k + 1) n = false := by
        cases hb : Nat.beq (k + 1) n with
        | false => rfl
        | true => exact absurd (Nat.eq_of_beq_eq_true hb) hkn
      rw [if_neg hkn, this]; rfl
  have tyApp : ∀ (p q : Path) (t : Ty), tyAt (p ++ q) t = (tyAt p t).bind (tyAt q) := by
    intro p
    induction p with
    | nil => intro q t; rfl
    | cons s p ih => intro q t; cases s <;> cases t <;> first | rfl | exact ih q _
  have offApp : ∀ (p q : Path) (t u : Ty), tyAt p t = some u → fldOff (p ++ q) t = fldOff p t + fldOff q u := by
    intro p
    induction p with
    | nil => intro q t u h; simp only [tyAt, Option.some.injEq] at h; subst h; simp [fldOff]
    | cons s p ih =>
      intro q t u h
      cases s <;> cases t <;> simp only [tyAt, reduceCtorEq] at h
      · simp only [List.cons_append, fldOff]; exact ih q _ u h
      · simp only [List.cons_append, fldOff]; rw [ih q _ u h]; omega
  intro m
  induction m with
  | zero =>
    intro j u hj hu hsz
    obtain ⟨t, x, k1, k2, k3⟩ := hf j (by omega)
    rw [fldE j (by omega), if_pos (by omega)] at k1 k2
    rw [hu] at k1
    injection k1 with k1
    subst k1
    rw [List.take_of_length_le (by rw [List.length_drop]; omega)] at k2
    exact ⟨x, k2, k3⟩
  | succ m ih =>
    intro j u hj hu hsz
    obtain ⟨t, x, k1, k2, k3⟩ := hf j (by omega)
    rw [fldE j (by omega), if_neg (by omega)] at k1 k2
    rw [tyApp, hu, Option.bind_some] at k1
    cases u with
    | pair a b =>
      simp only [tyAt, Option.some.injEq] at k1
      subst k1
      have e1 : fldOff (List.replicate j .snd ++ [.fst]) ty = fldOff (List.replicate j .snd) ty := by
        rw [offApp _ _ _ _ hu]; simp [fldOff]
      have hr : List.replicate (j + 1) Step.snd = List.replicate j .snd ++ [.snd] := List.replicate_succ'
      have e2 : fldOff (List.replicate (j + 1) .snd) ty = fldOff (List.replicate j .snd) ty + a.size := by
        rw [hr, offApp _ _ _ _ hu]; simp [fldOff]
      have hu2 : tyAt (List.replicate (j + 1) .snd) ty = some b := by rw [hr, tyApp, hu]; rfl
      simp only [Ty.size] at hsz
      obtain ⟨y, q1, q2⟩ := ih (j + 1) b (by omega) hu2 (by rw [e2]; omega)
      rw [e1] at k2
      rw [e2] at q1
      refine ⟨(x, y), ?_, k3, q2⟩
      simp only [K]
      refine ⟨(cs.drop (fldOff (List.replicate j .snd) ty)).take a.size, cs.drop (fldOff (List.replicate j .snd) ty + a.size), ?_, k2, q1⟩
      rw [← List.drop_drop, List.take_append_drop]
    | _ => simp [tyAt] at k1

theorem exists_list {α : Type} {Q : Nat → α → Prop} : ∀ (n : Nat), (∀ j, j < n → ∃ x, Q j x) → ∃ xs : List α, xs.length = n ∧ ∀ j (h : j < xs.length), Q j xs[j]
  | 0, _ => ⟨[], rfl, fun j h => by simp at h⟩
  | n + 1, h => by
    obtain ⟨xs, h1, h2⟩ := exists_list n fun j hj => h j (by omega)
    obtain ⟨x, hx⟩ := h n (by omega)
    refine ⟨xs ++ [x], by simp [h1], fun j hj => ?_⟩
    by_cases hjn : j < xs.length
    · rw [List.getElem_append_left hjn]; exact h2 j hjn
    · have : j = n := by simp at hj; omega
      subst this
      rw [List.getElem_append_right (by omega)]
      simpa using hx

/-- What is read of an argument: a value, and its memory. -/
theorem open_K {Hh : Type} {enc : TypeId × Value → Hh} {base : Nat} {spare : Nat → Bool} {held : Bool} (hT : tabB P Θ = true) (hU : tabU Θ = true) : ∀ (fuel : Nat) (t : Ty) {T : TypeId} {cs : List Value} {r : DataW Hh × List MemPlace}, Θ.is T t = true →
    DataW.trod enc P w base spare held fuel T cs = some r → ∃ x : t.I, K w (fun _ => False) t x cs ∧ wf t x
  | 0, t, T, cs, r, _, e => by simp [DataW.trod] at e
  | fuel + 1, t, T, cs, r, ht, e => by
    obtain ⟨i, hi, hty⟩ := is_find ht
    obtain ⟨hinf, hu, hTi⟩ := tab_ti hT hi
    obtain ⟨_, n1, n2, n3⟩ := und_not hu
    cases t with
    | int k =>
      have hd := und_int hu hty
      rw [hTi] at hd
      unfold DataW.trod at e
      rw [hd] at e
      split at e <;> rename_i he <;> first | (cases he; done) | skip
      all_goals first | (injection he with he; cases he; done) | skip
      · injection he with he
        injection he with he
        subst he
        split at e
        · rename_i hc
          obtain ⟨h1, hw⟩ := hc
          subst h1
          exact ⟨_, show [Value.int _ _] = [Value.int _ _] from rfl, hw⟩
        · cases e
      · cases e
    | bool =>
      have hd := und_bool hu hty
      rw [hTi] at hd
      unfold DataW.trod at e
      rw [hd] at e
      split at e <;> rename_i he <;> first | (cases he; done) | skip
      · exact ⟨_, show [Value.bool _] = [Value.bool _] from rfl, trivial⟩
      · cases e
    | str =>
      have hd := und_str hu hty
      rw [hTi] at hd
      unfold DataW.trod at e
      rw [hd] at e
      split at e <;> rename_i he <;> first | (cases he; done) | skip
      · split at e
        · rename_i hs
          exact ⟨_, show [Value.string _] = [Value.string _] from rfl, hs⟩
        · cases e
      · cases e
    | sl t =>
      obtain ⟨hd, u2, u3⟩ := und_sl hu hty
      rw [hTi] at hd
      obtain ⟨inf, s1, s2, s3⟩ := size_is hT u2
      unfold DataW.trod at e
      rw [hd] at e
      split at e <;> rename_i he <;> first | (cases he; done) | skip
      · exact ⟨[], by simp only [K]; exact ⟨none, 0, rfl, Nat.le_refl _, fun h => absurd h (Nat.lt_irrefl _)⟩, by simp [wf]⟩
      · rename_i e' ad len cap
        injection he with he
        injection he with he
        subst he
        simp only at e
        split at e
        case isFalse => cases e
        rename_i hc
        obtain ⟨_, hlc, hcm⟩ := hc
        obtain ⟨els, hm, _⟩ := Option.bind_eq_some_iff.1 e
        obtain ⟨m1, m2⟩ := mapM_at hm
        have hel : ∀ j, j < len → ∃ x : t.I, (∃ row, w.cells? base (ad.add (j * t.size)) t.size = some row ∧ K w (fun _ => False) t x row) ∧ wf t x := fun j hj => by
          obtain ⟨b, hb, _⟩ := m2 j j (by rw [List.getElem?_range hj])
          obtain ⟨row, hr1, hr2⟩ := Option.bind_eq_some_iff.1 hb
          rw [s3] at hr1
          obtain ⟨x, k1, k2⟩ := open_K hT hU fuel t u2 hr2
          exact ⟨x, ⟨row, hr1, k1⟩, k2⟩
        obtain ⟨xs, x1, x2⟩ := exists_list len hel
        refine ⟨xs, ?_, by rw [x1]; omega, fun x hx => ?_⟩
        · simp only [K]
          refine ⟨some ad, cap, by rw [x1], by rw [x1]; exact hlc, fun hp => ?_⟩
          obtain ⟨⟨row0, r1, _⟩, _⟩ := x2 0 hp
          obtain ⟨cur, T1, fr, b1, b2, b3, b4⟩ := row_block u3 r1
          have e0 : ad.add (0 * t.size) = ad := by rw [Nat.zero_mul]; unfold Addr.add; rw [if_pos rfl]
          rw [e0] at b1 b2
          have hrow : ∀ j (hj : j < xs.length), ∃ row, K w (fun _ => False) t xs[j] row ∧ ad.off + j * t.size + t.size ≤ cur.size ∧ row = (cur.toList.drop (ad.off + j * t.size)).take t.size := fun j hj => by
            obtain ⟨⟨row, q1, q2⟩, _⟩ := x2 j hj
            obtain ⟨cur', T', fr', c1, c2, c3, c4⟩ := row_block u3 q1
            have ea : ad.add (j * t.size) = ⟨ad.block, ad.off + j * t.size, none⟩ := by rw [b1, add_none]
            rw [ea] at c2 c3 c4
            simp only at c2 c3 c4
            rw [b2] at c2
            injection c2 with c2
            injection c2 with c2
            subst c2
            exact ⟨row, q2, c3, c4⟩
          refine ⟨ad.block, ad.off, cur, T1, fr, by rw [← b1], fun h => h, b2, ?_, fun j hj => ?_⟩
          · obtain ⟨row, _, q, _⟩ := hrow (xs.length - 1) (by omega)
            have : (xs.length - 1) * t.size + t.size = xs.length * t.size := by
              have : xs.length = (xs.length - 1) + 1 := by omega
              conv => rhs; rw [this, Nat.add_mul, Nat.one_mul]
            omega
          · obtain ⟨row, q1, _, q2⟩ := hrow j hj
            rw [← q2]
            exact q1
        · obtain ⟨j, hj, rfl⟩ := List.mem_iff_getElem.1 hx
          exact (x2 j hj).2
      · cases e
    | pair pa pb =>
      obtain ⟨fs, hd, f2, f3, _⟩ := und_pair hu hty
      rw [hTi] at hd
      obtain ⟨inf, s1, s2, s3⟩ := size_is hT ht
      have hfn : fs.toList.length = i.fs.length := by rw [← f2, List.length_map]
      have hfs : fs.size = i.fs.length := by rw [← hfn, Array.length_toList]
      have hUi := List.all_eq_true.1 hU i (find_mem hi).1
      unfold DataW.trod at e
      rw [hd] at e
      have e' : (if cs.length = P.cellsOf T then (fs.toList.mapM fun f => DataW.trod enc P w base spare held fuel f.type ((cs.drop f.offset).take (P.cellsOf f.type))).map fun xs => (DataW.agg (xs.map (·.1)), xs.flatMap (·.2)) else none) = some r := by
        split at e <;> rename_i he <;> first | (cases he; done) | skip
        · injection he with he
          injection he with he
          subst he
          exact e
        · first | exact e | (injection he with he; injection he with he; subst he; exact e) | cases e
      split at e'
      case isFalse => cases e'
      rename_i hlen
      rw [s3] at hlen
      obtain ⟨els, hm, _⟩ := Option.map_eq_some_iff.1 e'
      obtain ⟨m1, m2⟩ := mapM_at hm
      have hf : ∀ k, k < i.fs.length → ∃ (t : Ty) (x : t.I), tyAt (fld k i.fs.length) (.pair pa pb) = some t ∧ K w (fun _ => False) t x ((cs.drop (fldOff (fld k i.fs.length) (.pair pa pb))).take t.size) ∧ wf t x := fun k hk => by
        have hget : fs.toList[k]? = some (fs.toList[k]'(by omega)) := List.getElem?_eq_getElem (by omega)
        obtain ⟨t, t1, t2, t3, _⟩ := fieldsOK_at f3 k _ hget
        rw [Nat.zero_add, hfs, hty] at t1 t3
        obtain ⟨b, hb, _⟩ := m2 k _ hget
        obtain ⟨_, _, _, c3⟩ := size_is hT t2
        rw [c3, t3] at hb
        obtain ⟨x, k1, k2⟩ := open_K hT hU fuel t t2 hb
        exact ⟨t, x, t1, k1, k2⟩
      rw [hty] at hUi
      rcases Nat.lt_or_ge i.fs.length 2 with h2 | h2
      · match hfi : i.fs, h2 with
        | [], _ => rw [hfi] at hUi; simp at hUi
        | [T1], _ =>
          rw [hfi] at hUi hf
          obtain ⟨t, x, k1, k2, k3⟩ := hf 0 (by simp)
          cases pb <;> simp at hUi
          simp only [fld, List.length_singleton] at k1 k2
          simp [tyAt, fldOff] at k1 k2
          subst k1
          refine ⟨(x, ()), ?_, k3, trivial⟩
          simp only [K]
          refine ⟨cs.take pa.size, [], ?_, k2, rfl⟩
          rw [List.append_nil, List.take_of_length_le (by simp only [Ty.size] at hlen; omega)]
      · obtain ⟨x, k1, k2⟩ := pairs_K hlen h2 hf (i.fs.length - 1) 0 (.pair pa pb) (by omega) rfl (by simp [fldOff])
        exact ⟨x, by simpa [fldOff] using k1, k2⟩
    | ptr t => exact absurd hty (n1 t)
    | arr n t => exact absurd hty (n2 n t)
    | unit => exact absurd hty n3
end Go.Pv
