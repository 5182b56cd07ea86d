/- Functions of the library (Prim): what is told of them holds. -/
import Derived.Test.YtcpakhaogbempaaPv4
import Derived.Shelf.Sort.Plain
import Derived.Shelf.Slices.In.SortNone
import Derived.Shelf.Slices.CompactI
namespace Go.Pv
open Go.Shelf Go.Proofs
set_option linter.unusedVariables false
set_option linter.unusedSimpArgs false
variable {P : Program} {w w' : World} {A A' : Nat → Prop} {H : Nat → Value} {ρ : Ren}

/-! ### the library's own: what the shelf tells of it -/
abbrev tInts : Ty := .sl (.int .i64)
/-- A list of numbers that is one's own. -/
theorem ints_open {e : TypeId} {tag : Option Nat} {xs : List Int} {v : Value} {ow : Nat → Prop} (h : M w A H tInts (.o e tag .k) xs [v] ow []) :
    ∃ X c, v = .slice X xs.length c ∧ xs.length ≤ c ∧ (∀ h, tag = some h → H h = .slice X xs.length c) ∧
      ((xs = [] ∧ c = 0) ∨ ∃ g cur, X = some ⟨g, 0, none⟩ ∧ ow g ∧ w.heap[g]? = some (.cells cur e (0, 0)) ∧ cur.size = c ∧ c ≤ maxLen ∧ ∀ j (hj : j < xs.length), cur[j]? = some (.int .i64 xs[j])) := by
  simp only [M] at h
  rcases h with ⟨hn, _⟩ | ⟨hk, _⟩ | ⟨T, tag', me, X, c, e1, e2, hc, ht, h⟩
  · simp at hn
  · simp [Md.isK] at hk
  · injection e1 with e1 e1' e1''
    subst e1 e1' e1''
    injection e2 with e2 _
    refine ⟨X, c, e2, hc, ht, ?_⟩
    rcases h with h | ⟨g, cur, τ, h1, h2, h3, h4, h5, h6⟩
    · exact .inl h
    · refine .inr ⟨g, cur, h1, h2, h3, by rw [h4]; simp [Ty.size], h5, fun j hj => ?_⟩
      have h7 := h6 j hj
      simp only [M, K] at h7
      have h8 := h7.2
      simp only [Ty.size, Nat.mul_one] at h8
      have h9 : (cur.toList.drop j).head? = some (.int .i64 xs[j]) := by
        cases hd : cur.toList.drop j with
        | nil => rw [hd] at h8; simp at h8
        | cons y r => rw [hd] at h8; simp at h8; simp [h8]
      rw [List.head?_drop] at h9
      simpa using h9
theorem ints_shut {e : TypeId} {tag : Option Nat} {xs : List Int} {ow : Nat → Prop} {g c : Nat} {cur : Array Value} (hc : xs.length ≤ c) (ht : ∀ h, tag = some h → H h = .slice (some ⟨g, 0, none⟩) xs.length c) (hg : ow g) (hw : w.heap[g]? = some (.cells cur e (0, 0)))
    (hs : cur.size = c) (hm : c ≤ maxLen) (hj : ∀ j (hj : j < xs.length), cur[j]? = some (.int .i64 xs[j])) : M w A H tInts (.o e tag .k) xs [.slice (some ⟨g, 0, none⟩) xs.length c] ow [] := by
  simp only [M]
  refine .inr (.inr ⟨e, tag, .k, some ⟨g, 0, none⟩, c, rfl, rfl, hc, ht, .inr ⟨g, cur, fun j => j, rfl, hg, hw, by rw [hs]; simp [Ty.size], hm, fun j hj1 => ?_⟩⟩)
  simp only [M, K]
  refine ⟨rfl, ?_⟩
  simp only [Ty.size, Nat.mul_one]
  have h1 := hj j hj1
  have h2 : j < cur.toList.length := by rw [Array.length_toList]; exact lt_of_some h1
  rw [List.drop_eq_getElem_cons h2]
  rw [← Array.getElem?_toList, List.getElem?_eq_getElem h2] at h1
  injection h1 with h1
  simp [h1]
theorem ints_holds {e : TypeId} {xs : List Int} {g : Nat} {cur : Array Value} (hw : w.heap[g]? = some (.cells cur e (0, 0))) (hj : ∀ j (hj : j < xs.length), cur[j]? = some (.int .i64 xs[j])) : Sort.Holds (Value.int .i64) w g 0 xs.toArray := by
  intro j h1
  have h2 : j < xs.length := by simpa using h1
  refine ⟨?_, by simp [World.frozen?, hw]⟩
  simp only [World.cell?, hw, Nat.zero_add]
  rw [hj j h2, getElem!_pos xs.toArray j h1]
  simp
/-- The row's cells, written. -/
theorem row_heap {e : TypeId} {ys : List Int} {g : Nat} {cur : Array Value} {q : Nat} (hw : w.heap[g]? = some (.cells cur e (0, 0))) (hl : ys.length ≤ cur.size) :
    ∃ cur', (Sort.putRow (Value.int .i64) (Sort.ahead w q) g 0 ys.toArray).heap[g]? = some (.cells cur' e (0, 0)) ∧ cur'.size = cur.size ∧ (∀ j (hj : j < ys.length), cur'[j]? = some (.int .i64 ys[j])) ∧
      (∀ g', g' ≠ g → (Sort.putRow (Value.int .i64) (Sort.ahead w q) g 0 ys.toArray).heap[g']? = w.heap[g']?) ∧ (Sort.putRow (Value.int .i64) (Sort.ahead w q) g 0 ys.toArray).heap.size = w.heap.size := by
  refine ⟨Sort.putCells (Value.int .i64) 0 ys.toArray cur, ?_, by simp [Sort.putCells], fun j hj => ?_, fun g' hg => ?_, by simp [Sort.putRow, Sort.mapBlock, Sort.ahead]⟩
  · simp only [Sort.putRow, Sort.mapBlock, Sort.ahead, Array.getElem?_modify, hw, if_true, Option.map_some, Sort.onCells]
  · have h1 : j < cur.size := by omega
    simp only [Sort.putCells, Array.getElem?_mapIdx, Array.getElem?_eq_getElem h1, Option.map_some]
    rw [if_pos ⟨Nat.zero_le _, by simpa using hj⟩, Nat.sub_zero, getElem!_pos ys.toArray j (by simpa using hj)]
    simp
  · simp only [Sort.putRow, Sort.mapBlock, Sort.ahead, Array.getElem?_modify, if_neg (Ne.symm hg)]

theorem compact_from : ∀ (r : List Int) (x : Int), (((List.range r.length).filter fun j => decide (r[j]! ≠ (x :: r)[j]!)).map fun j => r[j]!) = compactFrom x r
  | [], x => rfl
  | y :: r, x => by
    have ih := compact_from r y
    rw [List.length_cons, List.range_succ_eq_map, List.filter_cons, List.filter_map]
    have e1 : ((fun j => decide ((y :: r)[j]! ≠ (x :: y :: r)[j]!)) ∘ Nat.succ) = fun j => decide (r[j]! ≠ (y :: r)[j]!) := by
      funext j
      simp
    rw [e1]
    simp only [compactFrom]
    by_cases hxy : y = x
    · subst hxy
      simp only [List.getElem!_cons_zero, ne_eq, not_true_eq_false, decide_false, Bool.false_eq_true, if_false, beq_self_eq_true, cond_true, List.map_map]
      rw [← ih]
      congr 1
    · have hb : (y == x) = false := beq_eq_false_iff_ne.2 hxy
      simp only [List.getElem!_cons_zero, ne_eq, hxy, not_false_eq_true, decide_true, if_true, hb, cond_false, List.map_cons, List.map_map]
      congr 1
theorem compact_same (l : List Int) : Lib.compact l = compactL l := by
  cases l with
  | nil => rfl
  | cons x r =>
    simp only [compactL]
    rw [← compact_from r x]
    unfold Lib.compact Lib.compactUpTo
    rw [List.length_cons, List.range_succ_eq_map, List.filter_cons, List.filter_map]
    have e1 : (Lib.keeps (x :: r).toArray ∘ Nat.succ) = fun j => decide (r[j]! ≠ (x :: r)[j]!) := by
      funext j
      simp [Lib.keeps]
    have e0 : Lib.keeps (x :: r).toArray 0 = true := by simp [Lib.keeps]
    rw [e1, e0]
    simp only [if_true, List.map_cons, List.map_map]
    congr 1
    · simp
theorem compactFrom_len : ∀ (r : List Int) (x : Int), (compactFrom x r).length ≤ r.length
  | [], _ => Nat.le_refl _
  | y :: r, x => by
    simp only [compactFrom]
    cases y == x with
    | true => have := compactFrom_len r x; simp only [cond_true, List.length_cons]; omega
    | false => have := compactFrom_len r y; simp only [cond_false, List.length_cons]; omega
theorem compactL_len (l : List Int) : (compactL l).length ≤ l.length := by
  cases l with
  | nil => exact Nat.le_refl _
  | cons x r => have := compactFrom_len r x; simp only [compactL, List.length_cons]; omega
/-- An only argument of this kind. -/
theorem one_arg {Γ : Gl} {B : Nat → Prop} {m : Md} {xs : List Int} {σ : Nat → Option Nat} {vals : List Value} (hin : In Γ B H w σ [.tv ⟨tInts, m, xs⟩] vals) : ∃ v, vals = [v] ∧ M w (Av σ B) H tInts m xs [v] (fun g => σ g = some 0) [] := by
  obtain ⟨v, hv, hok⟩ := hin.ok 0 _ rfl
  obtain ⟨cs, h1, h2⟩ := hok
  have hcs : cs = [v] := by simpa [matchV, isAgg] using h1
  subst hcs
  refine ⟨v, ?_, h2⟩
  have hl := hin.len
  match vals, hl, hv with
  | [u], _, hv => simp at hv; rw [hv]
theorem sound_compact {Γ : Gl} (L : Lays2.n20 P ρ) (e : TypeId) : Sound Γ P (ρ.f 20) (runOf [.v tInts (.o e none .k)] fun x kf => kf ⟨[⟨tInts, .o e none .k, compactL x.1⟩], []⟩) := by
  refine ⟨?_, fun al => ?_⟩
  rotate_left
  · unfold runOf
    split
    · exact Det.pure _
    · exact Det.none
  intro args kf ret w σ vals H B hr hin
  unfold runOf at hr
  split at hr
  case h_2 => cases hr
  rename_i x hx
  have := aproj_eq _ args hx
  subst this
  obtain ⟨xs, u⟩ := x
  simp only [ashape] at hin hr
  obtain ⟨v, rfl, h2⟩ := one_arg hin
  obtain ⟨X, c, rfl, hc, _, hcase⟩ := ints_open h2
  have hen : (callFunc (ρ.f 20) [Value.slice X xs.length c].toArray).run P w = .ok (.enter (ρ.f 20) [Value.slice X xs.length c].toArray) w := enters_of L.f20 (by kernel_rfl) rfl _ w
  rcases hcase with ⟨rfl, rfl⟩ | ⟨g, cur, rfl, hg, hw, hs, hm, hj⟩
  · refine .inl ⟨hen, (Any.slices_Compact_int_empty L X 0 w).mono fun en w' he => ?_⟩
    obtain ⟨rfl, rfl⟩ := he
    refine ⟨_, hr, ⟨rfl, rfl, rfl, Nat.le_refl _, fun _ _ _ => rfl⟩, fun _ => none, [.slice X 0 0], rfl, rfl, fun g i hg => (by cases hg), fun i b hb => ?_, fun c hc => (by cases hc)⟩
    cases i with
    | succ i => simp at hb
    | zero =>
      simp only [List.getElem?_cons_zero, Option.some.injEq] at hb
      subst hb
      refine ⟨_, [.slice X 0 0], rfl, by simp [matchV, isAgg], ?_⟩
      simp only [M]
      exact .inr (.inr ⟨e, none, .k, X, 0, rfl, rfl, Nat.le_refl _, fun h hh => (by cases hh), .inl ⟨rfl, rfl⟩⟩)
  · have hmx : maxLen = 9223372036854775807 := rfl
    refine .inl ⟨hen, (Any.slices_Compact_int L g 0 c xs w (ints_holds hw hj) (by omega) hc).mono fun en w' he => ?_⟩
    obtain ⟨rfl, q, rfl⟩ := he
    have hcl := compactL_len xs
    rw [compact_same]
    obtain ⟨cur', c1, c2, c3, c4, c5⟩ := row_heap (q := q) (ys := compactL xs ++ List.replicate (xs.length - (compactL xs).length) 0) hw (by rw [List.length_append, List.length_replicate]; omega)
    refine ⟨_, hr, ⟨rfl, rfl, rfl, by rw [c5]; exact Nat.le_refl _, fun g' _ hn => c4 g' (fun e => hn ⟨0, by rw [e]; exact hg⟩)⟩, fun g' => if g' = g then some 0 else none, [.slice (some ⟨g, 0, none⟩) (compactL xs).length c], rfl, rfl, fun g' i hg' => ?_, fun i b hb => ?_, fun c hc => (by cases hc)⟩
    · simp only at hg'
      split at hg'
      · rename_i e
        subst e
        exact ⟨.inr ⟨0, hg⟩, by rw [c5]; exact lt_of_some hw⟩
      · cases hg'
    · cases i with
      | succ i => simp at hb
      | zero =>
        simp only [List.getElem?_cons_zero, Option.some.injEq] at hb
        subst hb
        refine ⟨_, [.slice (some ⟨g, 0, none⟩) (compactL xs).length c], rfl, by simp [matchV, isAgg], ?_⟩
        refine ints_shut (xs := compactL xs) (by omega) (fun h hh => (by cases hh)) (by simp) c1 (by omega) hm fun j hj1 => ?_
        rw [c3 j (by rw [List.length_append]; omega), List.getElem_append_left (by exact hj1)]
theorem sortL_len (l : List Int) : (sortL l).length = l.length := List.length_mergeSort l
theorem sound_sort {Γ : Gl} (L : Lays.n189 P ρ) (e : TypeId) : Sound Γ P (ρ.f 189) (runOf [.v tInts (.o e (some 0) .k)] fun x kf => bif Nat.blt x.1.length 4611686018427387904 then kf ⟨[], [⟨tInts, .o e (some 0) .k, sortL x.1⟩]⟩ else none) := by
  refine ⟨?_, fun al => ?_⟩
  rotate_left
  · unfold runOf
    split
    · exact Det.bif _ (Det.pure _) Det.none
    · exact Det.none
  intro args kf ret w σ vals H B hr hin
  unfold runOf at hr
  split at hr
  case h_2 => cases hr
  rename_i x hx
  have := aproj_eq _ args hx
  subst this
  obtain ⟨xs, u⟩ := x
  simp only [ashape] at hin hr
  cases hlt : Nat.blt xs.length 4611686018427387904 with
  | false => rw [hlt] at hr; cases hr
  | true =>
  rw [hlt] at hr
  simp only [cond_true] at hr
  have hlt : xs.length < 4611686018427387904 := Nat.lt_of_succ_le (Nat.le_of_ble_eq_true hlt)
  obtain ⟨v, rfl, h2⟩ := one_arg hin
  obtain ⟨X, c, rfl, hc, ht, hcase⟩ := ints_open h2
  have hen : (callFunc (ρ.f 189) [Value.slice X xs.length c].toArray).run P w = .ok (.enter (ρ.f 189) [Value.slice X xs.length c].toArray) w := enters_of L.f189 (by kernel_rfl) rfl _ w
  rcases hcase with ⟨rfl, rfl⟩ | ⟨g, cur, rfl, hg, hw, hs, hm, hj⟩
  · refine .inl ⟨hen, (Any.slices_Sort_int_none L X 0 w).mono fun en w' he => ?_⟩
    obtain ⟨rfl, rfl⟩ := he
    refine ⟨_, hr, ⟨rfl, rfl, rfl, Nat.le_refl _, fun _ _ _ => rfl⟩, fun _ => none, [], rfl, rfl, fun g i hg => (by cases hg), fun i b hb => by simp at hb, fun d hd => ?_⟩
    injection hd with hd _
    subst hd
    have e0 : sortL [] = [] := List.eq_nil_of_length_eq_zero (sortL_len [])
    rw [e0]
    refine ⟨[.slice X 0 0], ?_⟩
    simp only [M]
    exact .inr (.inr ⟨e, some 0, .k, X, 0, rfl, rfl, Nat.le_refl _, ht, .inl (by simp)⟩)
  · refine .inl ⟨hen, (Any.slices_Sort_int L g 0 c xs w (ints_holds hw hj) (lt_of_some hw) hlt).mono fun en w' he => ?_⟩
    obtain ⟨rfl, q, os, rfl⟩ := he
    have hl : (sortL xs).length = xs.length := sortL_len xs
    obtain ⟨cur', c1, c2, c3, c4, c5⟩ := row_heap (q := q) (ys := sortL xs) hw (by rw [hl]; omega)
    have hgl := lt_of_some hw
    have old : ∀ g', g' < w.heap.size → (Sort.grow (Sort.putRow (Value.int .i64) (Sort.ahead w q) g 0 (sortL xs).toArray) os).heap[g']? = (Sort.putRow (Value.int .i64) (Sort.ahead w q) g 0 (sortL xs).toArray).heap[g']? := fun g' h => Sort.heap_grow_old _ _ (by rw [c5]; exact h)
    have hsz : w.heap.size ≤ (Sort.grow (Sort.putRow (Value.int .i64) (Sort.ahead w q) g 0 (sortL xs).toArray) os).heap.size := by rw [Sort.size_grow, c5]; omega
    refine ⟨_, hr, ⟨rfl, rfl, rfl, hsz, fun g' hg' hn => (old g' hg').trans (c4 g' (fun e => hn ⟨0, by rw [e]; exact hg⟩))⟩, fun g' => if g' = g then some 0 else none, [], rfl, rfl, fun g' i hg' => ?_, fun i b hb => by simp at hb, fun d hd => ?_⟩
    · simp only at hg'
      split at hg'
      · rename_i e
        subst e
        exact ⟨.inr ⟨0, hg⟩, Nat.lt_of_lt_of_le hgl hsz⟩
      · cases hg'
    · injection hd with hd _
      subst hd
      refine ⟨[.slice (some ⟨g, 0, none⟩) (sortL xs).length c], ?_⟩
      refine ints_shut (xs := sortL xs) (by omega) (fun h hh => by rw [ht h hh, hl]) (by simp) ((old g hgl).trans c1) (by omega) hm fun j hj1 => c3 j hj1
/-- A function of a number that gives a text, and may lay a block. -/
theorem sound_text {Γ : Gl} {f : FuncId} {fn : Func} {c : Code} (hf : P.funcs[f]? = some fn) (hn : (fn.name == "runtime.NumGoroutine") = false) (hb : fn.body = some c) {g : Int → ByteArray}
    (h : ∀ (k : Int) (w : World), Calls P f #[.int .i64 k] w fun en w' => en = .returned (.string (g k)) ∧ ∃ o, w' = w.alloc o) : Sound Γ P f (runOf [.v (.int .i64) .k] fun x kf => kf ⟨[⟨.str, .k, g x.1⟩], []⟩) := by
  refine ⟨?_, fun al => ?_⟩
  rotate_left
  · unfold runOf
    split
    · exact Det.pure _
    · exact Det.none
  intro args kf ret w σ vals H B hr hin
  unfold runOf at hr
  split at hr
  case h_2 => cases hr
  rename_i x hx
  have := aproj_eq _ args hx
  subst this
  rcases x with ⟨(k : Int), u⟩
  simp only [ashape] at hin hr
  obtain ⟨v, hv, cs, h1, h2⟩ := hin.ok 0 _ rfl
  simp only [M] at h2
  have e1 := match_int h1 h2.2
  subst e1
  have hvals : vals = [.int .i64 k] := by
    have hl := hin.len
    match vals, hl, hv with
    | [a], _, hv => simp at hv; rw [hv]
  subst hvals
  refine .inl ⟨enters_of hf hn hb _ w, (h k w).mono fun en w' he => ?_⟩
  obtain ⟨rfl, o, rfl⟩ := he
  refine ⟨_, hr, ⟨rfl, rfl, rfl, by simp, fun g' hg' _ => heap_alloc_old w o hg'⟩, fun _ => none, [.string (g k)], rfl, rfl, fun g' i hg => (by cases hg), fun i b hb => ?_, fun d hd => (by cases hd)⟩
  cases i with
  | succ i => simp at hb
  | zero =>
    simp only [List.getElem?_cons_zero, Option.some.injEq] at hb
    subst hb
    refine ⟨_, [.string (g k)], rfl, by simp [matchV, isAgg], ?_⟩
    simp [M, K, Md.isK]
end Go.Pv
