/- A verified evaluator of the program's form over pure values, part 3: what it tells of a function holds. -/
import Derived.Test.YtoclmlalcgjplaaDoorPv2
import Derived.Deep.AppendSrc
import Derived.Deep.Upon
import Derived.OrdersHeld
namespace Go.Pv
set_option linter.unusedVariables false
set_option linter.unusedSimpArgs false
variable {P : Program} {w w' : World} {A A' Wr : Nat → Prop} {H : Nat → Value} {tm tm' : Nat → Value} {S S' S1 : St} {σ σ1 σ2 : Nat → Option Nat} {w0 : World} {W0 Z : Nat → Prop} {a : Act} {own : Nat → Prop} {v : Value} {Θ : Tab} {dst : Option Nat}
theorem flat_row {s : Nat} (css : List (List Value)) (h : ∀ c ∈ css, c.length = s) (j : Nat) (hj : j < css.length) : (css.flatten.drop (j * s)).take s = css[j] := by
 have h1 : (css.take j).flatten.length = j * s := by
  rw [flatten_len s (fun c hc => h c (List.mem_of_mem_take hc)), List.length_take, Nat.min_eq_left (by omega)]
 rw [flat_split css j hj, ← h1, List.drop_left, ← h (css[j]) (List.getElem_mem hj), List.take_left]
theorem M_row {t : Ty} {m : Md} {xs : List t.I} {css : List (List Value)} {ow : Nat → Prop} {τ : Nat → Nat} (e : TypeId) (hl : css.length = xs.length)
  (hM : ∀ (j : Nat) (hj : j < xs.length), M w A H t m xs[j] (css[j]'(by omega)) (fun g => ow g ∧ τ g = j) []) (hlt : ∀ g, ow g → g < w.heap.size) (hmax : xs.length ≤ maxLen) :
  M (w.alloc (.cells css.flatten.toArray e)) (fun g => A g ∨ w.heap.size ≤ g) H (.sl t) (.o e none m) xs [.slice (some ⟨w.heap.size, 0, none⟩) xs.length xs.length] (fun g => ow g ∨ g = w.heap.size) [] := by
 have hall : ∀ c ∈ css, c.length = t.size := fun c hc => by
  obtain ⟨j, hj, rfl⟩ := List.mem_iff_getElem.1 hc
  exact (M_ok t (hM j (by omega))).1
 simp only [M]
 refine .inr (.inr ⟨e, none, m, some ⟨w.heap.size, 0, none⟩, xs.length, rfl, rfl, Nat.le_refl _, fun h hh => (by cases hh), .inr ⟨w.heap.size, css.flatten.toArray, τ, rfl, .inr rfl, heap_alloc_new w _, ?_, hmax, fun j hj => ?_⟩⟩)
 ·rw [List.size_toArray, flatten_len t.size hall, hl]
 ·rw [List.toList_toArray, flat_row css hall j (by omega)]
  refine M_move (w := w) ⟨fun g _ hg => heap_alloc_old w _ g hg, fun g hg hx => ?_⟩ t (fun g hg hl => heap_alloc_old w _ g hl) (fun g hg hl => ⟨.inl hg.1, by omega, hg.2⟩) (fun _ h => by simp at h) (hM j hj)
  rcases hx with hx | hx
  ·exact hx
  ·omega
theorem made_flat (zl : List Value) : ∀ n, madeCells zl.toArray (n * zl.length) = (List.replicate n zl).flatten.toArray := by
 intro n
 unfold madeCells
 apply Array.toList_inj.1
 simp only [Array.toList_map, Array.toList_range, List.toList_toArray]
 induction n with
 | zero => simp
 | succ n ih =>
  rw [Nat.add_mul, Nat.one_mul, List.range_add, List.map_append, ih, List.replicate_succ', List.flatten_append]
  congr 1
  simp only [List.map_map, List.flatten_cons, List.flatten_nil, List.append_nil]
  apply List.ext_getElem?
  intro k
  by_cases hk : k < zl.length
  ·simp [hk, Function.comp_def, Nat.mod_eq_of_lt hk]
  ·simp [hk]
theorem listOf_spec {t : Ty} {m : Md} : ∀ {l : List TV} {xs : List t.I}, listOf t m l = some xs → xs.length = l.length ∧ ∀ (k : Nat) (hk : k < xs.length), l[k]? = some ⟨t, m, xs[k]⟩
 | [], xs, h => by
  simp only [listOf, Option.some.injEq] at h
  subst h
  exact ⟨rfl, fun k hk => by simp at hk⟩
 | b :: r, xs, h => by
  simp only [listOf] at h
  split at h
  ·rename_i ht
   split at h
   ·rename_i hm
    split at h
    ·rename_i l hl
     injection h with h
     subst h
     obtain ⟨h1, h2⟩ := listOf_spec hl
     obtain ⟨bt, bm, bx⟩ := b
     simp only at ht hm
     subst ht hm
     refine ⟨by simp [h1], fun k hk => ?_⟩
     cases k with
     | zero => rfl
     | succ k => simpa using h2 k (by simpa using hk)
    ·cases h
   ·cases h
  ·cases h
theorem buildSlice_ok (hT : tabB P Θ = true) (h : RelS σ w0 W0 Z H S a w) {hn : Hn} {o : Oper} {T : TypeId} {n : Nat} {ps : Array (Nat × Operand)} (ho : o.op = .buildSlice T n ps) (e : evBuildSlice Θ hn S o.dst T n ps.toList = some (true, S')) : GoesX P w0 W0 Z H S' a o.dst w (execOp a.eval o) := by
 unfold evBuildSlice at e
 split at e
 case h_2 => cases e
 rename_i T0 t te fs0 hi
 cases hc : (placesB n ps.toList && Nat.ble n 1800) with
 | false => rw [hc] at e; cases e
 | true =>
 rw [hc] at e
 simp only [cond_true] at e
 simp only [Bool.and_eq_true] at hc
 obtain ⟨hpl, hn18⟩ := hc
 have hn18 := Nat.le_of_ble_eq_true hn18
 split at e
 case h_2 => cases e
 rename_i l S1 hl
 obtain ⟨σ1, ow, τ, css, h1, hnn, hk, hcl, hll, hj, hparts⟩ := parts_spec hT ps.toList _ 0 h hl
 rw [List.length_replicate] at hll
 obtain ⟨_, hu, hT0⟩ := tab_ti hT hi
 simp only at hT0
 subst hT0
 obtain ⟨u1, u2, u3⟩ := und_sl hu rfl
 simp only at u1 u2
 obtain ⟨i2, hi2, ht2⟩ := is_find u2
 obtain ⟨⟨sm, inf, z, k1, k2, _, _, _, k3, k4⟩, _, hte⟩ := tab_ti hT hi2
 rw [hte] at k1
 rw [ht2] at k2 k4 sm
 have hlt : ∀ g, ow g → g < w.heap.size := fun g hg => by
  obtain ⟨i, _, hi⟩ := hk.was g hg
  exact h.lt g i hi
 -- all parts are of the type
 have hall : (∃ m xs m', listOf t m l = some xs ∧ (m' = .o te none m ∨ (m' = .k ∧ m.isK = true)) ∧ S' = S1.put o.dst (.v ⟨.sl t, m', xs⟩ [])) := by
  split at e
  ·simp only [Option.some.injEq, Prod.mk.injEq, true_and] at e
   cases hf : hn.froz o.dst with
   | true => exact ⟨.k, [], _, rfl, .inr ⟨by rw [hf]; rfl, rfl⟩, e.symm⟩
   | false => exact ⟨_, [], _, rfl, .inl (by rw [hf]; rfl), e.symm⟩
  ·split at e
   ·rename_i xs hxs
    simp only [Option.some.injEq, Prod.mk.injEq, true_and] at e
    refine ⟨_, xs, _, hxs, ?_, e.symm⟩
    generalize hf : (hn.froz o.dst && _) = q
    cases q with
    | true =>
     simp only [Bool.and_eq_true] at hf
     exact .inr ⟨rfl, hf.2⟩
    | false => exact .inl rfl
   ·cases e
 obtain ⟨m, xs, m', hxs, hm', rfl⟩ := hall
 obtain ⟨x1, x2⟩ := listOf_spec hxs
 have hty : ∀ (k : Nat) (b : TV), l[k]? = some b → b.t = t := fun k b hb => by
  have hkl : k < xs.length := by rw [x1]; exact (List.getElem?_eq_some_iff.1 hb).1
  rw [x2 k hkl] at hb
  injection hb with hb
  rw [← hb]
 have hzl : (l.map fun b => zc b.t) = List.replicate n (zc t) := by
  apply List.ext_getElem?
  intro k
  rw [List.getElem?_map, List.getElem?_replicate]
  by_cases hkl : k < l.length
  ·rw [if_pos (by omega), List.getElem?_eq_getElem hkl, Option.map_some, hty k _ (List.getElem?_eq_getElem hkl)]
  ·rw [if_neg (by omega), List.getElem?_eq_none (by omega)]
   rfl
 have hfill := parts_fill (a := a) (ps := ps.toList) (l := l) (css := css) (place := fun k => some (k * t.size, t.size)) hcl (by rw [hll]; exact hpl) (fun k b cs hb hcs => by
   obtain ⟨cs', c1, c2, _⟩ := hparts k b hb
   rw [c1] at hcs
   injection hcs with hcs
   subst hcs
   exact M_ok _ c2) (fun k b hb => by
   obtain ⟨cs', c1, _, c3⟩ := hparts k b hb
   simp only [Nat.zero_add] at c3
   exact ⟨cs', c1, c3⟩) (fun k hk => by
   rw [hty k _ (List.getElem?_eq_getElem hk), hzl]
   congr 2
   unfold offs
   rw [List.take_replicate, Nat.min_eq_left (by omega), List.map_replicate, List.sum_replicate_nat, zc_len])
 have hz1 : z.cells = (zc t).toArray := tail_match k4 (fun u hu => ?_)
 rotate_left
 ·-- one cell each
  have : ∀ (t : Ty), ∀ u ∈ zc t, u.oneCell' = true := by
   intro t
   induction t with
   | pair a b iha ihb => intro u hu; simp only [zc, List.mem_append] at hu; rcases hu with hu | hu; exact iha u hu; exact ihb u hu
   | arr n t ih => intro u hu; simp only [zc, List.mem_flatten] at hu; obtain ⟨c, hc, hu⟩ := hu; rw [List.eq_of_mem_replicate hc] at hu; exact ih u hu
   | unit => intro u hu; simp [zc] at hu
   | _ => intro u hu; simp only [zc, List.mem_singleton] at hu; subst hu; rfl
  exact this t u hu
 have hlc : css.length = xs.length := by omega
 have hMrow := M_row (w := w) (A := Av σ Z) (H := H) (t := t) (m := m) (xs := xs) (css := css) (ow := ow) (τ := τ) te hlc (fun j hj => by
   have hjl := x2 j hj
   obtain ⟨cs', c1, c2, _⟩ := hparts j _ hjl
   rw [List.getElem?_eq_getElem (by omega)] at c1
   injection c1 with c1
   rw [c1]
   simpa using c2) hlt (by simp only [maxLen]; omega)
 have hrun : (Instr.buildSlice T0 n (ps.map fun (j, x) => (j, a.eval x))).run P w = .ok (.slice (some ⟨w.heap.size, 0, none⟩) n n) (w.alloc (.cells css.flatten.toArray te)) := by
  have hsz : ¬ n * t.size > 2 ^ 24 := by
   have := Nat.mul_le_mul hn18 sm
   omega
  have hfill' : Instr.fill (fun i => some (i * t.size, t.size)) ((Array.range (n * t.size)).map (z.cells[· % z.cells.size]!)) (ps.map fun x => (x.1, a.eval x.2)).toList = some css.flatten.toArray := by
   have := made_flat (zc t) n
   unfold madeCells at this
   rw [hz1, Array.toList_map]
   rw [zc_len] at this
   rw [this, ← hzl]
   exact hfill
  have hso : (sizeOf te).run P w = .ok t.size w := by
   simp [sizeOf, typeInfo, k1, k2]
  have hzv : (zeroValue te).run P w = .ok z w := by
   simp [zeroValue, typeInfo, k1, k3]
  by_cases h0 : n * t.size = 0
  ·have hfill0 : Instr.fill (fun i => some (i * t.size, t.size)) ((Array.range (n * t.size)).map ((#[] : Array Value)[· % (#[] : Array Value).size]!)) (ps.map fun x => (x.1, a.eval x.2)).toList = some css.flatten.toArray := by
    rw [← hfill', h0]
    simp [Array.range_zero']
   unfold Instr.buildSlice
   simp only [Sem.run_bind, run_underlying u1, Result.andThen_ok, hso, hsz, if_false]
   rw [if_pos h0]
   simp only [Sem.run_bind, Sem.run_pure, Result.andThen_ok, hfill0]
   simp [newRow]
  ·unfold Instr.buildSlice
   simp only [Sem.run_bind, run_underlying u1, Result.andThen_ok, hso, hsz, if_false]
   rw [if_neg h0]
   simp only [Sem.run_bind, Sem.run_pure, hzv, Result.andThen_ok, hfill']
   simp [newRow]
 have hex : (execOp a.eval o).run P w = .ok (.value (.slice (some ⟨w.heap.size, 0, none⟩) n n)) (w.alloc (.cells css.flatten.toArray te)) := by
  simp only [execOp, ho, Sem.run_bind, hrun, Result.andThen_ok]
  rfl
 have hAlt : ∀ g, Av σ1 Z g → g < w.heap.size := fun g hg => by
  rcases hg with ⟨i, hi⟩ | hz
  ·exact h1.lt g i hi
  ·have := (h1.old g hz).2; have := h1.fr.size; omega
 rcases hm' with rfl | ⟨rfl, hmk⟩
 ·refine ⟨w.alloc (.cells css.flatten.toArray te), .slice (some ⟨w.heap.size, 0, none⟩) n n, hex, fun g hg => heap_alloc_old w _ g hg, _, h1.give (b := ⟨.sl t, .o te none m, xs⟩) (cs := [.slice (some ⟨w.heap.size, 0, none⟩) n n]) (fun g hg => heap_alloc_old w _ g hg) (h1.fr.alloc _) (fun g hg => ?_) (fun g hg hx => ?_) (by simp [matchV, isAgg]) (by
   have : xs.length = n := by omega
   rw [this] at hMrow
   exact hMrow)⟩
  ·rcases hg with hg | rfl
   ·obtain ⟨i, hi, hg'⟩ := hk.now g hg
    have := hlt g hg
    exact ⟨by simp only [World.alloc, Array.size_push]; omega, .inl ⟨i, by omega, hg'⟩⟩
   ·exact ⟨by simp only [World.alloc, Array.size_push]; omega, .inr (Nat.le_refl _)⟩
  ·rcases hx with hx | hx | rfl
   ·exact .inl (hk.Av.1 hx)
   ·obtain ⟨i, _, hi⟩ := hk.was g hx
    exact .inl (.inl ⟨i, hi⟩)
   ·exact .inr (Nat.le_refl _)
 ·refine ⟨w.alloc (.cells css.flatten.toArray te), .slice (some ⟨w.heap.size, 0, none⟩) n n, hex, fun g hg => heap_alloc_old w _ g hg, _, h1.give (b := ⟨.sl t, .k, xs⟩) (cs := [.slice (some ⟨w.heap.size, 0, none⟩) n n]) (ow := fun _ => False) (A' := Av σ1 Z) (fun g hg => heap_alloc_old w _ g hg) (h1.fr.alloc _) (fun g hg => hg.elim) (fun g hg hx => hx.resolve_right id) (by simp [matchV, isAgg]) (K_M (t := .sl t) rfl ?_)⟩
  have hxn : xs.length = n := by omega
  show K _ _ (.sl t) xs _
  have hcl' : ∀ c ∈ css, c.length = t.size := fun c hc => by
   obtain ⟨j, hj, rfl⟩ := List.getElem_of_mem hc
   obtain ⟨cs', c1, c2, _⟩ := hparts j _ (x2 j (by omega))
   rw [List.getElem?_eq_getElem hj] at c1
   injection c1 with c1
   rw [c1]
   exact (M_ok _ c2).1
  have hfl : css.flatten.length = n * t.size := by rw [flatten_len t.size hcl', hlc, hxn]
  simp only [K]
  refine ⟨some ⟨w.heap.size, 0, none⟩, n, by rw [hxn], by omega, fun _ => ⟨w.heap.size, 0, css.flatten.toArray, te, (0, 0), rfl, fun hx => absurd (hAlt _ hx) (Nat.lt_irrefl _), heap_alloc_new w _, by simp only [List.size_toArray, hfl, hxn]; omega, fun j hj' => ?_⟩⟩
  obtain ⟨cs', c1, c2, _⟩ := hparts j _ (x2 j hj')
  rw [List.getElem?_eq_getElem (by omega)] at c1
  injection c1 with c1
  have hrow := flat_row css hcl' j (by omega)
  simp only [Nat.zero_add]
  rw [hrow, c1]
  refine K_stays ⟨fun g _ hg => heap_alloc_old w _ g hg, fun g _ hg => hk.Av.1 hg⟩ t (M_isK t hmk c2)
theorem makeSlice_ok (hT : tabB P Θ = true) (h : RelS σ w0 W0 Z H S a w) {o : Oper} {T : TypeId} {l c : Operand} (ho : o.op = .makeSlice T l c) (e : evMakeSlice Θ S o.dst T l c = some (true, S')) : GoesX P w0 W0 Z H S' a o.dst w (execOp a.eval o) := by
 unfold evMakeSlice at e
 split at e
 case h_2 => cases e
 rename_i T0 t te fs0 n n' hi hl hc
 split at e
 case h_2 => cases e
 rename_i z hz
 split at e
 case isFalse => cases e
 rename_i hzt
 simp only [Option.some.injEq, Prod.mk.injEq, Bool.and_eq_true, decide_eq_true_eq] at e
 obtain ⟨⟨⟨rfl, h0⟩, h40⟩, rfl⟩ := e
 obtain ⟨kl, hl⟩ := rdInt_spec h hl
 obtain ⟨kc, hc⟩ := rdInt_spec h hc
 obtain ⟨_, hu, hT0⟩ := tab_ti hT hi
 simp only at hT0
 subst hT0
 obtain ⟨u1, u2, u3⟩ := und_sl hu rfl
 simp only at u1
 obtain ⟨i, inf, zv, hi2, hty, hx, hfit, q1, q2, q3, q4, q5, q6⟩ := zero_spec hT hz
 have hM0 : M w (Av σ Z) H z.t z.m z.t.z (zc z.t) (fun _ => False) [] := zfit_M z.t hfit
 have hzc : zv.cells = (zc z.t).toArray := tail_match q4 (M_ok _ hM0).2
 have hrun := run_make (P := P) w T0 te inf zv u1 q1 q3 kl kc n n h0 (Int.le_refl _) (by
  have h1 : (inf.bytes : Int) ≤ 256 := by omega
  calc (inf.bytes : Int) * n ≤ 256 * n := Int.mul_le_mul_of_nonneg_right h1 h0
   _ ≤ 281474976710656 := by omega) (by omega)
 rw [q2, hzc, ← zc_len, made_flat] at hrun
 have hMrow := M_row (w := w) (A := Av σ Z) (H := H) (t := t) (m := z.m) (xs := List.replicate n.toNat t.z) (css := List.replicate n.toNat (zc z.t)) (ow := fun _ => False) (τ := fun _ => 0) te (by simp) (fun j hj => by
   subst hzt
   simp only [List.getElem_replicate]
   exact M_none hM0) (fun _ h => h.elim) (by simp only [List.length_replicate, maxLen]; omega)
 refine ⟨w.alloc (.cells (List.replicate n.toNat (zc z.t)).flatten.toArray te), _, ?_, fun g hg => heap_alloc_old w _ g hg, _, h.give (b := ⟨.sl t, .o te none z.m, List.replicate n.toNat t.z⟩) (cs := [.slice (some ⟨w.heap.size, 0, none⟩) n.toNat n.toNat]) (w' := w.alloc (.cells (List.replicate n.toNat (zc z.t)).flatten.toArray te)) (v := .slice (some ⟨w.heap.size, 0, none⟩) n.toNat n.toNat) (fun g hg => heap_alloc_old w _ g hg) (h.fr.alloc _) (fun g hg => ?_) (fun g hg hx => ?_) (by simp [matchV, isAgg]) (by
   rw [List.length_replicate] at hMrow
   exact hMrow)⟩
 ·simp only [execOp, ho, hl, hc, Sem.run_bind, hrun, Result.andThen_ok]
  rfl
 ·rcases hg with hg | rfl
  ·exact hg.elim
  ·exact ⟨by simp only [World.alloc, Array.size_push]; omega, .inr (Nat.le_refl _)⟩
 ·rcases hx with hx | hx | rfl
  ·exact .inl hx
  ·exact hx.elim
  ·exact .inr (Nat.le_refl _)
end Go.Pv
namespace Go.Pv
set_option linter.unusedVariables false
set_option linter.unusedSimpArgs false
variable {P : Program} {w w' : World} {A A' Wr : Nat → Prop} {H : Nat → Value} {tm tm' : Nat → Value} {S S' S1 : St} {σ σ1 σ2 : Nat → Option Nat} {w0 : World} {W0 Z : Nat → Prop} {a : Act} {own : Nat → Prop} {v : Value} {Θ : Tab} {dst : Option Nat}
theorem row_left {olds news : List Value} {s n j : Nat} (hl : olds.length = n * s) (hj : j < n) : ((olds ++ news).drop (j * s)).take s = (olds.drop (j * s)).take s := by
 have h1 : (j + 1) * s ≤ n * s := Nat.mul_le_mul_right s hj
 rw [Nat.add_mul, Nat.one_mul] at h1
 rw [List.drop_append_of_le_length (by omega), List.take_append_of_le_length (by rw [List.length_drop]; omega)]
theorem row_right {olds news : List Value} {s n j : Nat} (hl : olds.length = n * s) : ((olds ++ news).drop ((n + j) * s)).take s = (news.drop (j * s)).take s := by
 rw [Nat.add_mul, ← hl, List.drop_append, Nat.add_sub_cancel_left, List.drop_eq_nil_of_le (Nat.le_add_right _ _), List.nil_append]
theorem row_take {cur : List Value} {s n j : Nat} (hj : j < n) : ((cur.take (n * s)).drop (j * s)).take s = (cur.drop (j * s)).take s := by
 have h1 : (j + 1) * s ≤ n * s := Nat.mul_le_mul_right s hj
 rw [Nat.add_mul, Nat.one_mul] at h1
 rw [List.drop_take, List.take_take, Nat.min_eq_left (by omega)]
theorem setCells_setRow {g o : Nat} {t : TypeId} {cur : Array Value} {vs : List Value} (hw : w.heap[g]? = some (.cells cur t (0, 0))) (hb : o + vs.length ≤ cur.size) (h1 : ∀ u ∈ vs, u.oneCell' = true) :
  w.setCells g o vs = w.setRow g (putCells cur.toList o vs).toArray := by
 have e1 := run_storeCells_at (P := (default : Program)) g o t vs 0 cur w hw (by omega) h1
 have e2 := run_storeCells_cells (P := (default : Program)) g o vs 0 w (fun j hj => by
  have : o + j < cur.size := by omega
  simp [World.cell?, hw, this]) (fun j hj => by simp [World.frozen?, hw]) h1
 rw [e1] at e2
 simp only [Nat.add_zero, Result.ok.injEq, true_and] at e2
 exact e2.symm
theorem src_of {T' e' : TypeId} {size : Nat} {t : Ty} {ys : List t.I} {vy : Value} (hk : P.underlying T' = some (.slice e')) (hs : size = t.size)
  (h : ∃ X c, vy = .slice X ys.length c ∧ (0 < ys.length → ∃ g off cur T fr, X = some ⟨g, off, none⟩ ∧ w.heap[g]? = some (.cells cur T fr) ∧ off + ys.length * t.size ≤ cur.size ∧ ∀ u ∈ (cur.toList.drop off).take (ys.length * t.size), u.oneCell' = true)) :
  ∃ news, Src P size T' vy ys.length news w ∧ (∀ g off cur T fr X c, vy = .slice X ys.length c → X = some ⟨g, off, none⟩ → w.heap[g]? = some (.cells cur T fr) → 0 < ys.length → news = (cur.toList.drop off).take (ys.length * t.size)) := by
 subst hs
 obtain ⟨X, c, rfl, h⟩ := h
 rcases Nat.eq_zero_or_pos ys.length with h0 | h0
 ·refine ⟨[], ?_, fun _ _ _ _ _ _ _ _ _ _ hp => by omega⟩
  rw [h0]
  cases X with
  | none => exact Src.ofNil w hk c
  | some ad => exact Src.ofSlice w hk ad 0 c [] (by simp) (fun j u hu => by simp at hu) (fun u hu => by simp at hu)
 ·obtain ⟨g, off, cur, T, fr, rfl, hw, hb, h1⟩ := h h0
  refine ⟨(cur.toList.drop off).take (ys.length * t.size), Src.ofSlice w hk ⟨g, off, none⟩ ys.length c _ (by have hc : cur.toList.length = cur.size := Array.length_toList; rw [List.length_take, List.length_drop]; omega) (fun j u hu => ?_) h1, ?_⟩
  ·have hj : j < ys.length * t.size := by
    have := (List.getElem?_eq_some_iff.1 hu).1
    rw [List.length_take] at this
    omega
   rw [List.getElem?_take, if_pos hj, List.getElem?_drop] at hu
   rw [addr_add]
   simp only [World.cell?, hw]
   rw [← Array.getElem?_toList]
   exact hu
  ·intro g' off' cur' T' fr' X' c' e1 e2 hw' _
   injection e1 with e1
   subst e2
   injection e1 with e1
   injection e1 with e1 e1'
   subst e1 e1'
   rw [hw] at hw'
   injection hw' with hw'
   injection hw' with hw'
   rw [hw']
noncomputable def join (owN : Nat → Prop) (n : Nat) (τN τ : Nat → Nat) (g : Nat) : Nat := open Classical in if owN g then n + τN g else τ g
theorem join_in {owN : Nat → Prop} {n : Nat} {τN τ : Nat → Nat} {g : Nat} (h : owN g) : join owN n τN τ g = n + τN g := if_pos h
theorem join_out {owN : Nat → Prop} {n : Nat} {τN τ : Nat → Nat} {g : Nat} (h : ¬ owN g) : join owN n τN τ g = τ g := if_neg h
theorem append_plain (hT : tabB P Θ = true) {T T' e ty : TypeId} {t : Ty} {tag : Option Nat} {me : Md} {xs ys : List t.I} {vx vy : Value} {owx owN : Nat → Prop} {τN : Nat → Nat} {news : List Value} {inf : TypeInfo} {z : Value}
  (hu : P.underlying T = some (.slice e)) (hi : P.info? e = some inf) (hz : inf.zero = some z) (hsz : inf.size = t.size) (hby : inf.bytes ≤ 32 * t.size) (hzs : z.cells.size = t.size) (hpos : 0 < t.size)
  (hx : M w A H (.sl t) (.o e tag me) xs [vx] owx []) (hsrc : Src P t.size T' vy ys.length news w)
  (hN : ∀ (k : Nat) (hk : k < ys.length), M w A H t me ys[k] ((news.drop (k * t.size)).take t.size) (fun g => owN g ∧ τN g = k) [])
  (hdis : ∀ g, owx g → ¬ owN g) (hxA : ∀ g, owx g → A g) (hlx : ∀ g, owx g → g < w.heap.size) (hlN : ∀ g, owN g → g < w.heap.size) (hlim : (xs.length + ys.length) * t.size ≤ 4398046511104) :
  ∃ v' w' ow', (Builtin.append_ #[T, T'] ty #[vx, vy]).run P w = .ok v' w' ∧ M w' (fun g => A g ∨ w.heap.size ≤ g) H (.sl t) (.o e none me) (xs ++ ys) [v'] ow' [] ∧
   (∀ g, g < w.heap.size → ¬ owx g → w'.heap[g]? = w.heap[g]?) ∧ (∀ g, ow' g → g < w'.heap.size ∧ (owx g ∨ owN g ∨ w.heap.size ≤ g)) ∧ w.heap.size ≤ w'.heap.size ∧ w'.os = w.os ∧ w'.tape = w.tape ∧ w'.output = w.output := by
 have hcount : xs.length + ys.length ≤ 4398046511104 := Nat.le_trans (Nat.le_mul_of_pos_right _ hpos) hlim
 have hbytes : (xs.length + ys.length) * inf.bytes ≤ 140737488355328 := by
  have : (xs.length + ys.length) * inf.bytes ≤ (xs.length + ys.length) * (32 * t.size) := Nat.mul_le_mul_left _ hby
  have e2 : (xs.length + ys.length) * (32 * t.size) = 32 * ((xs.length + ys.length) * t.size) := by rw [Nat.mul_left_comm]
  omega
 have hsrc' : Src P inf.size T' vy ys.length news w := by rw [hsz]; exact hsrc
 have hone := hsrc.one
 have hnl := hsrc.newsLen
 -- the grown row
 have grown : ∀ (base : Option Addr) (c : Nat) (olds : List Value) (owo : Nat → Prop) (τ : Nat → Nat), vx = .slice base xs.length c → c < xs.length + ys.length → olds.length = xs.length * t.size →
   (Builtin.firstCells inf.size xs.length vx).run P w.drew = .ok olds.toArray w.drew → (∀ g, owo g → owx g) →
   (∀ (k : Nat) (hk : k < xs.length), M w A H t me xs[k] ((olds.drop (k * t.size)).take t.size) (fun g => owo g ∧ τ g = k) []) →
   ∃ v' w' ow', (Builtin.append_ #[T, T'] ty #[vx, vy]).run P w = .ok v' w' ∧ M w' (fun g => A g ∨ w.heap.size ≤ g) H (.sl t) (.o e none me) (xs ++ ys) [v'] ow' [] ∧
   (∀ g, g < w.heap.size → ¬ owx g → w'.heap[g]? = w.heap[g]?) ∧ (∀ g, ow' g → g < w'.heap.size ∧ (owx g ∨ owN g ∨ w.heap.size ≤ g)) ∧ w.heap.size ≤ w'.heap.size ∧ w'.os = w.os ∧ w'.tape = w.tape ∧ w'.output = w.output := by
  intro base c olds owo τ hv hc hol hfirst hsub hel
  subst hv
  have hrun := run_append_grow_src (P := P) w T T' ty e inf z hu hi hz base xs.length c olds hfirst vy ys.length news hsrc' hc (by omega) (by
   have h1 := nextslicecap_le hc
   have h2 := Nat.mul_le_mul_right inf.bytes h1
   rw [Nat.mul_assoc] at h2
   omega)
  have hge := grownCap_ge w (xs.length + ys.length) c e
  have hle := grownCap_le_maxLen w (xs.length + ys.length) c e (by simp only [maxLen]; omega)
  let pad := Builtin.zeroCells z.cells (grownCap w (xs.length + ys.length) c e - (xs.length + ys.length))
  have hheap : ∀ g, g < w.heap.size → (w.drew.alloc (.cells ((olds ++ news).toArray ++ pad) e)).heap[g]? = w.heap[g]? := fun g hg => heap_alloc_old w.drew _ g hg
  refine ⟨_, w.drew.alloc (.cells ((olds ++ news).toArray ++ pad) e), fun g => owo g ∨ owN g ∨ g = w.heap.size, hrun, ?_, fun g hg _ => hheap g hg, fun g hg => ?_, by simp, rfl, rfl, rfl⟩
  ·simp only [M]
   refine .inr (.inr ⟨e, none, me, some ⟨w.heap.size, 0, none⟩, grownCap w (xs.length + ys.length) c e, rfl, by rw [List.length_append], by rw [List.length_append]; exact hge, fun h hh => (by cases hh), .inr ⟨w.heap.size, (olds ++ news).toArray ++ pad, join owN xs.length τN τ, rfl, .inr (.inr rfl), heap_alloc_new w.drew _, ?_, hle, fun j hj => ?_⟩⟩)
   ·simp only [pad, Array.size_append, List.size_toArray, List.length_append, size_zeroCells, hzs, hol, hnl, ← Nat.add_mul]
    congr 1
    omega
   ·have hst : Stays w (w.drew.alloc (.cells ((olds ++ news).toArray ++ pad) e)) A (fun g => A g ∨ w.heap.size ≤ g) := ⟨fun g _ hg => hheap g hg, fun g hg hx => hx.resolve_right (by omega)⟩
    rw [Array.toList_append, List.toList_toArray]
    rcases Nat.lt_or_ge j xs.length with hjx | hjx
    ·rw [List.getElem_append_left hjx, List.append_assoc, row_left hol hjx]
     refine M_move hst t (fun g hg hl => hheap g hl) (fun g hg hl => ⟨.inl hg.1, by omega, ?_⟩) (fun _ h => by simp at h) (hel j hjx)
     rw [join_out (hdis g (hsub g hg.1))]
     exact hg.2
    ·have hjy : j - xs.length < ys.length := by rw [List.length_append] at hj; omega
     rw [List.getElem_append_right hjx]
     have e1 := row_right (olds := olds) (news := news ++ pad.toList) (s := t.size) (n := xs.length) (j := j - xs.length) hol
     rw [show xs.length + (j - xs.length) = j from by omega, ← List.append_assoc, row_left hnl hjy] at e1
     rw [e1]
     refine M_move hst t (fun g hg hl => hheap g hl) (fun g hg hl => ⟨.inr (.inl hg.1), by omega, ?_⟩) (fun _ h => by simp at h) (hN (j - xs.length) hjy)
     rw [join_in hg.1, hg.2]
     omega
  ·have : (w.drew.alloc (.cells ((olds ++ news).toArray ++ pad) e)).heap.size = w.heap.size + 1 := by simp
   rcases hg with hg | hg | rfl
   ·exact ⟨by have := hlx g (hsub g hg); omega, .inl (hsub g hg)⟩
   ·exact ⟨by have := hlN g hg; omega, .inr (.inl hg)⟩
   ·exact ⟨by omega, .inr (.inr (Nat.le_refl _))⟩
 -- nothing to append
 have nothing : ∀ (base : Option Addr) (c : Nat), vx = .slice base xs.length c → xs.length ≤ c → ys.length = 0 →
   ∃ v' w' ow', (Builtin.append_ #[T, T'] ty #[vx, vy]).run P w = .ok v' w' ∧ M w' (fun g => A g ∨ w.heap.size ≤ g) H (.sl t) (.o e none me) (xs ++ ys) [v'] ow' [] ∧
   (∀ g, g < w.heap.size → ¬ owx g → w'.heap[g]? = w.heap[g]?) ∧ (∀ g, ow' g → g < w'.heap.size ∧ (owx g ∨ owN g ∨ w.heap.size ≤ g)) ∧ w.heap.size ≤ w'.heap.size ∧ w'.os = w.os ∧ w'.tape = w.tape ∧ w'.output = w.output := by
  intro base c hv hle h0
  have hys : ys = [] := List.eq_nil_of_length_eq_zero h0
  subst hys
  have hn0 : news = [] := List.eq_nil_of_length_eq_zero (by simpa using hnl)
  rw [hn0] at hsrc'
  rw [hv] at hx ⊢
  have hrun := run_append_nothing (P := P) w T T' ty e inf hu hi base xs.length c hle vy hsrc'
  refine ⟨_, w, owx, hrun, ?_, fun _ _ _ => rfl, fun g hg => ⟨hlx g hg, .inl hg⟩, Nat.le_refl _, rfl, rfl, rfl⟩
  rw [List.append_nil]
  have hx' : M w A H (.sl t) (.o e none me) xs [.slice base xs.length c] owx [] := by
   simp only [M] at hx ⊢
   rcases hx with ⟨hn, _⟩ | ⟨hk, _⟩ | ⟨T1, tag1, me1, X, c1, e1, e2, h1, h2, h3⟩
   ·simp at hn
   ·simp [Md.isK] at hk
   ·injection e1 with e1 e1' e1''
    subst e1 e1' e1''
    exact .inr (.inr ⟨e, none, me, X, c1, rfl, e2, h1, fun h hh => (by cases hh), h3⟩)
  exact M_move (w := w) ⟨fun _ _ _ => rfl, fun g hg hx => hx.resolve_right (by omega)⟩ (.sl t) (fun _ _ _ => rfl) (fun g hg _ => hg) (fun _ h => h) hx'
 have hx0 := hx
 simp only [M] at hx
 rcases hx with ⟨hn, _⟩ | ⟨hk, _⟩ | ⟨T1, tag1, me1, X, c, e1, e2, hle, htag, hx⟩
 ·simp at hn
 ·simp [Md.isK] at hk
 ·injection e1 with e1 e1' e1''
  subst e1 e1' e1''
  simp only [List.cons.injEq, and_true] at e2
  rcases Nat.eq_zero_or_pos ys.length with h0 | h0
  ·exact nothing X c e2 hle h0
  ·rcases hx with ⟨hxs, hc⟩ | ⟨g, cur, τ, rfl, hog, hw, hcs, hcm, hel⟩
   ·subst hxs hc
    refine grown X 0 [] (fun _ => False) (fun _ => 0) e2 (by simpa using h0) (by simp) ?_ (fun _ h => h.elim) (fun k hk => by simp at hk)
    rw [e2]
    cases X with
    | none => exact run_firstCells_none w.drew _ _ _ _
    | some ad => exact run_firstCells_some w.drew _ _ ad _ _ [] (by simp) (fun j u hu => by simp at hu)
   ·have hbx : xs.length * t.size ≤ cur.toList.length := by
     have h1 : cur.toList.length = cur.size := Array.length_toList
     have h2 := Nat.mul_le_mul_right t.size hle
     omega
    have hcl : cur.toList.length = cur.size := Array.length_toList
    by_cases hroom : xs.length + ys.length ≤ c
    ·-- room
     have hfit : xs.length * t.size + news.length ≤ cur.size := by
      rw [hnl, hcs, ← Nat.add_mul]
      exact Nat.mul_le_mul_right _ hroom
     have hrun := run_append_room_src (P := P) w T T' ty e inf hu hi g 0 xs.length c vy ys.length news hsrc' hroom (fun j hj => by
      have : xs.length * inf.size + j < cur.size := by rw [hsz]; omega
      simp [World.cell?, hw, this]) (fun j hj => by simp [World.frozen?, hw])
     rw [Nat.zero_add, hsz, setCells_setRow hw hfit hone] at hrun
     have hheap : ∀ k, k ≠ g → (w.setRow g (putCells cur.toList (xs.length * t.size) news).toArray).heap[k]? = w.heap[k]? := fun k hk => setRow_other w g k _ hk
     refine ⟨_, w.setRow g (putCells cur.toList (xs.length * t.size) news).toArray, fun k => owx k ∨ owN k, by rw [e2]; exact hrun, ?_, fun k _ hk => hheap k (fun e' => hk (by rw [e']; exact hog)), fun k hk => ?_, by rw [setRow_size]; exact Nat.le_refl _, rfl, rfl, rfl⟩
     ·simp only [M]
      refine .inr (.inr ⟨e, none, me, some ⟨g, 0, none⟩, c, rfl, by rw [List.length_append], by rw [List.length_append]; exact hroom, fun h hh => (by cases hh), .inr ⟨g, (putCells cur.toList (xs.length * t.size) news).toArray, join owN xs.length τN τ, rfl, .inl hog, setRow_heap w g cur _ e (0, 0) hw, ?_, hcm, fun j hj => ?_⟩⟩)
      ·rw [List.size_toArray, put_len _ _ _ (by omega), hcl, hcs]
      ·have hst : Stays w (w.setRow g (putCells cur.toList (xs.length * t.size) news).toArray) A (fun g => A g ∨ w.heap.size ≤ g) := ⟨fun k hk _ => hheap k (fun e' => hk (by rw [e']; exact hxA g hog)), fun k hk hx => hx.resolve_right (by omega)⟩
       rw [List.toList_toArray]
       have htl : (cur.toList.take (xs.length * t.size)).length = xs.length * t.size := by rw [List.length_take]; omega
       have hput : putCells cur.toList (xs.length * t.size) news = cur.toList.take (xs.length * t.size) ++ (news ++ cur.toList.drop (xs.length * t.size + news.length)) := by unfold putCells; rw [List.append_assoc]
       rcases Nat.lt_or_ge j xs.length with hjx | hjx
       ·have hrow : ((putCells cur.toList (xs.length * t.size) news).drop (j * t.size)).take t.size = (cur.toList.drop (j * t.size)).take t.size := by rw [hput, row_left htl hjx, row_take hjx]
        rw [List.getElem_append_left hjx, hrow]
        refine M_move hst t (fun k hk hl => hheap k hk.2.1) (fun k hk hl => ⟨.inl hk.1, hk.2.1, ?_⟩) (fun _ h => h) (hel j hjx)
        rw [join_out (hdis k hk.1)]
        exact hk.2.2
       ·have hjy : j - xs.length < ys.length := by rw [List.length_append] at hj; omega
        rw [List.getElem_append_right hjx]
        have e1 := row_right (olds := cur.toList.take (xs.length * t.size)) (news := news ++ cur.toList.drop (xs.length * t.size + news.length)) (s := t.size) (n := xs.length) (j := j - xs.length) htl
        rw [show xs.length + (j - xs.length) = j from by omega, row_left hnl hjy] at e1
        rw [← hput] at e1
        rw [e1]
        have hgN : ∀ k, owN k → k ≠ g := fun k hk e' => hdis g hog (by rw [← e']; exact hk)
        refine M_move hst t (fun k hk hl => hheap k (hgN k hk.1)) (fun k hk hl => ⟨.inr hk.1, hgN k hk.1, ?_⟩) (fun _ h => by simp at h) (hN (j - xs.length) hjy)
        rw [join_in hk.1, hk.2]
        omega
     ·rw [setRow_size]
      rcases hk with hk | hk
      ·exact ⟨hlx k hk, .inl hk⟩
      ·exact ⟨hlN k hk, .inr (.inl hk)⟩
    ·refine grown (some ⟨g, 0, none⟩) c (cur.toList.take (xs.length * t.size)) (fun k => owx k ∧ k ≠ g) τ e2 (by omega) (by rw [List.length_take]; omega) ?_ (fun k hk => hk.1) (fun k hk => ?_)
     ·rw [e2, hsz]
      refine run_firstCells_some w.drew _ _ ⟨g, 0, none⟩ _ _ _ (by rw [List.length_take]; omega) (fun j u hu => ?_)
      rw [addr_add]
      have hj : j < xs.length * t.size := by
       have := (List.getElem?_eq_some_iff.1 hu).1
       rw [List.length_take] at this
       omega
      rw [List.getElem?_take, if_pos hj] at hu
      have hw' : w.drew.heap[g]? = some (.cells cur e (0, 0)) := hw
      simp only [World.cell?, hw', Nat.zero_add]
      rw [← Array.getElem?_toList]
      exact hu
     ·rw [row_take hk]
      exact M_move (Stays.refl _ _) t (fun _ _ _ => rfl) (fun g' hg' _ => ⟨⟨hg'.1, hg'.2.1⟩, hg'.2.2⟩) (fun _ h => h) (hel k hk)
end Go.Pv
namespace Go.Pv
set_option linter.unusedVariables false
set_option linter.unusedSimpArgs false
variable {P : Program} {w w' : World} {A A' Wr : Nat → Prop} {H : Nat → Value} {tm tm' : Nat → Value} {S S' S1 : St} {σ σ1 σ2 : Nat → Option Nat} {w0 : World} {W0 Z : Nat → Prop} {a : Act} {own : Nat → Prop} {v : Value} {Θ : Tab} {dst : Option Nat}
def KS (w : World) (A : Nat → Prop) (t : Ty) (xs : List t.I) (cs : List Value) : Prop :=
 ∃ X c, cs = [.slice X xs.length c] ∧ xs.length ≤ c ∧ (0 < xs.length → ∃ g off cur T fr, X = some ⟨g, off, none⟩ ∧ w.heap[g]? = some (.cells cur T fr) ∧ off + xs.length * t.size ≤ cur.size ∧ ∀ j (h : j < xs.length), K w A t xs[j] ((cur.toList.drop (off + j * t.size)).take t.size))
theorem M_KS {t : Ty} {m : Md} {xs : List t.I} {cs : List Value} {ow : Nat → Prop} (hk : m.inn.isK = true) (h : M w A H (.sl t) m xs cs ow []) : KS w A t xs cs := by
 simp only [M] at h
 rcases h with ⟨hn, _⟩ | ⟨_, h⟩ | ⟨T, tag, me, X, c, rfl, rfl, hc, ht, h⟩
 ·simp at hn
 ·simp only [K] at h
  obtain ⟨X, c, rfl, hc, h⟩ := h
  refine ⟨X, c, rfl, hc, fun hp => ?_⟩
  obtain ⟨g, off, cur, T, fr, h1, _, h2, h3, h4⟩ := h hp
  exact ⟨g, off, cur, T, fr, h1, h2, h3, h4⟩
 ·refine ⟨X, c, rfl, hc, fun hp => ?_⟩
  rcases h with ⟨rfl, _⟩ | ⟨g, cur, τ, rfl, hog, hw, hsz, hm, h⟩
  ·simp at hp
  ·refine ⟨g, 0, cur, T, (0, 0), rfl, hw, ?_, fun j hj => ?_⟩
   ·have := Nat.mul_le_mul_right t.size hc
    omega
   ·rw [Nat.zero_add]
    exact M_isK t hk (h j hj)
theorem KS_cut {t : Ty} {xs : List t.I} {X : Option Addr} {c lo hi : Nat} (h : KS w A t xs [.slice X xs.length c]) (h1 : lo ≤ hi) (h2 : hi ≤ xs.length) :
  KS w A t ((xs.take hi).drop lo) [.slice (if c = lo then X else X.map (·.add (lo * t.size))) (hi - lo) (c - lo)] := by
 obtain ⟨X', c', e, hc, h⟩ := h
 simp only [List.cons.injEq, Value.slice.injEq, and_true, true_and] at e
 obtain ⟨rfl, rfl⟩ := e
 have hl : ((xs.take hi).drop lo).length = hi - lo := by rw [List.length_drop, List.length_take]; omega
 refine ⟨_, _, by rw [hl], by omega, fun hp => ?_⟩
 rw [hl] at hp
 obtain ⟨g, off, cur, T, fr, rfl, hw, ho, hj⟩ := h (by omega)
 have e1 : (lo + (hi - lo)) * t.size ≤ xs.length * t.size := Nat.mul_le_mul_right _ (by omega)
 rw [Nat.add_mul] at e1
 refine ⟨g, off + lo * t.size, cur, T, fr, ?_, hw, by rw [hl]; omega, fun j hj1 => ?_⟩
 rotate_left
 ·have hj2 : j < hi - lo := by rw [← hl]; exact hj1
  have := hj (lo + j) (by omega)
  rw [show ((xs.take hi).drop lo)[j] = xs[lo + j]'(by omega) from by simp]
  rw [show off + lo * t.size + j * t.size = off + (lo + j) * t.size from by rw [Nat.add_mul]; omega]
  exact this
 ·rw [if_neg (by omega)]
  simp only [Option.map_some, addr_add]
theorem rdK_spec (h : RelS σ w0 W0 Z H S a w) {av : AV} {t : Ty} {m : Md} {ys : List t.I} (hh : Holds w (Av σ Z) H (tmOf a) S own av v) (e : S.rdA av = some ⟨.sl t, m, ys⟩) (hk : m.inn.isK = true) :
  KS w (Av σ Z) t ys [v] := by
 cases av with
 | v a ex =>
  cases ex with
  | cons _ _ => simp [St.rdA] at e
  | nil =>
   simp only [St.rdA, Option.some.injEq] at e
   subst e
   obtain ⟨cs, h1, h2⟩ := hh
   have : cs = [v] := by simpa [matchV, isAgg] using h1
   subst this
   exact M_KS hk h2
 | al t1 s p =>
  simp only [St.rdA] at e
  obtain ⟨r, cs0, cs, hr, hc, hm⟩ := hh
  obtain ⟨rfl, ow', k2, k3⟩ := place_read h hr hc e
  have : cs = [v] := by simpa [matchV, isAgg] using hm
  subst this
  exact M_KS hk k3
 | cut t1 s p lo hi =>
  simp only [St.rdA] at e
  obtain ⟨r, cs0, t', X, n, c, hr, rfl, hc, hlo, hhi, rfl⟩ := hh
  cases hp : S.place s p with
  | none => rw [hp] at e; cases e
  | some b' =>
   obtain ⟨ht, ow', k2, k3⟩ := place_read h hr hc hp
   obtain ⟨bt, bm, bx⟩ := b'
   simp only at ht
   subst ht
   rw [hp] at e
   simp only [Option.some.injEq] at e
   injection e with e1 e2 e3
   injection e1 with e1
   subst e1 e2
   simp only [heq_eq_eq] at e3
   subst e3
   have hK := M_KS hk k3
   have hn : n = List.length bx := by
    obtain ⟨_, _, e, _⟩ := hK
    simp only [List.cons.injEq, Value.slice.injEq, and_true] at e
    exact e.2.1
   subst hn
   exact KS_cut hK hlo hhi
 | _ => simp [St.rdA] at e
theorem rows_one {s : Nat} {Q : Value → Prop} {l : List Value} : ∀ (n : Nat), (∀ j, j < n → ∀ u ∈ (l.drop (j * s)).take s, Q u) → ∀ u ∈ l.take (n * s), Q u
 | 0, _, u, hu => by simp at hu
 | n + 1, h, u, hu => by
  rw [Nat.add_mul, Nat.one_mul, List.take_add] at hu
  rcases List.mem_append.1 hu with hu | hu
  ·exact rows_one n (fun j hj => h j (by omega)) u hu
  ·exact h n (by omega) u hu
theorem KS_src {T' e' : TypeId} {t : Ty} {ys : List t.I} {vy : Value} (hk : P.underlying T' = some (.slice e')) (h : KS w A t ys [vy]) :
  ∃ news, Src P t.size T' vy ys.length news w ∧ ∀ (k : Nat) (hk : k < ys.length), K w A t ys[k] ((news.drop (k * t.size)).take t.size) := by
 obtain ⟨X, c, e, hc, h⟩ := h
 simp only [List.cons.injEq, and_true] at e
 obtain ⟨news, h1, h2⟩ := src_of (P := P) (w := w) (t := t) (ys := ys) (vy := vy) hk rfl ⟨X, c, e, fun hp => by
  obtain ⟨g, off, cur, T, fr, rfl, hw, hb, hj⟩ := h hp
  refine ⟨g, off, cur, T, fr, rfl, hw, hb, rows_one _ fun j hj1 u hu => ?_⟩
  rw [List.drop_drop] at hu
  exact (K_ok t (hj j hj1)).2 u hu⟩
 refine ⟨news, h1, fun k hk => ?_⟩
 obtain ⟨g, off, cur, T, fr, rfl, hw, hb, hj⟩ := h (by omega)
 rw [h2 g off cur T fr _ c e rfl hw (by omega), row_take hk, List.drop_drop]
 exact hj k hk
theorem append_end (hT : tabB P Θ = true) {T0 : TypeId} {i : TI} (hi : Θ.find T0 = some i) {t : Ty} (hty : i.ty = .sl t) {o : Oper} {x y : Operand} {T' : TypeId} {tag : Option Nat} {me : Md} {xs ys : List t.I} {owx owN : Nat → Prop} {τN : Nat → Nat} {news : List Value} {n : Nat}
  (ho : o.op = .call { callee := .builtin .append, args := #[x, y], argTypes := #[T0, T'] })
  (h2 : RelS σ2 w0 W0 Z H S1 a w) (hS1 : S1.length = n) (hA : A = Av σ2 Z)
  (hx : M w A H (.sl t) (.o i.e tag me) xs [a.eval x] owx []) (hsrc : Src P t.size T' (a.eval y) ys.length news w)
  (hN : ∀ (k : Nat) (hk : k < ys.length), M w A H t me ys[k] ((news.drop (k * t.size)).take t.size) (fun g => owN g ∧ τN g = k) [])
  (hdis : ∀ g, owx g → ¬ owN g) (hnow : ∀ g, owx g ∨ owN g → ∃ i, n ≤ i ∧ σ2 g = some i) (hlim : (xs.length + ys.length) * t.size ≤ 4398046511104) :
  Goes P w0 W0 Z H (S1.put o.dst (.v ⟨.sl t, .o i.e none me, xs ++ ys⟩ [])) a o.dst w (execOp a.eval o) := by
 subst hA hS1
 obtain ⟨_, hu, hT0⟩ := tab_ti hT hi
 obtain ⟨u1, u2, u3⟩ := und_sl hu hty
 rw [hT0] at u1
 obtain ⟨i2, hi2, ht2⟩ := is_find u2
 obtain ⟨⟨sm, inf, z, k1, k2, kb, _, _, k3, k4⟩, _, hte⟩ := tab_ti hT hi2
 rw [hte] at k1
 rw [ht2] at k2 k4 kb
 have hlt : ∀ g, owx g ∨ owN g → g < w.heap.size := fun g hg => by
  obtain ⟨i, _, hi⟩ := hnow g hg
  exact h2.lt g i hi
 have hz1 : z.cells.size = t.size := by
  unfold matchV at k4
  split at k4
  ·rw [k4, Value.cells, List.size_toArray, zc_len]
  ·rename_i hag
   have hl := zc_len t
   rw [k4] at hl
   have hv : ∀ (t : Ty), ∀ u ∈ zc t, u.oneCell' = true := by
    intro t
    induction t with
    | pair a b iha ihb => intro u hu; simp only [zc, List.mem_append] at hu; rcases hu with hu | hu; exact iha u hu; exact ihb u hu
    | arr n t ih => intro u hu; simp only [zc, List.mem_flatten] at hu; obtain ⟨c, hc, hu⟩ := hu; rw [List.eq_of_mem_replicate hc] at hu; exact ih u hu
    | unit => intro u hu; simp [zc] at hu
    | _ => intro u hu; simp only [zc, List.mem_singleton] at hu; subst hu; rfl
   have h1 := hv t z (by rw [k4]; simp)
   have : z.cells = #[z] := by cases z <;> first | rfl | simp [Value.oneCell'] at h1
   rw [this]
   simpa using hl
 obtain ⟨v', w', ow', r1, r2, r3, r4, r5, r6, r7, r8⟩ := append_plain (ty := o.type) hT u1 k1 k3 k2 kb hz1 u3 hx hsrc hN hdis (fun g hg => by
  obtain ⟨i, _, hi⟩ := hnow g (.inl hg)
  exact .inl ⟨i, hi⟩) (fun g hg => hlt g (.inl hg)) (fun g hg => hlt g (.inr hg)) hlim
 refine ⟨w', v', .inl ?_, _, h2.give' (b := ⟨.sl t, .o i.e none me, xs ++ ys⟩) (cs := [v']) (ow := ow') (A' := fun g => Av σ2 Z g ∨ w.heap.size ≤ g) r5 (fun g hg hn => r3 g hg (fun hx => ?_)) ?_ (fun g hg => ?_) (fun g hg hx => ?_) (by simp [matchV, isAgg]) r2⟩
 ·simp [execOp, ho, resolve, invoke, builtin, r1]
 ·obtain ⟨i, hi1, hi2⟩ := hnow g (.inl hx)
  exact hn i hi1 hi2
 ·refine ⟨by rw [r6]; exact h2.fr.os, by rw [r7]; exact h2.fr.tape, by rw [r8]; exact h2.fr.output, Nat.le_trans h2.fr.size r5, fun g hg hn => ?_⟩
  rw [r3 g (by have := h2.fr.size; omega) (fun hx => ?_)]
  ·exact h2.fr.block g hg hn
  ·obtain ⟨i, _, hi⟩ := hnow g (.inl hx)
   rcases h2.new g i hi with h1 | h1
   ·omega
   ·exact hn h1
 ·obtain ⟨q1, q2⟩ := r4 g hg
  refine ⟨q1, ?_⟩
  rcases q2 with q2 | q2 | q2
  ·exact .inl (hnow g (.inl q2))
  ·exact .inl (hnow g (.inr q2))
  ·exact .inr q2
 ·rcases hx with hx | hx
  ·exact .inl hx
  ·rcases (r4 g hx).2 with q2 | q2 | q2
   ·obtain ⟨i, _, hi⟩ := hnow g (.inl q2)
    exact .inl (.inl ⟨i, hi⟩)
   ·obtain ⟨i, _, hi⟩ := hnow g (.inr q2)
    exact .inl (.inl ⟨i, hi⟩)
   ·exact .inr q2
theorem append_ok (hT : tabB P Θ = true) (h : RelS σ w0 W0 Z H S a w) {o : Oper} {as : Array Operand} {ts : Array TypeId} (ho : o.op = .call { callee := .builtin .append, args := as, argTypes := ts }) (e : evAppend Θ S o.dst ts.toList as.toList = some (true, S')) : Goes P w0 W0 Z H S' a o.dst w (execOp a.eval o) := by
 obtain ⟨as⟩ := as
 obtain ⟨ts⟩ := ts
 simp only at e
 unfold evAppend at e
 split at e
 case h_2 => cases e
 rename_i x y T T'
 split at e
 case h_2 => cases e
 rename_i t e0 tag me xs S1 i hb hi
 unfold St.take at hb
 split at hb
 case h_2 => cases hb
 rename_i av hav
 obtain ⟨σ1, cs, ow, h1, hm, hM, hk, hn⟩ := takeA_spec h hav hb
 cases hc : (decide (i.ty = .sl t) && Nat.beq i.e e0 && Θ.is T' (.sl t)) with
 | false => rw [hc] at e; cases e
 | true =>
 rw [hc] at e
 simp only [cond_true] at e
 simp only [Bool.and_eq_true, decide_eq_true_eq] at hc
 obtain ⟨⟨hty, hee⟩, hT'⟩ := hc
 have hee := Nat.eq_of_beq_eq_true hee
 subst hee
 have hcs : cs = [a.eval x] := by simpa [matchV, isAgg] using hm
 subst hcs
 obtain ⟨i', hi', hty'⟩ := is_find hT'
 obtain ⟨_, hu', hT1⟩ := tab_ti hT hi'
 obtain ⟨u1, _, _⟩ := und_sl hu' hty'
 rw [hT1] at u1
 have hst1 : Stays w w (Av σ Z) (Av σ1 Z) := ⟨fun _ _ _ => rfl, fun g _ hg => hk.Av.1 hg⟩
 cases hme : me.isK with
 | true =>
  rw [hme] at e
  simp only [cond_true] at e
  split at e
  case h_2 => cases e
  rename_i t' m' ys hy
  cases hmi : m'.inn.isK with
  | false => rw [hmi] at e; cases e
  | true =>
  rw [hmi] at e
  simp only [cond_true] at e
  split at e
  case isFalse => cases e
  rename_i htt
  subst htt
  simp only [Option.some.injEq, Prod.mk.injEq, decide_eq_true_eq] at e
  obtain ⟨hlim, rfl⟩ := e
  unfold St.rd at hy
  split at hy
  case h_2 => cases hy
  rename_i av2 hav2
  have hKS := rdK_spec h1 (opv_holds h1 hav2) hy hmi
  obtain ⟨news, hsrc, hel⟩ := KS_src (P := P) u1 hKS
  refine append_end (n := S1.length) (A := Av σ1 Z) (owx := ow) (owN := fun _ => False) (τN := fun _ => 0) hT hi hty ho h1 rfl rfl (M_move hst1 _ (fun _ _ _ => rfl) (fun _ h _ => h) (fun _ h => h) hM) hsrc (fun k hk' => K_M hme (hel k hk')) (fun _ _ h => h) (fun g hg => ?_) hlim
  rw [hn]
  exact hk.now g (hg.resolve_right id)
 | false =>
  rw [hme] at e
  simp only [cond_false] at e
  split at e
  case h_2 => cases e
  rename_i t' m' ys S2 hy
  split at e
  case isFalse => cases e
  rename_i htt
  subst htt
  split at e
  case isFalse => cases e
  rename_i hmi
  simp only [Option.some.injEq, Prod.mk.injEq, decide_eq_true_eq] at e
  obtain ⟨hlim, rfl⟩ := e
  unfold St.take at hy
  split at hy
  case h_2 => cases hy
  rename_i av2 hav2
  obtain ⟨σ2, cs2, ow2, h2, hm2, hM2, hk2, hn2⟩ := takeA_spec h1 hav2 hy
  rw [hn] at hk2 hn2
  have hcs : cs2 = [a.eval y] := by simpa [matchV, isAgg] using hm2
  subst hcs
  have hst2 : Stays w w (Av σ1 Z) (Av σ2 Z) := ⟨fun _ _ _ => rfl, fun g _ hg => hk2.Av.1 hg⟩
  have hM2' : M w (Av σ2 Z) H (.sl t') m' ys [a.eval y] ow2 [] := M_move hst2 _ (fun _ _ _ => rfl) (fun _ h _ => h) (fun _ h => h) hM2
  have hM' : M w (Av σ2 Z) H (.sl t') (.o i.e tag me) xs [a.eval x] ow [] := M_move ⟨fun _ _ _ => rfl, fun g _ hg => hk.Av.1 (hk2.Av.1 hg)⟩ _ (fun _ _ _ => rfl) (fun _ h _ => h) (fun _ h => h) hM
  have hnow : ∀ g, ow g ∨ ow2 g → ∃ i, S.length ≤ i ∧ σ2 g = some i := fun g hg => (hk.trans hk2).now g hg
  simp only [M] at hM2'
  rcases hM2' with ⟨hn0, _⟩ | ⟨hK, _⟩ | ⟨T2, tag2, me2, X, c, rfl, e2, hle, htag, hel⟩
  ·simp at hn0
  ·rw [← hmi] at hme
   rw [inn_isK hK] at hme
   cases hme
  ·simp only [Md.inn] at hmi
   subst hmi
   simp only [List.cons.injEq, and_true] at e2
   have hsrc : ∃ (owN : Nat → Prop) (τN : Nat → Nat) (news : List Value), Src P t'.size T' (a.eval y) ys.length news w ∧ (∀ g, owN g → ow2 g) ∧
     ∀ (k : Nat) (hk : k < ys.length), M w (Av σ2 Z) H t' me2 ys[k] ((news.drop (k * t'.size)).take t'.size) (fun g => owN g ∧ τN g = k) [] := by
    rcases hel with ⟨hys, _⟩ | ⟨g, cur, τ, hX, hog, hw, hsz, hmax, hel⟩
    ·subst hys
     obtain ⟨news, s1, _⟩ := src_of (P := P) (w := w) (t := t') (ys := ([] : List t'.I)) (vy := a.eval y) u1 rfl ⟨X, c, e2, fun hp => by simp at hp⟩
     exact ⟨fun _ => False, fun _ => 0, news, s1, fun _ h => h.elim, fun k hk => by simp at hk⟩
    ·subst hX
     have hcl : cur.toList.length = cur.size := Array.length_toList
     have hb := Nat.mul_le_mul_right t'.size hle
     obtain ⟨news, s1, s2⟩ := src_of (P := P) (w := w) (t := t') (ys := ys) (vy := a.eval y) u1 rfl ⟨some ⟨g, 0, none⟩, c, e2, fun hp => ⟨g, 0, cur, T2, (0, 0), rfl, hw, by omega, rows_one _ fun j hj u hu => by
      rw [List.drop_zero] at hu
      exact (M_ok t' (hel j hj)).2 u hu⟩⟩
     refine ⟨fun g' => ow2 g' ∧ g' ≠ g, τ, news, s1, fun _ h => h.1, fun k hk => ?_⟩
     rw [s2 g 0 cur T2 (0, 0) _ c e2 rfl hw (by omega), row_take hk, List.drop_zero]
     exact M_move (Stays.refl _ _) t' (fun _ _ _ => rfl) (fun g' hg' _ => ⟨⟨hg'.1, hg'.2.1⟩, hg'.2.2⟩) (fun _ h => h) (hel k hk)
   obtain ⟨owN, τN, news, s1, s2, s3⟩ := hsrc
   exact append_end (n := S.length) (A := Av σ2 Z) (owx := ow) (owN := owN) (τN := τN) hT hi hty ho h2 hn2 rfl hM' s1 s3 (fun g hg hg2 => hk.apart hk2 hg (s2 g hg2)) (fun g hg => hnow g (hg.imp id (s2 g))) hlim
end Go.Pv
namespace Go.Pv
set_option linter.unusedVariables false
set_option linter.unusedSimpArgs false
variable {P : Program} {w w' : World} {A A' Wr : Nat → Prop} {H : Nat → Value} {tm tm' : Nat → Value} {S S' S1 : St} {σ σ1 : Nat → Option Nat} {w0 : World} {W0 Z : Nat → Prop} {a : Act} {own : Nat → Prop} {v : Value} {Θ : Tab} {dst : Option Nat}
theorem subs_of_clashE {p : Path} {ex : List Path} (h : ∀ q ∈ ex, clashE q p = false) : subs p ex = [] := by
 have key : ∀ (p r : Path), clashE (p ++ r) p = true := by
  intro p
  induction p with
  | nil => intro r; cases r <;> rfl
  | cons a p ih => intro r; cases a <;> simp [clashE, ih]
 apply List.eq_nil_iff_forall_not_mem.2
 intro q hq
 have := h _ (mem_subs.1 hq)
 rw [key] at this
 cases this
theorem takeC_spec0 (h : RelS σ w0 W0 Z H S a w) {vv : Value} {t : Ty} {s : Nat} {p : Path} (hpc : p ≠ []) {r : TV} {ex : List Path} {b : TV} (hh : Holds w (Av σ Z) H (tmOf a) S own (.al t s p) vv) (hs : S.at s = .v r ex) (hg : getP p r.t r.m r.x = some b) (hk : b.m.isK = false) (hcl : ∀ q ∈ ex, clashE q p = false) :
  ∃ σ1 cs ow, RelS σ1 w0 W0 Z H (((S.weaken s).cover s p).set s (.v r (ex ++ [p]))) a w ∧ matchV b.t vv cs ∧ M w (Av σ1 Z) H b.t b.m b.x cs ow [] ∧ Took σ σ1 S.length ow ∧ (((S.weaken s).cover s p).set s (.v r (ex ++ [p]))).length = S.length := by
 obtain ⟨r0, cs0, cs, hr, hc, hm⟩ := hh
 obtain ⟨ex0, b2, cs', ow0, j1, j2, j3, j4, hM, j5, j6, j7⟩ := ref_focus h hr
 rw [hs] at j1
 injection j1 with j1 j1'
 subst j1 j1'
 have j1 := hs
 rw [hg] at j3
 injection j3 with j3
 subst j3
 have j3 := hg
 obtain ⟨cs2, ow', k1, k2, k3, k4⟩ := punch p hM j2 hr.val j3 hk
 rw [hc] at k1
 injection k1 with k1
 subst k1
 rw [subs_of_clashE hcl] at k3
 -- the ownership without what is taken
 have hsl0 : s < S.length := at_lt (by rw [j1]; exact fun e => by cases e)
 let σ1 : Nat → Option Nat := fun g => open Classical in if ow' g then some S.length else σ g
 have hσ1 : ∀ g i, σ1 g = some i → ∃ k, σ g = some k := by
  intro g i hg
  simp only [σ1] at hg
  split at hg
  ·exact ⟨s, k2 g (by assumption)⟩
  ·exact ⟨i, hg⟩
 have hσ1' : ∀ g i, σ g = some i → ¬ ow' g → σ1 g = some i := by
  intro g i hg hn
  simp only [σ1, if_neg hn, hg]
 have hst : Stays w w (Av σ Z) (Av σ1 Z) := ⟨fun _ _ _ => rfl, fun g _ hg => by
  rcases hg with ⟨i, hg⟩ | hg
  ·exact .inl (hσ1 g i hg)
  ·exact .inr hg⟩
 have htook : Took σ σ1 S.length ow' := by
  refine ⟨fun g hg => ⟨s, hsl0, k2 g hg⟩, fun g hg => ⟨_, Nat.le_refl _, by simp only [σ1, if_pos hg]⟩, fun g i hg hi => ?_, fun g => ⟨fun ⟨i, hg⟩ => hσ1 g i hg, fun ⟨i, hg⟩ => ?_⟩, fun g i hg hi => hσ1' g i hg (fun hx => ?_)⟩
  ·simp only [σ1] at hg
   split at hg
   ·injection hg with hg; omega
   ·exact hg
  ·simp only [σ1]
   split
   ·exact ⟨_, rfl⟩
   ·exact ⟨i, hg⟩
  ·have := k2 g hx
   rw [hg] at this
   injection this with this
   omega
 refine ⟨σ1, cs, ow', ?_, by rw [j4]; exact hm, M_move hst _ (fun _ _ _ => rfl) (fun _ h _ => h) (fun _ h => h) k3, htook, by simp [St.weaken, St.cover]⟩
 have hlen : ((S.weaken s).cover s p).length = S.length := by simp [St.weaken, St.cover]
 have hsl : s < S.length := by
  rcases Nat.lt_or_ge s S.length with hl | hl
  ·exact hl
  ·unfold St.at at j1
   rw [List.getD_eq_getElem?_getD, List.getElem?_eq_none hl] at j1
   cases j1
 have hatS : St.at (((S.weaken s).cover s p).set s (.v r (ex ++ [p]))) s = .v r (ex ++ [p]) := by rw [at_set, if_pos ⟨rfl, by rw [hlen]; exact hsl⟩]
 have hoth : ∀ i, i ≠ s → St.at (((S.weaken s).cover s p).set s (.v r (ex ++ [p]))) i = (match (bif (S.at i).frail s then AV.dead else S.at i) with
   | .ad t s' q => bif Nat.beq s' s && under p q then .dead else .ad t s' q
   | a => a) := by
  intro i hi
  rw [at_set, if_neg (fun e => hi e.1), at_cover, at_weaken]
  try (cases (bif AV.frail s (S.at i) then AV.dead else S.at i) <;> rfl)
 refine ⟨by simp only [List.length_set, hlen]; exact h.len, h.defers, h.fr, fun g i hg => (hσ1 g i hg).elim fun k hk => h.new g k hk, fun g i hg => (hσ1 g i hg).elim fun k hk => h.lt g k hk, fun g hg => ⟨?_, (h.old g hg).2⟩, fun i => ?_⟩
 ·simp only [σ1]
  split
  ·rename_i hx
   have := k2 g hx
   rw [(h.old g hg).1] at this
   cases this
  ·exact (h.old g hg).1
 ·by_cases his : i = s
  ·subst his
   rw [hatS]
   exact ⟨cs0, hr.mat, M_move hst _ (fun _ _ _ => rfl) (fun g hg _ => hσ1' g _ hg.1 hg.2) (fun _ h => h) k4⟩
  ·rw [hoth i his]
   cases hfr : (S.at i).frail s with
   | true => trivial
   | false =>
    simp only [cond_false]
    have hi := h.holds i
    have base : Holds w (Av σ1 Z) H (tmOf a) S (fun g => σ1 g = some i) (S.at i) (tmOf a i) :=
     hi.kept hst (fun g hg _ => ⟨rfl, hσ1' g i hg (fun hx => his (by have := k2 g hx; rw [hg] at this; injection this))⟩) (fun s' _ => ⟨fun _ _ h => h, rfl, _, h.holds s', fun _ _ _ => rfl⟩)
    have hSv : ∀ j r' ex', j ≠ s → S.at j = .v r' ex' → St.at (((S.weaken s).cover s p).set s (.v r (ex ++ [p]))) j = .v r' ex' := by
     intro j r' ex' hj hv
     rw [hoth j hj, hv]
     simp [AV.frail]
    cases hcase : S.at i with
    | v b3 ex3 =>
     rw [hcase] at base
     obtain ⟨c3, l1, l2⟩ := base
     exact ⟨c3, l1, l2⟩
    | tup l =>
     rw [hcase] at base
     exact base
    | ad t' s' q =>
     rw [hcase] at base hfr
     simp only
     cases hcov : (Nat.beq s' s && under p q) with
     | true => trivial
     | false =>
      simp only [cond_false]
      refine holds_hole j1 hSv hatS hfr (fun t2 q2 e2 => ?_) base (fun _ _ e => by cases e) (fun _ e => by cases e)
      injection e2 with _ e3 e4
      subst e3 e4
      simpa using hcov
    | dead => trivial
    | undef => rw [hcase] at base; exact base
    | al t' s' q =>
     rw [hcase] at base hfr
     exact holds_hole j1 hSv hatS hfr (fun t2 q2 e2 => by cases e2) base (fun _ _ e => by cases e) (fun _ e => by cases e)
    | cut t' s' q lo hi' =>
     rw [hcase] at base hfr
     exact holds_hole j1 hSv hatS hfr (fun t2 q2 e2 => by cases e2) base (fun _ _ e => by cases e) (fun _ e => by cases e)
    | clo f caps =>
     rw [hcase] at base hfr
     exact holds_hole j1 hSv hatS hfr (fun t2 q2 e2 => by cases e2) base (fun _ _ e => by cases e) (fun _ e => by cases e)
theorem takeC_spec (h : RelS σ w0 W0 Z H S a w) {x : Operand} {t : Ty} {s : Nat} {p : Path} (hpc : p ≠ []) {r : TV} {ex : List Path} {b : TV} (hh : Holds w (Av σ Z) H (tmOf a) S own (.al t s p) (a.eval x)) (hs : S.at s = .v r ex) (hg : getP p r.t r.m r.x = some b) (hk : b.m.isK = false) (hcl : ∀ q ∈ ex, clashE q p = false) :
  ∃ σ1 cs ow, RelS σ1 w0 W0 Z H (((S.weaken s).cover s p).set s (.v r (ex ++ [p]))) a w ∧ matchV b.t (a.eval x) cs ∧ M w (Av σ1 Z) H b.t b.m b.x cs ow [] ∧ Took σ σ1 S.length ow ∧ (((S.weaken s).cover s p).set s (.v r (ex ++ [p]))).length = S.length := takeC_spec0 h hpc hh hs hg hk hcl
theorem append_okC (hT : tabB P Θ = true) (h : RelS σ w0 W0 Z H S a w) {o : Oper} {as : Array Operand} {ts : Array TypeId} (ho : o.op = .call { callee := .builtin .append, args := as, argTypes := ts }) (e : evAppendC Θ S o.dst ts.toList as.toList = some (true, S')) : Goes P w0 W0 Z H S' a o.dst w (execOp a.eval o) := by
 obtain ⟨as⟩ := as
 obtain ⟨ts⟩ := ts
 simp only at e
 unfold evAppendC at e
 split at e
 case h_2 => cases e
 rename_i x y T T'
 split at e
 case h_2 => cases e
 rename_i tt s st pp hav
 split at e
 case h_2 => cases e
 rename_i r ex hs
 split at e
 case h_2 => cases e
 rename_i t e0 tag me xs i hg hi
 cases hc : (decide (i.ty = .sl t) && Nat.beq i.e e0 && Θ.is T' (.sl t) && me.isK) with
 | false => rw [hc] at e; cases e
 | true =>
 rw [hc] at e
 simp only [cond_true] at e
 simp only [Bool.and_eq_true, decide_eq_true_eq] at hc
 obtain ⟨⟨⟨hty, hee⟩, hT'⟩, hme⟩ := hc
 have hee := Nat.eq_of_beq_eq_true hee
 subst hee
 split at e
 case h_2 => cases e
 rename_i t' m' ys hy
 cases hmi : m'.inn.isK with
 | false => rw [hmi] at e; cases e
 | true =>
 rw [hmi] at e
 simp only [cond_true] at e
 split at e
 case isFalse => cases e
 rename_i htt
 subst htt
 simp only [Option.some.injEq, Prod.mk.injEq, Bool.and_eq_true, decide_eq_true_eq] at e
 obtain ⟨⟨hcl, hlim⟩, rfl⟩ := e
 obtain ⟨σ1, cs, ow, h1, hm, hM, hk, hn⟩ := takeC_spec (x := x) h (by simp) (opv_holds h hav) hs hg (by simp [Md.isK]) (fun q hq => by simpa using List.all_eq_true.1 hcl q hq)
 have hcs : cs = [a.eval x] := by simpa [matchV, isAgg] using hm
 subst hcs
 obtain ⟨i', hi', hty'⟩ := is_find hT'
 obtain ⟨_, hu', hT1⟩ := tab_ti hT hi'
 obtain ⟨u1, _, _⟩ := und_sl hu' hty'
 rw [hT1] at u1
 unfold St.rd at hy
 split at hy
 case h_2 => cases hy
 rename_i av2 hav2
 have hKS := rdK_spec h1 (opv_holds h1 hav2) hy hmi
 obtain ⟨news, hsrc, hel⟩ := KS_src (P := P) u1 hKS
 refine append_end (n := S.length) (A := Av σ1 Z) (owx := ow) (owN := fun _ => False) (τN := fun _ => 0) hT hi hty ho h1 hn rfl hM hsrc (fun k hk' => K_M hme (hel k hk')) (fun _ _ h => h) (fun g hg => ?_) hlim
 exact hk.now g (hg.resolve_right id)
end Go.Pv
namespace Go.Pv
set_option linter.unusedVariables false
set_option linter.unusedSimpArgs false
variable {P : Program} {w w' : World} {A A' Wr : Nat → Prop} {H : Nat → Value} {tm tm' : Nat → Value} {S S' S1 : St} {σ σ1 σ2 : Nat → Option Nat} {w0 : World} {W0 Z : Nat → Prop} {a : Act} {own : Nat → Prop} {v : Value} {Θ : Tab} {dst : Option Nat}
theorem RelS.setAt (h : RelS σ w0 W0 Z H S a w) {i : Nat} {av : AV} (hno : ∀ j, j ≠ i → (S.at j).refs i = false) (hv : Holds w (Av σ Z) H (tmOf a) (S.set i av) (fun g => σ g = some i) av (tmOf a i)) :
  RelS σ w0 W0 Z H (S.set i av) a w := by
 refine ⟨by rw [List.length_set]; exact h.len, h.defers, h.fr, h.new, h.lt, h.old, fun j => ?_⟩
 rw [at_set]
 by_cases hj : j = i ∧ i < S.length
 ·rw [if_pos hj, hj.1]
  exact hv
 ·rw [if_neg hj]
  by_cases hji : j = i
  ·have : S.at j = .dead := Classical.byContradiction fun hx => hj ⟨hji, by rw [← hji]; exact at_lt hx⟩
   rw [this]
   trivial
  ·refine (h.holds j).kept (Stays.refl _ _) (fun g hg _ => ⟨rfl, hg⟩) (fun s hs => ?_)
   have hsi : s ≠ i := fun e => by subst e; rw [hno j hji] at hs; cases hs
   exact ⟨fun r ex hr => by rw [at_set, if_neg (fun e => hsi e.1)]; exact hr, rfl, _, h.holds s, fun _ _ _ => rfl⟩
theorem RelS.part (h : RelS σ w0 W0 Z H S a w) {i : Nat} (hi : ∀ r ex, S.at i ≠ .v r ex) (hl : i < S.length) {Q : Nat → Prop} {av : AV} (hv : Holds w (Av σ Z) H (tmOf a) (S.set i av) (fun g => σ g = some i ∧ ¬ Q g) av (tmOf a i)) :
  ∃ σ1, RelS σ1 w0 W0 Z H (S.set i av) a w ∧ Took σ σ1 S.length (fun g => σ g = some i ∧ Q g) := by
 let σ1 : Nat → Option Nat := fun g => open Classical in if σ g = some i ∧ Q g then some S.length else σ g
 have hs : ∀ g j, σ1 g = some j → ∃ k, σ g = some k := fun g j hg => by
  simp only [σ1] at hg
  split at hg
  ·rename_i hx; exact ⟨i, hx.1⟩
  ·exact ⟨j, hg⟩
 have hs' : ∀ g j, σ g = some j → ¬ (σ g = some i ∧ Q g) → σ1 g = some j := fun g j hg hn => by simp only [σ1, if_neg hn, hg]
 have hst : Stays w w (Av σ Z) (Av σ1 Z) := ⟨fun _ _ _ => rfl, fun g _ hg => by
  rcases hg with ⟨j, hg⟩ | hg
  ·exact .inl (hs g j hg)
  ·exact .inr hg⟩
 refine ⟨σ1, ⟨by rw [List.length_set]; exact h.len, h.defers, h.fr, fun g j hg => (hs g j hg).elim fun k hk => h.new g k hk, fun g j hg => (hs g j hg).elim fun k hk => h.lt g k hk, fun g hg => ⟨?_, (h.old g hg).2⟩, fun j => ?_⟩, ?_⟩
 ·simp only [σ1]
  rw [if_neg (fun hx => by rw [(h.old g hg).1] at hx; cases hx.1)]
  exact (h.old g hg).1
 ·rw [at_set]
  by_cases hj : j = i
  ·rw [if_pos ⟨hj, hl⟩, hj]
   exact hv.kept hst (fun g hg _ => ⟨rfl, hs' g i hg.1 (fun hx => hg.2 hx.2)⟩) (fun s _ => ⟨fun _ _ h => h, rfl, by
    by_cases hsi : s = i
    ·subst hsi
     rw [at_set, if_pos ⟨rfl, hl⟩]
     exact ⟨_, hv, fun _ _ _ => rfl⟩
    ·rw [at_set, if_neg (fun e => hsi e.1)]
     refine ⟨_, (h.holds s).kept (Stays.refl _ _) (fun g hg _ => ⟨rfl, hg⟩) (fun s1 hs1 => ⟨fun r ex hr => ?_, rfl, _, h.holds s1, fun _ _ _ => rfl⟩), fun _ _ _ => rfl⟩
     by_cases hs1i : s1 = i
     ·subst hs1i; exact absurd hr (hi r ex)
     ·rw [at_set, if_neg (fun e => hs1i e.1)]; exact hr⟩)
  ·rw [if_neg (fun e => hj e.1)]
   refine (h.holds j).kept hst (fun g hg _ => ⟨rfl, hs' g j hg (fun hx => hj (by rw [hx.1] at hg; injection hg with hg; exact hg.symm))⟩) (fun s hs1 => ⟨fun r ex hr => ?_, rfl, _, h.holds s, fun _ _ _ => rfl⟩)
   by_cases hsi : s = i
   ·subst hsi; exact absurd hr (hi r ex)
   ·rw [at_set, if_neg (fun e => hsi e.1)]; exact hr
 ·refine ⟨fun g hg => ⟨i, hl, hg.1⟩, fun g hg => ⟨_, Nat.le_refl _, by simp only [σ1, if_pos hg]⟩, fun g j hg hj => ?_, fun g => ⟨fun ⟨j, hg⟩ => hs g j hg, fun ⟨j, hg⟩ => ?_⟩, fun g j hg hj => hs' g j hg (fun hx => ?_)⟩
  ·simp only [σ1] at hg
   split at hg
   ·injection hg with hg; omega
   ·exact hg
  ·simp only [σ1]
   split
   ·exact ⟨_, rfl⟩
   ·exact ⟨j, hg⟩
  ·rw [hx.1] at hg
   injection hg with hg
   omega
theorem extract_ok (h : RelS σ w0 W0 Z H S a w) {o : Oper} {x : Operand} {j : Nat} (ho : o.op = .extract x j) (e : evExtract S o.dst x j = some (true, S')) : GoesS P w0 W0 Z H S' a o.dst w (execOp a.eval o) := by
 unfold evExtract at e
 split at e
 case h_2 => cases e
 rename_i i
 split at e
 case h_2 => cases e
 rename_i l hl
 split at e
 case h_2 => cases e
 rename_i b hb
 have hh := h.holds i
 rw [hl] at hh
 obtain ⟨vs, τ, hv, hlen, hel⟩ := hh
 have hbj : l[j]? = some (some b) := by
  rw [List.getD_eq_getElem?_getD] at hb
  cases hq : l[j]? with
  | none => rw [hq] at hb; cases hb
  | some q => rw [hq] at hb; simp only [Option.getD_some] at hb; rw [hb]
 obtain ⟨u, cs, hu, hm, hM⟩ := hel j b hbj
 have hrun : ∀ w2, (execOp a.eval o).run P w2 = .ok (.value u) w2 := fun w2 => by
  have : a.eval (.tmp i) = .tuple vs.toArray := hv
  simp [execOp, ho, this, Instr.extract, hu]
 cases hk : b.m.isK with
 | true =>
  rw [hk] at e
  simp only [cond_true, Option.some.injEq, Prod.mk.injEq, true_and] at e
  subst e
  exact goes_pureS h hrun ⟨cs, hm, K_M hk (M_isK _ hk hM)⟩
 | false =>
  rw [hk] at e
  simp only [cond_false] at e
  split at e
  case h_2 => cases e
  rename_i d hd
  cases hdi : Nat.beq d i with
  | true => rw [hdi] at e; cases e
  | false =>
  rw [hdi] at e
  simp only [cond_false, Option.some.injEq, Prod.mk.injEq, true_and] at e
  subst e
  rw [← hd]
  have hil : i < S.length := at_lt (by rw [hl]; exact fun e => by cases e)
  obtain ⟨σ1, h1, hk1⟩ := h.part (i := i) (fun r ex => by rw [hl]; exact fun e => by cases e) hil (Q := fun g => τ g = j) (av := .tup (l.set j none)) ⟨vs, τ, hv, by rw [List.length_set]; exact hlen, fun k b' hk' => by
   rw [List.getElem?_set] at hk'
   split at hk'
   ·split at hk' <;> cases hk'
   ·rename_i hjk
    obtain ⟨u', cs', c1, c2, c3⟩ := hel k b' hk'
    exact ⟨u', cs', c1, c2, M_move (Stays.refl _ _) _ (fun _ _ _ => rfl) (fun g hg _ => ⟨⟨hg.1, fun hx => hjk (by rw [← hx, hg.2])⟩, hg.2⟩) (fun _ h => h) c3⟩⟩
  exact GoesQ.still (v := u) hrun (goes_took (n := S.length) h1 hk1 (List.length_set) (fun w2 _ => hrun w2) hm (M_move (Stays.refl _ _) _ (fun _ _ _ => rfl) (fun g hg _ => hg) (fun _ h => h) hM))
theorem put_refs (S : St) (d : Nat) (b : TV) (ex : List Path) (i : Nat) (hi : ∀ j, (S.at j).refs i = false) (j : Nat) : ((S.put (some d) (.v b ex)).at j).refs i = false := by
 rw [put_at]
 split
 ·simp [AV.refs]
 ·cases hr : (S.at j).refs d && (S.at d).isV with
  | true => simp [AV.refs]
  | false => exact hi j
theorem dead_refs (S : St) (i : Nat) (hv : (S.at i).isV = true) (j : Nat) : ((S.put (some i) .dead).at j).refs i = false := by
 rw [put_at]
 split
 ·simp [AV.refs]
 ·rw [hv, Bool.and_true]
  cases hr : (S.at j).refs i with
  | true => simp [AV.refs]
  | false => exact hr
theorem assign_ok (h : RelS σ w0 W0 Z H S a w) {o : Oper} {x : Operand} (ho : o.op = .assign x) (e : evAssign Θ S o.dst o.type x = some (true, S')) : GoesQ P w0 W0 Z H S' a o.dst w (execOp a.eval o) := by
 have hrun : ∀ w2, Ext w w2 → (execOp a.eval o).run P w2 = .ok (.value (a.eval x)) w2 := fun w2 _ => by simp only [execOp, ho]; rfl
 unfold evAssign at e
 split at e
 case h_2 =>
  split at e
  ·injection e with e
   injection e with _ e
   subst e
   exact goes_pure h hrun trivial
  ·cases e
 rename_i av hav
 have hh := opv_holds h hav
 split at e
 ·-- a value of a temporary
  rename_i d i b ex hd
  cases hk : b.m.isK with
  | true =>
   rw [hk] at e
   simp only [cond_true, Option.some.injEq, Prod.mk.injEq, true_and] at e
   subst e
   obtain ⟨cs, h1, h2⟩ := hh
   exact goes_pure h hrun ⟨cs, h1, K_M hk (M_isK _ hk h2)⟩
  | false =>
   rw [hk] at e
   simp only [cond_false] at e
   split at e
   case h_2 => cases e
   cases hdi : (Nat.beq d i || !Nat.blt d S.length) with
   | true => rw [hdi] at e; cases e
   | false =>
   rw [hdi] at e
   simp only [cond_false, Option.some.injEq, Prod.mk.injEq, true_and] at e
   subst e
   simp only [Bool.or_eq_false_iff, Bool.not_eq_false'] at hdi
   have hdi1 : d ≠ i := fun e => by rw [e, Nat.beq_refl] at hdi; cases hdi.1
   have hdl : d < S.length := Nat.lt_of_succ_le (Nat.le_of_ble_eq_true hdi.2)
   obtain ⟨cs, h1, h2⟩ := hh
   simp only [St.opv, Option.some.injEq] at hav
   have hil : i < S.length := at_lt (by rw [hav]; exact fun e => by cases e)
   have hp := h.park i
   have hk : Took σ (park σ S.length i) S.length (ownOf σ (.tmp i)) := Took.park σ hil (fun g hg => by obtain ⟨j, hj, hg⟩ := hg; injection hj with hj; subst hj; exact hg)
   obtain ⟨v2, hr2, σ2, h3⟩ := goes_took (P := P) (dst := some d) (n := S.length) hp hk (put_len' _ _ _) hrun h1 h2
   have hv2 := hr2 w (Ext.refl w)
   rw [hrun w (Ext.refl w)] at hv2
   injection hv2 with e1 e2
   injection e1 with e1
   subst e1
   refine ⟨a.eval (.tmp i), hrun, σ2, ?_⟩
   rw [hd]
   refine h3.setAt (fun j _ => put_refs _ d b [] i (dead_refs S i (by rw [hav]; rfl)) j) ?_
   have htm : tmOf (a.put (some d) (a.eval (.tmp i))) i = tmOf a i := by rw [tm_put, if_neg (fun e => hdi1 e.1.symm)]
   have htd : tmOf (a.put (some d) (a.eval (.tmp i))) d = tmOf a i := by rw [tm_put, if_pos ⟨rfl, by rw [← h.len]; exact hdl⟩]; rfl
   refine ⟨b, cs, cs, ⟨⟨[], ?_, fun q hq => by simp at hq⟩, trivial, ⟨b, rfl, rfl⟩, by rw [htd]; exact h1⟩, rfl, by rw [htm]; exact h1⟩
   rw [at_set, if_neg (fun e => hdi1 e.1), put_at, if_pos ⟨rfl, by rw [put_len']; exact hdl⟩]
   rfl
 ·-- another value
  rename_i b ex hne
  cases hk : b.m.isK with
  | true =>
   rw [hk] at e
   simp only [cond_true, Option.some.injEq, Prod.mk.injEq, true_and] at e
   subst e
   obtain ⟨cs, h1, h2⟩ := hh
   exact goes_pure h hrun ⟨cs, h1, K_M hk (M_isK _ hk h2)⟩
  | false =>
   rw [hk] at e
   simp only [cond_false] at e
   split at e
   case h_2 => cases e
   simp only [Option.some.injEq, Prod.mk.injEq, true_and] at e
   subst e
   obtain ⟨cs, h1, h2⟩ := hh
   exact goes_pure h hrun ⟨cs, h1, M_move (Stays.refl _ _) _ (fun _ _ _ => rfl) (fun g hg _ => by obtain ⟨i, hi, _⟩ := hg; cases hi) (fun _ h => h) h2⟩
 ·rename_i d t s hd
  cases hsd : Nat.beq s d with
  | true => rw [hsd] at e; cases e
  | false =>
   rw [hsd] at e
   simp only [cond_false, Option.some.injEq, Prod.mk.injEq, true_and] at e
   subst e
   exact goes_pure h hrun hh
 ·rename_i d f c hd
  cases hsd : AV.refs d (.clo f c) with
  | true => rw [hsd] at e; cases e
  | false =>
   rw [hsd] at e
   simp only [cond_false, Option.some.injEq, Prod.mk.injEq, true_and] at e
   subst e
   exact goes_pure h hrun hh
 ·simp only [Option.some.injEq, Prod.mk.injEq, true_and] at e
  subst e
  exact goes_pure h hrun hh
 ·split at e
  case h_2 => cases e
  rename_i b S1 hb
  simp only [Option.some.injEq, Prod.mk.injEq, true_and] at e
  subst e
  obtain ⟨σ1, cs, ow, h1, hm, hM, hk, hn⟩ := takeA_spec h hav hb
  exact goes_took h1 hk hn hrun hm hM
end Go.Pv
namespace Go.Pv
set_option linter.unusedVariables false
set_option linter.unusedSimpArgs false
variable {P : Program} {w w' : World} {A A' Wr : Nat → Prop} {H : Nat → Value} {tm tm' : Nat → Value} {S S' S1 : St} {σ σ1 σ2 : Nat → Option Nat} {w0 : World} {W0 Z : Nat → Prop} {a : Act} {own : Nat → Prop} {v : Value} {Θ : Tab} {dst : Option Nat}
theorem size_one {t : Ty} (h : isAgg t = false) : t.size = 1 := by cases t <;> simp [isAgg] at h <;> rfl
theorem field_ok (hT : tabB P Θ = true) (h : RelS σ w0 W0 Z H S a w) {o : Oper} {T : TypeId} {x : Operand} {f : Nat} (ho : o.op = .field T x f) (e : evField Θ S o.dst T x f = some (true, S')) : GoesQ P w0 W0 Z H S' a o.dst w (execOp a.eval o) := by
 unfold evField at e
 split at e
 case h_2 => cases e
 rename_i b ex i hav hi
 cases hc : (Nat.blt f i.fs.length && decide (i.ty = b.t)) with
 | false => rw [hc] at e; cases e
 | true =>
 rw [hc] at e
 simp only [cond_true] at e
 simp only [Bool.and_eq_true, decide_eq_true_eq] at hc
 obtain ⟨hlt, hty⟩ := hc
 have hlt : f < i.fs.length := Nat.lt_of_succ_le (Nat.le_of_ble_eq_true hlt)
 split at e
 case h_2 => cases e
 rename_i j
 split at e
 case h_2 => cases e
 rename_i c hg
 simp only [St.opv, Option.some.injEq] at hav
 have hh := h.holds j
 rw [hav] at hh
 obtain ⟨cs, hm, hM⟩ := hh
 obtain ⟨_, hu, hT0⟩ := tab_ti hT hi
 have hp := fld_memless f i.fs.length
 obtain ⟨pa, pb, hpp⟩ := memless_pair (fld_ne hlt) hp hg
 obtain ⟨fs, f1, f2, f3, _⟩ := und_pair hu (hty.trans hpp)
 rw [hT0] at f1
 have hfl : fs.toList.length = i.fs.length := by rw [← f2, List.length_map]
 have hfs : fs.size = i.fs.length := by rw [← hfl, Array.length_toList]
 obtain ⟨fd, hfd⟩ : ∃ fd, fs[f]? = some fd := ⟨_, Array.getElem?_eq_getElem (by omega)⟩
 obtain ⟨t, t1, t2, t3, _⟩ := fieldsOK_at f3 f fd (by rw [Array.getElem?_toList]; exact hfd)
 rw [Nat.zero_add, hfs, hty] at t1 t3
 have hct : c.t = t := by
  have := memless_ty _ hp hg
  rw [t1] at this
  injection this with this
  exact this.symm
 subst hct
 obtain ⟨hlen, hone⟩ := M_ok _ hM
 have hfit := memless_fit _ hp hg
 have hcells : cellsAt w (fld f i.fs.length) b.t cs = some ((cs.drop (fldOff (fld f i.fs.length) b.t)).take c.t.size) := memless_cells _ hp hg hlen
 obtain ⟨v, hv, hrun⟩ : ∃ v, matchV c.t v ((cs.drop (fldOff (fld f i.fs.length) b.t)).take c.t.size) ∧ ∀ w2, Ext w w2 → (execOp a.eval o).run P w2 = .ok (.value v) w2 := by
  have hval : a.eval (.tmp j) = .agg cs.toArray := by
   unfold matchV at hm
   rw [if_pos (by rw [hpp]; rfl)] at hm
   exact hm
  have hag := agg_is hT t2
  obtain ⟨inf, s1, s2, _⟩ := size_is hT t2
  have hso : ∀ w2, (sizeOf fd.type).run P w2 = .ok c.t.size w2 := fun w2 => by simp [sizeOf, typeInfo, s1, s2]
  cases hca : isAgg c.t with
  | true =>
   refine ⟨.agg (cs.toArray.extract (fldOff (fld f i.fs.length) b.t) (fldOff (fld f i.fs.length) b.t + c.t.size)), ?_, fun w2 _ => ?_⟩
   ·unfold matchV
    rw [if_pos hca]
    congr 1
    apply Array.toList_inj.1
    rw [Array.toList_extract, List.toList_toArray, List.toList_toArray, List.extract_eq_drop_take']
    rw [List.drop_take, Nat.add_sub_cancel_left]
   ·rw [hca] at hag
    have hpart : (part fd.type cs.toArray fd.offset).run P w2 = .ok (.agg (cs.toArray.extract (fldOff (fld f i.fs.length) b.t) (fldOff (fld f i.fs.length) b.t + c.t.size))) w2 := by
     unfold part
     simp only [Sem.run_bind, hag, Result.andThen_ok, if_true, hso, t3]
     rfl
    simp only [execOp, ho, hval, Instr.field, Sem.run_bind, run_underlying f1, Result.andThen_ok, hfd, asAgg, Sem.run_pure, hpart]
  | false =>
   have h1 := size_one hca
   have hlt2 : fldOff (fld f i.fs.length) b.t < cs.length := by omega
   refine ⟨cs[fldOff (fld f i.fs.length) b.t], ?_, fun w2 _ => ?_⟩
   ·unfold matchV
    rw [if_neg (by rw [hca]; exact Bool.false_ne_true), h1, List.drop_eq_getElem_cons hlt2, List.take_succ_cons, List.take_zero]
   ·rw [hca] at hag
    have hpart : (part fd.type cs.toArray fd.offset).run P w2 = .ok (cs[fldOff (fld f i.fs.length) b.t]) w2 := by
     unfold part
     simp only [Sem.run_bind, hag, Result.andThen_ok, if_neg Bool.false_ne_true, t3]
     rw [List.getElem?_toArray, List.getElem?_eq_getElem hlt2]
     rfl
    simp only [execOp, ho, hval, Instr.field, Sem.run_bind, run_underlying f1, Result.andThen_ok, hfd, asAgg, Sem.run_pure, hpart]
 have hvalid := memless_valid _ hp hg
 cases hk : c.m.isK with
 | true =>
  rw [hk] at e
  simp only [cond_true] at e
  split at e
  case h_2 => cases e
  simp only [Option.some.injEq, Prod.mk.injEq, true_and] at e
  subst e
  obtain ⟨cs', ow', k1, k2, k3⟩ := focus _ hM (fun q hq => by simp at hq) hvalid hg
  rw [hcells] at k1
  injection k1 with k1
  subst k1
  exact goes_pure h hrun ⟨_, hv, M_of_K _ (M_isK _ hk k3)⟩
 | false =>
  rw [hk] at e
  simp only [cond_false] at e
  split at e
  case h_2 => cases e
  rename_i c' hgl
  simp only [Option.some.injEq, Prod.mk.injEq, true_and] at e
  subst e
  obtain ⟨r, ex', q1, q2, q3⟩ := glance_get hgl
  rw [hav] at q1
  injection q1 with q1 q1'
  subst q1 q1'
  exact goes_pure h hrun ⟨b, cs, _, ⟨⟨ex, hav, open_of_under q2⟩, hvalid, ⟨c, hg, rfl⟩, hm⟩, hcells, hv⟩
theorem capsOf_spec (h : RelS σ w0 W0 Z H S a w) : ∀ {xs : List Operand} {l : List Cap}, capsOf S xs = some l → xs.length = l.length ∧ ∀ (j : Nat) (c : Cap), l[j]? = some c → ∃ u, (xs.map a.eval)[j]? = some u ∧ HoldsCap w (Av σ Z) (tmOf a) S c u
 | [], l, e => by
  simp only [capsOf, Option.some.injEq] at e
  subst e
  exact ⟨rfl, fun j c hj => by simp at hj⟩
 | x :: xs, l, e => by
  simp only [capsOf] at e
  split at e
  case h_2 => cases e
  rename_i c l2 hc hl
  simp only [Option.some.injEq] at e
  subst e
  obtain ⟨h1, h2⟩ := capsOf_spec h hl
  refine ⟨by simp [h1], fun j c' hj => ?_⟩
  cases j with
  | succ j => simpa using h2 j c' (by simpa using hj)
  | zero =>
   simp only [List.getElem?_cons_zero, Option.some.injEq] at hj
   subst hj
   refine ⟨a.eval x, rfl, ?_⟩
   unfold capOf at hc
   split at hc
   case h_2 => cases hc
   rename_i i
   have hh := h.holds i
   split at hc
   ·rename_i t T tag me y ex hat
    injection hc with hc
    subst hc
    rw [hat] at hh
    obtain ⟨cs, h1, h2⟩ := hh
    exact ⟨_, cs, cs, ⟨⟨ex, hat, fun q _ s r e => by cases q <;> simp at e⟩, trivial, ⟨_, rfl, rfl⟩, h1⟩, rfl, h1⟩
   ·rename_i t y ex hat
    injection hc with hc
    subst hc
    rw [hat] at hh
    obtain ⟨cs, h1, h2⟩ := hh
    have h1' : cs = [tmOf a i] := by simpa [matchV, isAgg] using h1
    subst h1'
    simp only [M] at h2
    rcases h2 with ⟨_, hx, _⟩ | ⟨_, h2⟩ | ⟨T, tag, me, g, cur, hx, _⟩
    ·simp [Md.isK] at hx
    ·exact h2
    ·cases hx
   ·rename_i t s p hat
    injection hc with hc
    subst hc
    rw [hat] at hh
    exact hh
   ·cases hc
theorem makeFunc_ok (h : RelS σ w0 W0 Z H S a w) {o : Oper} {f : FuncId} {first caps : Array Operand} (ho : o.op = .makeFunc (.func f) first caps) (e : evMakeFunc S o.dst f first.toList caps.toList = some (true, S')) : GoesQ P w0 W0 Z H S' a o.dst w (execOp a.eval o) := by
 unfold evMakeFunc at e
 split at e
 case h_2 => cases e
 rename_i l hf hl
 split at e
 case h_2 => cases e
 rename_i d hd
 cases hr : AV.refs d (.clo f l) with
 | true => rw [hr] at e; cases e
 | false =>
 rw [hr] at e
 simp only [cond_false, Option.some.injEq, Prod.mk.injEq, true_and] at e
 subst e
 obtain ⟨h1, h2⟩ := capsOf_spec h hl
 have hfe : first = #[] := by
  apply Array.toList_inj.1
  rw [hf]
 refine goes_pure (v := .func (.func f) #[] (caps.map a.eval)) h (fun w2 _ => by simp [execOp, ho, Instr.makeFunc, hfe]) ⟨caps.toList.map a.eval, ?_, by rw [List.length_map, h1], h2⟩
 congr 1
 apply Array.toList_inj.1
 simp
theorem move_ok2 (h : RelS σ w0 W0 Z H S a w) {o : Oper} {x : Operand} (ho : o.op = .move x) (e : evMove Θ S o.dst o.type x = some (true, S')) : GoesS P w0 W0 Z H S' a o.dst w (execOp a.eval o) := by
 by_cases hnt : ∃ l, S.opv Θ o.type x = some (.tup l)
 rotate_left
 ·exact move_ok h ho (fun l hl => hnt ⟨l, hl⟩) e
 obtain ⟨l, hl⟩ := hnt
 unfold evMove at e
 rw [hl] at e
 simp only at e
 split at e
 case h_2 => cases e
 rename_i d i hd
 cases hc : (Nat.beq d i || !Nat.blt d S.length) with
 | true => rw [hc] at e; cases e
 | false =>
  rw [hc] at e
  simp only [cond_false, Option.some.injEq, Prod.mk.injEq, true_and] at e
  subst e
  have hat : S.at i = .tup l := by simpa [St.opv] using hl
  have hh := h.holds i
  rw [hat] at hh
  obtain ⟨vs, τ, h1, h2, h3⟩ := hh
  refine ⟨tmOf a i, fun w2 => by simp only [execOp, ho]; rfl, ?_⟩
  rw [hd]
  have hp := h.park i
  have hgo := hp.give0 (dst := some d) (v := tmOf a i) (av := .tup l) (ow := fun g => σ g = some i) (w' := w) (Nat.le_refl _) (fun _ _ _ => rfl) h.fr (fun g hg => ⟨h.lt g i hg, .inl ⟨S.length, by rw [put_len']; exact Nat.le_refl _, by unfold park; rw [if_pos hg]⟩⟩) (fun d' hd' q1 q2 => ?_)
  ·exact ⟨_, hgo⟩
  ·refine ⟨vs, τ, h1, h2, fun j b hb => ?_⟩
   obtain ⟨u, cs, u1, u2, u3⟩ := h3 j b hb
   refine ⟨u, cs, u1, u2, M_move ⟨fun _ _ _ => rfl, fun g hg hx => ?_⟩ _ (fun _ _ _ => rfl) (fun g hg _ => ⟨q1 g hg.1, hg.2⟩) (fun _ h => h) u3⟩
   rcases q2 g hx with q | q
   ·exact park_Av.1 q
   ·exact .inl ⟨i, q⟩
theorem evq_ok (hT : tabB P Θ = true) (h : RelS σ w0 W0 Z H S a w) {hn : Hn} {o : Oper} (hq : quiet o.op = true) (e : ev Θ hn S o = some (true, S')) : GoesQ P w0 W0 Z H S' a o.dst w (execOp a.eval o) := by
 unfold ev at e
 split at e
 case h_1 x ho => exact (move_ok2 h ho e).q
 case h_2 x ho => exact assign_ok h ho e
 case h_3 c x y ho => exact pick_ok h ho e
 case h_4 T ho => rw [ho] at hq; cases hq
 case h_5 T x ho => rw [ho] at hq; cases hq
 case h_6 T ps ho => exact (build_ok hT h ho e).q
 case h_7 T n ps ho => rw [ho] at hq; cases hq
 case h_8 T x ho => exact load_ok hT h ho e
 case h_9 T x y ho => rw [ho] at hq; cases hq
 case h_10 x ho => exact nilcheck_ok h ho e
 case h_11 T x f ho => exact (fieldaddr_ok hT h ho e).q
 case h_12 T x f ho => exact field_ok hT h ho e
 case h_13 T x ix ho => exact (indexaddr_ok hT h ho e).q
 case h_14 T x ix ho => exact index_ok hT h ho e
 case h_15 x j ho => exact (extract_ok h ho e).q
 case h_16 T x lo hi mx ho => exact (slice_ok hT h ho e).q
 case h_17 T T' x ho => exact convert_okQ hT h ho e
 case h_18 op T x y p ho => exact (bin_ok hT h ho e).q
 case h_19 op T x ho => exact un_ok h ho e
 case h_20 T l c ho => rw [ho] at hq; cases hq
 case h_21 f first caps ho => exact makeFunc_ok h ho e
 case h_22 as ts ho => exact (len_ok hT h ho e).q
 case h_23 as ts ho => rw [ho] at hq; cases hq
 case h_24 => cases e
def stillE : Op → Bool
 | .extract .. => true | .indexAddr .. => true | .binOp .. => true | .slice .. => true | .move _ => true | .convert .. => true | .fieldAddr .. => true | .build .. => true | .call { callee := .builtin .len, .. } => true | _ => false
theorem evs_ok (hT : tabB P Θ = true) (h : RelS σ w0 W0 Z H S a w) {hn : Hn} {o : Oper} (hq : stillE o.op = true) (hq2 : (match o.op with
 | .convert _ T' _ => (match Θ.find T' with
  | some i => (match i.ty with
   | .int _ => true
   | _ => false)
  | none => false)
 | _ => true) = true) (e : ev Θ hn S o = some (true, S')) : GoesS P w0 W0 Z H S' a o.dst w (execOp a.eval o) := by
 unfold stillE at hq
 split at hq
 ·rename_i x j ho
  unfold ev at e
  rw [ho] at e
  exact extract_ok h ho e
 ·rename_i T x ix ho
  unfold ev at e
  rw [ho] at e
  exact indexaddr_ok hT h ho e
 ·rename_i op T x y T' ho
  unfold ev at e
  rw [ho] at e
  exact bin_ok hT h ho e
 ·rename_i T x lo hi mx ho
  unfold ev at e
  rw [ho] at e
  exact slice_ok hT h ho e
 ·rename_i x ho
  unfold ev at e
  rw [ho] at e
  exact move_ok2 h ho e
 ·rename_i T T' x ho
  unfold ev at e
  rw [ho] at e
  rw [ho] at hq2
  exact convert_ok hT h ho hq2 e
 ·rename_i T x f ho
  unfold ev at e
  rw [ho] at e
  exact fieldaddr_ok hT h ho e
 ·rename_i T ps ho
  unfold ev at e
  rw [ho] at e
  exact build_ok hT h ho e
 ·rename_i as ts ho
  unfold ev at e
  rw [ho] at e
  exact len_ok hT h ho e
 ·cases hq
def addsE : Op → Bool
 | .alloc _ => true | .box .. => true | .buildSlice .. => true | .makeSlice .. => true | o => quiet o
theorem evx_ok (hT : tabB P Θ = true) (h : RelS σ w0 W0 Z H S a w) {hn : Hn} {o : Oper} (hq : addsE o.op = true) (e : ev Θ hn S o = some (true, S')) : GoesX P w0 W0 Z H S' a o.dst w (execOp a.eval o) := by
 cases hqq : quiet o.op with
 | true => exact (evq_ok hT h hqq e).adds
 | false =>
 unfold ev at e
 split at e
 case h_4 T ho => exact alloc_ok hT h ho e
 case h_5 T x ho => exact box_ok hT h ho e
 case h_7 T n ps ho => exact buildSlice_ok hT h ho e
 case h_20 T l c ho => exact makeSlice_ok hT h ho e
 case h_24 => cases e
 case h_9 T x y ho => rw [ho] at hq; cases hq
 case h_23 as ts ho => rw [ho] at hq; cases hq
 all_goals (rename_i ho; rw [ho] at hqq; cases hqq)
theorem shadow_goes (h : RelS σ w0 W0 Z H S a w) {S1 : St} {T : TypeId} {y : Operand} {s : Sem Next} {dst : Option Nat} (g : Goes P w0 W0 Z H S1 a dst w s) (hd : dst = none) : Goes P w0 W0 Z H (shadow Θ S S1 T y) a dst w s := by
 subst hd
 unfold shadow
 split
 case h_2 => exact g
 rename_i t0 s0 _
 split
 case h_2 => exact g
 rename_i t m xs hs hs1
 cases hk : m.isK with
 | true => exact g
 | false =>
 simp only [cond_false]
 obtain ⟨w', v, h1, σ', h2⟩ := g
 refine ⟨w', v, h1, ?_⟩
 have hh := h.holds s0
 rw [hs] at hh
 obtain ⟨cs, hm, hM⟩ := hh
 have hcs : ∃ A c, cs = [.slice A xs.length c] := by
  simp only [M] at hM
  rcases hM with ⟨hn, _⟩ | ⟨hk', _⟩ | ⟨T', tag, me, A, c, _, rfl, _⟩
  ·simp at hn
  ·rw [hk] at hk'; cases hk'
  ·exact ⟨A, c, rfl⟩
 have ha : a.put none v = a := rfl
 rw [ha] at h2 ⊢
 have h3 := h2.pure (dst := some s0) (av := .v ⟨.sl t, m, xs⟩ [[]]) (v := tmOf a s0) ⟨cs, hm, by
  simp only [M]
  exact .inl ⟨by simp, hk, hcs⟩⟩
 rw [put_same] at h3
 have he : S1.put (some s0) (.v ⟨.sl t, m, xs⟩ [[]]) = S1.set s0 (.v ⟨.sl t, m, xs⟩ [[]]) := by
  simp only [St.put, hs1]
  rfl
 rw [he] at h3
 exact ⟨_, h3⟩
theorem ev_ok (hT : tabB P Θ = true) (h : RelS σ w0 W0 Z H S a w) {hn : Hn} {o : Oper} (e : ev Θ hn S o = some (true, S')) : Goes P w0 W0 Z H S' a o.dst w (execOp a.eval o) := by
 cases hq : addsE o.op with
 | true => exact (evx_ok hT h hq e).goes
 | false =>
 unfold ev at e
 split at e
 case h_9 T x y ho =>
  split at e
  ·rename_i hd
   split at e
   ·rename_i g S1 he
    injection e with e
    injection e with e1 e2
    subst e1 e2
    exact shadow_goes h (store_ok hT h ho hd he) hd
   ·cases e
  ·cases e
 case h_23 as ts ho =>
  split at e
  ·rename_i r hr
   injection e with e
   subst e
   exact append_ok hT h ho hr
  ·exact append_okC hT h ho e
 case h_24 => cases e
 all_goals (rename_i ho; rw [ho] at hq; cases hq)
end Go.Pv
namespace Go.Pv
set_option linter.unusedVariables false
set_option linter.unusedSimpArgs false
variable {P : Program} {w w' : World} {A A' Wr : Nat → Prop} {H : Nat → Value} {tm tm' : Nat → Value} {S S' S1 : St} {σ σ1 σ2 : Nat → Option Nat} {w0 : World} {W0 Z : Nat → Prop} {a : Act} {own : Nat → Prop} {v : Value} {Θ : Tab} {dst : Option Nat}
def Own (σ : Nat → Option Nat) (g : Nat) : Prop := ∃ i, σ g = some i
def ArgOK (w : World) (A : Nat → Prop) (H : Nat → Value) : Arg → Value → (Nat → Prop) → Prop
 | .tv b, v, own => ∃ cs, matchV b.t v cs ∧ M w A H b.t b.m b.x cs own []
 | .fn f caps, v, _ => ∃ vs : List Value, v = .func (.func f) #[] vs.toArray ∧ vs.length = caps.length ∧ ∀ (j : Nat) (c : TV), caps[j]? = some c → ∃ u, vs[j]? = some u ∧ K w A c.t c.x [u]
abbrev Gl := Nat → Option Obj
structure In (Γ : Gl) (B : Nat → Prop) (H : Nat → Value) (w : World) (σ : Nat → Option Nat) (args : List Arg) (vals : List Value) : Prop where
 len : vals.length = args.length
 lt : ∀ g i, σ g = some i → i < args.length ∧ g < w.heap.size
 old : ∀ g, B g → σ g = none ∧ g < w.heap.size
 env : ∀ g o, Γ g = some o → σ g = none ∧ w.heap[g]? = some o
 ok : ∀ (j : Nat) (a : Arg), args[j]? = some a → ∃ v, vals[j]? = some v ∧ ArgOK w (Av σ B) H a v (fun g => σ g = some j)
def packV : List Value → Value
 | [u] => u
 | vs => .tuple vs.toArray
structure Out (B : Nat → Prop) (H : Nat → Value) (w w' : World) (σ : Nat → Option Nat) (rt : Ret) (v : Value) : Prop where
 fr : Fr w (Own σ) w'
 res : ∃ (σ' : Nat → Option Nat) (vs : List Value), v = packV vs ∧ vs.length = rt.res.length ∧ (∀ g i, σ' g = some i → (w.heap.size ≤ g ∨ Own σ g) ∧ g < w'.heap.size) ∧
  (∀ (i : Nat) (b : TV), rt.res[i]? = some b → ∃ u cs, vs[i]? = some u ∧ matchV b.t u cs ∧ M w' (Av σ' B) H b.t b.m b.x cs (fun g => σ' g = some i) []) ∧
  ∀ c, rt.refs = [c] → ∃ cs, M w' (Av σ' B) H c.t c.m c.x cs (fun g => σ' g = some rt.res.length) []
def Does (P : Program) (f : FuncId) (vals : List Value) (w : World) (R : Value → World → Prop) : Prop :=
 ((callFunc f vals.toArray).run P w = .ok (.enter f vals.toArray) w ∧ Calls P f vals.toArray w fun
  | .returned v, w' => R v w'
  | _, _ => False) ∨ ∃ v w', (callFunc f vals.toArray).run P w = .ok (.value v) w' ∧ R v w'
theorem Does.mono {f : FuncId} {vals : List Value} {R R' : Value → World → Prop} (h : Does P f vals w R) (hr : ∀ v w', R v w' → R' v w') : Does P f vals w R' := by
 rcases h with ⟨h1, h2⟩ | ⟨v, w', h1, h2⟩
 ·refine .inl ⟨h1, h2.mono fun e w' he => ?_⟩
  cases e <;> first | exact hr _ _ he | exact he
 ·exact .inr ⟨v, w', h1, hr _ _ h2⟩
def SoundAt (Γ : Gl) (P : Program) (f : FuncId) (run : List Arg → (Ret → Option Ret) → Option Ret) : Prop :=
 ∀ (args : List Arg) (kf : Ret → Option Ret) (ret : Ret) (w : World) (σ : Nat → Option Nat) (vals : List Value) (H : Nat → Value) (B : Nat → Prop), run args kf = some ret → In Γ B H w σ args vals →
  Does P f vals w fun v w' => ∃ rt, kf rt = some ret ∧ Out B H w w' σ rt v
def Sound (Γ : Gl) (P : Program) (f : FuncId) (run : List Arg → (Ret → Option Ret) → Option Ret) : Prop := SoundAt Γ P f run ∧ ∀ as, Det (run as)
def OrcS (Γ : Gl) (P : Program) (O : Orc) : Prop := ∀ f, Sound Γ P f (O.run f)
structure OrcOK (Γ : Gl) (P : Program) (O : Orc) (w0 : World) (W0 : Nat → Prop) : Prop where
 sd : OrcS Γ P O
 env : ∀ g o, Γ g = some o → ¬ W0 g ∧ w0.heap[g]? = some o
theorem OrcOK.det {Γ : Gl} {P : Program} {O : Orc} {w0 : World} {W0 : Nat → Prop} (h : OrcOK Γ P O w0 W0) : ODet O := fun f => (h.sd f).2
variable {Γ : Gl}
theorem orc_of {l : List Entry} (h : ∀ e ∈ l, Sound Γ P e.f e.run) : OrcS Γ P (Orc.of l) := by
 intro f
 have key : ∀ (l : List Entry) (e : Entry), entry l f = some e → e ∈ l ∧ e.f = f := by
  intro l
  induction l with
  | nil => intro e h; cases h
  | cons e' r ih =>
   intro e h
   simp only [entry] at h
   cases hb : Nat.beq e'.f f with
   | true =>
    rw [hb] at h
    injection h with h
    subst h
    exact ⟨by simp, Nat.eq_of_beq_eq_true hb⟩
   | false =>
    rw [hb] at h
    obtain ⟨h1, h2⟩ := ih e h
    exact ⟨by simp [h1], h2⟩
 simp only [Orc.of]
 split
 ·rename_i e he
  obtain ⟨h1, h2⟩ := key l e he
  rw [← h2]
  exact h e h1
 ·exact ⟨fun args kf ret w σ vals H B hr => (by cases hr), fun _ => Det.none⟩
theorem K_free : ∀ (t : Ty) {x : t.I} {cs : List Value}, memfree t = true → K w A t x cs → K w' A' t x cs
 | .int _, _, _, _, h => h
 | .bool, _, _, _, h => h
 | .str, _, _, _, h => h
 | .unit, _, _, _, h => h
 | .pair a b, x, cs, hf, h => by
  simp only [memfree, Bool.and_eq_true] at hf
  simp only [K] at h ⊢
  obtain ⟨c0, c1, rfl, h0, h1⟩ := h
  exact ⟨c0, c1, rfl, K_free a hf.1 h0, K_free b hf.2 h1⟩
 | .arr n t, x, cs, hf, h => by
  simp only [memfree] at hf
  simp only [K] at h ⊢
  obtain ⟨css, rfl, hl, hx, hj⟩ := h
  exact ⟨css, rfl, hl, hx, fun j h1 h2 => K_free t hf (hj j h1 h2)⟩
theorem M_solid : ∀ (t : Ty) {m : Md} {x : t.I} {cs : List Value} {ow : Nat → Prop}, solid t m = true → M w A H t m x cs ow [] → M w A' H t m x cs ow []
 | .sl t, .o T tag me, xs, cs, ow, hs, h => by
  simp only [solid] at hs
  simp only [M] at h ⊢
  rcases h with ⟨hn, _⟩ | ⟨hk, _⟩ | ⟨T, tag, me, X, c, e1, e2, hc, ht, h⟩
  ·simp at hn
  ·simp [Md.isK] at hk
  ·injection e1 with e1 e1' e1''
   subst e1 e1' e1''
   refine .inr (.inr ⟨_, _, _, X, c, rfl, e2, hc, ht, ?_⟩)
   rcases h with h | ⟨g, cur, τ, h1, h2, h3, h4, h5, h6⟩
   ·exact .inl h
   ·exact .inr ⟨g, cur, τ, h1, h2, h3, h4, h5, fun j hj => M_solid t hs (h6 j hj)⟩
 | .ptr t, .o T tag me, x, cs, ow, hs, h => by
  simp only [solid] at hs
  simp only [M] at h ⊢
  rcases h with ⟨hn, _⟩ | ⟨hk, _⟩ | ⟨T, tag, me, g, cur, e1, e2, ht, hg, hw, h⟩
  ·simp at hn
  ·simp [Md.isK] at hk
  ·injection e1 with e1 e1' e1''
   subst e1 e1' e1''
   exact .inr (.inr ⟨_, _, _, g, cur, rfl, e2, ht, hg, hw, M_solid t hs h⟩)
 | .pair a b, .p ma mb, x, cs, ow, hs, h => by
  simp only [solid, Bool.and_eq_true] at hs
  simp only [M] at h ⊢
  rcases h with ⟨hn, _⟩ | ⟨hk, h⟩ | ⟨ma, mb, c0, c1, s, e1, e2, h0, h1⟩
  ·simp at hn
  ·simp only [K] at h
   simp only [Md.isK, Bool.and_eq_true] at hk
   obtain ⟨c0, c1, e2, h0, h1⟩ := h
   refine .inr (.inr ⟨ma, mb, c0, c1, fun _ => True, rfl, e2, M_solid a hs.1 (K_M hk.1 h0), M_solid b hs.2 (K_M hk.2 h1)⟩)
  ·injection e1 with e1 e1'
   subst e1 e1'
   exact .inr (.inr ⟨_, _, c0, c1, s, rfl, e2, M_solid a hs.1 h0, M_solid b hs.2 h1⟩)
 | .sl t, .k, xs, cs, ow, hs, h => by simp [solid, memfree] at hs
 | .sl t, .p _ _, xs, cs, ow, hs, h => by simp [solid, memfree] at hs
 | .ptr t, .k, xs, cs, ow, hs, h => by simp [solid, memfree] at hs
 | .ptr t, .p _ _, xs, cs, ow, hs, h => by simp [solid, memfree] at hs
 | .pair a b, .k, xs, cs, ow, hs, h => by
  simp only [solid, Bool.and_eq_true] at hs
  exact K_M hs.1 (K_free _ hs.2 (M_isK _ hs.1 h))
 | .pair a b, .o .., xs, cs, ow, hs, h => by simp [solid, Md.isK] at hs
 | .int k, m, x, cs, ow, hs, h => by simp only [M, K] at h ⊢; exact h
 | .bool, m, x, cs, ow, hs, h => by simp only [M, K] at h ⊢; exact h
 | .str, m, x, cs, ow, hs, h => by simp only [M, K] at h ⊢; exact h
 | .unit, m, x, cs, ow, hs, h => by simp only [M, K] at h ⊢; exact h
 | .arr n t, m, x, cs, ow, hs, h => by
  have hs : (m.isK && memfree (.arr n t)) = true := by cases m <;> exact hs
  simp only [Bool.and_eq_true] at hs
  exact K_M hs.1 (K_free _ hs.2 (M_isK _ hs.1 h))
def Pk (σ : Nat → Option Nat) (n : Nat) (g : Nat) : Prop := ∃ i, n ≤ i ∧ σ g = some i
theorem M_Pk {t : Ty} {m : Md} {x : t.I} {cs : List Value} {s n : Nat} {ow : Nat → Prop} (hs : s < n) (ho : ∀ g, ow g → σ g = some s) (h : M w (Av σ Z) H t m x cs ow []) : K w (Pk σ n) t x cs :=
 M_K (fun g _ hg => by obtain ⟨i, _, hi⟩ := hg; exact .inl ⟨i, hi⟩) t rfl (fun g hg hx => by
  obtain ⟨i, hi, hi2⟩ := hx
  rw [ho g hg] at hi2
  injection hi2 with hi2
  omega) h
theorem rdP_spec (h : RelS σ w0 W0 Z H S a w) {T : TypeId} {x : Operand} {av : AV} {b : TV} (ho : S.opv Θ T x = some av) (e : S.rdA av = some b) :
  ∃ cs, matchV b.t (a.eval x) cs ∧ K w (Pk σ S.length) b.t b.x cs := by
 have hh := opv_holds h ho
 cases av with
 | v a0 ex =>
  cases ex with
  | cons _ _ => simp [St.rdA] at e
  | nil =>
   simp only [St.rdA, Option.some.injEq] at e
   subst e
   obtain ⟨cs, h1, h2⟩ := hh
   cases x with
   | tmp i =>
    simp only [St.opv, Option.some.injEq] at ho
    exact ⟨cs, h1, M_Pk (s := i) (at_lt (by rw [ho]; exact fun e => by cases e)) (fun g hg => by obtain ⟨j, hj, hg⟩ := hg; injection hj with hj; subst hj; exact hg) h2⟩
   | const c => exact ⟨cs, h1, M_K (fun g _ hg => by obtain ⟨i, _, hi⟩ := hg; exact .inl ⟨i, hi⟩) _ rfl (fun g hg => by obtain ⟨j, hj, _⟩ := hg; cases hj) h2⟩
   | func f => exact ⟨cs, h1, M_K (fun g _ hg => by obtain ⟨i, _, hi⟩ := hg; exact .inl ⟨i, hi⟩) _ rfl (fun g hg => by obtain ⟨j, hj, _⟩ := hg; cases hj) h2⟩
   | global f => exact ⟨cs, h1, M_K (fun g _ hg => by obtain ⟨i, _, hi⟩ := hg; exact .inl ⟨i, hi⟩) _ rfl (fun g hg => by obtain ⟨j, hj, _⟩ := hg; cases hj) h2⟩
 | al t s p =>
  simp only [St.rdA] at e
  obtain ⟨r, cs0, cs, hr, hc, hm⟩ := hh
  obtain ⟨rfl, ow', k2, k3⟩ := place_read h hr hc e
  obtain ⟨ex0, hs0, _⟩ := hr.at_
  exact ⟨cs, hm, M_Pk (s := s) (at_lt (by rw [hs0]; exact fun e => by cases e)) k2 k3⟩
 | cut t s p lo hi =>
  simp only [St.rdA] at e
  obtain ⟨r, cs0, t', X, n, c, hr, rfl, hc, hlo, hhi, hv⟩ := hh
  cases hp : S.place s p with
  | none => rw [hp] at e; cases e
  | some b' =>
   obtain ⟨ht, ow', k2, k3⟩ := place_read h hr hc hp
   obtain ⟨bt, bm, bx⟩ := b'
   simp only at ht
   subst ht
   rw [hp] at e
   simp only [Option.some.injEq] at e
   subst e
   obtain ⟨ex0, hs0, _⟩ := hr.at_
   have hK := M_Pk (s := s) (n := S.length) (at_lt (by rw [hs0]; exact fun e => by cases e)) k2 k3
   have hn : n = List.length bx := by
    simp only [K] at hK
    obtain ⟨_, _, e, _⟩ := hK
    simp only [List.cons.injEq, Value.slice.injEq, and_true] at e
    exact e.2.1
   subst hn
   rw [hv]
   exact ⟨_, by simp [matchV, isAgg], K_cut hK hlo hhi⟩
 | _ => simp [St.rdA] at e
theorem Pk_stays {n : Nat} : Stays w w (Av σ Z) (Pk σ n) := ⟨fun _ _ _ => rfl, fun g _ hg => by obtain ⟨i, _, hi⟩ := hg; exact .inl ⟨i, hi⟩⟩
theorem capTVs_spec (h : RelS σ w0 W0 Z H S a w) : ∀ {caps : List Cap} {l : List TV} {vs : List Value}, capTVs S caps = some l → vs.length = caps.length → (∀ (j : Nat) (c : Cap), caps[j]? = some c → ∃ u, vs[j]? = some u ∧ HoldsCap w (Av σ Z) (tmOf a) S c u) →
  l.length = caps.length ∧ ∀ (j : Nat) (c : TV), l[j]? = some c → ∃ u, vs[j]? = some u ∧ K w (Pk σ S.length) c.t c.x [u]
 | [], l, vs, e, _, _ => by
  simp only [capTVs, Option.some.injEq] at e
  subst e
  exact ⟨rfl, fun j c hj => by simp at hj⟩
 | c :: caps, l, vs, e, hl, hv => by
  simp only [capTVs] at e
  split at e
  case h_2 => cases e
  rename_i b l2 hb hl2
  simp only [Option.some.injEq] at e
  subst e
  match vs, hl with
  | u :: vs, hl =>
   obtain ⟨h1, h2⟩ := capTVs_spec h (vs := vs) hl2 (by simpa using hl) (fun j c hj => by simpa using hv (j + 1) c (by simpa using hj))
   refine ⟨by simp [h1], fun j c' hj => ?_⟩
   cases j with
   | succ j => simpa using h2 j c' (by simpa using hj)
   | zero =>
    simp only [List.getElem?_cons_zero, Option.some.injEq] at hj
    subst hj
    obtain ⟨u', hu, hc⟩ := hv 0 c rfl
    simp only [List.getElem?_cons_zero, Option.some.injEq] at hu
    subst hu
    refine ⟨u, rfl, ?_⟩
    cases c with
    | kv b' =>
     simp only [capTV, Option.some.injEq] at hb
     subst hb
     exact K_stays Pk_stays _ hc
    | pl t s p =>
     simp only [capTV] at hb
     split at hb
     case h_2 => cases hb
     rename_i b' hp
     simp only [Option.some.injEq] at hb
     subst hb
     obtain ⟨r, cs0, cs, hr, hcl, hm⟩ := hc
     obtain ⟨hbt, ow', k2, k3⟩ := place_read h hr hcl hp
     obtain ⟨ex0, hs0, _⟩ := hr.at_
     have hK := M_Pk (s := s) (n := S.length) (at_lt (by rw [hs0]; exact fun e => by cases e)) k2 k3
     have : cs = [u] := by simpa [matchV, isAgg] using hm
     rw [this] at hK
     exact hK
theorem takes_spec : ∀ (xs : List Operand) (Ts : List TypeId) (ps : List Pass) (j : Nat) {S S1 : St} {σ : Nat → Option Nat} {l : List (Option TV)}, RelS σ w0 W0 Z H S a w → takes Θ S xs Ts ps = some (l, S1) →
  ∃ (σ1 : Nat → Option Nat) (ow : Nat → Prop) (τ : Nat → Nat), RelS σ1 w0 W0 Z H S1 a w ∧ S1.length = S.length ∧ Took σ σ1 S.length ow ∧ l.length = xs.length ∧ (∀ g, ow g → j ≤ τ g ∧ τ g < j + l.length) ∧
   ((∀ p ∈ ps, p = .val) → ∀ g, ¬ ow g) ∧
   ∀ (k : Nat) (b : TV), l[k]? = some (some b) → ∃ x cs, xs[k]? = some x ∧ matchV b.t (a.eval x) cs ∧ M w (Av σ Z) H b.t b.m b.x cs (fun g => ow g ∧ τ g = j + k) []
 | [], Ts, ps, j, S, S1, σ, l, h, e => by
  simp only [takes, Option.some.injEq, Prod.mk.injEq] at e
  obtain ⟨rfl, rfl⟩ := e
  exact ⟨σ, fun _ => False, fun _ => j, h, rfl, Took.none _ _, rfl, fun _ h => h.elim, fun _ _ h => h, fun k b hk => by simp at hk⟩
 | x :: xs, [], ps, j, S, S1, σ, l, h, e => by simp [takes] at e
 | x :: xs, T :: Ts, [], j, S, S1, σ, l, h, e => by simp [takes] at e
 | x :: xs, T :: Ts, p :: ps, j, S, S1, σ, l, h, e => by
  simp only [takes] at e
  split at e
  ·split at e
   case h_2 => cases e
   rename_i r hr
   simp only [Option.some.injEq, Prod.mk.injEq] at e
   obtain ⟨rfl, rfl⟩ := e
   obtain ⟨σ1, ow, τ, k1, k2, k3, k4, k5, k6, k7⟩ := takes_spec xs Ts ps (j + 1) h hr
   refine ⟨σ1, ow, τ, k1, k2, k3, by simp [k4], fun g hg => by have := k5 g hg; simp only [List.length_cons]; omega, fun hp => k6 (fun p hp' => hp p (by simp [hp'])), fun k b hk => ?_⟩
   cases k with
   | zero => simp at hk
   | succ k =>
    obtain ⟨x', cs, q1, q2, q3⟩ := k7 k b (by simpa using hk)
    exact ⟨x', cs, by simpa using q1, q2, by rw [show j + (k + 1) = j + 1 + k from by omega]; exact q3⟩
  rotate_left
  ·cases e
  ·unfold St.take at e
   split at e
   case h_2 => cases e
   rename_i b S2 hb
   split at hb
   case h_2 => cases hb
   rename_i av hav
   split at e
   case h_2 => cases e
   rename_i r hr
   simp only [Option.some.injEq, Prod.mk.injEq] at e
   obtain ⟨rfl, rfl⟩ := e
   obtain ⟨σ1, cs, ow, h1, hm, hM, hk, hn⟩ := takeA_spec h hav hb
   obtain ⟨σ2, ow2, τ, k1, k2, k3, k4, k5, k6, k7⟩ := takes_spec xs Ts ps (j + 1) h1 hr
   rw [hn] at k3
   have hap : ∀ g, ow g → ¬ ow2 g := fun g hg => hk.apart k3 hg
   let τ' : Nat → Nat := fun g => open Classical in if ow g then j else τ g
   refine ⟨σ2, fun g => ow g ∨ ow2 g, τ', k1, by omega, hk.trans k3, by simp [k4], fun g hg => ?_, fun hp => (fun hx : Pass.take = Pass.val => nomatch hx) (hp .take (by simp)), fun k b' hk' => ?_⟩
   ·simp only [τ', List.length_cons]
    split
    ·omega
    ·rename_i hx
     have := k5 g (hg.resolve_left hx)
     omega
   ·cases k with
    | zero =>
     simp only [List.getElem?_cons_zero, Option.some.injEq] at hk'
     subst hk'
     refine ⟨x, cs, rfl, hm, M_move (Stays.refl _ _) _ (fun _ _ _ => rfl) (fun g hg _ => ⟨.inl hg, by simp only [τ', if_pos hg, Nat.add_zero]⟩) (fun _ h => h) hM⟩
    | succ k =>
     obtain ⟨x', cs', q1, q2, q3⟩ := k7 k b' (by simpa using hk')
     refine ⟨x', cs', by simpa using q1, q2, M_move ⟨fun _ _ _ => rfl, fun g _ hg => hk.Av.2 hg⟩ _ (fun _ _ _ => rfl) (fun g hg _ => ⟨.inr hg.1, ?_⟩) (fun _ h => h) q3⟩
     simp only [τ']
     rw [if_neg (fun hx => hap g hx hg.1), hg.2]
     omega
theorem reads_spec (h : RelS σ w0 W0 Z H S a w) : ∀ (xs : List Operand) (Ts : List TypeId) (l : List (Option TV)) {as : List Arg}, l.length = xs.length → reads Θ S xs Ts l = some as →
  as.length = xs.length ∧ ∀ (k : Nat) (r : Arg), as[k]? = some r → (∃ b, l[k]? = some (some b) ∧ r = .tv b) ∨ ∃ x, xs[k]? = some x ∧ ∀ H, ArgOK w (Pk σ S.length) H r (a.eval x) (fun _ => False)
 | [], Ts, l, as, _, e => by
  simp only [reads, Option.some.injEq] at e
  subst e
  exact ⟨rfl, fun k r hk => by simp at hk⟩
 | x :: xs, [], l, as, hl, e => by simp [reads] at e
 | x :: xs, T :: Ts, [], as, hl, e => by simp at hl
 | x :: xs, T :: Ts, p :: ps, as, hl, e => by
  have hl' : ps.length = xs.length := by simpa using hl
  simp only [reads] at e
  split at e
  ·rename_i b
   split at e
   case h_2 => cases e
   rename_i r hr
   simp only [Option.some.injEq] at e
   subst e
   obtain ⟨h1, h2⟩ := reads_spec h xs Ts ps hl' hr
   refine ⟨by simp [h1], fun k r' hk => ?_⟩
   cases k with
   | zero =>
    simp only [List.getElem?_cons_zero, Option.some.injEq] at hk
    exact .inl ⟨b, rfl, hk.symm⟩
   | succ k => simpa using h2 k r' (by simpa using hk)
  ·split at e
   ·rename_i f caps hav
    split at e
    case h_2 => cases e
    rename_i cs r hcs hr
    simp only [Option.some.injEq] at e
    subst e
    obtain ⟨h1, h2⟩ := reads_spec h xs Ts ps hl' hr
    refine ⟨by simp [h1], fun k r' hk => ?_⟩
    cases k with
    | zero =>
     simp only [List.getElem?_cons_zero, Option.some.injEq] at hk
     subst hk
     obtain ⟨vs, v1, v2, v3⟩ := opv_holds h hav
     obtain ⟨c1, c2⟩ := capTVs_spec h hcs v2 v3
     exact .inr ⟨x, rfl, fun _ => ⟨vs, v1, by omega, c2⟩⟩
    | succ k => simpa using h2 k r' (by simpa using hk)
   ·rename_i av _ hav
    split at e
    case h_2 => cases e
    rename_i b r hb hr
    simp only [Option.some.injEq] at e
    subst e
    obtain ⟨h1, h2⟩ := reads_spec h xs Ts ps hl' hr
    refine ⟨by simp [h1], fun k r' hk => ?_⟩
    cases k with
    | zero =>
     simp only [List.getElem?_cons_zero, Option.some.injEq] at hk
     subst hk
     obtain ⟨cs, c1, c2⟩ := rdP_spec h hav hb
     exact .inr ⟨x, rfl, fun _ => ⟨cs, c1, M_of_K _ c2⟩⟩
    | succ k => simpa using h2 k r' (by simpa using hk)
   ·cases e
theorem reads_fine (h : RelS σ w0 W0 Z H S a w) : ∀ (xs : List Operand) (Ts : List TypeId) (l : List (Option TV)) {as : List Arg}, l.length = xs.length → reads Θ S xs Ts l = some as → fines S xs l as = true →
  ∀ (k : Nat) (r : Arg), as[k]? = some r → (∃ b, l[k]? = some (some b) ∧ r = .tv b) ∨ ∃ x, xs[k]? = some x ∧ ∀ H, ArgOK w (Av σ Z) H r (a.eval x) (fun _ => False)
 | [], Ts, l, as, _, e, _ => by
  simp only [reads, Option.some.injEq] at e
  subst e
  exact fun k r hk => by simp at hk
 | x :: xs, [], l, as, hl, e, _ => by simp [reads] at e
 | x :: xs, T :: Ts, [], as, hl, e, _ => by simp at hl
 | x :: xs, T :: Ts, p :: ps, as, hl, e, hf => by
  have hl' : ps.length = xs.length := by simpa using hl
  have hall := (reads_spec h (x :: xs) (T :: Ts) (p :: ps) hl e).2
  simp only [reads] at e
  split at e
  ·rename_i b
   split at e
   case h_2 => cases e
   rename_i r hr
   simp only [Option.some.injEq] at e
   subst e
   simp only [fines, Bool.true_or, Bool.true_and] at hf
   have h2 := reads_fine h xs Ts ps hl' hr hf
   intro k r' hk
   cases k with
   | zero =>
    simp only [List.getElem?_cons_zero, Option.some.injEq] at hk
    exact .inl ⟨b, rfl, hk.symm⟩
   | succ k => simpa using h2 k r' (by simpa using hk)
  ·split at e
   ·rename_i f caps hav
    split at e
    case h_2 => cases e
    rename_i cs r hcs hr
    simp only [Option.some.injEq] at e
    subst e
    simp only [fines, Bool.false_or, Bool.and_eq_true, List.isEmpty_iff] at hf
    obtain ⟨hf1, hf2⟩ := hf
    have h2 := reads_fine h xs Ts ps hl' hr hf2
    intro k r' hk
    cases k with
    | succ k => simpa using h2 k r' (by simpa using hk)
    | zero =>
     simp only [List.getElem?_cons_zero, Option.some.injEq] at hk
     subst hk
     rcases hall 0 _ rfl with ⟨b', hb', _⟩ | ⟨x', hx', hok⟩
     ·simp at hb'
     ·simp only [List.getElem?_cons_zero, Option.some.injEq] at hx'
      subst hx'
      refine .inr ⟨x, rfl, fun H' => ?_⟩
      obtain ⟨vs, v1, v2, v3⟩ := hok H'
      exact ⟨vs, v1, v2, fun j c hj => by rw [hf1] at hj; simp at hj⟩
   ·rename_i av _ hav
    split at e
    case h_2 => cases e
    rename_i b r hb hr
    simp only [Option.some.injEq] at e
    subst e
    simp only [fines, Bool.false_or, Bool.and_eq_true, Bool.or_eq_true] at hf
    obtain ⟨hf1, hf2⟩ := hf
    have h2 := reads_fine h xs Ts ps hl' hr hf2
    intro k r' hk
    cases k with
    | succ k => simpa using h2 k r' (by simpa using hk)
    | zero =>
     simp only [List.getElem?_cons_zero, Option.some.injEq] at hk
     subst hk
     rcases hf1 with hs | hs
     ·rcases hall 0 _ rfl with ⟨b', hb', _⟩ | ⟨x', hx', hok⟩
      ·simp at hb'
      ·simp only [List.getElem?_cons_zero, Option.some.injEq] at hx'
       subst hx'
       refine .inr ⟨x, rfl, fun H' => ?_⟩
       obtain ⟨cs, c1, c2⟩ := hok H'
       exact ⟨cs, c1, M_solid _ hs c2⟩
     ·refine .inr ⟨x, rfl, fun H' => ?_⟩
      have hh := opv_holds h hav
      cases x with
      | func f => simp [fineA] at hs
      | global f => simp [fineA] at hs
      | tmp i =>
       simp only [St.opv, Option.some.injEq] at hav
       subst hav
       simp only [fineA] at hs
       split at hs
       ·rename_i b0 hb0
        rw [hb0] at hh hb
        simp only [St.rdA, Option.some.injEq] at hb
        subst hb
        obtain ⟨cs, c1, c2⟩ := hh
        exact ⟨cs, c1, K_M rfl (M_isK _ hs c2)⟩
       ·cases hs
      | const c =>
       have hk : ∀ a0, av = .v a0 [] → ∀ H', ArgOK w (Av σ Z) H' (.tv (kTV b)) (a.eval (.const c)) fun _ => False := fun a0 e H' => by
        subst e
        simp only [St.rdA, Option.some.injEq] at hb
        subst hb
        have hh := opv_holds h hav
        obtain ⟨cs, c1, c2⟩ := hh
        exact ⟨cs, c1, K_M rfl (M_K (fun g _ hg => hg) _ rfl (fun g hg => by obtain ⟨j, hj, _⟩ := hg; cases hj) c2)⟩
       simp only [St.opv] at hav
       cases hc : constTV Θ T c with
       | none => rw [hc] at hav; cases hav
       | some a0 =>
        rw [hc] at hav
        simp only [Option.map_some, Option.some.injEq] at hav
        exact hk a0 hav.symm H'
   ·cases e
end Go.Pv
namespace Go.Pv
set_option linter.unusedVariables false
set_option linter.unusedSimpArgs false
variable {P : Program} {w w' : World} {A A' B Wr : Nat → Prop} {H H' : Nat → Value}
theorem M_bare : ∀ (t : Ty) {m : Md} {x : t.I} {cs : List Value} {ow : Nat → Prop} {hs : List Path}, bareM m = true → M w A H t m x cs ow hs → M w A H' t m x cs ow hs
 | .int _, _, _, _, _, _, _, h => by simp only [M] at h ⊢; exact h
 | .bool, _, _, _, _, _, _, h => by simp only [M] at h ⊢; exact h
 | .str, _, _, _, _, _, _, h => by simp only [M] at h ⊢; exact h
 | .unit, _, _, _, _, _, _, h => by simp only [M] at h ⊢; exact h
 | .arr _ _, _, _, _, _, _, _, h => by simp only [M] at h ⊢; exact h
 | .sl t, m, xs, cs, ow, hs, hb, h => by
  simp only [M] at h ⊢
  rcases h with h | h | ⟨T, tag, me, X, c, rfl, e2, hc, ht, h⟩
  ·exact .inl h
  ·exact .inr (.inl h)
  ·simp only [bareM, Bool.and_eq_true] at hb
   obtain ⟨hb1, hb2⟩ := hb
   cases tag with
   | some _ => cases hb1
   | none =>
    refine .inr (.inr ⟨T, none, me, X, c, rfl, e2, hc, fun h hh => (by cases hh), ?_⟩)
    rcases h with h | ⟨g, cur, τ, h1, h2, h3, h4, h5, h6⟩
    ·exact .inl h
    ·exact .inr ⟨g, cur, τ, h1, h2, h3, h4, h5, fun j hj => M_bare t hb2 (h6 j hj)⟩
 | .ptr t, m, x, cs, ow, hs, hb, h => by
  simp only [M] at h ⊢
  rcases h with h | h | ⟨T, tag, me, g, cur, rfl, e2, ht, hg, hw, h⟩
  ·exact .inl h
  ·exact .inr (.inl h)
  ·simp only [bareM, Bool.and_eq_true] at hb
   obtain ⟨hb1, hb2⟩ := hb
   cases tag with
   | some _ => cases hb1
   | none => exact .inr (.inr ⟨T, none, me, g, cur, rfl, e2, fun h hh => (by cases hh), hg, hw, M_bare t hb2 h⟩)
 | .pair a b, m, x, cs, ow, hs, hb, h => by
  simp only [M] at h ⊢
  rcases h with h | h | ⟨ma, mb, c0, c1, s, rfl, e2, h0, h1⟩
  ·exact .inl h
  ·exact .inr (.inl h)
  ·simp only [bareM, Bool.and_eq_true] at hb
   exact .inr (.inr ⟨ma, mb, c0, c1, s, rfl, e2, M_bare a hb.1 h0, M_bare b hb.2 h1⟩)
theorem tagM_isK : ∀ (t : Ty) {m : Md} {n : Nat}, m.isK = true → (tagM t m n).isK = true
 | .int _, m, n, h => by simpa [tagM] using h
 | .bool, m, n, h => by simpa [tagM] using h
 | .str, m, n, h => by simpa [tagM] using h
 | .unit, m, n, h => by simpa [tagM] using h
 | .arr _ _, m, n, h => by simpa [tagM] using h
 | .sl t, m, n, h => by cases m <;> simp_all [tagM, Md.isK]
 | .ptr t, m, n, h => by cases m <;> simp_all [tagM, Md.isK]
 | .pair a b, m, n, h => by
  cases m with
  | k => simp [tagM, Md.isK]
  | o => simp [Md.isK] at h
  | p ma mb =>
   simp only [Md.isK, Bool.and_eq_true] at h
   simp only [tagM, Md.isK, Bool.and_eq_true]
   exact ⟨tagM_isK a h.1, tagM_isK b h.2⟩
theorem mergeV_isK : ∀ (t : Ty) {m : Md} {x y : t.I}, m.isK = true → mergeV t m x y = x
 | .int _, m, x, y, h => rfl
 | .bool, m, x, y, h => rfl
 | .str, m, x, y, h => rfl
 | .unit, m, x, y, h => rfl
 | .arr _ _, m, x, y, h => rfl
 | .sl t, m, x, y, h => by cases m <;> simp_all [mergeV, Md.isK]
 | .ptr t, m, x, y, h => by cases m <;> simp_all [mergeV, Md.isK]
 | .pair a b, m, x, y, h => by
  cases m with
  | k => simp [mergeV]
  | o => simp [Md.isK] at h
  | p ma mb =>
   simp only [Md.isK, Bool.and_eq_true] at h
   simp only [mergeV]
   rw [mergeV_isK a h.1, mergeV_isK b h.2]
theorem M_tag : ∀ (t : Ty) {m : Md} {x : t.I} {cs : List Value} {ow : Nat → Prop} {n : Nat}, lendable t m = true → M w A H t m x cs ow [] → (∀ (j : Nat) (u : Value), cs[j]? = some u → H' (n + j) = u) → M w A H' t (tagM t m n) x cs ow []
 | .int _, _, _, _, _, _, _, h, _ => by simp only [M, tagM] at h ⊢; exact h
 | .bool, _, _, _, _, _, _, h, _ => by simp only [M, tagM] at h ⊢; exact h
 | .str, _, _, _, _, _, _, h, _ => by simp only [M, tagM] at h ⊢; exact h
 | .unit, _, _, _, _, _, _, h, _ => by simp only [M, tagM] at h ⊢; exact h
 | .arr _ _, _, _, _, _, _, _, h, _ => by simp only [M, tagM] at h ⊢; exact h
 | .sl t, m, xs, cs, ow, n, hl, h, hH => by
  simp only [M] at h ⊢
  rcases h with ⟨h, _⟩ | ⟨hk, h⟩ | ⟨T, tag, me, X, c, rfl, rfl, hc, ht, h⟩
  ·simp at h
  ·exact .inr (.inl ⟨tagM_isK (.sl t) hk, h⟩)
  ·simp only [lendable, Bool.and_eq_true] at hl
   refine .inr (.inr ⟨T, some n, me, X, c, rfl, rfl, hc, fun h hh => ?_, ?_⟩)
   ·injection hh with hh
    subst hh
    exact hH 0 _ rfl
   ·rcases h with h | ⟨g, cur, τ, h1, h2, h3, h4, h5, h6⟩
    ·exact .inl h
    ·exact .inr ⟨g, cur, τ, h1, h2, h3, h4, h5, fun j hj => M_bare t hl (h6 j hj)⟩
 | .ptr t, m, x, cs, ow, n, hl, h, hH => by
  simp only [M] at h ⊢
  rcases h with ⟨h, _⟩ | ⟨hk, h⟩ | ⟨T, tag, me, g, cur, rfl, rfl, ht, hg, hw, h⟩
  ·simp at h
  ·exact .inr (.inl ⟨tagM_isK (.ptr t) hk, h⟩)
  ·simp only [lendable, Bool.and_eq_true] at hl
   refine .inr (.inr ⟨T, some n, me, g, cur, rfl, rfl, fun h hh => ?_, hg, hw, M_bare t hl h⟩)
   injection hh with hh
   subst hh
   exact hH 0 _ rfl
 | .pair a b, m, x, cs, ow, n, hl, h, hH => by
  simp only [M] at h ⊢
  rcases h with ⟨h, _⟩ | ⟨hk, h⟩ | ⟨ma, mb, c0, c1, s, rfl, rfl, h0, h1⟩
  ·simp at h
  ·exact .inr (.inl ⟨tagM_isK (.pair a b) hk, h⟩)
  ·simp only [lendable, Bool.and_eq_true] at hl
   have hl0 := (M_ok a h0).1
   refine .inr (.inr ⟨_, _, c0, c1, s, rfl, rfl, M_tag a hl.1 h0 (fun j u hj => hH j u ?_), M_tag b hl.2 h1 (fun j u hj => ?_)⟩)
   ·rw [List.getElem?_append_left (List.getElem?_eq_some_iff.1 hj).1]; exact hj
   ·rw [Nat.add_assoc]
    refine hH (a.size + j) u ?_
    rw [List.getElem?_append_right (by omega), hl0, Nat.add_sub_cancel_left]
    exact hj
theorem M_untag (hst : Stays w w' A A') : ∀ (t : Ty) {m : Md} {x y : t.I} {cs cs' : List Value} {ow ow' : Nat → Prop} {n : Nat}, lendable t m = true → (lendS t m = true ∨ Stays w' w' B A') → M w A H t m x cs ow [] → (∀ (j : Nat) (u : Value), cs[j]? = some u → H' (n + j) = u) →
  M w' B H' t (tagM t m n) y cs' ow' [] → M w' A' H t m (mergeV t m x y) cs ow' []
 | .int _, _, _, _, _, _, _, _, _, _, _, h, _, _ => by simp only [M, mergeV] at h ⊢; exact ⟨h.1, K_stays hst _ h.2⟩
 | .bool, _, _, _, _, _, _, _, _, _, _, h, _, _ => by simp only [M, mergeV] at h ⊢; exact ⟨h.1, K_stays hst _ h.2⟩
 | .str, _, _, _, _, _, _, _, _, _, _, h, _, _ => by simp only [M, mergeV] at h ⊢; exact ⟨h.1, K_stays hst _ h.2⟩
 | .unit, _, _, _, _, _, _, _, _, _, _, h, _, _ => by simp only [M, mergeV] at h ⊢; exact ⟨h.1, K_stays hst _ h.2⟩
 | .arr _ _, _, _, _, _, _, _, _, _, _, _, h, _, _ => by simp only [M, mergeV] at h ⊢; exact ⟨h.1, K_stays hst _ h.2⟩
 | .sl t, m, xs, ys, cs, cs', ow, ow', n, hl, hB, h, hH, h' => by
  simp only [M] at h
  rcases h with ⟨h, _⟩ | ⟨hk, h⟩ | ⟨T, tag, me, X, c, rfl, rfl, hc, ht, h⟩
  ·simp at h
  ·rw [mergeV_isK _ hk]
   exact K_M hk (K_stays hst _ h)
  ·simp only [lendable, Bool.and_eq_true] at hl
   simp only [tagM, M] at h'
   rcases h' with ⟨h', _⟩ | ⟨hk, _⟩ | ⟨T2, tag2, me2, X2, c2, e1, e2, hc2, ht2, h'⟩
   ·simp at h'
   ·simp [Md.isK] at hk
   ·injection e1 with e1 e1' e1''
    subst e1 e1' e1''
    have q1 := ht2 n rfl
    rw [show H' n = .slice X xs.length c from hH 0 _ rfl] at q1
    injection q1 with q1 q2 q3
    subst q1 q3
    simp only [M, mergeV]
    refine .inr (.inr ⟨T, tag, me, X, c, rfl, by rw [q2], hc2, fun h hh => by rw [ht h hh, q2], ?_⟩)
    rcases h' with h' | ⟨g, cur, τ, k1, k2, k3, k4, k5, k6⟩
    ·exact .inl h'
    ·exact .inr ⟨g, cur, τ, k1, k2, k3, k4, k5, fun j hj => hB.elim (fun hs => M_solid t hs (M_bare t hl (k6 j hj))) fun hst => M_move hst t (fun _ _ _ => rfl) (fun _ h _ => h) (fun _ h => h) (M_bare t hl (k6 j hj))⟩
 | .ptr t, m, x, y, cs, cs', ow, ow', n, hl, hB, h, hH, h' => by
  simp only [M] at h
  rcases h with ⟨h, _⟩ | ⟨hk, h⟩ | ⟨T, tag, me, g, cur, rfl, rfl, ht, hg, hw, h⟩
  ·simp at h
  ·rw [mergeV_isK _ hk]
   exact K_M hk (K_stays hst _ h)
  ·simp only [lendable, Bool.and_eq_true] at hl
   simp only [tagM, M] at h'
   rcases h' with ⟨h', _⟩ | ⟨hk, _⟩ | ⟨T2, tag2, me2, g2, cur2, e1, e2, ht2, hg2, hw2, h'⟩
   ·simp at h'
   ·simp [Md.isK] at hk
   ·injection e1 with e1 e1' e1''
    subst e1 e1' e1''
    have q1 := ht2 n rfl
    rw [show H' n = .pointer (some ⟨g, 0, none⟩) from hH 0 _ rfl] at q1
    injection q1 with q1
    injection q1 with q1
    injection q1 with q1
    subst q1
    simp only [M, mergeV]
    exact .inr (.inr ⟨T, tag, me, g, cur2, rfl, rfl, ht, hg2, hw2, hB.elim (fun hs => M_solid t hs (M_bare t hl h')) fun hst => M_move hst t (fun _ _ _ => rfl) (fun _ h _ => h) (fun _ h => h) (M_bare t hl h')⟩)
 | .pair a b, m, x, y, cs, cs', ow, ow', n, hl, hB, h, hH, h' => by
  simp only [M] at h
  rcases h with ⟨h, _⟩ | ⟨hk, h⟩ | ⟨ma, mb, c0, c1, s, rfl, rfl, h0, h1⟩
  ·simp at h
  ·rw [mergeV_isK _ hk]
   exact K_M hk (K_stays hst _ h)
  ·simp only [lendable, Bool.and_eq_true] at hl
   have hBa : lendS a ma = true ∨ Stays w' w' B A' := hB.imp (fun h => by simp only [lendS, Bool.and_eq_true] at h; exact h.1) id
   have hBb : lendS b mb = true ∨ Stays w' w' B A' := hB.imp (fun h => by simp only [lendS, Bool.and_eq_true] at h; exact h.2) id
   have hl0 := (M_ok a h0).1
   have hH0 : ∀ (j : Nat) (u : Value), c0[j]? = some u → H' (n + j) = u := fun j u hj => hH j u (by rw [List.getElem?_append_left (List.getElem?_eq_some_iff.1 hj).1]; exact hj)
   have hH1 : ∀ (j : Nat) (u : Value), c1[j]? = some u → H' (n + a.size + j) = u := fun j u hj => by
    rw [Nat.add_assoc]
    refine hH (a.size + j) u ?_
    rw [List.getElem?_append_right (by omega), hl0, Nat.add_sub_cancel_left]
    exact hj
   simp only [tagM, M] at h'
   simp only [M, mergeV]
   rcases h' with ⟨h', _⟩ | ⟨hk, h'⟩ | ⟨ma2, mb2, d0, d1, s2, e1, e2, k0, k1⟩
   ·simp at h'
   ·simp only [Md.isK, Bool.and_eq_true] at hk
    simp only [K] at h'
    obtain ⟨d0, d1, e2, k0, k1⟩ := h'
    exact .inr (.inr ⟨ma, mb, c0, c1, fun _ => True, rfl, rfl, M_untag hst a hl.1 hBa h0 hH0 (K_M hk.1 k0), M_untag hst b hl.2 hBb h1 hH1 (K_M hk.2 k1)⟩)
   ·injection e1 with e1 e1'
    subst e1 e1'
    exact .inr (.inr ⟨ma, mb, c0, c1, s2, rfl, rfl, M_untag hst a hl.1 hBa h0 hH0 k0, M_untag hst b hl.2 hBb h1 hH1 k1⟩)
end Go.Pv
namespace Go.Pv
set_option linter.unusedVariables false
set_option linter.unusedSimpArgs false
variable {P : Program} {w w' : World} {A A' Wr : Nat → Prop} {H : Nat → Value} {tm tm' : Nat → Value} {S S' S1 : St} {σ σ1 σ2 : Nat → Option Nat} {w0 : World} {W0 Z : Nat → Prop} {a : Act} {own : Nat → Prop} {v : Value} {Θ : Tab} {dst : Option Nat} {O : Orc} {hh : Hint} {Γ : Gl}
theorem Fr.trans {W1 : Nat → Prop} (h : Fr w0 W0 w) (h1 : Fr w W1 w') (hw : ∀ g, W1 g → g < w0.heap.size → W0 g) : Fr w0 W0 w' := by
 refine ⟨h1.os.trans h.os, h1.tape.trans h.tape, h1.output.trans h.output, Nat.le_trans h.size h1.size, fun g hg hn => ?_⟩
 rw [h1.block g (by have := h.size; omega) (fun hx => hn (hw g hx hg))]
 exact h.block g hg hn
theorem call_ok (hT : tabB P hh.tab = true) (hO : OrcOK Γ P O w0 W0) (h : RelS σ w0 W0 Z H S a w) {o : Oper} {f : FuncId} {cal : Option Nat} {as : List Operand} {ts : List TypeId} {K : St → Option Ret} {ret : Ret} {capv : List Value}
  (hcal : (cal = none ∧ capv = []) ∨ ∃ i, cal = some i ∧ tmOf a i = .func (.func f) #[] capv.toArray) (e : peCall hh O o f cal as ts S K = some ret) :
  Does P f (as.map a.eval ++ capv) w fun v w' => ∃ S', K S' = some ret ∧ Rel w0 W0 Z H S' (a.put o.dst v) w' ∧ ((∀ p ∈ O.sig f, p = .val) → Ext w w') := by
 unfold peCall at e
 split at e
 case h_2 => cases e
 rename_i l S1 hl
 split at e
 case h_2 => cases e
 rename_i args cs hargs hcs
 obtain ⟨σ1, ow, τ, t1, t2, t3, t4, t5, t6, t7⟩ := takes_spec as ts (O.sig f) 0 h hl
 obtain ⟨r1, r2⟩ := reads_spec t1 as ts l t4 hargs
 -- the captured values
 have hcap : cs.length = capv.length ∧ ∀ (j : Nat) (c : TV), cs[j]? = some c → ptrTV c = true ∧ ∃ u, capv[j]? = some u ∧ Go.Pv.K w (Pk σ1 S1.length) c.t c.x [u] := by
  rcases hcal with ⟨rfl, rfl⟩ | ⟨i, rfl, hv⟩
  ·simp only [capsIn, Option.some.injEq] at hcs
   subst hcs
   exact ⟨rfl, fun j c hj => by simp at hj⟩
  ·simp only [capsIn] at hcs
   split at hcs
   case h_2 => cases hcs
   rename_i f' caps hat
   cases hb : Nat.beq f' f with
   | false => rw [hb] at hcs; cases hcs
   | true =>
    rw [hb] at hcs
    simp only [cond_true] at hcs
    have hold := t1.holds i
    rw [hat] at hold
    obtain ⟨vs, v1, v2, v3⟩ := hold
    rw [hv] at v1
    injection v1 with _ _ v1
    have hvs : capv = vs := by
     have := congrArg Array.toList v1
     simpa using this
    subst hvs
    split at hcs
    case h_2 => cases hcs
    rename_i l' hl'
    cases hp : l'.all ptrTV with
    | false => rw [hp] at hcs; cases hcs
    | true =>
     rw [hp] at hcs
     simp only [cond_true, Option.some.injEq] at hcs
     subst hcs
     obtain ⟨c1, c2⟩ := capTVs_spec t1 hl' v2 v3
     exact ⟨by omega, fun j c hj => ⟨List.all_eq_true.1 hp c (List.mem_of_getElem? hj), c2 j c hj⟩⟩
 -- the callee's arguments
 let σc : Nat → Option Nat := fun g => open Classical in if ow g then some (τ g) else none
 have hσc : ∀ g i, σc g = some i ↔ ow g ∧ τ g = i := fun g i => by
  simp only [σc]
  split
  ·rename_i hx; exact ⟨fun hg => ⟨hx, by injection hg⟩, fun hg => by rw [hg.2]⟩
  ·rename_i hx; exact ⟨fun hg => (by cases hg), fun hg => absurd hg.1 hx⟩
 have hOwn : ∀ g, Own σc g ↔ ow g := fun g => ⟨fun ⟨i, hi⟩ => ((hσc g i).1 hi).1, fun hg => ⟨τ g, (hσc g _).2 ⟨hg, rfl⟩⟩⟩
 have hpk : ∀ g, ow g → Pk σ1 S1.length g := fun g hg => by rw [t2]; exact t3.now g hg
 obtain ⟨fine, hfine⟩ : ∃ fine, fine = (cs.isEmpty && fines S1 as l args) := ⟨_, rfl⟩
 let B : Nat → Prop := fun g => fine = true ∧ Av σ Z g ∧ ¬ ow g
 have hstT : Stays w w (Av σ Z) (Av σc B) := ⟨fun _ _ _ => rfl, fun g _ hg => by
  rcases hg with hg | hg
  ·obtain ⟨i, _, hi⟩ := t3.was g ((hOwn g).1 hg)
   exact .inl ⟨i, hi⟩
  ·exact hg.2.1⟩
 have hstF : Stays w w (Av σ1 Z) (Av σc B) := ⟨fun _ _ _ => rfl, fun g hl hg => t3.Av.2 (hstT.wr g hl hg)⟩
 have hstP : fine = false → Stays w w (Pk σ1 S1.length) (Av σc B) := fun hn => ⟨fun _ _ _ => rfl, fun g _ hg => by
  rcases hg with hg | hg
  ·exact hpk g ((hOwn g).1 hg)
  ·have h1 := hg.1; rw [hn] at h1; cases h1⟩
 have r3 := fun hf : fine = true => reads_fine t1 as ts l t4 hargs (by rw [hf] at hfine; exact (Bool.and_eq_true _ _ ▸ hfine.symm).2)
 have hin : In Γ B H w σc (args ++ cs.map .tv) (as.map a.eval ++ capv) := by
  refine ⟨by simp [r1, hcap.1], fun g i hg => ?_, fun g hg => ⟨?_, ?_⟩, fun g o hg => ⟨?_, ?_⟩, fun j r hj => ?_⟩
  ·obtain ⟨q1, q2⟩ := (hσc g i).1 hg
   have := (t5 g q1).2
   obtain ⟨k, _, hk⟩ := t3.was g q1
   exact ⟨by simp only [List.length_append]; omega, h.lt g k hk⟩
  ·cases hc : σc g with
   | none => rfl
   | some i => exact absurd ((hσc g i).1 hc).1 hg.2.2
  ·rcases hg.2.1 with ⟨i, hi⟩ | hz
   ·exact h.lt g i hi
   ·have := (h.old g hz).2; have := h.fr.size; omega
  ·cases hc : σc g with
   | none => rfl
   | some i =>
    obtain ⟨k, _, hk⟩ := t3.was g ((hσc g i).1 hc).1
    obtain ⟨e1, e2⟩ := hO.env g o hg
    rcases h.new g k hk with hx | hx
    ·have := lt_of_some e2; omega
    ·exact absurd hx e1
  ·obtain ⟨e1, e2⟩ := hO.env g o hg
   rw [h.fr.block g (lt_of_some e2) e1, e2]
  ·rcases Nat.lt_or_ge j args.length with hjl | hjl
   ·rw [List.getElem?_append_left hjl] at hj
    rw [List.getElem?_append_left (by simp only [List.length_map]; omega), List.getElem?_map]
    rcases r2 j r hj with ⟨b, hb, rfl⟩ | ⟨x, hx, hok⟩
    ·obtain ⟨x, c, q1, q2, q3⟩ := t7 j b hb
     rw [q1]
     exact ⟨_, rfl, c, q2, M_move hstT _ (fun _ _ _ => rfl) (fun g hg _ => (hσc g j).2 ⟨hg.1, by rw [hg.2]; omega⟩) (fun _ h => h) q3⟩
    ·have fin : ∀ {A0 : Nat → Prop}, Stays w w A0 (Av σc B) → ArgOK w A0 H r (a.eval x) (fun _ => False) → ArgOK w (Av σc B) H r (a.eval x) (fun g => σc g = some j) := fun hst hok => by
      cases r with
      | tv b =>
       obtain ⟨c, c1, c2⟩ := hok
       exact ⟨c, c1, M_move hst _ (fun _ _ _ => rfl) (fun _ hg _ => hg.elim) (fun _ h => h) c2⟩
      | fn f' caps =>
       obtain ⟨vs, c1, c2, c3⟩ := hok
       exact ⟨vs, c1, c2, fun k c hk => by obtain ⟨u, u1, u2⟩ := c3 k c hk; exact ⟨u, u1, K_stays hst _ u2⟩⟩
     cases hfn : fine with
     | false =>
      rw [hx]
      exact ⟨_, rfl, fin (hstP hfn) (hok H)⟩
     | true =>
      rcases r3 hfn j r hj with ⟨b, hb, rfl⟩ | ⟨x', hx', hok'⟩
      ·obtain ⟨x, c, q1, q2, q3⟩ := t7 j b hb
       rw [q1]
       exact ⟨_, rfl, c, q2, M_move hstT _ (fun _ _ _ => rfl) (fun g hg _ => (hσc g j).2 ⟨hg.1, by rw [hg.2]; omega⟩) (fun _ h => h) q3⟩
      ·rw [hx] at hx'
       injection hx' with hx'
       subst hx'
       rw [hx]
       exact ⟨_, rfl, fin hstF (hok' H)⟩
   ·rw [List.getElem?_append_right hjl, List.getElem?_map] at hj
    cases hc : cs[j - args.length]? with
    | none => rw [hc] at hj; cases hj
    | some c =>
     rw [hc] at hj
     injection hj with hj
     subst hj
     obtain ⟨u0, u, u1, u2⟩ := hcap.2 _ c hc
     refine ⟨u, ?_, ?_⟩
     ·rw [List.getElem?_append_right (by simp only [List.length_map]; omega)]
      simpa [r1] using u1
     ·have hfn : fine = false := by
       cases hf : fine with
       | false => rfl
       | true =>
        rw [hf] at hfine
        cases cs with
        | nil => simp at hc
        | cons _ _ => simp at hfine
      have hK := K_stays (hstP hfn) _ u2
      obtain ⟨ct, cm, cx⟩ := c
      unfold ptrTV at u0
      split at u0
      ·rename_i t ht
       simp only at ht u0 hK
       subst ht
       exact ⟨[u], by simp [matchV, isAgg], K_M u0 hK⟩
      ·cases u0
 refine ((hO.sd f).1 _ _ ret w σc _ H B e hin).mono fun v w' hv => ?_
 obtain ⟨rt, hrt, hout⟩ := hv
 split at hrt
 case h_2 => cases hrt
 cases hcnd : (rt.res.all (fun d => solid d.t d.m) || (cs.isEmpty && fines S1 as l args)) with
 | false => rw [hcnd] at hrt; cases hrt
 | true =>
 rw [hcnd] at hrt
 simp only [cond_true] at hrt
 rw [← hfine, Bool.or_eq_true] at hcnd
 refine ⟨_, hrt, ?_, fun hall g hg => hout.fr.block g hg (fun hx => t6 hall g ((hOwn g).1 hx))⟩
 -- behind the call
 obtain ⟨σ', vs, q1, q2, q3, q4, _⟩ := hout.res
 let n := S1.length
 let σr : Nat → Option Nat := fun g => match σ' g with
  | some i => some (S1.length + i)
  | none => open Classical in if ow g then none else σ1 g
 have hσr : ∀ g i, σr g = some i → (∃ k, σ' g = some k ∧ i = S1.length + k) ∨ (σ' g = none ∧ ¬ ow g ∧ σ1 g = some i) := fun g i hg => by
  simp only [σr] at hg
  split at hg
  ·rename_i k hk
   injection hg with hg
   exact .inl ⟨k, hk, hg.symm⟩
  ·rename_i hk
   split at hg
   ·cases hg
   ·exact .inr ⟨hk, by assumption, hg⟩
 have hσr1 : ∀ g k, σ' g = some k → σr g = some (S1.length + k) := fun g k hk => by simp only [σr, hk]
 have hσr2 : ∀ g i, σ' g = none → ¬ ow g → σ1 g = some i → σr g = some i := fun g i h1 h2 h3 => by simp only [σr, h1, if_neg h2, h3]
 have hkeep : ∀ g, g < w.heap.size → ¬ ow g → w'.heap[g]? = w.heap[g]? := fun g hg hn => hout.fr.block g hg (fun hx => hn ((hOwn g).1 hx))
 have hold' : ∀ g, g < w.heap.size → ∀ k, σ' g = some k → ow g := fun g hg k hk => by
  rcases (q3 g k hk).1 with hx | hx
  ·omega
  ·exact (hOwn g).1 hx
 have hst : Stays w w' (Av σ1 Z) (Av σr Z) := ⟨fun g hn hg => hkeep g hg (fun hx => hn (by obtain ⟨i, _, hi⟩ := hpk g hx; exact .inl ⟨i, hi⟩)), fun g hg hx => by
  rcases hx with ⟨i, hx⟩ | hx
  ·rcases hσr g i hx with ⟨k, hk, _⟩ | ⟨_, _, hk⟩
   ·obtain ⟨i, _, hi⟩ := hpk g (hold' g hg k hk)
    exact .inl ⟨i, hi⟩
   ·exact .inl ⟨i, hk⟩
  ·exact .inr hx⟩
 have hownlt : ∀ g, ow g → ∀ i, σ1 g = some i → S1.length ≤ i := fun g hg i hi => by
  obtain ⟨j, hj, hj2⟩ := hpk g hg
  rw [hi] at hj2
  injection hj2 with hj2
  omega
 have hR : RelS σr w0 W0 Z H S1 a w' := by
  refine ⟨t1.len, t1.defers, t1.fr.trans hout.fr (fun g hg hl => ?_), fun g i hg => ?_, fun g i hg => ?_, fun g hg => ⟨?_, (t1.old g hg).2⟩, fun i => ?_⟩
  ·obtain ⟨i, _, hi⟩ := hpk g ((hOwn g).1 hg)
   rcases t1.new g i hi with hx | hx
   ·omega
   ·exact hx
  ·rcases hσr g i hg with ⟨k, hk, _⟩ | ⟨_, _, hk⟩
   ·rcases (q3 g k hk).1 with hx | hx
    ·have := t1.fr.size; exact .inl (by omega)
    ·obtain ⟨i, _, hi⟩ := hpk g ((hOwn g).1 hx)
     exact t1.new g i hi
   ·exact t1.new g i hk
  ·rcases hσr g i hg with ⟨k, hk, _⟩ | ⟨_, _, hk⟩
   ·exact (q3 g k hk).2
   ·have := t1.lt g i hk; have := hout.fr.size; omega
  ·obtain ⟨z1, z2⟩ := t1.old g hg
   have hno : ¬ ow g := fun hx => by obtain ⟨i, _, hi⟩ := hpk g hx; rw [z1] at hi; cases hi
   have : σ' g = none := by
    cases hk : σ' g with
    | none => rfl
    | some k => exact absurd (hold' g (by have := t1.fr.size; omega) k hk) hno
   simp only [σr, this, if_neg hno, z1]
  ·by_cases hil : i < S1.length
   ·refine (t1.holds i).kept hst (fun g hg hl => ?_) (fun s hs => ?_)
    ·have hno : ¬ ow g := fun hx => by have := hownlt g hx i hg; omega
     refine ⟨hkeep g hl hno, hσr2 g i ?_ hno hg⟩
     cases hk : σ' g with
     | none => rfl
     | some k => exact absurd (hold' g hl k hk) hno
    ·by_cases hsl : s < S1.length
     ·exact ⟨fun _ _ h => h, rfl, _, t1.holds s, fun g hg hl => hkeep g hl (fun hx => by have := hownlt g hx s hg; omega)⟩
     ·have hd : S1.at s = .dead := Classical.byContradiction fun hx => hsl (at_lt hx)
      exact ⟨fun _ _ h => h, rfl, fun _ => False, by rw [hd]; trivial, fun _ h => h.elim⟩
   ·have hd : S1.at i = .dead := Classical.byContradiction fun hx => hil (at_lt hx)
    rw [hd]
    trivial
 refine ⟨_, hR.give0 (ow := fun g => ∃ k, σ' g = some k) (Nat.le_refl _) (fun _ _ _ => rfl) hR.fr (fun g ⟨k, hk⟩ => ⟨(q3 g k hk).2, .inl ⟨S1.length + k, by omega, hσr1 g k hk⟩⟩) fun d _ g1 g2 => ?_⟩
 -- the results
 have hkey : fine = true → Stays w' w' (Av σ' B) (Av (grant σr o.dst fun g => ∃ k, σ' g = some k) Z) := fun hfn => ⟨fun _ _ _ => rfl, fun g _ hg => by
  rcases g2 g hg with (⟨i, hi⟩ | hz) | hx
  ·rcases hσr g i hi with ⟨k, hk, _⟩ | ⟨_, hno, hk⟩
   ·exact .inl ⟨k, hk⟩
   ·exact .inr ⟨hfn, t3.Av.1 (.inl ⟨i, hk⟩), hno⟩
  ·refine .inr ⟨hfn, .inr hz, fun hx => ?_⟩
   obtain ⟨i, _, hi⟩ := hpk g hx
   rw [(t1.old g hz).1] at hi
   cases hi
  ·exact .inl hx⟩
 have hres : ∀ (i : Nat) (b : TV), rt.res[i]? = some b → ∃ u cs, vs[i]? = some u ∧ matchV b.t u cs ∧ M w' (Av (grant σr o.dst fun g => ∃ k, σ' g = some k) Z) H b.t b.m b.x cs (fun g => σ' g = some i) [] := fun i b hb => by
  obtain ⟨u, c, u1, u2, u3⟩ := q4 i b hb
  refine ⟨u, c, u1, u2, ?_⟩
  rcases hcnd with hs | hfn
  ·exact M_solid _ (List.all_eq_true.1 hs b (List.mem_of_getElem? hb)) u3
  ·exact M_move (hkey hfn) _ (fun _ _ _ => rfl) (fun _ h _ => h) (fun _ h => h) u3
 have htup : ∀ l : List TV, l = rt.res → Holds w' (Av (grant σr o.dst fun g => ∃ k, σ' g = some k) Z) H (tmOf (a.put o.dst v)) (S1.put o.dst (.tup (l.map some))) (fun g => grant σr o.dst (fun g => ∃ k, σ' g = some k) g = some d) (.tup (l.map some)) (.tuple vs.toArray) := fun l hl => by
  subst hl
  refine ⟨vs, fun g => (σ' g).getD 0, rfl, by simp [q2], fun j b hj => ?_⟩
  rw [List.getElem?_map] at hj
  cases hb : rt.res[j]? with
  | none => rw [hb] at hj; cases hj
  | some b' =>
   rw [hb] at hj
   simp only [Option.map_some, Option.some.injEq] at hj
   subst hj
   obtain ⟨u, c, u1, u2, u3⟩ := hres j b' hb
   exact ⟨u, c, u1, u2, M_move (Stays.refl _ _) _ (fun _ _ _ => rfl) (fun g hg _ => ⟨g1 g ⟨j, hg⟩, by show (σ' g).getD 0 = j; rw [hg]; rfl⟩) (fun _ h => h) u3⟩
 subst q1
 match hres' : rt.res, q2 with
 | [b], q2 =>
  match vs, q2 with
  | [u], _ =>
   obtain ⟨u', c, u1, u2, u3⟩ := hres 0 b (by rw [hres']; rfl)
   simp only [List.getElem?_cons_zero, Option.some.injEq] at u1
   subst u1
   exact ⟨c, u2, M_move (Stays.refl _ _) _ (fun _ _ _ => rfl) (fun g hg _ => g1 g ⟨0, hg⟩) (fun _ h => h) u3⟩
 | [], q2 =>
  match vs, q2 with
  | [], _ => exact htup [] hres'.symm
 | b :: b' :: r, q2 =>
  match vs, q2 with
  | u :: u' :: vr, _ => exact htup (b :: b' :: r) hres'.symm
end Go.Pv
namespace Go.Pv
set_option linter.unusedVariables false
set_option linter.unusedSimpArgs false
variable {P : Program} {w w' : World} {A A' Wr : Nat → Prop} {H H' : Nat → Value} {tm tm' : Nat → Value} {S S' S1 : St} {σ σ1 σ2 : Nat → Option Nat} {w0 : World} {W0 Z : Nat → Prop} {a : Act} {own : Nat → Prop} {v : Value} {Θ : Tab} {dst : Option Nat} {O : Orc} {hh : Hint} {Γ : Gl}
theorem putCells_same (cur : List Value) (off n : Nat) (h : off + n ≤ cur.length) : putCells cur off ((cur.drop off).take n) = cur := by
 have hl : ((cur.drop off).take n).length = n := by rw [List.length_take, List.length_drop]; omega
 apply List.ext_getElem?
 intro k
 rw [put_get _ _ _ _ (by omega), hl]
 by_cases h1 : k < off
 ·rw [if_pos h1]
 ·rw [if_neg h1]
  by_cases h2 : k < off + n
  ·rw [if_pos h2, List.getElem?_take, if_pos (by omega), List.getElem?_drop]
   congr 1; omega
  ·rw [if_neg h2]
theorem after_call {ow : Nat → Prop} {σc σ' : Nat → Option Nat} (t1 : RelS σ1 w0 W0 Z H S1 a w) (hpk : ∀ g, ow g → Pk σ1 S1.length g) (hOwn : ∀ g, Own σc g ↔ ow g) (hfr : Fr w (Own σc) w')
  (q3 : ∀ g i, σ' g = some i → (w.heap.size ≤ g ∨ Own σc g) ∧ g < w'.heap.size) :
  ∃ σr, RelS σr w0 W0 Z H S1 a w' ∧ (∀ g k, σ' g = some k → σr g = some (S1.length + k)) ∧ Stays w w' (Av σ1 Z) (Av σr Z) ∧
   (∀ g i, i < S1.length → σr g = some i → σ1 g = some i) ∧ (∀ g i, i < S1.length → σ1 g = some i → w'.heap[g]? = w.heap[g]?) ∧ (∀ g i, σr g = some i → (∃ k, σ' g = some k) ∨ (¬ ow g ∧ σ1 g = some i)) := by
 let σr : Nat → Option Nat := fun g => match σ' g with
  | some i => some (S1.length + i)
  | none => open Classical in if ow g then none else σ1 g
 have hσr : ∀ g i, σr g = some i → (∃ k, σ' g = some k ∧ i = S1.length + k) ∨ (σ' g = none ∧ ¬ ow g ∧ σ1 g = some i) := fun g i hg => by
  simp only [σr] at hg
  split at hg
  ·rename_i k hk
   injection hg with hg
   exact .inl ⟨k, hk, hg.symm⟩
  ·rename_i hk
   split at hg
   ·cases hg
   ·exact .inr ⟨hk, by assumption, hg⟩
 have hσr1 : ∀ g k, σ' g = some k → σr g = some (S1.length + k) := fun g k hk => by simp only [σr, hk]
 have hσr2 : ∀ g i, σ' g = none → ¬ ow g → σ1 g = some i → σr g = some i := fun g i h1 h2 h3 => by simp only [σr, h1, if_neg h2, h3]
 have hkeep : ∀ g, g < w.heap.size → ¬ ow g → w'.heap[g]? = w.heap[g]? := fun g hg hn => hfr.block g hg (fun hx => hn ((hOwn g).1 hx))
 have hold' : ∀ g, g < w.heap.size → ∀ k, σ' g = some k → ow g := fun g hg k hk => by
  rcases (q3 g k hk).1 with hx | hx
  ·omega
  ·exact (hOwn g).1 hx
 have hst : Stays w w' (Av σ1 Z) (Av σr Z) := ⟨fun g hn hg => hkeep g hg (fun hx => hn (by obtain ⟨i, _, hi⟩ := hpk g hx; exact .inl ⟨i, hi⟩)), fun g hg hx => by
  rcases hx with ⟨i, hx⟩ | hx
  ·rcases hσr g i hx with ⟨k, hk, _⟩ | ⟨_, _, hk⟩
   ·obtain ⟨i, _, hi⟩ := hpk g (hold' g hg k hk)
    exact .inl ⟨i, hi⟩
   ·exact .inl ⟨i, hk⟩
  ·exact .inr hx⟩
 have hownlt : ∀ g, ow g → ∀ i, σ1 g = some i → S1.length ≤ i := fun g hg i hi => by
  obtain ⟨j, hj, hj2⟩ := hpk g hg
  rw [hi] at hj2
  injection hj2 with hj2
  omega
 refine ⟨σr, ?_, hσr1, hst, fun g i hi hg => ?_, fun g i hi hg => hkeep g (t1.lt g i hg) (fun hx => by have := hownlt g hx i hg; omega), fun g i hg => by
  rcases hσr g i hg with ⟨k, hk, _⟩ | ⟨_, h1, h2⟩
  ·exact .inl ⟨k, hk⟩
  ·exact .inr ⟨h1, h2⟩⟩
 rotate_left
 ·rcases hσr g i hg with ⟨k, _, hk⟩ | ⟨_, _, hk⟩
  ·omega
  ·exact hk
 refine ⟨t1.len, t1.defers, t1.fr.trans hfr (fun g hg hl => ?_), fun g i hg => ?_, fun g i hg => ?_, fun g hg => ⟨?_, (t1.old g hg).2⟩, fun i => ?_⟩
 ·obtain ⟨i, _, hi⟩ := hpk g ((hOwn g).1 hg)
  rcases t1.new g i hi with hx | hx
  ·omega
  ·exact hx
 ·rcases hσr g i hg with ⟨k, hk, _⟩ | ⟨_, _, hk⟩
  ·rcases (q3 g k hk).1 with hx | hx
   ·have := t1.fr.size; exact .inl (by omega)
   ·obtain ⟨i, _, hi⟩ := hpk g ((hOwn g).1 hx)
    exact t1.new g i hi
  ·exact t1.new g i hk
 ·rcases hσr g i hg with ⟨k, hk, _⟩ | ⟨_, _, hk⟩
  ·exact (q3 g k hk).2
  ·have := t1.lt g i hk; have := hfr.size; omega
 ·obtain ⟨z1, z2⟩ := t1.old g hg
  have hno : ¬ ow g := fun hx => by obtain ⟨i, _, hi⟩ := hpk g hx; rw [z1] at hi; cases hi
  have : σ' g = none := by
   cases hk : σ' g with
   | none => rfl
   | some k => exact absurd (hold' g (by have := t1.fr.size; omega) k hk) hno
  simp only [σr, this, if_neg hno, z1]
 ·by_cases hil : i < S1.length
  ·refine (t1.holds i).kept hst (fun g hg hl => ?_) (fun s hs => ?_)
   ·have hno : ¬ ow g := fun hx => by have := hownlt g hx i hg; omega
    refine ⟨hkeep g hl hno, hσr2 g i ?_ hno hg⟩
    cases hk : σ' g with
    | none => rfl
    | some k => exact absurd (hold' g hl k hk) hno
   ·by_cases hsl : s < S1.length
    ·exact ⟨fun _ _ h => h, rfl, _, t1.holds s, fun g hg hl => hkeep g hl (fun hx => by have := hownlt g hx s hg; omega)⟩
    ·have hd : S1.at s = .dead := Classical.byContradiction fun hx => hsl (at_lt hx)
     exact ⟨fun _ _ h => h, rfl, fun _ => False, by rw [hd]; trivial, fun _ h => h.elim⟩
  ·have hd : S1.at i = .dead := Classical.byContradiction fun hx => hil (at_lt hx)
   rw [hd]
   trivial
theorem lend_place (h : RelS σ w0 W0 Z H S a w) {T : TypeId} {x : Operand} {av : AV} {b : TV} {s : Nat} {p : Path} {cs : List Value} (ho : S.opv Θ T x = some av) (hl : lplace x av = some (s, p)) (e : S.takeA x av = some (b, S1)) (hk : b.m.isK = false) (hm : matchV b.t (a.eval x) cs) :
  (p = [] ∧ s < S.length ∧ matchV b.t (tmOf a s) cs) ∨ ∃ r ex cs0, p ≠ [] ∧ S1.at s = .v r (ex ++ [p]) ∧ matchV r.t (tmOf a s) cs0 ∧ cellsAt w p r.t cs0 = some cs ∧ valid p r.t r.x ∧ getP p r.t r.m r.x = some b ∧ ∀ q ∈ ex, clash q p = false := by
 have hh := opv_holds h ho
 cases av with
 | v a0 ex =>
  cases x with
  | tmp i =>
   simp only [lplace, Option.some.injEq, Prod.mk.injEq] at hl
   obtain ⟨rfl, rfl⟩ := hl
   exact .inl ⟨rfl, at_lt (by simp only [St.opv, Option.some.injEq] at ho; rw [ho]; exact fun e => by cases e), hm⟩
  | const c => simp [lplace] at hl
  | func f => simp [lplace] at hl
  | global g => simp [lplace] at hl
 | al t s' p' =>
  simp only [lplace, Option.some.injEq, Prod.mk.injEq] at hl
  obtain ⟨rfl, rfl⟩ := hl
  obtain ⟨r, cs0, cs1, hr, hc, hm1⟩ := hh
  simp only [St.takeA] at e
  split at e
  case h_2 => cases e
  rename_i b' hb
  cases hk' : b'.m.isK with
  | true =>
   rw [hk'] at e
   simp only [cond_true, Option.some.injEq, Prod.mk.injEq] at e
   obtain ⟨rfl, rfl⟩ := e
   rw [hk] at hk'; cases hk'
  | false =>
   rw [hk'] at e
   simp only [cond_false] at e
   have hpr := place_read h hr hc hb
   obtain ⟨hbt, _⟩ := hpr
   cases hp : p' with
   | nil =>
    subst hp
    simp only [Option.some.injEq, Prod.mk.injEq] at e
    obtain ⟨rfl, rfl⟩ := e
    simp only [cellsAt, Option.some.injEq] at hc
    subst hc
    obtain ⟨b2, g1, g2⟩ := hr.get
    simp only [getP, Option.some.injEq] at g1
    subst g1
    have hrt : r.t = b'.t := by rw [hbt]; exact g2
    refine .inl ⟨rfl, at_lt (by obtain ⟨ex0, hs0, _⟩ := hr.at_; rw [hs0]; exact fun e => by cases e), ?_⟩
    rw [hbt] at hm ⊢
    obtain rfl := matchV_inj hm hm1
    have := hr.mat
    rw [hrt, hbt] at this
    exact this
   | cons stp pp =>
    rw [hp] at e
    obtain ⟨ex, b2, cs', ow0, j1, j2, j3, j4, hM, j5, j6, j7⟩ := ref_focus h hr
    rw [j1] at e
    simp only [Option.some.injEq, Prod.mk.injEq] at e
    rw [← hp] at e
    obtain ⟨rfl, rfl⟩ := e
    obtain ⟨r3, ex3, q1, q2, q3⟩ := place_glance hb
    rw [j1] at q1
    injection q1 with q1 q1'
    subst q1 q1'
    rw [j3] at q3
    injection q3 with q3
    subst q3
    rw [hbt] at hm
    obtain rfl := matchV_inj hm hm1
    have hlen : ((S.weaken s').cover s' p').length = S.length := by simp [St.weaken, St.cover]
    have hsl : s' < S.length := at_lt (by rw [j1]; exact fun e => by cases e)
    have hatS : St.at (((S.weaken s').cover s' p').set s' (.v r (ex ++ [p']))) s' = .v r (ex ++ [p']) := by rw [at_set, if_pos ⟨rfl, by rw [hlen]; exact hsl⟩]
    exact .inr ⟨r, ex, cs0, by simp, by rw [← hp]; exact hatS, hr.mat, by rw [← hp]; exact hc, by rw [← hp]; exact hr.val, by rw [← hp]; exact j3, by rw [← hp]; exact q2⟩
 | _ => simp [lplace] at hl
theorem refill_hole {b : TV} {s : Nat} {p : Path} {r : TV} {ex : List Path} {cs0 cs : List Value} {ow2 : Nat → Prop} {b0 : TV} {m : Md} {z : r.t.I} (h : RelS σ w0 W0 Z H S a w) (hown : ∀ g, ow2 g → ∃ i, S.length ≤ i ∧ σ g = some i)
  (hat : S.at s = .v r (ex ++ [p])) (hmat : matchV r.t (tmOf a s) cs0) (hc : cellsAt w p r.t cs0 = some cs) (hval : valid p r.t r.x) (hget : getP p r.t r.m r.x = some b0) (hcl : ∀ q ∈ ex, clash q p = false)
  (hset : setP b p r.t r.m r.x = some (m, z)) (hM : M w (Av σ Z) H b.t b.m b.x cs ow2 []) : ∃ σ2, RelS σ2 w0 W0 Z H (S.put (some s) (.v ⟨r.t, m, z⟩ ex)) a w ∧ (∀ g i, S.length ≤ i → ¬ ow2 g → σ g = some i → σ2 g = some i) ∧ ∀ g i, σ2 g = some i → ow2 g ∨ σ g = some i := by
 have hh := h.holds s
 rw [hat] at hh
 obtain ⟨cs0', hm0, hM0⟩ := hh
 obtain rfl := matchV_inj hmat hm0
 have hopen : open_ p (ex ++ [p]) := by
  intro q hq s' r' e
  rcases List.mem_append.1 hq with hq | hq
  ·exact open_of_clash hcl q hq s' r' e
  ·rw [List.mem_singleton.1 hq] at e
   have := congrArg List.length e
   simp at this
 obtain ⟨cs', ow', c1, c2, c3, hback⟩ := focusW p hM0 hopen hval hget
 rw [hc] at c1
 injection c1 with c1
 subst c1
 have hty : b.t = b0.t := setP_ty p hset hget
 obtain ⟨hloc, hback⟩ := hback b (m, z) hty hset
 have hlen : cs.length = b.t.size := (M_ok _ hM).1
 let σ2 : Nat → Option Nat := fun g' => open Classical in if ow2 g' then some s else σ g'
 have hσ2 : ∀ g' i, σ2 g' = some i → (ow2 g' ∧ i = s) ∨ (¬ ow2 g' ∧ σ g' = some i) := fun g' i hg' => by
  simp only [σ2] at hg'
  split at hg'
  ·injection hg' with hg'; exact .inl ⟨by assumption, hg'.symm⟩
  ·exact .inr ⟨by assumption, hg'⟩
 have hσ2' : ∀ g' i, ¬ ow2 g' → σ g' = some i → σ2 g' = some i := fun g' i hn hg' => by simp only [σ2, if_neg hn, hg']
 have hsl : s < S.length := at_lt (by rw [hat]; exact fun e => by cases e)
 have hAv2 : ∀ g', Av σ2 Z g' → Av σ Z g' := fun g' hg' => by
  rcases hg' with ⟨i, hg'⟩ | hg'
  ·rcases hσ2 g' i hg' with ⟨hx, _⟩ | ⟨_, hx⟩
   ·obtain ⟨j, _, hj⟩ := hown g' hx
    exact .inl ⟨j, hj⟩
   ·exact .inl ⟨i, hx⟩
  ·exact .inr hg'
 have hno : ∀ g i, i < S.length → σ g = some i → ¬ ow2 g := fun g i hi hg hx => by
  obtain ⟨j, hj, hj2⟩ := hown g hx
  rw [hg] at hj2
  injection hj2 with hj2
  omega
 have hst : Stays w w (Av σ Z) (Av σ2 Z) := ⟨fun _ _ _ => rfl, fun g _ hg => hAv2 g hg⟩
 have hl0 : cs0.length = r.t.size := (M_ok _ hM0).1
 have hres := hback w (Av σ2 Z) cs ow2 ex hst (by rw [hlen, hty]) (fun g hg1 hg2 _ => by
   unfold BlkUpd
   split
   ·rename_i q hq
    split
    ·rename_i hgq
     obtain ⟨_, _, cur, T, hw, hb, hcs⟩ := hloc q.1 q.2 hq
     subst hgq
     refine ⟨cur, T, hw, ?_⟩
     rw [hcs, putCells_same _ _ _ (by simpa using hb)]
     simpa using hw
    ·rfl
   ·rfl) (M_move hst _ (fun _ _ _ => rfl) (fun g hg _ => hg) (fun _ hx => by cases hx) hM) (fun g hg1 _ hg2 => absurd hg1 (hno g s hsl hg2)) (fun q hq1 hq2 => by
   rcases List.mem_append.1 hq2 with hq2 | hq2
   ·exact hq2
   ·exact absurd (by rw [List.mem_singleton.1 hq2]; simp) (hq1 []))
 have hupd : updC p r.t cs0 cs = cs0 := by
  cases hp : memless p with
  | false => exact memful_upd p hp
  | true =>
   have h1 := memless_cells (w := w) p hp hget hl0
   rw [hc] at h1
   injection h1 with h1
   rw [memless_upd p hp hget hl0 (by rw [hlen, hty]), h1]
   exact putCells_same _ _ _ (by rw [hl0]; exact memless_fit p hp hget)
 rw [hupd] at hres
 refine ⟨σ2, ?_, fun g i _ hn hg => hσ2' g i hn hg, fun g i hg => (hσ2 g i hg).imp (·.1) (·.2)⟩
 have := h.put (dst := some s) (av := .v ⟨r.t, m, z⟩ ex) (v := tmOf a s) hst h.fr (fun g i hg => ?_) (fun g hg => ?_) (fun i g hi hd hg => ⟨rfl, hσ2' g i (hno g i hi hg) hg⟩) (fun d hd hdl _ => ?_)
 ·rw [put_same] at this
  exact this
 ·rcases hσ2 g i hg with ⟨hx, _⟩ | ⟨_, hx⟩
  ·obtain ⟨j, _, hj⟩ := hown g hx
   exact ⟨h.new g j hj, h.lt g j hj⟩
  ·exact ⟨h.new g i hx, h.lt g i hx⟩
 ·have h0 := (h.old g hg).1
  simp only [σ2]
  split
  ·rename_i hx
   obtain ⟨j, _, hj⟩ := hown g hx
   rw [h0] at hj; cases hj
  ·exact h0
 ·injection hd with hd
  subst hd
  refine ⟨cs0, hmat, M_move (Stays.refl _ _) _ (fun _ _ _ => rfl) (fun g hg _ => ?_) (fun _ h => h) hres⟩
  rcases hg with ⟨k1, _⟩ | k1
  ·exact hσ2' g s (hno g s hsl k1) k1
  ·simp only [σ2, if_pos k1]
theorem refill_slot {b : TV} {s : Nat} {cs : List Value} {ow2 : Nat → Prop} (h : RelS σ w0 W0 Z H S a w) (hown : ∀ g, ow2 g → ∃ i, S.length ≤ i ∧ σ g = some i)
  (hs : s < S.length) (hmat : matchV b.t (tmOf a s) cs) (hM : M w (Av σ Z) H b.t b.m b.x cs ow2 []) : ∃ σ2, RelS σ2 w0 W0 Z H (S.put (some s) (.v b [])) a w ∧ (∀ g i, S.length ≤ i → ¬ ow2 g → σ g = some i → σ2 g = some i) ∧ ∀ g i, σ2 g = some i → ow2 g ∨ σ g = some i := by
 refine ⟨grant σ (some s) ow2, ?_, fun g i hi hn hg => by
  unfold grant
  rw [if_neg hn]
  exact release_keep (fun e => by injection e with e; omega) hg, fun g i hg => by
  unfold grant at hg
  split at hg
  ·rename_i hx; exact .inl hx
  ·exact .inr (release_some hg).1⟩
 have := h.give (dst := some s) (v := tmOf a s) (ow := ow2) (A' := Av σ Z) (fun _ _ => rfl) h.fr (fun g hg => by
  obtain ⟨i, hi, hi2⟩ := hown g hg
  exact ⟨h.lt g i hi2, .inl ⟨i, hi, hi2⟩⟩) (fun g _ hg => by
  rcases hg with hg | hg
  ·exact hg
  ·obtain ⟨i, hi, hi2⟩ := hown g hg
   exact .inl ⟨i, hi2⟩) hmat hM
 rw [put_same] at this
 exact this
theorem again_ok {S S2 : St} {s : Nat} (h0 : RelS σ w0 W0 Z H S a w) (h : RelS σ1 w0 W0 Z H S2 a w') : RelS σ1 w0 W0 Z H (S.again S2 s) a w' := by
 have hl : S2.length = S.length := by have := h0.len; have := h.len; omega
 have hlen : (S.again S2 s).length = S2.length := by
  unfold St.again
  split
  ·rw [List.length_zipWith]; omega
  ·rfl
 have hv : ∀ k r ex, S2.at k = .v r ex → (S.again S2 s).at k = .v r ex := fun k r ex he => by
  rcases again_at (s := s) hl k with hx | ⟨_, _, _, _, _, _, hx, _⟩
  ·rw [hx, he]
  ·rw [he] at hx; cases hx
 refine ⟨by rw [hlen]; exact h.len, h.defers, h.fr, h.new, h.lt, h.old, fun i => ?_⟩
 rcases again_at (s := s) hl i with hx | ⟨t, r, ex, ha, hs, ht, hb, hx⟩
 ·rw [hx]
  exact (h.holds i).kept (Stays.refl _ _) (fun g hg _ => ⟨rfl, hg⟩) (fun k _ => ⟨fun r ex he => hv k r ex he, rfl, _, h.holds k, fun _ _ _ => rfl⟩)
 ·rw [hx]
  have h1 := h0.holds i
  rw [ha] at h1
  obtain ⟨r0, cs0, cs, hr, hc, hm⟩ := h1
  have h2 := h.holds s
  rw [hs] at h2
  obtain ⟨cs2, hm2, hM2⟩ := h2
  obtain ⟨ex0, g1, g2⟩ := hr.at_
  obtain ⟨c, c1, c2⟩ := hr.get
  have e0 : r0.t = t := by
   simp only [getP, Option.some.injEq] at c1
   rw [← c1] at c2
   exact c2
  have e1 : cs0 = cs := by simpa only [cellsAt, Option.some.injEq] using hc
  have hmat := hr.mat
  rw [e0, ht] at hmat
  have e2 := matchV_inj hm2 hmat
  refine ⟨r, cs2, cs2, ⟨⟨ex, hv s r ex hs, fun q _ s r e => by cases q <;> simp at e⟩, trivial, ⟨_, rfl, ht.symm⟩, hm2⟩, rfl, ?_⟩
  rw [e2, e1]
  exact hm
theorem lend_ok (hT : tabB P hh.tab = true) (hO : OrcOK Γ P O w0 W0) (h : RelS σ w0 W0 Z H S a w) {o : Oper} {f : FuncId} {j : Nat} {as : List Operand} {ts : List TypeId} {K : St → Option Ret} {ret : Ret}
  (e : peLend hh O o f j as ts S K = some ret) : Does P f (as.map a.eval) w fun v w' => ∃ S', K S' = some ret ∧ Rel w0 W0 Z H S' (a.put o.dst v) w' := by
 unfold peLend at e
 split at e
 case h_2 => cases e
 rename_i x T hx hT'
 split at e
 case h_2 => cases e
 rename_i av hav
 split at e
 case h_2 => cases e
 rename_i s p b S1 hlp htk
 cases hcond : (!b.m.isK && lendable b.t b.m) with
 | false => rw [hcond] at e; cases e
 | true =>
 rw [hcond] at e
 simp only [cond_true] at e
 simp only [Bool.and_eq_true, Bool.not_eq_true'] at hcond
 obtain ⟨hk, hlb⟩ := hcond
 split at e
 case h_2 => cases e
 rename_i args hargs
 obtain ⟨fine, hfine⟩ : ∃ fine, fine = fines S1 as ((List.replicate as.length none).set j (some ⟨b.t, tagM b.t b.m 0, b.x⟩)) args := ⟨_, rfl⟩
 cases hls : (lendS b.t b.m || fines S1 as ((List.replicate as.length none).set j (some ⟨b.t, tagM b.t b.m 0, b.x⟩)) args) with
 | false => rw [hls] at e; cases e
 | true =>
 rw [hls] at e
 simp only [cond_true] at e
 rw [← hfine, Bool.or_eq_true] at hls
 obtain ⟨σ1, cs, ow, t1, hm, hM, t3, t2⟩ := takeA_spec h hav htk
 have hplace := lend_place h hav hlp htk hk hm
 have hjl : j < as.length := (List.getElem?_eq_some_iff.1 hx).1
 obtain ⟨r1, r2⟩ := reads_spec t1 as ts _ (by simp) hargs
 let H' : Nat → Value := fun n => cs.getD n undef
 have hH' : ∀ (j : Nat) (u : Value), cs[j]? = some u → H' (0 + j) = u := fun j u hj => by
  simp only [H', Nat.zero_add, List.getD_eq_getElem?_getD, hj, Option.getD_some]
 have hMt := M_tag (H' := H') (n := 0) b.t hlb hM hH'
 let σc : Nat → Option Nat := fun g => open Classical in if ow g then some j else none
 have hσc : ∀ g i, σc g = some i ↔ ow g ∧ j = i := fun g i => by
  simp only [σc]
  split
  ·rename_i hx; exact ⟨fun hg => ⟨hx, by injection hg⟩, fun hg => by rw [hg.2]⟩
  ·rename_i hx; exact ⟨fun hg => (by cases hg), fun hg => absurd hg.1 hx⟩
 have hOwn : ∀ g, Own σc g ↔ ow g := fun g => ⟨fun ⟨i, hi⟩ => ((hσc g i).1 hi).1, fun hg => ⟨j, (hσc g _).2 ⟨hg, rfl⟩⟩⟩
 have hpk : ∀ g, ow g → Pk σ1 S1.length g := fun g hg => by rw [t2]; exact t3.now g hg
 let B : Nat → Prop := fun g => fine = true ∧ Av σ Z g ∧ ¬ ow g
 have hstT : Stays w w (Av σ Z) (Av σc B) := ⟨fun _ _ _ => rfl, fun g _ hg => by
  rcases hg with hg | hg
  ·obtain ⟨i, _, hi⟩ := t3.was g ((hOwn g).1 hg)
   exact .inl ⟨i, hi⟩
  ·exact hg.2.1⟩
 have hstF : Stays w w (Av σ1 Z) (Av σc B) := ⟨fun _ _ _ => rfl, fun g hl hg => t3.Av.2 (hstT.wr g hl hg)⟩
 have hstP : fine = false → Stays w w (Pk σ1 S1.length) (Av σc B) := fun hn => ⟨fun _ _ _ => rfl, fun g _ hg => by
  rcases hg with hg | hg
  ·exact hpk g ((hOwn g).1 hg)
  ·have h1 := hg.1; rw [hn] at h1; cases h1⟩
 have r3 := fun hf : fine = true => reads_fine t1 as ts _ (by simp) hargs (hfine.symm.trans hf)
 have hin : In Γ B H' w σc args (as.map a.eval) := by
  refine ⟨by simp [r1], fun g i hg => ?_, fun g hg => ⟨?_, ?_⟩, fun g o hg => ⟨?_, ?_⟩, fun k r hk' => ?_⟩
  ·obtain ⟨q1, q2⟩ := (hσc g i).1 hg
   obtain ⟨k, _, hk⟩ := t3.was g q1
   exact ⟨by omega, h.lt g k hk⟩
  ·cases hc : σc g with
   | none => rfl
   | some i => exact absurd ((hσc g i).1 hc).1 hg.2.2
  ·rcases hg.2.1 with ⟨i, hi⟩ | hz
   ·exact h.lt g i hi
   ·have := (h.old g hz).2; have := h.fr.size; omega
  ·cases hc : σc g with
   | none => rfl
   | some i =>
    obtain ⟨k, _, hk⟩ := t3.was g ((hσc g i).1 hc).1
    obtain ⟨e1, e2⟩ := hO.env g o hg
    rcases h.new g k hk with hx | hx
    ·have := lt_of_some e2; omega
    ·exact absurd hx e1
  ·obtain ⟨e1, e2⟩ := hO.env g o hg
   rw [h.fr.block g (lt_of_some e2) e1, e2]
  ·rw [List.getElem?_map]
   rcases r2 k r hk' with ⟨b', hb', rfl⟩ | ⟨x', hx', hok⟩
   ·rw [List.getElem?_set] at hb'
    split at hb'
    ·rename_i hjk
     subst hjk
     simp only [List.length_replicate, if_pos hjl, Option.some.injEq] at hb'
     subst hb'
     rw [hx]
     exact ⟨_, rfl, cs, hm, M_move hstT _ (fun _ _ _ => rfl) (fun g hg _ => (hσc g j).2 ⟨hg, rfl⟩) (fun _ h => h) hMt⟩
    ·rw [List.getElem?_replicate] at hb'
     split at hb' <;> simp at hb'
   ·have fin : ∀ {A0 : Nat → Prop}, Stays w w A0 (Av σc B) → ArgOK w A0 H' r (a.eval x') (fun _ => False) → ArgOK w (Av σc B) H' r (a.eval x') (fun g => σc g = some k) := fun hst hok => by
     cases r with
     | tv b =>
      obtain ⟨c, c1, c2⟩ := hok
      exact ⟨c, c1, M_move hst _ (fun _ _ _ => rfl) (fun _ hg _ => hg.elim) (fun _ h => h) c2⟩
     | fn f' caps =>
      obtain ⟨vs, c1, c2, c3⟩ := hok
      exact ⟨vs, c1, c2, fun k c hk => by obtain ⟨u, u1, u2⟩ := c3 k c hk; exact ⟨u, u1, K_stays hst _ u2⟩⟩
    cases hfn : fine with
    | false =>
     rw [hx']
     exact ⟨_, rfl, fin (hstP hfn) (hok H')⟩
    | true =>
     rcases r3 hfn k r hk' with ⟨b', hb', rfl⟩ | ⟨x2, hx2, hok'⟩
     ·rw [List.getElem?_set] at hb'
      split at hb'
      ·rename_i hjk
       subst hjk
       simp only [List.length_replicate, if_pos hjl, Option.some.injEq] at hb'
       subst hb'
       rw [hx]
       exact ⟨_, rfl, cs, hm, M_move hstT _ (fun _ _ _ => rfl) (fun g hg _ => (hσc g j).2 ⟨hg, rfl⟩) (fun _ h => h) hMt⟩
      ·rw [List.getElem?_replicate] at hb'
       split at hb' <;> simp at hb'
     ·rw [hx'] at hx2
      injection hx2 with hx2
      subst hx2
      rw [hx']
      exact ⟨_, rfl, fin hstF (hok' H')⟩
 refine ((hO.sd f).1 _ _ ret w σc _ H' B e hin).mono fun v w' hv => ?_
 obtain ⟨rt, hrt, hout⟩ := hv
 split at hrt
 case h_2 => cases hrt
 rename_i c hrefs
 rw [← hfine] at hrt
 cases hall : rt.res.all (fun d => bareM d.m && (solid d.t d.m || fine)) with
 | false => rw [hall] at hrt; cases hrt
 | true =>
 rw [hall] at hrt
 simp only [cond_true] at hrt
 split at hrt
 case isFalse => cases hrt
 rename_i hct
 split at hrt
 case isFalse => cases hrt
 rename_i hcm
 split at hrt
 case h_2 => cases hrt
 rename_i S2 hS2
 obtain ⟨σ', vs, q1, q2, q3, q4, q5⟩ := hout.res
 obtain ⟨cs', hMc⟩ := q5 c hrefs
 obtain ⟨σr, hR, hσr1, hst, hσr2, hsame, hσr3⟩ := after_call t1 hpk hOwn hout.fr q3
 -- what comes back
 obtain ⟨ct, cm, cx⟩ := c
 simp only at hct hcm hMc hS2
 subst hct
 subst hcm
 have hst2 : Stays w w' (Av σ Z) (Av σr Z) := ⟨fun g hn hl => hst.same g (fun hx => hn (t3.Av.1 hx)) hl, fun g hl hg => t3.Av.1 (hst.wr g hl hg)⟩
 have hkey : lendS b.t b.m = true ∨ Stays w' w' (Av σ' B) (Av σr Z) := hls.imp id fun hfn => ⟨fun _ _ _ => rfl, fun g _ hg => by
  rcases hg with ⟨i, hi⟩ | hz
  ·rcases hσr3 g i hi with ⟨k, hk⟩ | ⟨hno, hk⟩
   ·exact .inl ⟨k, hk⟩
   ·exact .inr ⟨hfn, t3.Av.1 (.inl ⟨i, hk⟩), hno⟩
  ·refine .inr ⟨hfn, .inr hz, fun hx => ?_⟩
   obtain ⟨i, _, hi⟩ := hpk g hx
   rw [(t1.old g hz).1] at hi
   cases hi⟩
 have hMb := M_untag (B := Av σ' B) (A' := Av σr Z) hst2 b.t hlb hkey hM hH' hMc
 have hown : ∀ g, σ' g = some rt.res.length → ∃ i, S1.length ≤ i ∧ σr g = some i := fun g hg => ⟨_, by omega, hσr1 g _ hg⟩
 have hR2 : ∃ σ2, RelS σ2 w0 W0 Z H S2 a w' ∧ (∀ g i, S1.length ≤ i → ¬ σ' g = some rt.res.length → σr g = some i → σ2 g = some i) ∧ ∀ g i, σ2 g = some i → σ' g = some rt.res.length ∨ σr g = some i := by
  rcases hplace with ⟨rfl, hsl0, hmt⟩ | ⟨r, ex, cs0, hp, hat, hmt, hcl, hval, hget, hclash⟩
  ·simp only [St.refill, Option.some.injEq] at hS2
   subst hS2
   exact refill_slot (b := ⟨b.t, b.m, _⟩) hR hown (by rw [t2]; exact hsl0) hmt hMb
  ·cases p with
   | nil => exact absurd rfl hp
   | cons stp pp =>
   simp only [St.refill, hat] at hS2
   split at hS2
   case h_2 => cases hS2
   rename_i m z hset
   simp only [Option.some.injEq, List.dropLast_concat] at hS2
   subst hS2
   have hh0 := t1.holds s
   rw [hat] at hh0
   obtain ⟨cs0', hm0, hM0⟩ := hh0
   obtain rfl := matchV_inj hmt hm0
   have hopen : open_ (stp :: pp) (ex ++ [stp :: pp]) := by
    intro q hq s' r' e
    rcases List.mem_append.1 hq with hq | hq
    ·exact open_of_clash hclash q hq s' r' e
    ·rw [List.mem_singleton.1 hq] at e
     have := congrArg List.length e
     simp at this
   have hsl : s < S1.length := at_lt (by rw [hat]; exact fun e => by cases e)
   have hcl' := (cells_same hst (stp :: pp) none hM0 (fun g hg _ => hsame g s hsl hg) hopen hval).1
   exact refill_hole (b := ⟨b.t, b.m, _⟩) hR hown hat hmt (hcl'.trans hcl) hval hget hclash hset hMb
 refine ⟨_, hrt, ?_⟩
 obtain ⟨σ3, hR3, hR4, hR5⟩ := hR2
 replace hR3 := again_ok (s := s) h hR3
 revert hR3
 generalize St.again S S2 s = S2
 intro hR3
 have hlen2 : S2.length = S1.length := by have := hR3.len; have := t1.len; omega
 obtain ⟨n, hn⟩ : ∃ n, n = rt.res.length := ⟨_, rfl⟩
 have hpar : ∀ g k, k < n → σ' g = some k → σ3 g = some (S1.length + k) := fun g k hk hg => hR4 g _ (by omega) (fun e => by rw [hg] at e; injection e with e; omega) (hσr1 g k hg)
 refine ⟨_, hR3.give0 (ow := fun g => ∃ k, k < n ∧ σ' g = some k) (Nat.le_refl _) (fun _ _ _ => rfl) hR3.fr (fun g ⟨k, hk1, hk⟩ => ⟨(q3 g k hk).2, .inl ⟨S1.length + k, by omega, hpar g k hk1 hk⟩⟩) fun d _ g1 g2 => ?_⟩
 have hkey3 : fine = true → Stays w' w' (Av σ' B) (Av (grant σ3 o.dst fun g => ∃ k, k < n ∧ σ' g = some k) Z) := fun hfn => ⟨fun _ _ _ => rfl, fun g _ hg => by
  rcases g2 g hg with (⟨i, hi⟩ | hz) | ⟨k, _, hk⟩
  ·rcases hR5 g i hi with hk | hi
   ·exact .inl ⟨_, hk⟩
   ·rcases hσr3 g i hi with ⟨k, hk⟩ | ⟨hno, hk⟩
    ·exact .inl ⟨k, hk⟩
    ·exact .inr ⟨hfn, t3.Av.1 (.inl ⟨i, hk⟩), hno⟩
  ·refine .inr ⟨hfn, .inr hz, fun hx => ?_⟩
   obtain ⟨i, _, hi⟩ := hpk g hx
   rw [(t1.old g hz).1] at hi
   cases hi
  ·exact .inl ⟨k, hk⟩⟩
 have hres : ∀ (i : Nat) (b : TV), rt.res[i]? = some b → ∃ u cs, vs[i]? = some u ∧ matchV b.t u cs ∧ M w' (Av (grant σ3 o.dst fun g => ∃ k, k < n ∧ σ' g = some k) Z) H b.t b.m b.x cs (fun g => i < n ∧ σ' g = some i) [] := fun i b hb => by
  obtain ⟨u, c, u1, u2, u3⟩ := q4 i b hb
  have hil : i < n := by rw [hn]; exact (List.getElem?_eq_some_iff.1 hb).1
  have hsb := List.all_eq_true.1 hall b (List.mem_of_getElem? hb)
  simp only [Bool.and_eq_true, Bool.or_eq_true] at hsb
  refine ⟨u, c, u1, u2, ?_⟩
  rcases hsb.2 with hs | hfn
  ·exact M_move (Stays.refl _ _) _ (fun _ _ _ => rfl) (fun g hg _ => ⟨hil, hg⟩) (fun _ h => h) (M_bare _ hsb.1 (M_solid _ hs u3))
  ·exact M_move (hkey3 hfn) _ (fun _ _ _ => rfl) (fun g hg _ => ⟨hil, hg⟩) (fun _ h => h) (M_bare _ hsb.1 u3)
 have htup : ∀ l : List TV, l = rt.res → Holds w' (Av (grant σ3 o.dst fun g => ∃ k, k < n ∧ σ' g = some k) Z) H (tmOf (a.put o.dst v)) (S2.put o.dst (.tup (l.map some))) (fun g => grant σ3 o.dst (fun g => ∃ k, k < n ∧ σ' g = some k) g = some d) (.tup (l.map some)) (.tuple vs.toArray) := fun l hl => by
  subst hl
  refine ⟨vs, fun g => (σ' g).getD 0, rfl, by simp [q2], fun j b hj => ?_⟩
  rw [List.getElem?_map] at hj
  cases hb : rt.res[j]? with
  | none => rw [hb] at hj; cases hj
  | some b' =>
   rw [hb] at hj
   simp only [Option.map_some, Option.some.injEq] at hj
   subst hj
   obtain ⟨u, c, u1, u2, u3⟩ := hres j b' hb
   exact ⟨u, c, u1, u2, M_move (Stays.refl _ _) _ (fun _ _ _ => rfl) (fun g hg _ => ⟨g1 g ⟨j, hg⟩, by show (σ' g).getD 0 = j; rw [hg.2]; rfl⟩) (fun _ h => h) u3⟩
 subst q1
 match hres' : rt.res, q2 with
 | [b], q2 =>
  match vs, q2 with
  | [u], _ =>
   obtain ⟨u', c, u1, u2, u3⟩ := hres 0 b (by rw [hres']; rfl)
   simp only [List.getElem?_cons_zero, Option.some.injEq] at u1
   subst u1
   exact ⟨c, u2, M_move (Stays.refl _ _) _ (fun _ _ _ => rfl) (fun g hg _ => g1 g ⟨0, hg⟩) (fun _ h => h) u3⟩
 | [], q2 =>
  match vs, q2 with
  | [], _ => exact htup [] hres'.symm
 | b :: b' :: r, q2 =>
  match vs, q2 with
  | u :: u' :: vr, _ => exact htup (b :: b' :: r) hres'.symm
end Go.Pv
namespace Go.Pv
set_option linter.unusedVariables false
set_option linter.unusedSimpArgs false
variable {P : Program} {w w' : World} {A A' Wr : Nat → Prop} {H : Nat → Value} {tm tm' : Nat → Value} {S S' S1 : St} {σ σ1 σ2 : Nat → Option Nat} {w0 : World} {W0 Z : Nat → Prop} {a : Act} {own : Nat → Prop} {v : Value} {Θ : Tab} {dst : Option Nat}
theorem RelS.drop (h : RelS σ w0 W0 Z H S a w) (ow : Nat → Prop) (how : ∀ g, ow g → ∀ i, σ g = some i → S.length ≤ i) :
  ∃ σ2, RelS σ2 w0 W0 Z H S a w ∧ (∀ g, Av σ2 Z g → Av σ Z g ∧ ¬ ow g ∨ Z g) := by
 let σ2 : Nat → Option Nat := fun g => open Classical in if ow g then none else σ g
 have h2 : ∀ g i, σ2 g = some i → ¬ ow g ∧ σ g = some i := fun g i hg => by
  simp only [σ2] at hg
  split at hg
  ·cases hg
  ·exact ⟨by assumption, hg⟩
 have h3 : ∀ g i, ¬ ow g → σ g = some i → σ2 g = some i := fun g i hn hg => by simp only [σ2, if_neg hn, hg]
 have hst : Stays w w (Av σ Z) (Av σ2 Z) := ⟨fun _ _ _ => rfl, fun g _ hg => by
  rcases hg with ⟨i, hi⟩ | hz
  ·exact .inl ⟨i, (h2 g i hi).2⟩
  ·exact .inr hz⟩
 refine ⟨σ2, ⟨h.len, h.defers, h.fr, fun g i hg => h.new g i (h2 g i hg).2, fun g i hg => h.lt g i (h2 g i hg).2, fun g hg => ⟨?_, (h.old g hg).2⟩, fun i => ?_⟩, fun g hg => ?_⟩
 ·simp only [σ2]
  split
  ·rfl
  ·exact (h.old g hg).1
 ·by_cases hil : i < S.length
  ·refine (h.holds i).kept hst (fun g hg _ => ⟨rfl, h3 g i (fun hx => ?_) hg⟩) (fun s hs => ⟨fun _ _ h => h, rfl, _, h.holds s, fun _ _ _ => rfl⟩)
   have := how g hx i hg
   omega
  ·have hd : S.at i = .dead := Classical.byContradiction fun hx => hil (at_lt hx)
   rw [hd]; trivial
 ·rcases hg with ⟨i, hi⟩ | hz
  ·exact .inl ⟨.inl ⟨i, (h2 g i hi).2⟩, (h2 g i hi).1⟩
  ·exact .inr hz
theorem valid_noIdx : ∀ (p : Path) {t : Ty} {m : Md} {x : t.I} {b : TV}, noIdx p = true → getP p t m x = some b → valid p t x
 | [], _, _, _, _, _, _ => trivial
 | .idx _ :: _, _, _, _, _, h, _ => by simp [noIdx] at h
 | .deref :: p, t, m, x, b, h, e => by
  cases t <;> simp only [getP] at e <;> first | cases e | exact valid_noIdx p h e
 | .fst :: p, t, m, x, b, h, e => by
  cases t <;> simp only [getP] at e <;> first | cases e | exact valid_noIdx p h e
 | .snd :: p, t, m, x, b, h, e => by
  cases t <;> simp only [getP] at e <;> first | cases e | exact valid_noIdx p h e
theorem RelS.freeze (h : RelS σ w0 W0 Z H S a w) {d : Nat} {r : TV} (hat : S.at d = .v r []) : Rel w0 W0 Z H (S.put (some d) (.v (kTV r) [])) a w := by
 have hh := h.holds d
 rw [hat] at hh
 obtain ⟨cs, hm, hM⟩ := hh
 have h0 : ∀ g, σ g = some d → ¬ Av (release σ (some d)) Z g := fun g hg hx => by
  rcases hx with ⟨i, hi⟩ | hz
  ·obtain ⟨h1, h2⟩ := release_some hi
   rw [hg] at h1
   exact h2 h1
  ·rw [(h.old g hz).1] at hg; cases hg
 have hst : Stays w w (Av σ Z) (Av (release σ (some d)) Z) := ⟨fun _ _ _ => rfl, fun g _ hg => Av_release hg⟩
 refine ⟨release σ (some d), ?_⟩
 have := h.put (dst := some d) (av := .v (kTV r) []) (v := tmOf a d) hst h.fr (fun g i hg => ⟨h.new g i (release_some hg).1, h.lt g i (release_some hg).1⟩) (fun g hg => by
  unfold release
  split
  ·rfl
  ·exact (h.old g hg).1) (fun i g _ hd hg => ⟨rfl, release_keep hd hg⟩) (fun d' hd' _ _ => by
  injection hd' with hd'
  subst hd'
  refine ⟨cs, hm, K_M (t := r.t) rfl (M_K (fun g _ hx => Av_release hx) r.t rfl h0 hM)⟩)
 rw [put_same] at this
 exact this
theorem rel_ownAt (h : Rel w0 W0 Z H S a w) {d : Nat} (e : ownAt S d = some (true, S')) : Rel w0 W0 Z H S' a w := by
 obtain ⟨σ, h⟩ := h
 unfold ownAt at e
 split at e
 case h_2 => cases e
 rename_i t s st pp hat
 split at e
 case h_2 => cases e
 rename_i r ex hs
 split at e
 case h_2 => cases e
 rename_i b hget
 cases hk : b.m.isK with
 | true => rw [hk] at e; cases e
 | false =>
 rw [hk] at e
 simp only [cond_false, Option.some.injEq, Prod.mk.injEq] at e
 obtain ⟨hcl, rfl⟩ := e
 have hal := h.holds d
 rw [hat] at hal
 obtain ⟨σ1, cs2, ow, t1, hm, hM, hk1, hn⟩ := takeC_spec0 (vv := tmOf a d) h (by simp) hal hs hget hk (fun q hq => by simpa using List.all_eq_true.1 hcl q hq)
 have := t1.give (dst := some d) (v := tmOf a d) (ow := ow) (A' := Av σ1 Z) (fun _ _ => rfl) t1.fr (fun g hg => by
  obtain ⟨i, hi, hi2⟩ := hk1.now g hg
  exact ⟨t1.lt g i hi2, .inl ⟨i, by omega, hi2⟩⟩) (fun g _ hg => by
  rcases hg with hg | hg
  ·exact hg
  ·obtain ⟨i, hi, hi2⟩ := hk1.now g hg
   exact .inl ⟨i, hi2⟩) hm hM
 rw [put_same] at this
 exact ⟨_, this⟩
theorem rel_frz1 (h : Rel w0 W0 Z H S a w) (q : Nat × Path) : Rel w0 W0 Z H (S.frz1 q) a w := by
 obtain ⟨σ, h⟩ := h
 obtain ⟨s, p⟩ := q
 unfold St.frz1
 simp only
 split
 case h_2 => exact ⟨σ, h⟩
 rename_i r hat
 split
 case h_2 => exact ⟨σ, h⟩
 rename_i b hget
 cases hc : (b.m.isK || !noIdx p) with
 | true => exact ⟨σ, h⟩
 | false =>
 simp only [cond_false]
 simp only [Bool.or_eq_false_iff, Bool.not_eq_false'] at hc
 obtain ⟨hk, hni⟩ := hc
 split
 ·exact h.freeze hat
 rename_i hp
 split
 case h_2 => exact ⟨σ, h⟩
 rename_i m z hset
 have hh := h.holds s
 rw [hat] at hh
 obtain ⟨cs0, hmat, hM0⟩ := hh
 have hval := valid_noIdx p hni hget
 have hopen : open_ p [] := fun _ hq => by cases hq
 obtain ⟨cs, ow', k1, k2, k3⟩ := focus p hM0 hopen hval hget
 have hal : ∃ t vv, Holds w (Av σ Z) H (tmOf a) S (fun _ => False) (.al t s p) vv ∧ t = b.t ∧ matchV t vv cs := by
  obtain ⟨vv, hvv⟩ : ∃ vv, matchV b.t vv cs := by
   unfold matchV
   cases hg : isAgg b.t with
   | true => exact ⟨_, by rw [if_pos rfl]⟩
   | false =>
    have hl := (M_ok _ k3).1
    have h1 := size_one0 hg
    rw [h1] at hl
    obtain ⟨u, rfl⟩ := List.length_eq_one_iff.1 hl
    exact ⟨u, by simp⟩
  exact ⟨b.t, vv, ⟨r, cs0, cs, ⟨⟨[], hat, hopen⟩, hval, ⟨b, hget, rfl⟩, hmat⟩, k1, hvv⟩, rfl, hvv⟩
 obtain ⟨t, vv, hal, rfl, hvv⟩ := hal
 obtain ⟨σ1, cs2, ow, t1, hm, hM, hk1, hn⟩ := takeC_spec0 (vv := vv) h hp hal hat hget hk (fun _ hq => by cases hq)
 obtain rfl := matchV_inj hvv hm
 obtain ⟨σ2, d1, d2⟩ := t1.drop ow (fun g hg i hi => by
  obtain ⟨j, hj, hj2⟩ := hk1.now g hg
  rw [hi] at hj2
  injection hj2 with hj2
  omega)
 have hK : K w (Av σ2 Z) b.t b.x cs := M_K (fun g _ hx => by
  rcases d2 g hx with hx | hx
  ·exact hx.1
  ·exact .inr hx) b.t rfl (fun g hg hx => by
  rcases d2 g hx with hx | hx
  ·exact hx.2 hg
  ·obtain ⟨j, _, hj⟩ := hk1.now g hg
   rw [(t1.old g hx).1] at hj; cases hj) hM
 have hat1 : St.at (((S.weaken s).cover s p).set s (.v r [p])) s = .v r ([] ++ [p]) := by
  rw [at_set, if_pos ⟨rfl, by simp only [St.weaken, St.cover, List.length_map]; exact at_lt (by rw [hat]; exact fun e => by cases e)⟩]
  rfl
 obtain ⟨σ3, h3, _⟩ := refill_hole (b := kTV b) (ow2 := fun _ => False) (ex := []) d1 (fun _ h => h.elim) hat1 hmat k1 hval hget (fun _ hq => by cases hq) hset (K_M (t := b.t) rfl hK)
 exact ⟨σ3, h3⟩
theorem rel_frzs : ∀ (l : List (Nat × List (Nat × Path))) {id : Nat}, Rel w0 W0 Z H S a w → Rel w0 W0 Z H (frzs l id S) a w
 | [], _, h => h
 | q :: r, id, h => by
  unfold frzs
  cases Nat.beq q.1 id with
  | true =>
   simp only [cond_true]
   generalize q.2 = l
   induction l generalizing S with
   | nil => exact h
   | cons x l ih => exact ih (rel_frz1 h x)
  | false => exact rel_frzs r h
end Go.Pv
namespace Go.Pv
set_option linter.unusedVariables false
set_option linter.unusedSimpArgs false
variable {Γ : Gl} {P : Program} {w w' : World} {A A' Wr : Nat → Prop} {H : Nat → Value} {tm tm' : Nat → Value} {S S' S1 : St} {σ σ1 σ2 : Nat → Option Nat} {w0 : World} {W0 Z : Nat → Prop} {a : Act} {own : Nat → Prop} {v : Value} {Θ : Tab} {dst : Option Nat} {O : Orc} {hh : Hint} {Q : Exit → Act → World → Prop} {K : St → Option Ret} {ret : Ret}
def Then (w0 : World) (W0 Z : Nat → Prop) (H : Nat → Value) (K : St → Option Ret) (ret : Ret) (a : Act) (w : World) : Prop := ∃ S, K S = some ret ∧ Rel w0 W0 Z H S a w
theorem op_call {o : Oper} {c : Call} {f : FuncId} {capv : List Value} (ho : o.op = .call c) (hc : ∃ x, c.callee = .value x ∧ a.eval x = .func (.func f) #[] capv.toArray) {R : Value → World → Prop} (hd : Does P f (c.args.toList.map a.eval ++ capv) w R)
  {N : Act → World → Prop} (hN : ∀ v w', R v w' → N (a.put o.dst v) w') : o.wp P a w N Q := by
 obtain ⟨x, hx, hv⟩ := hc
 have hrun : (execOp a.eval o).run P w = (callFunc f (c.args.toList.map a.eval ++ capv).toArray).run P w := by
  simp only [execOp, ho, resolve, hx, Deferred.ofValue, hv, Sem.run_bind, Sem.run_pure, Result.andThen_ok, invoke]
  congr 2
  apply Array.toList_inj.1
  simp
 unfold Oper.wp
 rw [hrun]
 rcases hd with ⟨h1, h2⟩ | ⟨v, w', h1, h2⟩
 ·rw [h1, Oper.upon_enter]
  refine h2.mono fun e w' he => ?_
  cases e with
  | returned v => exact hN _ _ he
  | panicked c => exact he.elim
  | outgrown => exact he.elim
 ·rw [h1, Oper.upon_value]
  exact hN _ _ h2
theorem adds_call {f : FuncId} {c : Call} (hc : c.callee = .value (.func f)) (h : adds O (.call c) = true) : ∀ p ∈ O.sig f, p = .val := by
 obtain ⟨callee, args, ats⟩ := c
 simp only at hc
 subst hc
 simp only [adds, List.all_eq_true] at h
 intro p hp
 have := h p hp
 cases p <;> first | rfl | cases this
theorem quiet_adds {op : Op} (h : quiet op = true) : addsE op = true := by
 unfold addsE
 split <;> first | rfl | exact h
theorem lendAt_not : ∀ (l : List Pass) (n : Nat) {j : Nat}, lendAt l n = some j → ¬ ∀ p ∈ l, p = .val
 | [], n, j, h, _ => by cases h
 | .lend :: r, n, j, h, hv => by have := hv .lend (by simp); cases this
 | .val :: r, n, j, h, hv => lendAt_not r (n + 1) (by simpa [lendAt] using h) (fun p hp => hv p (by simp [hp]))
 | .take :: r, n, j, h, hv => by have := hv .take (by simp); cases this
theorem nil_ok (hT : tabB P hh.tab = true) (h : RelS σ w0 W0 Z H S a w) {T : TypeId} {x : Operand} {eq : Bool} {dst : Option Nat} (e : peNil hh dst T eq x S K = some ret) :
  (∃ A n c, a.eval x = .slice A n c) ∧ ∃ q, (binOp (bif eq then .eql else .neq) T (a.eval x) (.slice none 0 0)).run P w = .ok (.bool q) w ∧ ∃ S', K S' = some ret ∧ Rel w0 W0 Z H S' (a.put dst (.bool q)) w := by
 unfold peNil at e
 split at e
 case h_2 => cases e
 rename_i t m xs hx
 cases hTi : hh.tab.is T (.sl t) with
 | false => rw [hTi] at e; cases e
 | true =>
 rw [hTi] at e
 simp only [cond_true] at e
 obtain ⟨cs, h1, h2, _⟩ := rd_spec h hx
 simp only [Go.Pv.K] at h2
 obtain ⟨A, c, rfl, hc, hpos⟩ := h2
 have hv : a.eval x = .slice A (List.length xs) c := by simpa [matchV, isAgg] using h1.symm
 obtain ⟨i, hi, hty⟩ := is_find hTi
 obtain ⟨_, hu, hTT⟩ := tab_ti hT hi
 obtain ⟨u1, _, _⟩ := und_sl hu hty
 rw [hTT] at u1
 have hin : ∀ d, (Op.equalIn (d + 1) T (.slice A (List.length xs) c) (.slice none 0 0)).run P w = .ok A.isNone w := fun d => by
  simp only [Op.equalIn, Sem.run_bind, run_underlying u1, Result.andThen_ok]
  cases A <;> simp
 have hrun : (Op.equal T (a.eval x) (.slice none 0 0)).run P w = .ok A.isNone w := by
  rw [hv]
  exact hin 9999
 have hq : (binOp (bif eq then .eql else .neq) T (a.eval x) (.slice none 0 0)).run P w = .ok (.bool (bif eq then A.isNone else !A.isNone)) w := by
  cases eq <;> simp [binOp, hrun]
 refine ⟨⟨A, _, c, hv⟩, _, hq, ?_⟩
 have put : ∀ q : Bool, Rel w0 W0 Z H (S.put dst (.v ⟨.bool, .k, q⟩ [])) (a.put dst (.bool q)) w := fun q => ⟨_, h.pure (holds_bool q)⟩
 cases hemp : List.isEmpty xs with
 | true =>
  rw [hemp] at e
  simp only [cond_true] at e
  obtain ⟨e1, e2⟩ := both_some e
  cases hb : (bif eq then A.isNone else !A.isNone) with
  | true => exact ⟨_, e1, put true⟩
  | false => exact ⟨_, e2, put false⟩
 | false =>
  rw [hemp] at e
  simp only [cond_false] at e
  have hp : 0 < List.length xs := by
   cases xs with
   | nil => simp at hemp
   | cons _ _ => simp
  obtain ⟨g, off, cur, T', fr, rfl, _⟩ := hpos hp
  cases eq with
  | true => exact ⟨_, e, put false⟩
  | false => exact ⟨_, e, put true⟩
theorem op_ok (hT : tabB P hh.tab = true) (hO : OrcOK Γ P O w0 W0) (h : RelS σ w0 W0 Z H S a w) {o : Oper} (e : peOp hh O o S K = some ret) :
  o.wp P a w (fun a' w' => Then w0 W0 Z H K ret a' w' ∧ (adds O o.op = true → Ext w w')) Q := by
 unfold peOp at e
 split at e
 ·rename_i f as ts ho
  split at e
  ·rename_i j hj
   have hd := lend_ok hT hO h e
   rw [← List.append_nil (as.toList.map a.eval)] at hd
   refine op_call ho (capv := []) ⟨_, rfl, by simp [Act.eval]⟩ hd ?_
   intro v w' ⟨S', h1, h2⟩
   exact ⟨⟨S', h1, h2⟩, fun hx => absurd (adds_call rfl (by rw [ho] at hx; exact hx)) (lendAt_not _ _ hj)⟩
  refine op_call ho (capv := []) ⟨_, rfl, by simp [Act.eval]⟩ (call_ok hT hO h (.inl ⟨rfl, rfl⟩) e) ?_
  intro v w' ⟨S', h1, h2, h3⟩
  exact ⟨⟨S', h1, h2⟩, fun hx => h3 (adds_call rfl (by rw [ho] at hx; exact hx))⟩
 ·rename_i i as ts ho
  split at e
  case h_2 => cases e
  rename_i f caps hat
  have hold := h.holds i
  rw [hat] at hold
  obtain ⟨vs, v1, v2, v3⟩ := hold
  refine op_call ho (capv := vs) ⟨_, rfl, v1⟩ (call_ok hT hO h (.inr ⟨i, rfl, v1⟩) e) ?_
  intro v w' ⟨S', h1, h2, h3⟩
  refine ⟨⟨S', h1, h2⟩, fun hx => ?_⟩
  rw [ho] at hx
  cases hx
 ·rename_i T x T' ho
  obtain ⟨⟨A, n, c, hv⟩, q, hq, S', hS, hR⟩ := nil_ok hT h (eq := true) e
  unfold Oper.wp
  have hr : (execOp a.eval o).run P w = .ok (.value (.bool q)) w := by
   have hq' : (binOp .eql T (a.eval x) (a.eval (.const (.slice none 0 0)))).run P w = .ok (.bool q) w := hq
   have hg : (eqGuard .eql T x (.const (.slice none 0 0)) (a.eval x) (a.eval (.const (.slice none 0 0)))).run P w = .ok () w := by
    rw [hv]
    simp [eqGuard, Act.eval]
   simp only [execOp, ho, Sem.run_bind]
   rw [hg]
   simp only [Result.andThen_ok]
   rw [hq']
   rfl
  rw [hr, Oper.upon_value]
  exact ⟨⟨S', hS, hR⟩, fun _ => Ext.refl w⟩
 ·rename_i T x T' ho
  obtain ⟨⟨A, n, c, hv⟩, q, hq, S', hS, hR⟩ := nil_ok hT h (eq := false) e
  unfold Oper.wp
  have hr : (execOp a.eval o).run P w = .ok (.value (.bool q)) w := by
   have hq' : (binOp .neq T (a.eval x) (a.eval (.const (.slice none 0 0)))).run P w = .ok (.bool q) w := hq
   have hg : (eqGuard .neq T x (.const (.slice none 0 0)) (a.eval x) (a.eval (.const (.slice none 0 0)))).run P w = .ok () w := by
    rw [hv]
    simp [eqGuard, Act.eval]
   simp only [execOp, ho, Sem.run_bind]
   rw [hg]
   simp only [Result.andThen_ok]
   rw [hq']
   rfl
  rw [hr, Oper.upon_value]
  exact ⟨⟨S', hS, hR⟩, fun _ => Ext.refl w⟩
 ·rename_i n1 n2 n3 n4
  split at e
  case h_2 => cases e
  rename_i g S1 hev
  cases g with
  | false => cases e
  | true =>
  simp only [cond_true] at e
  by_cases hadd : addsE o.op = true
  ·obtain ⟨w', v, r1, r2, r3⟩ := evx_ok hT h hadd hev
   unfold Oper.wp
   rw [r1, Oper.upon_value]
   exact ⟨⟨S1, e, r3⟩, fun _ => r2⟩
  ·obtain ⟨w', v, r1, r3⟩ := ev_ok hT h hev
   have hna : ¬ adds O o.op = true := fun hx => by
    apply hadd
    revert hx n1
    generalize o.op = op
    intro n1 hx
    unfold adds at hx
    split at hx <;> first | rfl | (exact absurd rfl (n1 _ _ _)) | exact quiet_adds hx
   unfold Oper.wp
   rcases r1 with r1 | ⟨rfl, r1⟩
   ·rw [r1, Oper.upon_value]
    exact ⟨⟨S1, e, r3⟩, fun hx => absurd hx hna⟩
   ·rw [r1, Oper.upon_skip]
    exact ⟨⟨S1, e, r3⟩, fun hx => absurd hx hna⟩
end Go.Pv
namespace Go.Pv
set_option linter.unusedVariables false
set_option linter.unusedSimpArgs false
variable {Γ : Gl} {P : Program} {w w' : World} {A A' Wr : Nat → Prop} {H : Nat → Value} {tm tm' : Nat → Value} {S S' S1 : St} {σ σ1 σ2 : Nat → Option Nat} {w0 : World} {W0 Z : Nat → Prop} {a : Act} {own : Nat → Prop} {v : Value} {Θ : Tab} {dst : Option Nat} {O : Orc} {hh : Hint} {Q : Exit → Act → World → Prop} {ret : Ret} {ops : Array Oper}
theorem RelS.less (h : RelS σ w0 W0 Z H S a w) (hl : S'.length = S.length) (hs : ∀ i, S'.at i = .dead ∨ (S'.at i = S.at i ∧ ∀ s, (S.at i).refs s = true → S'.at s = S.at s)) : RelS σ w0 W0 Z H S' a w := by
 refine ⟨by rw [hl]; exact h.len, h.defers, h.fr, h.new, h.lt, h.old, fun i => ?_⟩
 rcases hs i with hi | ⟨hi, hr⟩
 ·rw [hi]; trivial
 ·rw [hi]
  exact (h.holds i).kept (Stays.refl _ _) (fun g hg _ => ⟨rfl, hg⟩) (fun s hs => ⟨fun r ex he => by rw [hr s hs]; exact he, rfl, _, h.holds s, fun _ _ _ => rfl⟩)
theorem rel_sweep (h : Rel w0 W0 Z H S a w) : Rel w0 W0 Z H (sweep S) a w := by
 obtain ⟨σ, h⟩ := h
 have hat : ∀ i, (sweep S).at i = match S.at i with
  | .al t s [] => .al t s []
  | .al .. => .dead
  | .ad .. => .dead
  | .cut .. => .dead
  | a => a := fun i => at_map S _ rfl i
 have hv : ∀ s r ex, S.at s = .v r ex → (sweep S).at s = .v r ex := fun s r ex he => by rw [hat s, he]
 refine ⟨σ, ⟨by unfold sweep; rw [List.length_map]; exact h.len, h.defers, h.fr, h.new, h.lt, h.old, fun i => ?_⟩⟩
 have hi := (h.holds i).kept (S' := sweep S) (Stays.refl w (Av σ Z)) (fun g hg _ => ⟨rfl, hg⟩) (fun s _ => ⟨fun r ex he => hv s r ex he, rfl, _, h.holds s, fun _ _ _ => rfl⟩)
 rw [hat i]
 split <;> first | trivial | (rename_i he; rw [he] at hi; exact hi) | exact hi
theorem sweepGo_len (ks : List Nat) : ∀ (S : St) (i : Nat), (sweepGo ks i S).length = S.length
 | [], _ => rfl
 | _ :: r, i => by simp only [sweepGo, List.length_cons, sweepGo_len ks r]
theorem sweepGo_at (ks : List Nat) : ∀ (S : St) (i j : Nat), (sweepGo ks i S).at j = S.at j ∨ ((sweepGo ks i S).at j = .dead ∧ (S.at j).isV = false)
 | [], _, _ => .inl rfl
 | a :: r, i, 0 => by
  show (bif inL ks i then a else _) = a ∨ ((bif inL ks i then a else _) = AV.dead ∧ a.isV = false)
  cases inL ks i with
  | true => exact .inl rfl
  | false =>
   simp only [cond_false]
   split <;> first | exact .inl rfl | exact .inr ⟨rfl, rfl⟩
 | a :: r, i, j + 1 => sweepGo_at ks r (i + 1) j
theorem rel_sweepK (ks : List Nat) (h : Rel w0 W0 Z H S a w) : Rel w0 W0 Z H (sweepK ks S) a w := by
 cases ks with
 | nil => exact rel_sweep h
 | cons k ks =>
  obtain ⟨σ, h⟩ := h
  refine ⟨σ, h.less (sweepGo_len _ S 0) fun i => ?_⟩
  rcases sweepGo_at (k :: ks) S 0 i with hi | ⟨hi, _⟩
  ·refine .inr ⟨hi, fun s hs => ?_⟩
   rcases sweepGo_at (k :: ks) S 0 s with hj | ⟨_, hj⟩
   ·exact hj
   ·rw [refs_v (h.holds i) hs] at hj; cases hj
  ·exact .inl hi
theorem cproj_eq : ∀ (cs : List CK) (S : List Cap) {x : CVals cs}, cproj cs S = some x → cshape cs x = S
 | [], [], x, _ => rfl
 | [], _ :: _, x, e => by simp [cproj] at e
 | .kv _ :: r, [], x, e => by simp [cproj] at e
 | .pl _ _ _ :: r, [], x, e => by simp [cproj] at e
 | .kv t :: r, .pl _ _ _ :: S, x, e => by simp [cproj] at e
 | .pl _ _ _ :: r, .kv _ :: S, x, e => by simp [cproj] at e
 | .kv t :: r, .kv b :: S, x, e => by
  obtain ⟨bt, bm, bx⟩ := b
  simp only [cproj] at e
  split at e
  case isFalse => cases e
  rename_i ht
  subst ht
  split at e
  case isFalse => cases e
  rename_i hm
  subst hm
  split at e
  case h_2 => cases e
  rename_i y hy
  injection e with e
  subst e
  simp [cshape, cproj_eq r S hy]
 | .pl t s p :: r, .pl t' s' p' :: S, x, e => by
  simp only [cproj] at e
  split at e
  case isFalse => cases e
  rename_i ht
  subst ht
  cases hb : Nat.beq s' s with
  | false => rw [hb] at e; cases e
  | true =>
   rw [hb] at e
   simp only [cond_true] at e
   have := Nat.eq_of_beq_eq_true hb
   subst this
   split at e
   case isFalse => cases e
   rename_i hp
   subst hp
   simp [cshape, cproj_eq r S e]
theorem proj_at : ∀ (ks : List Kd) (S : St) {x : Vals ks}, proj ks S = some x → (shape ks x).length = S.length ∧ ∀ i, (shape ks x).at i = .dead ∨ ((shape ks x).at i = S.at i ∧ ((∃ t m y, ks[i]? = some (.v t m) ∧ S.at i = .v ⟨t, m, y⟩ []) ∨ (∃ t s, ks[i]? = some (.al t s) ∧ S.at i = .al t s []) ∨ ∃ f cs y, ks[i]? = some (.clo f cs) ∧ S.at i = .clo f (cshape cs y)))
 | [], [], x, _ => ⟨rfl, fun i => .inl rfl⟩
 | [], _ :: _, x, e => by simp [proj] at e
 | .dead :: r, [], x, e => by simp [proj] at e
 | .v _ _ :: r, [], x, e => by simp [proj] at e
 | .al _ _ :: r, [], x, e => by simp [proj] at e
 | .clo _ _ :: r, [], x, e => by simp [proj] at e
 | .clo f cs :: r, a :: S, x, e => by
  cases a with
  | clo f' caps =>
   simp only [proj] at e
   cases hb : Nat.beq f' f with
   | false => rw [hb] at e; cases e
   | true =>
    rw [hb] at e
    simp only [cond_true] at e
    have := Nat.eq_of_beq_eq_true hb
    subst this
    split at e
    case h_2 => cases e
    rename_i y z hy hz
    injection e with e
    subst e
    obtain ⟨h1, h2⟩ := proj_at r S hz
    have hc := cproj_eq cs caps hy
    refine ⟨by simp [shape, h1], fun i => ?_⟩
    cases i with
    | zero => exact .inr ⟨by simp [shape, St.at, hc], .inr (.inr ⟨_, _, y, rfl, by simp [St.at, hc]⟩)⟩
    | succ i => exact h2 i
  | _ => simp [proj] at e
 | .dead :: r, a :: S, x, e => by
  simp only [proj] at e
  obtain ⟨h1, h2⟩ := proj_at r S e
  refine ⟨by simp [shape, h1], fun i => ?_⟩
  cases i with
  | zero => exact .inl rfl
  | succ i => exact h2 i
 | .v t m :: r, a :: S, x, e => by
  cases a with
  | v b ex =>
   cases ex with
   | cons _ _ => simp [proj] at e
   | nil =>
    obtain ⟨bt, bm, bx⟩ := b
    simp only [proj] at e
    split at e
    case isFalse => cases e
    rename_i ht
    subst ht
    split at e
    case isFalse => cases e
    rename_i hm
    subst hm
    split at e
    case h_2 => cases e
    rename_i y hy
    injection e with e
    subst e
    obtain ⟨h1, h2⟩ := proj_at r S hy
    refine ⟨by simp [shape, h1], fun i => ?_⟩
    cases i with
    | zero => exact .inr ⟨rfl, .inl ⟨_, _, _, rfl, rfl⟩⟩
    | succ i => exact h2 i
  | _ => simp [proj] at e
 | .al t s :: r, a :: S, x, e => by
  cases a with
  | al t' s' p =>
   cases p with
   | cons _ _ => simp [proj] at e
   | nil =>
    simp only [proj] at e
    split at e
    case isFalse => cases e
    rename_i ht
    subst ht
    cases hb : Nat.beq s' s with
    | false => rw [hb] at e; cases e
    | true =>
     rw [hb] at e
     simp only [cond_true] at e
     have := Nat.eq_of_beq_eq_true hb
     subst this
     obtain ⟨h1, h2⟩ := proj_at r S e
     refine ⟨by simp [shape, h1], fun i => ?_⟩
     cases i with
     | zero => exact .inr ⟨rfl, .inr (.inl ⟨_, _, rfl, rfl⟩)⟩
     | succ i => exact h2 i
  | _ => simp [proj] at e
theorem proj_v : ∀ (ks : List Kd) (S : St) {x : Vals ks}, proj ks S = some x → ∀ (i : Nat) (t : Ty) (m : Md), ks[i]? = some (Kd.v t m) → (shape ks x).at i = S.at i
 | [], _, x, _, i, t, m, hi => by simp at hi
 | .dead :: r, [], x, e, _, _, _, _ => by simp [proj] at e
 | .v _ _ :: r, [], x, e, _, _, _, _ => by simp [proj] at e
 | .al _ _ :: r, [], x, e, _, _, _, _ => by simp [proj] at e
 | .clo _ _ :: r, [], x, e, _, _, _, _ => by simp [proj] at e
 | .clo f cs :: r, a :: S, x, e, i, t, m, hi => by
  cases i with
  | zero => simp at hi
  | succ i =>
   cases a with
   | clo f' caps =>
    simp only [proj] at e
    cases hb : Nat.beq f' f with
    | false => rw [hb] at e; cases e
    | true =>
     rw [hb] at e
     simp only [cond_true] at e
     split at e
     case h_2 => cases e
     rename_i y z hy hz
     injection e with e
     subst e
     exact proj_v r S hz i t m (by simpa using hi)
   | _ => simp [proj] at e
 | .dead :: r, a :: S, x, e, i, t, m, hi => by
  simp only [proj] at e
  cases i with
  | zero => simp at hi
  | succ i => exact proj_v r S e i t m (by simpa using hi)
 | .v t0 m0 :: r, a :: S, x, e, i, t, m, hi => by
  cases i with
  | zero =>
   obtain ⟨_, h2⟩ := proj_at _ _ e
   rcases h2 0 with h | h
   ·simp only [shape] at h
    cases h
   ·exact h.1
  | succ i =>
   cases a with
   | v b ex =>
    cases ex with
    | cons _ _ => simp [proj] at e
    | nil =>
     obtain ⟨bt, bm, bx⟩ := b
     simp only [proj] at e
     split at e
     case isFalse => cases e
     rename_i ht
     subst ht
     split at e
     case isFalse => cases e
     split at e
     case h_2 => cases e
     rename_i y hy
     injection e with e
     subst e
     exact proj_v r S hy i t m (by simpa using hi)
   | _ => simp [proj] at e
 | .al t0 s :: r, a :: S, x, e, i, t, m, hi => by
  cases i with
  | zero => simp at hi
  | succ i =>
   cases a with
   | al t' s' p =>
    cases p with
    | cons _ _ => simp [proj] at e
    | nil =>
     simp only [proj] at e
     split at e
     case isFalse => cases e
     cases hb : Nat.beq s' s with
     | false => rw [hb] at e; cases e
     | true =>
      rw [hb] at e
      exact proj_v r S e i t m (by simpa using hi)
   | _ => simp [proj] at e
theorem kinds_al : ∀ (all ks : List Kd), kindsOK all ks = true → ∀ (i : Nat) (t : Ty) (s : Nat), ks[i]? = some (Kd.al t s) → ∃ t' m', all[s]? = some (Kd.v t' m')
 | all, [], _, i, t, s, hi => by simp at hi
 | all, k :: r, h, i, t, s, hi => by
  cases i with
  | zero =>
   simp only [List.getElem?_cons_zero, Option.some.injEq] at hi
   subst hi
   simp only [kindsOK, Bool.and_eq_true] at h
   have := h.1
   split at this
   ·rename_i t' m' h'; exact ⟨t', m', h'⟩
   ·cases this
  | succ i =>
   refine kinds_al all r ?_ i t s (by simpa using hi)
   cases k <;> simp only [kindsOK, Bool.and_eq_true] at h <;> first | exact h | exact h.2
theorem kinds_clo : ∀ (all ks : List Kd), kindsOK all ks = true → ∀ (i : Nat) (f : FuncId) (cs : List CK), ks[i]? = some (Kd.clo f cs) → ∀ t s p, CK.pl t s p ∈ cs → ∃ t' m', all[s]? = some (Kd.v t' m')
 | all, [], _, i, f, cs, hi => by simp at hi
 | all, k :: r, h, i, f, cs, hi => by
  cases i with
  | zero =>
   simp only [List.getElem?_cons_zero, Option.some.injEq] at hi
   subst hi
   simp only [kindsOK, Bool.and_eq_true, List.all_eq_true] at h
   intro t s p hc
   have := h.1 _ hc
   simp only at this
   split at this
   ·rename_i t' m' h'; exact ⟨t', m', h'⟩
   ·cases this
  | succ i =>
   refine kinds_clo all r ?_ i f cs (by simpa using hi)
   cases k <;> simp only [kindsOK, Bool.and_eq_true] at h <;> first | exact h | exact h.2
theorem cshape_refs : ∀ (cs : List CK) (y : CVals cs) (d : Nat), ((cshape cs y).any fun c => match c with
  | .pl _ s _ => Nat.beq s d
  | .kv _ => false) = true → ∃ t p, CK.pl t d p ∈ cs
 | [], y, d, h => by simp [cshape] at h
 | .kv t :: r, y, d, h => by
  simp only [cshape, List.any_cons, Bool.false_or] at h
  obtain ⟨t', p, hm⟩ := cshape_refs r y.2 d h
  exact ⟨t', p, List.mem_cons_of_mem _ hm⟩
 | .pl t s p :: r, y, d, h => by
  simp only [cshape, List.any_cons, Bool.or_eq_true] at h
  rcases h with h | h
  ·have := Nat.eq_of_beq_eq_true h
   subst this
   exact ⟨t, p, List.mem_cons_self ..⟩
  ·obtain ⟨t', p', hm⟩ := cshape_refs r y d h
   exact ⟨t', p', List.mem_cons_of_mem _ hm⟩
theorem rel_own1 (h : Rel w0 W0 Z H S a w) (i : Nat) (k : Kd) : Rel w0 W0 Z H (own1 S i k) a w := by
 unfold own1
 split
 case h_2 => exact h
 rename_i t m
 cases hk : m.isK with
 | true => exact h
 | false =>
  simp only [cond_false]
  split
  case h_2 => exact h
  rename_i t' s hat
  split
  case h_2 => exact h
  rename_i b S1 hb
  obtain ⟨σ, h⟩ := h
  obtain ⟨σ1, cs, ow, h1, hm, hM, hkk, hn⟩ := takeA_spec (Θ := []) (T := 0) (x := .tmp i) h (by simp only [St.opv]; rw [hat]) hb
  let P0 : Program := default
  obtain ⟨v2, hr2, σ2, h3⟩ := goes_took (P := P0) (dst := some i) (n := S.length) (s := (pure (Next.value (tmOf a i)) : Sem Next)) h1 hkk hn (fun w2 _ => rfl) hm hM
  have hv2 := hr2 w (Ext.refl w)
  have e1 : Next.value (tmOf a i) = Next.value v2 := by
   have : (Result.ok (Next.value (tmOf a i)) w : Result Next) = Result.ok (Next.value v2) w := hv2
   injection this
  injection e1 with e1
  subst e1
  rw [put_same] at h3
  exact ⟨σ2, h3⟩
theorem rel_ownAll : ∀ (ks : List Kd) (i : Nat) {S : St}, Rel w0 W0 Z H S a w → Rel w0 W0 Z H (ownAll ks i S) a w
 | [], _, _, h => h
 | k :: r, i, _, h => rel_ownAll r (i + 1) (rel_own1 h i k)
theorem rel_cleanTo (h : Rel w0 W0 Z H S a w) {ks : List Kd} (e : cleanTo ks S = some S1) : Rel w0 W0 Z H S1 a w := by
 obtain ⟨σ, h⟩ := rel_ownAll ks 0 h
 unfold cleanTo at e
 cases hk : kindsOK ks ks with
 | false => rw [hk] at e; cases e
 | true =>
 rw [hk] at e
 simp only [cond_true] at e
 split at e
 case h_2 => cases e
 rename_i x hx'
 injection e with e
 subst e
 obtain ⟨h1, h2⟩ := proj_at ks _ hx'
 refine ⟨σ, h.less h1 fun i => ?_⟩
 rcases h2 i with hi | ⟨hi, hx⟩
 ·exact .inl hi
 ·refine .inr ⟨hi, fun s hs => ?_⟩
  rcases hx with ⟨t, m, y, _, h3⟩ | ⟨t, s', hk1, h3⟩ | ⟨f, cs, y, hk1, h3⟩
  ·rw [h3] at hs; cases hs
  ·rw [h3] at hs
   have : s' = s := Nat.eq_of_beq_eq_true hs
   subst this
   obtain ⟨t', m', h4⟩ := kinds_al ks ks hk i t s' hk1
   exact proj_v ks _ hx' s' t' m' h4
  ·rw [h3] at hs
   obtain ⟨t', p, h5⟩ := cshape_refs cs y s hs
   obtain ⟨t', m', h4⟩ := kinds_clo ks ks hk i f cs hk1 _ _ _ h5
   exact proj_v ks _ hx' s t' m' h4
end Go.Pv
