/- Functions of the library (Gro): what is told of them holds. -/
import Derived.Test.YtoclmlalcgjplaaDoorJoi
import Derived.Shelf.Spec.SlicesGrow
namespace Go.Pv
open Go.Shelf Go.Proofs
set_option linter.unusedVariables false
set_option linter.unusedSimpArgs false
variable {P : Program} {w w' : World} {A A' : Nat → Prop} {H : Nat → Value} {ρ : Ren}
theorem two_args {Γ : Gl} {B : Nat → Prop} {t : Ty} {m : Md} {xs : List t.I} {n : Int} {σ : Nat → Option Nat} {vals : List Value} (hin : In Γ B H w σ [.tv ⟨.sl t, m, xs⟩, .tv ⟨.int .i64, .k, n⟩] vals) :
  ∃ v, vals = [v, .int .i64 n] ∧ M w (Av σ B) H (.sl t) m xs [v] (fun g => σ g = some 0) [] := by
 obtain ⟨v, hv, cs, h1, h2⟩ := hin.ok 0 _ rfl
 obtain ⟨u, hu, cs', k1, k2⟩ := hin.ok 1 _ rfl
 have hcs : cs = [v] := by simpa [matchV, isAgg] using h1
 subst hcs
 have hcs' : cs' = [u] := by simpa [matchV, isAgg] using k1
 subst hcs'
 simp only [M] at k2
 have hu' : u = .int .i64 n := match_int (cs := [u]) (by simp [matchV, isAgg]) k2.2
 subst hu'
 refine ⟨v, ?_, h2⟩
 have hl := hin.len
 match vals, hl, hv, hu with
 | [a, b], _, hv, hu =>
  simp only [List.getElem?_cons_zero, Option.some.injEq, List.getElem?_cons_succ] at hv hu
  rw [hv, hu]
theorem sound_grow {Γ : Gl} (L : Lays8.n4 P ρ) {i0 : TypeInfo} {z : Value} (hi0 : P.info? (ρ.t 25) = some i0) (hz0 : i0.zero = some z) (hs0 : i0.size = 1) (hzc : z.cells.size = 1) (hby : i0.bytes = 8) :
  Sound Γ P (ρ.f 4) (runOf [.v (.sl (.int .i64)) (.o (ρ.t 25) none .k), .v (.int .i64) .k]
  fun x kf => bif List.isEmpty x.1 && (decide (0 ≤ x.2.1) && decide (x.2.1 ≤ 549755813888)) then kf ⟨[⟨.sl (.int .i64), .o (ρ.t 25) none .k, []⟩], []⟩ else none) := by
 refine ⟨?_, fun al => ?_⟩
 rotate_left
 ·unfold runOf
  split
  ·exact Det.bif _ (Det.pure _) Det.none
  ·exact Det.none
 intro args kf ret w σ vals H B hr hin
 unfold runOf at hr
 split at hr
 case h_2 => cases hr
 rename_i x hx
 have := aproj_eq _ args hx
 subst this
 rcases x with ⟨xs, (nn : Int), u⟩
 simp only [ashape] at hin hr
 cases hc0 : (List.isEmpty xs && (decide (0 ≤ nn) && decide (nn ≤ 549755813888))) with
 | false => rw [hc0] at hr; cases hr
 | true =>
 rw [hc0] at hr
 simp only [cond_true] at hr
 simp only [Bool.and_eq_true, decide_eq_true_eq, List.isEmpty_iff] at hc0
 obtain ⟨rfl, hn0, hn1⟩ := hc0
 obtain ⟨n, rfl⟩ : ∃ n : Nat, nn = (n : Int) := ⟨nn.toNat, by omega⟩
 obtain ⟨v, rfl, hM⟩ := two_args hin
 have hmx : maxLen = 9223372036854775807 := rfl
 obtain ⟨X, c, rfl, hcase⟩ : ∃ X c, v = .slice X 0 c ∧ ((X = X ∧ c = 0) ∨ ∃ g cur, X = some ⟨g, 0, none⟩ ∧ σ g = some 0 ∧ w.heap[g]? = some (.cells cur (ρ.t 25) (0, 0)) ∧ cur.size = c ∧ c ≤ maxLen) := by
  simp only [M] at hM
  rcases hM with ⟨hn, _⟩ | ⟨hk, _⟩ | ⟨T, tag, me, X, c, e1, e2, hc, ht, hM⟩
  ·simp at hn
  ·simp [Md.isK] at hk
  ·injection e1 with e1 e1' e1''
   subst e1 e1' e1''
   injection e2 with e2 _
   refine ⟨X, c, e2, ?_⟩
   rcases hM with ⟨_, h⟩ | ⟨g, cur, τ, h1, h2, h3, h4, h5, h6⟩
   ·exact .inl ⟨rfl, h⟩
   ·exact .inr ⟨g, cur, h1, h2, h3, by rw [h4]; simp [Ty.size], h5⟩
 have hen : (callFunc (ρ.f 4) [Value.slice X 0 c, .int .i64 n].toArray).run P w = .ok (.enter (ρ.f 4) [Value.slice X 0 c, .int .i64 n].toArray) w := L.f4.enters rfl _ w
 by_cases hroom : n ≤ c
 ·have hc63 : c ≤ 9223372036854775807 := by
   rcases hcase with ⟨_, h⟩ | ⟨g, cur, _, _, _, _, h⟩
   ·omega
   ·omega
  refine .inl ⟨hen, (Any8.slices_Grow_room L X 0 c n w (Nat.zero_le _) hc63 (by omega) (by omega)).mono fun en w' he => ?_⟩
  obtain ⟨rfl, rfl⟩ := he
  refine ⟨_, hr, ⟨rfl, rfl, rfl, Nat.le_refl _, fun _ _ _ => rfl⟩, fun g => if σ g = some 0 then some 0 else none, [.slice X 0 c], rfl, rfl, fun g i hg => ?_, fun i b hb => ?_, fun c hc => (by cases hc)⟩
  ·simp only at hg
   split at hg
   ·rename_i hx
    exact ⟨.inr ⟨0, hx⟩, (hin.lt g 0 hx).2⟩
   ·cases hg
  ·cases i with
   | succ i => simp at hb
   | zero =>
    simp only [List.getElem?_cons_zero, Option.some.injEq] at hb
    subst hb
    refine ⟨_, [.slice X 0 c], rfl, by simp [matchV, isAgg], ?_⟩
    simp only [M]
    refine .inr (.inr ⟨ρ.t 25, none, .k, X, c, rfl, rfl, Nat.zero_le _, fun h hh => (by cases hh), ?_⟩)
    rcases hcase with ⟨_, h⟩ | ⟨g, cur, h1, h2, h3, h4, h5⟩
    ·exact .inl ⟨by simp, h⟩
    ·exact .inr ⟨g, cur, fun j => j, h1, by simp [h2], h3, by rw [h4]; simp [Ty.size], h5, fun j hj => by simp at hj⟩
 ·have hcs : ∃ cs : List Value, cs.length = c * i0.size ∧ (X = none → c = 0) ∧ ∀ a, X = some a → ∀ j v, cs[j]? = some v → w.cell? (a.add j) = some v := by
   rcases hcase with ⟨_, rfl⟩ | ⟨g, cur, rfl, h2, h3, h4, h5⟩
   ·exact ⟨[], by simp, fun _ => rfl, fun a _ j v h => by simp at h⟩
   ·refine ⟨cur.toList, by rw [hs0, Nat.mul_one]; simpa using h4, fun h => (by cases h), fun a ha j v hj => ?_⟩
    injection ha with ha
    subst ha
    rw [addr_add, Nat.zero_add]
    simp only [World.cell?, h3]
    rw [Array.getElem?_toList] at hj
    exact hj
  obtain ⟨cs, hcl, hnil, hcells⟩ := hcs
  refine .inl ⟨hen, (Any8.slices_Grow_grow L i0 z hi0 hz0 (by omega) X 0 c n cs w (Nat.zero_le _) (by omega) (by rw [hby]; omega) (by omega) hcl hnil hcells).mono fun en w' he => ?_⟩
  obtain ⟨rfl, rfl⟩ := he
  have hGn := grownCap_ge w (0 + n) c (ρ.t 25)
  have hGm := grownCap_le_maxLen w (0 + n) c (ρ.t 25) (by omega)
  obtain ⟨G, hG⟩ : ∃ G, G = grownCap w (0 + n) c (ρ.t 25) := ⟨_, rfl⟩
  rw [← hG] at hGn hGm ⊢
  have hnew : (w.drew.alloc (.cells (cs.toArray ++ Builtin.zeroCells z.cells (0 + n - c) ++ Builtin.zeroCells z.cells (G - (0 + n))) (ρ.t 25))).heap[w.heap.size]? = some (.cells (cs.toArray ++ Builtin.zeroCells z.cells (0 + n - c) ++ Builtin.zeroCells z.cells (G - (0 + n))) (ρ.t 25) (0, 0)) := heap_alloc_new w.drew _
  refine ⟨_, hr, ⟨rfl, rfl, rfl, Nat.le_of_lt (lt_of_some hnew), fun g hg _ => heap_alloc_old w.drew _ hg⟩, fun g => if g = w.heap.size then some 0 else none, [.slice (some ⟨w.heap.size, 0, none⟩) 0 G], rfl, rfl, fun g i hg => ?_, fun i b hb => ?_, fun c hc => (by cases hc)⟩
  ·simp only at hg
   split at hg
   ·rename_i hx
    rw [hx]
    exact ⟨.inl (Nat.le_refl _), lt_of_some hnew⟩
   ·cases hg
  ·cases i with
   | succ i => simp at hb
   | zero =>
    simp only [List.getElem?_cons_zero, Option.some.injEq] at hb
    subst hb
    refine ⟨_, [.slice (some ⟨w.heap.size, 0, none⟩) 0 G], rfl, by simp [matchV, isAgg], ?_⟩
    simp only [M]
    refine .inr (.inr ⟨ρ.t 25, none, .k, some ⟨w.heap.size, 0, none⟩, G, rfl, rfl, Nat.zero_le _, fun h hh => (by cases hh), .inr ⟨w.heap.size, _, fun j => j, rfl, by simp, hnew, ?_, hGm, fun j hj => by simp at hj⟩⟩)
    have : cs.length = c := by rw [hcl, hs0, Nat.mul_one]
    simp only [Array.size_append, List.size_toArray, size_zeroCells, hzc, Ty.size]
    omega
end Go.Pv
