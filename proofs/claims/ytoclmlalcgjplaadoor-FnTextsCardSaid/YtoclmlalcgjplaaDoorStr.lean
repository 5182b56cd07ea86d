/- Functions of the library (Str): what is told of them holds. -/
import Derived.Test.YtoclmlalcgjplaaDoorPv4
import Derived.Shelf.Lays
import Derived.Below
import Derived.Shelf.Small.Strs
namespace Go.Pv
open Go.Shelf Go.RowKit Go.Proofs
set_option linter.unusedVariables false
set_option linter.unusedSimpArgs false
variable {Γ : Gl} {B : Nat → Prop} {P : Program} {ρ : Ren} {w w' : World} {H : Nat → Value} {σ : Nat → Option Nat}
theorem arg_str {args : List Arg} {vals : List Value} {j : Nat} {m : Md} {s : ByteArray} (hin : In Γ B H w σ args vals) (hj : args[j]? = some (.tv ⟨.str, m, s⟩)) : vals[j]? = some (.string s) := by
 obtain ⟨v, hv, cs, h1, h2⟩ := hin.ok j _ hj
 simp only [M] at h2
 rw [hv, match_str h1 h2.2]
theorem arg_int {args : List Arg} {vals : List Value} {j : Nat} {m : Md} {k : IntKind} {n : Int} (hin : In Γ B H w σ args vals) (hj : args[j]? = some (.tv ⟨.int k, m, n⟩)) : vals[j]? = some (.int k n) := by
 obtain ⟨v, hv, cs, h1, h2⟩ := hin.ok j _ hj
 simp only [M] at h2
 rw [hv, match_int h1 h2.2]
theorem two_vals {vals : List Value} {u v : Value} (hl : vals.length = 2) (h0 : vals[0]? = some u) (h1 : vals[1]? = some v) : vals = [u, v] := by
 match vals, hl with
 | [a, b], _ => simp at h0 h1; rw [h0, h1]
theorem one_val {vals : List Value} {u : Value} (hl : vals.length = 1) (h0 : vals[0]? = some u) : vals = [u] := by
 match vals, hl with
 | [a], _ => simp at h0; rw [h0]
theorem out_plain {res : List TV} {vs : List Value} (hb : Below w.heap.size w w') (hl : vs.length = res.length) (h : ∀ (i : Nat) (b : TV), res[i]? = some b → ∃ u, vs[i]? = some u ∧ matchV b.t u [u] ∧ b.m = .k ∧ ∀ A, K w' A b.t b.x [u]) : Out B H w w' σ ⟨res, []⟩ (packV vs) := by
 refine ⟨⟨hb.os, hb.tape, hb.output, hb.size, fun g hg _ => hb.block g hg⟩, fun _ => none, vs, rfl, hl, fun g i hg => (by cases hg), fun i b hi => ?_, fun c hc => (by cases hc)⟩
 obtain ⟨u, h1, h2, h3, h4⟩ := h i b hi
 refine ⟨u, [u], h1, h2, ?_⟩
 rw [h3]
 exact M_of_K _ (h4 _)
theorem sound_index (L : Lays.n137 P ρ) : Sound Γ P (ρ.f 137) (runOf [.v .str .k, .v (.int .u8) .k] fun x kf => kf ⟨[⟨.int .i64, .k, letterAt x.1 x.2.1⟩], []⟩) := by
 refine ⟨?_, fun al => ?_⟩
 rotate_left
 ·unfold runOf
  split
  ·exact Det.pure _
  ·exact Det.none
 intro args kf ret w σ vals H B hr hin
 unfold runOf at hr
 split at hr
 case h_2 => cases hr
 rename_i x hx
 have := aproj_eq _ args hx
 subst this
 rcases x with ⟨(s : ByteArray), (c : Int), u⟩
 simp only [ashape] at hin hr
 obtain rfl := two_vals hin.len (arg_str hin rfl) (arg_int hin rfl)
 refine .inl ⟨enters_of L.f137 (by kernel_rfl) rfl _ w, (Any.strings_IndexByte L s c w).mono fun en w' he => ?_⟩
 obtain ⟨rfl, rfl⟩ := he
 refine ⟨_, hr, out_plain (vs := [_]) (Below.refl _ _) rfl fun i b hi => ?_⟩
 cases i with
 | succ i => simp at hi
 | zero =>
  simp only [List.getElem?_cons_zero, Option.some.injEq] at hi
  subst hi
  exact ⟨_, rfl, by simp [matchV, isAgg], rfl, fun A => by simp [K, letterAt]⟩
end Go.Pv
