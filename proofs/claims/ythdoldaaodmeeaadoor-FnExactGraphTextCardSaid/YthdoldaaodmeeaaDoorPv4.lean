/- A verified evaluator of the program's form over pure values, part 4: what it tells of a function holds. -/
import Derived.Test.YthdoldaaodmeeaaDoorPv3
import Derived.Below
import Derived.Carry
import Derived.ChangeMaps5
namespace Go.Pv
set_option linter.unusedVariables false
set_option linter.unusedSimpArgs false
open Go.RowKit
variable {P : Program} {w : World} {Θ : Tab}

/-- A law's call: it returns true, and what stood in memory stands. -/
theorem law_calls {Γ : Gl} {f : FuncId} {run : List Arg → (Ret → Option Ret) → Option Ret} (hs : Sound Γ P f run) (hΓ : ∀ g o, Γ g = some o → w.heap[g]? = some o) {args : List TV} {vals : List Value} (hr : run (args.map .tv) some = some ⟨[⟨.bool, .k, true⟩], []⟩)
    (hlen : vals.length = args.length) (hv : ∀ (j : Nat) (b : TV), args[j]? = some b → ∃ v cs, vals[j]? = some v ∧ matchV b.t v cs ∧ b.m = .k ∧ K w (fun _ => False) b.t b.x cs)
    (hent : ∀ v w', (callFunc f vals.toArray).run P w ≠ .ok (.value v) w') :
    Calls P f vals.toArray w fun e w' => e = .returned (.bool true) ∧ Below w.heap.size w w' := by
  have hown : Av (fun _ : Nat => (none : Option Nat)) (fun _ => False) = fun _ => False := funext fun g => propext ⟨fun h => h.elim (fun ⟨i, hi⟩ => (by cases hi)) id, fun h => h.elim⟩
  have hin : In Γ (fun _ => False) (fun _ => undef) w (fun _ => none) (args.map .tv) vals := by
    refine ⟨by simpa using hlen, fun g i hg => (by cases hg), fun g hg => hg.elim, fun g o hg => ⟨rfl, hΓ g o hg⟩, fun j a hj => ?_⟩
    rw [List.getElem?_map] at hj
    cases hb : args[j]? with
    | none => rw [hb] at hj; cases hj
    | some b =>
      rw [hb] at hj
      injection hj with hj
      subst hj
      obtain ⟨v, cs, h1, h2, h3, h4⟩ := hv j b hb
      refine ⟨v, h1, cs, h2, ?_⟩
      rw [hown, h3]
      exact M_of_K _ h4
  rcases hs.1 _ _ _ w _ vals (fun _ => undef) _ hr hin with ⟨_, h⟩ | ⟨v, w', h, _⟩
  · refine h.mono fun e w' he => ?_
    cases e with
    | returned v =>
      obtain ⟨rt, h1, h2⟩ := he
      injection h1 with h1
      subst h1
      obtain ⟨σ', vs, q1, q2, _, q4, _⟩ := h2.res
      obtain ⟨u, cs, u1, u2, u3⟩ := q4 0 _ rfl
      match vs, q2 with
      | [u'], _ =>
        simp only [List.getElem?_cons_zero, Option.some.injEq] at u1
        subst u1
        simp only [M] at u3
        have := match_bool u2 u3.2
        refine ⟨by rw [q1, this]; rfl, ⟨h2.fr.os, h2.fr.tape, h2.fr.output, h2.fr.size, fun k hk => h2.fr.block k hk (fun ⟨i, hi⟩ => by cases hi)⟩⟩
    | panicked c => exact he.elim
    | outgrown => exact he.elim
  · exact absurd h (hent v w')

def istys (Θ : Tab) : List TypeId → List Ty → Bool
  | [], [] => true
  | T :: Ts, t :: ts => Θ.is T t && istys Θ Ts ts
  | _, _ => false
def wfs : (ts : List Ty) → PVals ts → Prop
  | [], _ => True
  | t :: r, x => wf t x.1 ∧ wfs r x.2

open ChangeShapes WideShapes in
theorem open_arg {Hh : Type} {enc : TypeId × Value → Hh} {r : Reach} {b0 base : Nat} {spare : Nat → Bool} {held : Bool} (hT : tabB P Θ = true) (hU : tabU Θ = true) {T : TypeId} {t : Ty} {v : Value} {d : DataW Hh} {ps : List MemPlace} (ht : Θ.is T t = true)
    (hval : Value.okWide P w r b0 T v) (hd : DataW.Trod enc P w base spare held T v d ps) : ∃ x : t.I, (∃ cs, matchV t v cs ∧ K w (fun _ => False) t x cs) ∧ wf t x := by
  obtain ⟨fuel, hf⟩ := hd
  obtain ⟨x, h1, h2⟩ := open_K hT hU fuel t ht hf
  refine ⟨x, ⟨_, ?_, h1⟩, h2⟩
  obtain ⟨i, hi, hty⟩ := is_find ht
  obtain ⟨hinf, hu, hTi⟩ := tab_ti hT hi
  obtain ⟨_, n1, n2, n3⟩ := und_not hu
  cases t with
  | int k =>
    have hd := und_int hu hty
    rw [hTi] at hd
    obtain ⟨n, rfl⟩ := okWide_int hd hval
    simp [matchV, isAgg, Value.cells]
  | bool =>
    have hd := und_bool hu hty
    rw [hTi] at hd
    obtain ⟨n, rfl⟩ := okWide_bool hd hval
    simp [matchV, isAgg, Value.cells]
  | str =>
    have hd := und_str hu hty
    rw [hTi] at hd
    obtain ⟨n, rfl⟩ := okWide_string hd hval
    simp [matchV, isAgg, Value.cells]
  | sl t =>
    obtain ⟨hd, _⟩ := und_sl hu hty
    rw [hTi] at hd
    obtain ⟨a, l, c, rfl⟩ := okWide_slice hd hval
    simp [matchV, isAgg, Value.cells]
  | pair pa pb =>
    obtain ⟨fs, hd, _⟩ := und_pair hu hty
    rw [hTi] at hd
    simp only [Value.okWide, hd] at hval
    obtain ⟨cs, rfl, _⟩ := hval
    simp [matchV, isAgg, Value.cells]
  | ptr t => exact absurd hty (n1 t)
  | arr n t => exact absurd hty (n2 n t)
  | unit => exact absurd hty n3

theorem open_args {Hh : Type} {enc : TypeId × Value → Hh} {r : Reach} {b0 base : Nat} {spare : Nat → Bool} {held : Bool} (hT : tabB P Θ = true) (hU : tabU Θ = true) : ∀ (Ts : List TypeId) (ts : List Ty) (vals : List Value) {ds : List (DataW Hh)} {ps : List MemPlace}, istys Θ Ts ts = true →
    (∀ (j : Nat) t v, Ts[j]? = some t → vals[j]? = some v → Value.okWide P w r b0 t v) → DataW.TrodAll enc P w base spare held Ts vals ds ps →
    ∃ x : PVals ts, wfs ts x ∧ vals.length = ts.length ∧ ∀ (j : Nat) (b : TV), (pshape ts x)[j]? = some b → ∃ v cs, vals[j]? = some v ∧ matchV b.t v cs ∧ b.m = .k ∧ K w (fun _ => False) b.t b.x cs
  | [], [], vals, ds, ps, _, _, h => by
    obtain ⟨rfl, _, _⟩ := ChangeShapes.trodAll_nil h
    exact ⟨(), trivial, rfl, fun j b hj => by simp [pshape] at hj⟩
  | [], _ :: _, _, _, _, e, _, _ => by simp [istys] at e
  | _ :: _, [], _, _, _, e, _, _ => by simp [istys] at e
  | T :: Ts, t :: ts, vals, ds, ps, e, hok, h => by
    simp only [istys, Bool.and_eq_true] at e
    obtain ⟨v, vs, d, ds', p, q, rfl, rfl, rfl, h1, h2⟩ := ChangeShapes.trodAll_cons h
    obtain ⟨x, ⟨cs, m1, m2⟩, m3⟩ := open_arg hT hU e.1 (hok 0 T v rfl rfl) h1
    obtain ⟨y, k1, k2, k3⟩ := open_args hT hU Ts ts vs e.2 (fun j t v hj hv => hok (j + 1) t v (by simpa using hj) (by simpa using hv)) h2
    refine ⟨(x, y), ⟨m3, k1⟩, by simp [k2], fun j b hj => ?_⟩
    cases j with
    | zero =>
      simp only [pshape, List.getElem?_cons_zero, Option.some.injEq] at hj
      subst hj
      exact ⟨v, cs, rfl, m1, rfl, m2⟩
    | succ j =>
      obtain ⟨v', cs', q1, q2⟩ := k3 j b (by simpa [pshape] using hj)
      exact ⟨v', cs', by simpa using q1, q2⟩

theorem trods_stay {Hh : Type} {enc : TypeId × Value → Hh} {W W' : World} (hl : laidOutB P = true) (hb : Below W.heap.size W W') : ∀ (Ts : List TypeId) (vals : List Value) {ds : List (DataW Hh)} {ps : List MemPlace}, (Ts.all fun T => P.readableRec T && decide (T < P.types.size)) = true →
    DataW.TrodAll enc P W 0 (fun _ => true) true Ts vals ds ps → DataW.TrodAll enc P W' 0 (fun b => decide (b < W.heap.size)) true Ts vals ds ps
  | [], vals, ds, ps, _, h => by
    obtain ⟨rfl, rfl, rfl⟩ := ChangeShapes.trodAll_nil h
    exact rfl
  | T :: Ts, vals, ds, ps, hr, h => by
    simp only [List.all_cons, Bool.and_eq_true, decide_eq_true_eq] at hr
    obtain ⟨v, vs, d, ds', p, q, rfl, rfl, rfl, h1, h2⟩ := ChangeShapes.trodAll_cons h
    have lt : ∀ x ∈ p, x.block < W.heap.size := by
      obtain ⟨m, hm⟩ := h1
      exact DataW.trod_lt m _ _ _ hm
    exact ⟨p, q, Below.trod hl hr.1.1 hr.1.2 h1 hb lt, trods_stay hl hb Ts vs hr.2 h2, rfl⟩

theorem enters {f : FuncId} {fn : Func} {body : Code} (hf : P.funcs[f]? = some fn) (hb : fn.body = some body) (hnm : (fn.name == "runtime.NumGoroutine") = false) (vals : Array Value) : ∀ v w', (callFunc f vals).run P w ≠ .ok (.value v) w' := by
  intro v w' h
  have hnm' : ¬ fn.name = "runtime.NumGoroutine" := by simpa using hnm
  simp [callFunc, hf, hnm', hb] at h

theorem row_midG {Γ : Gl} {Hh : Type} {enc : TypeId × Value → Hh} {r : Reach} {b0 : Nat} {f : FuncId} {run : Nat → List Arg → (Ret → Option Ret) → Option Ret} (hs : ∀ N, Sound Γ P f (run N)) (hΓ : ∀ g o, Γ g = some o → w.heap[g]? = some o) (hT : tabB P Θ = true) (hU : tabU Θ = true) (hl : laidOutB P = true)
    {Ts : List TypeId} {ts : List Ty} (hts : istys Θ Ts ts = true) (hread : (Ts.all fun T => P.readableRec T && decide (T < P.types.size)) = true) (hpure : ∀ x : PVals ts, wfs ts x → ∃ N, run N ((pshape ts x).map .tv) some = some ⟨[⟨.bool, .k, true⟩], []⟩)
    {args : Array Value} {ds : List (DataW Hh)} {ps : List MemPlace} (hok : ∀ (j : Nat) t v, Ts[j]? = some t → args[j]? = some v → Value.okWide P w r b0 t v) (h : DataW.TrodAll enc P w 0 (fun _ => true) true Ts args.toList ds ps)
    (hent : ∀ v w', (callFunc f args).run P w ≠ .ok (.value v) w') :
    Calls P f args w fun e w' => e = .returned (.bool true) ∧ Below w.heap.size w w' ∧ DataW.TrodAll enc P w' 0 (fun b => decide (b < w.heap.size)) true Ts args.toList ds ps := by
  obtain ⟨x, h1, h2, h3⟩ := open_args hT hU Ts ts args.toList hts (fun j t v hj hv => hok j t v hj (by simpa using hv)) h
  obtain ⟨N, hN⟩ := hpure x h1
  have hlen : ∀ (ts : List Ty) (x : PVals ts), (pshape ts x).length = ts.length := by
    intro ts
    induction ts with
    | nil => intro _; rfl
    | cons t ts ih => intro x; simp [pshape, ih]
  have := law_calls (hs N) hΓ (vals := args.toList) hN (by rw [h2, hlen]) h3 (by simpa using hent)
  have he : args.toList.toArray = args := by simp
  rw [he] at this
  exact this.mono fun e w' ⟨k1, k2⟩ => ⟨k1, k2, trods_stay hl k2 Ts _ hread h⟩
theorem row_mid {Hh : Type} {enc : TypeId × Value → Hh} {r : Reach} {b0 : Nat} {f : FuncId} {run : Nat → List Arg → (Ret → Option Ret) → Option Ret} (hs : ∀ N, Sound (fun _ => none) P f (run N)) (hT : tabB P Θ = true) (hU : tabU Θ = true) (hl : laidOutB P = true)
    {Ts : List TypeId} {ts : List Ty} (hts : istys Θ Ts ts = true) (hread : (Ts.all fun T => P.readableRec T && decide (T < P.types.size)) = true) (hpure : ∀ x : PVals ts, wfs ts x → ∃ N, run N ((pshape ts x).map .tv) some = some ⟨[⟨.bool, .k, true⟩], []⟩)
    {args : Array Value} {ds : List (DataW Hh)} {ps : List MemPlace} (hok : ∀ (j : Nat) t v, Ts[j]? = some t → args[j]? = some v → Value.okWide P w r b0 t v) (h : DataW.TrodAll enc P w 0 (fun _ => true) true Ts args.toList ds ps)
    (hent : ∀ v w', (callFunc f args).run P w ≠ .ok (.value v) w') :
    Calls P f args w fun e w' => e = .returned (.bool true) ∧ Below w.heap.size w w' ∧ DataW.TrodAll enc P w' 0 (fun b => decide (b < w.heap.size)) true Ts args.toList ds ps :=
  row_midG hs (fun _ _ h => by cases h) hT hU hl hts hread hpure hok h hent
end Go.Pv

namespace Go.Pv
set_option linter.unusedVariables false
set_option linter.unusedSimpArgs false

theorem wrap64 {n : Int} (h1 : -9223372036854775808 ≤ n) (h2 : n < 9223372036854775808) : IntKind.wrap .i64 n = n := by
  simp [IntKind.wrap, IntKind.bits, IntKind.signed]
  split <;> omega
theorem wrap_succ {i m : Nat} (h : i < m) (hm : m ≤ maxLen) : IntKind.wrap .i64 ((i : Int) + 1) = ((i + 1 : Nat) : Int) := by
  have : maxLen = 9223372036854775807 := by decide
  rw [wrap64] <;> omega
theorem inB_nat {i m : Nat} (h : i < m) : inB (i : Int) m = true := by simp [inB, h]
theorem getD_nat {α : Type} (l : List α) (i : Nat) (h : i < l.length) (z : α) : l.getD i z = l[i] := by simp [List.getD_eq_getElem?_getD, h]

/-- A loop over a list's places, in its rounds: what each place gives, and how it goes on. -/
def goL {α : Type} (body : Nat → α → Option Ret → Option Ret) (kend : Option Ret) : List α → Nat → Option Ret
  | [], _ => kend
  | x :: r, i => body i x (goL body kend r (i + 1))
def goL1 {α σ : Type} (body : Nat → α → σ → (σ → Option Ret) → Option Ret) (kend : σ → Option Ret) : List α → Nat → σ → Option Ret
  | [], _, s => kend s
  | x :: r, i, s => body i x s (fun s' => goL1 body kend r (i + 1) s')

theorem range0 {α : Type} {f : Nat → Int → Option Ret} {l : List α} {body : Nat → α → Option Ret → Option Ret} {kend : Option Ret}
    (hr : ∀ (n i : Nat) (h : i < l.length), f (n + 1) (i : Int) = body i l[i] (f n (IntKind.wrap .i64 ((i : Int) + 1)))) (he : ∀ (n : Nat), f (n + 1) (l.length : Int) = kend) (hl : l.length ≤ maxLen) :
    ∀ (r : List α) (i N : Nat), l.drop i = r → i ≤ l.length → r.length < N → f N (i : Int) = goL body kend r i
  | [], i, N, hd, hi, hN => by
    have : i = l.length := by have := congrArg List.length hd; simp at this; omega
    subst this
    obtain ⟨N, rfl⟩ : ∃ m, N = m + 1 := ⟨N - 1, by simp at hN; omega⟩
    exact he N
  | x :: r, i, N, hd, hi, hN => by
    have hlt : i < l.length := by have := congrArg List.length hd; simp at this; omega
    rw [List.drop_eq_getElem_cons hlt] at hd
    injection hd with h1 h2
    obtain ⟨N, rfl⟩ : ∃ m, N = m + 1 := ⟨N - 1, by simp at hN; omega⟩
    rw [hr N i hlt, h1, wrap_succ hlt hl, range0 hr he hl r (i + 1) N h2 hlt (by simpa using hN)]
    rfl
theorem range1 {α σ : Type} {f : Nat → σ → Int → Option Ret} {l : List α} {body : Nat → α → σ → (σ → Option Ret) → Option Ret} {kend : σ → Option Ret}
    (hr : ∀ (n i : Nat) (s : σ) (h : i < l.length), f (n + 1) s (i : Int) = body i l[i] s (fun s' => f n s' (IntKind.wrap .i64 ((i : Int) + 1)))) (he : ∀ (n : Nat) (s : σ), f (n + 1) s (l.length : Int) = kend s) (hl : l.length ≤ maxLen) :
    ∀ (r : List α) (i N : Nat) (s : σ), l.drop i = r → i ≤ l.length → r.length < N → f N s (i : Int) = goL1 body kend r i s
  | [], i, N, s, hd, hi, hN => by
    have : i = l.length := by have := congrArg List.length hd; simp at this; omega
    subst this
    obtain ⟨N, rfl⟩ : ∃ m, N = m + 1 := ⟨N - 1, by simp at hN; omega⟩
    exact he N s
  | x :: r, i, N, s, hd, hi, hN => by
    have hlt : i < l.length := by have := congrArg List.length hd; simp at this; omega
    rw [List.drop_eq_getElem_cons hlt] at hd
    injection hd with h1 h2
    obtain ⟨N, rfl⟩ : ∃ m, N = m + 1 := ⟨N - 1, by simp at hN; omega⟩
    rw [hr N i s hlt, h1, wrap_succ hlt hl]
    have : (fun s' => f N s' ((i + 1 : Nat) : Int)) = fun s' => goL1 body kend r (i + 1) s' := funext fun s' => range1 hr he hl r (i + 1) N s' h2 hlt (by simpa using hN)
    rw [this]
    rfl
def goL2 {α σ0 σ1 : Type} (body : Nat → α → σ0 → σ1 → (σ0 → σ1 → Option Ret) → Option Ret) (kend : σ0 → σ1 → Option Ret) : List α → Nat → σ0 → σ1 → Option Ret
  | [], _, s0, s1 => kend s0 s1
  | x :: r, i, s0, s1 => body i x s0 s1 (fun s0' s1' => goL2 body kend r (i + 1) s0' s1')
theorem range2 {α σ0 σ1 : Type} {f : Nat → σ0 → σ1 → Int → Option Ret} {l : List α} {body : Nat → α → σ0 → σ1 → (σ0 → σ1 → Option Ret) → Option Ret} {kend : σ0 → σ1 → Option Ret}
    (hr : ∀ (n i : Nat) (s0 : σ0) (s1 : σ1) (h : i < l.length), f (n + 1) s0 s1 (i : Int) = body i l[i] s0 s1 (fun s0' s1' => f n s0' s1' (IntKind.wrap .i64 ((i : Int) + 1)))) (he : ∀ (n : Nat) (s0 : σ0) (s1 : σ1), f (n + 1) s0 s1 (l.length : Int) = kend s0 s1) (hl : l.length ≤ maxLen) :
    ∀ (r : List α) (i N : Nat) (s0 : σ0) (s1 : σ1), l.drop i = r → i ≤ l.length → r.length < N → f N s0 s1 (i : Int) = goL2 body kend r i s0 s1
  | [], i, N, s0, s1, hd, hi, hN => by
    have : i = l.length := by have := congrArg List.length hd; simp at this; omega
    subst this
    obtain ⟨N, rfl⟩ : ∃ m, N = m + 1 := ⟨N - 1, by simp at hN; omega⟩
    exact he N s0 s1
  | x :: r, i, N, s0, s1, hd, hi, hN => by
    have hlt : i < l.length := by have := congrArg List.length hd; simp at this; omega
    rw [List.drop_eq_getElem_cons hlt] at hd
    injection hd with h1 h2
    obtain ⟨N, rfl⟩ : ∃ m, N = m + 1 := ⟨N - 1, by simp at hN; omega⟩
    rw [hr N i s0 s1 hlt, h1, wrap_succ hlt hl]
    have : (fun s0' s1' => f N s0' s1' ((i + 1 : Nat) : Int)) = fun s0' s1' => goL2 body kend r (i + 1) s0' s1' := by
      funext s0' s1'
      exact range2 hr he hl r (i + 1) N s0' s1' h2 hlt (by simpa using hN)
    rw [this]
    rfl
def goL3 {α σ0 σ1 σ2 : Type} (body : Nat → α → σ0 → σ1 → σ2 → (σ0 → σ1 → σ2 → Option Ret) → Option Ret) (kend : σ0 → σ1 → σ2 → Option Ret) : List α → Nat → σ0 → σ1 → σ2 → Option Ret
  | [], _, s0, s1, s2 => kend s0 s1 s2
  | x :: r, i, s0, s1, s2 => body i x s0 s1 s2 (fun s0' s1' s2' => goL3 body kend r (i + 1) s0' s1' s2')
theorem range3 {α σ0 σ1 σ2 : Type} {f : Nat → σ0 → σ1 → σ2 → Int → Option Ret} {l : List α} {body : Nat → α → σ0 → σ1 → σ2 → (σ0 → σ1 → σ2 → Option Ret) → Option Ret} {kend : σ0 → σ1 → σ2 → Option Ret}
    (hr : ∀ (n i : Nat) (s0 : σ0) (s1 : σ1) (s2 : σ2) (h : i < l.length), f (n + 1) s0 s1 s2 (i : Int) = body i l[i] s0 s1 s2 (fun s0' s1' s2' => f n s0' s1' s2' (IntKind.wrap .i64 ((i : Int) + 1)))) (he : ∀ (n : Nat) (s0 : σ0) (s1 : σ1) (s2 : σ2), f (n + 1) s0 s1 s2 (l.length : Int) = kend s0 s1 s2) (hl : l.length ≤ maxLen) :
    ∀ (r : List α) (i N : Nat) (s0 : σ0) (s1 : σ1) (s2 : σ2), l.drop i = r → i ≤ l.length → r.length < N → f N s0 s1 s2 (i : Int) = goL3 body kend r i s0 s1 s2
  | [], i, N, s0, s1, s2, hd, hi, hN => by
    have : i = l.length := by have := congrArg List.length hd; simp at this; omega
    subst this
    obtain ⟨N, rfl⟩ : ∃ m, N = m + 1 := ⟨N - 1, by simp at hN; omega⟩
    exact he N s0 s1 s2
  | x :: r, i, N, s0, s1, s2, hd, hi, hN => by
    have hlt : i < l.length := by have := congrArg List.length hd; simp at this; omega
    rw [List.drop_eq_getElem_cons hlt] at hd
    injection hd with h1 h2
    obtain ⟨N, rfl⟩ : ∃ m, N = m + 1 := ⟨N - 1, by simp at hN; omega⟩
    rw [hr N i s0 s1 s2 hlt, h1, wrap_succ hlt hl]
    have : (fun s0' s1' s2' => f N s0' s1' s2' ((i + 1 : Nat) : Int)) = fun s0' s1' s2' => goL3 body kend r (i + 1) s0' s1' s2' := by
      funext s0' s1' s2'
      exact range3 hr he hl r (i + 1) N s0' s1' s2' h2 hlt (by simpa using hN)
    rw [this]
    rfl
def goL4 {α σ0 σ1 σ2 σ3 : Type} (body : Nat → α → σ0 → σ1 → σ2 → σ3 → (σ0 → σ1 → σ2 → σ3 → Option Ret) → Option Ret) (kend : σ0 → σ1 → σ2 → σ3 → Option Ret) : List α → Nat → σ0 → σ1 → σ2 → σ3 → Option Ret
  | [], _, s0, s1, s2, s3 => kend s0 s1 s2 s3
  | x :: r, i, s0, s1, s2, s3 => body i x s0 s1 s2 s3 (fun s0' s1' s2' s3' => goL4 body kend r (i + 1) s0' s1' s2' s3')
theorem range4 {α σ0 σ1 σ2 σ3 : Type} {f : Nat → σ0 → σ1 → σ2 → σ3 → Int → Option Ret} {l : List α} {body : Nat → α → σ0 → σ1 → σ2 → σ3 → (σ0 → σ1 → σ2 → σ3 → Option Ret) → Option Ret} {kend : σ0 → σ1 → σ2 → σ3 → Option Ret}
    (hr : ∀ (n i : Nat) (s0 : σ0) (s1 : σ1) (s2 : σ2) (s3 : σ3) (h : i < l.length), f (n + 1) s0 s1 s2 s3 (i : Int) = body i l[i] s0 s1 s2 s3 (fun s0' s1' s2' s3' => f n s0' s1' s2' s3' (IntKind.wrap .i64 ((i : Int) + 1)))) (he : ∀ (n : Nat) (s0 : σ0) (s1 : σ1) (s2 : σ2) (s3 : σ3), f (n + 1) s0 s1 s2 s3 (l.length : Int) = kend s0 s1 s2 s3) (hl : l.length ≤ maxLen) :
    ∀ (r : List α) (i N : Nat) (s0 : σ0) (s1 : σ1) (s2 : σ2) (s3 : σ3), l.drop i = r → i ≤ l.length → r.length < N → f N s0 s1 s2 s3 (i : Int) = goL4 body kend r i s0 s1 s2 s3
  | [], i, N, s0, s1, s2, s3, hd, hi, hN => by
    have : i = l.length := by have := congrArg List.length hd; simp at this; omega
    subst this
    obtain ⟨N, rfl⟩ : ∃ m, N = m + 1 := ⟨N - 1, by simp at hN; omega⟩
    exact he N s0 s1 s2 s3
  | x :: r, i, N, s0, s1, s2, s3, hd, hi, hN => by
    have hlt : i < l.length := by have := congrArg List.length hd; simp at this; omega
    rw [List.drop_eq_getElem_cons hlt] at hd
    injection hd with h1 h2
    obtain ⟨N, rfl⟩ : ∃ m, N = m + 1 := ⟨N - 1, by simp at hN; omega⟩
    rw [hr N i s0 s1 s2 s3 hlt, h1, wrap_succ hlt hl]
    have : (fun s0' s1' s2' s3' => f N s0' s1' s2' s3' ((i + 1 : Nat) : Int)) = fun s0' s1' s2' s3' => goL4 body kend r (i + 1) s0' s1' s2' s3' := by
      funext s0' s1' s2' s3'
      exact range4 hr he hl r (i + 1) N s0' s1' s2' s3' h2 hlt (by simpa using hN)
    rw [this]
    rfl
end Go.Pv
namespace Go.Pv
set_option linter.unusedVariables false
set_option linter.unusedSimpArgs false
/-- Rows made anew out of others. -/
theorem goL_toS {α β : Type} (g : α → β) (kend : List β → Option Ret) : ∀ (l : List α) (i : Nat) (s : List β), s.length = i + l.length →
    goL1 (fun i x s next => bif inB (i : Int) s.length then next (s.set i (g x)) else none) kend l i s = kend (s.take i ++ l.map g)
  | [], i, s, h => by simp only [goL1, List.map_nil, List.append_nil]; rw [List.take_of_length_le (by simp at h; omega)]
  | x :: r, i, s, h => by
    simp only [goL1]
    simp only [List.length_cons] at h
    rw [inB_nat (show i < s.length by omega), cond_true, goL_toS g kend r (i + 1) _ (by simp; omega)]
    congr 1
    rw [List.take_set, List.map_cons, ← List.singleton_append (l := r.map g), ← List.append_assoc]
    congr 1
    rw [List.take_succ_eq_append_getElem (by omega), List.set_append_right _ _ (by simp; omega)]
    have : i - (s.take i).length = 0 := by simp; omega
    rw [this]
    rfl
theorem goL_eqS {α : Type} {body : Nat → α → Option Ret → Option Ret} {kend : Option Ret} (hb : ∀ i x next, body i x next = next) : ∀ (l : List α) (i : Nat), goL body kend l i = kend
  | [], _ => rfl
  | x :: r, i => by simp only [goL]; rw [hb]; exact goL_eqS hb r (i + 1)
theorem goL1_fold {α σ : Type} (g : Nat → α → σ → σ) (kend : σ → Option Ret) : ∀ (l : List α) (i : Nat) (s : σ), ∃ s', goL1 (fun i x s next => next (g i x s)) kend l i s = kend s'
  | [], _, s => ⟨s, rfl⟩
  | x :: r, i, s => goL1_fold g kend r (i + 1) (g i x s)
end Go.Pv
namespace Go.Pv
set_option linter.unusedVariables false
set_option linter.unusedSimpArgs false
/-- How much a value holds: its lists' lengths together. -/
def sizeV : (t : Ty) → t.I → Nat
  | .sl t, xs => (xs : List t.I).length + ((xs : List t.I).map (sizeV t)).sum
  | .ptr t, x => sizeV t x
  | .pair a b, x => sizeV a x.1 + sizeV b x.2
  | _, _ => 0
def flatB : Ty → Bool
  | .sl _ => false | .ptr _ => false | .arr _ _ => false | .pair a b => flatB a && flatB b | _ => true
theorem sizeV_flat : ∀ (t : Ty), flatB t = true → ∀ x : t.I, sizeV t x = 0
  | .pair a b, h, x => by
    simp only [flatB, Bool.and_eq_true] at h
    simp [sizeV, sizeV_flat a h.1, sizeV_flat b h.2]
  | .int _, _, _ => rfl
  | .bool, _, _ => rfl
  | .str, _, _ => rfl
  | .unit, _, _ => rfl
theorem sizeV_sl {t : Ty} (h : flatB t = true) (xs : List t.I) : sizeV (.sl t) xs = xs.length := by
  have : ∀ l : List t.I, (l.map (sizeV t)).sum = 0 := by
    intro l
    induction l with
    | nil => rfl
    | cons x r ih => simp [ih, sizeV_flat t h]
  simp [sizeV, this]
theorem sizeV_mem {t : Ty} {xs : List t.I} {x : t.I} (h : x ∈ xs) : sizeV t x + xs.length ≤ sizeV (.sl t) xs := by
  have : ∀ l : List t.I, x ∈ l → sizeV t x ≤ (l.map (sizeV t)).sum := by
    intro l
    induction l with
    | nil => intro h; cases h
    | cons y r ih =>
      intro h
      rcases List.mem_cons.1 h with rfl | h
      · simp
      · have := ih h; simp; omega
  have := this xs h
  simp only [sizeV]
  omega
theorem sizeV_len {t : Ty} (xs : List t.I) : xs.length ≤ sizeV (.sl t) xs := by simp [sizeV]

/-- What is left of a bound. -/
def szr (left : Int) (s : Nat) : Int := if (s : Int) ≤ left then left - s else -1
theorem szr_neg {left : Int} {s : Nat} (h : 0 ≤ left) : szr left s < 0 ↔ left < s := by
  unfold szr
  split <;> omega
theorem szr_add {left : Int} {a b : Nat} (h : 0 ≤ left) : (if szr left a < 0 then -1 else szr (szr left a) b) = szr left (a + b) := by
  unfold szr
  split <;> split <;> (try split) <;> omega
theorem szr_bound {left : Int} {s : Nat} (h : 0 ≤ left) (hl : left ≤ 1048576) (hn : ¬ szr left s < 0) : 0 ≤ szr left s ∧ szr left s ≤ 1048576 := by
  unfold szr at *
  split at hn <;> simp_all <;> omega
theorem goL_sz {α : Type} {g : α → Int → (Int → Option Ret) → Option Ret} {sz : α → Nat} {kf : Int → Option Ret} : ∀ (l : List α) (i : Nat) (s : Int), (∀ x ∈ l, ∀ s k, 0 ≤ s → s ≤ 1048576 → g x s k = k (szr s (sz x))) → 0 ≤ s → s ≤ 1048576 →
    goL1 (fun i x s next => g x s (fun r => bif decide (r < (0 : Int)) then kf (-1) else next r)) (fun s => kf s) l i s = kf (szr s (l.map sz).sum)
  | [], i, s, _, h0, _ => by simp only [goL1, List.map_nil, List.sum_nil]; congr 1; unfold szr; rw [if_pos (by simpa using h0)]; simp
  | x :: r, i, s, hg, h0, h1 => by
    simp only [goL1]
    rw [hg x (by simp) s _ h0 h1]
    have ha := szr_add (a := sz x) (b := (r.map sz).sum) h0
    by_cases hn : szr s (sz x) < 0
    · rw [decide_eq_true hn, cond_true, List.map_cons, List.sum_cons, ← ha, if_pos hn]
    · obtain ⟨b0, b1⟩ := szr_bound h0 h1 hn
      rw [decide_eq_false hn, cond_false, goL_sz r (i + 1) _ (fun y hy => hg y (by simp [hy])) b0 b1, List.map_cons, List.sum_cons, ← ha, if_neg hn]
theorem goL_to {α : Type} {g : α → (α → Option Ret) → Option Ret} {kend : List α → Option Ret} : ∀ (l : List α) (i : Nat) (s : List α), (∀ x ∈ l, ∀ k, g x k = k x) → s.length = i + l.length →
    goL1 (fun i x s next => g x (fun r => bif inB (i : Int) (List.length s) then next (List.set s (Int.toNat (i : Int)) r) else none)) (fun s => kend s) l i s = kend (s.take i ++ l)
  | [], i, s, _, h => by simp only [goL1, List.append_nil]; rw [List.take_of_length_le (by simp at h; omega)]
  | x :: r, i, s, hg, h => by
    simp only [goL1]
    simp only [List.length_cons] at h
    rw [hg x (by simp)]
    rw [inB_nat (show i < s.length by omega), cond_true, Int.toNat_natCast, goL_to r (i + 1) _ (fun y hy => hg y (by simp [hy])) (by simp; omega)]
    congr 1
    rw [List.take_set, ← List.singleton_append (l := r), ← List.append_assoc]
    congr 1
    rw [List.take_succ_eq_append_getElem (by omega), List.set_append_right _ _ (by simp; omega)]
    have : i - (s.take i).length = 0 := by simp; omega
    rw [this]
    rfl
theorem goL_eq {α : Type} {body : Nat → α → Option Ret → Option Ret} {kend : Option Ret} {l : List α} (hb : ∀ (i : Nat) (x : α) (next : Option Ret) (h : i < l.length), l[i] = x → body i x next = next) : ∀ (r : List α) (i : Nat), l.drop i = r → goL body kend r i = kend
  | [], _, _ => rfl
  | x :: r, i, hd => by
    have hlt : i < l.length := by have := congrArg List.length hd; simp at this; omega
    rw [List.drop_eq_getElem_cons hlt] at hd
    injection hd with h1 h2
    simp only [goL]
    rw [hb i x _ hlt h1]
    exact goL_eq hb r (i + 1) h2
theorem lenDec {n : Nat} (h : n ≤ 1048576) : (decide ((n : Int) = (n : Int)) && decide ((0 : Int) ≤ (n : Int)) && decide ((n : Int) ≤ 1099511627776)) = true := by simp; omega
theorem wf_len {t : Ty} {xs : List t.I} (h : wf (.sl t) xs) : xs.length ≤ maxLen := h.1
theorem maxLen_eq : maxLen = 9223372036854775807 := by decide
end Go.Pv
namespace Go.Pv
set_option linter.unusedVariables false
set_option linter.unusedSimpArgs false
theorem szr_sub {left : Int} {n s : Nat} (h : 0 ≤ left - (n : Int)) : szr (left - (n : Int)) s = szr left (n + s) := by
  unfold szr
  split <;> split <;> omega
theorem sizeV_def {t : Ty} (xs : List t.I) : sizeV (.sl t) xs = xs.length + (xs.map (sizeV t)).sum := by simp only [sizeV]
end Go.Pv
namespace Go.Pv
set_option linter.unusedVariables false
set_option linter.unusedSimpArgs false
/-- Two functions answer alike. -/
def Same {σ : Type} (F G : (σ → Option Ret) → Option Ret) : Prop := ∃ v, (∀ kf, F kf = kf v) ∧ ∀ kf, G kf = kf v
def allI {α : Type} (p : Nat → α → Bool) : List α → Nat → Bool
  | [], _ => true
  | x :: r, i => p i x && allI p r (i + 1)
theorem allI_iff {α : Type} {p : Nat → α → Bool} : ∀ {l : List α} {i : Nat}, allI p l i = true ↔ ∀ (j : Nat) (h : j < l.length), p (i + j) l[j] = true
  | [], i => by simp [allI]
  | x :: r, i => by
    simp only [allI, Bool.and_eq_true, allI_iff (l := r)]
    constructor
    · intro ⟨h1, h2⟩ j hj
      cases j with
      | zero => exact h1
      | succ j => have := h2 j (by simpa using hj); rw [show i + (j + 1) = i + 1 + j by omega]; exact this
    · intro h
      refine ⟨h 0 (by simp), fun j hj => ?_⟩
      have := h (j + 1) (by simpa using hj)
      rw [show i + 1 + j = i + (j + 1) by omega]
      exact this
theorem goL_all {α : Type} {body : Nat → α → Option Ret → Option Ret} {kend kf : Option Ret} {p : Nat → α → Bool} {l : List α} (hb : ∀ (i : Nat) (x : α) (next : Option Ret) (h : i < l.length), l[i] = x → body i x next = bif p i x then next else kf) :
    ∀ (r : List α) (i : Nat), l.drop i = r → goL body kend r i = bif allI p r i then kend else kf
  | [], _, _ => rfl
  | x :: r, i, hd => by
    have hlt : i < l.length := by have := congrArg List.length hd; simp at this; omega
    rw [List.drop_eq_getElem_cons hlt] at hd
    injection hd with h1 h2
    simp only [goL, allI]
    rw [hb i x _ hlt h1, goL_all hb r (i + 1) h2]
    cases p i x <;> simp
/-- A loop that goes on in any case. -/
theorem goL1_next {α σ : Type} {body : Nat → α → σ → (σ → Option Ret) → Option Ret} {kend : σ → Option Ret} {g : Nat → α → σ → σ} {l : List α} (hb : ∀ (i : Nat) (x : α) (s : σ) (next : σ → Option Ret) (h : i < l.length), l[i] = x → body i x s next = next (g i x s)) :
    ∀ (r : List α) (i : Nat) (s : σ), l.drop i = r → goL1 body kend r i s = goL1 (fun i x s next => next (g i x s)) kend r i s
  | [], _, _, _ => rfl
  | x :: r, i, s, hd => by
    have hlt : i < l.length := by have := congrArg List.length hd; simp at this; omega
    rw [List.drop_eq_getElem_cons hlt] at hd
    injection hd with h1 h2
    simp only [goL1]
    rw [hb i x s _ hlt h1, goL1_next hb r (i + 1) _ h2]
def foldI {α σ : Type} (g : Nat → α → σ → σ) : List α → Nat → σ → σ
  | [], _, s => s
  | x :: r, i, s => foldI g r (i + 1) (g i x s)
theorem goL1_foldI {α σ : Type} {g : Nat → α → σ → σ} {kend : σ → Option Ret} : ∀ (r : List α) (i : Nat) (s : σ), goL1 (fun i x s next => next (g i x s)) kend r i s = kend (foldI g r i s)
  | [], _, _ => rfl
  | x :: r, i, s => by simp only [goL1, foldI]; exact goL1_foldI r (i + 1) _
theorem goL1_f {α σ : Type} {body : Nat → α → σ → (σ → Option Ret) → Option Ret} {kend : σ → Option Ret} (g : Nat → α → σ → σ) {l : List α} {s : σ} (hb : ∀ (i : Nat) (x : α) (s : σ) (next : σ → Option Ret) (h : i < l.length), l[i] = x → body i x s next = next (g i x s)) :
    goL1 body kend l 0 s = kend (foldI g l 0 s) := by rw [goL1_next hb l 0 s rfl, goL1_foldI]
/-- The first place with a property. -/
def findI {α : Type} (p : α → Bool) : List α → Nat → Option Nat
  | [], _ => none
  | x :: r, i => bif p x then some i else findI p r (i + 1)
def inR (a b c : Int) : Bool := decide (b ≤ a) && decide (a ≤ c)
end Go.Pv
namespace Go.Pv
set_option linter.unusedVariables false
theorem szr_then {left : Int} {a b : Nat} (h : 0 ≤ left) (hn : ¬ szr left a < 0) : szr (szr left a) b = szr left (a + b) := by
  have := szr_add (a := a) (b := b) h
  rw [if_neg hn] at this
  exact this
theorem szr_lt {left : Int} {a b : Nat} (h : 0 ≤ left) (hn : szr left a < 0) (hab : a ≤ b) : szr left b = -1 := by
  have h1 := (szr_neg (s := a) h).1 hn
  unfold szr
  rw [if_neg (by omega)]
end Go.Pv

namespace Go.Pv
set_option linter.unusedVariables false
set_option linter.unusedSimpArgs false

/-- A list marked, from a number on. -/
def markL {α : Type} (f : α → Int → α × Int) : List α → Int → List α × Int
  | [], k => ([], k)
  | x :: r, k => ((f x k).1 :: (markL f r (f x k).2).1, (markL f r (f x k).2).2)
/-- A value marked: each number in it. -/
def markV : (t : Ty) → t.I → Int → t.I × Int
  | .int kd, _, k => (kd.wrap k, k + 1)
  | .pair a b, x, k => (((markV a x.1 k).1, (markV b x.2 (markV a x.1 k).2).1), (markV b x.2 (markV a x.1 k).2).2)
  | .sl t, xs, k => markL (markV t) xs k
  | .bool, x, k => (x, k)
  | .str, x, k => (x, k)
  | .unit, x, k => (x, k)
  | .ptr _, x, k => (x, k)
  | .arr _ _, x, k => (x, k)
/-- How many numbers are in it. -/
def cntV : (t : Ty) → t.I → Nat
  | .int _, _ => 1
  | .pair a b, x => cntV a x.1 + cntV b x.2
  | .sl t, xs => ((xs : List t.I).map (cntV t)).sum
  | _, _ => 0
/-- The numbers in it, lists aside. -/
def nfV : Ty → Nat
  | .int _ => 1 | .pair a b => nfV a + nfV b | _ => 0
/-- Few in each. -/
def fewV : Ty → Bool
  | .sl t => Nat.ble (nfV t) 8 && fewV t | .pair a b => fewV a && fewV b | _ => true

theorem markV_int {kd : IntKind} {x : Int} {k : Int} : markV (.int kd) x k = (kd.wrap k, k + 1) := rfl
theorem markV_pair {a b : Ty} {x : a.I × b.I} {k : Int} : markV (.pair a b) x k = (((markV a x.1 k).1, (markV b x.2 (markV a x.1 k).2).1), (markV b x.2 (markV a x.1 k).2).2) := rfl
theorem markV_sl {t : Ty} {xs : List t.I} {k : Int} : markV (.sl t) xs k = markL (markV t) xs k := rfl
theorem markL_len {α : Type} (f : α → Int → α × Int) : ∀ (l : List α) (k : Int), (markL f l k).1.length = l.length
  | [], _ => rfl
  | x :: r, k => by simp [markL, markL_len f r]
theorem markV_cnt : ∀ (t : Ty) (x : t.I) (k : Int), (markV t x k).2 = k + cntV t x
  | .int _, _, _ => by simp [markV, cntV]
  | .bool, _, _ => by simp [markV, cntV]
  | .str, _, _ => by simp [markV, cntV]
  | .unit, _, _ => by simp [markV, cntV]
  | .ptr _, _, _ => by simp [markV, cntV]
  | .arr _ _, _, _ => by simp [markV, cntV]
  | .pair a b, x, k => by
    simp only [markV, cntV, markV_cnt a, markV_cnt b]
    omega
  | .sl t, xs, k => by
    have : ∀ (l : List t.I) (k : Int), (markL (markV t) l k).2 = k + ((l.map (cntV t)).sum : Nat) := by
      intro l
      induction l with
      | nil => intro k; simp [markL]
      | cons y r ih =>
        intro k
        simp only [markL, ih, markV_cnt t, List.map_cons, List.sum_cons]
        omega
    simp only [markV, cntV]
    exact this xs k
theorem cntV_le : ∀ (t : Ty) (x : t.I), fewV t = true → cntV t x ≤ nfV t + 8 * sizeV t x
  | .int _, _, _ => by simp [cntV, nfV]
  | .bool, _, _ => by simp [cntV]
  | .str, _, _ => by simp [cntV]
  | .unit, _, _ => by simp [cntV]
  | .ptr _, _, _ => by simp [cntV]
  | .arr _ _, _, _ => by simp [cntV]
  | .pair a b, x, h => by
    simp only [fewV, Bool.and_eq_true] at h
    have h1 := cntV_le a x.1 h.1
    have h2 := cntV_le b x.2 h.2
    simp only [cntV, nfV, sizeV]
    omega
  | .sl t, xs, h => by
    simp only [fewV, Bool.and_eq_true] at h
    have hn := Nat.le_of_ble_eq_true h.1
    have : ∀ (l : List t.I), (l.map (cntV t)).sum ≤ 8 * (l.length + (l.map (sizeV t)).sum) := by
      intro l
      induction l with
      | nil => simp
      | cons y r ih =>
        have := cntV_le t y h.2
        simp only [List.map_cons, List.sum_cons, List.length_cons]
        omega
    simp only [cntV, nfV, sizeV]
    have := this xs
    omega
/-- What is marked at most. -/
theorem mark_le {t : Ty} (h : fewV (.sl t) = true) (xs : List t.I) (k : Int) : k ≤ (markL (markV t) xs k).2 ∧ (markL (markV t) xs k).2 ≤ k + 8 * sizeV (.sl t) xs := by
  have h1 := markV_cnt (.sl t) xs k
  have h2 := cntV_le (.sl t) xs h
  simp only [markV] at h1
  simp only [nfV] at h2
  omega
theorem markV_ge (t : Ty) (x : t.I) (k : Int) : k ≤ (markV t x k).2 := by rw [markV_cnt]; omega
theorem markL_ge {t : Ty} (xs : List t.I) (k : Int) : k ≤ (markL (markV t) xs k).2 := markV_ge (.sl t) xs k
theorem set_set {α : Type} (l : List α) (i : Nat) (a b : α) : (l.set i a).set i b = l.set i b := by simp
theorem getD_set {α : Type} (l : List α) (i : Nat) (h : i < l.length) (a z : α) : (l.set i a).getD i z = a := by
  simp [List.getD_eq_getElem?_getD, List.getElem?_set, h]
theorem set_app {α : Type} (p : List α) (x : α) (r : List α) (y : α) : (p ++ x :: r).set p.length y = (p ++ [y]) ++ r := by simp [List.set_append]

/-- A loop that marks a list. -/
theorem markL_loop {α : Type} {f : α → Int → α × Int} {B : Int} {Q : α → Prop} {L : Nat → List α → Int → Int → Option Ret} {kend : List α → Int → Option Ret} (hf : ∀ y k, k ≤ (f y k).2)
    {m0 : Nat} (hs : ∀ (n : Nat) (xs : List α) (k : Int) (i : Nat) (h : i < xs.length), xs.length = m0 → Q xs[i] → 0 ≤ k → (f xs[i] k).2 ≤ B → L (n + 1) xs k (i : Int) = L n (xs.set i (f xs[i] k).1) (f xs[i] k).2 ((i + 1 : Nat) : Int))
    (he : ∀ (n : Nat) (xs : List α) (k : Int), L (n + 1) xs k (xs.length : Int) = kend xs k) :
    ∀ (rest pre : List α) (n : Nat) (k : Int), (pre ++ rest).length = m0 → (∀ y ∈ rest, Q y) → rest.length < n → 0 ≤ k → (markL f rest k).2 ≤ B → L n (pre ++ rest) k (pre.length : Int) = kend (pre ++ (markL f rest k).1) (markL f rest k).2
  | [], pre, n, k, _, _, hn, _, _ => by
    obtain ⟨m, rfl⟩ : ∃ m, n = m + 1 := ⟨n - 1, by simp at hn; omega⟩
    have := he m (pre ++ []) k
    simpa [markL] using this
  | x :: r, pre, n, k, hm, hQ, hn, h0, hB => by
    obtain ⟨m, rfl⟩ : ∃ m, n = m + 1 := ⟨n - 1, by simp at hn; omega⟩
    have hge : ∀ (l : List α) (k : Int), k ≤ (markL f l k).2 := by
      intro l
      induction l with
      | nil => intro k; simp [markL]
      | cons y s ih => intro k; simp only [markL]; exact Int.le_trans (hf y k) (ih _)
    have hx : (pre ++ x :: r)[pre.length]'(by simp) = x := by simp
    simp only [markL] at hB
    have h1 := hs m (pre ++ x :: r) k pre.length (by simp) hm (by rw [hx]; exact hQ x (by simp)) h0 (by rw [hx]; exact Int.le_trans (hge r _) hB)
    rw [hx, set_app] at h1
    rw [h1]
    have h2 := markL_loop hf hs he r (pre ++ [(f x k).1]) m (f x k).2 (by rw [← hm]; simp) (fun y hy => hQ y (by simp [hy])) (by simp at hn; omega) (Int.le_trans h0 (hf x k)) hB
    simp only [List.length_append, List.length_cons, List.length_nil, Nat.zero_add] at h2
    rw [h2]
    simp [markL]
/-- A loop that asks whether a list is as it was marked. -/
theorem heldL_loop {α : Type} {f : α → Int → α × Int} {B : Int} {Q : α → Prop} {xs' : List α} {L : Nat → Int → Int → Option Ret} {kend : Int → Option Ret} (hf : ∀ y k, k ≤ (f y k).2)
    (hs : ∀ (n : Nat) (k : Int) (i : Nat) (h : i < xs'.length) (y : α), Q y → xs'[i] = (f y k).1 → 0 ≤ k → (f y k).2 ≤ B → L (n + 1) k (i : Int) = L n (f y k).2 ((i + 1 : Nat) : Int))
    (he : ∀ (n : Nat) (k : Int), L (n + 1) k (xs'.length : Int) = kend k) :
    ∀ (rest : List α) (pre : List α) (n : Nat) (k : Int), xs' = pre ++ (markL f rest k).1 → (∀ y ∈ rest, Q y) → rest.length < n → 0 ≤ k → (markL f rest k).2 ≤ B → L n k (pre.length : Int) = kend (markL f rest k).2
  | [], pre, n, k, hx, _, hn, _, _ => by
    obtain ⟨m, rfl⟩ : ∃ m, n = m + 1 := ⟨n - 1, by simp at hn; omega⟩
    have := he m k
    simp only [markL, List.append_nil] at hx
    rw [hx] at this
    simpa [markL] using this
  | x :: r, pre, n, k, hx, hQ, hn, h0, hB => by
    obtain ⟨m, rfl⟩ : ∃ m, n = m + 1 := ⟨n - 1, by simp at hn; omega⟩
    have hge : ∀ (l : List α) (k : Int), k ≤ (markL f l k).2 := by
      intro l
      induction l with
      | nil => intro k; simp [markL]
      | cons y s ih => intro k; simp only [markL]; exact Int.le_trans (hf y k) (ih _)
    simp only [markL] at hB hx ⊢
    have hi : pre.length < xs'.length := by rw [hx]; simp
    have h1 := hs m k pre.length hi x (hQ x (by simp)) (by simp [hx]) h0 (Int.le_trans (hge r _) hB)
    rw [h1]
    have h2 := heldL_loop hf hs he r (pre ++ [(f x k).1]) m (f x k).2 (by rw [hx]; simp) (fun y hy => hQ y (by simp [hy])) (by simp at hn; omega) (Int.le_trans h0 (hf x k)) hB
    simp only [List.length_append, List.length_cons, List.length_nil, Nat.zero_add] at h2
    exact h2
end Go.Pv
namespace Go.Pv
set_option linter.unusedVariables false
set_option linter.unusedSimpArgs false
/-- A struct's lists marked. -/
def markT : (t : Ty) → t.I → Int → t.I × Int
  | .pair a b, x, k => (((markT a x.1 k).1, (markT b x.2 (markT a x.1 k).2).1), (markT b x.2 (markT a x.1 k).2).2)
  | .sl t, xs, k => markL (markV t) xs k
  | .int _, x, k => (x, k)
  | .bool, x, k => (x, k)
  | .str, x, k => (x, k)
  | .unit, x, k => (x, k)
  | .ptr _, x, k => (x, k)
  | .arr _ _, x, k => (x, k)
theorem markT_le : ∀ (t : Ty) (x : t.I) (k : Int), fewV t = true → k ≤ (markT t x k).2 ∧ (markT t x k).2 ≤ k + 8 * sizeV t x
  | .int _, _, _, _ => by simp only [markT]; omega
  | .bool, _, _, _ => by simp only [markT]; omega
  | .str, _, _, _ => by simp only [markT]; omega
  | .unit, _, _, _ => by simp only [markT]; omega
  | .ptr _, _, _, _ => by simp only [markT]; omega
  | .arr _ _, _, _, _ => by simp only [markT]; omega
  | .sl t, xs, k, h => mark_le h xs k
  | .pair a b, x, k, h => by
    simp only [fewV, Bool.and_eq_true] at h
    have h1 := markT_le a x.1 k h.1
    have h2 := markT_le b x.2 (markT a x.1 k).2 h.2
    simp only [markT, sizeV]
    omega
end Go.Pv
